import PyProof.Rows.All
import Wide.All
import OpenK.AllK
import Wide.FinOn
import HandS.ForMost
import HandS.ForExc
import HandS.More
import KE.KExcSuper
import HandS.Exc
import HandS.TryOnly
import HandS.TryMany
import HandS.ExcField
import HandS.ExcIs
import HandS.TupLe
import HandS.Style
import HandS.Wide
import HandS.Gcd
import HandS.IsInst
import HandS.TupAny
import HandS.SortInts
import HandS.CallSlots
import HandS.Flow
import PyProof.ReprRoads
import PyProof.ReprLen
import PySem.Challenge.RW_meanhold_k16_whole_rolled_chains
set_option Elab.async false
set_option linter.all false
set_option maxRecDepth 100000
/-! Den1: data as trees, what they stand for in the abstract heap, what is owned. -/
namespace Dn
open PySem PySem.Spec PyProof.Rows L2

/-- a value as a tree -/
inductive D where
  | non | bl (b : Bool) | int (i : Int) | str (s : Str) | lst (xs : List D) | fr (xs : List D) | tup (xs : List D) | dk (kvs : List (Key × D)) | ob (v : V) | gh (G : Addr → Prop) (H0 : Hp)
/-- a value of a name: frozen, an owned list, a tuple with owned parts, an owned dict, nothing known -/
inductive C where
  | fz (d : D) | ow (cs : List C) | tp (cs : List C) | od (kvs : List (Key × D)) | no | pl (a : Addr) (cs : List C) | wp (c : C) (a : Addr) (cs : List C)

section
variable (K : PySem.W.Frag)
def WrL (a : Addr) (xs : List V) : Prop :=
  ∃ (o : Obj) (its : Array Value) (n : Nat), K.lookup a = some o ∧ o.cls = .type "list" ∧ o.dict = none ∧ o.data = .seq its n ∧ its.size ≤ sizeLine ∧ Vals xs its.toList
def WrT (a : Addr) (xs : List V) : Prop :=
  ∃ (o : Obj) (its : Array Value) (n : Nat), K.lookup a = some o ∧ o.cls = .type "tuple" ∧ o.data = .seq its n ∧ its.size ≤ sizeLine ∧ Vals xs its.toList
variable (F : Addr → Prop) (H : Hp)
def AtL (a : Addr) (vs : List V) : Prop := F a ∧ H a = some (.lst vs)
def AtF (a : Addr) (vs : List V) : Prop := (F a ∧ Rd H a (.lst vs)) ∨ WrL K a vs
def AtT (a : Addr) (vs : List V) : Prop := (F a ∧ Rd H a (.tup vs)) ∨ WrT K a vs
mutual
inductive Rep : V → D → Prop
  | non : Rep .non .non
  | bl (b : Bool) : Rep (.bl b) (.bl b)
  | int (i : Int) : Rep (.int i) (.int i)
  | str (s : Str) : Rep (.str s) (.str s)
  | ob (v : V) : Rep v (.ob v)
  | gh {v : V} {G : Addr → Prop} {H0 : Hp} : (∀ a, G a → F a ∧ H a = H0 a) → Rep v (.gh G H0)
  | lst {a : Addr} {vs : List V} {ds : List D} : AtL F H a vs → Reps vs ds → Rep (.ref a) (.lst ds)
  | fr {a : Addr} {vs : List V} {ds : List D} : AtF K F H a vs → Reps vs ds → Rep (.ref a) (.fr ds)
  | tup {a : Addr} {vs : List V} {ds : List D} : AtT K F H a vs → Reps vs ds → Rep (.ref a) (.tup ds)
  | dk {a : Addr} {kvs : List (Key × V)} {kds : List (Key × D)} : F a → Rd H a (.dK kvs) → RepK kvs kds → Rep (.ref a) (.dk kds)
inductive Reps : List V → List D → Prop
  | nil : Reps [] []
  | cons {v : V} {d : D} {vs : List V} {ds : List D} : Rep v d → Reps vs ds → Reps (v :: vs) (d :: ds)
inductive RepK : List (Key × V) → List (Key × D) → Prop
  | nil : RepK [] []
  | cons {k : Key} {v : V} {d : D} {vs : List (Key × V)} {ds : List (Key × D)} : Rep v d → RepK vs ds → RepK ((k, v) :: vs) ((k, d) :: ds)
end
mutual
inductive RepC : V → C → List Addr → Prop
  | fz {v : V} {d : D} : Rep K F H v d → RepC v (.fz d) []
  | ow {a : Addr} {vs : List V} {cs : List C} {O : List Addr} : H a = some (.lst vs) → RepCs vs cs O → RepC (.ref a) (.ow cs) (a :: O)
  | tp {a : Addr} {vs : List V} {cs : List C} {O : List Addr} : H a = some (.tup vs) → RepCs vs cs O → RepC (.ref a) (.tp cs) (a :: O)
  | od {a : Addr} {kvs : List (Key × V)} {kds : List (Key × D)} : H a = some (.dK kvs) → RepK K F H kvs kds → RepC (.ref a) (.od kds) [a]
  | pl {a : Addr} {vs : List V} {cs : List C} {O : List Addr} : H a = some (.lst vs) → RepCs vs cs O → RepC (.ref a) (.pl a cs) (a :: O)
  | wp {v : V} {c : C} {a : Addr} {vs : List V} {cs : List C} {O O' : List Addr} : RepC v c O → H a = some (.lst vs) → RepCs vs cs O' → RepC v (.wp c a cs) (O ++ (a :: O'))
inductive RepCs : List V → List C → List Addr → Prop
  | nil : RepCs [] [] []
  | cons {v : V} {c : C} {vs : List V} {cs : List C} {O O' : List Addr} : RepC v c O → RepCs vs cs O' → RepCs (v :: vs) (c :: cs) (O ++ O')
end
/-- slots and what is in hand -/
abbrev Pr := Option V × C
inductive RepP : List Pr → List Addr → Prop
  | nil : RepP [] []
  | no {x : Option V} {ps : List Pr} {O : List Addr} : RepP ps O → RepP ((x, .no) :: ps) O
  | cons {v : V} {c : C} {ps : List Pr} {O O' : List Addr} : RepC K F H v c O → RepP ps O' → RepP ((some v, c) :: ps) (O ++ O')
def All (ps : List Pr) : Prop := ∃ O, RepP K F H ps O ∧ O.Nodup ∧ (∀ a ∈ O, ¬ F a) ∧ ∀ a, F a → H a ≠ none
end

/-! a cell's tree -/
mutual
def fzD : C → D
  | .fz d => d
  | .ow cs => .lst (fzDs cs)
  | .tp cs => .tup (fzDs cs)
  | .od kvs => .dk kvs
  | .no => .non
  | .pl _ cs => .lst (fzDs cs)
  | .wp c _ _ => fzD c
def fzDs : List C → List D
  | [] => []
  | c :: cs => fzD c :: fzDs cs
end
theorem fzDs_map : ∀ cs : List C, fzDs cs = cs.map fzD
  | [] => by simp [fzDs]
  | c :: cs => by simp [fzDs, fzDs_map cs]
@[simp] theorem fzD_fz (d : D) : fzD (.fz d) = d := by simp [fzD]
@[simp] theorem fzD_ow (cs : List C) : fzD (.ow cs) = .lst (cs.map fzD) := by simp [fzD, fzDs_map]
@[simp] theorem fzD_tp (cs : List C) : fzD (.tp cs) = .tup (cs.map fzD) := by simp [fzD, fzDs_map]
@[simp] theorem fzD_pl (a : Addr) (cs : List C) : fzD (.pl a cs) = .lst (cs.map fzD) := by simp [fzD, fzDs_map]
@[simp] theorem fzD_wp (c : C) (a : Addr) (cs : List C) : fzD (.wp c a cs) = fzD c := by simp [fzD]
@[simp] theorem fzD_od (kvs : List (Key × D)) : fzD (.od kvs) = .dk kvs := by simp [fzD]

section
variable {K : PySem.W.Frag} {F F' : Addr → Prop} {H H' : Hp}
theorem AtL.seq {a : Addr} {vs : List V} (h : AtL F H a vs) : SqL K H a vs := .inl (.inl h.2)
theorem AtF.seq {a : Addr} {vs : List V} (h : AtF K F H a vs) : SqL K H a vs := h.elim (fun x => .inl x.2) .inr
theorem AtT.seq {a : Addr} {vs : List V} (h : AtT K F H a vs) : SqT K H a vs := h.elim (fun x => .inl x.2) .inr
theorem Rd.same {a : Addr} {u : HO} (e : H' a = H a) (h : Rd H a u) : Rd H' a u := by
  rcases h with h | ⟨o, h⟩
  · exact .inl (e.trans h)
  · exact .inr ⟨o, e.trans h⟩
section
variable (hF : ∀ a, F a → F' a) (hH : ∀ a, F a → H' a = H a)
include hF hH
theorem AtL.mono {a : Addr} {vs : List V} (h : AtL F H a vs) : AtL F' H' a vs := ⟨hF a h.1, (hH a h.1).trans h.2⟩
theorem AtF.mono {a : Addr} {vs : List V} (h : AtF K F H a vs) : AtF K F' H' a vs := by
  rcases h with ⟨f, h⟩ | h
  · exact .inl ⟨hF a f, Rd.same (hH a f) h⟩
  · exact .inr h
theorem AtT.mono {a : Addr} {vs : List V} (h : AtT K F H a vs) : AtT K F' H' a vs := by
  rcases h with ⟨f, h⟩ | h
  · exact .inl ⟨hF a f, Rd.same (hH a f) h⟩
  · exact .inr h
mutual
theorem Rep.mono : ∀ {v : V} {d : D}, Rep K F H v d → Rep K F' H' v d
  | _, _, .non => .non
  | _, _, .bl b => .bl b
  | _, _, .int b => .int b
  | _, _, .str b => .str b
  | _, _, .ob b => .ob b
  | _, _, .gh h => .gh fun a g => ⟨hF a (h a g).1, (hH a (h a g).1).trans (h a g).2⟩
  | _, _, .lst h r => .lst (AtL.mono hF hH h) (Reps.mono r)
  | _, _, .fr h r => .fr (AtF.mono hF hH h) (Reps.mono r)
  | _, _, .tup h r => .tup (AtT.mono hF hH h) (Reps.mono r)
  | _, _, .dk f h r => .dk (hF _ f) (Rd.same (hH _ f) h) (RepK.mono r)
theorem Reps.mono : ∀ {vs : List V} {ds : List D}, Reps K F H vs ds → Reps K F' H' vs ds
  | _, _, .nil => .nil
  | _, _, .cons r rs => .cons (Rep.mono r) (Reps.mono rs)
theorem RepK.mono : ∀ {vs : List (Key × V)} {ds : List (Key × D)}, RepK K F H vs ds → RepK K F' H' vs ds
  | _, _, .nil => .nil
  | _, _, .cons r rs => .cons (Rep.mono r) (RepK.mono rs)
end
mutual
theorem RepC.mono : ∀ {v : V} {c : C} {O : List Addr}, RepC K F H v c O → (∀ a ∈ O, H' a = H a) → RepC K F' H' v c O
  | _, _, _, .fz r, _ => .fz (Rep.mono hF hH r)
  | _, _, _, .ow e r, h => .ow ((h _ List.mem_cons_self).trans e) (RepCs.mono r fun a m => h a (List.mem_cons_of_mem _ m))
  | _, _, _, .tp e r, h => .tp ((h _ List.mem_cons_self).trans e) (RepCs.mono r fun a m => h a (List.mem_cons_of_mem _ m))
  | _, _, _, .od e r, h => .od ((h _ List.mem_cons_self).trans e) (RepK.mono hF hH r)
  | _, _, _, .pl e r, h => .pl ((h _ List.mem_cons_self).trans e) (RepCs.mono r fun a m => h a (List.mem_cons_of_mem _ m))
  | _, _, _, .wp q e r, h => .wp (RepC.mono q fun a m => h a (List.mem_append_left _ m)) ((h _ (List.mem_append_right _ List.mem_cons_self)).trans e) (RepCs.mono r fun a m => h a (List.mem_append_right _ (List.mem_cons_of_mem _ m)))
theorem RepCs.mono : ∀ {v : List V} {c : List C} {O : List Addr}, RepCs K F H v c O → (∀ a ∈ O, H' a = H a) → RepCs K F' H' v c O
  | _, _, _, .nil, _ => .nil
  | _, _, _, .cons r rs, h => .cons (RepC.mono r fun a m => h a (List.mem_append_left _ m)) (RepCs.mono rs fun a m => h a (List.mem_append_right _ m))
end
theorem RepP.mono : ∀ {ps : List Pr} {O : List Addr}, RepP K F H ps O → (∀ a ∈ O, H' a = H a) → RepP K F' H' ps O
  | _, _, .nil, _ => .nil
  | _, _, .no r, h => .no (RepP.mono r h)
  | _, _, .cons r rs, h => .cons (RepC.mono hF hH r fun a m => h a (List.mem_append_left _ m)) (RepP.mono rs fun a m => h a (List.mem_append_right _ m))
end
mutual
theorem RepC.dom : ∀ {v : V} {c : C} {O : List Addr}, RepC K F H v c O → ∀ a ∈ O, H a ≠ none
  | _, _, _, .fz _, _, m => nomatch m
  | _, _, _, .ow e r, a, m => by
    rcases List.mem_cons.mp m with rfl | m
    · rw [e]; simp
    · exact RepCs.dom r a m
  | _, _, _, .tp e r, a, m => by
    rcases List.mem_cons.mp m with rfl | m
    · rw [e]; simp
    · exact RepCs.dom r a m
  | _, _, _, .od e r, a, m => by
    rcases List.mem_cons.mp m with rfl | m
    · rw [e]; simp
    · exact nomatch m
  | _, _, _, .pl e r, a, m => by
    rcases List.mem_cons.mp m with rfl | m
    · rw [e]; simp
    · exact RepCs.dom r a m
  | _, _, _, .wp q e r, a, m => by
    rcases List.mem_append.mp m with m | m
    · exact RepC.dom q a m
    · rcases List.mem_cons.mp m with rfl | m
      · rw [e]; simp
      · exact RepCs.dom r a m
theorem RepCs.dom : ∀ {v : List V} {c : List C} {O : List Addr}, RepCs K F H v c O → ∀ a ∈ O, H a ≠ none
  | _, _, _, .nil, _, m => nomatch m
  | _, _, _, .cons r rs, a, m => (List.mem_append.mp m).elim (RepC.dom r a) (RepCs.dom rs a)
end
theorem RepP.dom : ∀ {ps : List Pr} {O : List Addr}, RepP K F H ps O → ∀ a ∈ O, H a ≠ none
  | _, _, .nil, _, m => nomatch m
  | _, _, .no r, a, m => RepP.dom r a m
  | _, _, .cons r rs, a, m => (List.mem_append.mp m).elim (RepC.dom r a) (RepP.dom rs a)

/-! freezing -/
mutual
theorem RepC.froz : ∀ {v : V} {c : C} {O : List Addr}, RepC K F H v c O → (∀ a, F a → F' a) → (∀ a ∈ O, F' a) → Rep K F' H v (fzD c)
  | _, _, _, .fz r, hF, _ => by rw [fzD]; exact Rep.mono hF (fun _ _ => rfl) r
  | _, _, _, .ow e r, hF, h => by rw [fzD]; exact .lst ⟨h _ List.mem_cons_self, e⟩ (RepCs.froz r hF fun a m => h a (List.mem_cons_of_mem _ m))
  | _, _, _, .tp e r, hF, h => by rw [fzD]; exact .tup (.inl ⟨h _ List.mem_cons_self, .inl e⟩) (RepCs.froz r hF fun a m => h a (List.mem_cons_of_mem _ m))
  | _, _, _, .od e r, hF, h => by rw [fzD]; exact .dk (h _ List.mem_cons_self) (.inl e) (RepK.mono hF (fun _ _ => rfl) r)
  | _, _, _, .pl e r, hF, h => by rw [fzD]; exact .lst ⟨h _ List.mem_cons_self, e⟩ (RepCs.froz r hF fun a m => h a (List.mem_cons_of_mem _ m))
  | _, _, _, .wp q e r, hF, h => by rw [fzD]; exact RepC.froz q hF fun a m => h a (List.mem_append_left _ m)
theorem RepCs.froz : ∀ {v : List V} {c : List C} {O : List Addr}, RepCs K F H v c O → (∀ a, F a → F' a) → (∀ a ∈ O, F' a) → Reps K F' H v (fzDs c)
  | _, _, _, .nil, _, _ => by rw [fzDs]; exact .nil
  | _, _, _, .cons r rs, hF, h => by rw [fzDs]; exact .cons (RepC.froz r hF fun a m => h a (List.mem_append_left _ m)) (RepCs.froz rs hF fun a m => h a (List.mem_append_right _ m))
end

/-! what is in hand, in any order -/
theorem RepP.perm {ps qs : List Pr} (p : ps.Perm qs) : ∀ {O : List Addr}, RepP K F H ps O → ∃ O', RepP K F H qs O' ∧ O.Perm O' := by
  induction p with
  | nil => intro O r; exact ⟨O, r, .refl _⟩
  | cons x _ ih =>
    intro O r
    cases r with
    | no r => obtain ⟨O', r', q⟩ := ih r; exact ⟨O', .no r', q⟩
    | cons c r => obtain ⟨O', r', q⟩ := ih r; exact ⟨_, .cons c r', q.append_left _⟩
  | swap x y l =>
    intro O r
    cases r with
    | no r =>
      cases r with
      | no r => exact ⟨_, .no (.no r), .refl _⟩
      | cons c r => exact ⟨_, .cons c (.no r), .refl _⟩
    | cons c r =>
      cases r with
      | no r => exact ⟨_, .no (.cons c r), .refl _⟩
      | cons c' r => exact ⟨_, .cons c' (.cons c r), List.perm_append_comm_assoc _ _ _⟩
  | trans _ _ ih1 ih2 =>
    intro O r
    obtain ⟨O1, r1, q1⟩ := ih1 r
    obtain ⟨O2, r2, q2⟩ := ih2 r1
    exact ⟨O2, r2, q1.trans q2⟩
theorem All.perm {ps qs : List Pr} (h : All K F H ps) (p : ps.Perm qs) : All K F H qs := by
  obtain ⟨O, r, nd, nf, dm⟩ := h
  obtain ⟨O', r', q⟩ := RepP.perm p r
  exact ⟨O', r', q.nodup_iff.mp nd, fun a m => nf a (q.mem_iff.mpr m), dm⟩
theorem All.drop {p : Pr} {ps : List Pr} (h : All K F H (p :: ps)) : All K F H ps := by
  obtain ⟨O, r, nd, nf, dm⟩ := h
  cases r with
  | no r => exact ⟨_, r, nd, nf, dm⟩
  | cons c r => exact ⟨_, r, (List.nodup_append.mp nd).2.1, fun a m => nf a (List.mem_append_right _ m), dm⟩
theorem All.dropL : ∀ {qs ps : List Pr}, All K F H (qs ++ ps) → All K F H ps
  | [], _, h => h
  | _ :: qs, _, h => All.dropL (qs := qs) h.drop
/-- a slot whose value is given up -/
theorem All.forget {p : Pr} {ps : List Pr} {x : Option V} (h : All K F H (p :: ps)) : All K F H ((x, .no) :: ps) := by
  obtain ⟨O, r, a⟩ := h.drop
  exact ⟨O, .no r, a⟩
theorem All.nothing {x : Option V} {ps : List Pr} (h : All K F H ps) : All K F H ((x, .no) :: ps) := by
  obtain ⟨O, r, a⟩ := h
  exact ⟨O, .no r, a⟩
/-- a frozen value may be had twice -/
theorem All.dup {v : V} {d : D} {ps : List Pr} (h : All K F H ((some v, .fz d) :: ps)) : All K F H ((some v, .fz d) :: (some v, .fz d) :: ps) := by
  obtain ⟨O, r, nd, nf, dm⟩ := h
  cases r with
  | cons c r =>
    cases c with
    | fz c => exact ⟨_, .cons (.fz c) (.cons (.fz c) r), nd, nf, dm⟩
theorem All.fzOf {v : V} {d : D} {ps : List Pr} (h : All K F H ((some v, .fz d) :: ps)) : Rep K F H v d := by
  obtain ⟨O, r, nd, nf, dm⟩ := h
  cases r with
  | cons c r =>
    cases c with
    | fz c => exact c
theorem All.push {v : V} {d : D} {ps : List Pr} (h : All K F H ps) (r : Rep K F H v d) : All K F H ((some v, .fz d) :: ps) := by
  obtain ⟨O, q, a⟩ := h
  exact ⟨_, .cons (.fz r) q, a⟩
/-- to freeze a value -/
theorem All.freeze {v : V} {c : C} {ps : List Pr} (hc : c ≠ .no) (h : All K F H ((some v, c) :: ps)) : ∃ F', (∀ a, F a → F' a) ∧ All K F' H ((some v, .fz (fzD c)) :: ps) := by
  obtain ⟨O, r, nd, nf, dm⟩ := h
  cases r with
  | no r => exact absurd rfl hc
  | @cons _ _ _ O1 O2 c r =>
    obtain ⟨n1, n2, n3⟩ := List.nodup_append.mp nd
    refine ⟨fun a => F a ∨ a ∈ O1, fun a f => .inl f, O2, ?_, n2, fun a m q => ?_, fun a q => ?_⟩
    · exact .cons (.fz (RepC.froz c (fun a f => .inl f) fun a m => .inr m)) (RepP.mono (fun a f => .inl f) (fun _ _ => rfl) r fun _ _ => rfl)
    · rcases q with q | q
      · exact nf a (List.mem_append_right _ m) q
      · exact n3 a q a m rfl
    · rcases q with q | q
      · exact dm a q
      · exact RepC.dom c a q
/-- the heap may grow or change where nothing is told -/
theorem All.heap {ps : List Pr} (h : All K F H ps) (e : ∀ a, H a ≠ none → H' a = H a) : All K F H' ps := by
  obtain ⟨O, r, nd, nf, dm⟩ := h
  exact ⟨O, RepP.mono (fun a f => f) (fun a f => e a (dm a f)) r fun a m => e a (RepP.dom r a m), nd, nf, fun a f => by rw [e a (dm a f)]; exact dm a f⟩
theorem All.upd {ps : List Pr} {p : Addr} {o : HO} (h : All K F H ps) (n : H p = none) : All K F (upd H p o) ps :=
  h.heap fun a z => upd_ne fun e => z (e ▸ n)

/-- several in hand -/
def tmps (vs : List V) (cs : List C) : List Pr := (vs.map some).zip cs
theorem RepP.split : ∀ {qs ps : List Pr} {O : List Addr}, RepP K F H (qs ++ ps) O → ∃ O1 O2, RepP K F H qs O1 ∧ RepP K F H ps O2 ∧ O = O1 ++ O2
  | [], _, O, r => ⟨[], O, .nil, r, rfl⟩
  | _ :: qs, _, _, .no r => by
    obtain ⟨O1, O2, r1, r2, e⟩ := RepP.split (qs := qs) r
    exact ⟨O1, O2, .no r1, r2, e⟩
  | _ :: qs, _, _, .cons c r => by
    obtain ⟨O1, O2, r1, r2, e⟩ := RepP.split (qs := qs) r
    exact ⟨_, O2, .cons c r1, r2, by rw [e, List.append_assoc]⟩
theorem RepP.toCs : ∀ {vs : List V} {cs : List C} {O : List Addr}, vs.length = cs.length → (∀ c ∈ cs, c ≠ .no) → RepP K F H (tmps vs cs) O → RepCs K F H vs cs O
  | [], [], _, _, _, .nil => .nil
  | _ :: vs, _ :: cs, _, e, hn, .cons c r => .cons c (RepP.toCs (Nat.succ.inj e) (fun c m => hn c (List.mem_cons_of_mem _ m)) r)
  | _ :: vs, _ :: cs, _, e, hn, .no r => absurd rfl (hn _ List.mem_cons_self)
/-- a new object of what is in hand -/
theorem All.mk {vs : List V} {cs : List C} {ps : List Pr} {p : Addr} {o : HO} {c : C} (h : All K F H (tmps vs cs ++ ps)) (e : vs.length = cs.length) (hn : ∀ c ∈ cs, c ≠ .no) (n : H p = none)
    (hc : ∀ O, RepCs K F (L2.upd H p o) vs cs O → RepC K F (L2.upd H p o) (.ref p) c (p :: O)) : All K F (L2.upd H p o) ((some (.ref p), c) :: ps) := by
  obtain ⟨O, r, nd, nf, dm⟩ := h
  have hp : p ∉ O := fun m => RepP.dom r p m n
  have ne : ∀ a, F a → a ≠ p := fun a f z => dm a f (z ▸ n)
  have ne2 : ∀ a, a ∈ O → a ≠ p := fun a m z => hp (z ▸ m)
  have r2 : RepP K F (L2.upd H p o) (tmps vs cs ++ ps) O := RepP.mono (fun a f => f) (fun a f => L2.upd_ne (ne a f)) r fun a m => L2.upd_ne (ne2 a m)
  obtain ⟨O1, O2, r1, r3, rfl⟩ := r2.split
  refine ⟨(p :: O1) ++ O2, .cons (hc O1 (RepP.toCs e hn r1)) r3, List.nodup_cons.mpr ⟨hp, nd⟩, fun a m f => ?_, fun a f => ?_⟩
  · rcases List.mem_cons.mp m with rfl | m
    · exact dm a f n
    · exact nf a m f
  · rw [L2.upd_ne (ne a f)]
    exact dm a f
theorem All.mkL {vs : List V} {cs : List C} {ps : List Pr} {p : Addr} (h : All K F H (tmps vs cs ++ ps)) (e : vs.length = cs.length) (hn : ∀ c ∈ cs, c ≠ .no) (n : H p = none) : All K F (L2.upd H p (.lst vs)) ((some (.ref p), .ow cs) :: ps) :=
  h.mk e hn n fun _ r => .ow upd_same r
theorem All.mkT {vs : List V} {cs : List C} {ps : List Pr} {p : Addr} (h : All K F H (tmps vs cs ++ ps)) (e : vs.length = cs.length) (hn : ∀ c ∈ cs, c ≠ .no) (n : H p = none) : All K F (L2.upd H p (.tup vs)) ((some (.ref p), .tp cs) :: ps) :=
  h.mk e hn n fun _ r => .tp upd_same r
/-- an owned list is written -/
theorem All.write {a : Addr} {cs : List C} {qs ps : List Pr} {vs' : List V} {cs' : List C} (h : All K F H ((some (.ref a), .ow cs) :: (qs ++ ps)))
    (hw : ∀ vs O O1 , H a = some (.lst vs) → RepCs K F H vs cs O → RepP K F H qs O1 → ∃ O2, RepCs K F H vs' cs' O2 ∧ O2.Sublist (O ++ O1)) : All K F (L2.upd H a (.lst vs')) ((some (.ref a), .ow cs') :: ps) := by
  obtain ⟨O, r, nd, nf, dm⟩ := h
  cases r with
  | @cons _ _ _ _ O' c r =>
    cases c with
    | @ow _ vs _ Oc e rc =>
      obtain ⟨O1, O2, r1, r2, rfl⟩ := r.split
      obtain ⟨Ow, rw', sub⟩ := hw vs Oc O1 e rc r1
      have na : ∀ b, b ∈ Oc ++ (O1 ++ O2) → b ≠ a := fun b m z => (List.nodup_cons.mp nd).1 (z ▸ m)
      have hne : ∀ b, F b → b ≠ a := fun b f z => nf a List.mem_cons_self (z ▸ f)
      have sub2 : (Ow ++ O2).Sublist (Oc ++ (O1 ++ O2)) := by
        rw [← List.append_assoc]
        exact sub.append (List.Sublist.refl _)
      have w2 : RepCs K F (L2.upd H a (.lst vs')) vs' cs' Ow := RepCs.mono (fun _ f => f) (fun b f => upd_ne (hne b f)) rw' fun b m => upd_ne (na b (sub2.subset (List.mem_append_left _ m)))
      have r2' : RepP K F (L2.upd H a (.lst vs')) ps O2 := RepP.mono (fun _ f => f) (fun b f => upd_ne (hne b f)) r2 fun b m => upd_ne (na b (sub2.subset (List.mem_append_right _ m)))
      refine ⟨(a :: Ow) ++ O2, .cons (.ow upd_same w2) r2', ?_, fun b m f => ?_, fun b f => ?_⟩
      · exact (List.Sublist.cons₂ a sub2).nodup nd
      · exact nf b ((List.Sublist.cons₂ a sub2).subset m) f
      · rw [upd_ne (hne b f)]
        exact dm b f
end
end Dn

/-! Den2: what an expression is worth as a function of the names' trees; the judgements over it. -/
namespace Dn
open PySem PySem.Spec PyProof.Rows L2

abbrev Rho := List C
/-- the class that the top knows by this name -/
def clsOf (K : PySem.W.Frag) (n : Str) : Value := match PySem.W.nsIn K mainGlobals n with
  | some (some v) => v
  | _ => .none
/-- an error: its class, its one field -/
structure Er where
  cls : Str
  fld : Option (Str × D) := none
inductive R (α : Type) where
  | st | er (e : Er) (ρ : Rho) | ok (a : α) (ρ : Rho)
abbrev M (α : Type) := Rho → R α
def R.bind {α β : Type} (r : R α) (k : α → M β) : R β :=
  match r with
  | .st => .st
  | .er e ρ => .er e ρ
  | .ok a ρ => k a ρ
def M.bind {α β : Type} (m : M α) (k : α → M β) : M β := fun ρ => (m ρ).bind k
@[simp] theorem R.bind_ok {α β : Type} (a : α) (ρ : Rho) (k : α → M β) : (R.ok a ρ).bind k = k a ρ := rfl
@[simp] theorem R.bind_st {α β : Type} (k : α → M β) : (R.st : R α).bind k = .st := rfl
@[simp] theorem R.bind_er {α β : Type} (e : Er) (ρ : Rho) (k : α → M β) : (R.er e ρ : R α).bind k = .er e ρ := rfl
theorem M.bind_def {α β : Type} (m : M α) (k : α → M β) (ρ : Rho) : M.bind m k ρ = (m ρ).bind k := rfl
def Good {α : Type} (r : R α) (ok : α → Rho → Prop) (er : Er → Rho → Prop) : Prop :=
  match r with
  | .st => False
  | .er e ρ => er e ρ
  | .ok a ρ => ok a ρ
theorem Good.bind {α β : Type} {r : R α} {k : α → M β} {ok : β → Rho → Prop} {er : Er → Rho → Prop} : Good (r.bind k) ok er ↔ Good r (fun a ρ => Good (k a ρ) ok er) er := by
  cases r <;> exact Iff.rfl
theorem Good.imp {α : Type} {r : R α} {ok ok' : α → Rho → Prop} {er er' : Er → Rho → Prop} (h : Good r ok er) (h1 : ∀ a ρ, ok a ρ → ok' a ρ) (h2 : ∀ e ρ, er e ρ → er' e ρ) : Good r ok' er' := by
  cases r with
  | st => exact h
  | er e ρ => exact h2 e ρ h
  | ok a ρ => exact h1 a ρ h

section
variable (K : PySem.W.Frag)
/-- the names' values and what is in hand -/
def Sta (F : Addr → Prop) (H : Hp) (σ : L2.St) (ρ : Rho) (τ : List Pr) : Prop := σ.length = ρ.length ∧ All K F H (σ.zip ρ ++ τ)
/-- an error's exception -/
def ErOk (F : Addr → Prop) (H : Hp) (e : Er) (cls : Value) (d : Option Addr) : Prop :=
  cls = clsOf K e.cls ∧ match e.fld with
    | none => d = none
    | some (f, x) => ∃ dx v, d = some dx ∧ F dx ∧ H dx = some (.xd [(f, v)]) ∧ Rep K F H v x
def okP (σ : L2.St) (τ : List Pr) (Q : VK) : C → Rho → Prop := fun c ρ => ∀ v F H, c ≠ .no → Sta K F H σ ρ ((some v, c) :: τ) → Q v H
def okB (σ : L2.St) (τ : List Pr) (Q : Bool → Hp → Prop) : Bool → Rho → Prop := fun b ρ => ∀ F H, Sta K F H σ ρ τ → Q b H
def okA (σ : L2.St) (τ : List Pr) (Q : List V → Hp → Prop) : List C → Rho → Prop := fun cs ρ => ∀ vs F H, vs.length = cs.length → (∀ c ∈ cs, c ≠ .no) → Sta K F H σ ρ (tmps vs cs ++ τ) → Q vs H
def erP (W : WX) (σ : L2.St) (τ : List Pr) : Er → Rho → Prop := fun e ρ => ∀ F H cls d, ErOk K F H e cls d → Sta K F H σ ρ τ → W cls d σ H
def tOf (W : WX) (m : M C) : TE := fun σ H Q => ∃ F ρ τ, Sta K F H σ ρ τ ∧ Good (m ρ) (okP K σ τ Q) (erP K W σ τ)
def bOf (W : WX) (m : M Bool) : TT := fun σ H Q => ∃ F ρ τ, Sta K F H σ ρ τ ∧ Good (m ρ) (okB K σ τ Q) (erP K W σ τ)
def aOf (W : WX) (m : M (List C)) : TA := fun σ H Q => ∃ F ρ τ, Sta K F H σ ρ τ ∧ Good (m ρ) (okA K σ τ Q) (erP K W σ τ)
end

section
variable {K : PySem.W.Frag} {F F' : Addr → Prop} {H H' : Hp} {σ : L2.St} {ρ : Rho} {τ : List Pr}
theorem Sta.all (h : Sta K F H σ ρ τ) : All K F H (τ ++ σ.zip ρ) := h.2.perm List.perm_append_comm
theorem Sta.of (e : σ.length = ρ.length) (h : All K F H (τ ++ σ.zip ρ)) : Sta K F H σ ρ τ := ⟨e, h.perm List.perm_append_comm⟩
theorem Sta.on {τ' : List Pr} (h : Sta K F H σ ρ τ) (f : ∀ l, All K F H (τ ++ l) → All K F' H' (τ' ++ l)) : Sta K F' H' σ ρ τ' := .of h.1 (f _ h.all)
theorem Sta.drop {p : Pr} (h : Sta K F H σ ρ (p :: τ)) : Sta K F H σ ρ τ := h.on fun _ a => a.drop
theorem Sta.dropL {q : List Pr} (h : Sta K F H σ ρ (q ++ τ)) : Sta K F H σ ρ τ := h.on fun l a => by
  rw [List.append_assoc] at a
  exact a.dropL
theorem Sta.perm {τ' : List Pr} (h : Sta K F H σ ρ τ) (p : τ.Perm τ') : Sta K F H σ ρ τ' := h.on fun _ a => a.perm (p.append_right _)
theorem Sta.heap (h : Sta K F H σ ρ τ) (e : ∀ a, H a ≠ none → H' a = H a) : Sta K F H' σ ρ τ := h.on fun _ a => a.heap e
theorem Sta.upd {p : Addr} {o : HO} (h : Sta K F H σ ρ τ) (n : H p = none) : Sta K F (upd H p o) σ ρ τ := h.on fun _ a => All.upd a n
theorem Sta.fzOf {v : V} {d : D} (h : Sta K F H σ ρ ((some v, .fz d) :: τ)) : Rep K F H v d := All.fzOf (ps := τ ++ σ.zip ρ) h.all
theorem Sta.push {v : V} {d : D} (h : Sta K F H σ ρ τ) (r : Rep K F H v d) : Sta K F H σ ρ ((some v, .fz d) :: τ) := h.on fun _ a => a.push r
theorem Sta.freeze {v : V} {c : C} (h : Sta K F H σ ρ ((some v, c) :: τ)) (hc : c ≠ .no) : ∃ F', Sta K F' H σ ρ ((some v, .fz (fzD c)) :: τ) := by
  obtain ⟨F', _, a⟩ := All.freeze (ps := τ ++ σ.zip ρ) hc h.all
  exact ⟨F', .of h.1 a⟩
theorem Sta.swap {p q : Pr} (h : Sta K F H σ ρ (p :: q :: τ)) : Sta K F H σ ρ (q :: p :: τ) := h.perm (.swap _ _ _)
theorem Sta.dom (h : Sta K F H σ ρ τ) : ∀ a, F a → H a ≠ none := let ⟨_, _, _, _, d⟩ := h.2; d

theorem erP.drop {W : WX} {p : Pr} {e : Er} {ρ : Rho} (h : erP K W σ τ e ρ) : erP K W σ (p :: τ) e ρ := fun F H cls d x s => h F H cls d x s.drop
theorem erP.dropL {W : WX} {q : List Pr} {e : Er} {ρ : Rho} (h : erP K W σ τ e ρ) : erP K W σ (q ++ τ) e ρ := fun F H cls d x s => h F H cls d x s.dropL
end

/-! trees out of cells -/
def asD (m : M C) : M D := fun ρ => (m ρ).bind fun c ρ => .ok (fzD c) ρ
@[simp] theorem asD_def (m : M C) (ρ : Rho) : asD m ρ = (m ρ).bind fun c ρ => .ok (fzD c) ρ := rfl
def ret (d : D) : M C := fun ρ => .ok (.fz d) ρ
def retC (c : C) : M C := fun ρ => .ok c ρ
def stuck {α : Type} : M α := fun _ => .st
def opt {α β : Type} (o : Option α) (k : α → M β) : M β := match o with
  | some a => k a
  | none => stuck
@[simp] theorem opt_some {α β : Type} (a : α) (k : α → M β) : opt (some a) k = k a := rfl
@[simp] theorem opt_none {α β : Type} (k : α → M β) : opt (none : Option α) k = stuck := rfl
@[simp] theorem stuck_ap {α : Type} (ρ : Rho) : (stuck : M α) ρ = .st := rfl
@[simp] theorem ret_ap (d : D) (ρ : Rho) : ret d ρ = .ok (.fz d) ρ := rfl
@[simp] theorem retC_ap (c : C) (ρ : Rho) : retC c ρ = .ok c ρ := rfl

section
variable {X : Cx} {W : WX}
theorem _root_.L2.PE.imp {e : Expr} {t u : TE} (h : PE X e t) (f : ∀ σ H Q, u σ H Q → t σ H Q) : PE X e u := ⟨fun pins s σ H Q I hw => h.run pins s σ H Q I (f σ H Q hw)⟩
theorem _root_.L2.PT.imp {e : Expr} {t u : TT} (h : PT X e t) (f : ∀ σ H Q, u σ H Q → t σ H Q) : PT X e u := ⟨fun pins s σ H Q I hw => h.run pins s σ H Q I (f σ H Q hw)⟩
theorem _root_.L2.PW.imp {e : Expr} {t u : TT} (h : PW X e t) (f : ∀ σ H Q, u σ H Q → t σ H Q) : PW X e u := ⟨fun wh pins s σ H Q I hw => h.run wh pins s σ H Q I (f σ H Q hw)⟩
theorem _root_.L2.PA.imp {e : List Expr} {t u : TA} (h : PA X e t) (f : ∀ σ H Q, u σ H Q → t σ H Q) : PA X e u := ⟨fun pos pins s σ H Q I hw => h.run pos pins s σ H Q I (f σ H Q hw)⟩
theorem _root_.L2.PS.imp {e : Stmt} {t u : TS} (h : PS X e t) (f : ∀ D σ H, u D σ H → t D σ H) : PS X e u := ⟨fun pins s σ H D I hw => h.run pins s σ H D I (f D σ H hw)⟩
theorem _root_.L2.PSs.imp {e : List Stmt} {t u : TS} (h : PSs X e t) (f : ∀ D σ H, u D σ H → t D σ H) : PSs X e u := ⟨fun pins s σ H D I hw => h.run pins s σ H D I (f D σ H hw)⟩
end

/-! ### sequencing at the level of readings -/
section
variable {K : PySem.W.Frag} {W : WX} {σ : L2.St} {H : Hp} {F : Addr → Prop} {ρ : Rho} {τ : List Pr}
/-- a value in hand, frozen -/
theorem run1 {m : M C} {P : V → Hp → Prop} (s : Sta K F H σ ρ τ)
    (h : Good (m ρ) (fun c ρ1 => ∀ v F1 H1, Sta K F1 H1 σ ρ1 ((some v, .fz (fzD c)) :: τ) → P v H1) (erP K W σ τ)) : tOf K W m σ H P :=
  ⟨F, ρ, τ, s, h.imp (fun c ρ1 q v F1 H1 nc s1 => let ⟨F2, s2⟩ := s1.freeze nc; q v F2 H1 s2) fun _ _ q => q⟩
theorem runC {m : M C} {P : V → Hp → Prop} (s : Sta K F H σ ρ τ) (h : Good (m ρ) (okP K σ τ P) (erP K W σ τ)) : tOf K W m σ H P := ⟨F, ρ, τ, s, h⟩
theorem runB {m : M Bool} {P : Bool → Hp → Prop} (s : Sta K F H σ ρ τ) (h : Good (m ρ) (okB K σ τ P) (erP K W σ τ)) : bOf K W m σ H P := ⟨F, ρ, τ, s, h⟩
theorem runA {m : M (List C)} {P : List V → Hp → Prop} (s : Sta K F H σ ρ τ) (h : Good (m ρ) (okA K σ τ P) (erP K W σ τ)) : aOf K W m σ H P := ⟨F, ρ, τ, s, h⟩
end

/-! ### scalars -/
def scal : D → Option V
  | .non => some .non
  | .bl b => some (.bl b)
  | .int i => some (.int i)
  | .str s => some (.str s)
  | .ob v => some v
  | _ => none
theorem Rep.scal {K : PySem.W.Frag} {F : Addr → Prop} {H : Hp} {z : D} {v : V} (h : scal z = some v) : Rep K F H v z := by
  cases z <;> simp only [Dn.scal, Option.some.injEq, reduceCtorEq] at h <;> subst h
  · exact .non
  · exact .bl _
  · exact .int _
  · exact .str _
  · exact .ob _
theorem Rep.intv {K : PySem.W.Frag} {F : Addr → Prop} {H : Hp} {v : V} {i : Int} (r : Rep K F H v (.int i)) : v = .int i := by cases r; rfl
theorem Rep.blv {K : PySem.W.Frag} {F : Addr → Prop} {H : Hp} {v : V} {i : Bool} (r : Rep K F H v (.bl i)) : v = .bl i := by cases r; rfl
theorem Rep.strv {K : PySem.W.Frag} {F : Addr → Prop} {H : Hp} {v : V} {i : Str} (r : Rep K F H v (.str i)) : v = .str i := by cases r; rfl
theorem Rep.nonv {K : PySem.W.Frag} {F : Addr → Prop} {H : Hp} {v : V} (r : Rep K F H v .non) : v = .non := by cases r; rfl
theorem Rep.obv {K : PySem.W.Frag} {F : Addr → Prop} {H : Hp} {v w : V} (r : Rep K F H v (.ob w)) : v = w := by cases r; rfl
theorem Rep.lstv {K : PySem.W.Frag} {F : Addr → Prop} {H : Hp} {v : V} {ds : List D} (r : Rep K F H v (.lst ds)) : ∃ a vs, v = .ref a ∧ AtL F H a vs ∧ Reps K F H vs ds := by
  cases r with
  | lst h r => exact ⟨_, _, rfl, h, r⟩
theorem Rep.frv {K : PySem.W.Frag} {F : Addr → Prop} {H : Hp} {v : V} {ds : List D} (r : Rep K F H v (.fr ds)) : ∃ a vs, v = .ref a ∧ AtF K F H a vs ∧ Reps K F H vs ds := by
  cases r with
  | fr h r => exact ⟨_, _, rfl, h, r⟩
theorem Rep.tupv {K : PySem.W.Frag} {F : Addr → Prop} {H : Hp} {v : V} {ds : List D} (r : Rep K F H v (.tup ds)) : ∃ a vs, v = .ref a ∧ AtT K F H a vs ∧ Reps K F H vs ds := by
  cases r with
  | tup h r => exact ⟨_, _, rfl, h, r⟩
theorem Reps.len {K : PySem.W.Frag} {F : Addr → Prop} {H : Hp} : ∀ {vs : List V} {ds : List D}, Reps K F H vs ds → vs.length = ds.length
  | _, _, .nil => rfl
  | _, _, .cons _ r => congrArg Nat.succ r.len
theorem Reps.get {K : PySem.W.Frag} {F : Addr → Prop} {H : Hp} : ∀ {vs : List V} {ds : List D} {i : Nat} {d : D}, Reps K F H vs ds → ds[i]? = some d → ∃ v, vs[i]? = some v ∧ Rep K F H v d
  | _, _, _, _, .nil, h => by simp at h
  | _, _, 0, _, .cons r _, h => by simp at h; subst h; exact ⟨_, rfl, r⟩
  | _, _, i + 1, _, .cons _ r, h => by
    obtain ⟨v, e, q⟩ := r.get (i := i) (by simpa using h)
    exact ⟨v, by simpa using e, q⟩
theorem Reps.get' {K : PySem.W.Frag} {F : Addr → Prop} {H : Hp} : ∀ {vs : List V} {ds : List D} {i : Nat} {v : V}, Reps K F H vs ds → vs[i]? = some v → ∃ d, ds[i]? = some d ∧ Rep K F H v d
  | _, _, _, _, .nil, h => by simp at h
  | _, _, 0, _, .cons r _, h => by simp at h; subst h; exact ⟨_, rfl, r⟩
  | _, _, i + 1, _, .cons _ r, h => by
    obtain ⟨v, e, q⟩ := r.get' (i := i) (by simpa using h)
    exact ⟨v, by simpa using e, q⟩
theorem Reps.append {K : PySem.W.Frag} {F : Addr → Prop} {H : Hp} : ∀ {vs ws : List V} {ds es : List D}, Reps K F H vs ds → Reps K F H ws es → Reps K F H (vs ++ ws) (ds ++ es)
  | _, _, _, _, .nil, s => s
  | _, _, _, _, .cons r t, s => .cons r (t.append s)
theorem Reps.take {K : PySem.W.Frag} {F : Addr → Prop} {H : Hp} : ∀ {vs : List V} {ds : List D} (n : Nat), Reps K F H vs ds → Reps K F H (vs.take n) (ds.take n)
  | _, _, 0, _ => .nil
  | _, _, _ + 1, .nil => .nil
  | _, _, n + 1, .cons r t => .cons r (t.take n)
theorem Reps.drop {K : PySem.W.Frag} {F : Addr → Prop} {H : Hp} : ∀ {vs : List V} {ds : List D} (n : Nat), Reps K F H vs ds → Reps K F H (vs.drop n) (ds.drop n)
  | _, _, 0, r => r
  | _, _, _ + 1, .nil => .nil
  | _, _, n + 1, .cons _ t => t.drop n
/-- frozen items as cells -/
theorem Reps.cells {K : PySem.W.Frag} {F : Addr → Prop} {H : Hp} : ∀ {vs : List V} {ds : List D}, Reps K F H vs ds → RepCs K F H vs (ds.map C.fz) []
  | _, _, .nil => .nil
  | _, _, .cons r t => by
    have := RepCs.cons (RepC.fz r) t.cells
    simpa using this
end Dn

/-! Den3: expressions. -/
namespace Dn
open PySem PySem.Spec PyProof.Rows L2

/-! ### slots -/
theorem zip_set : ∀ (σ : L2.St) (ρ : Rho) (i : Nat) (x : Option V) (c : C), (σ.zip ρ).set i (x, c) = (σ.set i x).zip (ρ.set i c)
  | [], _, _, _, _ => by simp
  | _ :: _, [], _, _, _ => by simp
  | _ :: σ, _ :: ρ, 0, _, _ => by simp
  | _ :: σ, _ :: ρ, i + 1, x, c => by simp [zip_set σ ρ i x c]
theorem zip_at {σ : L2.St} {ρ : Rho} {i : Nat} {x : Option V} {c : C} (h1 : σ[i]? = some x) (h2 : ρ[i]? = some c) : (σ.zip ρ)[i]? = some (x, c) := by
  rw [List.getElem?_zip_eq_some]
  exact ⟨h1, h2⟩
theorem perm_at {α : Type} {l : List α} {i : Nat} {a : α} (h : l[i]? = some a) (b : α) : ∃ r, l.Perm (a :: r) ∧ (l.set i b).Perm (b :: r) := by
  obtain ⟨hi, e⟩ := List.getElem?_eq_some_iff.mp h
  refine ⟨l.take i ++ l.drop (i + 1), ?_, ?_⟩
  · have e1 : l = l.take i ++ a :: l.drop (i + 1) := by
      rw [← e]
      simp
    refine (List.Perm.of_eq e1).trans List.perm_middle
  · rw [List.set_eq_take_append_cons_drop, if_pos hi]
    exact List.perm_middle
section
variable {K : PySem.W.Frag} {F : Addr → Prop} {H : Hp} {σ : L2.St} {ρ : Rho} {τ : List Pr} {i : Nat} {c : C}
theorem All.some_of {x : Option V} {ps : List Pr} (h : All K F H ((x, c) :: ps)) (hc : c ≠ .no) : ∃ v, x = some v := by
  obtain ⟨O, r, _⟩ := h
  cases r with
  | no _ => exact absurd rfl hc
  | cons _ _ => exact ⟨_, rfl⟩
theorem Sta.get (h : Sta K F H σ ρ τ) (e : ρ[i]? = some c) (hc : c ≠ .no) : ∃ v, σ[i]? = some (some v) ∧ Sta K F H σ (ρ.set i .no) ((some v, c) :: τ) := by
  obtain ⟨hi, _⟩ := List.getElem?_eq_some_iff.mp e
  have hi' : i < σ.length := by rw [h.1]; exact hi
  have ex : σ[i]? = some σ[i] := List.getElem?_eq_getElem hi'
  obtain ⟨r, p1, p2⟩ := perm_at (zip_at ex e) (σ[i], C.no)
  have a1 : All K F H ((σ[i], c) :: (r ++ τ)) := h.2.perm (p1.append_right τ)
  obtain ⟨v, ev⟩ := a1.some_of hc
  refine ⟨v, by rw [ex, ev], by rw [List.length_set]; exact h.1, ?_⟩
  have e2 : σ.zip (ρ.set i .no) = (σ.zip ρ).set i (σ[i], C.no) := by
    rw [zip_set, List.set_getElem_self]
  rw [e2]
  rw [ev] at a1
  have a2 : All K F H ((σ[i], C.no) :: (some v, c) :: (r ++ τ)) := a1.nothing
  refine a2.perm ?_
  refine (List.Perm.trans ?_ (List.perm_middle (l₁ := (σ.zip ρ).set i (σ[i], C.no))).symm)
  refine (List.Perm.swap _ _ _).trans (.cons _ ?_)
  exact (p2.append_right τ).symm
theorem Sta.put {v : V} (h : Sta K F H σ ρ ((some v, c) :: τ)) (hi : i < σ.length) : Sta K F H (σ.set i (some v)) (ρ.set i c) τ := by
  refine ⟨by rw [List.length_set, List.length_set]; exact h.1, ?_⟩
  rw [← zip_set]
  have hz : (σ.zip ρ)[i]? = some (σ[i], ρ[i]'(by rw [← h.1]; exact hi)) := zip_at (List.getElem?_eq_getElem hi) (List.getElem?_eq_getElem _)
  obtain ⟨r, p1, p2⟩ := perm_at hz (some v, c)
  have a := h.all
  have a1 : All K F H (((σ[i], ρ[i]'(by rw [← h.1]; exact hi)) : Pr) :: (some v, c) :: (r ++ τ)) := a.perm (by
    refine (List.Perm.cons _ (List.perm_append_comm.trans (p1.append_right τ))).trans ?_
    exact .swap _ _ _)
  exact a1.drop.perm (p2.append_right τ).symm
/-- put where the very value stands -/
theorem Sta.back {v : V} (h : Sta K F H σ ρ ((some v, c) :: τ)) (e : σ[i]? = some (some v)) : Sta K F H σ (ρ.set i c) τ := by
  obtain ⟨hi, e'⟩ := List.getElem?_eq_some_iff.mp e
  have := h.put hi
  rw [← e', List.set_getElem_self] at this
  exact this
theorem Sta.setNo (h : Sta K F H σ ρ τ) (i : Nat) : Sta K F H σ (ρ.set i .no) τ := by
  by_cases hi : i < ρ.length
  · have e : ρ[i]? = some ρ[i] := List.getElem?_eq_getElem hi
    by_cases hc : ρ[i] = .no
    · rw [← hc, List.set_getElem_self]; exact h
    · obtain ⟨v, _, s⟩ := h.get e hc
      exact s.drop
  · rw [List.set_eq_of_length_le (by omega)]; exact h
theorem Sta.setX (h : Sta K F H σ ρ τ) (i : Nat) (x : Option V) : Sta K F H (σ.set i x) (ρ.set i .no) τ := by
  refine ⟨by rw [List.length_set, List.length_set]; exact h.1, ?_⟩
  rw [← zip_set]
  by_cases hi : i < σ.length
  · have hz : (σ.zip ρ)[i]? = some (σ[i], ρ[i]'(by rw [← h.1]; exact hi)) := zip_at (List.getElem?_eq_getElem hi) (List.getElem?_eq_getElem _)
    obtain ⟨r, p1, p2⟩ := perm_at hz (x, C.no)
    have a1 := h.2.perm (p1.append_right τ)
    have a2 : All K F H ((x, C.no) :: (r ++ τ)) := a1.drop.nothing
    exact a2.perm (p2.append_right τ).symm
  · rw [List.set_eq_of_length_le (by simp; omega)]; exact h.2
end

/-! ### names, constants -/
def eVar (i : Nat) : M C := fun ρ => match ρ[i]? with
  | some (.fz d) => .ok (.fz d) ρ
  | some (.ow cs) => .ok (.fz (fzD (.ow cs))) (ρ.set i (.fz (fzD (.ow cs))))
  | some (.tp cs) => .ok (.fz (fzD (.tp cs))) (ρ.set i (.fz (fzD (.tp cs))))
  | some (.od cs) => .ok (.fz (fzD (.od cs))) (ρ.set i (.fz (fzD (.od cs))))
  | _ => .st
def eMv (i : Nat) : M C := fun ρ => match ρ[i]? with
  | none => .st
  | some .no => .st
  | some c => .ok c (ρ.set i .no)
def eFz (m : M C) : M C := fun ρ => (m ρ).bind fun c ρ => .ok (.fz (fzD c)) ρ

section
variable {X : Cx} {W : WX} {pos : Pos} {e a b : Expr} {es : List Expr}
theorem var_ok {i : Nat} {σ : L2.St} {H : Hp} {Q : VK} (h : tOf X.K W (eVar i) σ H Q) : tVar i σ H Q := by
  obtain ⟨F, ρ, τ, s, g⟩ := h
  unfold eVar at g
  have own : ∀ c, ρ[i]? = some c → c ≠ .no → okP X.K σ τ Q (.fz (fzD c)) (ρ.set i (.fz (fzD c))) → tVar i σ H Q := fun c ec hc q => by
    obtain ⟨v, ev, s1⟩ := s.get ec hc
    obtain ⟨F2, s2⟩ := s1.freeze hc
    refine ⟨v, ev, q v F2 H (by simp) ?_⟩
    have s3 : Sta X.K F2 H σ (ρ.set i .no) ((some v, .fz (fzD c)) :: (some v, .fz (fzD c)) :: τ) := s2.on fun _ al => al.dup
    have s4 := s3.back ev
    rw [List.set_set] at s4
    exact s4
  split at g
  · rename_i d ed
    obtain ⟨v, ev, s1⟩ := s.get ed (by simp)
    have s3 : Sta X.K F H σ (ρ.set i .no) ((some v, .fz d) :: (some v, .fz d) :: τ) := s1.on fun _ al => al.dup
    have s4 := s3.back ev
    rw [List.set_set] at s4
    refine ⟨v, ev, g v F H (by simp) ?_⟩
    have e0 : ρ.set i (.fz d) = ρ := by
      obtain ⟨hi, e'⟩ := List.getElem?_eq_some_iff.mp ed
      rw [← e', List.set_getElem_self]
    rw [e0] at s4
    exact s4
  · rename_i d ed; exact own _ ed (by simp) g
  · rename_i d ed; exact own _ ed (by simp) g
  · rename_i d ed; exact own _ ed (by simp) g
  · exact g.elim
theorem mv_ok {i : Nat} {σ : L2.St} {H : Hp} {Q : VK} (h : tOf X.K W (eMv i) σ H Q) : tVar i σ H Q := by
  obtain ⟨F, ρ, τ, s, g⟩ := h
  unfold eMv at g
  split at g
  · exact g.elim
  · exact g.elim
  · rename_i c hc ec
    obtain ⟨v, ev, s1⟩ := s.get ec (by intro z; exact hc z)
    exact ⟨v, ev, g v F H (by intro z; exact hc z) s1⟩
theorem d_var (i : Nat) {x : Str} (hN : X.N[i]? = some x := by rfl) (hv : Vis X.env.scope x := by first | exact Or.inl rfl | exact Or.inr (Or.inl rfl) | exact Or.inr (Or.inr rfl)) (hd : (x == ("__debug__" : Str)) = false := by decide)
    (hcd : (x == ("__classdict__" : Str)) = false := by decide) : PE X (.Name x pos) (tOf X.K W (eVar i)) := (pe_var hN hv hd hcd).imp fun _ _ _ h => var_ok h
theorem d_mv (i : Nat) {x : Str} (hN : X.N[i]? = some x := by rfl) (hv : Vis X.env.scope x := by first | exact Or.inl rfl | exact Or.inr (Or.inl rfl) | exact Or.inr (Or.inr rfl)) (hd : (x == ("__debug__" : Str)) = false := by decide)
    (hcd : (x == ("__classdict__" : Str)) = false := by decide) : PE X (.Name x pos) (tOf X.K W (eMv i)) := (pe_var hN hv hd hcd).imp fun _ _ _ h => mv_ok h
theorem d_fz {m : M C} (h : PE X e (tOf X.K W m)) : PE X e (tOf X.K W (eFz m)) := h.imp fun σ H Q ⟨F, ρ, τ, s, g⟩ => by
  refine run1 s ?_
  unfold eFz at g
  rw [Good.bind] at g
  exact g.imp (fun c ρ1 q v F1 H1 s1 => q v F1 H1 (by simp) s1) fun _ _ q => q
theorem con_ok {v : V} {d : D} {σ : L2.St} {H : Hp} {Q : VK} (hr : ∀ F, Rep X.K F H v d) (h : tOf X.K W (ret d) σ H Q) : tC v σ H Q := by
  obtain ⟨F, ρ, τ, s, g⟩ := h
  exact g v F H (by simp) (s.push (hr F))
theorem d_int {i : Int} {j} : PE X (.Constant (.int i) j pos) (tOf X.K W (ret (.int i))) := pe_int.imp fun _ _ _ h => con_ok (fun _ => .int i) h
theorem d_bl {i : Bool} {j} : PE X (.Constant (.bool i) j pos) (tOf X.K W (ret (.bl i))) := pe_bl.imp fun _ _ _ h => con_ok (fun _ => .bl i) h
theorem d_str {i : Str} {j} : PE X (.Constant (.str i) j pos) (tOf X.K W (ret (.str i))) := pe_str.imp fun _ _ _ h => con_ok (fun _ => .str i) h
theorem d_non {j} : PE X (.Constant .none j pos) (tOf X.K W (ret .non)) := pe_non.imp fun _ _ _ h => con_ok (fun _ => .non) h
/-- a name of the module: d is what it stands for in any heap -/
theorem d_glob {x : Str} {v : V} {u : Value} {d : D} (hg : Gl X x) (hm : X.mg x = some u) (r : RelV v u) (hr : ∀ F H, Rep X.K F H v d) (hd : (x == ("__debug__" : Str)) = false := by decide) : PE X (.Name x pos) (tOf X.K W (ret d)) :=
  (pe_glob hg hm r hd).imp fun _ H _ h => con_ok (fun F => hr F H) h

/-! ### argument lists, displays -/
def aNil : M (List C) := fun ρ => .ok [] ρ
def aCons (m : M C) (r : M (List C)) : M (List C) := fun ρ => (m ρ).bind fun c ρ => (r ρ).bind fun cs ρ => .ok (c :: cs) ρ
theorem d_nil : PA X [] (aOf X.K W aNil) := pa_nil.imp fun σ H Q ⟨F, ρ, τ, s, g⟩ => g [] F H rfl (fun _ z => nomatch z) s
theorem d_cons {m : M C} {r : M (List C)} (h1 : PE X e (tOf X.K W m)) (h2 : PA X es (aOf X.K W r)) (hs : starEach (e :: es) X.env = (false, eval e X.env) :: starEach es X.env := by rfl) : PA X (e :: es) (aOf X.K W (aCons m r)) :=
  (pa_cons h1 h2 hs).imp fun σ H Q ⟨F, ρ, τ, s, g⟩ => by
    unfold aCons at g
    rw [Good.bind] at g
    refine runC s (g.imp (fun c ρ1 q v F1 H1 nc s1 => ?_) fun _ _ q => q)
    rw [Good.bind] at q
    refine runA s1 (q.imp (fun cs ρ2 q2 vs F2 H2 hl hn s2 => ?_) fun _ _ q => q.drop)
    refine q2 (v :: vs) F2 H2 (by simp [hl]) (fun c' hc' => ?_) (s2.perm ?_)
    · rcases List.mem_cons.mp hc' with rfl | z
      · exact nc
      · exact hn c' z
    · show (tmps vs cs ++ (some v, c) :: τ).Perm ((some v, c) :: tmps vs cs ++ τ)
      exact List.perm_middle
def small (n : Nat) : Bool := decide (n ≤ 1000000)
theorem small_le {n : Nat} (h : small n = true) : n ≤ 1000000 := of_decide_eq_true h
theorem small_line {n : Nat} (h : small n = true) : n ≤ sizeLine := by
  have := small_le h
  rw [sizeLine_eq]; omega
def eTupC (a : M (List C)) : M C := fun ρ => (a ρ).bind fun cs ρ => if small cs.length then .ok (.tp cs) ρ else .st
def eTup (a : M (List C)) : M C := eFz (eTupC a)
def eLst (a : M (List C)) : M C := fun ρ => (a ρ).bind fun cs ρ => if small cs.length then .ok (.ow cs) ρ else .st
theorem d_tupC {x1} {m : M (List C)} (h : PA X es (aOf X.K W m)) : PE X (.Tuple es x1 pos) (tOf X.K W (eTupC m)) := (pe_tup h).imp fun σ H Q ⟨F, ρ, τ, s, g⟩ => by
  unfold eTupC at g
  rw [Good.bind] at g
  refine runA s (g.imp (fun cs ρ1 q vs F1 H1 hl hn s1 => ?_) fun _ _ q => q)
  split at q
  · rename_i hs
    refine ⟨by rw [hl]; exact small_line hs, fun p np => q (.ref p) F1 _ (by simp) (s1.on fun l al => ?_)⟩
    rw [List.append_assoc] at al
    exact al.mkT hl hn np
  · exact q.elim
theorem d_tup {x1} {m : M (List C)} (h : PA X es (aOf X.K W m)) : PE X (.Tuple es x1 pos) (tOf X.K W (eTup m)) := d_fz (d_tupC h)
theorem d_lst {m : M (List C)} (h : PA X es (aOf X.K W m)) : PE X (.List es pos) (tOf X.K W (eLst m)) := (pe_lst h).imp fun σ H Q ⟨F, ρ, τ, s, g⟩ => by
  unfold eLst at g
  rw [Good.bind] at g
  refine runA s (g.imp (fun cs ρ1 q vs F1 H1 hl hn s1 => ?_) fun _ _ q => q)
  split at q
  · rename_i hs
    refine ⟨by rw [hl]; exact small_line hs, fun p np => q (.ref p) F1 _ (by simp) (s1.on fun l al => ?_)⟩
    rw [List.append_assoc] at al
    exact al.mkL hl hn np
  · exact q.elim

/-! ### two trees and a rule -/
def eOp (f : D → D → Option D) (a b : M C) : M C := fun ρ => (a ρ).bind fun c ρ => (b ρ).bind fun d ρ => match f (fzD c) (fzD d) with
  | some z => .ok (.fz z) ρ
  | none => .st
def OpOk (K : PySem.W.Frag) (r : R2) (f : D → D → Option D) : Prop := ∀ x y z F H vx vy Q, f x y = some z → Rep K F H vx x → Rep K F H vy y → (∀ v, Rep K F H v z → Q v H) → r vx vy H Q
/-- two values, frozen -/
theorem run2 {K : PySem.W.Frag} {σ : L2.St} {H : Hp} {F : Addr → Prop} {ρ : Rho} {τ : List Pr} {ma mb : M C} {γ : Type} {k : C → C → M γ} {P : V → V → Hp → Prop} {ok : γ → Rho → Prop} (s : Sta K F H σ ρ τ)
    (g : Good ((ma ρ).bind fun c ρ => (mb ρ).bind fun d ρ => k c d ρ) ok (erP K W σ τ))
    (h : ∀ c d ρ2 F2 H2 v w, Sta K F2 H2 σ ρ2 ((some w, .fz (fzD d)) :: (some v, .fz (fzD c)) :: τ) → Good (k c d ρ2) ok (erP K W σ τ) → P v w H2) :
    tOf K W ma σ H fun v H1 => tOf K W mb σ H1 fun w H2 => P v w H2 := by
  rw [Good.bind] at g
  refine run1 s (g.imp (fun c ρ1 q v F1 H1 s1 => ?_) fun _ _ q => q)
  rw [Good.bind] at q
  exact run1 s1 (q.imp (fun d ρ2 q2 w F2 H2 s2 => h c d ρ2 F2 H2 v w s2 q2) fun _ _ q => q.drop)
theorem op_ok {f : D → D → Option D} {r : R2} {ma mb : M C} (hf : OpOk X.K r f) {σ : L2.St} {H : Hp} {Q : VK} (h : tOf X.K W (eOp f ma mb) σ H Q) : tOp r (tOf X.K W ma) (tOf X.K W mb) σ H Q := by
  obtain ⟨F, ρ, τ, s, g⟩ := h
  refine run2 s g fun c d ρ2 F2 H2 v w s2 q => ?_
  split at q
  · rename_i z hz
    exact hf _ _ z F2 H2 v w Q hz s2.drop.fzOf s2.fzOf fun u ru => q u F2 H2 (by simp) (s2.drop.drop.push ru)
  · exact q.elim
theorem d_op {op : Operator} {r : R2} {f : D → D → Option D} {ma mb : M C} (ho : OpR X (binaryOp op) r) (hf : OpOk X.K r f) (ha : PE X a (tOf X.K W ma)) (hb : PE X b (tOf X.K W mb)) : PE X (.BinOp a op b pos) (tOf X.K W (eOp f ma mb)) :=
  (pe_op ho ha hb).imp fun _ _ _ h => op_ok hf h
theorem d_cmp {op : CmpOp} {r : R2} {f : D → D → Option D} {ma mb : M C} (ho : OpR X (compareOp op) r) (hf : OpOk X.K r f) (ha : PE X a (tOf X.K W ma)) (hb : PE X b (tOf X.K W mb)) (hm : behindInMarks op b = false := by first | exact nomark _ | rfl) : PE X (.Compare a [op] [b] pos) (tOf X.K W (eOp f ma mb)) :=
  (pe_cmpR ho ha hb hm).imp fun _ _ _ h => op_ok hf h
def asB (m : M C) : M Bool := fun ρ => (m ρ).bind fun c ρ => match fzD c with
  | .bl b => .ok b ρ
  | _ => .st
theorem asB_ok {m : M C} {σ : L2.St} {H : Hp} {Q : Bool → Hp → Prop} (h : bOf X.K W (asB m) σ H Q) : tOf X.K W m σ H fun x H1 => ∃ c, x = .bl c ∧ Q c H1 := by
  obtain ⟨F, ρ, τ, s, g⟩ := h
  unfold asB at g
  rw [Good.bind] at g
  refine run1 s (g.imp (fun c ρ1 q v F1 H1 s1 => ?_) fun _ _ q => q)
  split at q
  · rename_i b hb
    rw [hb] at s1
    exact ⟨b, s1.fzOf.blv, q F1 H1 s1.drop⟩
  · exact q.elim
theorem dt_cmp {op : CmpOp} {r : R2} {f : D → D → Option D} {ma mb : M C} (ho : OpR X (compareOp op) r) (hf : OpOk X.K r f) (ha : PE X a (tOf X.K W ma)) (hb : PE X b (tOf X.K W mb)) (hm : behindInMarks op b = false := by first | exact nomark _ | rfl) : PT X (.Compare a [op] [b] pos) (bOf X.K W (asB (eOp f ma mb))) :=
  (pt_cmpR ho ha hb hm).imp fun σ H Q h => by
    have h2 := asB_ok h
    exact op_ok hf h2

/-! ### one tree and a rule -/
def eUn (f : D → Option D) (a : M C) : M C := fun ρ => (a ρ).bind fun c ρ => match f (fzD c) with
  | some z => .ok (.fz z) ρ
  | none => .st
theorem un_ok {f : D → Option D} {r : V → Hp → VK → Prop} {ma : M C} (hf : ∀ x z F H vx Q, f x = some z → Rep X.K F H vx x → (∀ v, Rep X.K F H v z → Q v H) → r vx H Q) {σ : L2.St} {H : Hp} {Q : VK} (h : tOf X.K W (eUn f ma) σ H Q) : tUn r (tOf X.K W ma) σ H Q := by
  obtain ⟨F, ρ, τ, s, g⟩ := h
  unfold eUn at g
  rw [Good.bind] at g
  refine run1 s (g.imp (fun c ρ1 q v F1 H1 s1 => ?_) fun _ _ q => q)
  split at q
  · rename_i z hz
    exact hf _ z F1 H1 v Q hz s1.fzOf fun u ru => q u F1 H1 (by simp) (s1.drop.push ru)
  · exact q.elim
def negD : D → Option D
  | .int i => some (.int (-i))
  | _ => none
theorem d_neg {ma : M C} (ha : PE X a (tOf X.K W ma)) : PE X (.UnaryOp .USub a pos) (tOf X.K W (eUn negD ma)) := (pe_un un_neg ha).imp fun _ _ _ h => un_ok (fun x z F H vx Q e r q => by
  cases x <;> simp only [negD, reduceCtorEq, Option.some.injEq] at e
  subst e
  exact ⟨_, r.intv, q _ (.int _)⟩) h

/-! ### tests -/
def bTru (f : D → Option Bool) (m : M C) : M Bool := fun ρ => (m ρ).bind fun c ρ => match f (fzD c) with
  | some b => .ok b ρ
  | none => .st
def truD : D → Option Bool
  | .non => some false
  | .bl b => some b
  | .int i => some (i != 0)
  | .lst ds => some (!ds.isEmpty)
  | .tup ds => some (!ds.isEmpty)
  | _ => none
theorem Reps.isEmpty {K : PySem.W.Frag} {F : Addr → Prop} {H : Hp} {vs : List V} {ds : List D} (r : Reps K F H vs ds) : vs.isEmpty = ds.isEmpty := by
  cases r <;> rfl
theorem Rep.tru {K : PySem.W.Frag} {F : Addr → Prop} {H : Hp} {v : V} {d : D} {k : Bool} (r : Rep K F H v d) (h : truD d = some k) : TruV K v H k := by
  cases d <;> simp only [truD, reduceCtorEq, Option.some.injEq] at h
  · rw [r.nonv]; exact h.symm
  · rw [r.blv]; exact h.symm
  · rw [r.intv]; exact h.symm
  · obtain ⟨a, vs, rfl, hl, rs⟩ := r.lstv
    exact .inl ⟨vs, hl.seq, by rw [rs.isEmpty]; exact h.symm⟩
  · obtain ⟨a, vs, rfl, hl, rs⟩ := r.tupv
    exact .inr (.inl ⟨vs, hl.seq, by rw [rs.isEmpty]; exact h.symm⟩)
theorem dt_tru {m : M C} (ha : PE X a (tOf X.K W m)) (he : ∀ whole, isTrue a X.env whole = (do let v ← whole; standAt a.pos; holding [v] (truthy v)) := by intro _; rfl) : PT X a (bOf X.K W (bTru truD m)) :=
  (pt_truth ha he).imp fun σ H Q ⟨F, ρ, τ, s, g⟩ => by
    unfold bTru at g
    rw [Good.bind] at g
    refine run1 s (g.imp (fun c ρ1 q v F1 H1 s1 => ?_) fun _ _ q => q)
    split at q
    · rename_i k hk
      exact ⟨k, s1.fzOf.tru hk, q F1 H1 s1.drop⟩
    · exact q.elim
/-- a name's truth, its value left as it is -/
def bVar (i : Nat) : M Bool := fun ρ => match ρ[i]? with
  | some (.ow cs) => .ok (!cs.isEmpty) ρ
  | some (.fz d) => match truD d with
    | some b => .ok b ρ
    | none => .st
  | _ => .st
theorem RepCs.len {K : PySem.W.Frag} {F : Addr → Prop} {H : Hp} : ∀ {vs : List V} {cs : List C} {O : List Addr}, RepCs K F H vs cs O → vs.length = cs.length
  | _, _, _, .nil => rfl
  | _, _, _, .cons _ r => congrArg Nat.succ r.len
theorem Sta.owOf {K : PySem.W.Frag} {F : Addr → Prop} {H : Hp} {σ : L2.St} {ρ : Rho} {τ : List Pr} {v : V} {cs : List C} (s : Sta K F H σ ρ ((some v, .ow cs) :: τ)) : ∃ a vs O, v = .ref a ∧ H a = some (.lst vs) ∧ RepCs K F H vs cs O := by
  obtain ⟨O, r, _⟩ := s.all
  cases r with
  | cons c _ =>
    cases c with
    | ow e rc => exact ⟨_, _, _, rfl, e, rc⟩
theorem bvar_ok {i : Nat} {σ : L2.St} {H : Hp} {Q : Bool → Hp → Prop} (h : bOf X.K W (bVar i) σ H Q) : tVar i σ H fun x H' => ∃ k, TruV X.K x H' k ∧ Q k H' := by
  obtain ⟨F, ρ, τ, s, g⟩ := h
  unfold bVar at g
  split at g
  · rename_i cs ec
    obtain ⟨v, ev, s1⟩ := s.get ec (by simp)
    obtain ⟨a, vs, O, rfl, ea, rc⟩ := s1.owOf
    refine ⟨.ref a, ev, !cs.isEmpty, .inl ⟨vs, .of ea, ?_⟩, g F H s⟩
    have := rc.len
    cases vs <;> cases cs <;> simp at this ⊢
  · rename_i d ed
    split at g
    · rename_i b hb
      obtain ⟨v, ev, s1⟩ := s.get ed (by simp)
      exact ⟨v, ev, b, s1.fzOf.tru hb, g F H s⟩
    · exact g.elim
  · exact g.elim
theorem dt_var (i : Nat) {x : Str} (hN : X.N[i]? = some x := by rfl) (hv : Vis X.env.scope x := by first | exact Or.inl rfl | exact Or.inr (Or.inl rfl) | exact Or.inr (Or.inr rfl)) (hd : (x == ("__debug__" : Str)) = false := by decide)
    (hcd : (x == ("__classdict__" : Str)) = false := by decide) : PT X (.Name x pos) (bOf X.K W (bVar i)) :=
  (pt_truth (pe_var hN hv hd hcd) (fun _ => rfl)).imp fun _ _ _ h => bvar_ok h
def bNot (m : M Bool) : M Bool := fun ρ => (m ρ).bind fun b ρ => .ok (!b) ρ
def bAnd (m n : M Bool) : M Bool := fun ρ => (m ρ).bind fun b ρ => if b = true then n ρ else .ok false ρ
def bOr (m n : M Bool) : M Bool := fun ρ => (m ρ).bind fun b ρ => if b = true then .ok true ρ else n ρ
theorem dt_not {m : M Bool} (h : PT X a (bOf X.K W m)) : PT X (.UnaryOp .Not a pos) (bOf X.K W (bNot m)) := (pt_not h).imp fun σ H Q ⟨F, ρ, τ, s, g⟩ => by
  unfold bNot at g
  rw [Good.bind] at g
  exact runB s (g.imp (fun b ρ1 q F1 H1 s1 => q F1 H1 s1) fun _ _ q => q)
variable {rest : List Expr} {m n : M Bool}
theorem dw_and1 (h : PT X a (bOf X.K W m)) : PW X (.BoolOp .And [a] pos) (bOf X.K W m) := pw_and1 h
theorem dw_or1 (h : PT X a (bOf X.K W m)) : PW X (.BoolOp .Or [a] pos) (bOf X.K W m) := pw_or1 h
theorem dw_and (ha : PT X a (bOf X.K W m)) (hb : PW X (.BoolOp .And (b :: rest) pos) (bOf X.K W n)) : PW X (.BoolOp .And (a :: b :: rest) pos) (bOf X.K W (bAnd m n)) := (pw_and ha hb).imp fun σ H Q ⟨F, ρ, τ, s, g⟩ => by
  unfold bAnd at g
  rw [Good.bind] at g
  refine runB s (g.imp (fun c ρ1 q F1 H1 s1 => ?_) fun _ _ q => q)
  cases c with
  | true => exact ⟨F1, ρ1, τ, s1, q⟩
  | false => exact q F1 H1 s1
theorem dw_or (ha : PT X a (bOf X.K W m)) (hb : PW X (.BoolOp .Or (b :: rest) pos) (bOf X.K W n)) : PW X (.BoolOp .Or (a :: b :: rest) pos) (bOf X.K W (bOr m n)) := (pw_or ha hb).imp fun σ H Q ⟨F, ρ, τ, s, g⟩ => by
  unfold bOr at g
  rw [Good.bind] at g
  refine runB s (g.imp (fun c ρ1 q F1 H1 s1 => ?_) fun _ _ q => q)
  cases c with
  | false => exact ⟨F1, ρ1, τ, s1, q⟩
  | true => exact q F1 H1 s1
theorem dt_w {e : Expr} (h : PW X e (bOf X.K W m)) : PT X e (bOf X.K W m) := h.pt
/-- a test as a value -/
def ofB (m : M Bool) : M C := fun ρ => (m ρ).bind fun b ρ => .ok (.fz (.bl b)) ρ
def eNot (m : M C) : M C := ofB (bNot (asB m))
def eAnd (m : M C) (n : M C) : M C := fun ρ => (asB m ρ).bind fun b ρ => if b = true then n ρ else .ok (.fz (.bl false)) ρ
def eOr (m : M C) (n : M C) : M C := fun ρ => (asB m ρ).bind fun b ρ => if b = true then .ok (.fz (.bl true)) ρ else n ρ
theorem asB_run {ma : M C} {σ : L2.St} {H : Hp} {F : Addr → Prop} {ρ : Rho} {τ : List Pr} {P : Bool → Hp → Prop} (s : Sta X.K F H σ ρ τ) (g : Good (asB ma ρ) (okB X.K σ τ P) (erP X.K W σ τ)) : tOf X.K W ma σ H fun x H1 => ∃ c, x = .bl c ∧ P c H1 :=
  asB_ok ⟨F, ρ, τ, s, g⟩
theorem d_not {m : M C} (h : PE X a (tOf X.K W m)) : PE X (.UnaryOp .Not a pos) (tOf X.K W (eNot m)) := (pe_not h).imp fun σ H Q ⟨F, ρ, τ, s, g⟩ => by
  unfold eNot ofB bNot at g
  rw [Good.bind, Good.bind] at g
  exact asB_run (P := fun c H1 => Q (.bl !c) H1) s (g.imp (fun b ρ1 q F1 H1 s1 => q (.bl !b) F1 H1 (by simp) (s1.push (.bl _))) fun _ _ q => q)
theorem d_one {op} {m : M C} (h : PE X a (tOf X.K W m)) : PE X (.BoolOp op [a] pos) (tOf X.K W m) := pe_one h
theorem d_and {m n : M C} (ha : PE X a (tOf X.K W m)) (hb : PE X (.BoolOp .And (b :: rest) pos) (tOf X.K W n)) : PE X (.BoolOp .And (a :: b :: rest) pos) (tOf X.K W (eAnd m n)) := (pe_and ha hb).imp fun σ H Q ⟨F, ρ, τ, s, g⟩ => by
  unfold eAnd at g
  rw [Good.bind] at g
  refine asB_run (P := fun c H1 => if c = true then tOf X.K W n σ H1 Q else Q (.bl false) H1) s (g.imp (fun c ρ1 q F1 H1 s1 => ?_) fun _ _ q => q)
  cases c with
  | true => exact ⟨F1, ρ1, τ, s1, q⟩
  | false => exact q (.bl false) F1 H1 (by simp) (s1.push (.bl _))
theorem d_or {m n : M C} (ha : PE X a (tOf X.K W m)) (hb : PE X (.BoolOp .Or (b :: rest) pos) (tOf X.K W n)) : PE X (.BoolOp .Or (a :: b :: rest) pos) (tOf X.K W (eOr m n)) := (pe_or ha hb).imp fun σ H Q ⟨F, ρ, τ, s, g⟩ => by
  unfold eOr at g
  rw [Good.bind] at g
  refine asB_run (P := fun c H1 => if c = true then Q (.bl true) H1 else tOf X.K W n σ H1 Q) s (g.imp (fun c ρ1 q F1 H1 s1 => ?_) fun _ _ q => q)
  cases c with
  | false => exact ⟨F1, ρ1, τ, s1, q⟩
  | true => exact q (.bl true) F1 H1 (by simp) (s1.push (.bl _))
def eIf (t : M Bool) (a b : M C) : M C := fun ρ => (t ρ).bind fun c ρ => if c = true then a ρ else b ρ
theorem d_if {c : Expr} {t : M Bool} {ma mb : M C} (hc : PT X c (bOf X.K W t)) (ha : PE X a (tOf X.K W ma)) (hb : PE X b (tOf X.K W mb)) : PE X (.IfExp c a b pos) (tOf X.K W (eIf t ma mb)) := (pe_ifExp hc ha hb).imp fun σ H Q ⟨F, ρ, τ, s, g⟩ => by
  unfold eIf at g
  rw [Good.bind] at g
  refine runB s (g.imp (fun c ρ1 q F1 H1 s1 => ?_) fun _ _ q => q)
  cases c with
  | true => exact ⟨F1, ρ1, τ, s1, q⟩
  | false => exact ⟨F1, ρ1, τ, s1, q⟩
end
end Dn

/-! Den4: operators, items, slices, calls of built-ins. -/
namespace Dn
open PySem PySem.Spec PyProof.Rows L2

/-! ### ints -/
def ii (f : Int → Int → Option D) : D → D → Option D
  | .int i, .int j => f i j
  | _, _ => none
theorem ii_ok {K : PySem.W.Frag} {r : R2} {f : Int → Int → Option D} (h : ∀ i j z F H Q, f i j = some z → (∀ v, Rep K F H v z → Q v H) → r (.int i) (.int j) H Q) : OpOk K r (ii f) := fun x y z F H vx vy Q e rx ry q => by
  cases x <;> cases y <;> simp only [ii, reduceCtorEq] at e
  rw [rx.intv, ry.intv]
  exact h _ _ z F H Q e q
def iSub : D → D → Option D := ii fun i j => some (.int (i - j))
def iMod : D → D → Option D := ii fun i j => if 0 < j then some (.int (i % j)) else none
def iDiv : D → D → Option D := ii fun i j => if 0 < j ∧ j.natAbs.log2 < 9000 then some (.int (i / j)) else none
def iPow : D → D → Option D := ii fun i j => if 0 ≤ j ∧ j ≤ 1000 ∧ i.natAbs < 1000000 then some (.int (i ^ j.toNat)) else none
def iLt : D → D → Option D := ii fun i j => some (.bl (decide (i < j)))
def iLe : D → D → Option D := ii fun i j => some (.bl (decide (i ≤ j)))
def iGt : D → D → Option D := ii fun i j => some (.bl (decide (j < i)))
def iGe : D → D → Option D := ii fun i j => some (.bl (decide (j ≤ i)))
theorem rI0_ok {K : PySem.W.Frag} {F : Addr → Prop} {H : Hp} {Q : VK} {g : Int → Int → V} {i j : Int} (h : Q (g i j) H) : rI0 g (.int i) (.int j) H Q := ⟨i, j, rfl, rfl, h⟩
theorem ok_sub {K : PySem.W.Frag} : OpOk K (rI0 fun i j => .int (i - j)) iSub := ii_ok fun i j z F H Q e q => by cases e; exact ⟨i, j, rfl, rfl, q _ (.int _)⟩
theorem ok_lt {K : PySem.W.Frag} : OpOk K (rI0 fun i j => .bl (decide (i < j))) iLt := ii_ok fun i j z F H Q e q => by cases e; exact ⟨i, j, rfl, rfl, q _ (.bl _)⟩
theorem ok_le {K : PySem.W.Frag} : OpOk K (rI0 fun i j => .bl (decide (i ≤ j))) iLe := ii_ok fun i j z F H Q e q => by cases e; exact ⟨i, j, rfl, rfl, q _ (.bl _)⟩
theorem ok_gt {K : PySem.W.Frag} : OpOk K (rI0 fun i j => .bl (decide (j < i))) iGt := ii_ok fun i j z F H Q e q => by cases e; exact ⟨i, j, rfl, rfl, q _ (.bl _)⟩
theorem ok_ge {K : PySem.W.Frag} : OpOk K (rI0 fun i j => .bl (decide (j ≤ i))) iGe := ii_ok fun i j z F H Q e q => by cases e; exact ⟨i, j, rfl, rfl, q _ (.bl _)⟩
theorem ok_mod {K : PySem.W.Frag} : OpOk K (rI (fun _ j => 0 < j) fun i j => .int (i % j)) iMod := ii_ok fun i j z F H Q e q => by
  split at e <;> cases e
  exact ⟨i, j, rfl, rfl, by assumption, q _ (.int _)⟩
theorem ok_div {K : PySem.W.Frag} : OpOk K (rI CDivW fun i j => .int (i / j)) iDiv := ii_ok fun i j z F H Q e q => by
  split at e <;> cases e
  exact ⟨i, j, rfl, rfl, by assumption, q _ (.int _)⟩
theorem ok_pow {K : PySem.W.Frag} : OpOk K (rI CPow fun i j => .int (i ^ j.toNat)) iPow := ii_ok fun i j z F H Q e q => by
  split at e
  · rename_i h
    cases e
    exact ⟨i, j, rfl, rfl, ⟨h.1, by omega, by have := h.2.2; omega⟩, q _ (.int _)⟩
  · cases e

/-! ### a value made: + and * of any kind -/
def eOpC (f : D → D → Option C) (a b : M C) : M C := fun ρ => (a ρ).bind fun c ρ => (b ρ).bind fun d ρ => match f (fzD c) (fzD d) with
  | some z => .ok z ρ
  | none => .st
/-- what a rule must bring: the cell z, frozen or newly made of frozen things -/
def MadeOk (K : PySem.W.Frag) (F : Addr → Prop) (H : Hp) (z : C) (Q : VK) : Prop := match z with
  | .fz d => ∀ v, Rep K F H v d → Q v H
  | .ow cs => ∀ p vs, H p = none → RepCs K F H vs cs [] → Q (.ref p) (upd H p (.lst vs))
  | .tp cs => ∀ p vs, H p = none → RepCs K F H vs cs [] → Q (.ref p) (upd H p (.tup vs))
  | _ => False
theorem RepCs.ne {K : PySem.W.Frag} {F : Addr → Prop} {H : Hp} : ∀ {vs : List V} {cs : List C} {O : List Addr}, RepCs K F H vs cs O → ∀ c ∈ cs, c ≠ .no
  | _, _, _, .nil, _, m => nomatch m
  | _, _, _, .cons r rs, c, m => by
    rcases List.mem_cons.mp m with rfl | m
    · rintro rfl; cases r
    · exact rs.ne c m
theorem RepCs.toP {K : PySem.W.Frag} {F : Addr → Prop} {H : Hp} : ∀ {vs : List V} {cs : List C} {O : List Addr} {ps : List Pr} {O' : List Addr}, RepCs K F H vs cs O → RepP K F H ps O' → RepP K F H (tmps vs cs ++ ps) (O ++ O')
  | _, _, _, _, _, .nil, r => r
  | _, _, _, _, _, .cons c cs, r => by
    have := RepP.cons c (cs.toP r)
    rw [← List.append_assoc] at this
    exact this
theorem Sta.made {K : PySem.W.Frag} {F : Addr → Prop} {H : Hp} {σ : L2.St} {ρ : Rho} {τ : List Pr} {z : C} {Q : VK} (s : Sta K F H σ ρ τ) (q : okP K σ τ Q z ρ) (hz : (∃ d, z = .fz d) ∨ (∃ cs, z = .ow cs) ∨ ∃ cs, z = .tp cs) : MadeOk K F H z Q := by
  have tmp : ∀ {vs : List V} {cs : List C}, RepCs K F H vs cs [] → Sta K F H σ ρ (tmps vs cs ++ τ) := fun {vs cs} r => s.on fun l ⟨O, rp, a⟩ => by
    refine ⟨O, ?_, a⟩
    have := r.toP rp
    rw [List.append_assoc]
    exact this
  rcases hz with ⟨d, rfl⟩ | ⟨cs, rfl⟩ | ⟨cs, rfl⟩
  · exact fun v r => q v F H (by simp) (s.push r)
  · refine fun p vs np r => q (.ref p) F _ (by simp) ((tmp r).on fun l al => ?_)
    rw [List.append_assoc] at al
    exact al.mkL r.len r.ne np
  · refine fun p vs np r => q (.ref p) F _ (by simp) ((tmp r).on fun l al => ?_)
    rw [List.append_assoc] at al
    exact al.mkT r.len r.ne np
def OpCOk (K : PySem.W.Frag) (r : R2) (f : D → D → Option C) : Prop := ∀ x y z F H vx vy Q, f x y = some z → Rep K F H vx x → Rep K F H vy y → (((∃ d, z = .fz d) ∨ (∃ cs, z = .ow cs) ∨ ∃ cs, z = .tp cs) → MadeOk K F H z Q) → r vx vy H Q
section
variable {X : Cx} {W : WX} {pos : Pos} {e a b : Expr} {es : List Expr}
theorem opC_ok {f : D → D → Option C} {r : R2} {ma mb : M C} (hf : OpCOk X.K r f) {σ : L2.St} {H : Hp} {Q : VK} (h : tOf X.K W (eOpC f ma mb) σ H Q) : tOp r (tOf X.K W ma) (tOf X.K W mb) σ H Q := by
  obtain ⟨F, ρ, τ, s, g⟩ := h
  refine run2 s g fun c d ρ2 F2 H2 v w s2 q => ?_
  split at q
  · rename_i z hz
    exact hf _ _ z F2 H2 v w Q hz s2.drop.fzOf s2.fzOf fun kz => s2.drop.drop.made q kz
  · exact q.elim
def addC : D → D → Option C
  | .int i, .int j => some (.fz (.int (i + j)))
  | .str i, .str j => if small (i.length + j.length) then some (.fz (.str (i ++ j))) else none
  | .lst ds, .lst es => if small (ds.length + es.length) then some (.ow ((ds ++ es).map .fz)) else none
  | .tup ds, .tup es => if small (ds.length + es.length) && !ds.isEmpty && !es.isEmpty then some (.tp ((ds ++ es).map .fz)) else none
  | _, _ => none
def rAdd (K : PySem.W.Frag) : R2 := fun x y H Q => ((rI0 fun i j => .int (i + j)) x y H Q ∨ (∃ i j, x = .str i ∧ y = .str j ∧ i.length + j.length ≤ sizeLine ∧ Q (.str (i ++ j)) H)) ∨ (rCat x y H Q ∨ rCatA K x y H Q)
theorem op_addAll : OpR X (binaryOp .Add) (rAdd X.K) := (op_add.or op_add_str).or (op_cat.or op_catA)
theorem ok_add {K : PySem.W.Frag} : OpCOk K (rAdd K) addC := fun x y z F H vx vy Q e rx ry q => by
  cases x <;> cases y <;> simp only [addC, reduceCtorEq] at e
  · cases e
    rw [rx.intv, ry.intv]
    exact .inl (.inl ⟨_, _, rfl, rfl, q (.inl ⟨_, rfl⟩) _ (.int _)⟩)
  · split at e <;> cases e
    rename_i hs
    rw [rx.strv, ry.strv]
    exact .inl (.inr ⟨_, _, rfl, rfl, small_line hs, q (.inl ⟨_, rfl⟩) _ (.str _)⟩)
  · split at e <;> cases e
    rename_i hs
    obtain ⟨p, vs, rfl, ha, ra⟩ := rx.lstv
    obtain ⟨p2, ws, rfl, hb, rb⟩ := ry.lstv
    refine .inr (.inl ⟨p, p2, vs, ws, rfl, rfl, ha.2, hb.2, by rw [ra.len, rb.len]; exact small_line hs, fun p np => ?_⟩)
    exact q (.inr (.inl ⟨_, rfl⟩)) p _ np (ra.append rb).cells
  · split at e <;> cases e
    rename_i hs
    simp only [Bool.and_eq_true, Bool.not_eq_true'] at hs
    obtain ⟨p, vs, rfl, ha, ra⟩ := rx.tupv
    obtain ⟨p2, ws, rfl, hb, rb⟩ := ry.tupv
    refine .inr (.inr ⟨p, p2, vs, ws, rfl, rfl, ha.seq, hb.seq, by rw [ra.len, rb.len]; exact small_line hs.1.1, fun z => ?_, fun z1 z2 => ?_, fun z1 z2 p np => ?_⟩)
    · subst z; cases ra; simp at hs
    · subst z2; cases rb; simp at hs
    · exact q (.inr (.inr ⟨_, rfl⟩)) p _ np (ra.append rb).cells
theorem d_add {ma mb : M C} (ha : PE X a (tOf X.K W ma)) (hb : PE X b (tOf X.K W mb)) : PE X (.BinOp a .Add b pos) (tOf X.K W (eOpC addC ma mb)) := (pe_op op_addAll ha hb).imp fun _ _ _ h => opC_ok ok_add h
def wide (i j : Int) : Bool := decide (i.natAbs.log2 + j.natAbs.log2 < 1000000) || (decide (i.natAbs.log2 < 60) || decide (j.natAbs.log2 < 60))
theorem wide_sound {i j : Int} (h : wide i j = true) : IntMulOk i j := by
  have b : ∀ x : Int, x.natAbs.log2 < 60 → Builtin.Int.intBits x ≤ 64 := fun x hx => by
    unfold Builtin.Int.intBits
    split <;> omega
  unfold wide at h
  simp only [Bool.or_eq_true, decide_eq_true_eq] at h
  rcases h with h | h | h
  · exact CMulW.ok h
  · exact IntMulOk.of_left (b _ h)
  · exact IntMulOk.of_right (b _ h)
theorem op_mulX {X : Cx} : OpR X (binaryOp .Mult) (rI IntMulOk fun i j => .int (i * j)) := opI fun _ _ _ _ _ _ _ hc q => mul_int q hc
def mulC : D → D → Option C
  | .int i, .int j => if wide i j then some (.fz (.int (i * j))) else none
  | .lst ds, .int k => if small (ds.length * k.toNat) && decide (k.natAbs < 1000000) then some (.ow ((List.replicate k.toNat ds).flatten.map .fz)) else none
  | _, _ => none
theorem Reps.rep {K : PySem.W.Frag} {F : Addr → Prop} {H : Hp} {vs : List V} {ds : List D} (r : Reps K F H vs ds) : ∀ n, Reps K F H (List.replicate n vs).flatten (List.replicate n ds).flatten
  | 0 => .nil
  | n + 1 => by
    rw [List.replicate_succ, List.replicate_succ, List.flatten_cons, List.flatten_cons]
    exact r.append (r.rep n)
theorem ok_mul {K : PySem.W.Frag} : OpCOk K (fun x y H Q => rI IntMulOk (fun i j => .int (i * j)) x y H Q ∨ rRep x y H Q) mulC := fun x y z F H vx vy Q e rx ry q => by
  cases x <;> cases y <;> simp only [mulC, reduceCtorEq] at e
  · split at e <;> cases e
    rename_i hs
    rw [rx.intv, ry.intv]
    exact .inl ⟨_, _, rfl, rfl, wide_sound hs, q (.inl ⟨_, rfl⟩) _ (.int _)⟩
  · split at e <;> cases e
    rename_i hs
    simp only [Bool.and_eq_true, decide_eq_true_eq] at hs
    obtain ⟨p, vs, rfl, ha, ra⟩ := rx.lstv
    rw [ry.intv]
    refine .inr ⟨p, _, vs, rfl, rfl, ha.2, by omega, by omega, by rw [ra.len]; exact small_line hs.1, fun p np => ?_⟩
    exact q (.inr (.inl ⟨_, rfl⟩)) p _ np (ra.rep _).cells
theorem d_mul {ma mb : M C} (ha : PE X a (tOf X.K W ma)) (hb : PE X b (tOf X.K W mb)) : PE X (.BinOp a .Mult b pos) (tOf X.K W (eOpC mulC ma mb)) := (pe_op (op_mulX.or op_rep) ha hb).imp fun _ _ _ h => opC_ok ok_mul h
theorem d_sub {ma mb : M C} (ha : PE X a (tOf X.K W ma)) (hb : PE X b (tOf X.K W mb)) : PE X (.BinOp a .Sub b pos) (tOf X.K W (eOp iSub ma mb)) := d_op op_sub ok_sub ha hb
theorem d_mod {ma mb : M C} (ha : PE X a (tOf X.K W ma)) (hb : PE X b (tOf X.K W mb)) : PE X (.BinOp a .Mod b pos) (tOf X.K W (eOp iMod ma mb)) := d_op op_mod ok_mod ha hb
theorem d_div {ma mb : M C} (ha : PE X a (tOf X.K W ma)) (hb : PE X b (tOf X.K W mb)) : PE X (.BinOp a .FloorDiv b pos) (tOf X.K W (eOp iDiv ma mb)) := d_op op_fdivW ok_div ha hb
theorem d_pow {ma mb : M C} (ha : PE X a (tOf X.K W ma)) (hb : PE X b (tOf X.K W mb)) : PE X (.BinOp a .Pow b pos) (tOf X.K W (eOp iPow ma mb)) := d_op op_pow ok_pow ha hb

/-! ### == of data -/
mutual
def toPy : D → Option PyData
  | .non => some .none
  | .bl b => some (.bool b)
  | .int i => some (.int i)
  | .str s => some (.str s)
  | .lst ds => (toPys ds).map .list
  | .tup ds => (toPys ds).map .tuple
  | _ => none
def toPys : List D → Option (List PyData)
  | [] => some []
  | d :: ds => match toPy d, toPys ds with
    | some x, some xs => some (x :: xs)
    | _, _ => none
end
mutual
theorem Rep.dp {K : PySem.W.Frag} {F : Addr → Prop} {H : Hp} : ∀ {v : V} {d : D} {p : PyData}, Rep K F H v d → toPy d = some p → Dp K H v p
  | _, _, _, .non, e => by simp only [toPy, Option.some.injEq] at e; subst e; exact .non
  | _, _, _, .bl b, e => by simp only [toPy, Option.some.injEq] at e; subst e; exact .bl _
  | _, _, _, .int b, e => by simp only [toPy, Option.some.injEq] at e; subst e; exact .int _
  | _, _, _, .str b, e => by simp only [toPy, Option.some.injEq] at e; subst e; exact .str _
  | _, _, _, .ob b, e => by simp [toPy] at e
  | _, _, _, .dk _ _ _, e => by simp [toPy] at e
  | _, _, _, .fr _ _, e => by simp [toPy] at e
  | _, _, _, .lst h r, e => by
    simp only [toPy, Option.map_eq_some_iff] at e
    obtain ⟨ps, e1, rfl⟩ := e
    exact .lst h.seq (Reps.dps r e1)
  | _, _, _, .tup h r, e => by
    simp only [toPy, Option.map_eq_some_iff] at e
    obtain ⟨ps, e1, rfl⟩ := e
    exact .tup h.seq (Reps.dps r e1)
theorem Reps.dps {K : PySem.W.Frag} {F : Addr → Prop} {H : Hp} : ∀ {vs : List V} {ds : List D} {ps : List PyData}, Reps K F H vs ds → toPys ds = some ps → DpAll K H vs ps
  | _, _, _, .nil, e => by simp only [toPys, Option.some.injEq] at e; subst e; exact .nil
  | _, _, _, .cons r rs, e => by
    simp only [toPys] at e
    split at e
    · rename_i x xs e1 e2
      cases e
      exact .cons (Rep.dp r e1) (Reps.dps rs e2)
    · cases e
end
def eqS : D → D → Option Bool
  | .int i, .int j => some (decide (i = j))
  | .str s, .str t => some (decide (s = t))
  | .bl b, .bl c => some (decide (b = c))
  | _, _ => none
def eqQ (x y : D) : Option Bool := match toPy x, toPy y with
  | some p, some q => if SeqAt.shaped p && SeqAt.shaped q then some (PyData.eqv p q) else none
  | _, _ => none
def eqP (x y : D) : Option Bool := match eqS x y with
  | some b => some b
  | none => eqQ x y
def eqD (x y : D) : Option D := (eqP x y).map .bl
def neD (x y : D) : Option D := (eqP x y).map fun b => .bl (!b)
theorem eqQ_ok {K : PySem.W.Frag} {x y : D} {k : Bool} {F : Addr → Prop} {H : Hp} {vx vy : V} (h : eqQ x y = some k) (rx : Rep K F H vx x) (ry : Rep K F H vy y) :
    ∃ d e, Dp K H vx d ∧ Dp K H vy e ∧ SeqAt.shaped d = true ∧ SeqAt.shaped e = true ∧ PyData.eqv d e = k := by
  unfold eqQ at h
  split at h
  · rename_i p q e1 e2
    split at h
    · rename_i hs
      rw [Bool.and_eq_true] at hs
      cases h
      exact ⟨p, q, rx.dp e1, ry.dp e2, hs.1, hs.2, rfl⟩
    · cases h
  · cases h
theorem eqS_ok {K : PySem.W.Frag} {x y : D} {k : Bool} {F : Addr → Prop} {H : Hp} {vx vy : V} (h : eqS x y = some k) (rx : Rep K F H vx x) (ry : Rep K F H vy y) : L2.scal vx vy = true ∧ decide (vx = vy) = k := by
  cases x <;> cases y <;> simp only [eqS, reduceCtorEq, Option.some.injEq] at h <;> subst h
  · rw [rx.blv, ry.blv]; exact ⟨rfl, by simp⟩
  · rw [rx.intv, ry.intv]; exact ⟨rfl, by simp⟩
  · rw [rx.strv, ry.strv]; exact ⟨rfl, by simp⟩
theorem ok_eq {K : PySem.W.Frag} : OpOk K (fun x y H Q => rEq x y H Q ∨ rEqD K x y H Q) eqD := fun x y z F H vx vy Q e rx ry q => by
  simp only [eqD, eqP, Option.map_eq_some_iff] at e
  obtain ⟨k, e, rfl⟩ := e
  split at e
  · rename_i b hb
    cases e
    obtain ⟨h1, h2⟩ := eqS_ok hb rx ry
    exact .inl ⟨h1, by rw [h2]; exact q _ (.bl _)⟩
  · obtain ⟨d, e', h1, h2, h3, h4, h5⟩ := eqQ_ok e rx ry
    exact .inr ⟨d, e', h1, h2, h3, h4, by rw [h5]; exact q _ (.bl _)⟩
theorem ok_ne {K : PySem.W.Frag} : OpOk K (fun x y H Q => rNe x y H Q ∨ rNeD K x y H Q) neD := fun x y z F H vx vy Q e rx ry q => by
  simp only [neD, eqP, Option.map_eq_some_iff] at e
  obtain ⟨k, e, rfl⟩ := e
  split at e
  · rename_i b hb
    cases e
    obtain ⟨h1, h2⟩ := eqS_ok hb rx ry
    exact .inl ⟨h1, by rw [h2]; exact q _ (.bl _)⟩
  · obtain ⟨d, e', h1, h2, h3, h4, h5⟩ := eqQ_ok e rx ry
    exact .inr ⟨d, e', h1, h2, h3, h4, by rw [h5]; exact q _ (.bl _)⟩
theorem op_eqAll (hu : X.A.units + 64 < cLine) : OpR X (compareOp .Eq) (fun x y H Q => rEq x y H Q ∨ rEqD X.K x y H Q) := op_eq.or (op_eqD hu)
theorem op_neAll (hu : X.A.units + 64 < cLine) : OpR X (compareOp .NotEq) (fun x y H Q => rNe x y H Q ∨ rNeD X.K x y H Q) := op_ne.or (op_neD hu)
/-! ### is None -/
def isN : D → D → Option D
  | .non, .non => some (.bl true)
  | .ob _, .non => none
  | .gh _ _, .non => none
  | _, .non => some (.bl false)
  | _, _ => none
def isNN (x y : D) : Option D := match isN x y with
  | some (.bl b) => some (.bl (!b))
  | _ => none
theorem Rep.non_iff {K : PySem.W.Frag} {F : Addr → Prop} {H : Hp} {v : V} {d y z : D} (r : Rep K F H v d) (h : isN d y = some z) : z = .bl (decide (v = .non)) ∧ y = .non := by
  cases d <;> cases y <;> simp only [isN, reduceCtorEq, Option.some.injEq] at h <;> subst h <;> cases r <;> simp
theorem ok_isN {K : PySem.W.Frag} : OpOk K (fun x y H Q => y = .non ∧ Q (.bl (decide (x = .non))) H) isN := fun x y z F H vx vy Q e rx ry q => by
  obtain ⟨rfl, rfl⟩ := rx.non_iff e
  exact ⟨ry.nonv, q _ (.bl _)⟩
theorem ok_isNN {K : PySem.W.Frag} : OpOk K (fun x y H Q => y = .non ∧ Q (.bl (!decide (x = .non))) H) isNN := fun x y z F H vx vy Q e rx ry q => by
  unfold isNN at e
  split at e
  · rename_i b hb
    obtain ⟨h1, rfl⟩ := rx.non_iff hb
    cases h1
    cases e
    exact ⟨ry.nonv, q _ (.bl _)⟩
  · cases e
/-! ### in -/
def flatD : D → Option V
  | .non => some .non
  | .bl b => some (.bl b)
  | .int i => some (.int i)
  | .str s => some (.str s)
  | _ => none
def flatDs : List D → Option (List V)
  | [] => some []
  | d :: ds => match flatD d, flatDs ds with
    | some v, some vs => some (v :: vs)
    | _, _ => none
theorem Rep.flat {K : PySem.W.Frag} {F : Addr → Prop} {H : Hp} {v w : V} {d : D} (r : Rep K F H v d) (h : flatD d = some w) : v = w ∧ flatV v = true := by
  cases d <;> simp only [flatD, reduceCtorEq, Option.some.injEq] at h <;> subst h <;> cases r <;> exact ⟨rfl, rfl⟩
theorem Reps.flats {K : PySem.W.Frag} {F : Addr → Prop} {H : Hp} : ∀ {vs ws : List V} {ds : List D}, Reps K F H vs ds → flatDs ds = some ws → vs = ws ∧ vs.all flatV = true
  | _, _, _, .nil, h => by simp only [flatDs, Option.some.injEq] at h; exact ⟨h, rfl⟩
  | _, _, _, .cons r rs, h => by
    simp only [flatDs] at h
    split at h
    · rename_i v vs e1 e2
      cases h
      obtain ⟨a, b⟩ := r.flat e1
      obtain ⟨c, d⟩ := rs.flats e2
      exact ⟨by rw [a, c], by rw [List.all_cons, b, d]; rfl⟩
    · cases h
def seqD : D → Option (List D)
  | .lst ds => some ds
  | .tup ds => some ds
  | _ => none
def inP (x y : D) : Option Bool := (seqD y).bind fun ds => (flatD x).bind fun v => (flatDs ds).map fun ws => inV v ws
def inD (x y : D) : Option D := (inP x y).map .bl
def ninD (x y : D) : Option D := (inP x y).map fun b => .bl (!b)
theorem Rep.seq {K : PySem.W.Frag} {F : Addr → Prop} {H : Hp} {v : V} {y : D} {ds : List D} (r : Rep K F H v y) (h : seqD y = some ds) : ∃ p vs, v = .ref p ∧ (SqL K H p vs ∨ SqT K H p vs) ∧ Reps K F H vs ds := by
  cases y <;> simp only [seqD, reduceCtorEq, Option.some.injEq] at h <;> subst h
  · obtain ⟨a, vs, rfl, hl, rs⟩ := r.lstv
    exact ⟨a, vs, rfl, .inl hl.seq, rs⟩
  · obtain ⟨a, vs, rfl, hl, rs⟩ := r.tupv
    exact ⟨a, vs, rfl, .inr hl.seq, rs⟩
theorem inP_ok {K : PySem.W.Frag} {x y : D} {k : Bool} {F : Addr → Prop} {H : Hp} {vx vy : V} (h : inP x y = some k) (rx : Rep K F H vx x) (ry : Rep K F H vy y) :
    ∃ p xs, vy = .ref p ∧ (SqL K H p xs ∨ SqT K H p xs) ∧ flatV vx = true ∧ xs.all flatV = true ∧ inV vx xs = k := by
  simp only [inP, Option.bind_eq_some_iff, Option.map_eq_some_iff] at h
  obtain ⟨ds, e1, v, e2, ws, e3, rfl⟩ := h
  obtain ⟨p, vs, rfl, hs, rs⟩ := ry.seq e1
  obtain ⟨rfl, f1⟩ := rx.flat e2
  obtain ⟨rfl, f2⟩ := rs.flats e3
  exact ⟨p, _, rfl, hs, f1, f2, rfl⟩
theorem ok_in {K : PySem.W.Frag} : OpOk K (rIn K false) inD := fun x y z F H vx vy Q e rx ry q => by
  simp only [inD, Option.map_eq_some_iff] at e
  obtain ⟨k, e, rfl⟩ := e
  obtain ⟨p, xs, h1, h2, h3, h4, h5⟩ := inP_ok e rx ry
  exact ⟨p, xs, h1, h2, h3, h4, by rw [h5]; exact q _ (.bl _)⟩
theorem ok_nin {K : PySem.W.Frag} : OpOk K (rIn K true) ninD := fun x y z F H vx vy Q e rx ry q => by
  simp only [ninD, Option.map_eq_some_iff] at e
  obtain ⟨k, e, rfl⟩ := e
  obtain ⟨p, xs, h1, h2, h3, h4, h5⟩ := inP_ok e rx ry
  exact ⟨p, xs, h1, h2, h3, h4, by rw [h5]; exact q _ (.bl _)⟩

/-! ### items -/
def ixD : D → D → Option D
  | .lst ds, .int i => atI ds i
  | .fr ds, .int i => atI ds i
  | .tup ds, .int i => atI ds i
  | .str s, .int i => if small s.length then (atI s.cps.toList i).map fun c => .str ⟨#[c]⟩ else none
  | _, _ => none
theorem Reps.atI {K : PySem.W.Frag} {F : Addr → Prop} {H : Hp} {vs : List V} {ds : List D} {i : Int} {d : D} (r : Reps K F H vs ds) (h : atI ds i = some d) : ∃ v, L2.atI vs i = some v ∧ Rep K F H v d := by
  unfold L2.atI at h ⊢
  rw [r.len]
  cases e : ixN ds.length i with
  | none => rw [e] at h; cases h
  | some j =>
    rw [e] at h
    exact r.get h
theorem ok_ix {K : PySem.W.Frag} : OpOk K (rIx K) ixD := fun x y z F H vx vy Q e rx ry q => by
  cases x <;> cases y <;> simp only [ixD, reduceCtorEq] at e
  · split at e
    · rename_i hs
      simp only [Option.map_eq_some_iff] at e
      obtain ⟨c, e, rfl⟩ := e
      rw [rx.strv, ry.intv]
      exact .inr (.inr ⟨_, _, c, rfl, rfl, small_line hs, e, q _ (.str _)⟩)
    · cases e
  · obtain ⟨p, vs, rfl, ha, ra⟩ := rx.lstv
    obtain ⟨v, ev, rv⟩ := ra.atI e
    rw [ry.intv]
    exact .inl ⟨p, vs, _, v, rfl, rfl, ha.seq, ev, q v rv⟩
  · obtain ⟨p, vs, rfl, ha, ra⟩ := rx.frv
    obtain ⟨v, ev, rv⟩ := ra.atI e
    rw [ry.intv]
    exact .inl ⟨p, vs, _, v, rfl, rfl, ha.seq, ev, q v rv⟩
  · obtain ⟨p, vs, rfl, ha, ra⟩ := rx.tupv
    obtain ⟨v, ev, rv⟩ := ra.atI e
    rw [ry.intv]
    exact .inr (.inl ⟨p, vs, _, v, rfl, rfl, ha.seq, ev, q v rv⟩)
theorem d_ix {ma mb : M C} (ha : PE X a (tOf X.K W ma)) (hb : PE X b (tOf X.K W mb)) (hs : PlainIx b := by exact fun _ _ => rfl) : PE X (.Subscript a b pos) (tOf X.K W (eOp ixD ma mb)) :=
  (pe_ix ix_seq ha hb hs).imp fun _ _ _ h => op_ok ok_ix h
/-- an item of what a name holds, the name left as it is -/
def hasN (c : Option C) : Bool := match c with
  | none => false
  | some .no => false
  | _ => true
def itemV (i : Nat) (d : C) : M C := fun ρ => match ρ[i]? with
  | some (.fz x) => match ixD x (fzD d) with
    | some z => .ok (.fz z) ρ
    | none => .st
  | some (.ow cs) => match fzD d with
    | .int j => match atI cs j with
      | some (.fz z) => .ok (.fz z) ρ
      | _ => .st
    | _ => .st
  | some (.tp cs) => match fzD d with
    | .int j => match atI cs j with
      | some (.fz z) => .ok (.fz z) ρ
      | _ => .st
    | _ => .st
  | _ => .st
def eIxV (i : Nat) (mb : M C) : M C := fun ρ => if hasN ρ[i]? then (mb ρ).bind fun d ρ => itemV i d ρ else .st
theorem RepCs.get {K : PySem.W.Frag} {F : Addr → Prop} {H : Hp} : ∀ {vs : List V} {cs : List C} {O : List Addr} {i : Nat} {c : C}, RepCs K F H vs cs O → cs[i]? = some c → ∃ v O', vs[i]? = some v ∧ RepC K F H v c O'
  | _, _, _, _, _, .nil, h => by simp at h
  | _, _, _, 0, _, .cons r _, h => by simp at h; subst h; exact ⟨_, _, rfl, r⟩
  | _, _, _, i + 1, _, .cons _ r, h => by
    obtain ⟨v, O', e, q⟩ := r.get (i := i) (by simpa using h)
    exact ⟨v, O', by simpa using e, q⟩
theorem RepCs.atI {K : PySem.W.Frag} {F : Addr → Prop} {H : Hp} {vs : List V} {cs : List C} {O : List Addr} {i : Int} {d : D} (r : RepCs K F H vs cs O) (h : L2.atI cs i = some (.fz d)) : ∃ v, L2.atI vs i = some v ∧ Rep K F H v d := by
  unfold L2.atI at h ⊢
  rw [r.len]
  cases e : ixN cs.length i with
  | none => rw [e] at h; cases h
  | some j =>
    rw [e] at h
    obtain ⟨v, O', e2, q⟩ := r.get h
    cases q with
    | fz q => exact ⟨v, e2, q⟩
theorem Sta.tpOf {K : PySem.W.Frag} {F : Addr → Prop} {H : Hp} {σ : L2.St} {ρ : Rho} {τ : List Pr} {v : V} {cs : List C} (s : Sta K F H σ ρ ((some v, .tp cs) :: τ)) : ∃ a vs O, v = .ref a ∧ H a = some (.tup vs) ∧ RepCs K F H vs cs O := by
  obtain ⟨O, r, _⟩ := s.all
  cases r with
  | cons c _ =>
    cases c with
    | tp e rc => exact ⟨_, _, _, rfl, e, rc⟩
theorem Sta.has {K : PySem.W.Frag} {F : Addr → Prop} {H : Hp} {σ : L2.St} {ρ : Rho} {τ : List Pr} {i : Nat} (s : Sta K F H σ ρ τ) (h : hasN ρ[i]? = true) : ∃ v, σ[i]? = some (some v) := by
  cases e : ρ[i]? with
  | none => rw [e] at h; cases h
  | some c =>
    rw [e] at h
    obtain ⟨v, ev, _⟩ := s.get e (by rintro rfl; cases h)
    exact ⟨v, ev⟩
theorem ixV_ok {i : Nat} {mb : M C} {σ : L2.St} {H : Hp} {Q : VK} (h : tOf X.K W (eIxV i mb) σ H Q) : tOp (rIx X.K) (tVar i) (tOf X.K W mb) σ H Q := by
  obtain ⟨F, ρ, τ, s, g⟩ := h
  unfold eIxV at g
  split at g
  · rename_i hn
    obtain ⟨v, ev⟩ := s.has hn
    refine ⟨v, ev, ?_⟩
    rw [Good.bind] at g
    refine run1 s (g.imp (fun c ρ1 q w F1 H1 s1 => ?_) fun _ _ q => q)
    unfold itemV at q
    have fin : ∀ {z : D}, okP X.K σ τ Q (.fz z) ρ1 → ∀ u, Rep X.K F1 H1 u z → Q u H1 := fun q u ru => q u F1 H1 (by simp) (s1.drop.push ru)
    split at q
    · rename_i x ex
      obtain ⟨v', ev', s2⟩ := s1.get ex (by simp)
      rw [ev] at ev'
      cases ev'
      split at q
      · rename_i z hz
        exact ok_ix _ _ z F1 H1 v w Q hz s2.fzOf s1.fzOf (fin q)
      · exact q.elim
    · rename_i cs ex
      obtain ⟨v', ev', s2⟩ := s1.get ex (by simp)
      rw [ev] at ev'
      cases ev'
      obtain ⟨a, vs, O, rfl, ea, rc⟩ := s2.owOf
      split at q
      · rename_i j hj
        rw [hj] at s1
        split at q
        · rename_i z hz
          obtain ⟨u, eu, ru⟩ := rc.atI hz
          rw [s1.fzOf.intv]
          exact .inl ⟨a, vs, j, u, rfl, rfl, .of ea, eu, q u F1 H1 (by simp) (s1.drop.push ru)⟩
        · exact q.elim
      · exact q.elim
    · rename_i cs ex
      obtain ⟨v', ev', s2⟩ := s1.get ex (by simp)
      rw [ev] at ev'
      cases ev'
      obtain ⟨a, vs, O, rfl, ea, rc⟩ := s2.tpOf
      split at q
      · rename_i j hj
        rw [hj] at s1
        split at q
        · rename_i z hz
          obtain ⟨u, eu, ru⟩ := rc.atI hz
          rw [s1.fzOf.intv]
          exact .inr (.inl ⟨a, vs, j, u, rfl, rfl, .of ea, eu, q u F1 H1 (by simp) (s1.drop.push ru)⟩)
        · exact q.elim
      · exact q.elim
    · exact q.elim
  · exact g.elim
theorem d_ixV (i : Nat) {x : Str} {p : Pos} {mb : M C} (hb : PE X b (tOf X.K W mb)) (hN : X.N[i]? = some x := by rfl) (hv : Vis X.env.scope x := by first | exact Or.inl rfl | exact Or.inr (Or.inl rfl) | exact Or.inr (Or.inr rfl)) (hs : PlainIx b := by exact fun _ _ => rfl)
    (hd : (x == ("__debug__" : Str)) = false := by decide) (hcd : (x == ("__classdict__" : Str)) = false := by decide) : PE X (.Subscript (.Name x p) b pos) (tOf X.K W (eIxV i mb)) :=
  (pe_ix ix_seq (pe_var hN hv hd hcd) hb hs).imp fun _ _ _ h => ixV_ok h

/-! ### slices -/
def pNone : M (Option Int) := fun ρ => .ok none ρ
def pSome (m : M C) : M (Option Int) := fun ρ => (m ρ).bind fun c ρ => match fzD c with
  | .int i => .ok (some i) ρ
  | _ => .st
def okO (K : PySem.W.Frag) (σ : L2.St) (τ : List Pr) (Q : Option Int → Hp → Prop) : Option Int → Rho → Prop := fun o ρ => ∀ F H, Sta K F H σ ρ τ → Q o H
def oOf (K : PySem.W.Frag) (W : WX) (m : M (Option Int)) : TO := fun σ H Q => ∃ F ρ τ, Sta K F H σ ρ τ ∧ Good (m ρ) (okO K σ τ Q) (erP K W σ τ)
theorem _root_.L2.PO.imp {e : Option Expr} {t u : TO} (h : PO X e t) (f : ∀ σ H Q, u σ H Q → t σ H Q) : PO X e u := ⟨fun pins s σ H Q I hw => h.run pins s σ H Q I (f σ H Q hw)⟩
theorem d_pnone : PO X none (oOf X.K W pNone) := po_none.imp fun σ H Q ⟨F, ρ, τ, s, g⟩ => g F H s
theorem d_psome {m : M C} (h : PE X e (tOf X.K W m)) : PO X (some e) (oOf X.K W (pSome m)) := (po_some h).imp fun σ H Q ⟨F, ρ, τ, s, g⟩ => by
  unfold pSome at g
  rw [Good.bind] at g
  refine run1 s (g.imp (fun c ρ1 q v F1 H1 s1 => ?_) fun _ _ q => q)
  split at q
  · rename_i i hi
    rw [hi] at s1
    exact ⟨i, s1.fzOf.intv, q F1 H1 s1.drop⟩
  · exact q.elim
def cutL {α : Type} (xs : List α) (lo hi : Option Int) : List α := (xs.drop (HT.sIx xs.length 0 lo)).take (HT.sIx xs.length xs.length hi - HT.sIx xs.length 0 lo)
def slC (d : D) (lo hi : Option Int) : Option C := match d with
  | .lst ds => some (.ow ((cutL ds lo hi).map .fz))
  | .str s => if small s.length then some (.fz (.str (cutS s lo hi))) else none
  | .tup ds => if HT.sIx ds.length 0 lo = 0 ∧ HT.sIx ds.length ds.length hi = ds.length then some (.fz (.tup ds)) else some (.tp ((cutL ds lo hi).map .fz))
  | _ => none
def eSl (a : M C) (lo hi : M (Option Int)) : M C := fun ρ => (a ρ).bind fun c ρ => (lo ρ).bind fun l ρ => (hi ρ).bind fun h ρ => match slC (fzD c) l h with
  | some z => .ok z ρ
  | none => .st
theorem Reps.cut {K : PySem.W.Frag} {F : Addr → Prop} {H : Hp} {vs : List V} {ds : List D} (r : Reps K F H vs ds) (lo hi : Option Int) : Reps K F H (cutV vs lo hi) (cutL ds lo hi) := by
  unfold cutV cutL
  rw [r.len]
  exact (r.drop _).take _
theorem d_sl {lo hi : Option Expr} {p2 : Pos} {m : M C} {ml mh : M (Option Int)} (h : PE X e (tOf X.K W m)) (hl : PO X lo (oOf X.K W ml)) (hh : PO X hi (oOf X.K W mh)) : PE X (.Subscript e (.Slice lo hi none p2) pos) (tOf X.K W (eSl m ml mh)) :=
  (pe_slice ((sl_list (X := X)).or (sl_str.or sl_tupA)) h hl hh).imp fun σ H Q ⟨F, ρ, τ, s, g⟩ => by
    unfold eSl at g
    rw [Good.bind] at g
    refine run1 s (g.imp (fun c ρ1 q v F1 H1 s1 => ?_) fun _ _ q => q)
    rw [Good.bind] at q
    refine ⟨F1, ρ1, _, s1, q.imp (fun l ρ2 q F2 H2 s2 => ?_) fun _ _ q => q.drop⟩
    rw [Good.bind] at q
    refine ⟨F2, ρ2, _, s2, q.imp (fun u ρ3 q F3 H3 s3 => ?_) fun _ _ q => q.drop⟩
    split at q
    · rename_i z hz
      have r := s3.fzOf
      cases hd : fzD c <;> rw [hd] at hz r <;> simp only [slC, reduceCtorEq, Option.some.injEq] at hz
      · split at hz <;> cases hz
        rename_i hs
        rw [r.strv]
        exact .inr (.inl ⟨_, rfl, small_line hs, s3.drop.made q (.inl ⟨_, rfl⟩) _ (.str _)⟩)
      · subst hz
        obtain ⟨p, vs, rfl, ha, ra⟩ := r.lstv
        exact .inl ⟨p, vs, rfl, ha.seq, fun p' np => s3.drop.made q (.inr (.inl ⟨_, rfl⟩)) p' _ np (ra.cut l u).cells⟩
      · obtain ⟨p, vs, rfl, ha, ra⟩ := r.tupv
        have el := ra.len
        refine .inr (.inr ⟨p, vs, rfl, ha.seq, fun w => ?_, fun w p' np => ?_⟩)
        · rw [el] at w
          rw [if_pos w] at hz
          cases hz
          exact s3.drop.made q (.inl ⟨_, rfl⟩) _ (.tup ha ra)
        · rw [el] at w
          rw [if_neg w] at hz
          cases hz
          exact s3.drop.made q (.inr (.inr ⟨_, rfl⟩)) p' _ np (ra.cut l u).cells
    · exact q.elim

/-! ### calls of built-ins -/
def eCB (f : List D → Option C) (a : M (List C)) : M C := fun ρ => (a ρ).bind fun cs ρ => match f (cs.map fzD) with
  | some z => .ok z ρ
  | none => .st
def CbOk (K : PySem.W.Frag) (r : List V → Hp → VK → Prop) (f : List D → Option C) : Prop := ∀ ds z F H vs Q, f ds = some z → Reps K F H vs ds → (((∃ d, z = .fz d) ∨ (∃ cs, z = .ow cs) ∨ ∃ cs, z = .tp cs) → MadeOk K F H z Q) → r vs H Q
theorem Sta.freezes {K : PySem.W.Frag} {H : Hp} {σ : L2.St} {ρ : Rho} {τ : List Pr} : ∀ {vs : List V} {cs : List C} {F : Addr → Prop}, vs.length = cs.length → (∀ c ∈ cs, c ≠ .no) → Sta K F H σ ρ (tmps vs cs ++ τ) → ∃ F', Sta K F' H σ ρ τ ∧ Reps K F' H vs (cs.map fzD)
  | [], [], F, _, _, s => ⟨F, s, .nil⟩
  | v :: vs, c :: cs, F, e, hn, s => by
    have s' : Sta K F H σ ρ ((some v, c) :: (tmps vs cs ++ τ)) := s
    obtain ⟨F1, s1⟩ := s'.freeze (hn c List.mem_cons_self)
    have s2 : Sta K F1 H σ ρ (tmps vs cs ++ ((some v, .fz (fzD c)) :: τ)) := s1.perm List.perm_middle.symm
    obtain ⟨F2, s3, r3⟩ := Sta.freezes (Nat.succ.inj e) (fun c' m => hn c' (List.mem_cons_of_mem _ m)) s2
    exact ⟨F2, s3.drop, .cons s3.fzOf r3⟩
theorem cb_ok {f : List D → Option C} {r : List V → Hp → VK → Prop} {ma : M (List C)} (hf : CbOk X.K r f) {σ : L2.St} {H : Hp} {Q : VK} (h : tOf X.K W (eCB f ma) σ H Q) : tCB r (aOf X.K W ma) σ H Q := by
  obtain ⟨F, ρ, τ, s, g⟩ := h
  unfold eCB at g
  rw [Good.bind] at g
  refine runA s (g.imp (fun cs ρ1 q vs F1 H1 hl hn s1 => ?_) fun _ _ q => q)
  split at q
  · rename_i z hz
    obtain ⟨F2, s2, r2⟩ := s1.freezes hl hn
    exact hf _ z F2 H1 vs Q hz r2 fun kz => s2.made q kz
  · exact q.elim
end
end Dn

/-! Den5: the built-ins by their answers; borrowed names. -/
namespace Dn
open PySem PySem.Spec PyProof.Rows L2

theorem Reps.one {K : PySem.W.Frag} {F : Addr → Prop} {H : Hp} {vs : List V} {d : D} (r : Reps K F H vs [d]) : ∃ v, vs = [v] ∧ Rep K F H v d := by
  cases r with
  | cons a b => cases b; exact ⟨_, rfl, a⟩
theorem Reps.two {K : PySem.W.Frag} {F : Addr → Prop} {H : Hp} {vs : List V} {d e : D} (r : Reps K F H vs [d, e]) : ∃ v w, vs = [v, w] ∧ Rep K F H v d ∧ Rep K F H w e := by
  cases r with
  | cons a b =>
    obtain ⟨w, rfl, q⟩ := b.one
    exact ⟨_, w, rfl, a, q⟩
def intsOf : List D → Option (List Int)
  | [] => some []
  | .int i :: r => (intsOf r).map (i :: ·)
  | _ => none
def boolsOf : List D → Option (List Bool)
  | [] => some []
  | .bl i :: r => (boolsOf r).map (i :: ·)
  | _ => none
theorem Reps.ints {K : PySem.W.Frag} {F : Addr → Prop} {H : Hp} : ∀ {vs : List V} {ds : List D} {ns : List Int}, Reps K F H vs ds → intsOf ds = some ns → vs = ns.map V.int
  | _, _, _, .nil, h => by cases h; rfl
  | _, d :: ds, ns, .cons r rs, h => by
    cases d <;> simp only [intsOf, reduceCtorEq, Option.map_eq_some_iff] at h
    obtain ⟨ms, e, rfl⟩ := h
    rw [r.intv, rs.ints e]; rfl
theorem Reps.bools {K : PySem.W.Frag} {F : Addr → Prop} {H : Hp} : ∀ {vs : List V} {ds : List D} {ns : List Bool}, Reps K F H vs ds → boolsOf ds = some ns → vs = ns.map V.bl
  | _, _, _, .nil, h => by cases h; rfl
  | _, d :: ds, ns, .cons r rs, h => by
    cases d <;> simp only [boolsOf, reduceCtorEq, Option.map_eq_some_iff] at h
    obtain ⟨ms, e, rfl⟩ := h
    rw [r.blv, rs.bools e]; rfl
/-- a scalar answer -/
def sc1 (f : D → Option D) : List D → Option C
  | [d] => (f d).map .fz
  | _ => none
def sc2 (f : D → D → Option D) : List D → Option C
  | [d, e] => (f d e).map .fz
  | _ => none
def isScal : D → Bool
  | .non | .bl _ | .int _ | .str _ => true
  | _ => false
theorem Rep.ofScal {K : PySem.W.Frag} {F : Addr → Prop} {H : Hp} {d : D} (h : isScal d = true) : ∃ v, ∀ F H, Rep K F H v d := by
  cases d <;> simp only [isScal, Bool.false_eq_true] at h
  · exact ⟨_, fun _ _ => .non⟩
  · exact ⟨_, fun _ _ => .bl _⟩
  · exact ⟨_, fun _ _ => .int _⟩
  · exact ⟨_, fun _ _ => .str _⟩
theorem sc1_ok {K : PySem.W.Frag} {r : List V → Hp → VK → Prop} {f : D → Option D} (h : ∀ d z F H v Q, f d = some z → Rep K F H v d → (∀ u, Rep K F H u z → Q u H) → r [v] H Q) : CbOk K r (sc1 f) := fun ds z F H vs Q e rs q => by
  match ds, e with
  | [d], e =>
    simp only [sc1, Option.map_eq_some_iff] at e
    obtain ⟨z', e2, rfl⟩ := e
    obtain ⟨v, rfl, rv⟩ := rs.one
    exact h d z' F H v Q e2 rv (q (.inl ⟨_, rfl⟩))
theorem sc2_ok {K : PySem.W.Frag} {r : List V → Hp → VK → Prop} {f : D → D → Option D} (h : ∀ d d' z F H v v' Q, f d d' = some z → Rep K F H v d → Rep K F H v' d' → (∀ u, Rep K F H u z → Q u H) → r [v, v'] H Q) : CbOk K r (sc2 f) := fun ds z F H vs Q e rs q => by
  match ds, e with
  | [d, d'], e =>
    simp only [sc2, Option.map_eq_some_iff] at e
    obtain ⟨z', e2, rfl⟩ := e
    obtain ⟨v, v', rfl, rv, rv'⟩ := rs.two
    exact h d d' z' F H v v' Q e2 rv rv' (q (.inl ⟨_, rfl⟩))
/-! len, abs, int, min, max, sum, all, any, gcd -/
def lenD : D → Option D
  | .lst ds => some (.int ds.length)
  | .fr ds => some (.int ds.length)
  | .tup ds => some (.int ds.length)
  | .str s => if small s.length then some (.int s.length) else none
  | _ => none
def absD : D → Option D
  | .int i => some (.int i.natAbs)
  | _ => none
def intD : D → Option D
  | .int i => some (.int i)
  | .bl b => some (.int (if b then 1 else 0))
  | _ => none
def minD : D → Option D
  | .lst ds => (intsOf ds).bind fun ns => ns.min?.map .int
  | _ => none
def maxD : D → Option D
  | .lst ds => (intsOf ds).bind fun ns => ns.max?.map .int
  | _ => none
def min2D : D → D → Option D
  | .int i, .int j => some (.int (min i j))
  | _, _ => none
def max2D : D → D → Option D
  | .int i, .int j => some (.int (max i j))
  | _, _ => none
def sumD : D → Option D
  | .lst ds => (intsOf ds).map fun ns => .int ns.sum
  | _ => none
def allD : D → Option D
  | .lst ds => (boolsOf ds).map fun ns => .bl (ns.all id)
  | _ => none
def anyD : D → Option D
  | .lst ds => (boolsOf ds).map fun ns => .bl (ns.any id)
  | _ => none
def gcdD : D → D → Option D
  | .int i, .int j => some (.int (Nat.gcd i.natAbs j.natAbs : Nat))
  | _, _ => none
section
variable {K : PySem.W.Frag}
theorem ok_len : CbOk K (fun xs H Q => ∃ x n, xs = [x] ∧ LenV K x H n ∧ Q (.int n) H) (sc1 lenD) := sc1_ok fun d z F H v Q e r q => by
  cases d <;> simp only [lenD, reduceCtorEq, Option.some.injEq] at e
  · split at e <;> cases e
    rename_i hs
    exact ⟨v, _, rfl, by rw [r.strv]; exact ⟨small_line hs, rfl⟩, q _ (.int _)⟩
  · subst e
    obtain ⟨a, vs, rfl, hl, rs⟩ := r.lstv
    exact ⟨_, vs.length, rfl, .inl ⟨vs, hl.seq, rfl⟩, by rw [rs.len]; exact q _ (.int _)⟩
  · subst e
    obtain ⟨a, vs, rfl, hl, rs⟩ := r.frv
    exact ⟨_, vs.length, rfl, .inl ⟨vs, hl.seq, rfl⟩, by rw [rs.len]; exact q _ (.int _)⟩
  · subst e
    obtain ⟨a, vs, rfl, hl, rs⟩ := r.tupv
    exact ⟨_, vs.length, rfl, .inr ⟨vs, hl.seq, rfl⟩, by rw [rs.len]; exact q _ (.int _)⟩
theorem ok_abs : CbOk K (fun xs H Q => ∃ i, xs = [.int i] ∧ Q (.int (if i < 0 then -i else i)) H) (sc1 absD) := sc1_ok fun d z F H v Q e r q => by
  cases d <;> simp only [absD, reduceCtorEq, Option.some.injEq] at e
  subst e
  rename_i i
  refine ⟨i, by rw [r.intv], ?_⟩
  have e : (if i < 0 then -i else i) = (i.natAbs : Int) := by split <;> omega
  rw [e]
  exact q _ (.int _)
theorem ok_int : CbOk K (fun xs H Q => (∃ i, xs = [.int i] ∧ Q (.int i) H) ∨ ∃ k, xs = [.bl k] ∧ Q (.int (if k then 1 else 0)) H) (sc1 intD) := sc1_ok fun d z F H v Q e r q => by
  cases d <;> simp only [intD, reduceCtorEq, Option.some.injEq] at e <;> subst e
  · exact .inr ⟨_, by rw [r.blv], q _ (.int _)⟩
  · exact .inl ⟨_, by rw [r.intv], q _ (.int _)⟩
theorem ok_min : CbOk K (rMin K) (sc1 minD) := sc1_ok fun d z F H v Q e r q => by
  cases d <;> simp only [minD, reduceCtorEq, Option.bind_eq_some_iff, Option.map_eq_some_iff] at e
  obtain ⟨ns, e1, m, e2, rfl⟩ := e
  obtain ⟨a, vs, rfl, hl, rs⟩ := r.lstv
  rw [rs.ints e1] at hl
  obtain ⟨h1, h2⟩ := List.min?_eq_some_iff.mp e2
  refine ⟨a, ns, rfl, hl.seq, List.length_pos_of_mem h1, fun m' k1 k2 => ?_⟩
  have : m' = m := Int.le_antisymm (k2 m h1) (h2 m' k1)
  subst this
  exact q _ (.int _)
theorem ok_max : CbOk K (rMax K) (sc1 maxD) := sc1_ok fun d z F H v Q e r q => by
  cases d <;> simp only [maxD, reduceCtorEq, Option.bind_eq_some_iff, Option.map_eq_some_iff] at e
  obtain ⟨ns, e1, m, e2, rfl⟩ := e
  obtain ⟨a, vs, rfl, hl, rs⟩ := r.lstv
  rw [rs.ints e1] at hl
  obtain ⟨h1, h2⟩ := List.max?_eq_some_iff.mp e2
  refine ⟨a, ns, rfl, hl.seq, List.length_pos_of_mem h1, fun m' k1 k2 => ?_⟩
  have : m' = m := Int.le_antisymm (h2 m' k1) (k2 m h1)
  subst this
  exact q _ (.int _)
theorem ok_min2 : CbOk K (fun xs H Q => ∃ i j, xs = [.int i, .int j] ∧ Q (.int (if j < i then j else i)) H) (sc2 min2D) := sc2_ok fun d d' z F H v v' Q e r r' q => by
  cases d <;> cases d' <;> simp only [min2D, reduceCtorEq, Option.some.injEq] at e
  subst e
  rename_i i j
  refine ⟨i, j, by rw [r.intv, r'.intv], ?_⟩
  have e : (if j < i then j else i) = min i j := by omega
  rw [e]
  exact q _ (.int _)
theorem ok_max2 : CbOk K (fun xs H Q => ∃ i j, xs = [.int i, .int j] ∧ Q (.int (if j > i then j else i)) H) (sc2 max2D) := sc2_ok fun d d' z F H v v' Q e r r' q => by
  cases d <;> cases d' <;> simp only [max2D, reduceCtorEq, Option.some.injEq] at e
  subst e
  rename_i i j
  refine ⟨i, j, by rw [r.intv, r'.intv], ?_⟩
  have e : (if j > i then j else i) = max i j := by omega
  rw [e]
  exact q _ (.int _)
theorem ok_sum : CbOk K (rSum K) (sc1 sumD) := sc1_ok fun d z F H v Q e r q => by
  cases d <;> simp only [sumD, reduceCtorEq, Option.map_eq_some_iff] at e
  obtain ⟨ns, e1, rfl⟩ := e
  obtain ⟨a, vs, rfl, hl, rs⟩ := r.lstv
  rw [rs.ints e1] at hl
  exact ⟨a, ns, rfl, hl.seq, q _ (.int _)⟩
theorem ok_all : CbOk K (rAll K) (sc1 allD) := sc1_ok fun d z F H v Q e r q => by
  cases d <;> simp only [allD, reduceCtorEq, Option.map_eq_some_iff] at e
  obtain ⟨ns, e1, rfl⟩ := e
  obtain ⟨a, vs, rfl, hl, rs⟩ := r.lstv
  rw [rs.bools e1] at hl
  exact ⟨a, ns, rfl, hl.seq, q _ (.bl _)⟩
theorem ok_any : CbOk K (rAny K) (sc1 anyD) := sc1_ok fun d z F H v Q e r q => by
  cases d <;> simp only [anyD, reduceCtorEq, Option.map_eq_some_iff] at e
  obtain ⟨ns, e1, rfl⟩ := e
  obtain ⟨a, vs, rfl, hl, rs⟩ := r.lstv
  rw [rs.bools e1] at hl
  exact ⟨a, ns, rfl, hl.seq, q _ (.bl _)⟩
theorem ok_gcd : CbOk K rGcd (sc2 gcdD) := sc2_ok fun d d' z F H v v' Q e r r' q => by
  cases d <;> cases d' <;> simp only [gcdD, reduceCtorEq, Option.some.injEq] at e
  subst e
  exact ⟨_, _, by rw [r.intv, r'.intv], q _ (.int _)⟩
/-! isinstance -/
inductive Ty where
  | int | bool | list | tuple | str
def Ty.nm : Ty → String
  | .int => "int"
  | .bool => "bool"
  | .list => "list"
  | .tuple => "tuple"
  | .str => "str"
def isTy (t : Ty) : D → Option D
  | .non => some (.bl false)
  | .bl _ => match t with | .bool | .int => some (.bl true) | _ => some (.bl false)
  | .int _ => match t with | .int => some (.bl true) | _ => some (.bl false)
  | .str _ => match t with | .str => some (.bl true) | _ => some (.bl false)
  | .lst _ => match t with | .list => some (.bl true) | _ => some (.bl false)
  | .tup _ => match t with | .tuple => some (.bl true) | _ => some (.bl false)
  | _ => none
def ofTy (n : String) : Option Ty := if n = "int" then some .int else if n = "bool" then some .bool else if n = "list" then some .list else if n = "tuple" then some .tuple else if n = "str" then some .str else none
def isiD : D → D → Option D
  | d, .ob (.ty n) => (ofTy n).bind fun t => isTy t d
  | _, _ => none
theorem ofTy_nm {n : String} {t : Ty} (h : ofTy n = some t) : n = t.nm := by
  unfold ofTy at h
  repeat (split at h; (rename_i e; cases h; exact e))
  cases h
theorem kitAll (t : Ty) : kitB "NoneType" t.nm = some false ∧ kitB "bool" t.nm = some (match t with | .bool | .int => true | _ => false) ∧ kitB "int" t.nm = some (match t with | .int => true | _ => false)
    ∧ kitB "str" t.nm = some (match t with | .str => true | _ => false) ∧ kitB "list" t.nm = some (match t with | .list => true | _ => false) ∧ kitB "tuple" t.nm = some (match t with | .tuple => true | _ => false) := by
  cases t <;> decide +kernel
theorem Rep.tyx {F : Addr → Prop} {H : Hp} {v : V} {d : D} {t : Ty} {z : D} (r : Rep K F H v d) (h : isTy t d = some z) : ∃ n b, TyX K H v (.type n) ∧ kitB n t.nm = some b ∧ z = .bl b := by
  obtain ⟨k1, k2, k3, k4, k5, k6⟩ := kitAll t
  cases d <;> simp only [isTy, reduceCtorEq] at h
  · cases r; cases h; exact ⟨_, _, .base .non, k1, rfl⟩
  · cases r; exact ⟨_, _, .base (.bl _), k2, by cases t <;> cases h <;> rfl⟩
  · cases r; exact ⟨_, _, .base (.int _), k3, by cases t <;> cases h <;> rfl⟩
  · cases r; exact ⟨_, _, .base (.str _), k4, by cases t <;> cases h <;> rfl⟩
  · obtain ⟨a, vs, rfl, hl, rs⟩ := r.lstv
    exact ⟨_, _, .base (.lst hl.2), k5, by cases t <;> cases h <;> rfl⟩
  · obtain ⟨a, vs, rfl, hl, rs⟩ := r.tupv
    refine ⟨_, _, ?_, k6, by cases t <;> cases h <;> rfl⟩
    rcases hl with ⟨_, hl | ⟨o, hl⟩⟩ | ⟨o, its, n, e, c, _⟩
    · exact .base (.tup hl)
    · exact .fTuple hl
    · exact .kTuple e c
theorem ok_isi : CbOk K (rIsi K) (sc2 isiD) := sc2_ok fun d d' z F H v v' Q e r r' q => by
  cases d' <;> simp only [isiD, reduceCtorEq] at e
  rename_i w
  cases w <;> simp only [reduceCtorEq, Option.bind_eq_some_iff] at e
  rename_i n
  obtain ⟨t, e1, e2⟩ := e
  obtain ⟨m, b, h1, h2, rfl⟩ := r.tyx e2
  refine ⟨v, .ty n, .type m, .type n, b, by rw [r'.obv], .ty n, h1, kit_ty ?_, q _ (.bl _)⟩
  rw [ofTy_nm e1]
  exact h2
/-! list, tuple, sorted -/
def nw1 (f : D → Option C) : List D → Option C
  | [d] => f d
  | _ => none
def listC : D → Option C
  | .lst ds => some (.ow (ds.map .fz))
  | .tup ds => some (.ow (ds.map .fz))
  | _ => none
def tupleC : D → Option C
  | .lst ds => some (.tp (ds.map .fz))
  | .tup ds => some (.fz (.tup ds))
  | _ => none
theorem nw1_ok {r : List V → Hp → VK → Prop} {f : D → Option C} (h : ∀ d z F H v Q, f d = some z → Rep K F H v d → (((∃ d, z = .fz d) ∨ (∃ cs, z = .ow cs) ∨ ∃ cs, z = .tp cs) → MadeOk K F H z Q) → r [v] H Q) : CbOk K r (nw1 f) := fun ds z F H vs Q e rs q => by
  match ds, e with
  | [d], e =>
    obtain ⟨v, rfl, rv⟩ := rs.one
    exact h d z F H v Q e rv q
theorem ok_list : CbOk K (fun xs H Q => ∃ p ys, xs = [.ref p] ∧ (SqL K H p ys ∨ SqT K H p ys) ∧ ∀ l, H l = none → Q (.ref l) (upd H l (.lst ys))) (nw1 listC) := nw1_ok fun d z F H v Q e r q => by
  cases d <;> simp only [listC, reduceCtorEq, Option.some.injEq] at e <;> subst e
  · obtain ⟨a, vs, rfl, hl, rs⟩ := r.lstv
    exact ⟨a, vs, rfl, .inl hl.seq, fun l nl => q (.inr (.inl ⟨_, rfl⟩)) l _ nl rs.cells⟩
  · obtain ⟨a, vs, rfl, hl, rs⟩ := r.tupv
    exact ⟨a, vs, rfl, .inr hl.seq, fun l nl => q (.inr (.inl ⟨_, rfl⟩)) l _ nl rs.cells⟩
theorem ok_tuple : CbOk K (fun xs H Q => ∃ p ys, xs = [.ref p] ∧ ((SqL K H p ys ∧ ∀ l, H l = none → Q (.ref l) (upd H l (.tup ys))) ∨ (SqT K H p ys ∧ Q (.ref p) H))) (nw1 tupleC) := nw1_ok fun d z F H v Q e r q => by
  cases d <;> simp only [tupleC, reduceCtorEq, Option.some.injEq] at e <;> subst e
  · obtain ⟨a, vs, rfl, hl, rs⟩ := r.lstv
    exact ⟨a, vs, rfl, .inl ⟨hl.seq, fun l nl => q (.inr (.inr ⟨_, rfl⟩)) l _ nl rs.cells⟩⟩
  · obtain ⟨a, vs, rfl, hl, rs⟩ := r.tupv
    exact ⟨a, vs, rfl, .inr ⟨hl.seq, q (.inl ⟨_, rfl⟩) _ (.tup hl rs)⟩⟩
def sortC : D → Option C
  | .lst ds => (intsOf ds).map fun ns => .ow ((ns.mergeSort (· ≤ ·)).map fun i => .fz (.int i))
  | _ => none
theorem Reps.ofInts {F : Addr → Prop} {H : Hp} : ∀ ns : List Int, RepCs K F H (ns.map V.int) (ns.map fun i => C.fz (.int i)) []
  | [] => .nil
  | i :: ns => by
    have := RepCs.cons (RepC.fz (K := K) (F := F) (H := H) (.int i)) (Reps.ofInts ns)
    simpa using this
theorem perm_sorted_eq : ∀ {l m : List Int}, l.Perm m → l.Pairwise (· ≤ ·) → m.Pairwise (· ≤ ·) → l = m := by
  intro l m p h1 h2
  exact List.Perm.eq_of_pairwise (fun a b _ _ => Int.le_antisymm) h1 h2 p
theorem ok_sort : CbOk K (rSortedI K) (nw1 sortC) := nw1_ok fun d z F H v Q e r q => by
  cases d <;> simp only [sortC, reduceCtorEq, Option.map_eq_some_iff] at e
  obtain ⟨ns, e1, rfl⟩ := e
  obtain ⟨a, vs, rfl, hl, rs⟩ := r.lstv
  rw [rs.ints e1] at hl
  refine ⟨a, ns, rfl, hl.seq, fun ns' p hp hs np => ?_⟩
  have e2 : ns' = ns.mergeSort (· ≤ ·) := perm_sorted_eq (hp.trans (List.mergeSort_perm ns _).symm) hs (by
    have := List.pairwise_mergeSort (le := fun a b : Int => decide (a ≤ b)) (fun a b c h1 h2 => by simp at *; omega) (fun a b => by simp; omega) ns
    simpa using this)
  rw [e2]
  exact q (.inr (.inl ⟨_, rfl⟩)) p _ np (Reps.ofInts _)
end

/-! ### the rules -/
section
variable {X : Cx} {W : WX} {pos p : Pos} {e a b : Expr} {es : List Expr} {x : Str} {id T : String} {r : List V → Hp → VK → Prop} {f : List D → Option C} {m : M (List C)}
theorem d_cb (hc : CallR X (.builtin id) r) (hf : CbOk X.K r f) (hm : X.mg x = none) (ha : PA X (e :: es) (aOf X.K W m)) (hg : Gl X x := by rfl) (hv : bootBuiltins x = some (.builtin id) := by decide +kernel) (hn : x ≠ "__name__" := by decide) (hdb : (x == ("__debug__" : Str)) = false := by decide)
    (he : starEach (e :: es) X.env = (false, eval e X.env) :: starEach es X.env := by rfl) (hpl : (backTo pos (starEach es X.env)).any (·.1) = false := by rfl) : PE X (.Call (.Name x p) (e :: es) [] pos) (tOf X.K W (eCB f m)) :=
  (pe_callB hc hg hm hv ha hn hdb he hpl).imp fun _ _ _ h => cb_ok hf h
theorem d_cbty (hc : CallR X (.type T) r) (hf : CbOk X.K r f) (hm : X.mg x = none) (ha : PA X (e :: es) (aOf X.K W m)) (hg : Gl X x := by rfl) (hv : bootBuiltins x = some (.type T) := by decide +kernel) (hn : x ≠ "__name__" := by decide) (hdb : (x == ("__debug__" : Str)) = false := by decide)
    (he : starEach (e :: es) X.env = (false, eval e X.env) :: starEach es X.env := by rfl) (hpl : (backTo pos (starEach es X.env)).any (·.1) = false := by rfl) : PE X (.Call (.Name x p) (e :: es) [] pos) (tOf X.K W (eCB f m)) :=
  (pe_callTy hc hg hm hv ha hn hdb he hpl).imp fun _ _ _ h => cb_ok hf h
theorem d_cbfun (hc : CallR X (.builtin id) r) (hf : CbOk X.K r f) (hm : X.mg x = some (.builtin id)) (ha : PA X (e :: es) (aOf X.K W m)) (hg : Gl X x := by rfl) (hdb : (x == ("__debug__" : Str)) = false := by decide)
    (he : starEach (e :: es) X.env = (false, eval e X.env) :: starEach es X.env := by rfl) (hpl : (backTo pos (starEach es X.env)).any (·.1) = false := by rfl) : PE X (.Call (.Name x p) (e :: es) [] pos) (tOf X.K W (eCB f m)) :=
  (pe_callBfun hc hg hm ha hdb he hpl).imp fun _ _ _ h => cb_ok hf h
/-- a built-in's name as a value -/
theorem d_bltn {v : V} {u : Value} (hm : X.mg x = none) (hv : bootBuiltins x = some u := by decide +kernel) (rr : RelV v u := by rfl) (hg : Gl X x := by rfl) (hn : x ≠ "__name__" := by decide) (hd : (x == ("__debug__" : Str)) = false := by decide) : PE X (.Name x pos) (tOf X.K W (ret (.ob v))) :=
  (pe_bltn hg hm hv rr hn hd).imp fun _ H _ h => con_ok (fun F => .ob v) h
/-- one argument, a name whose value stays as it is; the answer a scalar -/
def eCBV (f : List D → Option C) (i : Nat) : M C := fun ρ => match ρ[i]? with
  | none => .st
  | some .no => .st
  | some c => match f [fzD c] with
    | some (.fz z) => if isScal z then .ok (.fz z) ρ else .st
    | _ => .st
/-- what a name holds, seen frozen for a moment -/
theorem Sta.peek {K : PySem.W.Frag} {F : Addr → Prop} {H : Hp} {σ : L2.St} {ρ : Rho} {τ : List Pr} {i : Nat} {c : C} (s : Sta K F H σ ρ τ) (e : ρ[i]? = some c) (hc : c ≠ .no) : ∃ v F', σ[i]? = some (some v) ∧ Rep K F' H v (fzD c) := by
  obtain ⟨v, ev, s1⟩ := s.get e hc
  obtain ⟨F', s2⟩ := s1.freeze hc
  exact ⟨v, F', ev, s2.fzOf⟩
theorem cbv_ok {i : Nat} (hf : CbOk X.K r f) {σ : L2.St} {H : Hp} {Q : VK} (h : tOf X.K W (eCBV f i) σ H Q) : tCB r (tCons (tVar i) tNil) σ H Q := by
  obtain ⟨F, ρ, τ, s, g⟩ := h
  unfold eCBV at g
  split at g
  · exact g.elim
  · exact g.elim
  · rename_i c hc ec
    obtain ⟨v, F', ev, rv⟩ := s.peek ec (by rintro rfl; exact hc rfl)
    split at g
    · rename_i z hz
      split at g
      · rename_i hs
        refine ⟨v, ev, hf _ _ F' H [v] Q hz (.cons rv .nil) fun _ u ru => ?_⟩
        obtain ⟨w, hw⟩ := Rep.ofScal (K := X.K) (F := F) (H := H) hs
        have : u = w := by
          have h1 := hw F' H
          cases z <;> simp only [isScal, Bool.false_eq_true] at hs <;> cases h1 <;> cases ru <;> rfl
        subst this
        exact g _ F H (by simp) (s.push (hw F H))
      · exact g.elim
    · exact g.elim
theorem d_cbV (i : Nat) {y : Str} {p2 : Pos} (hc : CallR X (.builtin id) r) (hf : CbOk X.K r f) (hm : X.mg x = none) (hN : X.N[i]? = some y := by rfl) (hy : Vis X.env.scope y := by first | exact Or.inl rfl | exact Or.inr (Or.inl rfl) | exact Or.inr (Or.inr rfl))
    (hg : Gl X x := by rfl) (hv : bootBuiltins x = some (.builtin id) := by decide +kernel) (hn : x ≠ "__name__" := by decide) (hdb : (x == ("__debug__" : Str)) = false := by decide) (hd2 : (y == ("__debug__" : Str)) = false := by decide) (hcd : (y == ("__classdict__" : Str)) = false := by decide)
    (he : starEach [Expr.Name y p2] X.env = (false, eval (Expr.Name y p2) X.env) :: starEach [] X.env := by rfl) : PE X (.Call (.Name x p) [.Name y p2] [] pos) (tOf X.K W (eCBV f i)) :=
  (pe_callB hc hg hm hv (pa_cons (pe_var hN hy hd2 hcd) pa_nil he) hn hdb he rfl).imp fun _ _ _ h => cbv_ok hf h
/-- t in x, x a name whose value stays as it is -/
def eOpV (f : D → D → Option D) (a : M C) (i : Nat) : M C := fun ρ => (a ρ).bind fun c ρ => match ρ[i]? with
  | none => .st
  | some .no => .st
  | some d => match f (fzD c) (fzD d) with
    | some z => if isScal z then .ok (.fz z) ρ else .st
    | none => .st
theorem opV_ok {f : D → D → Option D} {r : R2} {ma : M C} {i : Nat} (hf : OpOk X.K r f) {σ : L2.St} {H : Hp} {Q : VK} (h : tOf X.K W (eOpV f ma i) σ H Q) : tOp r (tOf X.K W ma) (tVar i) σ H Q := by
  obtain ⟨F, ρ, τ, s, g⟩ := h
  unfold eOpV at g
  rw [Good.bind] at g
  refine run1 s (g.imp (fun c ρ1 q v F1 H1 s1 => ?_) fun _ _ q => q)
  split at q
  · exact q.elim
  · exact q.elim
  · rename_i d hd ed
    have nd : d ≠ .no := by rintro rfl; exact hd rfl
    -- the two frozen together
    obtain ⟨w, ew, s2⟩ := s1.get ed nd
    obtain ⟨F2, s3⟩ := s2.freeze nd
    split at q
    · rename_i z hz
      split at q
      · rename_i hs
        refine ⟨w, ew, hf _ _ z F2 H1 v w Q hz s3.drop.fzOf s3.fzOf fun u ru => ?_⟩
        obtain ⟨w', hw⟩ := Rep.ofScal (K := X.K) (F := F1) (H := H1) hs
        have : u = w' := by
          have h1 := hw F2 H1
          cases z <;> simp only [isScal, Bool.false_eq_true] at hs <;> cases h1 <;> cases ru <;> rfl
        subst this
        exact q _ F1 H1 (by simp) (s1.drop.push (hw F1 H1))
      · exact q.elim
    · exact q.elim
theorem d_cmpV (i : Nat) {op : CmpOp} {r : R2} {f : D → D → Option D} {y : Str} {p2 : Pos} {ma : M C} (ho : OpR X (compareOp op) r) (hf : OpOk X.K r f) (ha : PE X a (tOf X.K W ma)) (hN : X.N[i]? = some y := by rfl)
    (hy : Vis X.env.scope y := by first | exact Or.inl rfl | exact Or.inr (Or.inl rfl) | exact Or.inr (Or.inr rfl)) (hm : behindInMarks op (.Name y p2) = false := by first | exact nomark _ | rfl)
    (hd2 : (y == ("__debug__" : Str)) = false := by decide) (hcd : (y == ("__classdict__" : Str)) = false := by decide) : PE X (.Compare a [op] [.Name y p2] pos) (tOf X.K W (eOpV f ma i)) :=
  (pe_cmpR ho ha (pe_var hN hy hd2 hcd) hm).imp fun _ _ _ h => opV_ok hf h
theorem dt_cmpV (i : Nat) {op : CmpOp} {r : R2} {f : D → D → Option D} {y : Str} {p2 : Pos} {ma : M C} (ho : OpR X (compareOp op) r) (hf : OpOk X.K r f) (ha : PE X a (tOf X.K W ma)) (hN : X.N[i]? = some y := by rfl)
    (hy : Vis X.env.scope y := by first | exact Or.inl rfl | exact Or.inr (Or.inl rfl) | exact Or.inr (Or.inr rfl)) (hm : behindInMarks op (.Name y p2) = false := by first | exact nomark _ | rfl)
    (hd2 : (y == ("__debug__" : Str)) = false := by decide) (hcd : (y == ("__classdict__" : Str)) = false := by decide) : PT X (.Compare a [op] [.Name y p2] pos) (bOf X.K W (asB (eOpV f ma i))) :=
  (pt_cmpR ho ha (pe_var hN hy hd2 hcd) hm).imp fun σ H Q h => opV_ok hf (asB_ok h)
end
end Dn

/-! Den6: statements, targets, loops, comprehensions. -/
namespace Dn
open PySem PySem.Spec PyProof.Rows L2

inductive SR where
  | st | er (e : Er) (ρ : Rho) | nx (ρ : Rho) | rt (c : C) | bk (ρ : Rho) | ct (ρ : Rho)
abbrev SM := Rho → SR
def R.thn {α : Type} (r : R α) (k : α → Rho → SR) : SR := match r with
  | .st => .st
  | .er e ρ => .er e ρ
  | .ok a ρ => k a ρ
@[simp] theorem R.thn_ok {α : Type} (a : α) (ρ : Rho) (k : α → Rho → SR) : (R.ok a ρ).thn k = k a ρ := rfl
@[simp] theorem R.thn_st {α : Type} (k : α → Rho → SR) : (R.st : R α).thn k = .st := rfl
@[simp] theorem R.thn_er {α : Type} (e : Er) (ρ : Rho) (k : α → Rho → SR) : (R.er e ρ : R α).thn k = .er e ρ := rfl
section
variable (K : PySem.W.Frag)
def serP (W : WX) (τ : List Pr) : Er → Rho → Prop := fun e ρ => ∀ σ F H cls d, ErOk K F H e cls d → Sta K F H σ ρ τ → W cls d σ H
def GoodS (W : WX) (τ : List Pr) (r : SR) (D : Ends) : Prop := match r with
  | .st => False
  | .er e ρ => serP K W τ e ρ
  | .nx ρ => ∀ σ F H, Sta K F H σ ρ τ → D.nx σ H
  | .bk ρ => ∀ σ F H, Sta K F H σ ρ τ → D.bk σ H
  | .ct ρ => ∀ σ F H, Sta K F H σ ρ τ → D.ct σ H
  | .rt c => ∀ v F H, c ≠ .no → All K F H ((some v, c) :: τ) → D.rt v H
def sOf (W : WX) (m : SM) : TS := fun D σ H => ∃ F ρ τ, Sta K F H σ ρ τ ∧ GoodS K W τ (m ρ) D
end
theorem serP.er {K : PySem.W.Frag} {W : WX} {τ : List Pr} {σ : L2.St} {e : Er} {ρ : Rho} (h : serP K W τ e ρ) : erP K W σ τ e ρ := fun F H cls d x s => h σ F H cls d x s
theorem serP.dropL {K : PySem.W.Frag} {W : WX} {q τ : List Pr} {e : Er} {ρ : Rho} (h : serP K W τ e ρ) : serP K W (q ++ τ) e ρ := fun σ F H cls d x s => h σ F H cls d x s.dropL
/-- an expression at the head of a statement -/
theorem GoodS.thn {α : Type} {K : PySem.W.Frag} {W : WX} {τ : List Pr} {σ : L2.St} {D : Ends} {r : R α} {k : α → Rho → SR} (h : GoodS K W τ (r.thn k) D) : Good r (fun a ρ => GoodS K W τ (k a ρ) D) (erP K W σ τ) := by
  cases r with
  | st => exact h
  | er e ρ => exact serP.er h
  | ok a ρ => exact h

def sNext : SM := fun ρ => .nx ρ
def sSeq (a b : SM) : SM := fun ρ => match a ρ with
  | .nx ρ' => b ρ'
  | r => r
def sBrk : SM := fun ρ => .bk ρ
def sCnt : SM := fun ρ => .ct ρ
def sExpr (m : M C) : SM := fun ρ => (m ρ).thn fun _ ρ => .nx ρ
def sRet (m : M C) : SM := fun ρ => (m ρ).thn fun c _ => .rt c
def sIf (t : M Bool) (a b : SM) : SM := fun ρ => (t ρ).thn fun c ρ => if c = true then a ρ else b ρ
def put (i : Nat) (c : C) (ρ : Rho) : Option Rho := if i < ρ.length then some (ρ.set i c) else none
def sSet (i : Nat) (m : M C) : SM := fun ρ => (m ρ).thn fun c ρ => if i < ρ.length then .nx (ρ.set i c) else .st
section
variable {X : Cx} {W : WX} {pos : Pos} {e a b : Expr} {es : List Expr} {st : Stmt} {rest : List Stmt} {m n : SM}
theorem ds_nil : PSs X [] (sOf X.K W sNext) := pss_nil.imp fun D σ H ⟨F, ρ, τ, s, g⟩ => g σ F H s
theorem ds_cons (h1 : PS X st (sOf X.K W m)) (h2 : PSs X rest (sOf X.K W n)) : PSs X (st :: rest) (sOf X.K W (sSeq m n)) := (pss_cons h1 h2).imp fun D σ H ⟨F, ρ, τ, s, g⟩ => by
  refine ⟨F, ρ, τ, s, ?_⟩
  unfold sSeq at g
  cases hm : m ρ with
  | nx ρ' => rw [hm] at g; exact fun σ' F' H' s' => ⟨F', ρ', τ, s', g⟩
  | st => rw [hm] at g; exact g
  | er e ρ' => rw [hm] at g; exact g
  | rt c => rw [hm] at g; exact g
  | bk ρ' => rw [hm] at g; exact g
  | ct ρ' => rw [hm] at g; exact g
theorem ds_one (h1 : PS X st (sOf X.K W m)) : PSs X [st] (sOf X.K W m) := pss_one h1
theorem ds_pass : PS X (.Pass pos) (sOf X.K W sNext) := ps_pass.imp fun D σ H ⟨F, ρ, τ, s, g⟩ => g σ F H s
theorem ds_break : PS X (.Break pos) (sOf X.K W sBrk) := ps_break.imp fun D σ H ⟨F, ρ, τ, s, g⟩ => g σ F H s
theorem ds_continue : PS X (.Continue pos) (sOf X.K W sCnt) := ps_continue.imp fun D σ H ⟨F, ρ, τ, s, g⟩ => g σ F H s
theorem ds_doc {x j pos'} : PS X (.Expr (.Constant (.str x) j pos) pos') (sOf X.K W sNext) := ps_doc.imp fun D σ H ⟨F, ρ, τ, s, g⟩ => g σ F H s
theorem ds_expr {m : M C} (h : PE X e (tOf X.K W m)) (hs : swapsWith e none pos.line X.env = pure false := by rfl) : PS X (.Expr e pos) (sOf X.K W (sExpr m)) := (ps_expr h hs).imp fun D σ H ⟨F, ρ, τ, s, g⟩ =>
  run1 s ((GoodS.thn g).imp (fun c ρ1 q v F1 H1 s1 => q σ F1 H1 s1.drop) fun _ _ q => q)
theorem ds_ret {m : M C} (h : PE X e (tOf X.K W m)) : PS X (.Return (some e) pos) (sOf X.K W (sRet m)) := (ps_ret h).imp fun D σ H ⟨F, ρ, τ, s, g⟩ =>
  runC s ((GoodS.thn g).imp (fun c ρ1 q v F1 H1 nc s1 => q v F1 H1 nc (by
    have al := s1.2.perm List.perm_append_comm
    have al2 : All X.K F1 H1 (((some v, c) :: τ) ++ σ.zip ρ1) := al
    exact (al2.perm List.perm_append_comm).dropL)) fun _ _ q => q)
theorem ds_retN : PS X (.Return none pos) (sOf X.K W (sRet (ret .non))) := ps_retN.imp fun D σ H ⟨F, ρ, τ, s, g⟩ => g .non F H (by simp) (by
  have al : All X.K F H (τ ++ σ.zip ρ) := s.all
  exact ((s.2.dropL).push .non))
theorem ds_if {t : M Bool} {sa sb : List Stmt} (h : PT X e (bOf X.K W t)) (ha : PSs X sa (sOf X.K W m)) (hb : PSs X sb (sOf X.K W n)) : PS X (.If e sa sb pos) (sOf X.K W (sIf t m n)) := (ps_if h ha hb).imp fun D σ H ⟨F, ρ, τ, s, g⟩ =>
  runB s ((GoodS.thn g).imp (fun c ρ1 q F1 H1 s1 => by
    cases c with
    | true => exact ⟨F1, ρ1, τ, s1, q⟩
    | false => exact ⟨F1, ρ1, τ, s1, q⟩) fun _ _ q => q)
theorem ds_set (i : Nat) {x : Str} {pos' : Pos} {m : M C} (hN : X.N.Nodup) (he : PE X e (tOf X.K W m)) (hi : X.N[i]? = some x := by rfl) (hx : Loc X.env.scope x := by first | exact Or.inl rfl | exact Or.inr rfl)
    (hs : swapsWith e (some (.Name x pos')) pos.line X.env = pure false := by rfl) (hf : X.fn x = true ∨ X.env.scope.names.lookup x = some .local := by first | exact .inl rfl | exact .inr rfl) :
    PS X (.Assign [.Name x pos'] e pos) (sOf X.K W (sSet i m)) := (ps_set hN hi hx he hs hf).imp fun D σ H ⟨F, ρ, τ, s, g⟩ =>
  runC s ((GoodS.thn g).imp (fun c ρ1 q v F1 H1 nc s1 => by
    split at q
    · rename_i hl
      exact q _ F1 H1 (s1.put (by rw [s1.1]; exact hl))
    · exact q.elim) fun _ _ q => q)
end

/-! ### targets -/
inductive Tg where
  | nm (i : Nat) | tup (ts : List Tg)
mutual
def Tg.slots : Tg → List Nat
  | .nm i => [i]
  | .tup ts => slotsL ts
def slotsL : List Tg → List Nat
  | [] => []
  | t :: ts => t.slots ++ slotsL ts
end
mutual
def Tg.put : Tg → C → Rho → Option Rho
  | .nm i, c, ρ => if i < ρ.length then some (ρ.set i c) else none
  | .tup ts, c, ρ => match c with
    | .fz (.tup ds) => putL ts (ds.map .fz) ρ
    | .tp cs => putL ts cs ρ
    | _ => none
def putL : List Tg → List C → Rho → Option Rho
  | [], [], ρ => some ρ
  | t :: ts, c :: cs, ρ => (t.put c ρ).bind (putL ts cs)
  | _, _, _ => none
end
/-- the slots but these stand -/
def Keeps (l : List Nat) (σ σ' : L2.St) : Prop := σ'.length = σ.length ∧ ∀ j, j ∉ l → σ'[j]? = σ[j]?
theorem Keeps.refl (l : List Nat) (σ : L2.St) : Keeps l σ σ := ⟨rfl, fun _ _ => rfl⟩
theorem Keeps.trans {l l' : List Nat} {σ σ' σ'' : L2.St} (a : Keeps l σ σ') (b : Keeps l' σ' σ'') : Keeps (l ++ l') σ σ'' := ⟨b.1.trans a.1, fun j h => by
  rw [List.mem_append, not_or] at h
  exact (b.2 j h.2).trans (a.2 j h.1)⟩
section
variable (K : PySem.W.Frag)
def gOf (l : List Nat) (put : C → Rho → Option Rho) : TG := fun v σ H Q => ∃ F ρ τ c ρ', c ≠ .no ∧ Sta K F H σ ρ ((some v, c) :: τ) ∧ put c ρ = some ρ' ∧ ∀ σ' F' H', Keeps l σ σ' → Sta K F' H' σ' ρ' τ → Q σ' H'
def gsOf (l : List Nat) (put : List C → Rho → Option Rho) : TGs := fun vs σ H Q => ∃ F ρ τ cs ρ', vs.length = cs.length ∧ (∀ c ∈ cs, c ≠ .no) ∧ Sta K F H σ ρ (tmps vs cs ++ τ) ∧ put cs ρ = some ρ' ∧ ∀ σ' F' H', Keeps l σ σ' → Sta K F' H' σ' ρ' τ → Q σ' H'
end
theorem _root_.L2.PG.imp {X : Cx} {e : Expr} {t u : TG} (h : PG X e t) (f : ∀ v σ H Q, u v σ H Q → t v σ H Q) : PG X e u := ⟨fun pins s σ H v w Q I r hw => h.run pins s σ H v w Q I r (f v σ H Q hw)⟩
theorem _root_.L2.PGs.imp {X : Cx} {e : List Expr} {t u : TGs} (h : PGs X e t) (f : ∀ v σ H Q, u v σ H Q → t v σ H Q) : PGs X e u := ⟨fun pins s σ H v w Q I r hw => h.run pins s σ H v w Q I r (f v σ H Q hw)⟩
theorem keeps_set (i : Nat) (σ : L2.St) (x : Option V) : Keeps [i] σ (σ.set i x) := ⟨List.length_set, fun j h => by
  rw [List.getElem?_set_ne]
  intro e; exact h (by simp [e])⟩
section
variable {X : Cx} {pos : Pos} {e : Expr} {es : List Expr}
theorem dg_nm (i : Nat) {x : Str} (hN : X.N.Nodup) (hi : X.N[i]? = some x := by rfl) (hx : Loc X.env.scope x := by first | exact Or.inl rfl | exact Or.inr rfl) (hf : X.fn x = true ∨ X.env.scope.names.lookup x = some .local := by first | exact .inl rfl | exact .inr rfl) :
    PG X (.Name x pos) (gOf X.K [i] (Tg.put (.nm i))) := (pg_name hN hi hx hf).imp fun v σ H Q ⟨F, ρ, τ, c, ρ', nc, s, hp, q⟩ => by
  simp only [Tg.put] at hp
  split at hp
  · rename_i hl
    cases hp
    exact q _ F H (keeps_set i σ _) (s.put (by rw [s.1]; exact hl))
  · cases hp
theorem dg_nil : PGs X [] (gsOf X.K [] (putL [])) := pgs_nil.imp fun vs σ H Q ⟨F, ρ, τ, cs, ρ', hl, hn, s, hp, q⟩ => by
  cases cs with
  | nil =>
    simp only [putL, Option.some.injEq] at hp
    subst hp
    cases vs with
    | nil => exact ⟨rfl, q σ F H (Keeps.refl _ _) s⟩
    | cons _ _ => cases hl
  | cons _ _ => simp [putL] at hp
theorem dg_cons {t : Tg} {ts : List Tg} {l l' : List Nat} (h1 : PG X e (gOf X.K l (Tg.put t))) (h2 : PGs X es (gsOf X.K l' (putL ts))) (hs : (assignEach (e :: es) X.env).map (·.2) = assign e X.env :: (assignEach es X.env).map (·.2) := by rfl) :
    PGs X (e :: es) (gsOf X.K (l ++ l') (putL (t :: ts))) := (pgs_cons h1 h2 hs).imp fun vs σ H Q ⟨F, ρ, τ, cs, ρ', hl, hn, s, hp, q⟩ => by
  cases cs with
  | nil => simp [putL] at hp
  | cons c cs =>
    cases vs with
    | nil => cases hl
    | cons v vs =>
      simp only [putL, Option.bind_eq_some_iff] at hp
      obtain ⟨ρ1, p1, p2⟩ := hp
      refine ⟨v, vs, rfl, F, ρ, tmps vs cs ++ τ, c, ρ1, hn c List.mem_cons_self, s, p1, fun σ1 F1 H1 k1 s1 => ?_⟩
      exact ⟨F1, ρ1, τ, cs, ρ', Nat.succ.inj hl, fun c' m => hn c' (List.mem_cons_of_mem _ m), s1, p2, fun σ2 F2 H2 k2 s2 => q σ2 F2 H2 (k1.trans k2) s2⟩
theorem dg_tup {k : Nat} {ts : List Tg} {l : List Nat} {n : Nat} (hc : X.calm = true) (h : PGs X es (gsOf X.K l (putL ts))) (hn : (assignEach es X.env).length = n := by rfl) (hk : ts.length = n := by rfl) (hst : (assignEach es X.env).findIdx? (·.1) = none := by rfl) :
    PG X (.Tuple es k pos) (gOf X.K l (Tg.put (.tup ts))) := (pg_tup hc h hn hst).imp fun v σ H Q ⟨F, ρ, τ, c, ρ', nc, s, hp, q⟩ => by
  have len : ∀ {ts : List Tg} {cs : List C} {ρ ρ' : Rho}, putL ts cs ρ = some ρ' → cs.length = ts.length := by
    intro ts
    induction ts with
    | nil => intro cs ρ ρ' h; cases cs <;> simp [putL] at h ⊢
    | cons t ts ih =>
      intro cs ρ ρ' h
      cases cs with
      | nil => simp [putL] at h
      | cons c cs =>
        simp only [putL, Option.bind_eq_some_iff] at h
        obtain ⟨ρ1, _, h2⟩ := h
        simp [ih h2]
  simp only [Tg.put] at hp
  split at hp
  · rename_i ds
    obtain ⟨a, vs, rfl, hl, rs⟩ := s.fzOf.tupv
    have l1 := len hp
    rw [List.length_map] at l1
    refine ⟨a, vs, rfl, hl.seq, by rw [rs.len, l1, hk], F, ρ, τ, ds.map .fz, ρ', by rw [rs.len, List.length_map], fun c m => ?_, ?_, hp, q⟩
    · obtain ⟨d, _, rfl⟩ := List.mem_map.mp m
      simp
    · exact s.drop.on fun l ⟨O, rp, al⟩ => ⟨O, by
        have := rs.cells.toP rp
        rw [List.append_assoc]
        exact this, al⟩
  · rename_i cs
    obtain ⟨a, vs, O, rfl, ha, rc⟩ := s.tpOf
    have l1 := len hp
    refine ⟨a, vs, rfl, .of ha, by rw [rc.len, l1, hk], F, ρ, τ, cs, ρ', rc.len, rc.ne, ?_, hp, q⟩
    refine s.on fun l ⟨O, rp, nd, nf, dm⟩ => ?_
    cases rp with
    | cons c rp =>
      cases c with
      | tp e2 rc2 =>
        rw [ha] at e2
        cases e2
        refine ⟨_, ?_, (List.nodup_cons.mp nd).2, fun a m => nf a (List.mem_cons_of_mem _ m), dm⟩
        have := rc2.toP rp
        rw [List.append_assoc]
        exact this
  · cases hp

/-- target = e -/
def sAsg (put : C → Rho → Option Rho) (m : M C) : SM := fun ρ => (m ρ).thn fun c ρ => match put c ρ with
  | some ρ' => .nx ρ'
  | none => .st
theorem ds_asg {W : WX} {tg : Expr} {m : M C} {l : List Nat} {put : C → Rho → Option Rho} (he : PE X e (tOf X.K W m)) (hg : PG X tg (gOf X.K l put)) (hs : swapsWithSole [tg] e pos.line X.env = pure false := by rfl) (hw : swappedStores [tg] e X.env = pure none := by rfl)
    (h1 : (assignEach [tg] X.env).map (·.2) = [assign tg X.env] := by rfl) : PS X (.Assign [tg] e pos) (sOf X.K W (sAsg put m)) := (ps_asg he hg hs hw h1).imp fun D σ H ⟨F, ρ, τ, s, g⟩ =>
  runC s ((GoodS.thn g).imp (fun c ρ1 q v F1 H1 nc s1 => by
    split at q
    · rename_i ρ' hp
      exact ⟨F1, ρ1, τ, c, ρ', nc, s1, hp, fun σ' F' H' _ s' => q σ' F' H' s'⟩
    · exact q.elim) fun _ _ q => q)
/-- a, b = x, y -/
def sPar (i j : Nat) (m : M (List C)) : SM := fun ρ => (m ρ).thn fun cs ρ => match cs with
  | [c, d] => if i < ρ.length ∧ j < ρ.length then .nx ((ρ.set i c).set j d) else .st
  | _ => .st
theorem ds_par {W : WX} (i j : Nat) {x y : Str} {a b : Expr} {m : M (List C)} {px py pt : Pos} {kt k2 pt2} (hN : X.N.Nodup) (ha : PA X [a, b] (aOf X.K W m)) (hc : X.calm = true := by rfl) (hi : X.N[i]? = some x := by rfl) (hj : X.N[j]? = some y := by rfl) (hij : i ≠ j := by decide)
    (hx : X.env.scope.names.lookup x = some .local := by rfl) (hy : X.env.scope.names.lookup y = some .local := by rfl)
    (hw : swappedStores [.Tuple [.Name x px, .Name y py] kt pt] (.Tuple [a, b] k2 pt2) X.env = pure (some [x, y]) := by rfl)
    (hs : swapsWithSole [.Tuple [.Name x px, .Name y py] kt pt] (.Tuple [a, b] k2 pt2) pos.line X.env = pure false := by rfl) :
    PS X (.Assign [.Tuple [.Name x px, .Name y py] kt pt] (.Tuple [a, b] k2 pt2) pos) (sOf X.K W (sPar i j m)) := (ps_par hc hN hi hj hij hx hy ha hw hs).imp fun D σ H ⟨F, ρ, τ, s, g⟩ =>
  runA s ((GoodS.thn g).imp (fun cs ρ1 q vs F1 H1 hl hn s1 => by
    split at q
    · rename_i c d
      split at q
      · rename_i hij
        match vs, hl, s1 with
        | [v, w], _, s1 =>
          have s2 : Sta X.K F1 H1 σ ρ1 ((some v, c) :: (some w, d) :: τ) := s1
          have s3 := s2.put (i := i) (by rw [s2.1]; exact hij.1)
          have s4 := s3.put (i := j) (by rw [s3.1, List.length_set]; exact hij.2)
          exact ⟨v, w, rfl, q _ F1 H1 s4⟩
      · exact q.elim
    · exact q.elim) fun _ _ q => q)
end
end Dn

/-! Den7: what is walked; for, while, comprehensions. -/
namespace Dn
open PySem PySem.Spec PyProof.Rows L2

/-- the iterator J yields the trees ds, while the temps π stand -/
structure ItOk (K : PySem.W.Frag) (J : It) (π : List Pr) (ds : List D) : Prop where
  step : ∀ i d F H σ ρ τ, Sta K F H σ ρ (π ++ τ) → ds[i]? = some d → J.go i H ∧ ∀ x H', J.yld i H x H' → ∃ F', Sta K F' H' σ ρ ((some x, .fz d) :: (π ++ τ))
  stop : ∀ F H σ ρ τ, Sta K F H σ ρ (π ++ τ) → J.stop ds.length H
def iOf (K : PySem.W.Frag) (W : WX) (m : M (List D)) : TI := fun σ H R => ∃ F ρ τ, Sta K F H σ ρ τ ∧ Good (m ρ) (fun ds ρ' => ∀ J π F' H', ItOk K J π ds → Sta K F' H' σ ρ' (π ++ τ) → R J H') (erP K W σ τ)
theorem _root_.L2.PI.imp {X : Cx} {tg e : Expr} {t u : TI} (h : PI X tg e t) (f : ∀ σ H R, u σ H R → t σ H R) : PI X tg e u := ⟨fun pins s σ H R I hw => h.run pins s σ H R I (f σ H R hw)⟩

def iLst (m : M C) : M (List D) := fun ρ => (m ρ).bind fun c ρ => match fzD c with
  | .lst ds => .ok ds ρ
  | .fr ds => .ok ds ρ
  | _ => .st
def iTupM (m : M C) : M (List D) := fun ρ => (m ρ).bind fun c ρ => match fzD c with
  | .tup ds => .ok ds ρ
  | _ => .st
def intsD (lo : Int) (n : Nat) : List D := (List.range n).map fun (k : Nat) => D.int (lo + (k : Int))
/-- fit for range; the kernel is not to compute it -/
noncomputable def r62X : {f : Int → Bool // ∀ i, f i = decide (-(2 ^ 62) ≤ i ∧ i < 2 ^ 62)} := Classical.choice ⟨⟨fun i => decide (-(2 ^ 62) ≤ i ∧ i < 2 ^ 62), fun _ => rfl⟩⟩
noncomputable def r62 (i : Int) : Bool := r62X.1 i
theorem r62_eq (i : Int) : r62 i = decide (-(2 ^ 62) ≤ i ∧ i < 2 ^ 62) := r62X.2 i
noncomputable def iRg1 (a : M (List C)) : M (List D) := fun ρ => (a ρ).bind fun cs ρ => match cs.map fzD with
  | [.int j] => if r62 j then .ok (intsD 0 j.toNat) ρ else .st
  | _ => .st
noncomputable def iRg2 (a : M (List C)) : M (List D) := fun ρ => (a ρ).bind fun cs ρ => match cs.map fzD with
  | [.int i, .int j] => if r62 i && r62 j then .ok (intsD i (j - i).toNat) ρ else .st
  | _ => .st
def enumD (ds : List D) : List D := ds.zipIdx.map fun p => .tup [.int (p.2 : Nat), p.1]
def zipD (ds es : List D) : List D := List.zipWith (fun a b => D.tup [a, b]) ds es
def iEnm (a : M (List C)) : M (List D) := fun ρ => (a ρ).bind fun cs ρ => match cs.map fzD with
  | [.lst ds] => .ok (enumD ds) ρ
  | _ => .st
def iZp (a : M (List C)) : M (List D) := fun ρ => (a ρ).bind fun cs ρ => match cs.map fzD with
  | [.lst ds, .lst es] => .ok (zipD ds es) ρ
  | _ => .st

section
variable {K : PySem.W.Frag}
theorem Sta.mid {F : Addr → Prop} {H : Hp} {σ : L2.St} {ρ : Rho} {π τ : List Pr} {p : Pr} (s : Sta K F H σ ρ (p :: π ++ τ)) : Sta K F H σ ρ (π ++ τ) := Sta.drop (p := p) s
theorem it_list {a : Addr} {ds : List D} (h : ∀ {F H}, Rep K F H (.ref a) (.lst ds) ∨ Rep K F H (.ref a) (.fr ds) → ∃ vs, SqL K H a vs ∧ Reps K F H vs ds) (d0 : D) (hd : d0 = .lst ds ∨ d0 = .fr ds) : ItOk K (Itl K a) [(some (.ref a), .fz d0)] ds where
  step := fun i d F H σ ρ τ s e => by
    have s' : Sta K F H σ ρ ((some (.ref a), .fz d0) :: τ) := s
    obtain ⟨vs, hs, rs⟩ := h (by rcases hd with rfl | rfl; exact .inl s'.fzOf; exact .inr s'.fzOf)
    obtain ⟨v, ev, rv⟩ := rs.get e
    refine ⟨⟨vs, v, hs, ev⟩, fun x H' y => ?_⟩
    obtain ⟨rfl, y⟩ := y
    have := y vs hs
    rw [ev] at this
    cases this
    exact ⟨F, s.push rv⟩
  stop := fun F H σ ρ τ s => by
    have s' : Sta K F H σ ρ ((some (.ref a), .fz d0) :: τ) := s
    obtain ⟨vs, hs, rs⟩ := h (by rcases hd with rfl | rfl; exact .inl s'.fzOf; exact .inr s'.fzOf)
    exact ⟨vs, hs, by rw [rs.len]; exact Nat.le_refl _⟩
theorem lst_or {F : Addr → Prop} {H : Hp} {a : Addr} {ds : List D} (r : Rep K F H (.ref a) (.lst ds) ∨ Rep K F H (.ref a) (.fr ds)) : ∃ vs, SqL K H a vs ∧ Reps K F H vs ds := by
  rcases r with r | r
  · cases r with
    | lst h r => exact ⟨_, h.seq, r⟩
  · cases r with
    | fr h r => exact ⟨_, h.seq, r⟩
theorem it_tup {a : Addr} {ds : List D} : ItOk K (Itt K a) [(some (.ref a), .fz (.tup ds))] ds where
  step := fun i d F H σ ρ τ s e => by
    have s' : Sta K F H σ ρ ((some (.ref a), .fz (.tup ds)) :: τ) := s
    have r := s'.fzOf
    cases r with
    | tup h rs =>
      obtain ⟨v, ev, rv⟩ := rs.get e
      refine ⟨⟨_, v, h.seq, ev⟩, fun x H' y => ?_⟩
      obtain ⟨rfl, y⟩ := y
      have := y _ h.seq
      rw [ev] at this
      cases this
      exact ⟨F, s.push rv⟩
  stop := fun F H σ ρ τ s => by
    have s' : Sta K F H σ ρ ((some (.ref a), .fz (.tup ds)) :: τ) := s
    have r := s'.fzOf
    cases r with
    | tup h rs => exact ⟨_, h.seq, by rw [rs.len]; exact Nat.le_refl _⟩
theorem it_range {lo : Int} {n : Nat} : ItOk K (Itr lo n) [] (intsD lo n) where
  step := fun i d F H σ ρ τ s e => by
    unfold intsD at e
    rw [List.getElem?_map, Option.map_eq_some_iff] at e
    obtain ⟨k, e, rfl⟩ := e
    have hi : i < n := by
      have := List.getElem?_eq_some_iff.mp e
      simpa using this.1
    have hk : k = i := by
      rw [List.getElem?_range hi] at e
      exact (Option.some.inj e).symm
    subst hk
    refine ⟨hi, fun x H' y => ?_⟩
    obtain ⟨rfl, rfl⟩ := y
    exact ⟨F, s.push (.int _)⟩
  stop := fun F H σ ρ τ s => by
    show n ≤ (intsD lo n).length
    unfold intsD
    rw [List.length_map, List.length_range]
    exact Nat.le_refl _
/-- a new tuple of two things of ours -/
theorem Sta.pair {F : Addr → Prop} {H : Hp} {σ : L2.St} {ρ : Rho} {τ : List Pr} {T : Addr} {x y : V} {d e : D} (s : Sta K F H σ ρ τ) (n : H T = none) (rx : Rep K F H x d) (ry : Rep K F H y e) : ∃ F', Sta K F' (L2.upd H T (.tup [x, y])) σ ρ ((some (.ref T), .fz (.tup [d, e])) :: τ) := by
  have s1 : Sta K F H σ ρ (tmps [x, y] [.fz d, .fz e] ++ τ) := (s.push ry).push rx
  have s2 : Sta K F (L2.upd H T (.tup [x, y])) σ ρ ((some (.ref T), .tp [.fz d, .fz e]) :: τ) := s1.on fun l al => by
    rw [List.append_assoc] at al
    exact al.mkT rfl (by simp) n
  obtain ⟨F', s3⟩ := s2.freeze (by simp)
  exact ⟨F', by simpa using s3⟩
theorem it_enum {a : Addr} {ds : List D} : ItOk K (Ite K a) [(some (.ref a), .fz (.lst ds))] (enumD ds) where
  step := fun i d F H σ ρ τ s e => by
    have s' : Sta K F H σ ρ ((some (.ref a), .fz (.lst ds)) :: τ) := s
    obtain ⟨vs, hs, rs⟩ := lst_or (.inl s'.fzOf)
    unfold enumD at e
    rw [List.getElem?_map, Option.map_eq_some_iff] at e
    obtain ⟨p, e, rfl⟩ := e
    rw [List.getElem?_zipIdx, Option.map_eq_some_iff] at e
    obtain ⟨d', e, rfl⟩ := e
    obtain ⟨v, ev, rv⟩ := rs.get e
    refine ⟨⟨vs, v, hs, ev⟩, fun x H' y => ?_⟩
    obtain ⟨T, z, rfl, nT, rfl, y⟩ := y
    have := y vs hs
    rw [ev] at this
    cases this
    obtain ⟨F', s2⟩ := s.pair nT (.int (i : Nat)) rv
    exact ⟨F', by simpa using s2⟩
  stop := fun F H σ ρ τ s => by
    have s' : Sta K F H σ ρ ((some (.ref a), .fz (.lst ds)) :: τ) := s
    obtain ⟨vs, hs, rs⟩ := lst_or (.inl s'.fzOf)
    exact ⟨vs, hs, by rw [rs.len]; simp [enumD]⟩
theorem it_zip {a b : Addr} {ds es : List D} : ItOk K (Itz K a b) [(some (.ref a), .fz (.lst ds)), (some (.ref b), .fz (.lst es))] (zipD ds es) where
  step := fun i d F H σ ρ τ s e => by
    have s' : Sta K F H σ ρ ((some (.ref a), .fz (.lst ds)) :: (some (.ref b), .fz (.lst es)) :: τ) := s
    obtain ⟨vs, hs, rs⟩ := lst_or (.inl s'.fzOf)
    obtain ⟨ws, hs2, rs2⟩ := lst_or (.inl s'.drop.fzOf)
    unfold zipD at e
    rw [List.getElem?_zipWith] at e
    cases e1 : ds[i]? with
    | none => rw [e1] at e; simp at e
    | some d1 =>
      cases e2 : es[i]? with
      | none => rw [e1, e2] at e; simp at e
      | some d2 =>
        rw [e1, e2] at e
        simp at e
        subst e
        obtain ⟨v, ev, rv⟩ := rs.get e1
        obtain ⟨w, ew, rw'⟩ := rs2.get e2
        refine ⟨⟨vs, ws, v, w, hs, hs2, ev, ew⟩, fun x H' y => ?_⟩
        obtain ⟨T, z, z2, rfl, nT, rfl, y1, y2⟩ := y
        have h1 := y1 vs hs
        have h2 := y2 ws hs2
        rw [ev] at h1
        rw [ew] at h2
        cases h1
        cases h2
        exact s.pair nT rv rw'
  stop := fun F H σ ρ τ s => by
    have s' : Sta K F H σ ρ ((some (.ref a), .fz (.lst ds)) :: (some (.ref b), .fz (.lst es)) :: τ) := s
    obtain ⟨vs, hs, rs⟩ := lst_or (.inl s'.fzOf)
    obtain ⟨ws, hs2, rs2⟩ := lst_or (.inl s'.drop.fzOf)
    refine ⟨vs, ws, hs, hs2, ?_⟩
    rw [rs.len, rs2.len]
    unfold zipD
    rw [List.length_zipWith]
    omega
end

section
variable {X : Cx} {W : WX} {tg e e2 : Expr} {m : M C} {ma : M (List C)} {p pos tpos : Pos} {elts : List Expr} {kk : Nat}
theorem di_list (h : PE X e (tOf X.K W m)) : PI X tg e (iOf X.K W (iLst m)) := (pi_list h).imp fun σ H R ⟨F, ρ, τ, s, g⟩ => by
  unfold iLst at g
  rw [Good.bind] at g
  refine run1 s (g.imp (fun c ρ1 q v F1 H1 s1 => ?_) fun _ _ q => q)
  split at q
  · rename_i ds hd
    rw [hd] at s1
    have r := s1.fzOf
    cases r with
    | lst hl rs => exact ⟨_, rfl, ⟨_, hl.seq⟩, q _ _ F1 H1 (it_list lst_or _ (.inl rfl)) s1⟩
  · rename_i ds hd
    rw [hd] at s1
    have r := s1.fzOf
    cases r with
    | fr hl rs => exact ⟨_, rfl, ⟨_, hl.seq⟩, q _ _ F1 H1 (it_list lst_or _ (.inr rfl)) s1⟩
  · exact q.elim
theorem di_tup (h : PE X e (tOf X.K W m)) : PI X tg e (iOf X.K W (iTupM m)) := (pi_tup h).imp fun σ H R ⟨F, ρ, τ, s, g⟩ => by
  unfold iTupM at g
  rw [Good.bind] at g
  refine run1 s (g.imp (fun c ρ1 q v F1 H1 s1 => ?_) fun _ _ q => q)
  split at q
  · rename_i ds hd
    rw [hd] at s1
    have r := s1.fzOf
    cases r with
    | tup hl rs => exact ⟨_, rfl, ⟨_, hl.seq⟩, q _ _ F1 H1 it_tup s1⟩
  · exact q.elim
theorem r62_of {i : Int} (h : r62 i = true) : -(2 ^ 62) ≤ i ∧ i < 2 ^ 62 := of_decide_eq_true ((r62_eq i).symm.trans h)
theorem di_range1 (hm : X.mg "range" = none) (ha : PA X [e] (aOf X.K W ma)) (hg : Gl X "range" := by rfl) (hs : starEach [e] X.env = [(false, eval e X.env)] := by rfl) : PI X tg (.Call (.Name "range" p) [e] [] pos) (iOf X.K W (iRg1 ma)) := (pi_range1 hg hm ha hs).imp fun σ H R ⟨F, ρ, τ, s, g⟩ => by
  unfold iRg1 at g
  rw [Good.bind] at g
  refine runA s (g.imp (fun cs ρ1 q vs F1 H1 hl hn s1 => ?_) fun _ _ q => q)
  obtain ⟨F2, s2, r2⟩ := s1.freezes hl hn
  split at q
  · rename_i j hj
    rw [hj] at r2
    obtain ⟨v, rfl, rv⟩ := r2.one
    split at q
    · rename_i hr
      obtain ⟨h1, h2⟩ := r62_of hr
      exact ⟨j, by rw [rv.intv], h1, h2, q _ [] F2 H1 it_range s2⟩
    · exact q.elim
  · exact q.elim
theorem di_range2 (hm : X.mg "range" = none) (ha : PA X [e, e2] (aOf X.K W ma)) (hg : Gl X "range" := by rfl) (hs : starEach [e, e2] X.env = [(false, eval e X.env), (false, eval e2 X.env)] := by rfl) (hs2 : starEach [e2] X.env = [(false, eval e2 X.env)] := by rfl) : PI X tg (.Call (.Name "range" p) [e, e2] [] pos) (iOf X.K W (iRg2 ma)) := (pi_range2 hg hm ha hs hs2).imp fun σ H R ⟨F, ρ, τ, s, g⟩ => by
  unfold iRg2 at g
  rw [Good.bind] at g
  refine runA s (g.imp (fun cs ρ1 q vs F1 H1 hl hn s1 => ?_) fun _ _ q => q)
  obtain ⟨F2, s2, r2⟩ := s1.freezes hl hn
  split at q
  · rename_i i j hj
    rw [hj] at r2
    obtain ⟨v, w, rfl, rv, rw'⟩ := r2.two
    split at q
    · rename_i hr
      rw [Bool.and_eq_true] at hr
      obtain ⟨h1, h2⟩ := r62_of hr.1
      obtain ⟨h3, h4⟩ := r62_of hr.2
      exact ⟨i, j, by rw [rv.intv, rw'.intv], ⟨h1, h2, h3, h4⟩, q _ [] F2 H1 it_range s2⟩
    · exact q.elim
  · exact q.elim
theorem di_enum (hm : X.mg "enumerate" = none) (ha : PA X [e] (aOf X.K W ma)) (hg : Gl X "enumerate" := by rfl) (hs : starEach [e] X.env = [(false, eval e X.env)] := by rfl) : PI X (.Tuple elts kk tpos) (.Call (.Name "enumerate" p) [e] [] pos) (iOf X.K W (iEnm ma)) := (pi_enum hg hm ha hs).imp fun σ H R ⟨F, ρ, τ, s, g⟩ => by
  unfold iEnm at g
  rw [Good.bind] at g
  refine runA s (g.imp (fun cs ρ1 q vs F1 H1 hl hn s1 => ?_) fun _ _ q => q)
  obtain ⟨F2, s2, r2⟩ := s1.freezes hl hn
  split at q
  · rename_i ds hj
    rw [hj] at r2
    obtain ⟨v, rfl, rv⟩ := r2.one
    have s3 := s2.push rv
    cases rv with
    | lst hl2 rs => exact ⟨_, _, rfl, hl2.seq, q _ _ F2 H1 it_enum s3⟩
  · exact q.elim
theorem di_zip (hm : X.mg "zip" = none) (ha : PA X [e, e2] (aOf X.K W ma)) (hg : Gl X "zip" := by rfl) (hs : starEach [e, e2] X.env = (false, eval e X.env) :: starEach [e2] X.env := by rfl) (hpl : (backTo pos (starEach [e2] X.env)).any (·.1) = false := by rfl) : PI X (.Tuple elts kk tpos) (.Call (.Name "zip" p) [e, e2] [] pos) (iOf X.K W (iZp ma)) := (pi_zip hg hm ha hs hpl).imp fun σ H R ⟨F, ρ, τ, s, g⟩ => by
  unfold iZp at g
  rw [Good.bind] at g
  refine runA s (g.imp (fun cs ρ1 q vs F1 H1 hl hn s1 => ?_) fun _ _ q => q)
  obtain ⟨F2, s2, r2⟩ := s1.freezes hl hn
  split at q
  · rename_i ds es hj
    rw [hj] at r2
    obtain ⟨v, w, rfl, rv, rw'⟩ := r2.two
    have s3 := (s2.push rw').push rv
    cases rv with
    | lst hl3 rs =>
      cases rw' with
      | lst hl2 rs2 => exact ⟨_, _, _, _, rfl, hl3.seq, hl2.seq, q _ _ F2 H1 it_zip s3⟩
  · exact q.elim
end

/-! ### for -/
def forL (put : C → Rho → Option Rho) (body : SM) : List D → SM
  | [], ρ => .nx ρ
  | d :: ds, ρ => match put (.fz d) ρ with
    | none => .st
    | some ρ1 => match body ρ1 with
      | .nx ρ2 => forL put body ds ρ2
      | .ct ρ2 => forL put body ds ρ2
      | .bk ρ2 => .nx ρ2
      | r => r
def sFor (mi : M (List D)) (put : C → Rho → Option Rho) (body : SM) : SM := fun ρ => (mi ρ).thn fun ds ρ => forL put body ds ρ
section
variable {X : Cx} {W : WX} {tg iter : Expr} {body : List Stmt} {pos : Pos} {mi : M (List D)} {l : List Nat} {put : C → Rho → Option Rho} {m : SM}
theorem ds_for (hp : PassesOwn (model X.prog X.w) X.A X.env X.xe) (hi : PI X tg iter (iOf X.K W mi)) (hg : PG X tg (gOf X.K l put)) (hb : PSs X body (sOf X.K W m)) (hc : X.calm = true := by rfl)
    (hs : ∀ x, foldedSetIterable iter X.env x = pure x := by intro _; rfl) : PS X (.For tg iter body [] pos) (sOf X.K W (sFor mi put m)) := (ps_for hp hc hi hg hb hs).imp fun D σ H ⟨F, ρ, τ, s, g⟩ => by
  refine ⟨F, ρ, τ, s, (GoodS.thn g).imp (fun ds ρ1 q J π F1 H1 ok s1 => ?_) fun _ _ q => q⟩
  refine ⟨fun i n σ H => n = ds.length - i ∧ i ≤ ds.length ∧ ∃ F ρ, Sta X.K F H σ ρ (π ++ τ) ∧ GoodS X.K W τ (forL put m (ds.drop i) ρ) D, ⟨_, rfl, Nat.zero_le _, F1, ρ1, s1, q⟩, ?_⟩
  rintro i n σ H ⟨rfl, hi, F, ρ, s, q⟩
  by_cases hlt : i < ds.length
  · have e : ds[i]? = some ds[i] := List.getElem?_eq_getElem hlt
    obtain ⟨go, yl⟩ := ok.step i ds[i] F H σ ρ τ s e
    refine .inr ⟨go, fun σ' H' => ∃ F ρ, Sta X.K F H' σ' ρ (π ++ τ) ∧ GoodS X.K W τ (forL put m (ds.drop (i + 1)) ρ) D, fun σ' H' h => ⟨_, by omega, rfl, hlt, h⟩, fun x H' y => ?_⟩
    obtain ⟨F2, s2⟩ := yl x H' y
    rw [List.drop_eq_getElem_cons hlt] at q
    unfold forL at q
    split at q
    · exact q.elim
    · rename_i ρ1 hp1
      refine ⟨F2, ρ, _, _, ρ1, by simp, s2, hp1, fun σ3 F3 H3 _ s3 => ⟨F3, ρ1, _, s3, ?_⟩⟩
      split at q
      · rename_i ρ2 hm; rw [hm]; exact fun σ4 F4 H4 s4 => ⟨F4, ρ2, s4, q⟩
      · rename_i ρ2 hm; rw [hm]; exact fun σ4 F4 H4 s4 => ⟨F4, ρ2, s4, q⟩
      · rename_i ρ2 hm; rw [hm]; exact fun σ4 F4 H4 s4 => q σ4 F4 H4 s4.dropL
      · rename_i r h1 h2 h3
        cases hr : m ρ1 with
        | nx ρ2 => exact absurd hr (h1 ρ2)
        | ct ρ2 => exact absurd hr (h2 ρ2)
        | bk ρ2 => exact absurd hr (h3 ρ2)
        | st => rw [hr] at q; exact q
        | er e ρ2 => rw [hr] at q; exact serP.dropL q
        | rt c =>
          rw [hr] at q
          exact fun v F4 H4 nc al => q v F4 H4 nc (by
            have a2 : All X.K F4 H4 (((some v, c) :: (π ++ τ))) := al
            have a3 := a2.perm (show ((some v, c) :: (π ++ τ)).Perm (π ++ ((some v, c) :: τ)) from List.perm_middle.symm)
            exact a3.dropL)
  · have e : i = ds.length := by omega
    subst e
    rw [List.drop_length] at q
    exact .inl ⟨ok.stop F H σ ρ τ s, q σ F H s.dropL⟩
end

/-! ### while -/
def whileL (t : M Bool) (body : SM) : Nat → SM
  | 0, _ => .st
  | n + 1, ρ => match t ρ with
    | .st => .st
    | .er e ρ => .er e ρ
    | .ok false ρ1 => .nx ρ1
    | .ok true ρ1 => match body ρ1 with
      | .nx ρ2 => whileL t body n ρ2
      | .ct ρ2 => whileL t body n ρ2
      | .bk ρ2 => .nx ρ2
      | r => r
section
variable {X : Cx} {W : WX} {c : Expr} {body : List Stmt} {pos : Pos} {t : M Bool} {m : SM}
theorem ds_while (fu : Rho → Nat) (hp : PassesOwn (model X.prog X.w) X.A X.env X.xe) (hc : PT X c (bOf X.K W t)) (hb : PSs X body (sOf X.K W m)) : PS X (.While c body [] pos) (sOf X.K W (fun ρ => whileL t m (fu ρ) ρ)) := (ps_while hp hc hb).imp fun D σ H ⟨F, ρ, τ, s, g⟩ => by
  refine ⟨fun n σ H => ∃ F ρ, Sta X.K F H σ ρ τ ∧ GoodS X.K W τ (whileL t m n ρ) D, ⟨fu ρ, F, ρ, s, g⟩, ?_⟩
  rintro n σ H ⟨F, ρ, s, q⟩
  cases n with
  | zero => exact q.elim
  | succ n =>
    unfold whileL at q
    refine ⟨F, ρ, τ, s, ?_⟩
    split at q
    · exact q.elim
    · rename_i e ρ1 ht; rw [ht]; exact serP.er q
    · rename_i ρ1 ht
      rw [ht]
      intro F1 H1 s1
      show if false = true then _ else _
      rw [if_neg Bool.false_ne_true]
      exact q σ F1 H1 s1
    · rename_i ρ1 ht
      rw [ht]
      intro F1 H1 s1
      show if true = true then _ else _
      rw [if_pos rfl]
      refine ⟨fun σ' H' => ∃ F ρ, Sta X.K F H' σ' ρ τ ∧ GoodS X.K W τ (whileL t m n ρ) D, fun σ' H' h => ⟨n, Nat.lt_succ_self _, h⟩, F1, ρ1, τ, s1, ?_⟩
      split at q
      · rename_i ρ2 hm; rw [hm]; exact fun σ4 F4 H4 s4 => ⟨F4, ρ2, s4, q⟩
      · rename_i ρ2 hm; rw [hm]; exact fun σ4 F4 H4 s4 => ⟨F4, ρ2, s4, q⟩
      · rename_i ρ2 hm; rw [hm]; exact fun σ4 F4 H4 s4 => q σ4 F4 H4 s4
      · rename_i r h1 h2 h3
        cases hr : m ρ1 with
        | nx ρ2 => exact absurd hr (h1 ρ2)
        | ct ρ2 => exact absurd hr (h2 ρ2)
        | bk ρ2 => exact absurd hr (h3 ρ2)
        | st => rw [hr] at q; exact q
        | er e ρ2 => rw [hr] at q; exact q
        | rt c => rw [hr] at q; exact q
end
end Dn

/-! Den8: comprehensions; lists changed. -/
namespace Dn
open PySem PySem.Spec PyProof.Rows L2

abbrev noW : WX := fun _ _ _ _ => False
def wipeR (ρ : Rho) : List Nat → Rho
  | [] => ρ
  | v :: vs => (wipeR ρ vs).set v .no
def restR (ρ0 : Rho) : List Nat → Rho → Rho
  | [], ρ => ρ
  | v :: vs, ρ => restR ρ0 vs (ρ.set v ((wipeR ρ0 vs)[v]?.getD .no))
def saved (σ : L2.St) (ρ : Rho) : List Nat → List Pr
  | [] => []
  | v :: vs => ((wipe σ vs)[v]?.getD none, (wipeR ρ vs)[v]?.getD .no) :: saved σ ρ vs
section
variable {K : PySem.W.Frag} {F : Addr → Prop} {H : Hp} {σ : L2.St} {ρ : Rho} {τ : List Pr}
theorem Sta.take (s : Sta K F H σ ρ τ) (v : Nat) : Sta K F H (σ.set v none) (ρ.set v .no) ((σ[v]?.getD none, ρ[v]?.getD .no) :: τ) := by
  refine ⟨by rw [List.length_set, List.length_set]; exact s.1, ?_⟩
  rw [← zip_set]
  by_cases hi : v < σ.length
  · have hr : v < ρ.length := by rw [← s.1]; exact hi
    have h1 : σ[v]? = some σ[v] := List.getElem?_eq_getElem hi
    have h2 : ρ[v]? = some ρ[v] := List.getElem?_eq_getElem hr
    rw [h1, h2]
    obtain ⟨r, p1, p2⟩ := perm_at (zip_at h1 h2) ((none : Option V), C.no)
    have a1 : All K F H ((σ[v], ρ[v]) :: (r ++ τ)) := s.2.perm (p1.append_right τ)
    have a2 : All K F H ((none, C.no) :: (σ[v], ρ[v]) :: (r ++ τ)) := a1.nothing
    refine a2.perm ?_
    show ((none, C.no) :: (σ[v], ρ[v]) :: (r ++ τ)).Perm ((σ.zip ρ).set v (none, C.no) ++ (σ[v], ρ[v]) :: τ)
    refine (List.Perm.swap _ _ _).trans ?_
    refine List.Perm.trans ?_ (List.perm_middle (l₁ := (σ.zip ρ).set v (none, C.no))).symm
    exact .cons _ ((p2.append_right τ).symm)
  · have hr : ¬ v < ρ.length := by rw [← s.1]; exact hi
    rw [List.getElem?_eq_none (by omega), List.getElem?_eq_none (by omega), List.set_eq_of_length_le (by simp; omega)]
    have a : All K F H (((none : Option V), C.no) :: (σ.zip ρ ++ τ)) := s.2.nothing
    exact a.perm (List.perm_middle.symm)
theorem Sta.give {v : Nat} {x : Option V} {c : C} (s : Sta K F H (σ.set v none) ρ ((x, c) :: τ)) (e : x = σ[v]?.getD none) : Sta K F H σ (ρ.set v c) τ := by
  have hl : σ.length = ρ.length := by have := s.1; rw [List.length_set] at this; exact this
  by_cases hi : v < σ.length
  · have h1 : σ[v]? = some σ[v] := List.getElem?_eq_getElem hi
    rw [h1] at e
    have hz : ((σ.set v none).zip ρ)[v]? = some ((none : Option V), ρ[v]'(by omega)) := zip_at (by simp [hi]) (List.getElem?_eq_getElem _)
    refine ⟨by rw [List.length_set]; exact hl, ?_⟩
    obtain ⟨r, p1, p2⟩ := perm_at hz (x, c)
    have a := s.all
    have a1 : All K F H (((none, ρ[v]'(by omega)) : Pr) :: (x, c) :: (r ++ τ)) := a.perm (by
      refine (List.Perm.cons _ (List.perm_append_comm.trans (p1.append_right τ))).trans ?_
      exact .swap _ _ _)
    have a2 := a1.drop.perm (p2.append_right τ).symm
    rw [zip_set, List.set_set] at a2
    have e2 : σ.set v x = σ := by rw [e]; simp
    rw [e2] at a2
    exact a2
  · have e1 : σ.set v none = σ := List.set_eq_of_length_le (by omega)
    have e2 : ρ.set v c = ρ := List.set_eq_of_length_le (by omega)
    rw [e1] at s
    rw [e2]
    exact s.drop
theorem Sta.wipeS (s : Sta K F H σ ρ τ) : ∀ vs, Sta K F H (wipe σ vs) (wipeR ρ vs) (saved σ ρ vs ++ τ)
  | [] => s
  | v :: vs => (s.wipeS vs).take v
theorem Sta.wipeT (s : Sta K F H σ ρ τ) : ∀ vs, Sta K F H (wipe σ vs) (wipeR ρ vs) τ
  | [] => s
  | v :: vs => (s.wipeT vs).setX v none
theorem Sta.rest {ρ0 : Rho} : ∀ {vs : List Nat} {ρ : Rho}, Sta K F H (wipe σ vs) ρ (saved σ ρ0 vs ++ τ) → Sta K F H σ (restR ρ0 vs ρ) τ
  | [], _, s => s
  | v :: vs, ρ, s => Sta.rest (vs := vs) (Sta.give (σ := wipe σ vs) (v := v) s rfl)
end
theorem RepCs.snoc {K : PySem.W.Frag} {F : Addr → Prop} {H : Hp} : ∀ {vs : List V} {cs : List C} {O O' : List Addr} {v : V} {c : C}, RepCs K F H vs cs O → RepC K F H v c O' → RepCs K F H (vs ++ [v]) (cs ++ [c]) (O ++ O')
  | _, _, _, _, _, _, .nil, r => by
    have := RepCs.cons r .nil
    simpa using this
  | _, _, _, _, _, _, .cons a b, r => by
    have := RepCs.cons a (b.snoc r)
    rw [List.append_assoc]
    exact this
def bYes : M Bool := fun ρ => .ok true ρ
def lcL (vs : List Nat) (put : C → Rho → Option Rho) (t : M Bool) (el : M C) : List D → List C → Rho → R (List C)
  | [], acc, ρ => .ok acc ρ
  | d :: ds, acc, ρ => match put (.fz d) ρ with
    | none => .st
    | some ρ1 => match t ρ1 with
      | .ok true ρ2 => match el ρ2 with
        | .ok c ρ3 => if small acc.length then lcL vs put t el ds (acc ++ [c]) (wipeR ρ3 vs) else .st
        | _ => .st
      | .ok false ρ2 => lcL vs put t el ds acc (wipeR ρ2 vs)
      | _ => .st
def eLc (vs : List Nat) (mi : M (List D)) (put : C → Rho → Option Rho) (t : M Bool) (el : M C) : M C := fun ρ => (mi ρ).bind fun ds ρ1 => (lcL vs put t el ds [] (wipeR ρ1 vs)).bind fun acc ρ2 => .ok (.ow acc) (restR ρ1 vs ρ2)
theorem lcL_noer {vs : List Nat} {put : C → Rho → Option Rho} {t : M Bool} {el : M C} : ∀ {ds : List D} {acc : List C} {ρ : Rho} {e : Er} {ρ' : Rho}, lcL vs put t el ds acc ρ ≠ .er e ρ'
  | [], acc, ρ, e, ρ' => by simp [lcL]
  | d :: ds, acc, ρ, e, ρ' => by
    unfold lcL
    split
    · simp
    · split
      · split
        · split
          · exact lcL_noer
          · simp
        · simp
      · exact lcL_noer
      · simp
theorem wipe_keeps {σ σ' : L2.St} : ∀ {vs : List Nat}, σ'.length = σ.length → (∀ j, j ∉ vs → σ'[j]? = σ[j]?) → wipe σ' vs = wipe σ vs := by
  intro vs hl h
  apply List.ext_getElem?
  intro j
  have key : ∀ (σ : L2.St) (vs : List Nat), (wipe σ vs)[j]? = if j ∈ vs then (if j < σ.length then some none else none) else σ[j]? := by
    intro σ vs
    induction vs with
    | nil => simp [wipe]
    | cons v vs ih =>
      unfold wipe
      by_cases e : v = j
      · subst e
        simp only [List.mem_cons, true_or, if_true]
        by_cases hv : v < σ.length
        · rw [List.getElem?_set_self (by rw [wipe_length]; exact hv), if_pos hv]
        · rw [List.getElem?_eq_none (by rw [List.length_set, wipe_length]; omega), if_neg hv]
      · rw [List.getElem?_set_ne e, ih]
        have : j ≠ v := fun z => e z.symm
        simp [this]
  rw [key, key, hl]
  split
  · rfl
  · rename_i hj; exact h j hj
section
variable {X : Cx} {W : WX} {tg iter elt : Expr} {ifs : List Expr} {scope : Scope} {own : List (Str × Nat)} {pos : Pos} {mi : M (List D)} {l : List Nat} {put : C → Rho → Option Rho} {t : M Bool} {el : M C}
theorem lc_ok {vs : List Nat} (hsub : ∀ j ∈ l, j ∈ vs) {σ : L2.St} {H : Hp} {Q : VK} (h : tOf X.K W (eLc vs mi put t el) σ H Q) : tLc (iOf X.K W mi) (gOf X.K l put) (bOf X.K noW t) (tOf X.K noW el) vs σ H Q := by
  obtain ⟨F, ρ, τ, s, g⟩ := h
  unfold eLc at g
  rw [Good.bind] at g
  refine ⟨F, ρ, τ, s, g.imp (fun ds ρ1 q J π F1 H1 ok s1 => ?_) fun _ _ q => q⟩
  intro P hP
  have s0 : Sta X.K F1 (upd H1 P (.lst [])) σ ρ1 ((some (.ref P), .ow []) :: (π ++ τ)) := s1.on fun l al => by
    have := All.mkL (vs := []) (cs := []) (ps := (π ++ τ) ++ l) (p := P) al rfl (by simp) hP
    exact this
  -- the block's state: π, the new list, what is kept of the own slots, τ
  have s2 : Sta X.K F1 (upd H1 P (.lst [])) (wipe σ vs) (wipeR ρ1 vs) (π ++ ((some (.ref P), .ow []) :: (saved σ ρ1 vs ++ τ))) := by
    refine (s0.wipeS vs).perm ?_
    refine List.Perm.trans ?_ List.perm_middle.symm
    refine List.perm_middle.trans (.cons _ ?_)
    rw [← List.append_assoc, ← List.append_assoc]
    exact List.perm_append_comm.append_right τ
  refine ⟨fun i n H => n = ds.length - i ∧ i ≤ ds.length ∧ ∃ F ρ acc, Sta X.K F H (wipe σ vs) ρ (π ++ ((some (.ref P), .ow acc) :: (saved σ ρ1 vs ++ τ))) ∧
    Good ((lcL vs put t el (ds.drop i) acc ρ).bind fun acc ρ2 => (R.ok (C.ow acc) (restR ρ1 vs ρ2) : R C)) (okP X.K σ τ Q) (erP X.K W σ τ), ⟨_, rfl, Nat.zero_le _, F1, _, [], s2, q⟩, ?_⟩
  rintro i n H ⟨rfl, hi, F, ρ, acc, s, q⟩
  by_cases hlt : i < ds.length
  · have e : ds[i]? = some ds[i] := List.getElem?_eq_getElem hlt
    obtain ⟨go, yl⟩ := ok.step i ds[i] F H _ ρ _ s e
    refine .inr ⟨go, fun H' => ∃ F ρ acc, Sta X.K F H' (wipe σ vs) ρ (π ++ ((some (.ref P), .ow acc) :: (saved σ ρ1 vs ++ τ))) ∧
      Good ((lcL vs put t el (ds.drop (i + 1)) acc ρ).bind fun acc ρ2 => (R.ok (C.ow acc) (restR ρ1 vs ρ2) : R C)) (okP X.K σ τ Q) (erP X.K W σ τ), fun H' h => ⟨_, by omega, rfl, hlt, h⟩, fun x H' y => ?_⟩
    obtain ⟨F2, s2⟩ := yl x H' y
    rw [List.drop_eq_getElem_cons hlt] at q
    unfold lcL at q
    split at q
    · exact q.elim
    · rename_i ρa hp
      refine ⟨F2, ρ, _, _, ρa, by simp, s2, hp, fun σ3 F3 H3 kp s3 => ⟨?_, F3, ρa, _, s3, ?_⟩⟩
      · have h1 := wipe_keeps (vs := vs) (σ := wipe σ vs) (σ' := σ3) kp.1 (fun j hj => kp.2 j fun m => hj (hsub j m))
        rw [h1]
        exact wipe_keeps (vs := vs) (wipe_length _ _) fun j hj => wipe_out hj
      · have hw : wipe σ3 vs = wipe σ vs := by
          have h1 := wipe_keeps (vs := vs) (σ := wipe σ vs) (σ' := σ3) kp.1 (fun j hj => kp.2 j fun m => hj (hsub j m))
          rw [h1]
          exact wipe_keeps (vs := vs) (wipe_length _ _) fun j hj => wipe_out hj
        split at q
        · rename_i ρb ht
          rw [ht]
          intro F4 H4 s4
          rw [if_pos rfl]
          split at q
          · rename_i c ρc hc
            refine ⟨F4, ρb, _, s4, ?_⟩
            rw [hc]
            intro y F5 H5 nc s5
            split at q
            · rename_i hsm
              -- the new list grows
              have s6 : Sta X.K F5 H5 (wipe σ vs) (wipeR ρc vs) ((some y, c) :: (π ++ ((some (.ref P), .ow acc) :: (saved σ ρ1 vs ++ τ)))) := by
                have := s5.wipeT vs
                rw [hw] at this
                exact this
              have s7 : Sta X.K F5 H5 (wipe σ vs) (wipeR ρc vs) ((some (.ref P), .ow acc) :: ([(some y, c)] ++ (π ++ (saved σ ρ1 vs ++ τ)))) := s6.perm (by
                refine (List.Perm.cons _ List.perm_middle).trans (.swap _ _ _))
              obtain ⟨a, accV, Oa, ea, hacc, rca⟩ := s7.owOf
              cases ea
              refine ⟨accV, hacc, ?_, F5, wipeR ρc vs, acc ++ [c], ?_, q⟩
              · rw [rca.len, sizeLine_eq]
                have := small_le hsm
                omega
              · have s8 : Sta X.K F5 (upd H5 P (.lst (accV ++ [y]))) (wipe σ vs) (wipeR ρc vs) ((some (.ref P), .ow (acc ++ [c])) :: (π ++ (saved σ ρ1 vs ++ τ))) := s7.on fun l al => by
                  have al2 : All X.K F5 H5 ((some (.ref P), .ow acc) :: ([(some y, c)] ++ ((π ++ (saved σ ρ1 vs ++ τ)) ++ l))) := by
                    rw [← List.append_assoc [(some y, c)]]
                    exact al
                  refine All.write al2 fun ws O O1 hws rcs rp => ?_
                  rw [hacc] at hws
                  cases hws
                  cases rp with
                  | no r => exact absurd rfl nc
                  | cons r r2 =>
                    cases r2
                    refine ⟨O ++ _, RepCs.snoc rcs r, ?_⟩
                    simp
                exact s8.perm List.perm_middle.symm
            · exact q.elim
          · exact q.elim
        · rename_i ρb ht
          rw [ht]
          intro F4 H4 s4
          rw [if_neg Bool.false_ne_true]
          refine ⟨F4, wipeR ρb vs, acc, ?_, q⟩
          have := s4.wipeT vs
          rw [hw] at this
          exact this
        · exact q.elim
  · have e : i = ds.length := by omega
    subst e
    rw [List.drop_length] at q
    refine .inl ⟨ok.stop F H _ ρ _ s, ?_⟩
    refine q (.ref P) F H (by simp) ?_
    have s3 : Sta X.K F H (wipe σ vs) ρ (saved σ ρ1 vs ++ ((some (.ref P), .ow acc) :: τ)) := (s.dropL).perm List.perm_middle.symm
    exact s3.rest
theorem dts_nil : PTs X [] (bOf X.K W bYes) := ⟨fun pins s σ H Q I ⟨F, ρ, τ, st, g⟩ => pts_nil.run pins s σ H Q I (g F H st)⟩
theorem dts_one {c : Expr} (h : PT X c (bOf X.K W t)) : PTs X [c] (bOf X.K W t) := pts_one h
def subB (l vs : List Nat) : Bool := l.all fun j => vs.contains j
theorem subB_ok {l vs : List Nat} (h : subB l vs = true) : ∀ j ∈ l, j ∈ vs := fun j m => by
  have := List.all_eq_true.mp h j m
  simpa using this
theorem d_lc (own : List (Str × Nat)) (hN : X.N.Nodup) (hi : PI X tg iter (iOf X.K W mi)) (ok : BlkOk X.N X.env.scope scope own)
    (hg : ∀ (s : Shared) (H : Hp) (C : Addr) (cl : List (Str × Addr)) (fp : List Addr), PG (X.blk s H scope (compEnvC scope cl C X.env) fp) tg (gOf X.K l put))
    (ht : ∀ (s : Shared) (H : Hp) (C : Addr) (cl : List (Str × Addr)) (fp : List Addr), PTs (X.blk s H scope (compEnvC scope cl C X.env) fp) ifs (bOf X.K noW t))
    (he : ∀ (s : Shared) (H : Hp) (C : Addr) (cl : List (Str × Addr)) (fp : List Addr), PE (X.blk s H scope (compEnvC scope cl C X.env) fp) elt (tOf X.K noW el))
    (hc : X.calm = true := by rfl) (hsub : subB l (own.map (·.2)) = true := by rfl) (hs : ∀ x, foldedSetIterable iter X.env x = pure x := by intro _; rfl) :
    PE X (.ListComp elt [⟨tg, iter, ifs, 0⟩] scope pos) (tOf X.K W (eLc (own.map (·.2)) mi put t el)) :=
  (pe_lc hc hN hi ok hg ht he hs).imp fun _ _ _ h => lc_ok (subB_ok hsub) h
theorem ds_setLc (i : Nat) {y : Str} {py spos : Pos} (own : List (Str × Nat)) (hN : X.N.Nodup) (hi : PI X tg iter (iOf X.K W mi)) (ok : BlkOk X.N X.env.scope scope own)
    (hg : ∀ (s : Shared) (H : Hp) (C : Addr) (cl : List (Str × Addr)) (fp : List Addr), PG (X.blk s H scope (compEnvC scope cl C X.env) fp) tg (gOf X.K l put))
    (ht : ∀ (s : Shared) (H : Hp) (C : Addr) (cl : List (Str × Addr)) (fp : List Addr), PTs (X.blk s H scope (compEnvC scope cl C X.env) fp) ifs (bOf X.K noW t))
    (he : ∀ (s : Shared) (H : Hp) (C : Addr) (cl : List (Str × Addr)) (fp : List Addr), PE (X.blk s H scope (compEnvC scope cl C X.env) fp) elt (tOf X.K noW el))
    (hc : X.calm = true := by rfl) (hy : X.N[i]? = some y := by rfl) (hyl : X.env.scope.names.lookup y = some .local := by rfl)
    (hsw : swapsWith (.ListComp elt [⟨tg, iter, ifs, 0⟩] scope pos) (some (.Name y py)) spos.line X.env = pure true := by exact sw_true rfl rfl rfl (by decide +kernel))
    (hsub : subB l (own.map (·.2)) = true := by rfl) (hs : ∀ x, foldedSetIterable iter X.env x = pure x := by intro _; rfl) :
    PS X (.Assign [.Name y py] (.ListComp elt [⟨tg, iter, ifs, 0⟩] scope pos) spos) (sOf X.K W (sSet i (eLc (own.map (·.2)) mi put t el))) :=
  (ps_setLc hc hN hy hyl hsw hi ok hg ht he hs).imp fun D σ H ⟨F, ρ, τ, s, g⟩ =>
    lc_ok (W := W) (subB_ok hsub) (runC s ((GoodS.thn g).imp (fun c ρ1 q v F1 H1 nc s1 => by
      split at q
      · rename_i hl
        exact q _ F1 H1 (s1.put (by rw [s1.1]; exact hl))
      · exact q.elim) fun _ _ q => q))
end

/-! ### lists changed -/
def isOw (c : Option C) : Bool := match c with
  | some (.ow _) => true
  | _ => false
/-- the name's list by what f makes of it (after an argument's value) -/
def sOw (i : Nat) (m : M C) (f : List C → C → Option (List C)) : SM := fun ρ => if isOw ρ[i]? then (m ρ).thn fun c ρ => match ρ[i]? with
  | some (.ow cs) => match f cs c with
    | some cs' => .nx (ρ.set i (.ow cs'))
    | none => .st
  | _ => .st
  else .st
def appF (cs : List C) (c : C) : Option (List C) := if small cs.length then some (cs ++ [c]) else none
section
variable {X : Cx} {W : WX} {e : Expr} {pos apos cpos p : Pos} {m : M C}
theorem Sta.ow {K : PySem.W.Frag} {F : Addr → Prop} {H : Hp} {σ : L2.St} {ρ : Rho} {τ : List Pr} {i : Nat} (s : Sta K F H σ ρ τ) (h : isOw ρ[i]? = true) : ∃ a vs, σ[i]? = some (some (.ref a)) ∧ H a = some (.lst vs) := by
  cases e : ρ[i]? with
  | none => rw [e] at h; cases h
  | some c =>
    rw [e] at h
    cases c <;> simp only [isOw, Bool.false_eq_true] at h
    obtain ⟨v, ev, s1⟩ := s.get e (by simp)
    obtain ⟨a, vs, O, rfl, ha, _⟩ := s1.owOf
    exact ⟨a, vs, ev, ha⟩
/-- x.append(e) -/
theorem ds_app (i : Nat) {x : Str} (he : PE X e (tOf X.K W m)) (hN : X.N[i]? = some x := by rfl) (hv : Vis X.env.scope x := by first | exact Or.inl rfl | exact Or.inr (Or.inl rfl) | exact Or.inr (Or.inr rfl)) (hd : (x == ("__debug__" : Str)) = false := by decide)
    (hcd : (x == ("__classdict__" : Str)) = false := by decide) (hs : swapsWith (.Call (.Attribute (.Name x p) "append" apos) [e] [] cpos) none pos.line X.env = pure false := by rfl)
    (hbase : attributeBase (.Name x p) "append" X.env (eval (.Name x p) X.env) = eval (.Name x p) X.env := by rfl)
    (hfew : ((backTo cpos (starEach [e] X.env)).all (fun x => !x.1) && (backToKw cpos (keywordEach [] X.env)).all (fun x => x.1.isSome) && decide ([e].length + ([] : List Keyword).length + (if ([] : List Keyword).isEmpty then 0 else 1) < 30)) = true := by rfl)
    (hline : (apos.endLine == cpos.line) = true := by rfl) (hst : starEach [e] X.env = (false, eval e X.env) :: starEach [] X.env := by rfl) (hplain : (backTo cpos (starEach [] X.env)).any (·.1) = false := by rfl) :
    PS X (.Expr (.Call (.Attribute (.Name x p) "append" apos) [e] [] cpos) pos) (sOf X.K W (sOw i m appF)) :=
  (ps_expr (pe_bm PySem.F.plainAttrs_list PySem.F.slot_list_append PySem.F.type_list_append mt_append (pe_var hN hv hd hcd) (pa_cons he pa_nil hst) hbase hfew hline hst hplain) hs).imp fun D σ H ⟨F, ρ, τ, s, g⟩ => by
    unfold sOw at g
    split at g
    · rename_i ho
      obtain ⟨a, vs, ev, ha⟩ := s.ow ho
      refine ⟨.ref a, ev, .inl ⟨rfl, vs, .of ha⟩, runC s ((GoodS.thn g).imp (fun c ρ1 q y F1 H1 nc s1 => ?_) fun _ _ q => q)⟩
      split at q
      · rename_i cs ec
        split at q
        · rename_i cs' hf
          obtain ⟨v', ev', s2⟩ := s1.get ec (by simp)
          rw [ev] at ev'
          cases ev'
          obtain ⟨a', ws, O, e1, hw, rc⟩ := s2.owOf
          cases e1
          unfold appF at hf
          split at hf <;> cases hf
          rename_i hsm
          refine ⟨a, ws, y, rfl, rfl, hw, ?_, ?_⟩
          · rw [rc.len, sizeLine_eq]
            have := small_le hsm
            omega
          · have s3 : Sta X.K F1 (upd H1 a (.lst (ws ++ [y]))) σ (ρ1.set i .no) ((some (.ref a), .ow (cs ++ [c])) :: τ) := s2.on fun l al => by
              refine All.write (qs := [(some y, c)]) al fun ws' O O1 hws rcs rp => ?_
              rw [hw] at hws
              cases hws
              cases rp with
              | no r => exact absurd rfl nc
              | cons r r2 =>
                cases r2
                exact ⟨_, rcs.snoc r, by simp⟩
            have s4 := s3.back ev
            rw [List.set_set] at s4
            exact q σ F1 _ s4
        · exact q.elim
      · exact q.elim
    · exact g.elim
/-- x.clear() -/
def sClr (i : Nat) : SM := fun ρ => match ρ[i]? with
  | some (.ow _) => .nx (ρ.set i (.ow []))
  | _ => .st
theorem ds_clr (i : Nat) {x : Str} (hN : X.N[i]? = some x := by rfl) (hv : Vis X.env.scope x := by first | exact Or.inl rfl | exact Or.inr (Or.inl rfl) | exact Or.inr (Or.inr rfl)) (hd : (x == ("__debug__" : Str)) = false := by decide)
    (hcd : (x == ("__classdict__" : Str)) = false := by decide) (hs : swapsWith (.Call (.Attribute (.Name x p) "clear" apos) [] [] cpos) none pos.line X.env = pure false := by rfl)
    (hbase : attributeBase (.Name x p) "clear" X.env (eval (.Name x p) X.env) = eval (.Name x p) X.env := by rfl) (hline : (apos.endLine == cpos.line) = true := by rfl) :
    PS X (.Expr (.Call (.Attribute (.Name x p) "clear" apos) [] [] cpos) pos) (sOf X.K W (sClr i)) :=
  (ps_expr (pe_bm0 PySem.F.plainAttrs_list PySem.F.slot_list_clear PySem.F.type_list_clear mt_clear (pe_var hN hv hd hcd) hbase hline) hs).imp fun D σ H ⟨F, ρ, τ, s, g⟩ => by
    unfold sClr at g
    split at g
    · rename_i cs ec
      obtain ⟨v, ev, s2⟩ := s.get ec (by simp)
      obtain ⟨a, ws, O, rfl, hw, rc⟩ := s2.owOf
      refine ⟨.ref a, ev, .inl ⟨rfl, ws, .of hw⟩, a, ws, rfl, rfl, hw, ?_⟩
      have s3 : Sta X.K F (upd H a (.lst [])) σ (ρ.set i .no) ((some (.ref a), .ow []) :: τ) := s2.on fun l al => by
        refine All.write (qs := []) al fun ws' O O1 hws rcs rp => ?_
        exact ⟨[], .nil, by simp⟩
      have s4 := s3.back ev
      rw [List.set_set] at s4
      exact g σ F _ s4
    · exact g.elim
/-- x.pop() -/
def ePop (i : Nat) : M C := fun ρ => match ρ[i]? with
  | some (.ow cs) => match cs[cs.length - 1]? with
    | some (.fz d) => .ok (.fz d) (ρ.set i (.ow cs.dropLast))
    | _ => .st
  | _ => .st
theorem RepCs.take {K : PySem.W.Frag} {F : Addr → Prop} {H : Hp} : ∀ {vs : List V} {cs : List C} {O : List Addr} (n : Nat), RepCs K F H vs cs O → ∃ O', RepCs K F H (vs.take n) (cs.take n) O' ∧ O'.Sublist O
  | _, _, _, 0, _ => ⟨[], by simpa using RepCs.nil, by simp⟩
  | _, _, _, n + 1, .nil => ⟨[], by simpa using RepCs.nil, by simp⟩
  | _, _, _, n + 1, .cons r rs => by
    obtain ⟨O', q, h⟩ := rs.take n
    exact ⟨_, by simpa using RepCs.cons r q, (List.Sublist.refl _).append h⟩
theorem d_pop (i : Nat) {x : Str} (hN : X.N[i]? = some x := by rfl) (hv : Vis X.env.scope x := by first | exact Or.inl rfl | exact Or.inr (Or.inl rfl) | exact Or.inr (Or.inr rfl)) (hd : (x == ("__debug__" : Str)) = false := by decide)
    (hcd : (x == ("__classdict__" : Str)) = false := by decide)
    (hbase : attributeBase (.Name x p) "pop" X.env (eval (.Name x p) X.env) = eval (.Name x p) X.env := by rfl) (hline : (apos.endLine == cpos.line) = true := by rfl) :
    PE X (.Call (.Attribute (.Name x p) "pop" apos) [] [] cpos) (tOf X.K W (ePop i)) :=
  (pe_bm0 PySem.F.plainAttrs_list PySem.F.slot_list_pop PySem.F.type_list_pop mt_pop (pe_var hN hv hd hcd) hbase hline).imp fun σ H Q ⟨F, ρ, τ, s, g⟩ => by
    unfold ePop at g
    split at g
    · rename_i cs ec
      split at g
      · rename_i d hl
        obtain ⟨v, ev, s2⟩ := s.get ec (by simp)
        obtain ⟨a, ws, O, rfl, hw, rc⟩ := s2.owOf
        obtain ⟨y, O', ey, ry⟩ := rc.get hl
        cases ry with
        | fz ry =>
          refine ⟨.ref a, ev, .inl ⟨rfl, ws, .of hw⟩, a, ws, y, rfl, rfl, hw, by rw [rc.len]; exact ey, ?_⟩
          have s2' := (s2.push ry).swap
          have s3 : Sta X.K F (upd H a (.lst ws.dropLast)) σ (ρ.set i .no) ((some (.ref a), .ow cs.dropLast) :: (some y, .fz d) :: τ) := s2'.on fun l al => by
            refine All.write (qs := []) al fun ws' O O1 hws rcs rp => ?_
            rw [hw] at hws
            cases hws
            cases rp
            obtain ⟨O2, q2, h2⟩ := rcs.take (ws.length - 1)
            refine ⟨O2, ?_, by simpa using h2⟩
            rw [List.dropLast_eq_take, List.dropLast_eq_take, ← rcs.len]
            exact q2
          have s4 := s3.back ev
          rw [List.set_set] at s4
          exact g y F _ (by simp) s4
      · exact g.elim
    · exact g.elim
/-- x[k] = e -/
def setF (j : Int) (cs : List C) (c : C) : Option (List C) := (ixN cs.length j).map fun k => cs.set k (.fz (fzD c))
def sSetIx (i : Nat) (mk me : M C) : SM := fun ρ => (me ρ).thn fun c ρ => if isOw ρ[i]? then (mk ρ).thn fun d ρ => match ρ[i]?, fzD d with
  | some (.ow cs), .int j => match setF j cs c with
    | some cs' => .nx (ρ.set i (.ow cs'))
    | none => .st
  | _, _ => .st
  else .st
theorem RepCs.set {K : PySem.W.Frag} {F : Addr → Prop} {H : Hp} {v : V} {d : D} (r : Rep K F H v d) : ∀ {vs : List V} {cs : List C} {O : List Addr} (n : Nat), RepCs K F H vs cs O → ∃ O', RepCs K F H (vs.set n v) (cs.set n (.fz d)) O' ∧ O'.Sublist O
  | _, _, _, _, .nil => ⟨[], by simpa using RepCs.nil, by simp⟩
  | _, _, _, 0, .cons _ rs => ⟨_, by simpa using RepCs.cons (.fz r) rs, by simp⟩
  | _, _, _, n + 1, .cons r' rs => by
    obtain ⟨O', q, h⟩ := RepCs.set r n rs
    exact ⟨_, by simpa using RepCs.cons r' q, (List.Sublist.refl _).append h⟩
theorem ds_setIx (i : Nat) {x : Str} {k : Expr} {mk : M C} (hk : PE X k (tOf X.K W mk)) (he : PE X e (tOf X.K W m)) (hN : X.N[i]? = some x := by rfl) (hv : Vis X.env.scope x := by first | exact Or.inl rfl | exact Or.inr (Or.inl rfl) | exact Or.inr (Or.inr rfl)) (hd : (x == ("__debug__" : Str)) = false := by decide)
    (hcd : (x == ("__classdict__" : Str)) = false := by decide)
    (hs : swapsWithSole [.Subscript (.Name x p) k apos] e pos.line X.env = pure false := by rfl) (hw : swappedStores [.Subscript (.Name x p) k apos] e X.env = pure none := by rfl)
    (h1 : (assignEach [.Subscript (.Name x p) k apos] X.env).map (·.2) = [assign (.Subscript (.Name x p) k apos) X.env] := by rfl)
    (ha : ∀ v, assign (.Subscript (.Name x p) k apos) X.env v = (do let ov ← holding [v] (eval (.Name x p) X.env); let iv ← holding [v, ov] (eval k X.env); standAt apos; holding [v, ov, iv] (setItem ov iv v); release [v, ov, iv] []) := by intro _; rfl) :
    PS X (.Assign [.Subscript (.Name x p) k apos] e pos) (sOf X.K W (sSetIx i mk m)) :=
  (ps_asg he (pg_sub (pe_var hN hv hd hcd) hk set_list ha) hs hw h1).imp fun D σ H ⟨F, ρ, τ, s, g⟩ => by
    refine run1 s ((GoodS.thn g).imp (fun c ρ1 q v F1 H1 s1 => ?_) fun _ _ q => q)
    split at q
    · rename_i ho
      obtain ⟨a, vs, ev, hav⟩ := s1.ow ho
      refine ⟨.ref a, ev, run1 s1 ((GoodS.thn q).imp (fun d ρ2 q w F2 H2 s2 => ?_) fun _ _ q => q.drop)⟩
      split at q
      · rename_i cs j ec ej
        split at q
        · rename_i cs' hf
          rw [ej] at s2
          unfold setF at hf
          rw [Option.map_eq_some_iff] at hf
          obtain ⟨kk, hkk, rfl⟩ := hf
          obtain ⟨v', ev', s3⟩ := s2.get ec (by simp)
          rw [ev] at ev'
          cases ev'
          obtain ⟨a', ws, O, e1, hw', rc⟩ := s3.owOf
          cases e1
          refine ⟨a, ws, j, kk, rfl, s2.fzOf.intv, hw', by rw [rc.len]; exact hkk, ?_⟩
          have s4 : Sta X.K F2 H2 σ (ρ2.set i .no) ((some (.ref a), .ow cs) :: (some v, .fz (fzD c)) :: τ) := s3.swap.drop
          have rv : Rep X.K F2 H2 v (fzD c) := s4.drop.fzOf
          have s5 : Sta X.K F2 (upd H2 a (.lst (ws.set kk v))) σ (ρ2.set i .no) ((some (.ref a), .ow (cs.set kk (.fz (fzD c)))) :: τ) := s4.on fun l al => by
            refine All.write (qs := [(some v, .fz (fzD c))]) al fun ws' O O1 hws rcs rp => ?_
            rw [hw'] at hws
            cases hws
            obtain ⟨O2, q2, h2⟩ := RepCs.set rv kk rcs
            exact ⟨O2, q2, h2.trans (by simp)⟩
          have s6 := s5.back ev
          rw [List.set_set] at s6
          exact q σ F2 _ s6
        · exact q.elim
      · exact q.elim
    · exact q.elim
/-- xs.index(y) -/
def idxD : D → D → Option D
  | .lst ds, y => (flatD y).bind fun v => (flatDs ds).bind fun ws => (ws.findIdx? fun z => eqV z v).map fun j => .int (j : Nat)
  | _, _ => none
def eIdx (m my : M C) : M C := fun ρ => (m ρ).bind fun c ρ => match fzD c with
  | .lst ds => (my ρ).bind fun d ρ => match idxD (.lst ds) (fzD d) with
    | some z => .ok (.fz z) ρ
    | none => .st
  | _ => .st
theorem d_idx {o : Expr} {mo : M C} (ho : PE X o (tOf X.K W mo)) (he : PE X e (tOf X.K W m)) (hbase : attributeBase o "index" X.env (eval o X.env) = eval o X.env := by rfl)
    (hfew : ((backTo cpos (starEach [e] X.env)).all (fun x => !x.1) && (backToKw cpos (keywordEach [] X.env)).all (fun x => x.1.isSome) && decide ([e].length + ([] : List Keyword).length + (if ([] : List Keyword).isEmpty then 0 else 1) < 30)) = true := by rfl)
    (hline : (apos.endLine == cpos.line) = true := by rfl) (hst : starEach [e] X.env = (false, eval e X.env) :: starEach [] X.env := by rfl) (hplain : (backTo cpos (starEach [] X.env)).any (·.1) = false := by rfl) :
    PE X (.Call (.Attribute o "index" apos) [e] [] cpos) (tOf X.K W (eIdx mo m)) :=
  (pe_bm PySem.F.plainAttrs_list PySem.F.slot_list_index PySem.F.type_list_index mt_index ho (pa_cons he pa_nil hst) hbase hfew hline hst hplain).imp fun σ H Q ⟨F, ρ, τ, s, g⟩ => by
    unfold eIdx at g
    rw [Good.bind] at g
    refine run1 s (g.imp (fun c ρ1 q v F1 H1 s1 => ?_) fun _ _ q => q)
    split at q
    · rename_i ds hds
      rw [hds] at s1
      rw [Good.bind] at q
      obtain ⟨a, vs, rfl, hla, _⟩ := s1.fzOf.lstv
      refine ⟨.inl ⟨rfl, vs, hla.seq⟩, run1 s1 (q.imp (fun d ρ2 q w F2 H2 s2 => ?_) fun _ _ q => q.drop)⟩
      split at q
      · rename_i z hz
        simp only [idxD, Option.bind_eq_some_iff, Option.map_eq_some_iff] at hz
        obtain ⟨y, hy, ws, hws, j, hj, rfl⟩ := hz
        obtain ⟨a', vs', e1, hla', rs⟩ := s2.drop.fzOf.lstv
        cases e1
        obtain ⟨rfl, f1⟩ := s2.fzOf.flat hy
        obtain ⟨rfl, f2⟩ := rs.flats hws
        obtain ⟨hlt, hj1, hj2⟩ := List.findIdx?_eq_some_iff_getElem.mp hj
        refine ⟨a, _, w, j, _, rfl, rfl, hla'.seq, f1, f2, List.getElem?_eq_getElem hlt, hj1, fun m' z' hm hz' => ?_, q _ F2 H2 (by simp) (s2.drop.drop.push (.int _))⟩
        obtain ⟨hm2, ez⟩ := List.getElem?_eq_some_iff.mp hz'
        rw [← ez]
        have := hj2 m' hm
        simpa using this
      · exact q.elim
    · exact q.elim
end
end Dn

/-! Den9: defs: what they are worth, calls, the end of a law. -/
namespace Dn
open PySem PySem.Spec PyProof.Rows L2

/-- a def's promise, kept wherever no text is being shown -/
structure FnG (P : Program) (w : World) (K : PySem.W.Frag) (mg : Str → Option Value) (base : Heap) (cx : CXT) (k : Nat) (f : Addr) (fd : FuncData) (ps : List Str) (sp : Sp) : Prop where
  ar : ∀ vs H Q E, sp vs H Q E → vs.length = ps.length
  go : ∀ (A : Around) (outer : List Env) (s : Shared) (H : Hp) (args : Args) (us : List Value) (vs : List V) (Q : VK) (E : XK), Room k A → A.guards = some [] → Env0 P w K mg base A outer s H →
    BindsTo s fd args (ps.zip us) → Vals vs us → sp vs H Q E → codeAny (model P w) A (.call (.ref f) args) (CR cx outer P w H s Q E) s
theorem FnG.mono {P : Program} {w : World} {K : PySem.W.Frag} {mg : Str → Option Value} {base : Heap} {cx : CXT} {j k : Nat} {f : Addr} {fd : FuncData} {ps : List Str} {sp : Sp} (G : FnG P w K mg base cx j f fd ps sp) (h : j ≤ k) : FnG P w K mg base cx k f fd ps sp :=
  ⟨G.ar, fun A outer s H args us vs Q E hr => G.go A outer s H args us vs Q E (hr.mono h)⟩
theorem FnG.weak {P : Program} {w : World} {K : PySem.W.Frag} {mg : Str → Option Value} {base : Heap} {cx : CXT} {k : Nat} {f : Addr} {fd : FuncData} {ps : List Str} {sp sp' : Sp} (G : FnG P w K mg base cx k f fd ps sp) (h : ∀ vs H Q E, sp' vs H Q E → sp vs H Q E) : FnG P w K mg base cx k f fd ps sp' :=
  ⟨fun vs H Q E z => G.ar vs H Q E (h _ _ _ _ z), fun A outer s H args us vs Q E hr hg he hb hv z => G.go A outer s H args us vs Q E hr hg he hb hv (h _ _ _ _ z)⟩

section
variable {X : Cx} {cx : CXT} {k : Nat} {f : Addr} {fd : FuncData} {ps : List Str} {sp : Sp} {x : Str} {p pos : Pos} {e : Expr} {es : List Expr} {t : TA}
/-- what the callee's end is to the caller -/
theorem back_of {pins : List (Addr × Obj)} {σ : L2.St} {H : Hp} {s : Shared} {Q : VK} {E : XK} (I : Inv X pins σ H s) (hx : ∀ u s', cx X.stack H s E u s' → X.xe u s') {r : Result} {s' : Shared} (h : CR cx X.stack X.prog X.w H s Q E r s') :
    match r with | .ok (.ret u) => EP X pins σ Q u s' | .ok _ => False | .error u => X.xe u s' := by
  match r, h with
  | .ok (.ret u), h => exact I.after h
  | .ok .next, h => exact h
  | .ok .brk, h => exact h
  | .ok .cont, h => exact h
  | .error u, h => exact hx u s' h
theorem enter_fn {pins : List (Addr × Obj)} {σ : L2.St} {H : Hp} {s : Shared} {Q : VK} {E : XK} {us : List Value} {vs : List V} (G : FnG X.prog X.w X.K X.mg X.base cx k f fd ps sp) (hr : Room k X.A) (hgd : X.A.guards = some []) (hb : Binds X.K fd ps [])
    (hx : ∀ u s', cx X.stack H s E u s' → X.xe u s') (I : Inv X pins σ H s) (r : Vals vs us) (z : sp vs H Q E) : wpAny (model X.prog X.w) X.A (call (.ref f) us) (EP X pins σ Q) X.xe s := by
  have hl : (us ++ []).length = ps.length := by rw [List.append_nil, ← r.length]; exact G.ar _ _ _ _ z
  have hB := hb s us I.kIn hl
  rw [List.append_nil] at hB
  refine wpAny_call (codeAny_mono (G.go X.A X.stack s H ⟨us, []⟩ us vs Q E hr hgd I.env0 hB r z) fun r s' hq => ?_)
  have h := back_of I hx hq
  cases r with
  | error u => exact h
  | ok fl =>
    cases fl with
    | ret u => exact h
    | next => exact h.elim
    | brk => exact h.elim
    | cont => exact h.elim
/-- a call's reading, the wish at the caller's slots -/
def tGo (sp : Sp) (E : L2.St → XK) (t : TA) : TE := fun σ H Q => t σ H fun vs H1 => sp vs H1 Q (E σ)
theorem pe_go {E : L2.St → XK} (G : FnG X.prog X.w X.K X.mg X.base cx k f fd ps sp) (hr : Room k X.A) (hgd : X.A.guards = some []) (hg : Gl X x) (hm : X.mg x = some (.ref f)) (hk : PySem.W.keepIn X.K (.ref f) = true) (hb : Binds X.K fd ps [])
    (hx : ∀ σ, PassesAt cx X σ (E σ)) (ha : PA X (e :: es) t) (hdb : (x == ("__debug__" : Str)) = false := by decide) (he : starEach (e :: es) X.env = (false, eval e X.env) :: starEach es X.env := by rfl)
    (hpl : (backTo pos (starEach es X.env)).any (·.1) = false := by rfl) : PE X (.Call (.Name x p) (e :: es) [] pos) (tGo sp E t) := ⟨fun pins s σ H Q I h =>
  wpAny_Call_Name_kw (ld_glob I hg hm (PySem.W.callWith_K (h₀ := X.base) I.ok.mod.kin hk (thn (ha.run pos pins s σ H _ I h) fun _ s1 ⟨_, _, I1, r, z⟩ =>
    ⟨I1.kIn, enter_fn G hr hgd hb (fun u s' c => hx σ pins _ s1 u s' I1 c) I1 r z⟩) he hpl) hdb)⟩
theorem pe_go0 {E : L2.St → XK} (G : FnG X.prog X.w X.K X.mg X.base cx k f fd ps sp) (hr : Room k X.A) (hgd : X.A.guards = some []) (hg : Gl X x) (hm : X.mg x = some (.ref f)) (hk : PySem.W.keepIn X.K (.ref f) = true) (hb : Binds X.K fd ps [])
    (hx : ∀ σ, PassesAt cx X σ (E σ)) (hdb : (x == ("__debug__" : Str)) = false := by decide) : PE X (.Call (.Name x p) [] [] pos) (tGo sp E tNil) := ⟨fun pins s σ H Q I h =>
  wpAny_Call_Name_kw (ld_glob I hg hm (PySem.W.callWith_K0 I.kIn hk (enter_fn (us := []) G hr hgd hb (fun u s' c => hx σ pins _ s u s' I c) I .nil h)) hdb)⟩
/-- how keywords bind: behind the positional arguments, in the parameters' order -/
def KwB (K : PySem.W.Frag) (fd : FuncData) (ps ks : List Str) : Prop := ∀ (s : Shared) (us ws : List Value), K.In s.heap → ws.length = ks.length → (us ++ ws).length = ps.length → BindsTo s fd ⟨us, ks.zip ws⟩ (ps.zip (us ++ ws))
theorem pe_goK {E : L2.St → XK} {ks : List Str} {kws : List Keyword} {tk : TA} (G : FnG X.prog X.w X.K X.mg X.base cx k f fd ps sp) (hr : Room k X.A) (hgd : X.A.guards = some []) (hg : Gl X x) (hm : X.mg x = some (.ref f)) (hk : PySem.W.keepIn X.K (.ref f) = true) (hb : KwB X.K fd ps ks)
    (hx : ∀ σ, PassesAt cx X σ (E σ)) (ha : PA X (e :: es) t) (hkw : PK X kws tk) (hlen : ∀ σ H Q, tk σ H Q → tk σ H fun ws H' => ws.length = ks.length ∧ Q ws H') (hall : (backToKw pos (keywordEach kws X.env)).all (·.1.isSome) = true := by rfl)
    (hks : (backToKw pos (keywordEach kws X.env)).filterMap (·.1) = ks := by rfl) (hdb : (x == ("__debug__" : Str)) = false := by decide) (he : starEach (e :: es) X.env = (false, eval e X.env) :: starEach es X.env := by rfl)
    (hpl : ((backTo pos (starEach (e :: es) X.env)).any (·.1) || (backToKw pos (keywordEach kws X.env)).any (·.1.isNone)) = false := by rfl) :
    PE X (.Call (.Name x p) (e :: es) kws pos) (fun σ H Q => t σ H fun vs H1 => tk σ H1 fun zs H2 => sp (vs ++ zs) H2 Q (E σ)) := ⟨fun pins s σ H Q I h => by
  refine wpAny_Call_Name_kw (ld_glob I hg hm (PySem.W.callWith_KW (h₀ := X.base) I.ok.mod.kin hk hall (thn (ha.run pos pins s σ H _ I h) fun us s1 ⟨vs, H1, I1, r, z⟩ => ?_) hpl he) hdb)
  refine thn (hkw.run pos pins s1 σ H1 _ I1 (hlen _ _ _ z)) fun ws s2 ⟨zs, H2, I2, rz, hz, z2⟩ => ⟨I2.kIn, ?_⟩
  rw [hks]
  have rr := r.append rz
  have hB := hb s2 us ws I2.kIn (by rw [← rz.length]; exact hz) (by rw [← rr.length]; exact G.ar _ _ _ _ z2)
  refine wpAny_call (codeAny_mono (G.go X.A X.stack s2 H2 ⟨us, ks.zip ws⟩ (us ++ ws) (vs ++ zs) Q (E σ) hr hgd I2.env0 hB rr z2) fun r s' hq => ?_)
  have h := back_of I2 (fun u s' c => hx σ pins _ s2 u s' I2 c) hq
  cases r with
  | error u => exact h
  | ok fl =>
    cases fl with
    | ret u => exact h
    | next => exact h.elim
    | brk => exact h.elim
    | cont => exact h.elim⟩
end

/-- a def by its body -/
theorem fn_body {cx : CXT} {P : Program} {w : World} {K : PySem.W.Frag} {mg : Str → Option Value} {base : Heap} {x qual : Str} {st : Stmt} {f : Addr} {fd : FuncData} {N ps : List Str} {k : Nat} {sp : Sp} (F : Fun K x qual st f fd) (S : FnScope N ps (defScope st))
    (ar : ∀ vs H Q E, sp vs H Q E → vs.length = ps.length)
    (body : ∀ (cdv : Value) (A : Around) (outer : List Env) (s : Shared) (H : Hp) (vs : List V) (Q : VK) (E : XK), Room k (A.deeper (envOfC qual (defScope st) s.heap.objs.size f cdv)) → (A.deeper (envOfC qual (defScope st) s.heap.objs.size f cdv)).guards = some [] → sp vs H Q E →
      ∃ t, PSs (cxOf cx P w K mg base N qual (defScope st) f cdv A outer s H E) (defBody st) t ∧ t { nx := fun _ H' => Q .non H', rt := Q } (L2.start N vs) H) : FnG P w K mg base cx (k + 1) f fd ps sp := by
  obtain ⟨oc, od, kV, doc, pm, an, cdv, ct, osl, rfl, lk, hcd⟩ := F.ex
  constructor
  · exact ar
  intro A outer s H args us vs Q E hr hgd e0 hb rv z
  have har := ar _ _ _ _ z
  have stay : ∀ b o, base.get? b = some o → s.heap.get? b = some o := fun b o q => (e0.bs b o q).1
  have hK : K.In s.heap := e0.mod.kin.keeps stay
  have hN : s.heap.NoLimit := e0.mod.nolimit.keeps stay
  have kinds : ∀ y ∈ ps.zip us, (defScope st).names.lookup y.1 = some .local ∨ ((defScope st).names.lookup y.1 = some .cell ∧ ((cellsFrom (s.heap.objs.size + 1) (defScope st).names []).lookup y.1).isSome = true) := by
    rintro ⟨n, v⟩ hy
    exact (S.par n (List.of_mem_zip hy).1).imp id fun q => ⟨q, PySem.W.cellsFrom_some _ _ _ (.inl q)⟩
  refine codeAny_call_function hr.depth (hK _ _ lk) rfl S.co S.gen rfl (PySem.W.codeRec_of hK hcd) (hb _ _ _ _ (wpAny_newFunctionEnv_cells S.kind kinds ?_))
  intro env he s1 inC
  subst he
  refine ⟨hN.keeps inC.toInCall.keep, codeAny_func ?_⟩
  obtain ⟨t, ht, hq⟩ := body cdv A outer s H vs Q E (hr.deeper _) (by show A.guards = some []; exact hgd) z
  have I0 : Inv (cxOf cx P w K mg base N qual (defScope st) f cdv A outer s H E) [] (L2.start N vs) H s1 := inv_start S hr.hd e0 har rv inC
  refine wpAny_mono (ht.run [] s1 (L2.start N vs) H _ I0 hq) ?_ (fun _ _ q => q)
  intro fl s' hs
  match fl, hs with
  | .ret u, ⟨v, σ', H', J, rv', q⟩ => exact ⟨v, H', J.os, J.bare, J.base, J.hok, rv', q⟩
  | .next, ⟨σ', H', J, q⟩ => exact ⟨.non, H', J.os, J.bare, J.base, J.hok, rfl, q⟩
  | .brk, ⟨_, _, _, q⟩ => exact q.elim
  | .cont, ⟨_, _, _, q⟩ => exact q.elim

/-! ### what a def is worth -/
/-- the promise of a def that is worth μ -/
def spF (K : PySem.W.Frag) (n : Nat) (μ : M C) : Sp := fun vs H Q E => vs.length = n ∧ ∃ F τ cs, vs.length = cs.length ∧ (∀ c ∈ cs, c ≠ .no) ∧ All K F H (tmps vs cs ++ τ) ∧
  Good (μ cs) (fun c _ => ∀ v F' H', c ≠ .no → All K F' H' ((some v, c) :: τ) → Q v H') (fun e _ => ∀ F' H' cls d, ErOk K F' H' e cls d → All K F' H' τ → E cls d H')
def runDef (N n : Nat) (m : SM) : M C := fun cs => match m (cs ++ List.replicate (N - n) .no) with
  | .nx _ => .ok (.fz .non) []
  | .rt c => .ok c []
  | .er e _ => .er e []
  | _ => .st
def eCall (μ : M C) (a : M (List C)) : M C := fun ρ => (a ρ).bind fun cs ρ => match μ cs with
  | .ok c _ => .ok c ρ
  | .er e _ => .er e ρ
  | .st => .st
section
variable {X : Cx} {W : WX} {cx : CXT} {k n : Nat} {f : Addr} {fd : FuncData} {ps : List Str} {μ : M C} {x : Str} {p pos : Pos} {e : Expr} {es : List Expr} {m : M (List C)}
theorem sp_of {σ : L2.St} {H : Hp} {Q : VK} {cs : List C} {vs : List V} {F : Addr → Prop} {ρ : Rho} {τ : List Pr} (hn : vs.length = n) (hl : vs.length = cs.length) (hc : ∀ c ∈ cs, c ≠ .no) (s : Sta X.K F H σ ρ (tmps vs cs ++ τ))
    (g : Good (match μ cs with | .ok c _ => (.ok c ρ : R C) | .er e _ => .er e ρ | .st => .st) (okP X.K σ τ Q) (erP X.K W σ τ)) : spF X.K n μ vs H Q (WE W σ) := by
  have al : All X.K F H (tmps vs cs ++ (τ ++ σ.zip ρ)) := by
    have := s.all
    rw [List.append_assoc] at this
    exact this
  refine ⟨hn, F, τ ++ σ.zip ρ, cs, hl, hc, al, ?_⟩
  cases hm : μ cs with
  | st => rw [hm] at g; exact g
  | er e ρ' => rw [hm] at g; exact fun F' H' cls d x a => g F' H' cls d x (.of s.1 a)
  | ok c ρ' => rw [hm] at g; exact fun v F' H' nc a => g v F' H' nc (.of s.1 a)
def lenIs (n : Nat) (a : M (List C)) : Prop := ∀ ρ cs ρ', a ρ = .ok cs ρ' → cs.length = n
theorem len_nil : lenIs 0 aNil := fun ρ cs ρ' h => by cases h; rfl
theorem len_cons {m : M C} {r : M (List C)} {n : Nat} (h : lenIs n r) : lenIs (n + 1) (aCons m r) := fun ρ cs ρ' e => by
  unfold aCons at e
  cases h1 : m ρ with
  | st => rw [h1] at e; cases e
  | er _ _ => rw [h1] at e; cases e
  | ok c ρ1 =>
    rw [h1] at e
    dsimp only [R.bind] at e
    cases h2 : r ρ1 with
    | st => rw [h2] at e; cases e
    | er _ _ => rw [h2] at e; cases e
    | ok cs2 ρ2 =>
      rw [h2] at e
      cases e
      exact congrArg Nat.succ (h _ _ _ h2)
theorem Good.len {m : M (List C)} {ρ : Rho} {ok : List C → Rho → Prop} {er : Er → Rho → Prop} (h : lenIs n m) (g : Good (m ρ) ok er) : Good (m ρ) (fun cs ρ' => cs.length = n ∧ ok cs ρ') er := by
  cases hm : m ρ with
  | st => rw [hm] at g; exact g
  | er _ _ => rw [hm] at g; exact g
  | ok cs ρ' => rw [hm] at g; exact ⟨h _ _ _ hm, g⟩
theorem d_call (G : FnG X.prog X.w X.K X.mg X.base cx k f fd ps (spF X.K n μ)) (hr : Room k X.A) (hgd : X.A.guards = some []) (hm : X.mg x = some (.ref f)) (hk : PySem.W.keepIn X.K (.ref f) = true) (hb : Binds X.K fd ps []) (hx : ∀ σ, PassesAt cx X σ (WE W σ))
    (ha : PA X (e :: es) (aOf X.K W m)) (hl : lenIs n m) (hg : Gl X x := by rfl) (hdb : (x == ("__debug__" : Str)) = false := by decide) (he : starEach (e :: es) X.env = (false, eval e X.env) :: starEach es X.env := by rfl)
    (hpl : (backTo pos (starEach es X.env)).any (·.1) = false := by rfl) : PE X (.Call (.Name x p) (e :: es) [] pos) (tOf X.K W (eCall μ m)) := (pe_go G hr hgd hg hm hk hb hx ha hdb he hpl).imp fun σ H Q ⟨F, ρ, τ, s, g⟩ => by
  unfold eCall at g
  rw [Good.bind] at g
  exact runA s ((Good.len hl g).imp (fun cs ρ1 q vs F1 H1 h1 h2 s1 => sp_of (by rw [h1]; exact q.1) h1 h2 s1 q.2) fun _ _ q => q)
theorem pass0S {σ : L2.St} {E : XK} : PassesAt CX0 X σ E := fun _ _ _ _ _ _ h => h.elim

theorem start_zip {N : List Str} {vs : List V} {cs : List C} (h : vs.length = cs.length) : (L2.start N vs).zip (cs ++ List.replicate (N.length - cs.length) .no) = tmps vs cs ++ (List.replicate (N.length - cs.length) ((none : Option V), C.no)) := by
  unfold L2.start tmps
  rw [List.zip_append (by rw [List.length_map, h]), h, List.zip_replicate, Nat.min_self]
theorem All.nos {K : PySem.W.Frag} {F : Addr → Prop} {H : Hp} : ∀ {n : Nat} {ps : List Pr}, All K F H ps → All K F H (ps ++ List.replicate n ((none : Option V), C.no))
  | 0, ps, a => by simpa using a
  | n + 1, ps, a => by
    rw [List.replicate_succ]
    have := (All.nos (n := n) a).nothing (x := none)
    exact this.perm List.perm_middle.symm
theorem body_of {K : PySem.W.Frag} {N : List Str} {vs : List V} {H : Hp} {Q : VK} {E : XK} {sm : SM} {W : WX} (hW : ∀ cls d σ H, E cls d H → W cls d σ H) (hn : n ≤ N.length) (h : spF K n (runDef N.length n sm) vs H Q E) :
    sOf K W sm { nx := fun _ H' => Q .non H', rt := Q } (L2.start N vs) H := by
  obtain ⟨h1, F, τ, cs, h2, h3, al, g⟩ := h
  have e0 : N.length - cs.length = N.length - n := by omega
  refine ⟨F, cs ++ List.replicate (N.length - n) .no, τ, ⟨?_, ?_⟩, ?_⟩
  · unfold L2.start
    simp
    omega
  · rw [← e0, start_zip h2]
    refine (All.nos (n := N.length - cs.length) al).perm ?_
    rw [List.append_assoc, List.append_assoc]
    exact (List.perm_append_comm).append_left _
  · unfold runDef at g
    cases hm : sm (cs ++ List.replicate (N.length - n) .no) with
    | st => rw [hm] at g; exact g
    | bk _ => rw [hm] at g; exact (show False from g).elim
    | ct _ => rw [hm] at g; exact (show False from g).elim
    | er e ρ =>
      rw [hm] at g
      exact fun σ F' H' cls d x s => hW _ _ _ _ (g F' H' cls d x s.2.dropL)
    | nx ρ =>
      rw [hm] at g
      exact fun σ F' H' s => g .non F' H' (by simp) (s.2.dropL.push .non)
    | rt c =>
      rw [hm] at g
      exact fun v F' H' nc a => g v F' H' nc a
end
def noEr (μ : M C) : M C := fun cs => match μ cs with
  | .ok c _ => .ok c []
  | _ => .st
/-- THE RULE for a def that lets nothing out -/
theorem fn0 {P : Program} {w : World} {K : PySem.W.Frag} {mg : Str → Option Value} {base : Heap} {x qual : Str} {st : Stmt} {f : Addr} {fd : FuncData} {N ps : List Str} {k : Nat} (nn n : Nat) {sm : SM} (F : Fun K x qual st f fd) (S : FnScope N ps (defScope st))
    (hN : N.length = nn) (hp : ps.length = n) (hn : n ≤ nn)
    (body : ∀ (cdv : Value) (A : Around) (outer : List Env) (s : Shared) (H : Hp) (E : XK), Room k (A.deeper (envOfC qual (defScope st) s.heap.objs.size f cdv)) → (A.deeper (envOfC qual (defScope st) s.heap.objs.size f cdv)).guards = some [] →
      PSs (cxOf CX0 P w K mg base N qual (defScope st) f cdv A outer s H E).nox (defBody st) (sOf K noW sm)) : FnG P w K mg base CX0 (k + 1) f fd ps (spF K n (noEr (runDef nn n sm))) := by
  subst hN hp
  exact fn_body F S (fun vs H Q E h => h.1) fun cdv A outer s H vs Q E hr hgd z => by
    refine ⟨_, (body cdv A outer s H E hr hgd).nox, ?_⟩
    obtain ⟨h1, F, τ, cs, h2, h3, al, g⟩ := z
    refine body_of (E := fun _ _ _ => False) (fun _ _ _ _ z => z) hn ⟨h1, F, τ, cs, h2, h3, al, ?_⟩
    unfold noEr at g
    cases hm : runDef N.length ps.length sm cs with
    | st => rw [hm] at g; exact g
    | er e ρ => rw [hm] at g; exact (show False from g).elim
    | ok c ρ => rw [hm] at g; exact g
/-- .. and of one that may raise -/
theorem fnX {P : Program} {w : World} {K : PySem.W.Frag} {mg : Str → Option Value} {base : Heap} {x qual : Str} {st : Stmt} {f : Addr} {fd : FuncData} {N ps : List Str} {k : Nat} (nn n : Nat) {sm : SM} (F : Fun K x qual st f fd) (S : FnScope N ps (defScope st))
    (hN : N.length = nn) (hp : ps.length = n) (hn : n ≤ nn)
    (body : ∀ (cdv : Value) (A : Around) (outer : List Env) (s : Shared) (H : Hp) (E : XK), Room k (A.deeper (envOfC qual (defScope st) s.heap.objs.size f cdv)) → (A.deeper (envOfC qual (defScope st) s.heap.objs.size f cdv)).guards = some [] →
      PSs (cxOf (L2.CX P w) P w K mg base N qual (defScope st) f cdv A outer s H E) (defBody st) (sOf K (fun cls d _ H => E cls d H) sm)) : FnG P w K mg base (L2.CX P w) (k + 1) f fd ps (spF K n (runDef nn n sm)) := by
  subst hN hp
  exact fn_body F S (fun vs H Q E h => h.1) fun cdv A outer s H vs Q E hr hgd z => ⟨_, body cdv A outer s H E hr hgd, body_of (fun _ _ _ _ z => z) hn z⟩

/-! ### the end of a law -/
theorem law_ends {P : Program} {w : World} {K : PySem.W.Frag} {mg mb : Str → Option Value} {cx : CXT} {k : Nat} {fa a : Addr} {fd : FuncData} {x : Str} {sp : Sp} {s₁ : Shared} {vs : List Value} {ns : List Int}
    (hK : K.In s₁.heap) (hns : s₁.heap.Ns mainGlobals mg) (hb : s₁.heap.Ns builtinsNs mb) (hbb : ∀ x : Str, x ≠ "__name__" → mb x = bootBuiltins x) (hlim : s₁.heap.NoLimit) (hg : s₁.gens = #[])
    (ha : s₁.heap.get? a = some { cls := .type "list", data := .seq vs.toArray }) (hi : IntsAre vs ns) (hl : ns.length ≤ sizeLine) (hr : Room k callerA)
    (G : ∀ base : Heap, K.In base → base.Ns mainGlobals mg → FnG P w K mg base cx k fa fd [x] sp) (hbind : ∀ (s : Shared) (u : Value), BindsTo s fd ⟨[u], []⟩ [(x, u)])
    (hsp : ∀ H : Hp, Only H → SqL K H a (ns.map V.int) → sp [.ref a] H (fun v _ => v = .bl true) fun _ _ _ => False)
    (hcx : ∀ H e s', cx [] H s₁ (fun _ _ _ => False) e s' → False) :
    codeAny (model P w) callerA (.call (.ref fa) ⟨[.ref a], []⟩) (fun r s' => r = .ok (.ret (.bool true)) ∧ OldK s₁.heap s'.heap ∧ s'.os = s₁.os ∧ AllBare s'.gens) s₁ := by
  have rv := vals_ints hi
  -- whatever is tracked at the entry is the script
  have main : ∀ T : Hp, Only T → SqL K T a (ns.map V.int) → HOk P w T s₁.heap → (∀ b u, T b = some u → b = a ∧ K.lookup a = none) →
      codeAny (model P w) callerA (.call (.ref fa) ⟨[.ref a], []⟩) (fun r s' => r = .ok (.ret (.bool true)) ∧ OldK s₁.heap s'.heap ∧ s'.os = s₁.os ∧ AllBare s'.gens) s₁ := by
    intro T only seq ok tr
    have out : ∀ {b o}, s₁.heap.get? b = some o → (b ≠ a ∨ K.lookup a ≠ none) → (hidT s₁.heap T).get? b = some o := by
      intro b o q hne
      refine hidT_get q ?_
      cases z : T b with
      | none => rfl
      | some u =>
        obtain ⟨z1, z2⟩ := tr b u z
        exact (hne.elim (fun n => n z1) fun n => n z2).elim
    have names : ∀ {b m}, s₁.heap.Ns b m → (hidT s₁.heap T).Ns b m := by
      rintro b m ⟨o, es, ep, q, d, more⟩
      refine ⟨o, es, ep, out q (.inl ?_), d, more⟩
      rintro rfl
      rw [ha] at q
      cases q
      cases d
    have inB : K.In (hidT s₁.heap T) := fun b o q => out (hK b o q) (by
      by_cases z : b = a
      · subst z
        exact .inr (by rw [q]; simp)
      · exact .inl z)
    have modB : Mod K mg (hidT s₁.heap T) := by
      obtain ⟨mc, l1, l2⟩ := hlim
      exact ⟨inB, names hns, ⟨mb, names hb, hbb⟩, mc, names l1, l2⟩
    have entry : Env0 P w K mg (hidT s₁.heap T) callerA [] s₁ T :=
      { frames := rfl, mod := modB, bs := fun b o q => of_hidT q, bsz := Nat.le_of_eq (hidT_size _ _), funs := trivial, frf := (by intro b z; cases z), hok := ok, bare := .of_eq hg }
    have ran := (G _ inB (names hns)).go callerA [] s₁ T ⟨[.ref a], []⟩ [.ref a] [.ref a] _ _ hr rfl entry (hbind s₁ (.ref a)) (.cons rfl .nil) (hsp T only seq)
    refine codeAny_mono ran ?_
    intro r s' h
    match r, h with
    | .error e, h => exact (hcx T e s' h).elim
    | .ok .next, h => exact False.elim h
    | .ok .brk, h => exact False.elim h
    | .ok .cont, h => exact False.elim h
    | .ok (.ret u), ⟨v, T', os, bare, un, ok', ru, q⟩ =>
      have hv : v = .bl true := q
      subst hv
      have hu : u = Value.bool true := ru
      subst hu
      refine ⟨rfl, OldK.of_keep ?_, os, bare⟩
      intro b o q
      cases z : T b with
      | none => exact un.keep b o q z (by intro c; cases c) (by intro c; cases c)
      | some u =>
        rcases only b with z' | ⟨ob, xs, z'⟩
        · rw [z] at z'; cases z'
        · have d1 := (ok b _ z').1
          have d2 := (ok' b _ (un.frzs b ob _ z')).1
          rw [q] at d1
          cases d1
          exact d2
  have size : (ns.map V.int).length ≤ sizeLine := by rw [List.length_map]; exact hl
  cases hk : K.lookup a with
  | some o =>
    have q := hK a o hk
    rw [ha] at q
    cases q
    refine main (fun _ => none) (fun _ => .inl rfl) (.inr ⟨_, vs.toArray, _, hk, rfl, rfl, rfl, ?_, by simpa using rv⟩) (fun _ _ z => nomatch z) (fun _ _ z => nomatch z)
    rw [List.size_toArray, ← rv.length]
    exact size
  | none =>
    let obj : Obj := { cls := .type "list", data := .seq vs.toArray }
    let T : Hp := fun b => if b = a then some (.frz obj (.lst (ns.map V.int))) else none
    have at' : ∀ b u, T b = some u → b = a ∧ u = .frz obj (.lst (ns.map V.int)) := by
      intro b u z
      by_cases e : b = a
      · rw [show T b = _ from if_pos e] at z
        exact ⟨e, (Option.some.inj z).symm⟩
      · rw [show T b = _ from if_neg e] at z
        cases z
    refine main T (fun b => ?_) (.inl (.inr ⟨obj, if_pos rfl⟩)) (fun b u z => ?_) (fun b u z => ⟨(at' b u z).1, hk⟩)
    · cases z : T b with
      | none => exact .inl rfl
      | some u => exact .inr ⟨_, _, by rw [(at' b u z).2]⟩
    · obtain ⟨rfl, rfl⟩ := at' b u z
      exact ⟨ha, size, vs, _, rv, ha⟩
/-- the end of a law row, from its def's worth -/
theorem walk_end {l : PySem.W.OpenLaw} {n k : Nat} {q : Program} {loose : List Str} {XP : (Str → Option Value) → Heap → Prop} {YP : World → Heap → Prop} {d : DefRec} {K : Params → PySem.W.Frag} {x : Str} {μ : M C}
    (hn : l.most = some n) (hn2 : n ≤ sizeLine) (hdf : d.params.defaults = []) (hr : Room k callerA) (hY : ∀ (w : World) (h : Heap), YP w h → (K w.params).In h)
    (F : ∀ (w : World) (mg : Str → Option Value) (fa : Addr) (h : Heap), (K w.params).In h → h.Ns mainGlobals mg → mg d.name = some (.ref fa) →
      ∃ fd : FuncData, (∀ (s : Shared) (u : Value), BindsTo s fd ⟨[u], []⟩ [(x, u)]) ∧ ∀ base : Heap, (K w.params).In base → base.Ns mainGlobals mg → FnG l.prog w (K w.params) mg base CX0 k fa fd [x] (spF (K w.params) 1 (noEr μ)))
    (law : ∀ ns : List Int, ns.length ≤ n → ∃ ρ, μ [.fz (.fr (ns.map D.int))] = .ok (.fz (.bl true)) ρ) :
    PySem.W.WalkO q loose XP YP l.row.toRowW d [] (fun f vs => PySem.call f vs) := by
  refine Att.attach_call hn hdf ?_
  intro w s₀ s₁ mg mb fa o pm cd doc a vs ns g Y _ _ _ hmg hobj hints hlen hgen
  have hK := hY w _ Y
  obtain ⟨fd, hb, hG⟩ := F w mg fa _ hK g.T.g hmg
  refine law_ends hK g.T.g g.T.b g.T.builtins g.T.nolimit hgen hobj hints (Nat.le_trans hlen hn2) hr hG hb ?_ (fun _ _ _ z => z)
  intro H only seq
  obtain ⟨ρ, hμ⟩ := law ns hlen
  have allInt : ∀ {F : Addr → Prop} {H : Hp} (ms : List Int), Reps (K w.params) F H (ms.map V.int) (ms.map D.int) := by
    intro F H ms
    induction ms with
    | nil => exact .nil
    | cons m ms ih => exact .cons (.int m) ih
  refine ⟨rfl, fun b => b = a ∧ H a ≠ none, [], [.fz (.fr (ns.map D.int))], rfl, by simp, ?_, ?_⟩
  · refine ⟨[], .cons (O := []) (.fz (.fr ?_ (allInt ns))) .nil, .nil, by simp, ?_⟩
    · rcases seq with seq | seq
      · refine .inl ⟨⟨rfl, ?_⟩, seq⟩
        rcases seq with z | ⟨_, z⟩ <;> (rw [z]; simp)
      · exact .inr seq
    · rintro b ⟨rfl, z⟩
      exact z
  · unfold noEr
    rw [hμ]
    intro v F' H' _ al
    exact al.fzOf.blv
end Dn

/-! Den10: repr, chains, keywords. -/
namespace Dn
open PySem PySem.Spec PyProof.Rows L2

/-! ### repr -/
/-- small enough to be shown -/
def shw (p : PyData) : Bool := p.showable && !p.hasDict && decide (p.depth ≤ 40) && decide (p.shown.length ≤ sizeLine)
def reprD : D → Option D
  | .lst ds => (toPy (.lst ds)).bind fun p => if shw p then some (.str p.shown) else none
  | .tup ds => (toPy (.tup ds)).bind fun p => if shw p then some (.str p.shown) else none
  | _ => none
def rShow (K : PySem.W.Frag) : List V → Hp → VK → Prop := fun vs H Q => ∃ a p, vs = [.ref a] ∧ Dp K H (.ref a) p ∧ shw p = true ∧ Q (.str p.shown) H
theorem call_show {X : Cx} (hgd : X.A.guards = some []) (hu : X.A.units + 64 < cLine) : CallR X (.builtin "repr") (rShow X.K) := by
  intro pins s σ H vs us Q I r h
  obtain ⟨a, p, rfl, hd, hs, q⟩ := h
  obtain ⟨u, rfl, ru⟩ := r.one
  obtain ⟨as, rd⟩ := Dp.reads I p _ _ hd ru
  cases ru
  unfold shw at hs
  simp only [Bool.and_eq_true, Bool.not_eq_true', decide_eq_true_eq] at hs
  obtain ⟨⟨⟨h1, h2⟩, h3⟩, h4⟩ := hs
  refine repr_of_reads' rd h1 (fun z => by rw [h2] at z; cases z) hgd (by omega) (fun b o e => e) (fun h' t tk kp => ?_) h4
  exact ⟨.str p.shown, H, I.kept kp, ⟨t, rfl⟩, q⟩
theorem ok_show {K : PySem.W.Frag} : CbOk K (rShow K) (sc1 reprD) := sc1_ok fun d z F H v Q e r q => by
  have fin : ∀ {p : PyData} {a : Addr}, toPy d = some p → shw p = true → v = .ref a → z = .str p.shown → rShow K [v] H Q := fun {p a} h1 h2 h3 h4 => by
    subst h3 h4
    exact ⟨a, p, rfl, r.dp h1, h2, q _ (.str _)⟩
  cases d <;> simp only [reprD, reduceCtorEq, Option.bind_eq_some_iff] at e
  · obtain ⟨p, e1, e2⟩ := e
    split at e2 <;> cases e2
    obtain ⟨a, vs, rfl, _⟩ := r.lstv
    exact fin e1 (by assumption) rfl rfl
  · obtain ⟨p, e1, e2⟩ := e
    split at e2 <;> cases e2
    obtain ⟨a, vs, rfl, _⟩ := r.tupv
    exact fin e1 (by assumption) rfl rfl

/-! ### a < b < c -/
def eChain (f g : D → D → Option D) (a b c : M C) : M C := fun ρ => (a ρ).bind fun x ρ => (b ρ).bind fun y ρ => match f (fzD x) (fzD y) with
  | some (.bl true) => (c ρ).bind fun z ρ => match g (fzD y) (fzD z) with
    | some (.bl k) => .ok (.fz (.bl k)) ρ
    | _ => .st
  | some (.bl false) => .ok (.fz (.bl false)) ρ
  | _ => .st
section
variable {X : Cx} {W : WX} {pos : Pos} {a b c : Expr} {ma mb mc : M C} {op op' : CmpOp} {r r' : R2} {f g : D → D → Option D}
theorem chain_ok (hf : OpOk X.K r f) (hg : OpOk X.K r' g) {σ : L2.St} {H : Hp} {Q : VK} (h : tOf X.K W (eChain f g ma mb mc) σ H Q) : tChain r r' (tOf X.K W ma) (tOf X.K W mb) (tOf X.K W mc) σ H Q := by
  obtain ⟨F, ρ, τ, s, gg⟩ := h
  unfold eChain at gg
  refine run2 s gg fun c d ρ2 F2 H2 v w s2 q => ?_
  split at q
  · rename_i hz
    refine hf _ _ _ F2 H2 v w _ hz s2.drop.fzOf s2.fzOf fun u ru => ⟨true, ru.blv, ?_⟩
    rw [if_pos rfl]
    rw [Good.bind] at q
    refine run1 s2 (q.imp (fun z ρ3 q v3 F3 H3 s3 => ?_) fun _ _ q => q.drop.drop)
    split at q
    · rename_i k hk
      exact hg _ _ _ F3 H3 w v3 Q hk s3.drop.fzOf s3.fzOf fun u ru => q u F3 H3 (by simp) (s3.drop.drop.drop.push ru)
    · exact q.elim
  · rename_i hz
    refine hf _ _ _ F2 H2 v w _ hz s2.drop.fzOf s2.fzOf fun u ru => ⟨false, ru.blv, ?_⟩
    rw [if_neg Bool.false_ne_true]
    exact q _ F2 H2 (by simp) (s2.drop.drop.push (.bl _))
  · exact q.elim
theorem d_chain (ho : OpR X (compareOp op) r) (hf : OpOk X.K r f) (ho' : OpR X (compareOp op') r') (hg : OpOk X.K r' g) (ha : PE X a (tOf X.K W ma)) (hb : PE X b (tOf X.K W mb)) (hc : PE X c (tOf X.K W mc))
    (hm : lastMarks [op, op'] [b, c] = false := by with_unfolding_all rfl) : PE X (.Compare a [op, op'] [b, c] pos) (tOf X.K W (eChain f g ma mb mc)) := (pe_chain ho ho' ha hb hc hm).imp fun _ _ _ h => chain_ok hf hg h
theorem dt_chain (ho : OpR X (compareOp op) r) (hf : OpOk X.K r f) (ho' : OpR X (compareOp op') r') (hg : OpOk X.K r' g) (ha : PE X a (tOf X.K W ma)) (hb : PE X b (tOf X.K W mb)) (hc : PE X c (tOf X.K W mc))
    (hm : lastMarks [op, op'] [b, c] = false := by with_unfolding_all rfl) : PT X (.Compare a [op, op'] [b, c] pos) (bOf X.K W (asB (eChain f g ma mb mc))) := (pt_chain ho ho' ha hb hc hm).imp fun _ _ _ h => chain_ok hf hg (asB_ok h)
end

/-! ### keywords -/
section
variable {X : Cx} {W : WX} {pos p kpos : Pos} {e : Expr} {es : List Expr} {kws : List Keyword} {nm : Option Str} {m : M C} {r mk ma : M (List C)} {k n nk : Nat} {f : Addr} {fd : FuncData} {ps ks : List Str} {μ : M C} {x : Str} {cx : CXT}
theorem _root_.L2.PK.imp {e : List Keyword} {t u : TA} (h : PK X e t) (f : ∀ σ H Q, u σ H Q → t σ H Q) : PK X e u := ⟨fun pos pins s σ H Q I hw => h.run pos pins s σ H Q I (f σ H Q hw)⟩
theorem dk_nil : PK X [] (aOf X.K W aNil) := pk_nil.imp fun σ H Q ⟨F, ρ, τ, s, g⟩ => g [] F H rfl (fun _ z => nomatch z) s
theorem dk_cons (h1 : PE X e (tOf X.K W m)) (h2 : PK X kws (aOf X.K W r)) : PK X (⟨nm, e, kpos⟩ :: kws) (aOf X.K W (aCons m r)) := (pk_cons h1 h2).imp fun σ H Q ⟨F, ρ, τ, s, g⟩ => by
  unfold aCons at g
  rw [Good.bind] at g
  refine runC s (g.imp (fun c ρ1 q v F1 H1 nc s1 => ?_) fun _ _ q => q)
  rw [Good.bind] at q
  refine runA s1 (q.imp (fun cs ρ2 q2 vs F2 H2 hl hn s2 => ?_) fun _ _ q => q.drop)
  refine q2 (v :: vs) F2 H2 (by simp [hl]) (fun c' hc' => ?_) (s2.perm ?_)
  · rcases List.mem_cons.mp hc' with rfl | z
    · exact nc
    · exact hn c' z
  · show (tmps vs cs ++ (some v, c) :: τ).Perm ((some v, c) :: tmps vs cs ++ τ)
    exact List.perm_middle
def eCallK (μ : M C) (a b : M (List C)) : M C := fun ρ => (a ρ).bind fun cs ρ => (b ρ).bind fun ds ρ => match μ (cs ++ ds) with
  | .ok c _ => .ok c ρ
  | .er e _ => .er e ρ
  | .st => .st
theorem tmps_append {vs ws : List V} {cs ds : List C} (h : vs.length = cs.length) : tmps (vs ++ ws) (cs ++ ds) = tmps vs cs ++ tmps ws ds := by
  unfold tmps
  rw [List.map_append, List.zip_append (by rw [List.length_map, h])]
theorem d_callK (G : FnG X.prog X.w X.K X.mg X.base cx k f fd ps (spF X.K (n + nk) μ)) (hr : Room k X.A) (hgd : X.A.guards = some []) (hm : X.mg x = some (.ref f)) (hk : PySem.W.keepIn X.K (.ref f) = true) (hb : KwB X.K fd ps ks) (hx : ∀ σ, PassesAt cx X σ (WE W σ))
    (ha : PA X (e :: es) (aOf X.K W ma)) (hl : lenIs n ma) (hkw : PK X kws (aOf X.K W mk)) (hlk : lenIs nk mk) (hnk : ks.length = nk := by rfl) (hg : Gl X x := by rfl) (hall : (backToKw pos (keywordEach kws X.env)).all (·.1.isSome) = true := by rfl)
    (hks : (backToKw pos (keywordEach kws X.env)).filterMap (·.1) = ks := by rfl) (hdb : (x == ("__debug__" : Str)) = false := by decide) (he : starEach (e :: es) X.env = (false, eval e X.env) :: starEach es X.env := by rfl)
    (hpl : ((backTo pos (starEach (e :: es) X.env)).any (·.1) || (backToKw pos (keywordEach kws X.env)).any (·.1.isNone)) = false := by rfl) : PE X (.Call (.Name x p) (e :: es) kws pos) (tOf X.K W (eCallK μ ma mk)) :=
  (pe_goK G hr hgd hg hm hk hb hx ha hkw (fun σ H Q ⟨F, ρ, τ, s, g⟩ => ⟨F, ρ, τ, s, (Good.len hlk g).imp (fun cs ρ1 q vs F1 H1 h1 h2 s1 => ⟨by rw [h1, q.1, hnk], q.2 vs F1 H1 h1 h2 s1⟩) fun _ _ q => q⟩) hall hks hdb he hpl).imp fun σ H Q ⟨F, ρ, τ, s, g⟩ => by
    unfold eCallK at g
    rw [Good.bind] at g
    refine runA s ((Good.len hl g).imp (fun cs ρ1 q vs F1 H1 h1 h2 s1 => ?_) fun _ _ q => q)
    obtain ⟨q0, q⟩ := q
    rw [Good.bind] at q
    refine runA s1 ((Good.len hlk q).imp (fun ds ρ2 q ws F2 H2 h3 h4 s2 => ?_) fun _ _ q => q.dropL)
    have s3 : Sta X.K F2 H2 σ ρ2 (tmps (vs ++ ws) (cs ++ ds) ++ τ) := by
      rw [tmps_append h1]
      refine s2.perm ?_
      rw [List.append_assoc, ← List.append_assoc, ← List.append_assoc]
      exact List.perm_append_comm.append_right τ
    refine sp_of (cs := cs ++ ds) (by rw [List.length_append, h1, h3, q0, q.1]) (by rw [List.length_append, List.length_append, h1, h3]) (fun c m => (List.mem_append.mp m).elim (h2 c) (h4 c)) s3 q.2
/-- no keyword but for keyword-only parameters, or by name: how it binds, by computation -/
theorem kwb_of {K : PySem.W.Frag} {fd : FuncData} {ps ks : List Str} (h : ∀ us ws : List Value, ws.length = ks.length → (us ++ ws).length = ps.length → bindArgs fd ⟨us, ks.zip ws⟩ = pure (ps.zip (us ++ ws))) : KwB K fd ps ks := fun s us ws _ h1 h2 => .of_eq (h us ws h1 h2)
end
end Dn

/-! Den11: what the words are worth, for simp. -/
namespace Dn
open PySem PySem.Spec PyProof.Rows L2

section
variable (ρ : Rho) (i j k : Nat) (m n a b c : M C) (t u : M Bool) (f : D → D → Option D) (g : D → D → Option C) (x y : SM)
@[simp] theorem eVar_ap : eVar i ρ = match ρ[i]? with
  | some (.fz d) => .ok (.fz d) ρ
  | some (.ow cs) => .ok (.fz (fzD (.ow cs))) (ρ.set i (.fz (fzD (.ow cs))))
  | some (.tp cs) => .ok (.fz (fzD (.tp cs))) (ρ.set i (.fz (fzD (.tp cs))))
  | some (.od cs) => .ok (.fz (fzD (.od cs))) (ρ.set i (.fz (fzD (.od cs))))
  | _ => .st := rfl
@[simp] theorem eMv_ap : eMv i ρ = match ρ[i]? with
  | none => .st
  | some .no => .st
  | some c => .ok c (ρ.set i .no) := rfl
@[simp] theorem eFz_ap : eFz m ρ = (m ρ).bind fun c ρ => .ok (.fz (fzD c)) ρ := rfl
@[simp] theorem aNil_ap : aNil ρ = .ok [] ρ := rfl
@[simp] theorem aCons_ap (r : M (List C)) : aCons m r ρ = (m ρ).bind fun c ρ => (r ρ).bind fun cs ρ => .ok (c :: cs) ρ := rfl
@[simp] theorem small_lit : small n' = decide (n' ≤ 1000000) := rfl
@[simp] theorem eTupC_ap (r : M (List C)) : eTupC r ρ = (r ρ).bind fun cs ρ => if small cs.length then .ok (.tp cs) ρ else .st := rfl
@[simp] theorem eTup_ap (r : M (List C)) : eTup r ρ = (r ρ).bind fun cs ρ => if small cs.length then .ok (.fz (.tup (cs.map fzD))) ρ else .st := by
  show ((r ρ).bind fun cs ρ => if small cs.length then (R.ok (C.tp cs) ρ : R C) else .st).bind _ = _
  cases r ρ with
  | st => rfl
  | er _ _ => rfl
  | ok cs ρ' =>
    simp only [R.bind_ok]
    split
    · simp
    · rfl
@[simp] theorem eLst_ap (r : M (List C)) : eLst r ρ = (r ρ).bind fun cs ρ => if small cs.length then .ok (.ow cs) ρ else .st := rfl
@[simp] theorem eOp_ap : eOp f a b ρ = (a ρ).bind fun c ρ => (b ρ).bind fun d ρ => match f (fzD c) (fzD d) with
  | some z => .ok (.fz z) ρ
  | none => .st := rfl
@[simp] theorem eOpC_ap : eOpC g a b ρ = (a ρ).bind fun c ρ => (b ρ).bind fun d ρ => match g (fzD c) (fzD d) with
  | some z => .ok z ρ
  | none => .st := rfl
@[simp] theorem asB_ap : asB m ρ = (m ρ).bind fun c ρ => match fzD c with
  | .bl b => .ok b ρ
  | _ => .st := rfl
@[simp] theorem eUn_ap (f : D → Option D) : eUn f a ρ = (a ρ).bind fun c ρ => match f (fzD c) with
  | some z => .ok (.fz z) ρ
  | none => .st := rfl
@[simp] theorem bTru_ap (f : D → Option Bool) : bTru f m ρ = (m ρ).bind fun c ρ => match f (fzD c) with
  | some b => .ok b ρ
  | none => .st := rfl
@[simp] theorem bVar_ap : bVar i ρ = match ρ[i]? with
  | some (.ow cs) => .ok (!cs.isEmpty) ρ
  | some (.fz d) => match truD d with
    | some b => .ok b ρ
    | none => .st
  | _ => .st := rfl
@[simp] theorem bNot_ap : bNot t ρ = (t ρ).bind fun b ρ => .ok (!b) ρ := rfl
@[simp] theorem bAnd_ap : bAnd t u ρ = (t ρ).bind fun b ρ => if b = true then u ρ else .ok false ρ := rfl
@[simp] theorem bOr_ap : bOr t u ρ = (t ρ).bind fun b ρ => if b = true then .ok true ρ else u ρ := rfl
@[simp] theorem ofB_ap : ofB t ρ = (t ρ).bind fun b ρ => .ok (.fz (.bl b)) ρ := rfl
@[simp] theorem eNot_ap : eNot m ρ = (asB m ρ).bind fun b ρ => .ok (.fz (.bl !b)) ρ := by
  show ((asB m ρ).bind fun b ρ => R.ok (!b) ρ).bind _ = _
  cases asB m ρ <;> rfl
@[simp] theorem eAnd_ap : eAnd m n ρ = (asB m ρ).bind fun b ρ => if b = true then n ρ else .ok (.fz (.bl false)) ρ := rfl
@[simp] theorem eOr_ap : eOr m n ρ = (asB m ρ).bind fun b ρ => if b = true then .ok (.fz (.bl true)) ρ else n ρ := rfl
@[simp] theorem eIf_ap : eIf t a b ρ = (t ρ).bind fun c ρ => if c = true then a ρ else b ρ := rfl
@[simp] theorem itemV_ap (d : C) : itemV i d ρ = match ρ[i]? with
  | some (.fz x) => match ixD x (fzD d) with
    | some z => .ok (.fz z) ρ
    | none => .st
  | some (.ow cs) => match fzD d with
    | .int j => match atI cs j with
      | some (.fz z) => .ok (.fz z) ρ
      | _ => .st
    | _ => .st
  | some (.tp cs) => match fzD d with
    | .int j => match atI cs j with
      | some (.fz z) => .ok (.fz z) ρ
      | _ => .st
    | _ => .st
  | _ => .st := rfl
@[simp] theorem eIxV_ap : eIxV i m ρ = if hasN ρ[i]? then (m ρ).bind fun d ρ => itemV i d ρ else .st := rfl
@[simp] theorem pNone_ap : pNone ρ = .ok none ρ := rfl
@[simp] theorem pSome_ap : pSome m ρ = (m ρ).bind fun c ρ => match fzD c with
  | .int i => .ok (some i) ρ
  | _ => .st := rfl
@[simp] theorem eSl_ap (lo hi : M (Option Int)) : eSl a lo hi ρ = (a ρ).bind fun c ρ => (lo ρ).bind fun l ρ => (hi ρ).bind fun h ρ => match slC (fzD c) l h with
  | some z => .ok z ρ
  | none => .st := rfl
@[simp] theorem eCB_ap (f : List D → Option C) (r : M (List C)) : eCB f r ρ = (r ρ).bind fun cs ρ => match f (cs.map fzD) with
  | some z => .ok z ρ
  | none => .st := rfl
@[simp] theorem eCBV_ap (f : List D → Option C) : eCBV f i ρ = match ρ[i]? with
  | none => .st
  | some .no => .st
  | some c => match f [fzD c] with
    | some (.fz z) => if isScal z then .ok (.fz z) ρ else .st
    | _ => .st := rfl
@[simp] theorem eOpV_ap : eOpV f a i ρ = (a ρ).bind fun c ρ => match ρ[i]? with
  | none => .st
  | some .no => .st
  | some d => match f (fzD c) (fzD d) with
    | some z => if isScal z then .ok (.fz z) ρ else .st
    | none => .st := rfl
@[simp] theorem sNext_ap : sNext ρ = .nx ρ := rfl
def SR.seq (r : SR) (b : SM) : SR := match r with
  | .nx ρ' => b ρ'
  | r => r
@[simp] theorem seq_nx : (SR.nx ρ).seq x = x ρ := rfl
@[simp] theorem seq_rt : (SR.rt d).seq x = .rt d := rfl
@[simp] theorem seq_bk : (SR.bk ρ).seq x = .bk ρ := rfl
@[simp] theorem seq_ct : (SR.ct ρ).seq x = .ct ρ := rfl
@[simp] theorem seq_st : (SR.st).seq x = .st := rfl
@[simp] theorem seq_er (e : Er) : (SR.er e ρ).seq x = .er e ρ := rfl
@[simp] theorem sSeq_ap : sSeq x y ρ = (x ρ).seq y := rfl
@[simp] theorem sBrk_ap : sBrk ρ = .bk ρ := rfl
@[simp] theorem sCnt_ap : sCnt ρ = .ct ρ := rfl
@[simp] theorem sExpr_ap : sExpr m ρ = (m ρ).thn fun _ ρ => .nx ρ := rfl
@[simp] theorem sRet_ap : sRet m ρ = (m ρ).thn fun c _ => .rt c := rfl
@[simp] theorem sIf_ap : sIf t x y ρ = (t ρ).thn fun c ρ => if c = true then x ρ else y ρ := rfl
@[simp] theorem sSet_ap : sSet i m ρ = (m ρ).thn fun c ρ => if i < ρ.length then .nx (ρ.set i c) else .st := rfl
@[simp] theorem sAsg_ap (put : C → Rho → Option Rho) : sAsg put m ρ = (m ρ).thn fun c ρ => match put c ρ with
  | some ρ' => .nx ρ'
  | none => .st := rfl
@[simp] theorem sPar_ap (r : M (List C)) : sPar i j r ρ = (r ρ).thn fun cs ρ => match cs with
  | [c, d] => if i < ρ.length ∧ j < ρ.length then .nx ((ρ.set i c).set j d) else .st
  | _ => .st := rfl
@[simp] theorem sFor_ap (mi : M (List D)) (put : C → Rho → Option Rho) : sFor mi put x ρ = (mi ρ).thn fun ds ρ => forL put x ds ρ := rfl
@[simp] theorem sOw_ap (f : List C → C → Option (List C)) : sOw i m f ρ = if isOw ρ[i]? then (m ρ).thn fun c ρ => match ρ[i]? with
  | some (.ow cs) => match f cs c with
    | some cs' => .nx (ρ.set i (.ow cs'))
    | none => .st
  | _ => .st
  else .st := rfl
@[simp] theorem sClr_ap : sClr i ρ = match ρ[i]? with
  | some (.ow _) => .nx (ρ.set i (.ow []))
  | _ => .st := rfl
@[simp] theorem sSetIx_ap : sSetIx i m n ρ = (n ρ).thn fun c ρ => if isOw ρ[i]? then (m ρ).thn fun d ρ => match ρ[i]?, fzD d with
  | some (.ow cs), .int j => match setF j cs c with
    | some cs' => .nx (ρ.set i (.ow cs'))
    | none => .st
  | _, _ => .st
  else .st := rfl
@[simp] theorem ePop_ap : ePop i ρ = match ρ[i]? with
  | some (.ow cs) => match cs[cs.length - 1]? with
    | some (.fz d) => .ok (.fz d) (ρ.set i (.ow cs.dropLast))
    | _ => .st
  | _ => .st := rfl
@[simp] theorem eCall_ap (μ : M C) (r : M (List C)) : eCall μ r ρ = (r ρ).bind fun cs ρ => match μ cs with
  | .ok c _ => .ok c ρ
  | .er e _ => .er e ρ
  | .st => .st := rfl
@[simp] theorem eCallK_ap (μ : M C) (r s : M (List C)) : eCallK μ r s ρ = (r ρ).bind fun cs ρ => (s ρ).bind fun ds ρ => match μ (cs ++ ds) with
  | .ok c _ => .ok c ρ
  | .er e _ => .er e ρ
  | .st => .st := rfl
@[simp] theorem iLst_ap : iLst m ρ = (m ρ).bind fun c ρ => match fzD c with
  | .lst ds => .ok ds ρ
  | .fr ds => .ok ds ρ
  | _ => .st := rfl
@[simp] theorem iTupM_ap : iTupM m ρ = (m ρ).bind fun c ρ => match fzD c with
  | .tup ds => .ok ds ρ
  | _ => .st := rfl
@[simp] theorem iRg1_ap (r : M (List C)) : iRg1 r ρ = (r ρ).bind fun cs ρ => match cs.map fzD with
  | [.int j] => if r62 j then .ok (intsD 0 j.toNat) ρ else .st
  | _ => .st := rfl
@[simp] theorem iRg2_ap (r : M (List C)) : iRg2 r ρ = (r ρ).bind fun cs ρ => match cs.map fzD with
  | [.int i, .int j] => if r62 i && r62 j then .ok (intsD i (j - i).toNat) ρ else .st
  | _ => .st := rfl
@[simp] theorem iEnm_ap (r : M (List C)) : iEnm r ρ = (r ρ).bind fun cs ρ => match cs.map fzD with
  | [.lst ds] => .ok (enumD ds) ρ
  | _ => .st := rfl
@[simp] theorem iZp_ap (r : M (List C)) : iZp r ρ = (r ρ).bind fun cs ρ => match cs.map fzD with
  | [.lst ds, .lst es] => .ok (zipD ds es) ρ
  | _ => .st := rfl
@[simp] theorem forL_nil (put : C → Rho → Option Rho) : forL put x [] ρ = .nx ρ := rfl
theorem forL_cons (put : C → Rho → Option Rho) (d : D) (ds : List D) : forL put x (d :: ds) ρ = match put (.fz d) ρ with
  | none => .st
  | some ρ1 => match x ρ1 with
    | .nx ρ2 => forL put x ds ρ2
    | .ct ρ2 => forL put x ds ρ2
    | .bk ρ2 => .nx ρ2
    | r => r := rfl
@[simp] theorem bYes_ap : bYes ρ = .ok true ρ := rfl
@[simp] theorem put_nm (c : C) : Tg.put (.nm i) c ρ = if i < ρ.length then some (ρ.set i c) else none := by simp [Tg.put]
@[simp] theorem put_tup (ts : List Tg) (ds : List D) : Tg.put (.tup ts) (.fz (.tup ds)) ρ = putL ts (ds.map .fz) ρ := by simp [Tg.put]
@[simp] theorem put_tp (ts : List Tg) (ds : List C) : Tg.put (.tup ts) (.tp ds) ρ = putL ts ds ρ := by simp [Tg.put]
@[simp] theorem putL_nil : putL [] [] ρ = some ρ := by simp [putL]
@[simp] theorem putL_cons (t : Tg) (ts : List Tg) (c : C) (cs : List C) : putL (t :: ts) (c :: cs) ρ = (t.put c ρ).bind (putL ts cs) := by simp [putL]
@[simp] theorem eLc_ap (vs : List Nat) (mi : M (List D)) (put : C → Rho → Option Rho) (el : M C) : eLc vs mi put t el ρ = (mi ρ).bind fun ds ρ1 => (lcL vs put t el ds [] (wipeR ρ1 vs)).bind fun acc ρ2 => .ok (.ow acc) (restR ρ1 vs ρ2) := rfl
@[simp] theorem wipeR_nil : wipeR ρ [] = ρ := rfl
@[simp] theorem wipeR_cons (v : Nat) (vs : List Nat) : wipeR ρ (v :: vs) = (wipeR ρ vs).set v .no := rfl
@[simp] theorem restR_nil (ρ0 : Rho) : restR ρ0 [] ρ = ρ := rfl
@[simp] theorem restR_cons (ρ0 : Rho) (v : Nat) (vs : List Nat) : restR ρ0 (v :: vs) ρ = restR ρ0 vs (ρ.set v ((wipeR ρ0 vs)[v]?.getD .no)) := rfl
@[simp] theorem hasN_none : hasN none = false := rfl
@[simp] theorem hasN_no : hasN (some .no) = false := rfl
@[simp] theorem hasN_fz (d : D) : hasN (some (.fz d)) = true := rfl
@[simp] theorem hasN_ow (d : List C) : hasN (some (.ow d)) = true := rfl
@[simp] theorem hasN_tp (d : List C) : hasN (some (.tp d)) = true := rfl
@[simp] theorem isOw_ow (d : List C) : isOw (some (.ow d)) = true := rfl
@[simp] theorem isOw_fz (d : D) : isOw (some (.fz d)) = false := rfl
@[simp] theorem appF_ap (cs : List C) (c : C) : appF cs c = if small cs.length then some (cs ++ [c]) else none := rfl
@[simp] theorem sc1_one (f : D → Option D) (d : D) : sc1 f [d] = (f d).map .fz := rfl
@[simp] theorem sc2_two (f : D → D → Option D) (d e : D) : sc2 f [d, e] = (f d e).map .fz := rfl
@[simp] theorem nw1_one (f : D → Option C) (d : D) : nw1 f [d] = f d := rfl
@[simp] theorem isScal_int (i : Int) : isScal (.int i) = true := rfl
@[simp] theorem isScal_bl (i : Bool) : isScal (.bl i) = true := rfl
@[simp] theorem isScal_str (i : Str) : isScal (.str i) = true := rfl
@[simp] theorem isScal_non : isScal .non = true := rfl
end
/-! operators -/
section
variable (i j : Int) (b c : Bool) (s t : Str) (ds es : List D)
@[simp] theorem iSub_i : iSub (.int i) (.int j) = some (.int (i - j)) := rfl
@[simp] theorem iMod_i : iMod (.int i) (.int j) = if 0 < j then some (.int (i % j)) else none := rfl
@[simp] theorem iDiv_i : iDiv (.int i) (.int j) = if 0 < j ∧ j.natAbs.log2 < 9000 then some (.int (i / j)) else none := rfl
@[simp] theorem iPow_i : iPow (.int i) (.int j) = if 0 ≤ j ∧ j ≤ 1000 ∧ i.natAbs < 1000000 then some (.int (i ^ j.toNat)) else none := rfl
@[simp] theorem iLt_i : iLt (.int i) (.int j) = some (.bl (decide (i < j))) := rfl
@[simp] theorem iLe_i : iLe (.int i) (.int j) = some (.bl (decide (i ≤ j))) := rfl
@[simp] theorem iGt_i : iGt (.int i) (.int j) = some (.bl (decide (j < i))) := rfl
@[simp] theorem iGe_i : iGe (.int i) (.int j) = some (.bl (decide (j ≤ i))) := rfl
@[simp] theorem negD_i : negD (.int i) = some (.int (-i)) := rfl
@[simp] theorem addC_i : addC (.int i) (.int j) = some (.fz (.int (i + j))) := rfl
@[simp] theorem addC_l : addC (.lst ds) (.lst es) = if small (ds.length + es.length) then some (.ow ((ds ++ es).map .fz)) else none := rfl
@[simp] theorem mulC_i : mulC (.int i) (.int j) = if wide i j then some (.fz (.int (i * j))) else none := rfl
@[simp] theorem lenD_l : lenD (.lst ds) = some (.int ds.length) := rfl
@[simp] theorem lenD_f : lenD (.fr ds) = some (.int ds.length) := rfl
@[simp] theorem lenD_t : lenD (.tup ds) = some (.int ds.length) := rfl
@[simp] theorem absD_i : absD (.int i) = some (.int i.natAbs) := rfl
@[simp] theorem intD_i : intD (.int i) = some (.int i) := rfl
@[simp] theorem intD_b : intD (.bl b) = some (.int (if b then 1 else 0)) := rfl
@[simp] theorem gcdD_i : gcdD (.int i) (.int j) = some (.int (Nat.gcd i.natAbs j.natAbs : Nat)) := rfl
@[simp] theorem min2D_i : min2D (.int i) (.int j) = some (.int (min i j)) := rfl
@[simp] theorem max2D_i : max2D (.int i) (.int j) = some (.int (max i j)) := rfl
@[simp] theorem eqD_i : eqD (.int i) (.int j) = some (.bl (decide (i = j))) := rfl
@[simp] theorem eqD_s : eqD (.str s) (.str t) = some (.bl (decide (s = t))) := rfl
@[simp] theorem eqD_b : eqD (.bl b) (.bl c) = some (.bl (decide (b = c))) := rfl
@[simp] theorem neD_i : neD (.int i) (.int j) = some (.bl (!decide (i = j))) := rfl
@[simp] theorem neD_s : neD (.str s) (.str t) = some (.bl (!decide (s = t))) := rfl
@[simp] theorem truD_b : truD (.bl b) = some b := rfl
@[simp] theorem truD_i : truD (.int i) = some (i != 0) := rfl
@[simp] theorem truD_l : truD (.lst ds) = some (!ds.isEmpty) := rfl
@[simp] theorem ixD_l : ixD (.lst ds) (.int i) = atI ds i := rfl
@[simp] theorem ixD_f : ixD (.fr ds) (.int i) = atI ds i := rfl
@[simp] theorem ixD_t : ixD (.tup ds) (.int i) = atI ds i := rfl
@[simp] theorem listC_l : listC (.lst ds) = some (.ow (ds.map .fz)) := rfl
@[simp] theorem slC_l (lo hi : Option Int) : slC (.lst ds) lo hi = some (.ow ((cutL ds lo hi).map .fz)) := rfl
@[simp] theorem isN_i : isN (.int i) .non = some (.bl false) := rfl
@[simp] theorem isN_n : isN .non .non = some (.bl true) := rfl
@[simp] theorem isNN_i : isNN (.int i) .non = some (.bl true) := rfl
@[simp] theorem isNN_n : isNN .non .non = some (.bl false) := rfl
@[simp] theorem allD_l : allD (.lst ds) = (boolsOf ds).map fun ns => .bl (ns.all id) := rfl
@[simp] theorem anyD_l : anyD (.lst ds) = (boolsOf ds).map fun ns => .bl (ns.any id) := rfl
@[simp] theorem sumD_l : sumD (.lst ds) = (intsOf ds).map fun ns => .int ns.sum := rfl
@[simp] theorem fzD_comp_fz : (fzD ∘ C.fz) = id := by funext d; simp
@[simp] theorem map_fzD_fz : (ds.map C.fz).map fzD = ds := by simp
end
/-- an item at a place -/
@[simp] theorem atI_cons_zero {α : Type} (a : α) (l : List α) : atI (a :: l) 0 = some a := by simp [L2.atI, L2.ixN]
theorem atI_natCast {α : Type} (l : List α) (n : Nat) : atI l (n : Int) = l[n]? := by
  unfold L2.atI L2.ixN
  by_cases h : n < l.length
  · rw [if_pos (by omega), if_pos (by omega)]; simp
  · rw [if_pos (by omega), if_neg (by omega), List.getElem?_eq_none (by omega)]; rfl
@[simp] theorem atI_cons_one {α : Type} (a b : α) (l : List α) : atI (a :: b :: l) 1 = some b := by
  have := atI_natCast (a :: b :: l) 1
  simpa using this
@[simp] theorem atI_cons_two {α : Type} (a b c : α) (l : List α) : atI (a :: b :: c :: l) 2 = some c := by
  have := atI_natCast (a :: b :: c :: l) 2
  simpa using this
@[simp] theorem atI_cons_three {α : Type} (a b c d : α) (l : List α) : atI (a :: b :: c :: d :: l) 3 = some d := by
  have := atI_natCast (a :: b :: c :: d :: l) 3
  simpa using this
@[simp] theorem atI_cons_four {α : Type} (a b c d e : α) (l : List α) : atI (a :: b :: c :: d :: e :: l) 4 = some e := by
  have := atI_natCast (a :: b :: c :: d :: e :: l) 4
  simpa using this
@[simp] theorem atI_cons_five {α : Type} (a b c d e f : α) (l : List α) : atI (a :: b :: c :: d :: e :: f :: l) 5 = some f := by
  have := atI_natCast (a :: b :: c :: d :: e :: f :: l) 5
  simpa using this
theorem atI_ofNat {α : Type} (l : List α) (n : Nat) : atI l (OfNat.ofNat n : Int) = l[(OfNat.ofNat n : Nat)]? := atI_natCast l n
theorem atI_toNat {α : Type} (l : List α) (i : Int) (h : 0 ≤ i) : atI l i = l[i.toNat]? := by
  have := atI_natCast l i.toNat
  rwa [Int.toNat_of_nonneg h] at this
@[simp] theorem atI_m1 {α : Type} (l : List α) : atI l (-1) = l.getLast? := by
  unfold L2.atI L2.ixN
  rw [if_neg (by omega)]
  by_cases h : l = []
  · subst h; simp
  · have : 0 < l.length := List.length_pos_iff.mpr h
    rw [if_pos (by omega), List.getLast?_eq_getElem?]
    show l[(-1 + (l.length : Int)).toNat]? = _
    congr 1
    omega
/-- a loop whose state is what F says -/
theorem forL_inv {put : C → Rho → Option Rho} {x : SM} (I : Nat → Rho → Prop) (ds : List D) (step : ∀ i d ρ, ds[i]? = some d → I i ρ → ∃ ρ1 ρ2, put (.fz d) ρ = some ρ1 ∧ (x ρ1 = .nx ρ2 ∨ x ρ1 = .ct ρ2) ∧ I (i + 1) ρ2) {ρ : Rho} (h : I 0 ρ) :
    ∃ ρ', forL put x ds ρ = .nx ρ' ∧ I ds.length ρ' := by
  have key : ∀ (n i : Nat) (ρ : Rho), n + i = ds.length → I i ρ → ∃ ρ', forL put x (ds.drop i) ρ = .nx ρ' ∧ I ds.length ρ' := by
    intro n
    induction n with
    | zero =>
      intro i ρ e h
      have : i = ds.length := by omega
      subst this
      rw [List.drop_length]
      exact ⟨ρ, rfl, h⟩
    | succ n ih =>
      intro i ρ e h
      have hi : i < ds.length := by omega
      rw [List.drop_eq_getElem_cons hi, forL_cons]
      obtain ⟨ρ1, ρ2, h1, h2, h3⟩ := step i ds[i] ρ (List.getElem?_eq_getElem hi) h
      obtain ⟨ρ', h4, h5⟩ := ih (i + 1) ρ2 (by omega) h3
      refine ⟨ρ', ?_, h5⟩
      rw [h1]
      rcases h2 with h2 | h2 <;> (simp only [h2]; exact h4)
  exact key ds.length 0 ρ (by omega) h
/-- a comprehension without a test, its state the names' cells at each turn the same -/
theorem lcL_map {vs : List Nat} {put : C → Rho → Option Rho} {t : M Bool} {el : M C} (ρ0 : Rho) (F : D → C) : ∀ (ds : List D) (acc : List C), acc.length + ds.length ≤ 1000000 →
    (∀ d ∈ ds, ∃ ρ1 ρ2 ρ3, put (.fz d) ρ0 = some ρ1 ∧ t ρ1 = .ok true ρ2 ∧ el ρ2 = .ok (F d) ρ3 ∧ wipeR ρ3 vs = ρ0) → lcL vs put t el ds acc ρ0 = .ok (acc ++ ds.map F) ρ0
  | [], acc, _, _ => by simp [lcL]
  | d :: ds, acc, hl, h => by
    obtain ⟨ρ1, ρ2, ρ3, h1, h2, h3, h4⟩ := h d List.mem_cons_self
    simp only [List.length_cons] at hl
    unfold lcL
    simp only [h1, h2, h3]
    rw [if_pos (by simp; omega), h4, lcL_map ρ0 F ds (acc ++ [F d]) (by simp; omega) fun d m => h d (List.mem_cons_of_mem _ m)]
    simp
/-- .. whose items come by their places -/
theorem lcL_get {vs : List Nat} {put : C → Rho → Option Rho} {t : M Bool} {el : M C} (ρ0 : Rho) {ds : List D} {cs : List C} (hl : ds.length = cs.length) (hs : ds.length ≤ 1000000)
    (h : ∀ (i : Nat) (d : D) (c : C), ds[i]? = some d → cs[i]? = some c → ∃ ρ1 ρ2 ρ3, put (.fz d) ρ0 = some ρ1 ∧ t ρ1 = .ok true ρ2 ∧ el ρ2 = .ok c ρ3 ∧ wipeR ρ3 vs = ρ0) : lcL vs put t el ds [] ρ0 = .ok cs ρ0 := by
  have key : ∀ (ds : List D) (cs acc : List C), ds.length = cs.length → acc.length + ds.length ≤ 1000000 → (∀ (i : Nat) (d : D) (c : C), ds[i]? = some d → cs[i]? = some c → ∃ ρ1 ρ2 ρ3, put (.fz d) ρ0 = some ρ1 ∧ t ρ1 = .ok true ρ2 ∧ el ρ2 = .ok c ρ3 ∧ wipeR ρ3 vs = ρ0) →
      lcL vs put t el ds acc ρ0 = .ok (acc ++ cs) ρ0 := by
    intro ds
    induction ds with
    | nil => intro cs acc e _ _; cases cs with | nil => simp [lcL] | cons _ _ => cases e
    | cons d ds ih =>
      intro cs acc e hl h
      cases cs with
      | nil => cases e
      | cons c cs =>
        obtain ⟨ρ1, ρ2, ρ3, h1, h2, h3, h4⟩ := h 0 d c rfl rfl
        simp only [List.length_cons] at hl
        unfold lcL
        simp only [h1, h2, h3]
        rw [if_pos (by simp; omega), h4, ih cs (acc ++ [c]) (Nat.succ.inj e) (by simp; omega) fun i d c e1 e2 => h (i + 1) d c e1 e2]
        simp
  simpa using key ds cs [] hl (by simpa using hs) h
@[simp] theorem intsD_len (lo : Int) (n : Nat) : (intsD lo n).length = n := by simp [intsD]
theorem intsD_get {lo : Int} {n i : Nat} {d : D} (h : (intsD lo n)[i]? = some d) : i < n ∧ d = .int (lo + i) := by
  unfold intsD at h
  rw [List.getElem?_map, Option.map_eq_some_iff] at h
  obtain ⟨k, e, rfl⟩ := h
  have hi : i < n := by have := List.getElem?_eq_some_iff.mp e; simpa using this.1
  rw [List.getElem?_range hi] at e
  cases e
  exact ⟨hi, rfl⟩
theorem len0_of {α : Type} {n : List α} (h : n.length = 0) : n = [] := List.length_eq_zero_iff.mp h
theorem len1_of {α : Type} {n : List α} (h : n.length = 1) : ∃ a, n = [a] := by
  match n, h with | [a], _ => exact ⟨a, rfl⟩
theorem len2_of {α : Type} {n : List α} (h : n.length = 2) : ∃ a b, n = [a, b] := by
  match n, h with | [a, b], _ => exact ⟨a, b, rfl⟩
theorem len3_of {α : Type} {n : List α} (h : n.length = 3) : ∃ a b c, n = [a, b, c] := by
  match n, h with | [a, b, c], _ => exact ⟨a, b, c, rfl⟩
/-! turns of a loop -/
def fStep (put : C → Rho → Option Rho) (x : SM) (d : D) (ρ : Rho) : SR := match put (.fz d) ρ with
  | none => .st
  | some ρ1 => x ρ1
@[simp] theorem fStep_ap (put : C → Rho → Option Rho) (x : SM) (d : D) (ρ : Rho) : fStep put x d ρ = match put (.fz d) ρ with
  | none => .st
  | some ρ1 => x ρ1 := rfl
def SR.sat (r : SR) (P : Rho → Prop) : Prop := match r with
  | .nx ρ => P ρ
  | .ct ρ => P ρ
  | _ => False
@[simp] theorem sat_nx (ρ : Rho) (P : Rho → Prop) : (SR.nx ρ).sat P = P ρ := rfl
@[simp] theorem sat_ct (ρ : Rho) (P : Rho → Prop) : (SR.ct ρ).sat P = P ρ := rfl
theorem forL_sat {put : C → Rho → Option Rho} {x : SM} (I : Nat → Rho → Prop) (ds : List D) (step : ∀ i d ρ, ds[i]? = some d → I i ρ → (fStep put x d ρ).sat (I (i + 1))) {ρ : Rho} (h : I 0 ρ) :
    ∃ ρ', forL put x ds ρ = .nx ρ' ∧ I ds.length ρ' := by
  refine forL_inv I ds (fun i d ρ e hi => ?_) h
  have := step i d ρ e hi
  unfold fStep at this
  split at this
  · exact this.elim
  · rename_i ρ1 e1
    generalize hx : x ρ1 = r at this
    cases r <;> try exact this.elim
    · exact ⟨ρ1, _, e1, .inl hx, this⟩
    · exact ⟨ρ1, _, e1, .inr hx, this⟩
def lcOne (vs : List Nat) (put : C → Rho → Option Rho) (t : M Bool) (el : M C) (d : D) (ρ : Rho) : R C := match put (.fz d) ρ with
  | none => .st
  | some ρ1 => (t ρ1).bind fun b ρ2 => if b then (el ρ2).bind fun c ρ3 => .ok c (wipeR ρ3 vs) else .st
@[simp] theorem lcOne_ap (vs : List Nat) (put : C → Rho → Option Rho) (t : M Bool) (el : M C) (d : D) (ρ : Rho) : lcOne vs put t el d ρ = match put (.fz d) ρ with
  | none => .st
  | some ρ1 => (t ρ1).bind fun b ρ2 => if b then (el ρ2).bind fun c ρ3 => .ok c (wipeR ρ3 vs) else .st := rfl
theorem lcOne_ok {vs : List Nat} {put : C → Rho → Option Rho} {t : M Bool} {el : M C} {d : D} {ρ ρ' : Rho} {c : C} (h : lcOne vs put t el d ρ = .ok c ρ') : ∃ ρ1 ρ2 ρ3, put (.fz d) ρ = some ρ1 ∧ t ρ1 = .ok true ρ2 ∧ el ρ2 = .ok c ρ3 ∧ wipeR ρ3 vs = ρ' := by
  unfold lcOne at h
  split at h
  · cases h
  · rename_i ρ1 e1
    generalize ht : t ρ1 = r at h
    cases r with
    | st => cases h
    | er _ _ => cases h
    | ok b ρ2 =>
      simp only [R.bind_ok] at h
      split at h
      · rename_i hb
        subst hb
        generalize he : el ρ2 = r at h
        cases r with
        | st => cases h
        | er _ _ => cases h
        | ok c' ρ3 =>
          cases h
          exact ⟨ρ1, ρ2, ρ3, e1, ht, he, rfl⟩
      · cases h
theorem lcL_mapO {vs : List Nat} {put : C → Rho → Option Rho} {t : M Bool} {el : M C} (ρ0 : Rho) (F : D → C) (ds : List D) (hl : ds.length ≤ 1000000) (h : ∀ d ∈ ds, lcOne vs put t el d ρ0 = .ok (F d) ρ0) : lcL vs put t el ds [] ρ0 = .ok (ds.map F) ρ0 := by
  simpa using lcL_map ρ0 F ds [] (by simpa using hl) fun d m => lcOne_ok (h d m)
/-- .. of what stands at its place -/
theorem lcL_getO {α : Type} {vs : List Nat} {put : C → Rho → Option Rho} {t : M Bool} {el : M C} (ρ0 : Rho) (G : α → D) (F : α → C) (xs : List α) (hl : xs.length ≤ 1000000) (h : ∀ a ∈ xs, lcOne vs put t el (G a) ρ0 = .ok (F a) ρ0) : lcL vs put t el (xs.map G) [] ρ0 = .ok (xs.map F) ρ0 := by
  refine lcL_get ρ0 (by simp) (by simpa using hl) fun i d c e1 e2 => ?_
  rw [List.getElem?_map, Option.map_eq_some_iff] at e1 e2
  obtain ⟨a, ha, rfl⟩ := e1
  obtain ⟨b, hb, rfl⟩ := e2
  rw [ha] at hb; cases hb
  exact lcOne_ok (h a (List.mem_of_getElem? ha))
/-- .. over a range -/
theorem lcL_rng {vs : List Nat} {put : C → Rho → Option Rho} {t : M Bool} {el : M C} (ρ0 : Rho) (n : Nat) (F : Nat → C) (hl : n ≤ 1000000) (h : ∀ i, i < n → lcOne vs put t el (.int (i : Nat)) ρ0 = .ok (F i) ρ0) : lcL vs put t el (intsD 0 n) [] ρ0 = .ok ((List.range n).map F) ρ0 := by
  have e : intsD 0 n = (List.range n).map fun i => D.int (i : Nat) := by simp [intsD]
  rw [e]
  exact lcL_getO ρ0 _ F (List.range n) (by simpa using hl) fun a m => h a (List.mem_range.mp m)
theorem atI_in {α : Type} {l : List α} {i : Int} (h0 : 0 ≤ i) (h : i < l.length) : ∃ a, atI l i = some a ∧ l[i.toNat]? = some a ∧ a ∈ l := by
  have e := atI_toNat l i h0
  have hi : i.toNat < l.length := by omega
  exact ⟨l[i.toNat], by rw [e, List.getElem?_eq_getElem hi], List.getElem?_eq_getElem hi, List.getElem_mem hi⟩
theorem atI_map {α β : Type} (f : α → β) (l : List α) (i : Int) : atI (l.map f) i = (atI l i).map f := by
  unfold L2.atI
  rw [List.length_map]
  cases ixN l.length i with
  | none => rfl
  | some k => simp
theorem setF_in {cs : List C} {i : Int} {c : C} (h0 : 0 ≤ i) (h : i < cs.length) : setF i cs c = some (cs.set i.toNat (.fz (fzD c))) := by
  unfold setF ixN
  rw [if_pos h0, if_pos (by omega)]; rfl
/-! ### to lend all for a moment -/
def frzC : C → C
  | .no => .no
  | c => .fz (fzD c)
abbrev frzR (ρ : Rho) : Rho := ρ.map frzC
@[simp] theorem frzC_no : frzC .no = .no := rfl
@[simp] theorem frzC_fz (d : D) : frzC (.fz d) = .fz d := by simp [frzC]
@[simp] theorem frzC_ow (cs : List C) : frzC (.ow cs) = .fz (.lst (cs.map fzD)) := by simp [frzC]
@[simp] theorem frzC_tp (cs : List C) : frzC (.tp cs) = .fz (.tup (cs.map fzD)) := by simp [frzC]
@[simp] theorem frzC_od (cs : List (Key × D)) : frzC (.od cs) = .fz (.dk cs) := by simp [frzC]
def eLend (m : M C) : M C := fun ρ => match m (frzR ρ) with
  | .ok (.fz z) _ => if isScal z then .ok (.fz z) ρ else .st
  | _ => .st
def bLend (m : M Bool) : M Bool := fun ρ => match m (frzR ρ) with
  | .ok b _ => .ok b ρ
  | _ => .st
@[simp] theorem eLend_ap (m : M C) (ρ : Rho) : eLend m ρ = match m (frzR ρ) with
  | .ok (.fz z) _ => if isScal z then .ok (.fz z) ρ else .st
  | _ => .st := rfl
@[simp] theorem bLend_ap (m : M Bool) (ρ : Rho) : bLend m ρ = match m (frzR ρ) with
  | .ok b _ => .ok b ρ
  | _ => .st := rfl
section
variable {K : PySem.W.Frag} {F F' : Addr → Prop} {H H' : Hp}
theorem RepP.frz (hF : ∀ a, F a → F' a) (hd : ∀ a, H a ≠ none → F' a) : ∀ {σ : L2.St} {ρ : Rho} {τ : List Pr} {O : List Addr}, RepP K F H (σ.zip ρ ++ τ) O → RepP K F' H (σ.zip (frzR ρ)) []
  | [], _, _, _, _ => by simpa using RepP.nil
  | _ :: _, [], _, _, _ => by simpa using RepP.nil
  | x :: σ, c :: ρ, τ, _, r => by
    simp only [List.zip_cons_cons, List.cons_append, List.map_cons] at r ⊢
    cases r with
    | no r => exact .no (RepP.frz hF hd r)
    | cons q r =>
      have h1 : frzC c = .fz (fzD c) := by cases c <;> first | rfl | cases q
      rw [h1]
      exact .cons (.fz (RepC.froz q hF fun a m => hd a (RepC.dom q a m))) (RepP.frz hF hd r)
theorem Sta.lend {σ : L2.St} {ρ : Rho} {τ : List Pr} (s : Sta K F H σ ρ τ) : Sta K (fun a => H a ≠ none) H σ (frzR ρ) [(some .non, .fz (.gh (fun a => H a ≠ none) H))] := by
  obtain ⟨e, O, r, nd, nf, dm⟩ := s
  refine ⟨by simpa using e, [], ?_, List.nodup_nil, nofun, fun a h => h⟩
  have h1 := RepP.frz dm (fun a h => h) r
  have h2 : RepP K (fun a => H a ≠ none) H [(some V.non, C.fz (.gh (fun a => H a ≠ none) H))] [] := .cons (.fz (.gh fun a g => ⟨g, rfl⟩)) .nil
  have app : ∀ (ps : List Pr), RepP K (fun a => H a ≠ none) H ps [] → RepP K (fun a => H a ≠ none) H (ps ++ [(some V.non, C.fz (.gh (fun a => H a ≠ none) H))]) [] := by
    intro ps
    induction ps with
    | nil => intro _; exact h2
    | cons p ps ih =>
      intro r
      generalize hO : ([] : List Addr) = O at r
      cases r with
      | no r => subst hO; exact .no (ih r)
      | @cons _ _ _ O1 O2 q r =>
        have := List.append_eq_nil_iff.mp hO.symm
        obtain ⟨rfl, rfl⟩ := this
        exact .cons (O := []) (O' := []) q (ih r)
  exact app _ h1
theorem Sta.unlend {σ : L2.St} {ρ ρ2 : Rho} {τ τ2 : List Pr} {G : Addr → Prop} (s : Sta K F H σ ρ τ) (s2 : Sta K F' H' σ ρ2 τ2) (m : ∃ l, (τ2.Perm ((some .non, .fz (.gh (fun a => H a ≠ none) H)) :: l))) : Sta K F H' σ ρ τ := by
  obtain ⟨l, p⟩ := m
  have r := (s2.perm p).fzOf
  cases r with
  | gh h => exact s.heap fun a g => (h a g).2
variable {X : Cx} {W : WX}
theorem lend_ok {m : M C} {σ : L2.St} {Q : VK} (h : tOf K W (eLend m) σ H Q) : tOf K W m σ H Q := by
  obtain ⟨F, ρ, τ, s, g⟩ := h
  refine ⟨_, _, _, s.lend, ?_⟩
  simp only [eLend_ap] at g
  generalize hm : m (frzR ρ) = r at g
  unfold frzR at hm
  cases r with
  | st => exact g.elim
  | er e _ => exact g.elim
  | ok c ρ2 =>
    cases c with
    | fz z =>
      simp only at g
      split at g
      · rename_i hz
        intro v F2 H2 _ s2
        have s3 : Sta K F H2 σ ρ τ := s.unlend (G := F) s2 ⟨[(some v, .fz z)], .swap _ _ _⟩
        have rv := s2.fzOf
        have e : ∀ F0, Rep K F0 H2 v z := fun F0 => by
          cases z <;> simp only [isScal, Bool.false_eq_true] at hz <;> cases rv <;> constructor
        exact g v F H2 nofun (s3.push (e F))
      · exact g.elim
    | _ => exact g.elim
theorem lendB_ok {m : M Bool} {σ : L2.St} {Q : Bool → Hp → Prop} (h : bOf K W (bLend m) σ H Q) : bOf K W m σ H Q := by
  obtain ⟨F, ρ, τ, s, g⟩ := h
  refine ⟨_, _, _, s.lend, ?_⟩
  simp only [bLend_ap] at g
  generalize hm : m (frzR ρ) = r at g
  unfold frzR at hm
  cases r with
  | st => exact g.elim
  | er e _ => exact g.elim
  | ok b ρ2 =>
    intro F2 H2 s2
    have s3 : Sta K F H2 σ ρ τ := s.unlend (G := F) s2 ⟨[], .refl _⟩
    exact g F H2 s3
end
section
variable {X : Cx} {W : WX} {e : Expr} {m : M C} {t : M Bool}
theorem d_lend (h : PE X e (tOf X.K W m)) : PE X e (tOf X.K W (eLend m)) := h.imp fun _ _ _ q => lend_ok q
theorem dt_lend (h : PT X e (bOf X.K W t)) : PT X e (bOf X.K W (bLend t)) := h.imp fun _ _ _ q => lendB_ok q
theorem dw_lend (h : PW X e (bOf X.K W t)) : PW X e (bOf X.K W (bLend t)) := h.imp fun _ _ _ q => lendB_ok q
end
end Dn

/-! Den12: defs that call themselves; lists within tuples that are changed. -/
namespace Dn
open PySem PySem.Spec PyProof.Rows L2
/-- nothing is promised -/
theorem fnSt {P : Program} {w : World} {K : PySem.W.Frag} {mg : Str → Option Value} {base : Heap} {cx : CXT} {k n : Nat} {f : Addr} {fd : FuncData} {ps : List Str} (h : ps.length = n) : FnG P w K mg base cx k f fd ps (spF K n stuck) :=
  ⟨fun vs H Q E z => z.1.trans h.symm, fun A outer s H args us vs Q E hr hg he hb hv z => by
    obtain ⟨_, _, _, _, _, _, _, g⟩ := z
    exact g.elim⟩
/-! a comprehension with a test -/
def lcF (vs : List Nat) (put : C → Rho → Option Rho) (t : M Bool) (el : M C) (d : D) (ρ : Rho) : R (Option C) := match put (.fz d) ρ with
  | none => .st
  | some ρ1 => (t ρ1).bind fun b ρ2 => if b then (el ρ2).bind fun c ρ3 => .ok (some c) (wipeR ρ3 vs) else .ok none (wipeR ρ2 vs)
@[simp] theorem lcF_ap (vs : List Nat) (put : C → Rho → Option Rho) (t : M Bool) (el : M C) (d : D) (ρ : Rho) : lcF vs put t el d ρ = match put (.fz d) ρ with
  | none => .st
  | some ρ1 => (t ρ1).bind fun b ρ2 => if b then (el ρ2).bind fun c ρ3 => .ok (some c) (wipeR ρ3 vs) else .ok none (wipeR ρ2 vs) := rfl
theorem lcF_cons {vs : List Nat} {put : C → Rho → Option Rho} {t : M Bool} {el : M C} {d : D} {ρ ρ' : Rho} {c : Option C} (h : lcF vs put t el d ρ = .ok c ρ') (ds : List D) (acc : List C) (hs : acc.length ≤ 1000000) :
    lcL vs put t el (d :: ds) acc ρ = lcL vs put t el ds (acc ++ c.toList) ρ' := by
  have e0 : lcL vs put t el (d :: ds) acc ρ = match put (.fz d) ρ with
    | none => .st
    | some ρ1 => match t ρ1 with
      | .ok true ρ2 => match el ρ2 with
        | .ok c ρ3 => if small acc.length then lcL vs put t el ds (acc ++ [c]) (wipeR ρ3 vs) else .st
        | _ => .st
      | .ok false ρ2 => lcL vs put t el ds acc (wipeR ρ2 vs)
      | _ => .st := rfl
  rw [e0]
  unfold lcF at h
  split at h
  · cases h
  · rename_i ρ1 e1
    generalize ht : t ρ1 = r at h
    cases r with
    | st => cases h
    | er _ _ => cases h
    | ok b ρ2 =>
      simp only [R.bind_ok] at h
      cases b with
      | true =>
        simp only [if_true] at h
        simp only
        generalize he : el ρ2 = r at h
        cases r with
        | st => cases h
        | er _ _ => cases h
        | ok c' ρ3 =>
          cases h
          simp only
          rw [if_pos (by simpa using hs)]
          rfl
      | false =>
        simp only [Bool.false_eq_true, if_false] at h
        cases h
        simp
theorem lcL_filtO {α : Type} {vs : List Nat} {put : C → Rho → Option Rho} {t : M Bool} {el : M C} (ρ0 : Rho) (G : α → D) (P : α → Bool) (F : α → C) (L : List α) (hl : L.length ≤ 1000000)
    (h : ∀ a ∈ L, lcF vs put t el (G a) ρ0 = .ok (if P a = true then some (F a) else none) ρ0) : lcL vs put t el (L.map G) [] ρ0 = .ok ((L.filter P).map F) ρ0 := by
  have key : ∀ (L : List α) (acc : List C), acc.length + L.length ≤ 1000000 → (∀ a ∈ L, lcF vs put t el (G a) ρ0 = .ok (if P a = true then some (F a) else none) ρ0) → lcL vs put t el (L.map G) acc ρ0 = .ok (acc ++ (L.filter P).map F) ρ0 := by
    intro L
    induction L with
    | nil => intro acc _ _; simp [lcL]
    | cons a L ih =>
      intro acc hl h
      simp only [List.length_cons] at hl
      rw [List.map_cons, lcF_cons (h a List.mem_cons_self) _ _ (by omega), ih _ (by split <;> simp <;> omega) fun x m => h x (List.mem_cons_of_mem _ m)]
      cases hP : P a <;> simp [List.filter_cons, hP]
  simpa using key L [] (by simpa using hl) h
end Dn

/-! Den13: dicts whose keys are ints and texts. -/
namespace Dn
open PySem PySem.Spec PyProof.Rows L2
/-! ### a displayed dict of constants -/
def scalV (d : D) : V := (scal d).getD .non
theorem tPairs_const : ∀ (kvs : List (Key × V)) (σ : L2.St) (H : Hp) (Q : List (V × V) → Hp → Prop), Q (kvs.map fun kv => (kV kv.1, kv.2)) H → tPairs (kvs.map fun kv => (tC (kV kv.1), tC kv.2)) σ H Q
  | [], _, _, _, q => q
  | kv :: kvs, σ, H, Q, q => tPairs_const kvs σ H (fun ps H3 => Q ((kV kv.1, kv.2) :: ps) H3) q
theorem upd_upd {H : Hp} {p : Addr} {a b : HO} : L2.upd (L2.upd H p a) p b = L2.upd H p b := by
  funext q
  by_cases h : q = p
  · subst h; rw [upd_same, upd_same]
  · rw [upd_ne h, upd_ne h, upd_ne h]
def kvV (kvs : List (Key × D)) : List (Key × V) := kvs.map fun kv => (kv.1, scalV kv.2)
theorem RepK.const {K : PySem.W.Frag} {F : Addr → Prop} {H : Hp} : ∀ {kvs : List (Key × D)}, (kvs.all fun kv => (scal kv.2).isSome) = true → RepK K F H (kvV kvs) kvs
  | [], _ => .nil
  | (k, d) :: kvs, h => by
    simp only [List.all_cons, Bool.and_eq_true] at h
    obtain ⟨v, hv⟩ := Option.isSome_iff_exists.mp h.1
    refine .cons (Rep.scal ?_) (RepK.const h.2)
    simp [scalV, hv]
section
variable {X : Cx} {W : WX} {pos : Pos} {keys : List (Option Expr)} {values : List Expr}
theorem Sta.mkD {K : PySem.W.Frag} {F : Addr → Prop} {H : Hp} {σ : L2.St} {ρ : Rho} {τ : List Pr} {p : Addr} {vs : List (Key × V)} {kvs : List (Key × D)} (s : Sta K F H σ ρ τ) (n : H p = none) (r : RepK K F H vs kvs) :
    Sta K F (L2.upd H p (.dK vs)) σ ρ ((some (.ref p), .od kvs) :: τ) := by
  have s1 : Sta K F (L2.upd H p (.dK vs)) σ ρ τ := s.upd n
  refine s.on fun l al => ?_
  refine All.mk (vs := []) (cs := []) (ps := τ ++ l) al rfl (by simp) n fun O rr => ?_
  cases rr
  refine .od upd_same (RepK.mono (fun a f => f) (fun a f => upd_ne fun e => ?_) r)
  exact s.dom a f (e ▸ n)
theorem d_disp (kvs : List (Key × D)) (h : PPs X pos keys values ((kvV kvs).map fun kv => (tC (kV kv.1), tC kv.2))) (hs : (kvs.all fun kv => (scal kv.2).isSome) = true := by rfl) (hm : mergeK [] (kvV kvs) = kvV kvs := by rfl)
    (hall : keys.all (·.isSome) = true := by rfl) (hl : keys.length = values.length := by rfl) (h0 : keys ≠ [] := by simp) (h15 : keys.length ≤ 15 := by decide) (hk : kvs.length ≤ 15 := by decide) :
    PE X (.Dict keys values pos) (tOf X.K W (retC (.od kvs))) := (pe_disp h hall hl h0 h15).imp fun σ H Q ⟨F, ρ, τ, s, g⟩ => by
  intro p hp
  refine tPairs_const _ _ _ _ ⟨upd_same, kvV kvs, rfl, by simpa [kvV] using hk, ?_⟩
  rw [upd_upd, hm]
  exact g _ F _ (by simp) (s.mkD hp (RepK.const hs))
theorem d_disp0 : PE X (.Dict [] [] pos) (tOf X.K W (retC (.od []))) := pe_dnewK.imp fun σ H Q ⟨F, ρ, τ, s, g⟩ => by
  intro p hp
  exact g _ F _ (by simp) (s.mkD hp .nil)

/-! ### what a dict holds -/
def keyD : D → Option Key
  | .int i => some (.inl i)
  | .str s => some (.inr s)
  | _ => none
theorem Rep.key {K : PySem.W.Frag} {F : Addr → Prop} {H : Hp} {v : V} {d : D} {k : Key} (r : Rep K F H v d) (h : keyD d = some k) : v = kV k := by
  cases d <;> simp only [keyD, Option.some.injEq, reduceCtorEq] at h <;> subst h
  · exact r.intv
  · exact r.strv
def valD (kvs : List (Key × D)) (k : Key) : Option D := (kvs.find? fun kv => decide (kv.1 = k)).map (·.2)
theorem RepK.val {K : PySem.W.Frag} {F : Addr → Prop} {H : Hp} {k : Key} : ∀ {vs : List (Key × V)} {kvs : List (Key × D)}, RepK K F H vs kvs → (∀ d, valD kvs k = some d → ∃ v, valV vs k = some v ∧ Rep K F H v d) ∧ (valD kvs k).isSome = (valV vs k).isSome
  | _, _, .nil => ⟨fun d h => by simp [valD] at h, rfl⟩
  | _, _, .cons (k := k') r rs => by
    obtain ⟨h1, h2⟩ := RepK.val (k := k) rs
    by_cases e : k' = k
    · simp only [valD, valV, List.find?_cons, e, decide_true] at *
      exact ⟨fun d h => ⟨_, rfl, by cases h; exact r⟩, rfl⟩
    · simp only [valD, valV, List.find?_cons, e, decide_false] at *
      exact ⟨h1, h2⟩
def odOf (c : Option C) : Option (List (Key × D)) := match c with
  | some (.od kvs) => some kvs
  | some (.fz (.dk kvs)) => some kvs
  | _ => none
theorem Sta.dict {K : PySem.W.Frag} {F : Addr → Prop} {H : Hp} {σ : L2.St} {ρ : Rho} {τ : List Pr} {i : Nat} {kvs : List (Key × D)} (s : Sta K F H σ ρ τ) (h : odOf ρ[i]? = some kvs) : ∃ a vs, σ[i]? = some (some (.ref a)) ∧ Rd H a (.dK vs) ∧ RepK K F H vs kvs := by
  cases e : ρ[i]? with
  | none => rw [e] at h; cases h
  | some c =>
    rw [e] at h
    cases c with
    | od ks =>
      cases h
      obtain ⟨v, ev, s2⟩ := s.get e (by simp)
      obtain ⟨O, r, _⟩ := s2.all
      cases r with
      | cons c _ =>
        cases c with
        | od e r => exact ⟨_, _, ev, .inl e, r⟩
    | fz d =>
      cases d <;> try cases h
      obtain ⟨v, ev, s2⟩ := s.get e (by simp)
      have r := s2.fzOf
      cases r with
      | dk _ e r => exact ⟨_, _, ev, e, r⟩
    | ow _ => cases h
    | tp _ => cases h
    | no => cases h
    | pl _ _ => cases h
    | wp _ _ _ => cases h
/-- d[k], the dict a name's -/
def eKxV (i : Nat) (m : M C) : M C := fun ρ => if (odOf ρ[i]?).isSome then (m ρ).bind fun c ρ => match odOf ρ[i]?, keyD (fzD c) with
  | some kvs, some k => match valD kvs k with
    | some d => .ok (.fz d) ρ
    | none => .st
  | _, _ => .st
  else .st
theorem d_kxV (i : Nat) {x : Str} {p : Pos} {b : Expr} {m : M C} (hu : X.A.units + 1 < cLine) (hb : PE X b (tOf X.K W m)) (hN : X.N[i]? = some x := by rfl) (hv : Vis X.env.scope x := by first | exact Or.inl rfl | exact Or.inr (Or.inl rfl) | exact Or.inr (Or.inr rfl)) (hd : (x == ("__debug__" : Str)) = false := by decide)
    (hcd : (x == ("__classdict__" : Str)) = false := by decide) (hs : NoSl b := by exact fun _ _ => rfl) : PE X (.Subscript (.Name x p) b pos) (tOf X.K W (eKxV i m)) :=
  (pe_dget hu (pe_var hN hv hd hcd) hb hs).imp fun σ H Q ⟨F, ρ, τ, s, g⟩ => by
    unfold eKxV at g
    split at g
    · rename_i ho
      obtain ⟨ks, hks⟩ := Option.isSome_iff_exists.mp ho
      obtain ⟨a, vs, ev, hv, hr⟩ := s.dict hks
      rw [Good.bind] at g
      refine ⟨.ref a, ev, run1 s (g.imp (fun c ρ1 q w F1 H1 s1 => ?_) fun _ _ q => q)⟩
      split at q
      · rename_i kvs k hkv hk
        obtain ⟨a', vs', ev', hv', hr'⟩ := s1.dict hkv
        rw [ev] at ev'
        cases ev'
        split at q
        · rename_i d hd
          obtain ⟨v, e1, e2⟩ := hr'.val.1 d hd
          refine ⟨a, v, rfl, .inl ⟨vs', k, hv', s1.fzOf.key hk, e1.symm⟩, q v F1 H1 (by simp) (s1.drop.push e2)⟩
        · exact q.elim
      · exact q.elim
    · exact g.elim
end
@[simp] theorem eKxV_ap (i : Nat) (m : M C) (ρ : Rho) : eKxV i m ρ = if (odOf ρ[i]?).isSome then (m ρ).bind fun c ρ => match odOf ρ[i]?, keyD (fzD c) with
  | some kvs, some k => match valD kvs k with
    | some d => .ok (.fz d) ρ
    | none => .st
  | _, _ => .st
  else .st := rfl
@[simp] theorem odOf_od (kvs : List (Key × D)) : odOf (some (.od kvs)) = some kvs := rfl
@[simp] theorem odOf_dk (kvs : List (Key × D)) : odOf (some (.fz (.dk kvs))) = some kvs := rfl
@[simp] theorem keyD_i (i : Int) : keyD (.int i) = some (.inl i) := rfl
@[simp] theorem keyD_s (i : Str) : keyD (.str i) = some (.inr i) := rfl
end Dn

/-! Den14: lists within lists and tuples, changed by a path. -/
namespace Dn
open PySem PySem.Spec PyProof.Rows L2
/-! ### the cell's side -/
def upC (f : List C → Option (List C)) : List Int → C → Option C
  | [], .ow cs => (f cs).map .ow
  | j :: js, .ow cs => (ixN cs.length j).bind fun k => (cs[k]?).bind fun c => (upC f js c).map fun c' => .ow (cs.set k c')
  | j :: js, .tp cs => (ixN cs.length j).bind fun k => (cs[k]?).bind fun c => (upC f js c).map fun c' => .tp (cs.set k c')
  | _, _ => none
/-- what f does to the cells, fV does to the values -/
structure MutOk (f : List C → Option (List C)) (fV : List V → List V) : Prop where
  go : ∀ {K : PySem.W.Frag} {F : Addr → Prop} {H : Hp} {vs : List V} {cs cs' : List C} {O : List Addr}, RepCs K F H vs cs O → f cs = some cs' → ∃ O', RepCs K F H (fV vs) cs' O' ∧ O'.Sublist O
  sz : ∀ {cs cs' : List C}, f cs = some cs' → cs.length ≤ 1000000
def pushF (d : D) (cs : List C) : Option (List C) := if small cs.length then some (cs ++ [.fz d]) else none
def clrF (cs : List C) : Option (List C) := if small cs.length then some [] else none
theorem mut_push {d : D} {v : V} (h : scal d = some v) : MutOk (pushF d) (fun vs => vs ++ [v]) where
  go := fun r e => by
    unfold pushF at e
    split at e <;> cases e
    exact ⟨_, r.snoc (.fz (Rep.scal h)), by simp⟩
  sz := fun e => by
    unfold pushF at e
    split at e
    · rename_i hs; simpa using small_le hs
    · cases e
theorem mut_clr : MutOk clrF (fun _ => []) where
  go := fun r e => by
    unfold clrF at e
    split at e <;> cases e
    exact ⟨[], .nil, by simp⟩
  sz := fun e => by
    unfold clrF at e
    split at e
    · rename_i hs; simpa using small_le hs
    · cases e
/-! ### the value's side -/
def Item (K : PySem.W.Frag) (H : Hp) (v : V) (j : Int) (u : V) : Prop := ∃ p vs, v = .ref p ∧ (SqL K H p vs ∨ SqT K H p vs) ∧ L2.atI vs j = some u
def NavV (K : PySem.W.Frag) (H : Hp) : V → List Int → V → Prop
  | v, [], u => v = u
  | v, j :: js, u => ∃ w, Item K H v j w ∧ NavV K H w js u
section
variable {K : PySem.W.Frag} {F : Addr → Prop} {H : Hp}
theorem RepCs.focus : ∀ {vs : List V} {cs : List C} {O : List Addr} {k : Nat} {c : C}, RepCs K F H vs cs O → cs[k]? = some c →
    ∃ v A Ok B, vs[k]? = some v ∧ O = A ++ (Ok ++ B) ∧ RepC K F H v c Ok ∧ ∀ (H' : Hp) (c' : C) (Ok' : List Addr), (∀ a, F a → H' a = H a) → (∀ a ∈ A, H' a = H a) → (∀ a ∈ B, H' a = H a) → RepC K F H' v c' Ok' → RepCs K F H' vs (cs.set k c') (A ++ (Ok' ++ B))
  | _, _, _, _, _, .nil, h => by simp at h
  | _, _, _, 0, _, .cons (O := O1) (O' := O2) r rs, h => by
    simp at h; subst h
    exact ⟨_, [], O1, O2, rfl, rfl, r, fun H' c' Ok' h0 _ h2 r' => by
      simpa using RepCs.cons r' (RepCs.mono (fun _ f => f) h0 rs h2)⟩
  | _, _, _, k + 1, _, .cons (O := O1) (O' := O2) r rs, h => by
    obtain ⟨v, A, Ok, B, e1, e2, e3, e4⟩ := rs.focus (k := k) (by simpa using h)
    refine ⟨v, O1 ++ A, Ok, B, by simpa using e1, by rw [e2, List.append_assoc], e3, fun H' c' Ok' h0 h1 h2 r' => ?_⟩
    rw [List.append_assoc]
    exact RepCs.cons (RepC.mono (fun _ f => f) h0 r fun a m => h1 a (List.mem_append_left _ m)) (e4 H' c' Ok' h0 (fun a m => h1 a (List.mem_append_right _ m)) h2 r')
theorem ixN_atI {α : Type} {l : List α} {j : Int} {k : Nat} {a : α} {n : Nat} (hn : n = l.length) (h : ixN n j = some k) (e : l[k]? = some a) : L2.atI l j = some a := by
  subst hn
  unfold L2.atI; rw [h]; exact e
theorem upC_ok {f : List C → Option (List C)} {fV : List V → List V} (M : MutOk f fV) : ∀ {js : List Int} {v : V} {c c' : C} {O : List Addr}, RepC K F H v c O → O.Nodup → (∀ a ∈ O, ¬ F a) → upC f js c = some c' →
    ∃ a ws, NavV K H v js (.ref a) ∧ H a = some (.lst ws) ∧ a ∈ O ∧ ws.length ≤ 1000000 ∧ ∃ O', RepC K F (L2.upd H a (.lst (fV ws))) v c' O' ∧ O'.Sublist O
  | [], v, c, c', O, r, nd, nf, e => by
    cases r with
    | @ow a ws cs O1 ea rc =>
      simp only [upC, Option.map_eq_some_iff] at e
      obtain ⟨cs', e1, rfl⟩ := e
      obtain ⟨O', r', sub⟩ := M.go rc e1
      have hsz := M.sz e1
      obtain ⟨nd1, nd2⟩ := List.nodup_cons.mp nd
      have hF : ∀ b, F b → L2.upd H a (.lst (fV ws)) b = H b := fun b fb => upd_ne fun z => nf a List.mem_cons_self (z ▸ fb)
      refine ⟨a, ws, rfl, ea, List.mem_cons_self, by rw [rc.len]; exact hsz, a :: O', .ow upd_same (RepCs.mono (fun _ f => f) hF r' fun b m => upd_ne fun z => nd1 (z ▸ sub.subset m)), List.Sublist.cons₂ a sub⟩
    | _ => simp [upC] at e
  | j :: js, v, c, c', O, r, nd, nf, e => by
    have core : ∀ {p : Addr} {vs : List V} {cs : List C} {O1 : List Addr} {k : Nat} {c1 c1' : C}, RepCs K F H vs cs O1 → (p :: O1).Nodup → (∀ a ∈ p :: O1, ¬ F a) → ixN cs.length j = some k → cs[k]? = some c1 → upC f js c1 = some c1' → (SqL K H p vs ∨ SqT K H p vs) →
        ∃ a ws, NavV K H (.ref p) (j :: js) (.ref a) ∧ H a = some (.lst ws) ∧ a ∈ O1 ∧ a ≠ p ∧ ws.length ≤ 1000000 ∧ ∃ O', RepCs K F (L2.upd H a (.lst (fV ws))) vs (cs.set k c1') O' ∧ O'.Sublist O1 := by
      intro p vs cs O1 k c1 c1' rc nd nf hk hc hu hs
      obtain ⟨nd1, nd2⟩ := List.nodup_cons.mp nd
      obtain ⟨v1, A, Ok, B, e1, e2, e3, e4⟩ := rc.focus hc
      subst e2
      obtain ⟨na, nkb, dis⟩ := List.nodup_append.mp nd2
      obtain ⟨nk, nb, dis2⟩ := List.nodup_append.mp nkb
      obtain ⟨a, ws, nav, ha, ma, hz, O', r', sub⟩ := upC_ok M e3 nk (fun b m => nf b (List.mem_cons_of_mem _ (List.mem_append_right _ (List.mem_append_left _ m)))) hu
      have mem : a ∈ A ++ (Ok ++ B) := List.mem_append_right _ (List.mem_append_left _ ma)
      refine ⟨a, ws, ⟨v1, ⟨p, vs, rfl, hs, ixN_atI rc.len.symm hk e1⟩, nav⟩, ha, mem, fun z => nd1 (z ▸ mem), hz, A ++ (O' ++ B), e4 _ c1' O' (fun b fb => upd_ne fun z => nf a (List.mem_cons_of_mem _ mem) (z ▸ fb)) (fun b m => upd_ne fun z => ?_) (fun b m => upd_ne fun z => ?_) r', (List.Sublist.refl _).append (sub.append (List.Sublist.refl _))⟩
      · exact dis b m a (List.mem_append_left _ ma) z
      · exact dis2 a ma b m z.symm
    cases r with
    | @ow p vs cs O1 ep rc =>
      simp only [upC, Option.bind_eq_some_iff, Option.map_eq_some_iff] at e
      obtain ⟨k, hk, c1, hc, c1', hu, rfl⟩ := e
      obtain ⟨a, ws, nav, ha, ma, ne, hz, O', r', sub⟩ := core rc nd nf hk hc hu (.inl (.of ep))
      exact ⟨a, ws, nav, ha, List.mem_cons_of_mem _ ma, hz, p :: O', .ow ((upd_ne (Ne.symm ne)).trans ep) r', List.Sublist.cons₂ p sub⟩
    | @tp p vs cs O1 ep rc =>
      simp only [upC, Option.bind_eq_some_iff, Option.map_eq_some_iff] at e
      obtain ⟨k, hk, c1, hc, c1', hu, rfl⟩ := e
      obtain ⟨a, ws, nav, ha, ma, ne, hz, O', r', sub⟩ := core rc nd nf hk hc hu (.inr (.of ep))
      exact ⟨a, ws, nav, ha, List.mem_cons_of_mem _ ma, hz, p :: O', .tp ((upd_ne (Ne.symm ne)).trans ep) r', List.Sublist.cons₂ p sub⟩
    | _ => simp [upC] at e
/-- in hand -/
theorem All.up {f : List C → Option (List C)} {fV : List V → List V} (M : MutOk f fV) {js : List Int} {v : V} {c c' : C} {ps : List Pr} (al : All K F H ((some v, c) :: ps)) (e : upC f js c = some c') :
    ∃ a ws, NavV K H v js (.ref a) ∧ H a = some (.lst ws) ∧ ws.length ≤ 1000000 ∧ All K F (L2.upd H a (.lst (fV ws))) ((some v, c') :: ps) := by
  obtain ⟨O, r, nd, nf, dm⟩ := al
  cases r with
  | no r => cases js <;> simp [upC] at e
  | @cons _ _ _ O1 O2 rc r =>
    obtain ⟨n1, n2, n3⟩ := List.nodup_append.mp nd
    obtain ⟨a, ws, nav, ha, ma, hz, O', r', sub⟩ := upC_ok M rc n1 (fun b m => nf b (List.mem_append_left _ m)) e
    have hF : ∀ b, F b → L2.upd H a (.lst (fV ws)) b = H b := fun b fb => upd_ne fun z => nf a (List.mem_append_left _ ma) (z ▸ fb)
    refine ⟨a, ws, nav, ha, hz, O' ++ O2, .cons r' (RepP.mono (fun _ f => f) hF r fun b m => upd_ne fun z => n3 a ma b m z.symm), (sub.append (List.Sublist.refl _)).nodup nd, fun b m => nf b ((sub.append (List.Sublist.refl _)).subset m), fun b fb => by rw [hF b fb]; exact dm b fb⟩
theorem Sta.up {f : List C → Option (List C)} {fV : List V → List V} (M : MutOk f fV) {js : List Int} {σ : L2.St} {ρ : Rho} {τ : List Pr} {i : Nat} {c c' : C} (s : Sta K F H σ ρ τ) (hi : ρ[i]? = some c) (e : upC f js c = some c') :
    ∃ v a ws, σ[i]? = some (some v) ∧ NavV K H v js (.ref a) ∧ H a = some (.lst ws) ∧ ws.length ≤ 1000000 ∧ Sta K F (L2.upd H a (.lst (fV ws))) σ (ρ.set i c') τ := by
  have hc : c ≠ .no := by rintro rfl; cases js <;> simp [upC] at e
  obtain ⟨v, ev, s2⟩ := s.get hi hc
  obtain ⟨a, ws, nav, ha, hz, al⟩ := All.up M (ps := τ ++ σ.zip (ρ.set i .no)) s2.all e
  refine ⟨v, a, ws, ev, nav, ha, hz, ?_⟩
  have s3 : Sta K F (L2.upd H a (.lst (fV ws))) σ (ρ.set i .no) ((some v, c') :: τ) := .of s2.1 al
  have s4 := s3.back ev
  rwa [List.set_set] at s4
end
/-! ### where a path leads, in the text -/
/-- the steps of a path: a number, or a name's number -/
inductive Stp where
  | c (j : Int) | v (k : Nat)
def stpS (σ : L2.St) : Stp → Option Int
  | .c j => some j
  | .v k => match σ[k]? with
    | some (some (.int j)) => some j
    | _ => none
def stpR (ρ : Rho) : Stp → Option Int
  | .c j => some j
  | .v k => match ρ[k]? with
    | some (.fz (.int j)) => some j
    | _ => none
def stpsR (ρ : Rho) : List Stp → Option (List Int)
  | [] => some []
  | s :: ss => (stpR ρ s).bind fun j => (stpsR ρ ss).map (j :: ·)
def stpsS (σ : L2.St) : List Stp → Option (List Int)
  | [] => some []
  | s :: ss => (stpS σ s).bind fun j => (stpsS σ ss).map (j :: ·)
theorem stpR_S {K : PySem.W.Frag} {F : Addr → Prop} {H : Hp} {σ : L2.St} {ρ : Rho} {τ : List Pr} (s : Sta K F H σ ρ τ) : ∀ {st : Stp} {j : Int}, stpR ρ st = some j → stpS σ st = some j
  | .c j', j, h => h
  | .v k, j, h => by
    simp only [stpR] at h
    split at h
    · rename_i j' hk
      cases h
      obtain ⟨v, ev, s2⟩ := s.get hk (by simp)
      have := s2.fzOf.intv
      subst this
      simp only [stpS]; rw [ev]
    · cases h
theorem stpsR_S {K : PySem.W.Frag} {F : Addr → Prop} {H : Hp} {σ : L2.St} {ρ : Rho} {τ : List Pr} (s : Sta K F H σ ρ τ) : ∀ {ss : List Stp} {js : List Int}, stpsR ρ ss = some js → stpsS σ ss = some js
  | [], js, h => h
  | st :: ss, js, h => by
    simp only [stpsR, Option.bind_eq_some_iff, Option.map_eq_some_iff] at h
    obtain ⟨j, h1, js', h2, rfl⟩ := h
    simp [stpsS, stpR_S s h1, stpsR_S s h2]
/-- the expression e leads from slot i along ss -/
structure PathE (X : Cx) (e : Expr) (i : Nat) (ss : List Stp) : Prop where
  ex : ∃ te, PE X e te ∧ ∀ σ H Q v js u, σ[i]? = some (some v) → stpsS σ ss = some js → NavV X.K H v js u → Q u H → te σ H Q
section
variable {X : Cx} {W : WX} {e : Expr} {pos apos cpos p : Pos} {i : Nat} {ss : List Stp}
theorem path_var (i : Nat) {x : Str} (hN : X.N[i]? = some x := by rfl) (hv : Vis X.env.scope x := by first | exact Or.inl rfl | exact Or.inr (Or.inl rfl) | exact Or.inr (Or.inr rfl)) (hd : (x == ("__debug__" : Str)) = false := by decide)
    (hcd : (x == ("__classdict__" : Str)) = false := by decide) : PathE X (.Name x p) i [] :=
  ⟨_, pe_var hN hv hd hcd, fun σ H Q v js u ev hj nav q => by cases hj; cases nav; exact ⟨v, ev, q⟩⟩
theorem NavV.snoc {K : PySem.W.Frag} {H : Hp} : ∀ {js : List Int} {v u : V} {j : Int}, NavV K H v (js ++ [j]) u → ∃ w, NavV K H v js w ∧ Item K H w j u
  | [], v, u, j, ⟨w, h, e⟩ => by
    cases (show w = u from e)
    exact ⟨v, rfl, h⟩
  | j' :: js, v, u, j, ⟨w, h, h2⟩ => by
    obtain ⟨w', h3, h4⟩ := NavV.snoc h2
    exact ⟨w', ⟨w, h, h3⟩, h4⟩
theorem stpsS_snoc {σ : L2.St} {st : Stp} : ∀ {ss : List Stp} {js : List Int}, stpsS σ (ss ++ [st]) = some js → ∃ js' j, stpsS σ ss = some js' ∧ stpS σ st = some j ∧ js = js' ++ [j]
  | [], js, h => by
    simp only [List.nil_append, stpsS, Option.bind_eq_some_iff, Option.map_eq_some_iff] at h
    obtain ⟨j, h1, js', h2, rfl⟩ := h
    cases h2
    exact ⟨[], j, rfl, h1, rfl⟩
  | s :: ss, js, h => by
    simp only [List.cons_append, stpsS, Option.bind_eq_some_iff, Option.map_eq_some_iff] at h
    obtain ⟨j, h1, js', h2, rfl⟩ := h
    obtain ⟨js2, j2, k1, k2, rfl⟩ := stpsS_snoc h2
    exact ⟨j :: js2, j2, by simp [stpsS, h1, k1], k2, rfl⟩
theorem item_ix {K : PySem.W.Frag} {H : Hp} {w u : V} {j : Int} {Q : VK} (h : Item K H w j u) (q : Q u H) : rIx K w (.int j) H Q := by
  obtain ⟨p, vs, rfl, hs | hs, ha⟩ := h
  · exact .inl ⟨p, vs, j, u, rfl, rfl, hs, ha, q⟩
  · exact .inr (.inl ⟨p, vs, j, u, rfl, rfl, hs, ha, q⟩)
theorem path_c {j : Int} {jj} {kp : Pos} (h : PathE X e i ss) : PathE X (.Subscript e (.Constant (.int j) jj kp) pos) i (ss ++ [.c j]) := by
  obtain ⟨te, he, hq⟩ := h.ex
  refine ⟨_, pe_ix ix_seq he pe_int (fun _ _ => rfl), fun σ H Q v js u ev hj nav q => ?_⟩
  obtain ⟨js', j', h1, h2, rfl⟩ := stpsS_snoc hj
  cases h2
  obtain ⟨w, n1, n2⟩ := NavV.snoc nav
  exact hq σ H _ v js' w ev h1 n1 (item_ix n2 q)
theorem path_n (k : Nat) {x : Str} {kp : Pos} (h : PathE X e i ss) (hN : X.N[k]? = some x := by rfl) (hv : Vis X.env.scope x := by first | exact Or.inl rfl | exact Or.inr (Or.inl rfl) | exact Or.inr (Or.inr rfl)) (hd : (x == ("__debug__" : Str)) = false := by decide)
    (hcd : (x == ("__classdict__" : Str)) = false := by decide) : PathE X (.Subscript e (.Name x kp) pos) i (ss ++ [.v k]) := by
  obtain ⟨te, he, hq⟩ := h.ex
  refine ⟨_, pe_ix ix_seq he (pe_var hN hv hd hcd) (fun _ _ => rfl), fun σ H Q v js u ev hj nav q => ?_⟩
  obtain ⟨js', j', h1, h2, rfl⟩ := stpsS_snoc hj
  obtain ⟨w, n1, n2⟩ := NavV.snoc nav
  refine hq σ H _ v js' w ev h1 n1 ?_
  simp only [stpS] at h2
  split at h2
  · rename_i j2 hk
    cases h2
    exact ⟨_, hk, item_ix n2 q⟩
  · cases h2
/-- the statement at the values' side -/
def tMutV (K : PySem.W.Frag) (i : Nat) (ss : List Stp) (fV : List V → List V) : TS := fun D σ H => ∃ v js a ws, σ[i]? = some (some v) ∧ stpsS σ ss = some js ∧ NavV K H v js (.ref a) ∧ H a = some (.lst ws) ∧ ws.length ≤ 1000000 ∧ D.nx σ (L2.upd H a (.lst (fV ws)))
theorem ps_push {x : Expr} {v : V} (h : PathE X e i ss) (hx : PE X x (tC v)) (hs : swapsWith (.Call (.Attribute e "append" apos) [x] [] cpos) none pos.line X.env = pure false := by rfl)
    (hbase : attributeBase e "append" X.env (eval e X.env) = eval e X.env := by rfl)
    (hfew : ((backTo cpos (starEach [x] X.env)).all (fun x => !x.1) && (backToKw cpos (keywordEach [] X.env)).all (fun x => x.1.isSome) && decide ([x].length + ([] : List Keyword).length + (if ([] : List Keyword).isEmpty then 0 else 1) < 30)) = true := by rfl)
    (hline : (apos.endLine == cpos.line) = true := by rfl) (hst : starEach [x] X.env = (false, eval x X.env) :: starEach [] X.env := by rfl) (hplain : (backTo cpos (starEach [] X.env)).any (·.1) = false := by rfl) :
    PS X (.Expr (.Call (.Attribute e "append" apos) [x] [] cpos) pos) (tMutV X.K i ss fun vs => vs ++ [v]) := by
  obtain ⟨te, he, hq⟩ := h.ex
  refine (ps_expr (pe_bm PySem.F.plainAttrs_list PySem.F.slot_list_append PySem.F.type_list_append mt_append he (pa_cons hx pa_nil hst) hbase hfew hline hst hplain) hs).imp fun D σ H ⟨v0, js, a, ws, ev, hj, nav, ha, hz, q⟩ => ?_
  refine hq σ H _ v0 js (.ref a) ev hj nav ⟨.inl ⟨rfl, ws, .of ha⟩, ?_⟩
  exact ⟨a, ws, v, rfl, rfl, ha, by rw [sizeLine_eq]; omega, q⟩
theorem ps_clear (h : PathE X e i ss) (hs : swapsWith (.Call (.Attribute e "clear" apos) [] [] cpos) none pos.line X.env = pure false := by rfl)
    (hbase : attributeBase e "clear" X.env (eval e X.env) = eval e X.env := by rfl) (hline : (apos.endLine == cpos.line) = true := by rfl) :
    PS X (.Expr (.Call (.Attribute e "clear" apos) [] [] cpos) pos) (tMutV X.K i ss fun _ => []) := by
  obtain ⟨te, he, hq⟩ := h.ex
  refine (ps_expr (pe_bm0 PySem.F.plainAttrs_list PySem.F.slot_list_clear PySem.F.type_list_clear mt_clear he hbase hline) hs).imp fun D σ H ⟨v0, js, a, ws, ev, hj, nav, ha, hz, q⟩ => ?_
  exact hq σ H _ v0 js (.ref a) ev hj nav ⟨.inl ⟨rfl, ws, .of ha⟩, a, ws, rfl, rfl, ha, q⟩
/-- .. and at the cells' -/
def sMut (i : Nat) (ss : List Stp) (f : List C → Option (List C)) : SM := fun ρ => match ρ[i]?, stpsR ρ ss with
  | some c, some js => match upC f js c with
    | some c' => .nx (ρ.set i c')
    | none => .st
  | _, _ => .st
theorem ds_mut {st : Stmt} {f : List C → Option (List C)} {fV : List V → List V} (M : MutOk f fV) (h : PS X st (tMutV X.K i ss fV)) : PS X st (sOf X.K W (sMut i ss f)) := h.imp fun D σ H ⟨F, ρ, τ, s, g⟩ => by
  unfold sMut at g
  split at g
  · rename_i c js hc hj
    split at g
    · rename_i c' hu
      obtain ⟨v, a, ws, ev, nav, ha, hz, s2⟩ := s.up M hc hu
      exact ⟨v, js, a, ws, ev, stpsR_S s hj, nav, ha, hz, g σ F _ s2⟩
    · exact g.elim
  · exact g.elim
end
end Dn

/-! Den15: for p in xs: p[..].append(..), the lists within all items changed. -/
namespace Dn
open PySem PySem.Spec PyProof.Rows L2
def upAll (f : List C → Option (List C)) (js : List Int) : List C → Option (List C)
  | [] => some []
  | c :: cs => (upC f js c).bind fun c' => (upAll f js cs).map (c' :: ·)
theorem upAll_get {f : List C → Option (List C)} {js : List Int} : ∀ {cs cs' : List C}, upAll f js cs = some cs' → cs'.length = cs.length ∧ ∀ (n : Nat) (c : C), cs[n]? = some c → ∃ c', cs'[n]? = some c' ∧ upC f js c = some c'
  | [], cs', h => by cases h; exact ⟨rfl, by simp⟩
  | c :: cs, cs', h => by
    simp only [upAll, Option.bind_eq_some_iff, Option.map_eq_some_iff] at h
    obtain ⟨c', h1, cs2, h2, rfl⟩ := h
    obtain ⟨k1, k2⟩ := upAll_get h2
    refine ⟨by simp [k1], fun n d e => ?_⟩
    cases n with
    | zero => simp at e; subst e; exact ⟨c', rfl, h1⟩
    | succ n => exact k2 n d (by simpa using e)
section
variable {K : PySem.W.Frag} {F : Addr → Prop} {H : Hp}
theorem RepP.memOw : ∀ {ps : List Pr} {O : List Addr} {p : Addr} {cs : List C}, RepP K F H ps O → (some (.ref p), .ow cs) ∈ ps → p ∈ O
  | _, _, _, _, .nil, m => nomatch m
  | _, _, _, _, .no r, m => by
    rcases List.mem_cons.mp m with h | h
    · cases h
    · exact RepP.memOw r h
  | _, _, _, _, .cons c r, m => by
    rcases List.mem_cons.mp m with h | h
    · cases h
      cases c with
      | ow _ _ => exact List.mem_append_left _ List.mem_cons_self
    · exact List.mem_append_right _ (RepP.memOw r h)
theorem Sta.upAt {f : List C → Option (List C)} {fV : List V → List V} (M : MutOk f fV) {js : List Int} {σ : L2.St} {ρ : Rho} {τ : List Pr} {i n : Nat} {cs : List C} {c c' : C} (s : Sta K F H σ ρ τ) (hi : ρ[i]? = some (.ow cs)) (hn : cs[n]? = some c) (e : upC f js c = some c') :
    ∃ p vs v a ws, σ[i]? = some (some (.ref p)) ∧ H p = some (.lst vs) ∧ vs[n]? = some v ∧ NavV K H v js (.ref a) ∧ H a = some (.lst ws) ∧ ws.length ≤ 1000000 ∧ a ≠ p ∧ (∀ q cs2, (some (.ref q), .ow cs2) ∈ τ ++ σ.zip (ρ.set i .no) → a ≠ q) ∧ Sta K F (L2.upd H a (.lst (fV ws))) σ (ρ.set i (.ow (cs.set n c'))) τ := by
  obtain ⟨v0, ev, s2⟩ := s.get hi (by simp)
  obtain ⟨O, r, nd, nf, dm⟩ := s2.all
  cases r with
  | @cons _ _ _ O1 O2 rc r =>
    cases rc with
    | @ow p vs _ Oc ep rcs =>
      obtain ⟨n1, n2, n3⟩ := List.nodup_append.mp nd
      obtain ⟨nd1, nd2⟩ := List.nodup_cons.mp n1
      obtain ⟨v1, A, Ok, B, e1, e2, e3, e4⟩ := rcs.focus hn
      subst e2
      obtain ⟨na, nkb, dis⟩ := List.nodup_append.mp nd2
      obtain ⟨nk, nb, dis2⟩ := List.nodup_append.mp nkb
      have inO : ∀ b, b ∈ Ok → b ∈ (p :: (A ++ (Ok ++ B))) ++ O2 := fun b m => List.mem_append_left _ (List.mem_cons_of_mem _ (List.mem_append_right _ (List.mem_append_left _ m)))
      obtain ⟨a, ws, nav, ha, ma, hz, O', r', sub⟩ := upC_ok M e3 nk (fun b m => nf b (inO b m)) e
      have mem : a ∈ A ++ (Ok ++ B) := List.mem_append_right _ (List.mem_append_left _ ma)
      have hap : a ≠ p := fun z => nd1 (z ▸ mem)
      have hF : ∀ b, F b → L2.upd H a (.lst (fV ws)) b = H b := fun b fb => upd_ne fun z => nf a (inO a ma) (z ▸ fb)
      have rcs' := e4 (L2.upd H a (.lst (fV ws))) c' O' hF (fun b m => upd_ne fun z => dis b m a (List.mem_append_left _ ma) z) (fun b m => upd_ne fun z => dis2 a ma b m z.symm) r'
      have sub2 : (p :: (A ++ (O' ++ B)) ++ O2).Sublist (p :: (A ++ (Ok ++ B)) ++ O2) := (List.Sublist.cons₂ p ((List.Sublist.refl _).append (sub.append (List.Sublist.refl _)))).append (List.Sublist.refl _)
      have al : All K F (L2.upd H a (.lst (fV ws))) ((some (.ref p), .ow (cs.set n c')) :: (τ ++ σ.zip (ρ.set i .no))) := by
        refine ⟨_, .cons (.ow ((upd_ne (Ne.symm hap)).trans ep) rcs') (RepP.mono (fun _ f => f) hF r fun b m => upd_ne fun z => n3 a (List.mem_cons_of_mem _ mem) b m z.symm), sub2.nodup nd, fun b m => nf b (sub2.subset m), fun b fb => by rw [hF b fb]; exact dm b fb⟩
      refine ⟨p, vs, v1, a, ws, ev, ep, e1, nav, ha, hz, hap, fun q cs2 hm z => n3 a (List.mem_cons_of_mem _ mem) q (RepP.memOw r hm) z, ?_⟩
      have s3 : Sta K F (L2.upd H a (.lst (fV ws))) σ (ρ.set i .no) ((some (.ref p), .ow (cs.set n c')) :: τ) := .of s2.1 al
      have s4 := s3.back ev
      rwa [List.set_set] at s4
end
theorem stpsS_c (σ : L2.St) : ∀ js : List Int, stpsS σ (js.map .c) = some js
  | [] => rfl
  | j :: js => by simp [stpsS, stpS, stpsS_c σ js]
/-- for p in xs: the path's list of p changed -/
def sSpo (i j : Nat) (js : List Int) (f : List C → Option (List C)) : SM := fun ρ => match ρ[i]? with
  | some (.ow cs) => match upAll f js cs with
    | some cs' => if i ≠ j ∧ j < ρ.length then .nx ((ρ.set i (.ow cs')).set j .no) else .st
    | none => .st
  | _ => .st
section
variable {X : Cx} {W : WX} {p pos tpos : Pos} {i j : Nat} {js : List Int} {st : Stmt} {f : List C → Option (List C)} {fV : List V → List V}
theorem mix_set {cs cs' : List C} (hl : cs'.length = cs.length) {n : Nat} {c' : C} (h : cs'[n]? = some c') : (cs'.take n ++ cs.drop n).set n c' = cs'.take (n + 1) ++ cs.drop (n + 1) := by
  have hn : n < cs'.length := (List.getElem?_eq_some_iff.mp h).1
  apply List.ext_getElem?
  intro k
  by_cases hk : k = n
  · subst hk
    rw [List.getElem?_set_self (by simp; omega), List.getElem?_append_left (by simp; omega), List.getElem?_take, if_pos (by omega), h]
  · rw [List.getElem?_set_ne (by omega)]
    by_cases h2 : k < n
    · rw [List.getElem?_append_left (by simp; omega), List.getElem?_append_left (by simp; omega), List.getElem?_take, List.getElem?_take, if_pos h2, if_pos (by omega)]
    · rw [List.getElem?_append_right (by simp; omega), List.getElem?_append_right (by simp; omega), List.getElem?_drop, List.getElem?_drop]
      congr 1
      simp; omega
theorem ds_spo (M : MutOk f fV) (i j : Nat) (js : List Int) {x y : Str} (hb : PS X st (tMutV X.K j (js.map .c) fV)) (hN : X.N.Nodup) (hi : X.N[i]? = some x := by rfl) (hv : Vis X.env.scope x := by first | exact Or.inl rfl | exact Or.inr (Or.inl rfl) | exact Or.inr (Or.inr rfl)) (hd : (x == ("__debug__" : Str)) = false := by decide)
    (hcd : (x == ("__classdict__" : Str)) = false := by decide) (hj : X.N[j]? = some y := by rfl) (hy : Loc X.env.scope y := by first | exact Or.inl rfl | exact Or.inr rfl) (hf : X.fn y = true ∨ X.env.scope.names.lookup y = some .local := by first | exact .inl rfl | exact .inr rfl)
    (hp : PassesOwn (model X.prog X.w) X.A X.env X.xe := by exact PassesOwn.never) (hc : X.calm = true := by rfl) (hs : ∀ z, foldedSetIterable (.Name x p) X.env z = pure z := by intro _; rfl) :
    PS X (.For (.Name y tpos) (.Name x p) [st] [] pos) (sOf X.K W (sSpo i j js f)) :=
  (ps_for hp hc (pi_list (pe_var hi hv hd hcd)) (pg_name hN hj hy hf) (pss_one hb) hs).imp fun D σ H ⟨F, ρ, τ, s, g⟩ => by
    unfold sSpo at g
    split at g
    · rename_i cs ec
      split at g
      · rename_i cs' hu
        split at g
        · rename_i hij
          obtain ⟨hne, hlt⟩ := hij
          obtain ⟨hl, hget⟩ := upAll_get hu
          obtain ⟨v, ev, s1⟩ := s.get ec (by simp)
          obtain ⟨a, vs, O, rfl, ha, rc⟩ := s1.owOf
          have hvl : vs.length = cs.length := rc.len
          refine ⟨.ref a, ev, a, rfl, ⟨vs, .of ha⟩, fun n m σ H => m = cs.length - n ∧ n ≤ cs.length ∧ σ[i]? = some (some (.ref a)) ∧ H a = some (.lst vs) ∧ ∃ F, Sta X.K F H σ ((ρ.set i (.ow (cs'.take n ++ cs.drop n))).set j .no) τ,
            ⟨_, rfl, Nat.zero_le _, ?_⟩, ?_⟩
          · refine ⟨ev, ha, F, ?_⟩
            have e0 : ρ.set i (.ow (cs'.take 0 ++ cs.drop 0)) = ρ := by
              obtain ⟨h1, h2⟩ := List.getElem?_eq_some_iff.mp ec
              simp [← h2]
            rw [e0]
            exact s.setNo j
          · rintro n m σ H ⟨rfl, hn, ei, ea, F, s⟩
            by_cases hlt2 : n < cs.length
            · obtain ⟨c', hc', huc⟩ := hget n _ (List.getElem?_eq_getElem hlt2)
              have hvn : vs[n]? = some vs[n] := List.getElem?_eq_getElem (by omega)
              refine .inr ⟨⟨vs, vs[n], .of ea, hvn⟩, fun σ' H' => n + 1 ≤ cs.length ∧ σ'[i]? = some (some (.ref a)) ∧ H' a = some (.lst vs) ∧ ∃ F, Sta X.K F H' σ' ((ρ.set i (.ow (cs'.take (n + 1) ++ cs.drop (n + 1)))).set j .no) τ, fun σ' H' h => ⟨_, by omega, rfl, h⟩, fun x' H' y' => ?_⟩
              obtain ⟨rfl, y'⟩ := y'
              have := y' vs (.of ea)
              rw [hvn] at this
              cases this
              have s2 := s.setX j (some vs[n])
              rw [List.set_set] at s2
              have hri : ((ρ.set i (.ow (cs'.take n ++ cs.drop n))).set j .no)[i]? = some (.ow (cs'.take n ++ cs.drop n)) := by
                have : i < ρ.length := (List.getElem?_eq_some_iff.mp ec).1
                rw [List.getElem?_set_ne (Ne.symm hne), List.getElem?_set_self this]
              have hmid : (cs'.take n ++ cs.drop n)[n]? = some cs[n] := by
                rw [List.getElem?_append_right (by simp; omega), List.getElem?_drop]
                have : n + (n - (cs'.take n).length) = n := by simp; omega
                rw [this]
                exact List.getElem?_eq_getElem hlt2
              obtain ⟨p', vs', v', b, ws, ep, hp', hvn', nav, hb', hz, hbp, _, s3⟩ := s2.upAt M hri hmid huc
              have hlen : σ.length = ρ.length := by have := s.1; simpa using this
              have ej : (σ.set j (some vs[n]))[j]? = some (some vs[n]) := List.getElem?_set_self (by omega)
              have ei2 : (σ.set j (some vs[n]))[i]? = some (some (.ref a)) := by rw [List.getElem?_set_ne (Ne.symm hne)]; exact ei
              rw [ei2] at ep
              cases ep
              rw [ea] at hp'
              cases hp'
              rw [hvn] at hvn'
              cases hvn'
              refine ⟨vs[n], js, b, ws, ej, stpsS_c _ js, nav, hb', hz, hlt2, ei2, (upd_ne (Ne.symm hbp)).trans ea, F, ?_⟩
              rw [List.set_comm _ _ (Ne.symm hne), List.set_set, mix_set hl hc'] at s3
              exact s3
            · have e : n = cs.length := by omega
              subst e
              refine .inl ⟨⟨vs, .of ea, by omega⟩, ?_⟩
              have : cs'.take cs.length ++ cs.drop cs.length = cs' := by rw [List.drop_length, List.append_nil, ← hl, List.take_length]
              rw [this] at s
              exact g σ F H s
        · exact g.elim
      · exact g.elim
    · exact g.elim
end
end Dn

/-! Den16: for p in xs + ys: p[..].append(..). -/
namespace Dn
open PySem PySem.Spec PyProof.Rows L2
def sSpo2 (i k j : Nat) (js : List Int) (f : List C → Option (List C)) : SM := fun ρ => match ρ[i]?, ρ[k]? with
  | some (.ow cs), some (.ow ds) => match upAll f js cs, upAll f js ds with
    | some cs', some ds' => if (i ≠ j ∧ k ≠ j ∧ i ≠ k) ∧ j < ρ.length ∧ cs.length + ds.length ≤ 1000000 then .nx (((ρ.set i (.ow cs')).set k (.ow ds')).set j .no) else .st
    | _, _ => .st
  | _, _ => .st
def obs (vs : List V) : List C := vs.map fun v => .fz (.ob v)
section
variable {K : PySem.W.Frag} {F : Addr → Prop} {H : Hp} {σ : L2.St} {ρ : Rho} {τ : List Pr}
theorem RepCs.obs : ∀ {vs ws : List V} {O : List Addr}, RepCs K F H ws (Dn.obs vs) O → ws = vs
  | [], _, _, .nil => rfl
  | v :: vs, _, _, .cons r rs => by
    have := rs.obs
    cases r with
    | fz r => rw [r.obv, this]
theorem Sta.obs {L : Addr} {vs : List V} (s : Sta K F H σ ρ ((some (.ref L), .ow (Dn.obs vs)) :: τ)) : H L = some (.lst vs) := by
  obtain ⟨a, ws, O, e, ha, rc⟩ := s.owOf
  cases e
  rw [ha, rc.obs]
theorem Sta.mkObs {L : Addr} {vs : List V} (s : Sta K F H σ ρ τ) (n : H L = none) : Sta K F (L2.upd H L (.lst vs)) σ ρ ((some (.ref L), .ow (Dn.obs vs)) :: τ) := by
  have go : ∀ vs : List V, Sta K F H σ ρ (tmps vs (Dn.obs vs) ++ τ) := by
    intro vs
    induction vs with
    | nil => exact s
    | cons v vs ih => exact ih.push (.ob v)
  refine (go vs).on fun l al => ?_
  rw [List.append_assoc] at al
  exact al.mkL (by simp [Dn.obs]) (by simp [Dn.obs]) n
end
section
variable {X : Cx} {W : WX} {p q pos tpos bpos : Pos} {st : Stmt} {f : List C → Option (List C)} {fV : List V → List V}
theorem ds_spo2 (M : MutOk f fV) (i k j : Nat) (js : List Int) {x z y : Str} (hb : PS X st (tMutV X.K j (js.map .c) fV)) (hN : X.N.Nodup) (hi : X.N[i]? = some x := by rfl) (hk : X.N[k]? = some z := by rfl) (hv : Vis X.env.scope x := by first | exact Or.inl rfl | exact Or.inr (Or.inl rfl) | exact Or.inr (Or.inr rfl))
    (hv2 : Vis X.env.scope z := by first | exact Or.inl rfl | exact Or.inr (Or.inl rfl) | exact Or.inr (Or.inr rfl)) (hd : (x == ("__debug__" : Str)) = false := by decide) (hcd : (x == ("__classdict__" : Str)) = false := by decide) (hd2 : (z == ("__debug__" : Str)) = false := by decide) (hcd2 : (z == ("__classdict__" : Str)) = false := by decide)
    (hj : X.N[j]? = some y := by rfl) (hy : Loc X.env.scope y := by first | exact Or.inl rfl | exact Or.inr rfl) (hf : X.fn y = true ∨ X.env.scope.names.lookup y = some .local := by first | exact .inl rfl | exact .inr rfl)
    (hp : PassesOwn (model X.prog X.w) X.A X.env X.xe := by exact PassesOwn.never) (hc : X.calm = true := by rfl) (hs : ∀ u, foldedSetIterable (.BinOp (.Name x p) .Add (.Name z q) bpos) X.env u = pure u := by intro _; rfl) :
    PS X (.For (.Name y tpos) (.BinOp (.Name x p) .Add (.Name z q) bpos) [st] [] pos) (sOf X.K W (sSpo2 i k j js f)) :=
  (ps_for hp hc (pi_list (pe_op op_addAll (pe_var hi hv hd hcd) (pe_var hk hv2 hd2 hcd2))) (pg_name hN hj hy hf) (pss_one hb) hs).imp fun D σ H ⟨F, ρ, τ, s, g⟩ => by
    unfold sSpo2 at g
    split at g
    · rename_i cs ds ec ed
      split at g
      · rename_i cs' ds' hu hu2
        split at g
        · rename_i hij
          obtain ⟨⟨n1, n2, n3⟩, hlt, hsz⟩ := hij
          obtain ⟨hl, hget⟩ := upAll_get hu
          obtain ⟨hl2, hget2⟩ := upAll_get hu2
          obtain ⟨v, ev, s1⟩ := s.get ec (by simp)
          obtain ⟨a, vs, O, rfl, ha, rc⟩ := s1.owOf
          obtain ⟨v2, ev2, s12⟩ := s.get ed (by simp)
          obtain ⟨b, ws, O2, rfl, hb', rc2⟩ := s12.owOf
          have hvl : vs.length = cs.length := rc.len
          have hwl : ws.length = ds.length := rc2.len
          refine ⟨.ref a, ev, .ref b, ev2, .inr (.inl ⟨a, b, vs, ws, rfl, rfl, ha, hb', by rw [sizeLine_eq]; omega, fun L hL => ?_⟩)⟩
          have s2 := s.mkObs (vs := vs ++ ws) hL
          have haL : a ≠ L := fun e => by rw [e, hL] at ha; cases ha
          have hbL : b ≠ L := fun e => by rw [e, hL] at hb'; cases hb'
          let R : Nat → Rho := fun n => ((ρ.set i (.ow (cs'.take n ++ cs.drop n))).set k (.ow (ds'.take (n - cs.length) ++ ds.drop (n - cs.length)))).set j .no
          refine ⟨L, rfl, ⟨_, .of upd_same⟩, fun n m σ H => m = cs.length + ds.length - n ∧ n ≤ cs.length + ds.length ∧ σ[i]? = some (some (.ref a)) ∧ σ[k]? = some (some (.ref b)) ∧ H a = some (.lst vs) ∧ H b = some (.lst ws) ∧ ∃ F, Sta X.K F H σ (R n) ((some (.ref L), .ow (Dn.obs (vs ++ ws))) :: τ),
            ⟨_, rfl, Nat.zero_le _, ev, ev2, (upd_ne haL).trans ha, (upd_ne hbL).trans hb', F, ?_⟩, ?_⟩
          · have e0 : ρ.set i (.ow (cs'.take 0 ++ cs.drop 0)) = ρ := by
              obtain ⟨h1, h2⟩ := List.getElem?_eq_some_iff.mp ec
              simp [← h2]
            have e1 : ρ.set k (.ow (ds'.take (0 - cs.length) ++ ds.drop (0 - cs.length))) = ρ := by
              obtain ⟨h1, h2⟩ := List.getElem?_eq_some_iff.mp ed
              simp [← h2]
            show Sta X.K F _ σ (R 0) _
            simp only [R]
            rw [e0, e1]
            exact s2.setNo j
          · rintro n m σ H ⟨rfl, hn, ei, ek, ea, eb, F, s⟩
            have eL := s.obs
            have hlen : σ.length = ρ.length := by have := s.1; simpa [R] using this
            have hil : i < ρ.length := (List.getElem?_eq_some_iff.mp ec).1
            have hkl : k < ρ.length := (List.getElem?_eq_some_iff.mp ed).1
            by_cases hlt2 : n < cs.length + ds.length
            · have hvn : (vs ++ ws)[n]? = some ((vs ++ ws)[n]'(by simp; omega)) := List.getElem?_eq_getElem _
              generalize (vs ++ ws)[n]'(by simp; omega) = u at hvn
              refine .inr ⟨⟨vs ++ ws, u, .of eL, hvn⟩, fun σ' H' => n + 1 ≤ cs.length + ds.length ∧ σ'[i]? = some (some (.ref a)) ∧ σ'[k]? = some (some (.ref b)) ∧ H' a = some (.lst vs) ∧ H' b = some (.lst ws) ∧ ∃ F, Sta X.K F H' σ' (R (n + 1)) ((some (.ref L), .ow (Dn.obs (vs ++ ws))) :: τ), fun σ' H' h => ⟨_, by omega, rfl, h⟩, fun x' H' y' => ?_⟩
              obtain ⟨rfl, y'⟩ := y'
              have hy := y' (vs ++ ws) (.of eL)
              rw [hvn] at hy
              cases hy
              have s3 := s.setX j (some u)
              have eR : (R n).set j .no = R n := by simp only [R]; rw [List.set_set]
              rw [eR] at s3
              have ej : (σ.set j (some u))[j]? = some (some u) := List.getElem?_set_self (by omega)
              have ei2 : (σ.set j (some u))[i]? = some (some (.ref a)) := by rw [List.getElem?_set_ne (Ne.symm n1)]; exact ei
              have ek2 : (σ.set j (some u))[k]? = some (some (.ref b)) := by rw [List.getElem?_set_ne (Ne.symm n2)]; exact ek
              have hri : (R n)[i]? = some (.ow (cs'.take n ++ cs.drop n)) := by simp only [R]; rw [List.getElem?_set_ne (Ne.symm n1), List.getElem?_set_ne (Ne.symm n3), List.getElem?_set_self hil]
              have hrk : (R n)[k]? = some (.ow (ds'.take (n - cs.length) ++ ds.drop (n - cs.length))) := by simp only [R]; rw [List.getElem?_set_ne (Ne.symm n2), List.getElem?_set_self (by simpa using hkl)]
              have mL : ∀ l : List Pr, (some (.ref L), C.ow (Dn.obs (vs ++ ws))) ∈ ((some (.ref L), C.ow (Dn.obs (vs ++ ws))) :: τ) ++ l := fun l => List.mem_cons_self
              by_cases hc1 : n < cs.length
              · obtain ⟨c', hc', huc⟩ := hget n _ (List.getElem?_eq_getElem hc1)
                have hmid : (cs'.take n ++ cs.drop n)[n]? = some cs[n] := by
                  rw [List.getElem?_append_right (by simp; omega), List.getElem?_drop]
                  have : n + (n - (cs'.take n).length) = n := by simp; omega
                  rw [this]
                  exact List.getElem?_eq_getElem hc1
                obtain ⟨p', vs', v', d, xs, ep, hp', hvn', nav, hd', hz, hdp, hall, s4⟩ := s3.upAt M hri hmid huc
                rw [ei2] at ep
                cases ep
                rw [ea] at hp'
                cases hp'
                rw [List.getElem?_append_left (by omega), hvn'] at hvn
                cases hvn
                have hdb : d ≠ b := hall b _ (List.mem_append_right _ (List.mem_of_getElem? (i := k) (zip_at ek2 (by rw [List.getElem?_set_ne n3]; exact hrk))))
                refine ⟨u, js, d, xs, ej, stpsS_c _ js, nav, hd', hz, hlt2, ei2, ek2, (upd_ne (Ne.symm hdp)).trans ea, (upd_ne (Ne.symm hdb)).trans eb, F, ?_⟩
                have : (R n).set i (.ow ((cs'.take n ++ cs.drop n).set n c')) = R (n + 1) := by
                  simp only [R]
                  rw [List.set_comm _ _ (Ne.symm n1), List.set_comm _ _ (Ne.symm n3), List.set_set, mix_set hl hc', show n - cs.length = 0 by omega, show n + 1 - cs.length = 0 by omega]
                rw [this] at s4
                exact s4
              · obtain ⟨c', hc', huc⟩ := hget2 (n - cs.length) _ (List.getElem?_eq_getElem (by omega))
                have hmid : (ds'.take (n - cs.length) ++ ds.drop (n - cs.length))[n - cs.length]? = some (ds[n - cs.length]'(by omega)) := by
                  rw [List.getElem?_append_right (by simp; omega), List.getElem?_drop]
                  have : (n - cs.length) + ((n - cs.length) - (ds'.take (n - cs.length)).length) = n - cs.length := by simp; omega
                  rw [this]
                  exact List.getElem?_eq_getElem _
                obtain ⟨p', vs', v', d, xs, ep, hp', hvn', nav, hd', hz, hdp, hall, s4⟩ := s3.upAt M hrk hmid huc
                rw [ek2] at ep
                cases ep
                rw [eb] at hp'
                cases hp'
                rw [List.getElem?_append_right (by omega), hvl, hvn'] at hvn
                cases hvn
                have hda : d ≠ a := hall a _ (List.mem_append_right _ (List.mem_of_getElem? (i := i) (zip_at ei2 (by rw [List.getElem?_set_ne (Ne.symm n3)]; exact hri))))
                refine ⟨u, js, d, xs, ej, stpsS_c _ js, nav, hd', hz, hlt2, ei2, ek2, (upd_ne (Ne.symm hda)).trans ea, (upd_ne (Ne.symm hdp)).trans eb, F, ?_⟩
                have : (R n).set k (.ow ((ds'.take (n - cs.length) ++ ds.drop (n - cs.length)).set (n - cs.length) c')) = R (n + 1) := by
                  simp only [R]
                  rw [List.set_comm _ _ (Ne.symm n2), List.set_set, mix_set hl2 hc', show n + 1 - cs.length = n - cs.length + 1 by omega]
                  rw [show cs'.take n ++ cs.drop n = cs'.take (n + 1) ++ cs.drop (n + 1) by
                    rw [List.drop_of_length_le (by omega), List.drop_of_length_le (by omega), List.take_of_length_le (by omega), List.take_of_length_le (by omega)]]
                rw [this] at s4
                exact s4
            · have e : n = cs.length + ds.length := by omega
              subst e
              refine .inl ⟨⟨vs ++ ws, .of eL, by simp; omega⟩, ?_⟩
              have : R (cs.length + ds.length) = ((ρ.set i (.ow cs')).set k (.ow ds')).set j .no := by
                simp only [R]
                rw [List.drop_of_length_le (by omega), List.append_nil, List.take_of_length_le (by omega), List.drop_of_length_le (by omega), List.append_nil, List.take_of_length_le (by omega)]
              rw [this] at s
              exact g σ F H s.drop
        · exact g.elim
      · exact g.elim
    · exact g.elim
end
@[simp] theorem neD_b (b c : Bool) : neD (.bl b) (.bl c) = some (.bl (!decide (b = c))) := rfl
end Dn

/-! Den17: an own error over ValueError (by own classes between), whose __init__ says super().__init__(text) and perhaps self.f = f: made, raised. -/
namespace PySem
namespace ExD
open PySem.W PySem.Calls PyProof.Rows PySem.HandSPX
def xA0 (p1 : Pos) : Arguments := { posonlyargs := [], args := [{ arg := "self", annotation := none, pos := p1 }], vararg := none, kwonlyargs := [], kw_defaults := [], kwarg := none, defaults := [] }
def xA1 (f : Str) (p1 p2 : Pos) : Arguments := { posonlyargs := [], args := [{ arg := "self", annotation := none, pos := p1 }, { arg := f, annotation := none, pos := p2 }], vararg := none, kwonlyargs := [], kw_defaults := [], kwarg := none, defaults := [] }
def xSup (txt : Str) (j : Nat) (q1 q2 q3 q4 q5 q6 : Pos) : Stmt := .Expr (.Call (.Attribute (.Call (.Name "super" q1) [] [] q2) "__init__" q3) [.Constant (.str txt) j q4] [] q5) q6
def xSt (f : Str) (q1 q2 q3 q4 : Pos) : Stmt := .Assign [.Attribute (.Name "self" q1) f q2] (.Name f q3) q4
def xS0 : Scope := { kind := .function, names := [(PySem.Str.ofString "self", .local), (PySem.Str.ofString "__class__", .free), (PySem.Str.ofString "super", .globalImplicit)], isGenerator := false, isCoroutine := false, more := [] }
def xS1 (f : Str) : Scope := { kind := .function, names := [(PySem.Str.ofString "self", .local), (f, .local), (PySem.Str.ofString "__class__", .free), (PySem.Str.ofString "super", .globalImplicit)], isGenerator := false, isCoroutine := false, more := [] }
/-- what the written part says of such a class, at C, its __init__ at fI -/
structure ExTxt (prog : Program) (K : Frag) (mg : Str → Option Value) (cn qn : Str) (C fI : Addr) (args : Arguments) (body : List Stmt) (sc : Scope) : Prop where
  gC : mg cn = some (.ref C)
  cls : ∃ nm q N bs bm sn sub ab col dd k0 k1 k2 k3 k5, K.lookup C = some (excClassObj nm q C N bs bm true sn sub ab col dd k0 k1 k2 k3 k5 "ValueError.__new__") ∧ refsVE bm = true
  sa : findIn K (.ref C) "__setattr__" = some (some (.builtin "object.__setattr__"))
  iC : findIn K (.ref C) "__init__" = some (some (.ref fI))
  tC : typeIn K (.ref fI) = some (.type "function")
  kC : keepIn K (.ref C) = true
  exC : subIn K (.ref C) (.type "BaseException") = some true
  exV : subIn K (.ref C) (.type "ValueError") = some true
  tyC : typeIn K (.ref C) = some (.type "type")
  sup : ks_superIn K C C "__init__" = some (some (.builtin "ValueError.__init__"))
  opq : nsIn K cStatics "thirdparty.any" = some none
  top : (prog.main.scope.names.lookup ("super" : Str)).isSome = false
  fn : ∃ (oc : Value) (od : Option Addr) (doc pm : Value) (an : Option Addr) (cda : Addr) (ct : Value) (osl : Array (Option Value)) (cc : Addr), K.lookup fI = some ⟨oc, od, .func (ksFn "__init__" qn args body sc .none .none doc pm an (.ref cda) ct cc), osl⟩ ∧ codeIn K (.ref cda) qn = true ∧
    (∃ (ccl : Value) (cdd : Option Addr) (vs : Array Value) (ccs : Array (Option Value)) (file : Str) (tf : Tok), K.lookup cda = some ⟨ccl, cdd, .fields vs, ccs⟩ ∧ vs[2]? = some (.str file tf) ∧ ((prog.main.file : Str) == file) = true) ∧
    ∃ (cl : Value) (cld : Option Addr) (csl : Array (Option Value)), K.lookup cc = some ⟨cl, cld, .cell (some (.ref C)), csl⟩
theorem one_size (v : Value) : [v].length ≤ sizeLine := by
  rw [sizeLine_eq]
  exact (by decide : 1 ≤ 16777216)
section
variable {prog : Program} {w : World} {A : Around} {E : Value → Shared → Prop} {R : Result → Shared → Prop} {s : Shared} {K : Frag} {mg mb : Str → Option Value} {cn qn : Str} {C fI : Addr} {args : Arguments} {body : List Stmt} {sc : Scope}
/-- ValueError.__init__ bound to an instance, called -/
theorem call_mw {h : Heap} {g : Array GenState} {d : Drawn} {t : Nat} {os : OsState} {nm q : Str} {N : Addr} {bs bm : List Value} {hdct : Bool} {sn : List Str} {sub : List Value} {ab : Bool} {col : Option Bool} {dd : Option Addr} {k0 k1 k2 k3 k5 : Option Value} {u e t0 : Addr} {rest : List Value} {Q : Value → Shared → Prop}
    (hC : h.get? C = some (excClassObj nm q C N bs bm hdct sn sub ab col dd k0 k1 k2 k3 k5 "ValueError.__new__")) (he : h.get? e = some (excO C t0)) (hu : h.get? u = some (kxs_mw "ValueError.__init__" e)) (hrest : rest.length ≤ sizeLine)
    (hq : ∀ h' t1, (∀ b o, b ≠ e → h.get? b = some o → h'.get? b = some o) → h'.get? e = some (excO C t1) → Q .none ⟨h', g, d, t, os⟩) :
    wpAny (model prog w) A (call (.ref u) rest) Q E ⟨h, g, d, t, os⟩ := by
  refine wpAny_call (codeAny_of_tree ?_)
  show wpAny _ A.in1 (callAny (.ref u) ⟨rest, []⟩) _ _ _
  simp only [callAny]
  refine wpAny_bind (wpAny_load hu ?_)
  simp only [kxs_mw, show (Value.type "method-wrapper" == Value.type "method" || Value.type "method-wrapper" == Value.type "builtin_function_or_method" || Value.type "method-wrapper" == Value.type "method-wrapper") = true by decide, if_true]
  refine KFB.if_so (by decide) ?_
  refine wpAny_bind (check_bound_init F.excBase_ValueError.toExcCallFacts hC he rfl ?_)
  refine wpAny_bind (wpAny_pure (wpAny_pure ?_))
  refine ⟨Code.quiet_builtin _ (by decide +kernel), codeAny_builtin F.excBase_ValueError.initEntry ?_⟩
  rw [Around.under_plainId F.excBase_ValueError.init.plain _]
  wp_walk
  refine hq _ h.objs.size (fun b o hb ho => ?_) ?_
  · rw [Heap.get?_update_other _ _ (Ne.symm hb)]
    exact Heap.get?_push_of_some _ ho
  · rw [Heap.get?_update_self _ (Heap.get?_push_of_some _ he) rfl]
    rfl
/-- super().__init__(text) -/
theorem sup_walk (T : ExTxt prog K mg cn qn C fI args body sc) {h : Heap} {g : Array GenState} {d : Drawn} {t : Nat} {os : OsState} {L x t0 : Addr} {cda cc : Addr} {oc : Value} {od : Option Addr} {doc pm ct : Value} {an : Option Addr} {osl : Array (Option Value)} {m : Str → Option Value} {txt : Str} {j : Nat} {q1 q2 q3 q4 q5 q6 : Pos} {Q : Flow → Shared → Prop} {bd : List Stmt}
    (hfn : K.lookup fI = some ⟨oc, od, .func (ksFn "__init__" qn args body sc .none .none doc pm an (.ref cda) ct cc), osl⟩)
    (hcode : ∃ (ccl : Value) (cdd : Option Addr) (vs : Array Value) (ccs : Array (Option Value)) (file : Str) (tf : Tok), K.lookup cda = some ⟨ccl, cdd, .fields vs, ccs⟩ ∧ vs[2]? = some (.str file tf) ∧ ((prog.main.file : Str) == file) = true)
    (hcell : ∃ (cl : Value) (cld : Option Addr) (csl : Array (Option Value)), K.lookup cc = some ⟨cl, cld, .cell (some (.ref C)), csl⟩)
    (X : K.In h) (hg : h.Ns mainGlobals mg) (hb : h.Ns builtinsNs mb) (hsup : mg "super" = none) (hbs : mb "super" = some (.type "super")) (hn : h.Ns L m) (hv : m "self" = some (.ref x)) (hx : h.get? x = some (excO C t0))
    (hp : (args.posonlyargs ++ args.args).head? = some { arg := "self", annotation := none, pos := (args.args.head?.map (·.pos)).getD q1 })
    (hi : interactive (ksEnv qn sc L fI (.ref cda) cc) = false) (hsw : swapsWith (.Call (.Attribute (.Call (.Name "super" q1) [] [] q2) "__init__" q3) [.Constant (.str txt) j q4] [] q5) none q6.line (ksEnv qn sc L fI (.ref cda) cc) = pure false)
    {pl : Sem Bool} (he : eval (.Call (.Attribute (.Call (.Name "super" q1) [] [] q2) "__init__" q3) [.Constant (.str txt) j q4] [] q5) (ksEnv qn sc L fI (.ref cda) cc) = (do
      let ov ← attributeBase (.Call (.Name "super" q1) [] [] q2) "__init__" (ksEnv qn sc L fI (.ref cda) cc) (eval (.Call (.Name "super" q1) [] [] q2) (ksEnv qn sc L fI (.ref cda) cc))
      standAt q3.atName
      let (f, first) ← holding [ov] (getMethod ov "__init__" pl)
      callWith q5 f first (backTo q5 (starEach [.Constant (.str txt) j q4] (ksEnv qn sc L fI (.ref cda) cc))) []))
    (hks : sc.names.lookup ("super" : Str) = some .globalImplicit) (hkc : sc.names.lookup ("__class__" : Str) = some .free) (hka : sc.names.lookup ("self" : Str) = some .local) (hk : sc.kind = .function)
    (hq : ∀ h' t' t1, (∀ b o, b ≠ x → h.get? b = some o → h'.get? b = some o) → h'.get? x = some (excO C t1) → Q .next ⟨h', g, d, t', os⟩) :
    _root_.PySem.wpAt (model prog w) A (.func bd (ksEnv qn sc L fI (.ref cda) cc)) (exec (xSup txt j q1 q2 q3 q4 q5 q6) (ksEnv qn sc L fI (.ref cda) cc)) Q E ⟨h, g, d, t, os⟩ := by
  obtain ⟨nm, q, N, bs, bm, sn, sub, ab, col, dd, k0, k1, k2, k3, k5, hC, hbm⟩ := T.cls
  have hcl : clsIn K C = some { name := nm, bases := bs, mro := .ref C :: bm, ns := N, qualname := q, hasDict := true, slotNames := sn, subclasses := sub, abstract := ab, collection := col, hasDel := false } := by unfold clsIn; rw [hC] <;> rfl
  obtain ⟨ccl, cdd, vs, ccs, file, tf, hc1, hc2, hc3⟩ := hcode
  obtain ⟨cl, cld, csl, hcc⟩ := hcell
  have hCg := X _ _ hC
  refine ks_wpAt_Expr_any (ks_wpAt_MethodCall ?_ he) hi hsw
  refine ks_wpAt_super_base (env := ksEnv qn sc L fI (.ref cda) cc) hks hkc (by decide) rfl (X _ _ hfn) rfl hp rfl (X _ _ hc1) rfl hc2 hc3 T.top ?_
  refine ks_loadName_global hk hks (loadGlobal_builtin (env := ksEnv qn sc L fI (.ref cda) cc) hg hsup hb hbs ⟨rfl, ?_⟩)
  refine wpAny_loadName_free hk hkc rfl ⟨_, X _ _ hcc, rfl⟩ ?_
  refine wpAny_loadName_local hk hka hn hv ?_
  refine ks_wpAny_isType_cls hCg rfl ⟨rfl, ?_⟩
  have hsubC : mroIn K C (.ref C) = some true := by
    unfold mroIn
    rw [hcl, Option.bind_some]
    simp
  refine ks_wpAny_call_super hCg rfl hx rfl (fun c e => by cases e) (looks_mroIn X hsubC) (fun h1 e1 k1' => ?_)
  have X1 := X.keeps k1'
  have hx1 := k1' _ _ hx
  have I1 : InstAt h1 x (excO C t0) C none := ⟨hx1, rfl, rfl, trivial⟩
  have hI : Looks (model prog w) h1 (isInstance (.ref x) (.type "ValueError")) true := I1.type.andThen (looks_subIn X1 T.exV)
  have hs := T.sup
  unfold ks_superIn at hs
  rw [hcl] at hs
  refine kxs_getMethod kxs_ValueError e1 (looks_opaque X1 T.opq) (l₀ := .ref C :: bm) ?_ rfl X1 hs hI (ks_ne X1 I1 hcl) (by decide) ?_
  · exact fun A Q E s k q => wpAny_bind ((looks_clsIn X1 hcl) A _ E s k (wpAny_pure q))
  · have k2' : ∀ b o, h1.get? b = some o → (h1.push (kxs_mw "ValueError.__init__" x)).get? b = some o := fun b o e => Heap.get?_push_of_some _ e
    have hu : (h1.push (kxs_mw "ValueError.__init__" x)).get? h1.objs.size = some (kxs_mw "ValueError.__init__" x) := Heap.get?_push_at rfl rfl
    show wpAny _ _ (callWith q5 (.ref h1.objs.size) [] ((false, eval (.Constant (.str txt) j q4) (ksEnv qn sc L fI (.ref cda) cc)) :: []) []) _ _ _
    refine kxs_callWith (i := "ValueError.__init__") (x := x) rfl ?_
    refine evalArgs_plain (spliced_cons (wpAny_Constant_str (spliced_nil ?_)))
    refine ⟨hu, ?_⟩
    refine call_mw (k2' _ _ (k1' _ _ hCg)) (k2' _ _ hx1) hu (one_size _) fun h' t1 kk hx' => ?_
    exact hq h' _ t1 (fun b o hb' ho => kk b o hb' (k2' _ _ (k1' _ _ ho))) hx'
end
/-- the shape of such an __init__ -/
structure ShX (qn : Str) (args : Arguments) (body : List Stmt) (sc : Scope) (fo : Option Str) : Prop where
  ex : ∃ (txt : Str) (j : Nat) (q1 q2 q3 q4 q5 q6 : Pos) (rest : List Stmt) (pl : Sem Bool), body = xSup txt j q1 q2 q3 q4 q5 q6 :: rest ∧
    (args.posonlyargs ++ args.args).head? = some { arg := "self", annotation := none, pos := (args.args.head?.map (·.pos)).getD q1 } ∧
    (∀ L fI cda cc, interactive (ksEnv qn sc L fI (.ref cda) cc) = false ∧ swapsWith (.Call (.Attribute (.Call (.Name "super" q1) [] [] q2) "__init__" q3) [.Constant (.str txt) j q4] [] q5) none q6.line (ksEnv qn sc L fI (.ref cda) cc) = pure false ∧
      eval (.Call (.Attribute (.Call (.Name "super" q1) [] [] q2) "__init__" q3) [.Constant (.str txt) j q4] [] q5) (ksEnv qn sc L fI (.ref cda) cc) = (do
        let ov ← attributeBase (.Call (.Name "super" q1) [] [] q2) "__init__" (ksEnv qn sc L fI (.ref cda) cc) (eval (.Call (.Name "super" q1) [] [] q2) (ksEnv qn sc L fI (.ref cda) cc))
        standAt q3.atName
        let (f, first) ← holding [ov] (getMethod ov "__init__" pl)
        callWith q5 f first (backTo q5 (starEach [.Constant (.str txt) j q4] (ksEnv qn sc L fI (.ref cda) cc))) [])) ∧
    match fo with
    | none => rest = []
    | some f => ∃ r1 r2 r3 r4, rest = [xSt f r1 r2 r3 r4] ∧ ∀ L fI cda cc, swapsWith (.Name f r3) (some (.Attribute (.Name "self" r1) f r2)) r4.line (ksEnv qn sc L fI (.ref cda) cc) = pure false
  hks : sc.names.lookup ("super" : Str) = some .globalImplicit
  hkc : sc.names.lookup ("__class__" : Str) = some .free
  hka : sc.names.lookup ("self" : Str) = some .local
  hk : sc.kind = .function
  hco : sc.isCoroutine = false
  hge : sc.isGenerator = false
  ncell : ∀ x ∈ sc.names, x.2 ≠ .cell
  bind : ∀ (s : Shared) (doc pm ct : Value) (an : Option Addr) (cda cc : Addr) (x v : Value), match fo with
    | none => BindsTo s (ksFn "__init__" qn args body sc .none .none doc pm an (.ref cda) ct cc) ⟨[x], []⟩ [("self", x)]
    | some f => BindsTo s (ksFn "__init__" qn args body sc .none .none doc pm an (.ref cda) ct cc) ⟨[x, v], []⟩ [("self", x), (f, v)]
  fd : match fo with
    | none => True
    | some f => sc.names.lookup f = some .local ∧ (f == ("__debug__" : Str)) = false ∧ f ≠ "self"
section
variable {prog : Program} {w : World} {A : Around} {E : Value → Shared → Prop} {R : Result → Shared → Prop} {s : Shared} {K : Frag} {mg mb : Str → Option Value} {cn qn : Str} {C fI : Addr} {args : Arguments} {body : List Stmt} {sc : Scope}
theorem ex_init0 (T : ExTxt prog K mg cn qn C fI args body sc) (S : ShX qn args body sc none) {x t0 : Addr} (X : K.In s.heap) (hg : s.heap.Ns mainGlobals mg) (hb : s.heap.Ns builtinsNs mb) (hsup : mg "super" = none) (hbs : mb "super" = some (.type "super")) (hlim : s.heap.NoLimit)
    (hx : s.heap.get? x = some (excO C t0)) (hroom : A.depth < recursionLimit)
    (hq : ∀ h' tk t1, (∀ b o, b ≠ x → s.heap.get? b = some o → h'.get? b = some o) → h'.get? x = some (excO C t1) → R (.ok (.ret .none)) { s with heap := h', toks := tk }) :
    codeAny (model prog w) A (.call (.ref fI) ⟨[.ref x], []⟩) R s := by
  obtain ⟨oc, od, doc, pm, an, cda, ct, osl, cc, hfn, hcd, hcode, hcell⟩ := T.fn
  obtain ⟨txt, j, q1, q2, q3, q4, q5, q6, rest, pl, hbody, hp, hev, hrest⟩ := S.ex
  have hrest : rest = [] := hrest
  subst hrest
  refine ks_codeAny_call_defAt (body := body) (binds := [("self", .ref x)]) hroom (X _ _ hfn) rfl hlim (codeRec_of X hcd) rfl (S.bind s doc pm ct an cda cc (.ref x) .none) S.ncell (fun y hy => by simp at hy; subst hy; exact S.hka) (fun h₀ hns k => ?_) S.hco S.hge S.hk
  show _root_.PySem.wpAt (model prog w) (A.deeper (ksEnv qn sc s.heap.objs.size fI (.ref cda) cc)) (.func body (ksEnv qn sc s.heap.objs.size fI (.ref cda) cc)) (execs body (ksEnv qn sc s.heap.objs.size fI (.ref cda) cc)) _ _ _
  obtain ⟨e1, e2, e3⟩ := hev s.heap.objs.size fI cda cc
  have eb : execs body (ksEnv qn sc s.heap.objs.size fI (.ref cda) cc) = execs [xSup txt j q1 q2 q3 q4 q5 q6] (ksEnv qn sc s.heap.objs.size fI (.ref cda) cc) := by rw [hbody]
  rw [eb]
  refine ks_wpAt_execs_cons (sup_walk T hfn hcode hcell (X.keeps k) (hg.keeps k) (hb.keeps k) hsup hbs hns (by first | rfl | with_unfolding_all rfl) (k _ _ hx) hp e1 e2 e3 S.hks S.hkc S.hka S.hk fun h' t' t1 kk hx' => ?_)
  show _root_.PySem.wpAt _ _ _ (execs [] _) _ _ _
  refine wpAt_of_wpAny (wpAny_execs_nil ?_)
  exact hq h' t' t1 (fun b o hb' ho => kk b o hb' (k b o ho)) hx'
theorem ex_init1 {f : Str} (T : ExTxt prog K mg cn qn C fI args body sc) (S : ShX qn args body sc (some f)) (hno : findIn K (.ref C) f = some none) {x t0 : Addr} {v : Value} (X : K.In s.heap) (hg : s.heap.Ns mainGlobals mg) (hb : s.heap.Ns builtinsNs mb) (hsup : mg "super" = none) (hbs : mb "super" = some (.type "super")) (hlim : s.heap.NoLimit)
    (hx : s.heap.get? x = some (excO C t0)) (hnx : K.lookup x = none) (hroom : A.depth < recursionLimit)
    (hq : ∀ h' tk dx t1, (∀ b o, b ≠ x → s.heap.get? b = some o → h'.get? b = some o) → s.heap.objs.size ≤ dx → dx ≠ x → h'.get? x = some { cls := .ref C, dict := some dx, data := .fields #[.ref t1, .none, .none, .none, .bool false, .none] } →
      h'.Ns1 dx (fun y => if y = f then some v else none) → R (.ok (.ret .none)) { s with heap := h', toks := tk }) :
    codeAny (model prog w) A (.call (.ref fI) ⟨[.ref x, v], []⟩) R s := by
  obtain ⟨oc, od, doc, pm, an, cda, ct, osl, cc, hfn, hcd, hcode, hcell⟩ := T.fn
  obtain ⟨nm, q, N, bs, bm, sn, sub, ab, col, dd, k0, k1, k2, k3, k5, hC, hbm⟩ := T.cls
  have hcl : clsIn K C = some { name := nm, bases := bs, mro := .ref C :: bm, ns := N, qualname := q, hasDict := true, slotNames := sn, subclasses := sub, abstract := ab, collection := col, hasDel := false } := by unfold clsIn; rw [hC] <;> rfl
  obtain ⟨txt, j, q1, q2, q3, q4, q5, q6, rest, pl, hbody, hp, hev, hrest⟩ := S.ex
  obtain ⟨r1, r2, r3, r4, rfl, hsw⟩ : ∃ r1 r2 r3 r4, rest = [xSt f r1 r2 r3 r4] ∧ ∀ L fI cda cc, swapsWith (.Name f r3) (some (.Attribute (.Name "self" r1) f r2)) r4.line (ksEnv qn sc L fI (.ref cda) cc) = pure false := hrest
  obtain ⟨hfl, hfd, hfs⟩ : sc.names.lookup f = some .local ∧ (f == ("__debug__" : Str)) = false ∧ f ≠ "self" := S.fd
  refine ks_codeAny_call_defAt (body := body) (binds := [("self", .ref x), (f, v)]) hroom (X _ _ hfn) rfl hlim (codeRec_of X hcd) rfl (S.bind s doc pm ct an cda cc (.ref x) v) S.ncell (fun y hy => by
    simp only [List.mem_cons, List.not_mem_nil, or_false] at hy
    rcases hy with rfl | rfl
    · exact S.hka
    · exact hfl) (fun h₀ hns k => ?_) S.hco S.hge S.hk
  show _root_.PySem.wpAt (model prog w) (A.deeper (ksEnv qn sc s.heap.objs.size fI (.ref cda) cc)) (.func body (ksEnv qn sc s.heap.objs.size fI (.ref cda) cc)) (execs body (ksEnv qn sc s.heap.objs.size fI (.ref cda) cc)) _ _ _
  obtain ⟨e1, e2, e3⟩ := hev s.heap.objs.size fI cda cc
  have eb : execs body (ksEnv qn sc s.heap.objs.size fI (.ref cda) cc) = execs [xSup txt j q1 q2 q3 q4 q5 q6, xSt f r1 r2 r3 r4] (ksEnv qn sc s.heap.objs.size fI (.ref cda) cc) := by rw [hbody]
  rw [eb]
  have hself : (fun y => List.lookup y [(("self" : Str), Value.ref x), (f, v)].reverse) "self" = some (.ref x) := by
    have e : (("self" : Str) == f) = false := by simpa using Ne.symm hfs
    simp [List.lookup, e]
  have hfv : (fun y => List.lookup y [(("self" : Str), Value.ref x), (f, v)].reverse) f = some v := by simp [List.lookup]
  have zL : s.heap.objs.size < h₀.objs.size := hns.lt
  refine ks_wpAt_execs_cons (sup_walk T hfn hcode hcell (X.keeps k) (hg.keeps k) (hb.keeps k) hsup hbs hns hself (k _ _ hx) hp e1 e2 e3 S.hks S.hkc S.hka S.hk fun h1 t1' t1 kk hx1 => ?_)
  have hxL : s.heap.objs.size ≠ x := Nat.ne_of_gt (Heap.lt_size hx)
  have hns1 : h1.Ns s.heap.objs.size (fun y => List.lookup y [(("self" : Str), Value.ref x), (f, v)].reverse) := hns.at fun o q => kk _ _ hxL q
  have X1 : K.In h1 := fun a o e => kk a o (fun z => by rw [z, hnx] at e; cases e) (k _ _ (X a o e))
  show _root_.PySem.wpAt _ _ _ (execs [xSt f r1 r2 r3 r4] _) _ _ _
  refine wpAt_of_wpAny (wpAny_execs_cons (plainObj_wpAny_Assign_Attribute ?_ (hsw _ _ _ _)))
  refine wpAny_Name (wpAny_loadName_local S.hk hfl hns1 hfv ?_) hfd
  refine wpAny_Name (wpAny_loadName_local S.hk S.hka hns1 hself ?_) (by decide)
  refine set_plain X1 (ox := excO C t1) (od := none) ⟨hx1, rfl, rfl, trivial⟩ T.sa ?_
  refine exc_osa X1 hx1 hcl (show refsVE (.ref C :: bm) = true from hbm) rfl hno (fun h₃ tk₃ dx k₃ dn dne hx₃ hn₃ => ?_)
  show wpAny _ _ (execs _ _) _ _ _
  refine wpAny_execs_nil (hq h₃ tk₃ dx t1 (fun b o hb' e => k₃ b o hb' (kk b o hb' (k b o e))) ?_ dne hx₃ hn₃)
  have hge : h₀.objs.size ≤ h1.objs.size ∨ True := .inr trivial
  exact Nat.le_of_lt (Nat.lt_of_lt_of_le (show s.heap.objs.size < h1.objs.size from hns1.lt) dn)
end
end ExD
end PySem

/-! Den18: own errors made and raised, over trees. -/
namespace PySem
namespace ExD
open PySem.W PySem.Calls PyProof.Rows PySem.HandSPX
section
variable {prog : Program} {w : World} {A : Around} {E : Value → Shared → Prop} {R : Result → Shared → Prop} {s : Shared} {K : Frag} {mg mb : Str → Option Value} {cn qn : Str} {C fI : Addr} {args : Arguments} {body : List Stmt} {sc : Scope}
theorem ex_made0 (T : ExTxt prog K mg cn qn C fI args body sc) (S : ShX qn args body sc none) (X : K.In s.heap) (hg : s.heap.Ns mainGlobals mg) (hb : s.heap.Ns builtinsNs mb) (hsup : mg "super" = none) (hbs : mb "super" = some (.type "super")) (hlim : s.heap.NoLimit) (hroom : A.depth + 1 < recursionLimit)
    (hq : ∀ h' tk t1, (∀ b o, s.heap.get? b = some o → h'.get? b = some o) → h'.get? (s.heap.objs.size + 1) = some (excO C t1) → R (.ok (.ret (.ref (s.heap.objs.size + 1)))) { s with heap := h', toks := tk }) :
    codeAny (model prog w) A (.call (.ref C) ⟨[], []⟩) R s := by
  obtain ⟨nm, q, N, bs, bm, sn, sub, ab, col, dd, k0, k1, k2, k3, k5, hC, hbm⟩ := T.cls
  obtain ⟨hp, g, dr, tk, os⟩ := s
  have k : ∀ b o, hp.get? b = some o → ((hp.push (kdv_tup [])).push (excO C hp.objs.size)).get? b = some o := fun b o e => Heap.get?_push_of_some _ (Heap.get?_push_of_some _ e)
  have hget : ((hp.push (kdv_tup [])).push (excO C hp.objs.size)).get? (hp.objs.size + 1) = some (excO C hp.objs.size) := by heap_get
  refine call_own F.excBase_ValueError (fun X => refsVE_contains X bm hbm) (X _ _ hC) (looks_findIn X T.iC) (fun self => bind_fn X self T.tC) (Nat.zero_le _) ?_
  refine ex_init0 (mb := mb) (s := ⟨(hp.push (kdv_tup [])).push (excO C hp.objs.size), g, dr, tk, os⟩) T S (X.keeps k) (hg.keeps k) (hb.keeps k) hsup hbs (hlim.keeps k) hget ?_ fun h' tk' t1 k' hx => ?_
  · show A.depth + 1 < recursionLimit
    exact hroom
  · exact ⟨rfl, hq h' tk' t1 (fun b o e => k' b o (Nat.ne_of_lt (Nat.lt_succ_of_lt (Heap.lt_size e))) (k b o e)) hx⟩
theorem ex_made1 {f : Str} (T : ExTxt prog K mg cn qn C fI args body sc) (S : ShX qn args body sc (some f)) (hno : findIn K (.ref C) f = some none) {v : Value} (X : K.In s.heap) (hg : s.heap.Ns mainGlobals mg) (hb : s.heap.Ns builtinsNs mb) (hsup : mg "super" = none) (hbs : mb "super" = some (.type "super")) (hlim : s.heap.NoLimit) (hroom : A.depth + 1 < recursionLimit)
    (hq : ∀ h' tk dx t1, (∀ b o, s.heap.get? b = some o → h'.get? b = some o) → h'.get? (s.heap.objs.size + 1) = some { cls := .ref C, dict := some dx, data := .fields #[.ref t1, .none, .none, .none, .bool false, .none] } → s.heap.objs.size ≤ dx → dx ≠ s.heap.objs.size + 1 →
      h'.Ns1 dx (fun y => if y = f then some v else none) → R (.ok (.ret (.ref (s.heap.objs.size + 1)))) { s with heap := h', toks := tk }) :
    codeAny (model prog w) A (.call (.ref C) ⟨[v], []⟩) R s := by
  obtain ⟨nm, q, N, bs, bm, sn, sub, ab, col, dd, k0, k1, k2, k3, k5, hC, hbm⟩ := T.cls
  obtain ⟨hp, g, dr, tk, os⟩ := s
  have k : ∀ b o, hp.get? b = some o → ((hp.push (kdv_tup [v])).push (excO C hp.objs.size)).get? b = some o := fun b o e => Heap.get?_push_of_some _ (Heap.get?_push_of_some _ e)
  have hget : ((hp.push (kdv_tup [v])).push (excO C hp.objs.size)).get? (hp.objs.size + 1) = some (excO C hp.objs.size) := by heap_get
  have hnx : K.lookup (hp.objs.size + 1) = none := by
    cases e : K.lookup (hp.objs.size + 1) with
    | none => rfl
    | some o =>
      have z : hp.get? (hp.objs.size + 1) = some o := X _ _ e
      exact absurd (Nat.lt_of_succ_lt (Heap.lt_size z)) (Nat.lt_irrefl _)
  refine call_own F.excBase_ValueError (fun X => refsVE_contains X bm hbm) (X _ _ hC) (looks_findIn X T.iC) (fun self => bind_fn X self T.tC) (one_size v) ?_
  refine ex_init1 (mb := mb) (s := ⟨(hp.push (kdv_tup [v])).push (excO C hp.objs.size), g, dr, tk, os⟩) T S hno (X.keeps k) (hg.keeps k) (hb.keeps k) hsup hbs (hlim.keeps k) hget hnx ?_ fun h' tk' dx t1 k' dn dne hx hns => ?_
  · show A.depth + 1 < recursionLimit
    exact hroom
  · have z : hp.objs.size + 1 + 1 ≤ dx := by
      have q := dn
      rw [Heap.size_push, Heap.size_push] at q
      exact q
    exact ⟨rfl, hq h' tk' dx t1 (fun b o e => k' b o (Nat.ne_of_lt (Nat.lt_succ_of_lt (Heap.lt_size e))) (k b o e)) hx (Nat.le_trans (Nat.le_trans (Nat.le_succ _) (Nat.le_succ _)) z) dne hns⟩
end
end ExD
end PySem
namespace L2
open PySem PySem.Spec PyProof.Rows PySem.ExD
theorem relO_fld {f0 : Str} {v : V} {v' : Value} (r : RelV v v') (f : Str) : RelO (List.lookup f [(f0, v)]) (if f = f0 then some v' else none) := by
  by_cases hw : f = f0
  · subst hw
    rw [if_pos rfl]
    have q : List.lookup f [(f, v)] = some v := by simp [List.lookup]
    rw [q]
    exact r
  · rw [if_neg hw]
    have qw : (f == f0) = false := by simpa using hw
    have q2 : List.lookup f [(f0, v)] = none := by simp [List.lookup, qw]
    rw [q2]
    trivial
section
variable {X : Cx} {cn qn : Str} {C fI : Addr} {args : Arguments} {body : List Stmt} {sc : Scope} {p pos : Pos} {k : Nat}
/-- C() -/
theorem pmk_ex0 (T : ExTxt X.prog X.K X.mg cn qn C fI args body sc) (S : ShX qn args body sc none) (hsup : X.mg "super" = none) (hr : Room k X.A) (hg : Gl X cn) (hdb : (cn == ("__debug__" : Str)) = false := by decide) :
    PMk X (.Call (.Name cn p) [] [] pos) (fun _ H Q => Q (.ref C) none H) := by
  intro pins s σ H Q I h
  refine wpAny_Call_Name_kw (ld_glob I hg T.gC (PySem.W.callWith_K0 I.kIn T.kC ?_) hdb)
  obtain ⟨mb, hmb, hbb⟩ := I.ok.mod.blt
  have hlim := I.nolimit
  have hK := I.kIn
  have hG := I.ok.mod.glob.keeps I.bk
  have hB := hmb.keeps I.bk
  have e := hbb "super" (by decide)
  obtain ⟨hp, g, dr, tk, os⟩ := s
  refine wpAny_call (ex_made0 (mb := mb) T S hK hG hB hsup (e.trans (by decide +kernel)) hlim (by have := hr.dp; omega) fun h' tk' t1 old hx => ?_)
  show MkP X pins σ Q (.ref (hp.objs.size + 1)) ⟨h', g, dr, tk', os⟩
  refine ⟨hp.objs.size + 1, _, _, ⟨hp, g, dr, tk, os⟩, H, .ref C, none, rfl, I, old, ?_, hx, ⟨rfl, rfl⟩, rfl, rfl, I.hok.fresh (Nat.le_succ _), rfl, I.bare, raises_own T.exC T.tyC, h⟩
  cases z : hp.get? (hp.objs.size + 1) with
  | none => rfl
  | some o => exact absurd (Nat.lt_of_succ_lt (Heap.lt_size z)) (Nat.lt_irrefl _)
/-- C(e) -/
theorem pmk_ex1 {f : Str} {a : Expr} {ta : TA} (T : ExTxt X.prog X.K X.mg cn qn C fI args body sc) (S : ShX qn args body sc (some f)) (hno : PySem.W.findIn X.K (.ref C) f = some none) (hsup : X.mg "super" = none) (hr : Room k X.A) (ha : PA X [a] ta) (hg : Gl X cn) (hdb : (cn == ("__debug__" : Str)) = false := by decide)
    (he : starEach (a :: []) X.env = (false, eval a X.env) :: starEach [] X.env := by rfl) (hpl : (backTo pos (starEach [] X.env)).any (·.1) = false := by rfl) :
    PMk X (.Call (.Name cn p) [a] [] pos) (fun σ H Q => ta σ H fun vs H1 => ∃ v, vs = [v] ∧ ∀ d, H1 d = none → Q (.ref C) (some d) (upd H1 d (.xd [(f, v)]))) := by
  intro pins s σ H Q I h
  refine wpAny_Call_Name_kw (ld_glob I hg T.gC ?_ hdb)
  refine PySem.W.callWith_K (h₀ := X.base) I.ok.mod.kin T.kC (thn (ha.run pos pins s σ H _ I h) fun us s1 hh => ?_) he hpl
  obtain ⟨vs, H1, I1, r1, v, ev, q1⟩ := hh
  subst ev
  refine ⟨I1.kIn, ?_⟩
  cases r1 with
  | cons rv rn =>
    rename_i v' us'
    cases rn
    show wpAny _ _ (call (.ref C) [v']) _ _ _
    obtain ⟨mb, hmb, hbb⟩ := I1.ok.mod.blt
    have hlim := I1.nolimit
    have hK := I1.kIn
    have hG := I1.ok.mod.glob.keeps I1.bk
    have hB := hmb.keeps I1.bk
    have e := hbb "super" (by decide)
    obtain ⟨hp, g, dr, tk, os⟩ := s1
    refine wpAny_call (ex_made1 (mb := mb) T S hno hK hG hB hsup (e.trans (by decide +kernel)) hlim (by have := hr.dp; omega) fun h' tk' d t1 old hx dn dne hns => ?_)
    show MkP X pins σ Q (.ref (hp.objs.size + 1)) ⟨h', g, dr, tk', os⟩
    obtain ⟨G', g1, g2⟩ := restrict h' fun b => decide (b ≠ hp.objs.size + 1)
    have gk : ∀ b, b ≠ hp.objs.size + 1 → G'.get? b = h'.get? b := fun b hb => g1 b (decide_eq_true hb)
    have ge : G'.get? (hp.objs.size + 1) = none := g2 _ (by simp)
    have old2 : ∀ b o, hp.get? b = some o → G'.get? b = some o := fun b o q => (gk b (Nat.ne_of_lt (Nat.lt_succ_of_lt (Heap.lt_size q)))).trans (old b o q)
    have ob : ObjOk X.prog X.w (upd H1 d (.xd [(f, v)])) G' d (.xd [(f, v)]) :=
      ⟨_, hns.at (fun o q => (gk d dne).trans q), fun y => relO_fld rv y⟩
    have J : Inv X pins σ (upd H1 d (.xd [(f, v)])) ⟨G', g, dr, tk', os⟩ := I1.laid (t' := tk') old2 dn ob
    refine ⟨hp.objs.size + 1, _, _, ⟨G', g, dr, tk', os⟩, _, .ref C, some d, rfl, J, fun b o q => ?_, ge, hx, ⟨rfl, rfl⟩, rfl, rfl, ?_, rfl, I1.bare, raises_own T.exC T.tyC, q1 d (I1.hok.fresh dn)⟩
    · by_cases hb : b = hp.objs.size + 1
      · have q' : G'.get? b = some o := q
        rw [hb, ge] at q'; cases q'
      · exact (gk b hb).symm.trans q
    · rw [upd_ne (Ne.symm dne)]
      exact I1.hok.fresh (Nat.le_succ _)
end
end L2
namespace Dn
open PySem PySem.Spec PyProof.Rows L2 PySem.ExD
section
variable {K : PySem.W.Frag} {F : Addr → Prop} {H : Hp} {σ : L2.St} {ρ : Rho} {τ : List Pr}
/-- a new thing, frozen -/
theorem Sta.lay {d : Addr} {o : HO} (s : Sta K F H σ ρ τ) (n : H d = none) : Sta K (fun a => F a ∨ a = d) (L2.upd H d o) σ ρ τ := by
  refine s.on fun l al => ?_
  obtain ⟨O, r, nd, nf, dm⟩ := al
  have ne : ∀ a, a ∈ O → a ≠ d := fun a m z => RepP.dom r a m (by rw [z]; exact n)
  refine ⟨O, RepP.mono (fun a f => .inl f) (fun a f => upd_ne fun z => dm a f (by rw [z]; exact n)) r fun a m => upd_ne (ne a m), nd, fun a m f => ?_, fun a f => ?_⟩
  · rcases f with f | f
    · exact nf a m f
    · exact ne a m f
  · rcases f with f | f
    · rw [upd_ne fun z => dm a f (by rw [z]; exact n)]; exact dm a f
    · rw [f, upd_same]; simp
end
def sRaise0 (cn : Str) : SM := fun ρ => .er ⟨cn, none⟩ ρ
def sRaise1 (cn f : Str) (m : M C) : SM := fun ρ => (m ρ).thn fun c ρ => .er ⟨cn, some (f, fzD c)⟩ ρ
section
variable {X : Cx} {W : WX} {cn qn : Str} {C fI : Addr} {args : Arguments} {body : List Stmt} {sc : Scope} {p pos pos2 : Pos} {k : Nat}
theorem ds_raise0 (T : ExTxt X.prog X.K X.mg cn qn C fI args body sc) (S : ShX qn args body sc none) (hcl : clsOf X.K cn = .ref C) (hsup : X.mg "super" = none) (hr : Room k X.A) (tk : Takes X W) (hc : X.calm = true := by rfl) (hg : Gl X cn := by rfl) (hdb : (cn == ("__debug__" : Str)) = false := by decide) :
    PS X (.Raise (some (.Call (.Name cn p) [] [] pos)) none pos2) (sOf X.K W (sRaise0 cn)) := (ps_raise hc tk (pmk_ex0 T S hsup hr hg hdb)).imp fun D σ H ⟨F, ρ, τ, s, g⟩ => g σ F H (.ref C) none ⟨hcl.symm, rfl⟩ s
theorem ds_raise1 {f : Str} {a : Expr} {m : M Dn.C} (T : ExTxt X.prog X.K X.mg cn qn C fI args body sc) (S : ShX qn args body sc (some f)) (hno : PySem.W.findIn X.K (.ref C) f = some none) (hcl : clsOf X.K cn = .ref C) (hsup : X.mg "super" = none) (hr : Room k X.A) (tk : Takes X W) (ha : PE X a (tOf X.K W m)) (hc : X.calm = true := by rfl) (hg : Gl X cn := by rfl) (hdb : (cn == ("__debug__" : Str)) = false := by decide)
    (he : starEach (a :: []) X.env = (false, eval a X.env) :: starEach [] X.env := by rfl) (hpl : (backTo pos (starEach [] X.env)).any (·.1) = false := by rfl) :
    PS X (.Raise (some (.Call (.Name cn p) [a] [] pos)) none pos2) (sOf X.K W (sRaise1 cn f m)) := (ps_raise hc tk (pmk_ex1 T S hno hsup hr (pa_cons ha pa_nil he) hg hdb he hpl)).imp fun D σ H ⟨F, ρ, τ, s, g⟩ => by
  refine run1 s ((GoodS.thn g).imp (fun c ρ1 q v F1 H1 s1 => ?_) fun _ _ q => q)
  refine ⟨v, rfl, fun d hd => ?_⟩
  have s2 := s1.lay (o := .xd [(f, v)]) hd
  exact q σ _ _ (.ref C) (some d) ⟨hcl.symm, d, v, rfl, .inr rfl, upd_same, s2.fzOf⟩ s2.drop
end
@[simp] theorem sRaise0_ap (cn : Str) (ρ : Rho) : sRaise0 cn ρ = .er ⟨cn, none⟩ ρ := rfl
@[simp] theorem sRaise1_ap (cn f : Str) (m : M C) (ρ : Rho) : sRaise1 cn f m ρ = (m ρ).thn fun c ρ => .er ⟨cn, some (f, fzD c)⟩ ρ := rfl
end Dn

/-! Den19: try: .. except C as n: a suite that returns. -/
namespace Dn
open PySem PySem.Spec PyProof.Rows L2 PySem.ExD
/-- what a suite is asked: n's slot i, the error e that it is, the value that it returns -/
def tsOf (K : PySem.W.Frag) (i : Nat) (isc : Str → Option Bool) (su : Er → Option D) : Addr → Value → Option Addr → TS := fun a cls d D σ H =>
  ∃ e F ρ τ z, ErOk K F H e cls d ∧ Sta K F H σ ρ τ ∧ σ[i]? = some (some (.ref a)) ∧ isc e.cls = some true ∧ su e = some z ∧ ∀ v F' H', All K F' H' ((some v, .fz z) :: τ) → D.rt v H'
/-- try: m except (what isc takes) as (slot i): return su -/
def sTry (i : Nat) (m : SM) (isc : Str → Option Bool) (su : Er → Option D) : SM := fun ρ => match m ρ with
  | .er e ρ' => match isc e.cls with
    | some true => match su e with
      | some z => if i < ρ'.length then .rt (.fz z) else .st
      | none => .st
    | some false => .er e ρ'
    | none => .st
  | r => r
section
variable {X : Cx} {W : WX} {x n : Str} {c : Value} {i : Nat} {body suite : List Stmt} {b₀ : Stmt} {np pos pos' : Pos} {m : SM} {isc : Str → Option Bool} {su : Er → Option D}
theorem ds_try (i : Nat) (hc : Names X x c) (tk : Takes X W) (hx : ∀ k b, isc k = some b → PySem.W.exmOne X.K (clsOf X.K k) c = some b)
    (hb : ∀ (W : WX) (pn : List (Addr × Obj)) (xe : Value → Shared → Prop), Takes (X.tr pn xe) W → PassesOwn (model X.prog X.w) X.A X.env xe → PSs (X.tr pn xe) body (sOf X.K W m))
    (hsu : ∀ (a : Addr) (oe : Obj) (cls : Value) (d : Option Addr) (pn : List (Addr × Obj)), Zc cls d oe → (∃ vs, oe.data = .fields vs) → PSs (X.suite a ((a, oe) :: pn)) (b₀ :: suite) (tsOf X.K i isc su a cls d))
    (hN : X.N.Nodup) (hs : X.stack = X.env :: X.outer := by rfl) (hf : X.env.frame = some X.env.locals := by rfl) (hi : X.N[i]? = some n := by rfl) (hln : X.env.kindOf n = some .local := by rfl) :
    PS X (.Try body [.ExceptHandler (some (.Name x np)) (some n) (b₀ :: suite) pos'] [] [] pos) (sOf X.K W (sTry i m isc su)) :=
  (ps_try_as (tb := fun W => sOf X.K W m) hs hf hN hi hln hc tk hb hsu).imp fun D σ H ⟨F, ρ, τ, s, g⟩ => by
    refine ⟨F, ρ, τ, s, ?_⟩
    unfold sTry at g
    cases hm : m ρ with
    | er e ρ' =>
      rw [hm] at g
      intro σ' F' H' cls d ho s'
      dsimp only at g
      have hcl : cls = clsOf X.K e.cls := ho.1
      split at g
      · rename_i hk
        split at g
        · rename_i z hz
          split at g
          · rename_i hlt
            refine ⟨true, by rw [hcl]; exact hx _ _ hk, fun _ a ha => ?_, fun h => Bool.noConfusion h⟩
            refine ⟨e, F', ρ'.set i .no, τ, z, ho, s'.setX i _, List.getElem?_set_self (by rw [s'.1]; exact hlt), hk, hz, fun v F2 H2 al => g v F2 H2 (by simp) al⟩
          · exact g.elim
        · exact g.elim
      · rename_i hk
        exact ⟨false, by rw [hcl]; exact hx _ _ hk, fun h => Bool.noConfusion h, fun _ => g σ' F' H' cls d ho s'⟩
      · exact g.elim
    | st => rw [hm] at g; exact g
    | nx ρ' => rw [hm] at g; exact g
    | bk ρ' => rw [hm] at g; exact g
    | ct ρ' => rw [hm] at g; exact g
    | rt c' => rw [hm] at g; exact g
/-! ### suites -/
/-- the field f of the error -/
def fldOf (f : Str) (e : Er) : Option D := match e.fld with
  | some (g, x) => if g = f then some x else none
  | none => none
/-- return n.f -/
theorem su_fld {a : Addr} {oe : Obj} {cls : Value} {d : Option Addr} {pn : List (Addr × Obj)} {f : Str} {rp p2 p3 : Pos} (i : Nat) (hcl : ∀ k, isc k = some true → ∃ C : Addr, clsOf X.K k = .ref C ∧ XfC X.K C ∧ PySem.W.findIn X.K (.ref C) f = some none) (hz : Zc cls d oe) (hf : ∃ vs, oe.data = .fields vs)
    (hN : X.N[i]? = some n := by rfl) (hv : Vis X.env.scope n := by first | exact Or.inl rfl | exact Or.inr (Or.inl rfl) | exact Or.inr (Or.inr rfl)) (hd : (n == ("__debug__" : Str)) = false := by decide) (hcd : (n == ("__classdict__" : Str)) = false := by decide) (hb : attributeBase (.Name n p2) f X.env (eval (.Name n p2) X.env) = eval (.Name n p2) X.env := by rfl) :
    PSs (X.suite a ((a, oe) :: pn)) [.Return (some (.Attribute (.Name n p2) f p3)) rp] (tsOf X.K i isc (fldOf f) a cls d) := ⟨fun pins s σ H D I h => by
  obtain ⟨e, F, ρ, τ, z, ho, st, hi, hk, hz2, q⟩ := h
  obtain ⟨C, hC, hxf, hno⟩ := hcl _ hk
  have hpv : PE (X.suite a ((a, oe) :: pn)) (.Name n p2) (tVar i) := pe_var (X := X.suite a ((a, oe) :: pn)) hN hv hd hcd
  refine (pss_one (ps_ret (pe_xf (X := X) hxf hno hz hf hpv hb))).run pins s σ H D I ?_
  obtain ⟨h1, h2⟩ := ho
  unfold fldOf at hz2
  split at hz2
  · rename_i g x hfl
    split at hz2
    · rename_i hg
      cases hz2
      subst hg
      rw [hfl] at h2
      obtain ⟨dx, v, rfl, fx, hx, rv⟩ := h2
      refine ⟨.ref a, hi, rfl, h1.trans hC, dx, _, v, rfl, hx, by simp [List.lookup], ?_⟩
      exact q v F H (st.2.dropL.push rv)
    · cases hz2
  · cases hz2⟩
end
@[simp] theorem sTry_ap (i : Nat) (m : SM) (isc : Str → Option Bool) (su : Er → Option D) (ρ : Rho) : sTry i m isc su ρ = match m ρ with
  | .er e ρ' => match isc e.cls with
    | some true => match su e with
      | some z => if i < ρ'.length then .rt (.fz z) else .st
      | none => .st
    | some false => .er e ρ'
    | none => .st
  | r => r := rfl
end Dn

/-! Den20: what the top says of an own error class; statements never reached; which classes a clause takes. -/
namespace Dn
open PySem PySem.Spec PyProof.Rows L2 PySem.ExD PySem.HandSPX
def clsInit (st : Stmt) : Stmt := match st with
  | .ClassDef _ _ _ (b :: _) _ _ _ _ _ _ _ => b
  | _ => .Pass ⟨0, 0, 0, 0⟩
theorem ds_any {X : Cx} {W : WX} {st : Stmt} : PS X st (sOf X.K W fun _ => .st) := ⟨fun pins s σ H D I h => let ⟨_, _, _, _, g⟩ := h; g.elim⟩
theorem d_any {X : Cx} {W : WX} {e : Expr} : PE X e (tOf X.K W stuck) := ⟨fun pins s σ H Q I h => let ⟨_, _, _, _, g⟩ := h; g.elim⟩
def isnB (x y : D) : Option D := match x, y with
  | .bl a, .bl b => some (.bl (!decide (a = b)))
  | _, _ => none
@[simp] theorem isnB_b (a b : Bool) : isnB (.bl a) (.bl b) = some (.bl (!decide (a = b))) := rfl
theorem ok_isnB {K : PySem.W.Frag} : OpOk K (fun x y H Q => ∃ a b, x = .bl a ∧ y = .bl b ∧ Q (.bl (!decide (a = b))) H) isnB := fun x y z F H vx vy Q e rx ry q => by
  cases x <;> cases y <;> simp only [isnB, reduceCtorEq, Option.some.injEq] at e
  subst e
  exact ⟨_, _, rx.blv, ry.blv, q _ (.bl _)⟩
/-- which errors a clause takes -/
def iscL (l : List (Str × Bool)) : Str → Option Bool := fun k => l.lookup k
theorem iscL_ok {K : PySem.W.Frag} {c : Value} : ∀ {l : List (Str × Bool)}, (∀ p ∈ l, PySem.W.exmOne K (clsOf K p.1) c = some p.2) → ∀ k b, iscL l k = some b → PySem.W.exmOne K (clsOf K k) c = some b
  | [], _, k, b, h => by cases h
  | (k0, b0) :: l, h, k, b, e => by
    unfold iscL at e
    rw [List.lookup_cons] at e
    cases hk : (k == k0) with
    | true =>
      rw [hk] at e
      cases e
      rw [beq_iff_eq] at hk
      subst hk
      exact h (k, _) List.mem_cons_self
    | false =>
      rw [hk] at e
      exact iscL_ok (l := l) (fun p hp => h p (by simp [hp])) k b e
theorem iscL_true {l : List (Str × Bool)} {P : Str → Prop} (h : ∀ p ∈ l, p.2 = true → P p.1) : ∀ k, iscL l k = some true → P k := fun k e => by
  induction l with
  | nil => cases e
  | cons a l ih =>
    unfold iscL at e
    rw [List.lookup_cons] at e
    cases hk : (k == a.1) with
    | true =>
      rw [hk] at e
      injection e with e
      rw [beq_iff_eq] at hk
      rw [hk]
      exact h a (by simp) e
    | false =>
      rw [hk] at e
      exact ih (fun p hp => h p (by simp [hp])) e
section
variable {P : Program} {K : PySem.W.Frag} {h : Heap} {mg : Str → Option Value}
theorem clsOf_of {n : Str} {C : Addr} (e : PySem.W.nsIn K mainGlobals n = some (some (.ref C))) : clsOf K n = .ref C := by
  unfold clsOf
  rw [e]
/-- the facts of the written part, one by one -/
theorem ex_txt {cn qn : Str} {C fI : Addr} {args : Arguments} {body : List Stmt} {sc : Scope} {nm q : Str} {N : Addr} {bs bm : List Value} {sn : List Str} {sub : List Value} {ab : Bool} {col : Option Bool} {dd : Option Addr} {k0 k1 k2 k3 k5 : Option Value}
    {oc : Value} {od : Option Addr} {doc pm : Value} {an : Option Addr} {cda : Addr} {ct : Value} {osl : Array (Option Value)} {cc : Addr} {ccl : Value} {cdd : Option Addr} {vs : Array Value} {ccs : Array (Option Value)} {file : Str} {tf : Tok} {cl : Value} {cld : Option Addr} {csl : Array (Option Value)}
    (X : K.In h) (G : h.Ns mainGlobals mg)
    (a1 : PySem.W.nsIn K mainGlobals cn = some (some (.ref C))) (a2 : K.lookup C = some (excClassObj nm q C N bs bm true sn sub ab col dd k0 k1 k2 k3 k5 "ValueError.__new__")) (a3 : refsVE bm = true)
    (a4 : PySem.W.findIn K (.ref C) "__setattr__" = some (some (.builtin "object.__setattr__"))) (a5 : PySem.W.findIn K (.ref C) "__init__" = some (some (.ref fI))) (a6 : PySem.W.typeIn K (.ref fI) = some (.type "function")) (a7 : PySem.W.keepIn K (.ref C) = true)
    (a8 : PySem.W.subIn K (.ref C) (.type "BaseException") = some true) (a9 : PySem.W.subIn K (.ref C) (.type "ValueError") = some true) (a10 : PySem.W.typeIn K (.ref C) = some (.type "type"))
    (a11 : PySem.W.ks_superIn K C C "__init__" = some (some (.builtin "ValueError.__init__"))) (a12 : PySem.W.nsIn K cStatics "thirdparty.any" = some none) (a13 : (P.main.scope.names.lookup ("super" : Str)).isSome = false)
    (a14 : K.lookup fI = some ⟨oc, od, .func (PySem.W.ksFn "__init__" qn args body sc .none .none doc pm an (.ref cda) ct cc), osl⟩) (a15 : PySem.W.codeIn K (.ref cda) qn = true) (a16 : K.lookup cda = some ⟨ccl, cdd, .fields vs, ccs⟩) (a17 : vs[2]? = some (.str file tf))
    (a18 : ((P.main.file : Str) == file) = true) (a19 : K.lookup cc = some ⟨cl, cld, .cell (some (.ref C)), csl⟩) : ExTxt P K mg cn qn C fI args body sc where
  gC := PySem.W.mg_of X G a1
  cls := ⟨nm, q, N, bs, bm, sn, sub, ab, col, dd, k0, k1, k2, k3, k5, a2, a3⟩
  sa := a4
  iC := a5
  tC := a6
  kC := a7
  exC := a8
  exV := a9
  tyC := a10
  sup := a11
  opq := a12
  top := a13
  fn := ⟨oc, od, doc, pm, an, cda, ct, osl, cc, a14, a15, ⟨ccl, cdd, vs, ccs, file, tf, a16, a17, a18⟩, ⟨cl, cld, csl, a19⟩⟩
end
end Dn

/-! Den21: a conditional expression as a test. -/
namespace L2
open PySem PySem.Spec PyProof.Rows
section
variable {X : Cx} {c a b : Expr} {pos : Pos} {tc ta tb : TT}
theorem pt_ifx (hc : PT X c tc) (ha : PT X a ta) (hb : PT X b tb) : PT X (.IfExp c a b pos) (fun σ H Q => tc σ H fun k H1 => if k = true then ta σ H1 Q else tb σ H1 Q) := ⟨fun pins s σ H Q I h =>
  isTrue_IfExp (thn (hc.run pins s σ H _ I h) fun d s1 hh => by
    obtain ⟨H1, I1, q1⟩ := hh
    cases d with
    | true => exact ha.run pins s1 σ H1 Q I1 q1
    | false => exact hb.run pins s1 σ H1 Q I1 q1)⟩
end
end L2
namespace Dn
open PySem PySem.Spec PyProof.Rows L2
def bIf (t m n : M Bool) : M Bool := fun ρ => (t ρ).bind fun k ρ => if k = true then m ρ else n ρ
@[simp] theorem bIf_ap (t m n : M Bool) (ρ : Rho) : bIf t m n ρ = (t ρ).bind fun k ρ => if k = true then m ρ else n ρ := rfl
section
variable {X : Cx} {W : WX} {c a b : Expr} {pos : Pos} {t m n : M Bool}
theorem dt_ifx (hc : PT X c (bOf X.K W t)) (ha : PT X a (bOf X.K W m)) (hb : PT X b (bOf X.K W n)) : PT X (.IfExp c a b pos) (bOf X.K W (bIf t m n)) := (pt_ifx hc ha hb).imp fun σ H Q ⟨F, ρ, τ, s, g⟩ => by
  unfold bIf at g
  rw [Good.bind] at g
  refine runB s (g.imp (fun k ρ1 q F1 H1 s1 => ?_) fun _ _ q => q)
  cases k with
  | true => exact ⟨F1, ρ1, τ, s1, q⟩
  | false => exact ⟨F1, ρ1, τ, s1, q⟩
end
end Dn

/-! Den22: a suite that asks isinstance(e, C) and returns. -/
namespace Dn
open PySem PySem.Spec PyProof.Rows L2 PySem.ExD
/-- an error without field: z -/
def plainOf (z : D) (e : Er) : Option D := match e.fld with
  | none => some z
  | some _ => none
section
variable {X : Cx} {n cn : Str} {b1 rest : List Stmt} {isc : Str → Option Bool} {p p2 p3 p4 p5 : Pos} {m1 : SM} {z : D} {t2 : TS}
theorem su_is {a : Addr} {oe : Obj} {cls : Value} {d : Option Addr} {pn : List (Addr × Obj)} {Cg : Addr} (i : Nat)
    (hcl : ∀ k, isc k = some true → ∃ D : Addr, clsOf X.K k = .ref D ∧ ExcC X.K D ∧ PySem.W.kitOne X.K (.ref D) (.ref Cg) = some true) (hz : Zc cls d oe) (hf : ∃ vs, oe.data = .fields vs) (gC : X.mg cn = some (.ref Cg)) (nI : X.mg "isinstance" = none)
    (hb1 : PSs (X.suite a ((a, oe) :: pn)) b1 (sOf X.K noW m1)) (hm1 : ∀ ρ, m1 ρ = .rt (.fz z)) (hrest : PSs (X.suite a ((a, oe) :: pn)) rest t2)
    (hN : X.N[i]? = some n := by rfl) (hv : Vis X.env.scope n := by first | exact Or.inl rfl | exact Or.inr (Or.inl rfl) | exact Or.inr (Or.inr rfl)) (hd : (n == ("__debug__" : Str)) = false := by decide) (hcd : (n == ("__classdict__" : Str)) = false := by decide)
    (hg : Gl X cn := by rfl) (hdb : (cn == ("__debug__" : Str)) = false := by decide) (hgI : Gl X "isinstance" := by rfl)
    (hs1 : starEach [.Name n p2, .Name cn p3] X.env = (false, eval (.Name n p2) X.env) :: starEach [.Name cn p3] X.env := by rfl) (hs2 : starEach [.Name cn p3] X.env = (false, eval (.Name cn p3) X.env) :: starEach [] X.env := by rfl)
    (hpl : (backTo p4 (starEach [.Name cn p3] X.env)).any (·.1) = false := by rfl)
    (htr : ∀ whole, isTrue (.Call (.Name "isinstance" p) [.Name n p2, .Name cn p3] [] p4) X.env whole = (do let v ← whole; standAt (Expr.pos (.Call (.Name "isinstance" p) [.Name n p2, .Name cn p3] [] p4)); holding [v] (truthy v)) := by intro _; rfl) :
    PSs (X.suite a ((a, oe) :: pn)) (.If (.Call (.Name "isinstance" p) [.Name n p2, .Name cn p3] [] p4) b1 [] p5 :: rest) (tsOf X.K i isc (plainOf z) a cls d) := ⟨fun pins s σ H DD I h => by
  obtain ⟨e, F, ρ, τ, z0, ho, st, hi, hk, hz2, q⟩ := h
  obtain ⟨D, hD, hC, hkit⟩ := hcl _ hk
  obtain ⟨h1, h2⟩ := ho
  unfold plainOf at hz2
  split at hz2
  · rename_i hfl
    cases hz2
    rw [hfl] at h2
    have h2' : d = none := h2
    subst h2'
    have hc : cls = .ref D := h1.trans hD
    subst hc
    have P1 : PE (X.suite a ((a, oe) :: pn)) (.Call (.Name "isinstance" p) [.Name n p2, .Name cn p3] [] p4) (tCB (rIsE X.K D a) (tCons (tVar i) (tCons (tC (.ref Cg)) tNil))) :=
      pe_callB (X := X.suite a ((a, oe) :: pn)) (call_isE (X := X) hC hz hf) hgI nI (by decide +kernel) (pa_cons (pe_var (X := X.suite a ((a, oe) :: pn)) hN hv hd hcd) (pa_cons (pe_glob (X := X.suite a ((a, oe) :: pn)) hg gC rfl hdb) pa_nil hs2) hs1) (by decide) (by decide) hs1 hpl
    have P2 := pt_truth P1 htr
    refine (pss_cons (ps_if P2 hb1 pss_nil) hrest).run pins s σ H DD I ?_
    refine ⟨.ref a, hi, .ref Cg, .ref Cg, true, rfl, fun u r => r, hkit, true, (Rep.bl (K := X.K) (F := F) (H := H) true).tru rfl, ?_⟩
    refine ⟨F, ρ, τ, st, ?_⟩
    rw [hm1]
    exact fun v F' H' nc al => q v F' H' al
  · cases hz2⟩
end
end Dn

/-! Den23: for t in x[..]: the items handed out with what they own; the list is given up. -/
namespace Dn
open PySem PySem.Spec PyProof.Rows L2
/-- the cell at the end of a path -/
def takeC : List Int → C → Option C
  | [], c => some c
  | j :: js, .ow cs => (ixN cs.length j).bind fun k => (cs[k]?).bind fun c => takeC js c
  | j :: js, .tp cs => (ixN cs.length j).bind fun k => (cs[k]?).bind fun c => takeC js c
  | _, _ => none
section
variable {K : PySem.W.Frag} {F : Addr → Prop} {H : Hp}
theorem RepCs.getS : ∀ {vs : List V} {cs : List C} {O : List Addr} {i : Nat} {c : C}, RepCs K F H vs cs O → cs[i]? = some c → ∃ v O', vs[i]? = some v ∧ RepC K F H v c O' ∧ O'.Sublist O
  | _, _, _, _, _, .nil, h => by simp at h
  | _, _, _, 0, _, .cons r _, h => by simp at h; subst h; exact ⟨_, _, rfl, r, List.sublist_append_left _ _⟩
  | _, _, _, i + 1, _, .cons _ r, h => by
    obtain ⟨v, O', e, q, s⟩ := r.getS (i := i) (by simpa using h)
    exact ⟨v, O', by simpa using e, q, s.trans (List.sublist_append_right _ _)⟩
theorem takeC_ok : ∀ {js : List Int} {v : V} {c c' : C} {O : List Addr}, RepC K F H v c O → takeC js c = some c' → ∃ u O', NavV K H v js u ∧ RepC K F H u c' O' ∧ O'.Sublist O
  | [], v, c, c', O, r, e => by
    cases e
    exact ⟨v, O, rfl, r, List.Sublist.refl _⟩
  | j :: js, v, c, c', O, r, e => by
    cases r with
    | @ow p vs cs O1 ep rc =>
      simp only [takeC, Option.bind_eq_some_iff] at e
      obtain ⟨k, hk, c1, hc, hu⟩ := e
      obtain ⟨v1, O2, e1, r1, s1⟩ := rc.getS hc
      obtain ⟨u, O3, nav, r2, s2⟩ := takeC_ok r1 hu
      exact ⟨u, O3, ⟨v1, ⟨p, vs, rfl, .inl (.of ep), ixN_atI rc.len.symm hk e1⟩, nav⟩, r2, (s2.trans s1).trans (List.sublist_cons_self _ _)⟩
    | @tp p vs cs O1 ep rc =>
      simp only [takeC, Option.bind_eq_some_iff] at e
      obtain ⟨k, hk, c1, hc, hu⟩ := e
      obtain ⟨v1, O2, e1, r1, s1⟩ := rc.getS hc
      obtain ⟨u, O3, nav, r2, s2⟩ := takeC_ok r1 hu
      exact ⟨u, O3, ⟨v1, ⟨p, vs, rfl, .inr (.of ep), ixN_atI rc.len.symm hk e1⟩, nav⟩, r2, (s2.trans s1).trans (List.sublist_cons_self _ _)⟩
    | _ => simp [takeC] at e
theorem takeC_ne : ∀ {js : List Int} {c : C} {cs : List C}, takeC js c = some (.ow cs) → c ≠ .no
  | [], _, _, h => by cases h; simp
  | _ :: _, .ow _, _, _ => by simp
  | _ :: _, .tp _, _, _ => by simp
  | _ :: _, .no, _, h => by simp [takeC] at h
  | _ :: _, .fz _, _, _ => by simp
  | _ :: _, .od _, _, _ => by simp
/-- the list at the end of a path is taken apart: the list with its items' values, the items -/
theorem All.apart {js : List Int} {v : V} {c : C} {cs : List C} {ps : List Pr} (al : All K F H ((some v, c) :: ps)) (e : takeC js c = some (.ow cs)) :
    ∃ a vs, NavV K H v js (.ref a) ∧ H a = some (.lst vs) ∧ vs.length = cs.length ∧ (∀ c ∈ cs, c ≠ .no) ∧ All K F H ((some (.ref a), .ow (Dn.obs vs)) :: (tmps vs cs ++ ps)) := by
  obtain ⟨O, r, nd, nf, dm⟩ := al
  cases r with
  | no r => exact absurd rfl (takeC_ne e)
  | @cons _ _ _ O1 O2 rc r =>
    obtain ⟨u, O3, nav, r2, sub⟩ := takeC_ok rc e
    cases r2 with
    | @ow a vs _ O4 ha rcs =>
      have hob : ∀ vs : List V, RepCs K F H vs (Dn.obs vs) [] := by
        intro vs
        induction vs with
        | nil => exact .nil
        | cons v vs ih => exact RepCs.cons (O := []) (.fz (.ob v)) ih
      have sub2 : ((a :: O4) ++ O2).Sublist (O1 ++ O2) := sub.append (List.Sublist.refl _)
      refine ⟨a, vs, nav, ha, rcs.len, rcs.ne, (a :: O4) ++ O2, ?_, sub2.nodup nd, fun b m => nf b (sub2.subset m), dm⟩
      have h1 : RepP K F H ((some (.ref a), .ow (Dn.obs vs)) :: (tmps vs cs ++ ps)) ([a] ++ (O4 ++ O2)) := .cons (.ow ha (hob vs)) (rcs.toP r)
      simpa using h1
end
/-- the loop over cells -/
def forC (put : C → Rho → Option Rho) (body : SM) : List C → SM
  | [], ρ => .nx ρ
  | c :: cs, ρ => match put c ρ with
    | none => .st
    | some ρ1 => match body ρ1 with
      | .nx ρ2 => forC put body cs ρ2
      | .ct ρ2 => forC put body cs ρ2
      | .bk ρ2 => .nx ρ2
      | r => r
def sForO (i : Nat) (js : List Int) (put : C → Rho → Option Rho) (body : SM) : SM := fun ρ => match ρ[i]? with
  | some c => match takeC js c with
    | some (.ow cs) => forC put body cs (ρ.set i .no)
    | _ => .st
  | none => .st
section
variable {X : Cx} {W : WX} {tg iter : Expr} {body : List Stmt} {pos : Pos} {l : List Nat} {put : C → Rho → Option Rho} {m : SM} {i : Nat}
theorem ds_forO (js : List Int) (hp : PassesOwn (model X.prog X.w) X.A X.env X.xe) (hi : PathE X iter i (js.map .c)) (hg : PG X tg (gOf X.K l put)) (hb : PSs X body (sOf X.K W m)) (hc : X.calm = true := by rfl)
    (hs : ∀ x, foldedSetIterable iter X.env x = pure x := by intro _; rfl) : PS X (.For tg iter body [] pos) (sOf X.K W (sForO i js put m)) := by
  obtain ⟨te, he, hq⟩ := hi.ex
  refine (ps_for hp hc (pi_list he) hg hb hs).imp fun D σ H ⟨F, ρ, τ, s, g⟩ => ?_
  unfold sForO at g
  split at g
  · rename_i c ec
    split at g
    · rename_i cs hcs
      obtain ⟨v, ev, s1⟩ := s.get ec (takeC_ne hcs)
      obtain ⟨a, vs, nav, ha, hl, hne, al⟩ := All.apart (ps := τ ++ σ.zip (ρ.set i .no)) s1.all hcs
      refine hq σ H _ v js (.ref a) ev (stpsS_c _ js) nav ⟨a, rfl, ⟨vs, .of ha⟩, ?_⟩
      refine ⟨fun n k σ H => k = cs.length - n ∧ n ≤ cs.length ∧ ∃ F ρ, Sta X.K F H σ ρ ((some (.ref a), .ow (Dn.obs vs)) :: (tmps (vs.drop n) (cs.drop n) ++ τ)) ∧ GoodS X.K W τ (forC put m (cs.drop n) ρ) D, ⟨_, rfl, Nat.zero_le _, F, _, .of s1.1 ?_, g⟩, ?_⟩
      · refine al.perm ?_
        simp only [List.drop_zero, List.cons_append, List.append_assoc]
        exact List.Perm.refl _
      · rintro n k σ H ⟨rfl, hn, F, ρ, s, q⟩
        have hH := s.obs
        by_cases hlt : n < cs.length
        · have hv : vs[n]? = some vs[n] := List.getElem?_eq_getElem (by omega)
          refine .inr ⟨⟨vs, vs[n], .of hH, hv⟩, fun σ' H' => ∃ F ρ, Sta X.K F H' σ' ρ ((some (.ref a), .ow (Dn.obs vs)) :: (tmps (vs.drop (n + 1)) (cs.drop (n + 1)) ++ τ)) ∧ GoodS X.K W τ (forC put m (cs.drop (n + 1)) ρ) D, fun σ' H' h => ⟨_, by omega, rfl, hlt, h⟩, fun x H' y => ?_⟩
          obtain ⟨rfl, y⟩ := y
          have := y vs (.of hH)
          rw [hv] at this
          cases this
          have e1 : tmps (vs.drop n) (cs.drop n) = (some vs[n], cs[n]) :: tmps (vs.drop (n + 1)) (cs.drop (n + 1)) := by
            rw [List.drop_eq_getElem_cons hlt, List.drop_eq_getElem_cons (show n < vs.length by omega)]
            rfl
          rw [e1] at s
          rw [List.drop_eq_getElem_cons hlt] at q
          unfold forC at q
          split at q
          · exact q.elim
          · rename_i ρ1 hp1
            refine ⟨F, ρ, _, _, ρ1, hne _ (List.getElem_mem hlt), s.swap, hp1, fun σ3 F3 H3 _ s3 => ⟨F3, ρ1, _, s3, ?_⟩⟩
            have dropRt : ∀ {v : V} {c : C} {F4 H4}, All X.K F4 H4 ((some v, c) :: ((some (.ref a), .ow (Dn.obs vs)) :: (tmps (vs.drop (n + 1)) (cs.drop (n + 1)) ++ τ))) → All X.K F4 H4 ((some v, c) :: τ) := by
              intro v c F4 H4 al
              have a3 := al.perm (show ((some v, c) :: ((some (.ref a), .ow (Dn.obs vs)) :: (tmps (vs.drop (n + 1)) (cs.drop (n + 1)) ++ τ))).Perm (((some (.ref a), .ow (Dn.obs vs)) :: tmps (vs.drop (n + 1)) (cs.drop (n + 1))) ++ ((some v, c) :: τ)) from List.perm_middle (l₁ := (some (.ref a), .ow (Dn.obs vs)) :: tmps (vs.drop (n + 1)) (cs.drop (n + 1)))|>.symm)
              exact a3.dropL
            split at q
            · rename_i ρ2 hm; rw [hm]; exact fun σ4 F4 H4 s4 => ⟨F4, ρ2, s4, q⟩
            · rename_i ρ2 hm; rw [hm]; exact fun σ4 F4 H4 s4 => ⟨F4, ρ2, s4, q⟩
            · rename_i ρ2 hm; rw [hm]; exact fun σ4 F4 H4 s4 => q σ4 F4 H4 s4.drop.dropL
            · rename_i r h1 h2 h3
              cases hr : m ρ1 with
              | nx ρ2 => exact absurd hr (h1 ρ2)
              | ct ρ2 => exact absurd hr (h2 ρ2)
              | bk ρ2 => exact absurd hr (h3 ρ2)
              | st => rw [hr] at q; exact q
              | er e ρ2 => rw [hr] at q; exact serP.dropL (q := (some (.ref a), .ow (Dn.obs vs)) :: tmps (vs.drop (n + 1)) (cs.drop (n + 1))) q
              | rt c =>
                rw [hr] at q
                exact fun v F4 H4 nc al => q v F4 H4 nc (dropRt al)
        · have e : n = cs.length := by omega
          subst e
          rw [List.drop_length] at q
          exact .inl ⟨⟨vs, .of hH, by omega⟩, q σ F H s.drop.dropL⟩
    · exact g.elim
  · exact g.elim
end
theorem forC_nil (put : C → Rho → Option Rho) (x : SM) (ρ : Rho) : forC put x [] ρ = .nx ρ := rfl
theorem forC_cons (put : C → Rho → Option Rho) (x : SM) (c : C) (cs : List C) (ρ : Rho) : forC put x (c :: cs) ρ = match put c ρ with
  | none => .st
  | some ρ1 => match x ρ1 with
    | .nx ρ2 => forC put x cs ρ2
    | .ct ρ2 => forC put x cs ρ2
    | .bk ρ2 => .nx ρ2
    | r => r := rfl
/-- a loop over cells whose state is what I says -/
theorem forC_inv {put : C → Rho → Option Rho} {x : SM} (I : Rho → Prop) (cs : List C) (step : ∀ c ρ, c ∈ cs → I ρ → ∃ ρ1 ρ2, put c ρ = some ρ1 ∧ (x ρ1 = .nx ρ2 ∨ x ρ1 = .ct ρ2) ∧ I ρ2) {ρ : Rho} (h : I ρ) : ∃ ρ', forC put x cs ρ = .nx ρ' ∧ I ρ' := by
  induction cs generalizing ρ with
  | nil => exact ⟨ρ, rfl, h⟩
  | cons c cs ih =>
    obtain ⟨ρ1, ρ2, h1, h2, h3⟩ := step c ρ List.mem_cons_self h
    obtain ⟨ρ', h4, h5⟩ := ih (fun c ρ m => step c ρ (List.mem_cons_of_mem _ m)) h3
    refine ⟨ρ', ?_, h5⟩
    rw [forC_cons, h1]
    rcases h2 with h2 | h2 <;> (simp only [h2]; exact h4)
end Dn

/-! Den24: a list handed to a def that writes into it. -/
namespace Dn
open PySem PySem.Spec PyProof.Rows L2
section
variable {K : PySem.W.Frag} {F : Addr → Prop} {H : Hp}
theorem All.plow {a : Addr} {cs : List C} {v : V} {ps : List Pr} (al : All K F H ((some v, .pl a cs) :: ps)) : v = .ref a ∧ All K F H ((some (.ref a), .ow cs) :: ps) := by
  obtain ⟨O, r, q⟩ := al
  cases r with
  | cons c r =>
    cases c with
    | pl e rc => exact ⟨rfl, _, .cons (.ow e rc) r, q⟩
theorem All.owpl {a : Addr} {cs : List C} {ps : List Pr} (al : All K F H ((some (.ref a), .ow cs) :: ps)) : All K F H ((some (.ref a), .pl a cs) :: ps) := by
  obtain ⟨O, r, q⟩ := al
  cases r with
  | cons c r =>
    cases c with
    | ow e rc => exact ⟨_, .cons (.pl e rc) r, q⟩
theorem All.wpGet {a : Addr} {cs : List C} {v : V} {c : C} {ps : List Pr} (al : All K F H ((some v, .wp c a cs) :: ps)) : c ≠ .no ∧ All K F H ((some v, c) :: (some (.ref a), .pl a cs) :: ps) := by
  obtain ⟨O, r, q⟩ := al
  cases r with
  | cons cc r =>
    cases cc with
    | wp rq e rc =>
      refine ⟨(by rintro rfl; cases rq), _, .cons rq (.cons (.pl e rc) r), ?_⟩
      rw [← List.append_assoc]
      exact q
theorem All.wpMk {a : Addr} {cs : List C} {v : V} {c : C} {ps : List Pr} (nc : c ≠ .no) (al : All K F H ((some v, c) :: (some (.ref a), .pl a cs) :: ps)) : All K F H ((some v, .wp c a cs) :: ps) := by
  obtain ⟨O, r, q⟩ := al
  cases r with
  | no r => exact absurd rfl nc
  | cons rq r =>
    cases r with
    | cons rp r =>
      cases rp with
      | pl e rc =>
        refine ⟨_, .cons (.wp rq e rc) r, ?_⟩
        rw [List.append_assoc]
        exact q
variable {σ : L2.St} {ρ : Rho} {τ : List Pr} {i : Nat}
theorem Sta.plow {a : Addr} {cs : List C} (s : Sta K F H σ ρ τ) (e : ρ[i]? = some (.pl a cs)) : σ[i]? = some (some (.ref a)) ∧ Sta K F H σ (ρ.set i (.ow cs)) τ := by
  obtain ⟨v, ev, s1⟩ := s.get e (by simp)
  obtain ⟨rfl, al⟩ := All.plow (ps := τ ++ σ.zip (ρ.set i .no)) s1.all
  refine ⟨ev, ?_⟩
  have s3 := (Sta.of (τ := (some (.ref a), .ow cs) :: τ) s1.1 al).back ev
  rwa [List.set_set] at s3
theorem Sta.owpl {a : Addr} {cs : List C} (s : Sta K F H σ ρ τ) (e : ρ[i]? = some (.ow cs)) (ea : σ[i]? = some (some (.ref a))) : Sta K F H σ (ρ.set i (.pl a cs)) τ := by
  obtain ⟨v, ev, s1⟩ := s.get e (by simp)
  rw [ea] at ev
  cases ev
  have al := All.owpl (ps := τ ++ σ.zip (ρ.set i .no)) s1.all
  have s3 := (Sta.of (τ := (some (.ref a), .pl a cs) :: τ) s1.1 al).back ea
  rwa [List.set_set] at s3
end
/-- an expression that looks at the pool as at a list of ours -/
def ePl (i : Nat) (m : M C) : M C := fun ρ => match ρ[i]? with
  | some (.pl a cs) => match m (ρ.set i (.ow cs)) with
    | .ok c ρ1 => match ρ1[i]? with
      | some (.ow cs') => .ok c (ρ1.set i (.pl a cs'))
      | _ => .st
    | _ => .st
  | _ => .st
/-- return, with the pool -/
def sRetP (i : Nat) (m : M C) : SM := fun ρ => (m ρ).thn fun c ρ => match ρ[i]? with
  | some (.pl a cs) => .rt (.wp c a cs)
  | _ => .st
/-- pool[k] = e -/
def sSetIxP (i : Nat) (mk me : M C) : SM := fun ρ => (me ρ).thn fun c ρ => if hasN ρ[i]? then (mk ρ).thn fun d ρ => match ρ[i]?, fzD d with
  | some (.pl a cs), .int j => match setF j cs c with
    | some cs' => .nx (ρ.set i (.pl a cs'))
    | none => .st
  | _, _ => .st
  else .st
open Classical in
/-- a call whose list is anywhere -/
noncomputable def callOw (μ : M C) (p : List C) (cs : List C) : Option (C × List C) :=
  if h : ∃ r : C × List C, ∀ a, ∃ ρ', μ (.pl a p :: cs) = .ok (.wp r.1 a r.2) ρ' then some (Classical.choose h) else none
theorem callOw_eq {μ : M C} {p cs : List C} {c : C} {p' : List C} (h : ∀ a, ∃ ρ', μ (.pl a p :: cs) = .ok (.wp c a p') ρ') : callOw μ p cs = some (c, p') := by
  have hx : ∃ r : C × List C, ∀ a, ∃ ρ', μ (.pl a p :: cs) = .ok (.wp r.1 a r.2) ρ' := ⟨(c, p'), h⟩
  unfold callOw
  rw [dif_pos hx]
  obtain ⟨ρ1, e1⟩ := Classical.choose_spec hx 0
  obtain ⟨ρ2, e2⟩ := h 0
  rw [e1] at e2
  cases e2
  rfl
theorem callOw_sp {μ : M C} {p cs : List C} {c : C} {p' : List C} (h : callOw μ p cs = some (c, p')) (a : Addr) : ∃ ρ', μ (.pl a p :: cs) = .ok (.wp c a p') ρ' := by
  unfold callOw at h
  split at h
  · rename_i hx
    have := Classical.choose_spec hx a
    have e := Option.some.inj h
    rw [e] at this
    exact this
  · cases h
noncomputable def eCallP (μ : M C) (i : Nat) (m : M (List C)) : M C := fun ρ => if hasN ρ[i]? then (m ρ).bind fun cs ρ => match ρ[i]? with
  | some (.pl a p) => match μ (.pl a p :: cs) with
    | .ok (.wp c a' p') _ => if a' = a then .ok c (ρ.set i (.pl a p')) else .st
    | _ => .st
  | some (.ow p) => match callOw μ p cs with
    | some (c, p') => .ok c (ρ.set i (.ow p'))
    | none => .st
  | _ => .st
  else .st
section
variable {X : Cx} {W : WX} {cx : CXT} {k n : Nat} {f : Addr} {fd : FuncData} {ps : List Str} {μ : M C} {x y : Str} {p q pos apos : Pos} {e : Expr} {es : List Expr} {m : M C} {ma : M (List C)} {i : Nat}
theorem d_pl (i : Nat) (h : PE X e (tOf X.K W m)) : PE X e (tOf X.K W (ePl i m)) := h.imp fun σ H Q ⟨F, ρ, τ, s, g⟩ => by
  unfold ePl at g
  split at g
  · rename_i a cs ec
    obtain ⟨ev, s1⟩ := s.plow ec
    refine ⟨F, _, τ, s1, ?_⟩
    split at g
    · rename_i c ρ1 hm
      rw [hm]
      split at g
      · rename_i cs' ec'
        exact fun v F' H' nc s2 => g v F' H' nc (s2.owpl ec' ev)
      · exact g.elim
    · exact g.elim
  · exact g.elim
theorem ds_retP (i : Nat) (h : PE X e (tOf X.K W m)) : PS X (.Return (some e) pos) (sOf X.K W (sRetP i m)) := (ps_ret h).imp fun D σ H ⟨F, ρ, τ, s, g⟩ =>
  runC s ((GoodS.thn g).imp (fun c ρ1 q v F1 H1 nc s1 => by
    split at q
    · rename_i a cs ec
      obtain ⟨v', ev, s2⟩ := s1.get ec (by simp)
      have al2 : All X.K F1 H1 ((some v', .pl a cs) :: (((some v, c) :: τ) ++ σ.zip (ρ1.set i .no))) := s2.all
      obtain ⟨rfl, al3⟩ := al2.plow
      have al4 := al3.owpl
      have al5 : All X.K F1 H1 ((some v, c) :: (some (.ref a), .pl a cs) :: (τ ++ σ.zip (ρ1.set i .no))) := al4.perm (.swap _ _ _)
      have al6 := al5.wpMk nc
      refine q v F1 H1 (by simp) ?_
      have al7 : All X.K F1 H1 (((some v, .wp c a cs) :: τ) ++ σ.zip (ρ1.set i .no)) := al6
      exact (al7.perm List.perm_append_comm).dropL
    · exact q.elim) fun _ _ q => q)
theorem ds_setIxP (i : Nat) {x : Str} {k : Expr} {mk : M C} (hk : PE X k (tOf X.K W mk)) (he : PE X e (tOf X.K W m)) (hN : X.N[i]? = some x := by rfl) (hv : Vis X.env.scope x := by first | exact Or.inl rfl | exact Or.inr (Or.inl rfl) | exact Or.inr (Or.inr rfl)) (hd : (x == ("__debug__" : Str)) = false := by decide)
    (hcd : (x == ("__classdict__" : Str)) = false := by decide)
    (hs : swapsWithSole [.Subscript (.Name x p) k apos] e pos.line X.env = pure false := by rfl) (hw : swappedStores [.Subscript (.Name x p) k apos] e X.env = pure none := by rfl)
    (h1 : (assignEach [.Subscript (.Name x p) k apos] X.env).map (·.2) = [assign (.Subscript (.Name x p) k apos) X.env] := by rfl)
    (ha : ∀ v, assign (.Subscript (.Name x p) k apos) X.env v = (do let ov ← holding [v] (eval (.Name x p) X.env); let iv ← holding [v, ov] (eval k X.env); standAt apos; holding [v, ov, iv] (setItem ov iv v); release [v, ov, iv] []) := by intro _; rfl) :
    PS X (.Assign [.Subscript (.Name x p) k apos] e pos) (sOf X.K W (sSetIxP i mk m)) :=
  (ps_asg he (pg_sub (pe_var hN hv hd hcd) hk set_list ha) hs hw h1).imp fun D σ H ⟨F, ρ, τ, s, g⟩ => by
    refine run1 s ((GoodS.thn g).imp (fun c ρ1 q v F1 H1 s1 => ?_) fun _ _ q => q)
    split at q
    · rename_i ho
      obtain ⟨av, ev⟩ := s1.has ho
      refine ⟨av, ev, run1 s1 ((GoodS.thn q).imp (fun d ρ2 q w F2 H2 s2 => ?_) fun _ _ q => q.drop)⟩
      split at q
      · rename_i a cs j ec ej
        split at q
        · rename_i cs' hf
          rw [ej] at s2
          unfold setF at hf
          rw [Option.map_eq_some_iff] at hf
          obtain ⟨kk, hkk, rfl⟩ := hf
          obtain ⟨ev', s2'⟩ := s2.plow ec
          rw [ev] at ev'
          cases ev'
          have hlt : i < ρ2.length := (List.getElem?_eq_some_iff.mp ec).1
          obtain ⟨v'', ev'', s3⟩ := s2'.get (i := i) (c := .ow cs) (List.getElem?_set_self hlt) (by simp)
          rw [ev] at ev''
          cases ev''
          rw [List.set_set] at s3
          obtain ⟨a', ws, O, e1, hw', rc⟩ := s3.owOf
          cases e1
          refine ⟨a, ws, j, kk, rfl, s2.fzOf.intv, hw', by rw [rc.len]; exact hkk, ?_⟩
          have s4 : Sta X.K F2 H2 σ (ρ2.set i .no) ((some (.ref a), .ow cs) :: (some v, .fz (fzD c)) :: τ) := s3.swap.drop
          have rv : Rep X.K F2 H2 v (fzD c) := s4.drop.fzOf
          have s5 : Sta X.K F2 (upd H2 a (.lst (ws.set kk v))) σ (ρ2.set i .no) ((some (.ref a), .ow (cs.set kk (.fz (fzD c)))) :: τ) := s4.on fun l al => by
            refine All.write (qs := [(some v, .fz (fzD c))]) al fun ws' O O1 hws rcs rp => ?_
            rw [hw'] at hws
            cases hws
            obtain ⟨O2, q2, h2⟩ := RepCs.set rv kk rcs
            exact ⟨O2, q2, h2.trans (by simp)⟩
          have s6 := s5.back ev
          rw [List.set_set] at s6
          have s7 := s6.owpl (i := i) (List.getElem?_set_self hlt) ev
          rw [List.set_set] at s7
          exact q σ F2 _ s7
        · exact q.elim
      · exact q.elim
    · exact q.elim
theorem d_callP (i : Nat) (G : FnG X.prog X.w X.K X.mg X.base cx k f fd ps (spF X.K (n + 1) μ)) (hr : Room k X.A) (hgd : X.A.guards = some []) (hm : X.mg x = some (.ref f)) (hk : PySem.W.keepIn X.K (.ref f) = true) (hb : Binds X.K fd ps []) (hx : ∀ σ, PassesAt cx X σ (WE W σ))
    (ha : PA X es (aOf X.K W ma)) (hl : lenIs n ma) (hN : X.N[i]? = some y := by rfl) (hv : Vis X.env.scope y := by first | exact Or.inl rfl | exact Or.inr (Or.inl rfl) | exact Or.inr (Or.inr rfl)) (hd : (y == ("__debug__" : Str)) = false := by decide)
    (hcd : (y == ("__classdict__" : Str)) = false := by decide) (hg : Gl X x := by rfl) (hdb : (x == ("__debug__" : Str)) = false := by decide) (he : starEach (.Name y q :: es) X.env = (false, eval (.Name y q) X.env) :: starEach es X.env := by rfl)
    (hpl : (backTo pos (starEach es X.env)).any (·.1) = false := by rfl) : PE X (.Call (.Name x p) (.Name y q :: es) [] pos) (tOf X.K W (eCallP μ i ma)) := (pe_go G hr hgd hg hm hk hb hx (pa_cons (pe_var hN hv hd hcd) ha he) hdb he hpl).imp fun σ H Q ⟨F, ρ, τ, s, g⟩ => by
  unfold eCallP at g
  split at g
  · rename_i hn
    obtain ⟨v, ev⟩ := s.has hn
    refine ⟨v, ev, ?_⟩
    rw [Good.bind] at g
    refine runA s ((Good.len hl g).imp (fun cs ρ1 q vs F1 H1 h1 h2 s1 => ?_) fun _ _ q => q)
    obtain ⟨q0, q⟩ := q
    have fin : ∀ {a : Addr} {pp : List C}, (∃ z, ρ1[i]? = some z) → σ[i]? = some (some (.ref a)) → Sta X.K F1 H1 σ (ρ1.set i .no) ((some (.ref a), .pl a pp) :: (tmps vs cs ++ τ)) → (∃ c p' ρ', μ (.pl a pp :: cs) = .ok (.wp c a p') ρ' ∧
        ∀ v' F' H', c ≠ .no → Sta X.K F' H' σ (ρ1.set i (.pl a p')) ((some v', c) :: τ) → Q v' H') → spF X.K (n + 1) μ (.ref a :: vs) H1 Q (WE W σ) := by
      rintro a pp ⟨z, hz⟩ ea s2 ⟨c, p', ρ', hμ, hq⟩
      refine ⟨by simp [h1, q0], F1, τ ++ σ.zip (ρ1.set i .no), .pl a pp :: cs, by simp [h1], fun c m => ?_, ?_, ?_⟩
      · rcases List.mem_cons.mp m with rfl | m
        · simp
        · exact h2 c m
      · have := s2.all
        rw [List.cons_append, List.append_assoc] at this
        exact this
      · rw [hμ]
        intro v' F' H' _ al
        obtain ⟨nc, al2⟩ := al.wpGet
        refine hq v' F' H' nc ?_
        have s3 : Sta X.K F' H' σ (ρ1.set i .no) ((some (.ref a), .pl a p') :: (some v', c) :: τ) := .of s2.1 (al2.perm (.swap _ _ _))
        have s4 := s3.back ea
        rwa [List.set_set] at s4
    split at q
    · rename_i a pp ec
      split at q
      · rename_i c a' p' ρ' hμ
        split at q
        · rename_i haa
          subst haa
          obtain ⟨v2, ev2, s2⟩ := s1.get ec (by simp)
          rw [ev] at ev2
          cases ev2
          obtain ⟨rfl, _⟩ := All.plow (ps := (tmps vs cs ++ τ) ++ σ.zip (ρ1.set i .no)) s2.all
          exact fin ⟨_, ec⟩ ev s2 ⟨c, p', ρ', hμ, fun v' F' H' nc s3 => q v' F' H' nc s3⟩
        · exact q.elim
      · exact q.elim
    · rename_i pp ec
      split at q
      · rename_i c p' hc
        obtain ⟨v2, ev2, s2⟩ := s1.get ec (by simp)
        rw [ev] at ev2
        cases ev2
        obtain ⟨a, ws, O, rfl, _, _⟩ := s2.owOf
        obtain ⟨ρ', hμ⟩ := callOw_sp hc a
        have s3 : Sta X.K F1 H1 σ (ρ1.set i .no) ((some (.ref a), .pl a pp) :: (tmps vs cs ++ τ)) := .of s2.1 (All.owpl (ps := (tmps vs cs ++ τ) ++ σ.zip (ρ1.set i .no)) s2.all)
        refine fin ⟨_, ec⟩ ev s3 ⟨c, p', ρ', hμ, fun v' F' H' nc s4 => ?_⟩
        have hlt : i < ρ1.length := (List.getElem?_eq_some_iff.mp ec).1
        have s5 := (s4.plow (i := i) (List.getElem?_set_self hlt)).2
        rw [List.set_set] at s5
        exact q v' F' H' nc s5
      · exact q.elim
    · exact q.elim
  · exact g.elim
end
section
variable (ρ : Rho) (i : Nat) (m n : M C)
@[simp] theorem ePl_ap : ePl i m ρ = match ρ[i]? with
  | some (.pl a cs) => match m (ρ.set i (.ow cs)) with
    | .ok c ρ1 => match ρ1[i]? with
      | some (.ow cs') => .ok c (ρ1.set i (.pl a cs'))
      | _ => .st
    | _ => .st
  | _ => .st := rfl
@[simp] theorem sRetP_ap : sRetP i m ρ = (m ρ).thn fun c ρ => match ρ[i]? with
  | some (.pl a cs) => .rt (.wp c a cs)
  | _ => .st := rfl
@[simp] theorem sSetIxP_ap : sSetIxP i m n ρ = (n ρ).thn fun c ρ => if hasN ρ[i]? then (m ρ).thn fun d ρ => match ρ[i]?, fzD d with
  | some (.pl a cs), .int j => match setF j cs c with
    | some cs' => .nx (ρ.set i (.pl a cs'))
    | none => .st
  | _, _ => .st
  else .st := rfl
@[simp] theorem eCallP_ap (μ : M C) (r : M (List C)) : eCallP μ i r ρ = if hasN ρ[i]? then (r ρ).bind fun cs ρ => match ρ[i]? with
  | some (.pl a p) => match μ (.pl a p :: cs) with
    | .ok (.wp c a' p') _ => if a' = a then .ok c (ρ.set i (.pl a p')) else .st
    | _ => .st
  | some (.ow p) => match callOw μ p cs with
    | some (c, p') => .ok c (ρ.set i (.ow p'))
    | none => .st
  | _ => .st
  else .st := rfl
@[simp] theorem sForO_ap (js : List Int) (put : C → Rho → Option Rho) (b : SM) : sForO i js put b ρ = match ρ[i]? with
  | some c => match takeC js c with
    | some (.ow cs) => forC put b cs (ρ.set i .no)
    | _ => .st
  | none => .st := rfl
@[simp] theorem takeC_nil (c : C) : takeC [] c = some c := by simp [takeC]
@[simp] theorem hasN_pl (a : Addr) (d : List C) : hasN (some (.pl a d)) = true := rfl
@[simp] theorem isOw_pl (a : Addr) (d : List C) : isOw (some (.pl a d)) = false := rfl
end
end Dn

/-! Den25: d[k] = e, an own dict. -/
namespace Dn
open PySem PySem.Spec PyProof.Rows L2
section
variable {X : Cx} {W : WX} {pos apos p : Pos} {e : Expr} {m : M C}
def isOd (c : Option C) : Bool := match c with
  | some (.od _) => true
  | _ => false
def putD (kvs : List (Key × D)) (k : Key) (v : D) : List (Key × D) :=
  if (kvs.any fun kv => decide (kv.1 = k)) = true then kvs.map (fun kv => if kv.1 = k then (kv.1, v) else kv) else kvs ++ [(k, v)]
def sSetK (i : Nat) (mk me : M C) : SM := fun ρ => (me ρ).thn fun c ρ => if isOd ρ[i]? then (mk ρ).thn fun d ρ => match ρ[i]?, keyD (fzD d) with
  | some (.od kvs), some k => if kvs.length ≤ 1000 then .nx (ρ.set i (.od (putD kvs k (fzD c)))) else .st
  | _, _ => .st
  else .st
theorem RepK.len {K : PySem.W.Frag} {F : Addr → Prop} {H : Hp} : ∀ {vs : List (Key × V)} {kvs : List (Key × D)}, RepK K F H vs kvs → vs.length = kvs.length
  | _, _, .nil => rfl
  | _, _, .cons _ rs => by simp [RepK.len rs]
theorem RepK.any {K : PySem.W.Frag} {F : Addr → Prop} {H : Hp} {k : Key} : ∀ {vs : List (Key × V)} {kvs : List (Key × D)}, RepK K F H vs kvs → (vs.any fun kv => decide (kv.1 = k)) = kvs.any fun kv => decide (kv.1 = k)
  | _, _, .nil => rfl
  | _, _, .cons _ rs => by simp [RepK.any (k := k) rs]
theorem RepK.app {K : PySem.W.Frag} {F : Addr → Prop} {H : Hp} : ∀ {vs ws : List (Key × V)} {kvs kws : List (Key × D)}, RepK K F H vs kvs → RepK K F H ws kws → RepK K F H (vs ++ ws) (kvs ++ kws)
  | _, _, _, _, .nil, q => q
  | _, _, _, _, .cons r rs, q => .cons r (RepK.app rs q)
theorem RepK.upd1 {K : PySem.W.Frag} {F : Addr → Prop} {H : Hp} {k : Key} {v : V} {d : D} (rv : Rep K F H v d) : ∀ {vs : List (Key × V)} {kvs : List (Key × D)}, RepK K F H vs kvs → RepK K F H (vs.map fun kv => if kv.1 = k then (kv.1, v) else kv) (kvs.map fun kv => if kv.1 = k then (kv.1, d) else kv)
  | _, _, .nil => .nil
  | _, _, .cons (k := k') r rs => by
    simp only [List.map_cons]
    by_cases e : k' = k
    · rw [if_pos e, if_pos e]; exact .cons rv (RepK.upd1 rv rs)
    · rw [if_neg e, if_neg e]; exact .cons r (RepK.upd1 rv rs)
theorem RepK.put {K : PySem.W.Frag} {F : Addr → Prop} {H : Hp} {k : Key} {v : V} {d : D} (rv : Rep K F H v d) {vs : List (Key × V)} {kvs : List (Key × D)} (r : RepK K F H vs kvs) : RepK K F H (putK vs k v) (putD kvs k d) := by
  unfold putK putD
  rw [r.any]
  split
  · exact RepK.upd1 rv r
  · exact r.app (.cons rv .nil)
theorem Sta.odGet {K : PySem.W.Frag} {F : Addr → Prop} {H : Hp} {σ : L2.St} {ρ : Rho} {τ : List Pr} {v : V} {kvs : List (Key × D)} (s : Sta K F H σ ρ ((some v, .od kvs) :: τ)) : ∃ a vs, v = .ref a ∧ H a = some (.dK vs) ∧ RepK K F H vs kvs := by
  obtain ⟨O, r, _⟩ := s.all
  cases r with
  | cons c _ =>
    cases c with
    | od e r => exact ⟨_, _, rfl, e, r⟩
theorem Sta.isOd {K : PySem.W.Frag} {F : Addr → Prop} {H : Hp} {σ : L2.St} {ρ : Rho} {τ : List Pr} {i : Nat} (s : Sta K F H σ ρ τ) (h : isOd ρ[i]? = true) : ∃ a, σ[i]? = some (some (.ref a)) := by
  cases e : ρ[i]? with
  | none => rw [e] at h; cases h
  | some c =>
    rw [e] at h
    cases c <;> simp only [Dn.isOd, Bool.false_eq_true] at h
    obtain ⟨v, ev, s2⟩ := s.get e (by simp)
    obtain ⟨a, vs, rfl, _⟩ := s2.odGet
    exact ⟨a, ev⟩
theorem Sta.odPut {K : PySem.W.Frag} {F : Addr → Prop} {H : Hp} {σ : L2.St} {ρ : Rho} {τ : List Pr} {a : Addr} {vs : List (Key × V)} {kvs : List (Key × D)} {k : Key} {v : V} {d : D} (s : Sta K F H σ ρ ((some (.ref a), .od kvs) :: (some v, .fz d) :: τ)) (e : H a = some (.dK vs)) :
    Sta K F (L2.upd H a (.dK (putK vs k v))) σ ρ ((some (.ref a), .od (putD kvs k d)) :: τ) := by
  refine s.on fun l ⟨O, r, nd, nf, dm⟩ => ?_
  cases r with
  | cons c r =>
    cases c with
    | od e' rk =>
      rw [e] at e'
      cases e'
      cases r with
      | cons c2 r =>
        cases c2 with
        | fz rv =>
          simp only [List.nil_append] at nd nf
          have hne : ∀ b, F b → b ≠ a := fun b f z => nf a List.mem_cons_self (z ▸ f)
          have nd' := List.nodup_cons.mp nd
          refine ⟨_, .cons (.od upd_same (RepK.mono (fun _ f => f) (fun b f => upd_ne (hne b f)) (RepK.put (k := k) rv rk))) (RepP.mono (fun _ f => f) (fun b f => upd_ne (hne b f)) r fun b m => upd_ne fun z => nd'.1 (z ▸ m)), nd, nf, fun b f => ?_⟩
          rw [upd_ne (hne b f)]
          exact dm b f
theorem ds_setK (i : Nat) {x : Str} {k : Expr} {mk : M C} (hu : X.A.units + 1 < cLine) (hk : PE X k (tOf X.K W mk)) (he : PE X e (tOf X.K W m)) (hN : X.N[i]? = some x := by rfl) (hv : Vis X.env.scope x := by first | exact Or.inl rfl | exact Or.inr (Or.inl rfl) | exact Or.inr (Or.inr rfl)) (hd : (x == ("__debug__" : Str)) = false := by decide)
    (hcd : (x == ("__classdict__" : Str)) = false := by decide)
    (hs : swapsWith e (some (.Subscript (.Name x p) k apos)) pos.line X.env = pure false := by rfl) :
    PS X (.Assign [.Subscript (.Name x p) k apos] e pos) (sOf X.K W (sSetK i mk m)) :=
  (ps_dput hu (pe_var hN hv hd hcd) hk he hs).imp fun D σ H ⟨F, ρ, τ, s, g⟩ => by
    refine run1 s ((GoodS.thn g).imp (fun c ρ1 q v F1 H1 s1 => ?_) fun _ _ q => q)
    split at q
    · rename_i ho
      obtain ⟨a, ev⟩ := s1.isOd ho
      refine ⟨.ref a, ev, run1 s1 ((GoodS.thn q).imp (fun d ρ2 q w F2 H2 s2 => ?_) fun _ _ q => q.drop)⟩
      split at q
      · rename_i kvs k' ec ek
        split at q
        · rename_i hl
          obtain ⟨v', ev', s3⟩ := s2.get ec (by simp)
          rw [ev] at ev'
          cases ev'
          obtain ⟨a', ws, e1, hw', rk⟩ := s3.odGet
          cases e1
          have hkey := s2.fzOf.key ek
          have s4 : Sta X.K F2 H2 σ (ρ2.set i .no) ((some (.ref a), .od kvs) :: (some v, .fz (fzD c)) :: τ) := s3.swap.drop
          subst hkey
          refine ⟨a, _, rfl, DPut.k hw' (Nat.lt_of_le_of_lt (by rw [rk.len]; exact hl) (by decide)), ?_⟩
          have s5 := s4.odPut (k := k') hw'
          have s6 := s5.back ev
          rw [List.set_set] at s6
          exact q σ F2 _ s6
        · exact q.elim
      · exact q.elim
    · exact q.elim
end
@[simp] theorem isOd_od (kvs : List (Key × D)) : isOd (some (.od kvs)) = true := rfl
@[simp] theorem sSetK_ap (i : Nat) (mk me : M C) (ρ : Rho) : sSetK i mk me ρ = (me ρ).thn fun c ρ => if isOd ρ[i]? then (mk ρ).thn fun d ρ => match ρ[i]?, keyD (fzD d) with
  | some (.od kvs), some k => if kvs.length ≤ 1000 then .nx (ρ.set i (.od (putD kvs k (fzD c)))) else .st
  | _, _ => .st
  else .st := rfl
end Dn

/-! Den26: try: .. except A as n: .. except B: .. -/
namespace Dn
open PySem PySem.Spec PyProof.Rows L2 PySem.ExD
section
variable {X : Cx} {x y n : Str} {cA cB : Value} {i : Nat} {bd r1 r2 : List Stmt} {h1 h2 : Stmt} {xp yp q1 q2 tp : Pos} {tb : WX → TS} {tA tB : Addr → Value → Option Addr → TS} {Wo : WX}
/-- the wishes of both clauses -/
def wTwo (K : PySem.W.Frag) (cA : Value) (i : Nat) (tA : Addr → Value → Option Addr → TS) (cB : Value) (tB : Addr → Value → Option Addr → TS) (Wo : WX) (D : Ends) : WX :=
  wAs K cA i tA (wMany K Wo D [(cB, tB)]) D
theorem ps_two (stk : X.stack = X.env :: X.outer) (frm : X.env.frame = some X.env.locals) (nod : X.N.Nodup) (slot : X.N[i]? = some n) (loc : X.env.kindOf n = some .local) (nA : Names X x cA) (nB : Names X y cB) (tk : Takes X Wo)
    (body : ∀ (W : WX) (pn : List (Addr × Obj)) (xe : Value → Shared → Prop), Takes (X.tr pn xe) W → PassesOwn (model X.prog X.w) X.A X.env xe → PSs (X.tr pn xe) bd (tb W))
    (suA : ∀ (a : Addr) (ob : Obj) (k : Value) (d : Option Addr) (pn : List (Addr × Obj)), Zc k d ob → (∃ vs, ob.data = .fields vs) → PSs (X.suite a ((a, ob) :: pn)) (h1 :: r1) (tA a k d))
    (suB : ∀ (a : Addr) (ob : Obj) (k : Value) (d : Option Addr) (pn : List (Addr × Obj)), Zc k d ob → (∃ vs, ob.data = .fields vs) → PSs (X.suite a ((a, ob) :: pn)) (h2 :: r2) (tB a k d)) :
    PS X (.Try bd [.ExceptHandler (some (.Name x xp)) (some n) (h1 :: r1) q1, .ExceptHandler (some (.Name y yp)) none (h2 :: r2) q2] [] [] tp) (fun D σ H => tb (wTwo X.K cA i tA cB tB Wo D) D σ H) := by
  refine ⟨fun pins s σ H D inv run => ?_⟩
  have okk := inv.ok
  have frs' : X.A.frames = some (X.env :: X.outer) := by
    rw [okk.frames, stk]
  refine wpAny_Try_except ?_
  refine wpAny_mono ((body (wTwo X.K cA i tA cB tB Wo D) (X.pn ++ pins) _ (fun u s' caught => ?_) PassesOwn.looking).run [] s σ H D (inv.toTry _) run) (fun f sf qf => ?_) (fun e se he => he)
  · obtain ⟨a, B, sI, pins', τ, G, k, d, rfl, inner, nb, up, sk, nap, os, ag, wish⟩ := caught
    have invT : Inv X pins τ G sI := inner.ofTry okk
    rw [stk] at sk
    show wpAny (model X.prog X.w) X.A (noteFrame (.ref a) X.env) _ _ _
    refine Sky.land Zc.steady frs' frm sk fun g3 fl up3 => ?_
    have inv3 : Inv X pins τ G { s' with heap := g3 } := invT.landed nb fl.1 (up.trans up3) os ag
    obtain ⟨ob, vs, get, zc, fields⟩ := fl.there
    have away : a ∉ frs (X.env :: X.outer) := fun hm => by
      obtain ⟨_, o', e', no⟩ := fl.2.2.1.mem hm
      rw [get] at e'
      cases e'
      exact no _ fields
    have aLoc : a ≠ X.env.locals := fun z => away (List.mem_filterMap.mpr ⟨X.env, .head _, by rw [frm, z]⟩)
    have aFs : a ∉ X.fs := fun hm => by
      obtain ⟨e, me, qe⟩ := List.mem_filterMap.mp hm
      exact away (List.mem_filterMap.mpr ⟨e, .tail _ me, qe⟩)
    have invS := inv3.suite get fields nap aLoc aFs
    have looks : PySem.W.Looks (model X.prog X.w) g3 (typeOf (.ref a)) k := fun A Q E s kk q => wpAny_typeOf_ref (kk _ _ get) (by
      rw [zc.1]
      exact q)
    have nameOf : ∀ {z : Str} {zp : Pos} {c : Value} {Q E : Value → Shared → Prop}, Names X z c → Q c { s' with heap := g3 } → wpAny (model X.prog X.w) (X.A.mark (some (.ref a))) (eval (.Name z zp) X.env) Q E { s' with heap := g3 } := fun {z zp c Q E} nz q => by
      obtain ⟨gl, dbg, own | ⟨free, blt, other⟩⟩ := nz
      · exact ld_glob (X := X.suite a ((a, ob) :: (X.pn ++ pins))) invS gl own q dbg
      · exact ld_blt (X := X.suite a ((a, ob) :: (X.pn ++ pins))) invS gl free blt q other dbg
    obtain ⟨b, isA, yesA, noA⟩ := wish
    refine wpAny_handleBy_cons (codeAny_handlers_test ?_) (by intro q; cases q)
    refine nameOf nA ((PySem.W.exm_one (M := model X.prog X.w) inv3.kIn looks isA).here ?_)
    cases b with
    | true =>
      refine codeAny_handlers_suite_as ?_
      refine HandSPX.lands_againZ fl fun g4 fl4 up4 => ?_
      have inv4 : Inv X pins τ G { s' with heap := g4 } := invT.landed nb fl4.1 ((up.trans up3).trans up4) os ag
      obtain ⟨ob4, vs4, get4, zc4, fields4⟩ := fl4.there
      have invS4 := inv4.suite get4 fields4 nap aLoc aFs
      refine store_ok (X := X.suite a ((a, ob4) :: (X.pn ++ pins))) (v := .ref a) invS4 nod slot (.inl loc) rfl (fun s5 inv5 => ?_) (.inr loc)
      refine wpAny_mono ((suA a ob4 k d (X.pn ++ pins) zc4 ⟨_, fields4⟩).run [] s5 _ G _ inv5 (yesA rfl a nap)) (fun f s6 end6 => ?_) (fun _ _ z => False.elim z)
      have gone : ∀ {σ6 : L2.St} {H6 : Hp} {Q : Shared → Prop}, Inv (X.suite a ((a, ob4) :: (X.pn ++ pins))) [] σ6 H6 s6 → (∀ s7, Inv X pins (σ6.set i none) H6 s7 → Q s7) →
          wpAny (model X.prog X.w) X.A (do bindName X.env n .none; unbindBehindTheSuite X.env n q1) (fun _ s7 => Q s7) X.xe s6 := fun inv6 goal => gone_ok (inv6.unsuite okk) nod slot loc goal
      cases f with
      | ret u =>
        obtain ⟨v, σ6, H6, inv6, rv, qv⟩ := end6
        exact gone inv6 fun s7 inv7 => ⟨v, _, H6, inv7, rv, qv⟩
      | next =>
        obtain ⟨σ6, H6, inv6, qn⟩ := end6
        exact gone inv6 fun s7 inv7 => ⟨_, H6, inv7, qn⟩
      | brk =>
        obtain ⟨σ6, H6, inv6, qn⟩ := end6
        exact gone inv6 fun s7 inv7 => ⟨_, H6, inv7, qn⟩
      | cont =>
        obtain ⟨σ6, H6, inv6, qn⟩ := end6
        exact gone inv6 fun s7 inv7 => ⟨_, H6, inv7, qn⟩
    | false =>
      obtain ⟨b2, isB, yesB, noB⟩ := noA rfl
      show wpAny _ X.A (handleBy (.ref a) X.env [_]) _ _ _
      refine wpAny_handleBy_cons (codeAny_handlers_test ?_) (by intro q; cases q)
      refine nameOf nB ((PySem.W.exm_one (M := model X.prog X.w) inv3.kIn looks isB).here ?_)
      cases b2 with
      | true =>
        refine codeAny_handlers_suite ?_
        refine HandSPX.lands_againZ fl fun g4 fl4 up4 => ?_
        have inv4 : Inv X pins τ G { s' with heap := g4 } := invT.landed nb fl4.1 ((up.trans up3).trans up4) os ag
        obtain ⟨ob4, vs4, get4, zc4, fields4⟩ := fl4.there
        refine wpAny_mono ((suB a ob4 k d (X.pn ++ pins) zc4 ⟨_, fields4⟩).run [] _ _ G _ (inv4.suite get4 fields4 nap aLoc aFs) (yesB rfl a nap)) (fun f s6 end6 => ?_) (fun _ _ z => False.elim z)
        cases f with
        | ret u =>
          obtain ⟨v, σ6, H6, inv6, rv, qv⟩ := end6
          exact ⟨v, σ6, H6, inv6.unsuite okk, rv, qv⟩
        | next =>
          obtain ⟨σ6, H6, inv6, qn⟩ := end6
          exact ⟨σ6, H6, inv6.unsuite okk, qn⟩
        | brk =>
          obtain ⟨σ6, H6, inv6, qn⟩ := end6
          exact ⟨σ6, H6, inv6.unsuite okk, qn⟩
        | cont =>
          obtain ⟨σ6, H6, inv6, qn⟩ := end6
          exact ⟨σ6, H6, inv6.unsuite okk, qn⟩
      | false =>
        show wpAny _ X.A (handleBy (.ref a) X.env []) _ _ _
        refine wpAny_handleBy_nil ?_
        have fl' := fl
        obtain ⟨_, _, _, oe, us, T, oT, ts, get', _, flds, hT, _⟩ := fl'
        unfold PySem.passOn
        refine wpAny_bind (wpAny_field get' flds hT ?_)
        rw [if_neg (show ¬ ((Value.ref T == Value.none) = true) by simp)]
        have up2 : wpAny (model X.prog X.w) X.A (setFlight (.ref a) X.env.frame) (fun _ s4 => wpAny (model X.prog X.w) X.A (throw (.ref a) : Sem Flow) (SP X pins D) X.xe s4) X.xe { s' with heap := g3 } := by
          rw [frm]
          refine HandSPX.setFlight_upZ fl fun g4 sky4 up4 => wpAny_throw (tk _ _ ?_)
          exact ⟨a, B, sI, pins, τ, G, k, d, rfl, invT, nb, (up.trans up3).trans up4, .inr (.inr (by rw [stk]; exact sky4)), nap, os, ag, noB rfl⟩
        first
          | exact wpAny_bind (wpAny_pure (wpAny_bind up2))
          | exact wpAny_bind up2
  · cases f with
    | next =>
      obtain ⟨τ, G, invE, q⟩ := qf
      exact wpAny_execs_nil ⟨τ, G, invE.ofTry okk, q⟩
    | ret u =>
      obtain ⟨v, τ, G, invE, rv, q⟩ := qf
      exact ⟨v, τ, G, invE.ofTry okk, rv, q⟩
    | brk =>
      obtain ⟨τ, G, invE, q⟩ := qf
      exact ⟨τ, G, invE.ofTry okk, q⟩
    | cont =>
      obtain ⟨τ, G, invE, q⟩ := qf
      exact ⟨τ, G, invE.ofTry okk, q⟩
end
end Dn

/-! Den27: two except clauses in our layer; a suite that returns a tuple with a field of the error. -/
namespace Dn
open PySem PySem.Spec PyProof.Rows L2 PySem.ExD
/-- what a suite without a name is asked -/
def tsC (K : PySem.W.Frag) (isc : Str → Option Bool) (su : Er → Option D) : Addr → Value → Option Addr → TS := fun a cls d D σ H =>
  ∃ e F ρ τ z, ErOk K F H e cls d ∧ Sta K F H σ ρ τ ∧ isc e.cls = some true ∧ su e = some z ∧ ∀ v F' H', All K F' H' ((some v, .fz z) :: τ) → D.rt v H'
def sTry2 (i : Nat) (m : SM) (isc : Str → Option Bool) (su : Er → Option D) (isc2 : Str → Option Bool) (su2 : Er → Option D) : SM := fun ρ => match m ρ with
  | .er e ρ' => match isc e.cls with
    | some true => match su e with
      | some z => if i < ρ'.length then .rt (.fz z) else .st
      | none => .st
    | some false => match isc2 e.cls with
      | some true => match su2 e with
        | some z => .rt (.fz z)
        | none => .st
      | some false => .er e ρ'
      | none => .st
    | none => .st
  | r => r
section
variable {X : Cx} {W : WX} {x y n : Str} {c c2 : Value} {i : Nat} {body r1 r2 : List Stmt} {b1 b2 : Stmt} {np yp pos q1 q2 : Pos} {m : SM} {isc isc2 : Str → Option Bool} {su su2 : Er → Option D}
theorem ds_try2 (i : Nat) (hc : Names X x c) (hc2 : Names X y c2) (tk : Takes X W) (hx : ∀ k b, isc k = some b → PySem.W.exmOne X.K (clsOf X.K k) c = some b) (hx2 : ∀ k b, isc2 k = some b → PySem.W.exmOne X.K (clsOf X.K k) c2 = some b)
    (hb : ∀ (W : WX) (pn : List (Addr × Obj)) (xe : Value → Shared → Prop), Takes (X.tr pn xe) W → PassesOwn (model X.prog X.w) X.A X.env xe → PSs (X.tr pn xe) body (sOf X.K W m))
    (hsu : ∀ (a : Addr) (oe : Obj) (cls : Value) (d : Option Addr) (pn : List (Addr × Obj)), Zc cls d oe → (∃ vs, oe.data = .fields vs) → PSs (X.suite a ((a, oe) :: pn)) (b1 :: r1) (tsOf X.K i isc su a cls d))
    (hsu2 : ∀ (a : Addr) (oe : Obj) (cls : Value) (d : Option Addr) (pn : List (Addr × Obj)), Zc cls d oe → (∃ vs, oe.data = .fields vs) → PSs (X.suite a ((a, oe) :: pn)) (b2 :: r2) (tsC X.K isc2 su2 a cls d))
    (hN : X.N.Nodup) (hs : X.stack = X.env :: X.outer := by rfl) (hf : X.env.frame = some X.env.locals := by rfl) (hi : X.N[i]? = some n := by rfl) (hln : X.env.kindOf n = some .local := by rfl) :
    PS X (.Try body [.ExceptHandler (some (.Name x np)) (some n) (b1 :: r1) q1, .ExceptHandler (some (.Name y yp)) none (b2 :: r2) q2] [] [] pos) (sOf X.K W (sTry2 i m isc su isc2 su2)) :=
  (ps_two (tb := fun W => sOf X.K W m) hs hf hN hi hln hc hc2 tk hb hsu hsu2).imp fun D σ H ⟨F, ρ, τ, s, g⟩ => by
    refine ⟨F, ρ, τ, s, ?_⟩
    unfold sTry2 at g
    cases hm : m ρ with
    | er e ρ' =>
      rw [hm] at g
      intro σ' F' H' cls d ho s'
      dsimp only at g
      have hcl : cls = clsOf X.K e.cls := ho.1
      split at g
      · rename_i hk
        split at g
        · rename_i z hz
          split at g
          · rename_i hlt
            refine ⟨true, by rw [hcl]; exact hx _ _ hk, fun _ a ha => ?_, fun h => Bool.noConfusion h⟩
            exact ⟨e, F', ρ'.set i .no, τ, z, ho, s'.setX i _, List.getElem?_set_self (by rw [s'.1]; exact hlt), hk, hz, fun v F2 H2 al => g v F2 H2 (by simp) al⟩
          · exact g.elim
        · exact g.elim
      · rename_i hk
        refine ⟨false, by rw [hcl]; exact hx _ _ hk, fun h => Bool.noConfusion h, fun _ => ?_⟩
        split at g
        · rename_i hk2
          split at g
          · rename_i z hz
            exact ⟨true, by rw [hcl]; exact hx2 _ _ hk2, fun _ a ha => ⟨e, F', ρ', τ, z, ho, s', hk2, hz, fun v F2 H2 al => g v F2 H2 (by simp) al⟩, fun h => Bool.noConfusion h⟩
          · exact g.elim
        · rename_i hk2
          exact ⟨false, by rw [hcl]; exact hx2 _ _ hk2, fun h => Bool.noConfusion h, fun _ => g σ' F' H' cls d ho s'⟩
        · exact g.elim
      · exact g.elim
    | st => rw [hm] at g; exact g
    | nx ρ' => rw [hm] at g; exact g
    | bk ρ' => rw [hm] at g; exact g
    | ct ρ' => rw [hm] at g; exact g
    | rt c' => rw [hm] at g; exact g
/-- a suite that returns z -/
theorem su_cst {a : Addr} {oe : Obj} {cls : Value} {d : Option Addr} {pn : List (Addr × Obj)} {bs : List Stmt} {m1 : SM} {z : D} (hb : PSs (X.suite a ((a, oe) :: pn)) bs (sOf X.K noW m1)) (hm : ∀ ρ, m1 ρ = .rt (.fz z)) :
    PSs (X.suite a ((a, oe) :: pn)) bs (tsC X.K isc (fun _ => some z) a cls d) := ⟨fun pins s σ H D I h => by
  obtain ⟨e, F, ρ, τ, z0, ho, st, hk, hz, q⟩ := h
  cases hz
  refine hb.run pins s σ H D I ⟨F, ρ, τ, st, ?_⟩
  rw [hm]
  exact fun v F' H' nc al => q v F' H' al⟩
/-- (s1, s2, n.f) -/
def fldTag (s1 s2 f : Str) (e : Er) : Option D := (fldOf f e).map fun x => .tup [.str s1, .str s2, x]
theorem su_tag {a : Addr} {oe : Obj} {cls : Value} {d : Option Addr} {pn : List (Addr × Obj)} {f s1 s2 : Str} {rp p2 p3 p4 p5 p6 : Pos} {j1 j2 : Nat} {tx : Nat} (i : Nat) (hcl : ∀ k, isc k = some true → ∃ C : Addr, clsOf X.K k = .ref C ∧ XfC X.K C ∧ PySem.W.findIn X.K (.ref C) f = some none) (hz : Zc cls d oe) (hf : ∃ vs, oe.data = .fields vs)
    (hN : X.N[i]? = some n := by rfl) (hv : Vis X.env.scope n := by first | exact Or.inl rfl | exact Or.inr (Or.inl rfl) | exact Or.inr (Or.inr rfl)) (hd : (n == ("__debug__" : Str)) = false := by decide) (hcd : (n == ("__classdict__" : Str)) = false := by decide) (hb : attributeBase (.Name n p2) f X.env (eval (.Name n p2) X.env) = eval (.Name n p2) X.env := by rfl)
    (e1 : starEach [.Constant (.str s1) j1 p4, .Constant (.str s2) j2 p5, .Attribute (.Name n p2) f p3] X.env = (false, eval (.Constant (.str s1) j1 p4) X.env) :: starEach [.Constant (.str s2) j2 p5, .Attribute (.Name n p2) f p3] X.env := by rfl)
    (e2 : starEach [.Constant (.str s2) j2 p5, .Attribute (.Name n p2) f p3] X.env = (false, eval (.Constant (.str s2) j2 p5) X.env) :: starEach [.Attribute (.Name n p2) f p3] X.env := by rfl)
    (e3 : starEach [.Attribute (.Name n p2) f p3] X.env = (false, eval (.Attribute (.Name n p2) f p3) X.env) :: starEach [] X.env := by rfl) :
    PSs (X.suite a ((a, oe) :: pn)) [.Return (some (.Tuple [.Constant (.str s1) j1 p4, .Constant (.str s2) j2 p5, .Attribute (.Name n p2) f p3] tx p6)) rp] (tsOf X.K i isc (fldTag s1 s2 f) a cls d) := ⟨fun pins s σ H D I h => by
  obtain ⟨e, F, ρ, τ, z, ho, st, hi, hk, hz2, q⟩ := h
  obtain ⟨C, hC, hxf, hno⟩ := hcl _ hk
  have hpv : PE (X.suite a ((a, oe) :: pn)) (.Name n p2) (tVar i) := pe_var (X := X.suite a ((a, oe) :: pn)) hN hv hd hcd
  refine (pss_one (ps_ret (pe_tup (pa_cons pe_str (pa_cons pe_str (pa_cons (pe_xf (X := X) hxf hno hz hf hpv hb) pa_nil e3) e2) e1)))).run pins s σ H D I ?_
  obtain ⟨h1, h2⟩ := ho
  unfold fldTag fldOf at hz2
  rw [Option.map_eq_some_iff] at hz2
  obtain ⟨x, hz2, rfl⟩ := hz2
  split at hz2
  · rename_i g y hfl
    split at hz2
    · rename_i hg
      cases hz2
      subst hg
      rw [hfl] at h2
      obtain ⟨dx, v, rfl, fx, hx, rv⟩ := h2
      refine ⟨.ref a, hi, rfl, h1.trans hC, dx, _, v, rfl, hx, by simp [List.lookup], ?_⟩
      refine ⟨show 3 ≤ sizeLine by decide, fun p np => ?_⟩
      have al : All X.K F H (tmps [V.str s1, V.str s2, v] [.fz (.str s1), .fz (.str s2), .fz x] ++ τ) := (((st.2.dropL).push rv).push (.str s2)).push (.str s1)
      obtain ⟨F', _, al'⟩ := (al.mkT (p := p) rfl (by simp) np).freeze (by simp)
      exact q _ F' _ (by simpa [fzD, fzDs] using al')
    · cases hz2
  · cases hz2⟩
end
@[simp] theorem sTry2_ap (i : Nat) (m : SM) (isc : Str → Option Bool) (su : Er → Option D) (isc2 : Str → Option Bool) (su2 : Er → Option D) (ρ : Rho) : sTry2 i m isc su isc2 su2 ρ = match m ρ with
  | .er e ρ' => match isc e.cls with
    | some true => match su e with
      | some z => if i < ρ'.length then .rt (.fz z) else .st
      | none => .st
    | some false => match isc2 e.cls with
      | some true => match su2 e with
        | some z => .rt (.fz z)
        | none => .st
      | some false => .er e ρ'
      | none => .st
    | none => .st
  | r => r := rfl
end Dn

/-! Den28: suites in our layer: the error stands in its slot as an object, isinstance(e, C) is known. -/
namespace Dn
open PySem PySem.Spec PyProof.Rows L2 PySem.ExD
def eIsE (i : Nat) (a : Addr) (b : Bool) : M C := fun ρ => match ρ[i]? with
  | some (.fz (.ob (.ref x))) => if x = a then .ok (.fz (.bl b)) ρ else .st
  | _ => .st
@[simp] theorem eIsE_ap (i : Nat) (a : Addr) (b : Bool) (ρ : Rho) : eIsE i a b ρ = match ρ[i]? with
  | some (.fz (.ob (.ref x))) => if x = a then .ok (.fz (.bl b)) ρ else .st
  | _ => .st := rfl
section
variable {X : Cx} {W : WX} {n cn : Str} {body : List Stmt} {isc : Str → Option Bool} {p p2 p3 p4 p5 : Pos} {a Dg : Addr} {oe : Obj} {pn : List (Addr × Obj)}
theorem d_isE {cv : V} {cw : Value} {b : Bool} (i : Nat) (hC : ExcC X.K Dg) (hz : Zc (.ref Dg) none oe) (hf : ∃ vs, oe.data = .fields vs) (hcn : PE (X.suite a ((a, oe) :: pn)) (.Name cn p3) (tC cv)) (hcw : ∀ u, RelV cv u → u = cw) (hkit : PySem.W.kitOne X.K (.ref Dg) cw = some b) (nI : X.mg "isinstance" = none)
    (hN : X.N[i]? = some n := by rfl) (hv : Vis X.env.scope n := by first | exact Or.inl rfl | exact Or.inr (Or.inl rfl) | exact Or.inr (Or.inr rfl)) (hd : (n == ("__debug__" : Str)) = false := by decide) (hcd : (n == ("__classdict__" : Str)) = false := by decide)
    (hgI : Gl X "isinstance" := by rfl)
    (hs1 : starEach [.Name n p2, .Name cn p3] X.env = (false, eval (.Name n p2) X.env) :: starEach [.Name cn p3] X.env := by rfl) (hs2 : starEach [.Name cn p3] X.env = (false, eval (.Name cn p3) X.env) :: starEach [] X.env := by rfl)
    (hpl : (backTo p4 (starEach [.Name cn p3] X.env)).any (·.1) = false := by rfl) :
    PE (X.suite a ((a, oe) :: pn)) (.Call (.Name "isinstance" p) [.Name n p2, .Name cn p3] [] p4) (tOf X.K W (eIsE i a b)) :=
  (pe_callB (X := X.suite a ((a, oe) :: pn)) (call_isE (X := X) hC hz hf) hgI nI (by decide +kernel) (pa_cons (pe_var (X := X.suite a ((a, oe) :: pn)) hN hv hd hcd) (pa_cons hcn pa_nil hs2) hs1) (by decide) (by decide) hs1 hpl).imp fun σ H Q ⟨F, ρ, τ, st, g⟩ => by
    unfold eIsE at g
    split at g
    · rename_i x hx
      split at g
      · rename_i e
        subst e
        obtain ⟨v, ev, s2⟩ := st.get hx (by simp)
        have hv := s2.fzOf.obv
        subst hv
        exact ⟨_, ev, cv, cw, b, rfl, hcw, hkit, g (.bl b) F H (by simp) (st.push (.bl b))⟩
      · exact g.elim
    · exact g.elim
/-- what a suite by our layer is asked -/
def tsG (K : PySem.W.Frag) (i : Nat) (isc : Str → Option Bool) (mS : Str → Addr → SM) : Addr → Value → Option Addr → TS := fun a cls d E σ H =>
  ∃ (e : Er) (F : Addr → Prop) (ρ : Rho) (τ : List Pr) (z : D), ErOk K F H e cls d ∧ e.fld = none ∧ Sta K F H σ (ρ.set i .no) τ ∧ σ[i]? = some (some (.ref a)) ∧ isc e.cls = some true ∧ mS e.cls a (ρ.set i (.fz (.ob (.ref a)))) = .rt (.fz z) ∧ ∀ v F' H', All K F' H' ((some v, .fz z) :: τ) → E.rt v H'
/-- try: m except (what isc takes) as (slot i): a suite that returns the same whatever the error's address is -/
noncomputable def sTryG (i : Nat) (m : SM) (isc : Str → Option Bool) (mS : Str → Addr → SM) : SM := fun ρ => match m ρ with
  | .er e ρ' => match isc e.cls, e.fld with
    | some true, none => open Classical in if h : i < ρ'.length ∧ ∃ z, ∀ a, mS e.cls a (ρ'.set i (.fz (.ob (.ref a)))) = .rt (.fz z) then .rt (.fz h.2.choose) else .st
    | some false, _ => .er e ρ'
    | _, _ => .st
  | r => r
theorem su_gen {cls : Value} {d : Option Addr} {mS : Str → Addr → SM} (i : Nat) (hz : Zc cls d oe)
    (hsu : ∀ k, isc k = some true → ∃ D0 : Addr, clsOf X.K k = .ref D0 ∧ (Zc (.ref D0) none oe → PSs (X.suite a ((a, oe) :: pn)) body (sOf X.K noW (mS k a)))) :
    PSs (X.suite a ((a, oe) :: pn)) body (tsG X.K i isc mS a cls d) := ⟨fun pins s σ H E I h => by
  obtain ⟨e, F, ρ, τ, z, ho, hfl, st, hi, hk, hm, q⟩ := h
  obtain ⟨D0, hD, hb⟩ := hsu _ hk
  obtain ⟨h1, h2⟩ := ho
  rw [hfl] at h2
  have h2' : d = none := h2
  subst h2'
  have hc : cls = .ref D0 := h1.trans hD
  subst hc
  have st2 := (st.push (.ob (.ref a))).back hi
  rw [List.set_set] at st2
  refine (hb hz).run pins s σ H E I ⟨F, _, τ, st2, ?_⟩
  rw [hm]
  exact fun v F' H' nc al => q v F' H' al⟩
variable {x : Str} {c : Value} {b1 : Stmt} {r1 bd : List Stmt} {np pos pos' : Pos} {m : SM}
theorem ds_tryG {mS : Str → Addr → SM} (i : Nat) (hc : Names X x c) (tk : Takes X W) (hx : ∀ k b, isc k = some b → PySem.W.exmOne X.K (clsOf X.K k) c = some b)
    (hb : ∀ (W : WX) (pn : List (Addr × Obj)) (xe : Value → Shared → Prop), Takes (X.tr pn xe) W → PassesOwn (model X.prog X.w) X.A X.env xe → PSs (X.tr pn xe) bd (sOf X.K W m))
    (hsu : ∀ (a : Addr) (oe : Obj) (cls : Value) (d : Option Addr) (pn : List (Addr × Obj)), Zc cls d oe → (∃ vs, oe.data = .fields vs) → PSs (X.suite a ((a, oe) :: pn)) (b1 :: r1) (tsG X.K i isc mS a cls d))
    (hN : X.N.Nodup) (hs : X.stack = X.env :: X.outer := by rfl) (hf : X.env.frame = some X.env.locals := by rfl) (hi : X.N[i]? = some n := by rfl) (hln : X.env.kindOf n = some .local := by rfl) :
    PS X (.Try bd [.ExceptHandler (some (.Name x np)) (some n) (b1 :: r1) pos'] [] [] pos) (sOf X.K W (sTryG i m isc mS)) :=
  (ps_try_as (tb := fun W => sOf X.K W m) hs hf hN hi hln hc tk hb hsu).imp fun E σ H ⟨F, ρ, τ, s, g⟩ => by
    refine ⟨F, ρ, τ, s, ?_⟩
    unfold sTryG at g
    cases hm : m ρ with
    | er e ρ' =>
      rw [hm] at g
      intro σ' F' H' cls d ho s'
      dsimp only at g
      have hcl : cls = clsOf X.K e.cls := ho.1
      split at g
      · rename_i hk hfl
        split at g
        · rename_i hex
          refine ⟨true, by rw [hcl]; exact hx _ _ hk, fun _ a ha => ?_, fun h => Bool.noConfusion h⟩
          exact ⟨e, F', ρ', τ, hex.2.choose, ho, hfl, s'.setX i _, List.getElem?_set_self (by rw [s'.1]; exact hex.1), hk, hex.2.choose_spec a, fun v F2 H2 al => g v F2 H2 (by simp) al⟩
        · exact g.elim
      · rename_i hk
        exact ⟨false, by rw [hcl]; exact hx _ _ hk, fun h => Bool.noConfusion h, fun _ => g σ' F' H' cls d ho s'⟩
      · exact g.elim
    | st => rw [hm] at g; exact g
    | nx ρ' => rw [hm] at g; exact g
    | bk ρ' => rw [hm] at g; exact g
    | ct ρ' => rw [hm] at g; exact g
    | rt c' => rw [hm] at g; exact g
end
/-- the use of it -/
theorem sTryG_rt {i : Nat} {m : SM} {isc : Str → Option Bool} {mS : Str → Addr → SM} {ρ ρ' : Rho} {e : Er} {z : D} (hm : m ρ = .er e ρ') (hk : isc e.cls = some true) (hf : e.fld = none) (hi : i < ρ'.length) (h : ∀ a, mS e.cls a (ρ'.set i (.fz (.ob (.ref a)))) = .rt (.fz z)) : sTryG i m isc mS ρ = .rt (.fz z) := by
  have hex : i < ρ'.length ∧ ∃ z, ∀ a, mS e.cls a (ρ'.set i (.fz (.ob (.ref a)))) = .rt (.fz z) := ⟨hi, z, h⟩
  unfold sTryG
  rw [hm]
  dsimp only
  rw [hk, hf]
  dsimp only
  rw [dif_pos hex]
  have e1 := hex.2.choose_spec 0
  rw [h 0] at e1
  exact e1.symm
theorem sTryG_no {i : Nat} {m : SM} {isc : Str → Option Bool} {mS : Str → Addr → SM} {ρ : Rho} (h : ∀ e ρ', m ρ ≠ .er e ρ') : sTryG i m isc mS ρ = m ρ := by
  unfold sTryG
  cases hm : m ρ with
  | er e ρ' => exact absurd hm (h e ρ')
  | _ => rfl
end Dn

/-! Den29: a, b, c = x, y, z. -/
namespace Dn
open PySem PySem.Spec PyProof.Rows L2
section
variable {X : Cx} {pos : Pos}
def sPar3 (i j l : Nat) (m : M (List C)) : SM := fun ρ => (m ρ).thn fun cs ρ => match cs with
  | [c, d, e] => if i < ρ.length ∧ j < ρ.length ∧ l < ρ.length then .nx (((ρ.set i c).set j d).set l e) else .st
  | _ => .st
@[simp] theorem sPar3_ap (i j l : Nat) (m : M (List C)) (ρ : Rho) : sPar3 i j l m ρ = (m ρ).thn fun cs ρ => match cs with
  | [c, d, e] => if i < ρ.length ∧ j < ρ.length ∧ l < ρ.length then .nx (((ρ.set i c).set j d).set l e) else .st
  | _ => .st := rfl
theorem ds_par3 {W : WX} (i j l : Nat) {x y z : Str} {a b c : Expr} {m : M (List C)} {px py pz pt : Pos} {kt k2 pt2} (hN : X.N.Nodup) (ha : PA X [a, b, c] (aOf X.K W m)) (hc : X.calm = true := by rfl) (hi : X.N[i]? = some x := by rfl) (hj : X.N[j]? = some y := by rfl) (hl : X.N[l]? = some z := by rfl)
    (hij : i ≠ j := by decide) (hil : i ≠ l := by decide) (hjl : j ≠ l := by decide)
    (hx : X.env.scope.names.lookup x = some .local := by rfl) (hy : X.env.scope.names.lookup y = some .local := by rfl) (hz : X.env.scope.names.lookup z = some .local := by rfl)
    (hw : swappedStores [.Tuple [.Name x px, .Name y py, .Name z pz] kt pt] (.Tuple [a, b, c] k2 pt2) X.env = pure (some [x, y, z]) := by rfl)
    (hs : swapsWithSole [.Tuple [.Name x px, .Name y py, .Name z pz] kt pt] (.Tuple [a, b, c] k2 pt2) pos.line X.env = pure false := by rfl) :
    PS X (.Assign [.Tuple [.Name x px, .Name y py, .Name z pz] kt pt] (.Tuple [a, b, c] k2 pt2) pos) (sOf X.K W (sPar3 i j l m)) := (ps_par3 hc hN hi hj hl hij hil hjl hx hy hz ha hw hs).imp fun D σ H ⟨F, ρ, τ, s, g⟩ =>
  runA s ((GoodS.thn g).imp (fun cs ρ1 q vs F1 H1 hlen hn s1 => by
    split at q
    · rename_i c d e
      split at q
      · rename_i hb
        match vs, hlen, s1 with
        | [v, w, u], _, s1 =>
          have s2 : Sta X.K F1 H1 σ ρ1 ((some v, c) :: (some w, d) :: (some u, e) :: τ) := s1
          have s3 := s2.put (i := i) (by rw [s2.1]; exact hb.1)
          have s4 := s3.put (i := j) (by rw [s3.1, List.length_set]; exact hb.2.1)
          have s5 := s4.put (i := l) (by rw [s4.1, List.length_set, List.length_set]; exact hb.2.2)
          exact ⟨v, w, u, rfl, q _ F1 H1 s5⟩
      · exact q.elim
    · exact q.elim) fun _ _ q => q)
end
end Dn

/-! Den30: for t in list(x[..]): the items handed out with what they own; the list stays, of its items nothing is known. -/
namespace Dn
open PySem PySem.Spec PyProof.Rows L2
/-- a value of which nothing is known -/
def qD : D := .gh (fun _ => False) (fun _ => none)
/-- the list at the end of a path loses its items -/
def ghC : List Int → C → Option C
  | [], .ow cs => some (.ow (cs.map fun _ => .fz qD))
  | j :: js, .ow cs => (ixN cs.length j).bind fun k => (cs[k]?).bind fun c => (ghC js c).map fun c' => .ow (cs.set k c')
  | j :: js, .tp cs => (ixN cs.length j).bind fun k => (cs[k]?).bind fun c => (ghC js c).map fun c' => .tp (cs.set k c')
  | _, _ => none
section
variable {K : PySem.W.Frag} {F : Addr → Prop} {H : Hp}
theorem RepCs.q : ∀ {vs : List V} {cs : List C}, vs.length = cs.length → RepCs K F H vs (cs.map fun _ => .fz qD) []
  | [], [], _ => .nil
  | v :: vs, c :: cs, h => by
    have := RepCs.cons (O := []) (O' := []) (RepC.fz (K := K) (F := F) (H := H) (v := v) (d := qD) (.gh fun a g => g.elim)) (RepCs.q (vs := vs) (cs := cs) (by simpa using h))
    simpa using this
theorem ghC_ok : ∀ {js : List Int} {v : V} {c : C} {cs : List C} {O : List Addr}, RepC K F H v c O → takeC js c = some (.ow cs) → ∃ c', ghC js c = some c' ∧ ∃ a vs O1 O2, NavV K H v js (.ref a) ∧ H a = some (.lst vs) ∧ RepCs K F H vs cs O2 ∧ RepC K F H v c' O1 ∧ (O1 ++ O2).Perm O
  | [], v, c, cs, O, r, e => by
    cases e
    cases r with
    | @ow a vs _ O1 ea rc => exact ⟨_, rfl, a, vs, [a], O1, rfl, ea, rc, .ow ea (RepCs.q rc.len), List.Perm.refl _⟩
  | j :: js, v, c, cs, O, r, e => by
    have core : ∀ {p : Addr} {vs : List V} {ds : List C} {O1 : List Addr} {k : Nat} {c1 : C}, RepCs K F H vs ds O1 → ixN ds.length j = some k → ds[k]? = some c1 → takeC js c1 = some (.ow cs) → (SqL K H p vs ∨ SqT K H p vs) →
        ∃ c1', ghC js c1 = some c1' ∧ ∃ a ws O3 O2, NavV K H (.ref p) (j :: js) (.ref a) ∧ H a = some (.lst ws) ∧ RepCs K F H ws cs O2 ∧ RepCs K F H vs (ds.set k c1') O3 ∧ (O3 ++ O2).Perm O1 := by
      intro p vs ds O1 k c1 rc hk hc hu hs
      obtain ⟨v1, A, Ok, B, e1, e2, e3, e4⟩ := rc.focus hc
      subst e2
      obtain ⟨c1', g1, a, ws, O3, O2, nav, ha, r2, r1, pm⟩ := ghC_ok e3 hu
      refine ⟨c1', g1, a, ws, A ++ (O3 ++ B), O2, ⟨v1, ⟨p, vs, rfl, hs, ixN_atI rc.len.symm hk e1⟩, nav⟩, ha, r2, e4 H c1' O3 (fun _ _ => rfl) (fun _ _ => rfl) (fun _ _ => rfl) r1, ?_⟩
      rw [List.append_assoc, List.append_assoc]
      refine List.Perm.append_left A ?_
      refine (List.Perm.append_left O3 List.perm_append_comm).trans ?_
      rw [← List.append_assoc]
      exact pm.append_right B
    cases r with
    | @ow p vs ds O1 ep rc =>
      simp only [takeC, Option.bind_eq_some_iff] at e
      obtain ⟨k, hk, c1, hc, hu⟩ := e
      obtain ⟨c1', g1, a, ws, O3, O2, nav, ha, r2, r1, pm⟩ := core rc hk hc hu (.inl (.of ep))
      exact ⟨.ow (ds.set k c1'), by simp [ghC, hk, hc, g1], a, ws, p :: O3, O2, nav, ha, r2, .ow ep r1, by simpa using pm.cons p⟩
    | @tp p vs ds O1 ep rc =>
      simp only [takeC, Option.bind_eq_some_iff] at e
      obtain ⟨k, hk, c1, hc, hu⟩ := e
      obtain ⟨c1', g1, a, ws, O3, O2, nav, ha, r2, r1, pm⟩ := core rc hk hc hu (.inr (.of ep))
      exact ⟨.tp (ds.set k c1'), by simp [ghC, hk, hc, g1], a, ws, p :: O3, O2, nav, ha, r2, .tp ep r1, by simpa using pm.cons p⟩
    | _ => simp [takeC] at e
theorem All.apartG {js : List Int} {v : V} {c : C} {cs : List C} {ps : List Pr} (al : All K F H ((some v, c) :: ps)) (e : takeC js c = some (.ow cs)) :
    ∃ c', ghC js c = some c' ∧ ∃ a vs, NavV K H v js (.ref a) ∧ H a = some (.lst vs) ∧ vs.length = cs.length ∧ (∀ c ∈ cs, c ≠ .no) ∧ All K F H ((some v, c') :: (tmps vs cs ++ ps)) := by
  obtain ⟨O, r, nd, nf, dm⟩ := al
  cases r with
  | no r => exact absurd rfl (takeC_ne e)
  | @cons _ _ _ O1 O2 rc r =>
    obtain ⟨c', g, a, vs, O3, O4, nav, ha, r2, r1, pm⟩ := ghC_ok rc e
    have pm2 : (O3 ++ (O4 ++ O2)).Perm (O1 ++ O2) := by rw [← List.append_assoc]; exact pm.append_right O2
    exact ⟨c', g, a, vs, nav, ha, r2.len, r2.ne, O3 ++ (O4 ++ O2), .cons r1 (r2.toP r), pm2.nodup_iff.mpr nd, fun b m => nf b (pm2.mem_iff.mp m), dm⟩
end
def sForL (i : Nat) (js : List Int) (put : C → Rho → Option Rho) (body : SM) : SM := fun ρ => match ρ[i]? with
  | some c => match takeC js c, ghC js c with
    | some (.ow cs), some c' => forC put body cs (ρ.set i c')
    | _, _ => .st
  | none => .st
section
variable {X : Cx} {W : WX} {tg e : Expr} {body : List Stmt} {pos p cpos : Pos} {l : List Nat} {put : C → Rho → Option Rho} {m : SM} {i : Nat}
theorem ds_forL (js : List Int) (hm : X.mg "list" = none) (hp : PassesOwn (model X.prog X.w) X.A X.env X.xe) (hi : PathE X e i (js.map .c)) (hg : PG X tg (gOf X.K l put)) (hb : PSs X body (sOf X.K W m)) (hc : X.calm = true := by rfl)
    (he : starEach [e] X.env = (false, eval e X.env) :: starEach [] X.env := by rfl) (hgl : Gl X "list" := by rfl)
    (hs : ∀ x, foldedSetIterable (.Call (.Name "list" p) [e] [] cpos) X.env x = pure x := by intro _; rfl) : PS X (.For tg (.Call (.Name "list" p) [e] [] cpos) body [] pos) (sOf X.K W (sForL i js put m)) := by
  obtain ⟨te, hte, hq⟩ := hi.ex
  refine (ps_for hp hc (pi_list (pe_callTy call_list_of hgl hm (by decide +kernel) (pa_cons hte pa_nil he) (by decide) (by decide) he rfl)) hg hb hs).imp fun D σ H ⟨F, ρ, τ, s, g⟩ => ?_
  unfold sForL at g
  split at g
  · rename_i c ec
    split at g
    · rename_i cs c' hcs hgc
      obtain ⟨v, ev, s1⟩ := s.get ec (takeC_ne hcs)
      obtain ⟨c2, g2, a, vs, nav, ha, hl, hne, al⟩ := All.apartG (ps := τ ++ σ.zip (ρ.set i .no)) s1.all hcs
      rw [hgc] at g2
      cases g2
      refine hq σ H _ v js (.ref a) ev (stpsS_c _ js) nav ⟨a, vs, rfl, .inl (.of ha), fun L hL => ?_⟩
      have s2 : Sta X.K F H σ (ρ.set i .no) ((some v, c') :: (tmps vs cs ++ τ)) := .of s1.1 (by simpa using al)
      have s3 := s2.back ev
      rw [List.set_set] at s3
      have s4 := s3.mkObs (vs := vs) hL
      refine ⟨L, rfl, ⟨vs, .of upd_same⟩, fun n k σ H => k = cs.length - n ∧ n ≤ cs.length ∧ ∃ F ρ, Sta X.K F H σ ρ ((some (.ref L), .ow (Dn.obs vs)) :: (tmps (vs.drop n) (cs.drop n) ++ τ)) ∧ GoodS X.K W τ (forC put m (cs.drop n) ρ) D, ⟨_, rfl, Nat.zero_le _, F, _, by simpa using s4, g⟩, ?_⟩
      · rintro n k σ H ⟨rfl, hn, F, ρ, s, q⟩
        have hH := s.obs
        by_cases hlt : n < cs.length
        · have hv : vs[n]? = some vs[n] := List.getElem?_eq_getElem (by omega)
          refine .inr ⟨⟨vs, vs[n], .of hH, hv⟩, fun σ' H' => ∃ F ρ, Sta X.K F H' σ' ρ ((some (.ref L), .ow (Dn.obs vs)) :: (tmps (vs.drop (n + 1)) (cs.drop (n + 1)) ++ τ)) ∧ GoodS X.K W τ (forC put m (cs.drop (n + 1)) ρ) D, fun σ' H' h => ⟨_, by omega, rfl, hlt, h⟩, fun x H' y => ?_⟩
          obtain ⟨rfl, y⟩ := y
          have := y vs (.of hH)
          rw [hv] at this
          cases this
          have e1 : tmps (vs.drop n) (cs.drop n) = (some vs[n], cs[n]) :: tmps (vs.drop (n + 1)) (cs.drop (n + 1)) := by
            rw [List.drop_eq_getElem_cons hlt, List.drop_eq_getElem_cons (show n < vs.length by omega)]
            rfl
          rw [e1] at s
          rw [List.drop_eq_getElem_cons hlt] at q
          unfold forC at q
          split at q
          · exact q.elim
          · rename_i ρ1 hp1
            refine ⟨F, ρ, _, _, ρ1, hne _ (List.getElem_mem hlt), s.swap, hp1, fun σ3 F3 H3 _ s3 => ⟨F3, ρ1, _, s3, ?_⟩⟩
            have dropRt : ∀ {v : V} {c : C} {F4 H4}, All X.K F4 H4 ((some v, c) :: ((some (.ref L), .ow (Dn.obs vs)) :: (tmps (vs.drop (n + 1)) (cs.drop (n + 1)) ++ τ))) → All X.K F4 H4 ((some v, c) :: τ) := by
              intro v c F4 H4 al
              have a3 := al.perm (show ((some v, c) :: ((some (.ref L), .ow (Dn.obs vs)) :: (tmps (vs.drop (n + 1)) (cs.drop (n + 1)) ++ τ))).Perm (((some (.ref L), .ow (Dn.obs vs)) :: tmps (vs.drop (n + 1)) (cs.drop (n + 1))) ++ ((some v, c) :: τ)) from List.perm_middle (l₁ := (some (.ref L), .ow (Dn.obs vs)) :: tmps (vs.drop (n + 1)) (cs.drop (n + 1)))|>.symm)
              exact a3.dropL
            split at q
            · rename_i ρ2 hm; rw [hm]; exact fun σ4 F4 H4 s4 => ⟨F4, ρ2, s4, q⟩
            · rename_i ρ2 hm; rw [hm]; exact fun σ4 F4 H4 s4 => ⟨F4, ρ2, s4, q⟩
            · rename_i ρ2 hm; rw [hm]; exact fun σ4 F4 H4 s4 => q σ4 F4 H4 s4.drop.dropL
            · rename_i r h1 h2 h3
              cases hr : m ρ1 with
              | nx ρ2 => exact absurd hr (h1 ρ2)
              | ct ρ2 => exact absurd hr (h2 ρ2)
              | bk ρ2 => exact absurd hr (h3 ρ2)
              | st => rw [hr] at q; exact q
              | er e ρ2 => rw [hr] at q; exact serP.dropL (q := (some (.ref L), .ow (Dn.obs vs)) :: tmps (vs.drop (n + 1)) (cs.drop (n + 1))) q
              | rt c =>
                rw [hr] at q
                exact fun v F4 H4 nc al => q v F4 H4 nc (dropRt al)
        · have e : n = cs.length := by omega
          subst e
          rw [List.drop_length] at q
          exact .inl ⟨⟨vs, .of hH, by omega⟩, q σ F H s.drop.dropL⟩
    · exact g.elim
  · exact g.elim
end
end Dn

/-! Den31: list(x), x an owned list of frozen items that stays owned. -/
namespace Dn
open PySem PySem.Spec PyProof.Rows L2
def allFz : List C → Option (List D)
  | [] => some []
  | .fz d :: cs => (allFz cs).map (d :: ·)
  | _ => none
theorem allFz_map : ∀ ds : List D, allFz (ds.map C.fz) = some ds
  | [] => rfl
  | d :: ds => by simp [allFz, allFz_map ds]
theorem allFz_eq : ∀ {cs : List C} {ds : List D}, allFz cs = some ds → cs = ds.map C.fz
  | [], _, h => by cases h; rfl
  | .fz d :: cs, _, h => by
    simp only [allFz, Option.map_eq_some_iff] at h
    obtain ⟨ds, h1, rfl⟩ := h
    rw [allFz_eq h1]; rfl
  | .ow _ :: _, _, h => by simp [allFz] at h
  | .tp _ :: _, _, h => by simp [allFz] at h
  | .od _ :: _, _, h => by simp [allFz] at h
  | .no :: _, _, h => by simp [allFz] at h
  | .pl _ _ :: _, _, h => by simp [allFz] at h
  | .wp _ _ _ :: _, _, h => by simp [allFz] at h
def eCpy (i : Nat) : M C := fun ρ => match ρ[i]? with
  | some (.ow cs) => match allFz cs with
    | some ds => .ok (.ow (ds.map C.fz)) ρ
    | none => .st
  | some (.fz (.lst ds)) => .ok (.ow (ds.map C.fz)) ρ
  | _ => .st
@[simp] theorem eCpy_ap (i : Nat) (ρ : Rho) : eCpy i ρ = match ρ[i]? with
  | some (.ow cs) => match allFz cs with
    | some ds => .ok (.ow (ds.map C.fz)) ρ
    | none => .st
  | some (.fz (.lst ds)) => .ok (.ow (ds.map C.fz)) ρ
  | _ => .st := rfl
section
variable {K : PySem.W.Frag} {F : Addr → Prop} {H : Hp} {σ : L2.St} {ρ : Rho} {τ : List Pr}
theorem RepCs.fzs : ∀ {ds : List D} {vs : List V} {O : List Addr}, RepCs K F H vs (ds.map C.fz) O → Reps K F H vs ds
  | [], _, _, .nil => .nil
  | d :: ds, _, _, .cons r rs => by
    cases r with
    | fz r => exact .cons r (RepCs.fzs rs)
theorem Sta.mkFz {L : Addr} {vs : List V} {ds : List D} (s : Sta K F H σ ρ τ) (r : Reps K F H vs ds) (n : H L = none) : Sta K F (L2.upd H L (.lst vs)) σ ρ ((some (.ref L), .ow (ds.map C.fz)) :: τ) := by
  have go : ∀ {vs : List V} {ds : List D}, Reps K F H vs ds → Sta K F H σ ρ (tmps vs (ds.map C.fz) ++ τ) := by
    intro vs
    induction vs with
    | nil => intro ds r; cases r; exact s
    | cons v vs ih => intro ds r; cases r with
      | cons r rs => exact (ih rs).push r
  refine (go r).on fun l al => ?_
  rw [List.append_assoc] at al
  exact al.mkL (by simp [r.len]) (by simp) n
end
section
variable {X : Cx} {W : WX} {p p2 pos : Pos}
theorem d_cpy (i : Nat) {y : Str} (hm : X.mg "list" = none) (hN : X.N[i]? = some y := by rfl) (hy : Vis X.env.scope y := by first | exact Or.inl rfl | exact Or.inr (Or.inl rfl) | exact Or.inr (Or.inr rfl))
    (hg : Gl X "list" := by rfl) (hd2 : (y == ("__debug__" : Str)) = false := by decide) (hcd : (y == ("__classdict__" : Str)) = false := by decide)
    (he : starEach [Expr.Name y p2] X.env = (false, eval (Expr.Name y p2) X.env) :: starEach [] X.env := by rfl) : PE X (.Call (.Name "list" p) [.Name y p2] [] pos) (tOf X.K W (eCpy i)) :=
  (pe_callTy call_list_of hg hm (by decide +kernel) (pa_cons (pe_var hN hy hd2 hcd) pa_nil he) (by decide) (by decide) he rfl).imp fun σ H Q ⟨F, ρ, τ, s, g⟩ => by
    unfold eCpy at g
    split at g
    · rename_i cs ec
      split at g
      · rename_i ds hds
        have hcs := allFz_eq hds
        subst hcs
        obtain ⟨v, ev, s1⟩ := s.get ec (by simp)
        obtain ⟨a, vs, O, rfl, ha, rc⟩ := s1.owOf
        exact ⟨_, ev, a, vs, rfl, .inl (.of ha), fun l nl => g _ F _ (by simp) (s.mkFz rc.fzs nl)⟩
      · exact g.elim
    · rename_i ds ec
      obtain ⟨v, ev, s1⟩ := s.get ec (by simp)
      obtain ⟨a, vs, rfl, hl, rs⟩ := s1.fzOf.lstv
      exact ⟨_, ev, a, vs, rfl, .inl hl.seq, fun l nl => g _ F _ (by simp) (s.mkFz rs nl)⟩
    · exact g.elim
end
end Dn

/-! Den32: x[i], x[j] = a, b; y in d; dict(d); {a: b}. -/
namespace Dn
open PySem PySem.Spec PyProof.Rows L2
section
variable {X : Cx} {W : WX} {pos apos apos2 tpos p p2 : Pos} {e : Expr} {m : M C}
def putS (i : Nat) (mk : M C) (d : D) (k : Rho → SR) : SM := fun ρ => if isOw ρ[i]? then (mk ρ).thn fun e ρ => match ρ[i]?, fzD e with
  | some (.ow cs), .int j => match setF j cs (.fz d) with
    | some cs' => k (ρ.set i (.ow cs'))
    | none => .st
  | _, _ => .st
  else .st
def sSwp (i : Nat) (mk mk2 me : M C) : SM := fun ρ => (me ρ).thn fun c ρ => match fzD c with
  | .tup [d, d2] => putS i mk d (putS i mk2 d2 fun ρ => .nx ρ) ρ
  | _ => .st
theorem putS_ok {i : Nat} {mk : M C} {d : D} {k : Rho → SR} {F : Addr → Prop} {H : Hp} {σ : L2.St} {ρ : Rho} {v : V} {l τ : List Pr} {D : Ends} {Q : L2.St → Hp → Prop} (s : Sta X.K F H σ ρ ((some v, .fz d) :: (l ++ τ)))
    (q : GoodS X.K W τ (putS i mk d k ρ) D) (hk : ∀ F1 H1 ρ1, Sta X.K F1 H1 σ ρ1 (l ++ τ) → GoodS X.K W τ (k ρ1) D → Q σ H1) : gSub (tVar i) (tOf X.K W mk) rSetL v σ H Q := by
  unfold putS at q
  split at q
  · rename_i ho
    obtain ⟨a, vs, ev, hav⟩ := s.ow ho
    refine ⟨.ref a, ev, run1 s ((GoodS.thn q).imp (fun d' ρ2 q w F2 H2 s2 => ?_) fun _ _ q => (erP.dropL (q := (some v, .fz d) :: l) q))⟩
    split at q
    · rename_i cs j ec ej
      split at q
      · rename_i cs' hf
        rw [ej] at s2
        unfold setF at hf
        rw [Option.map_eq_some_iff] at hf
        obtain ⟨kk, hkk, rfl⟩ := hf
        obtain ⟨v', ev', s3⟩ := s2.get ec (by simp)
        rw [ev] at ev'
        cases ev'
        obtain ⟨a', ws, O, e1, hw', rc⟩ := s3.owOf
        cases e1
        refine ⟨a, ws, j, kk, rfl, s2.fzOf.intv, hw', by rw [rc.len]; exact hkk, ?_⟩
        have s4 : Sta X.K F2 H2 σ (ρ2.set i .no) ((some (.ref a), .ow cs) :: (some v, .fz d) :: (l ++ τ)) := s3.swap.drop
        have rv : Rep X.K F2 H2 v d := s4.drop.fzOf
        have s5 : Sta X.K F2 (upd H2 a (.lst (ws.set kk v))) σ (ρ2.set i .no) ((some (.ref a), .ow (cs.set kk (.fz d))) :: (l ++ τ)) := s4.on fun l al => by
          refine All.write (qs := [(some v, .fz d)]) al fun ws' O O1 hws rcs rp => ?_
          rw [hw'] at hws
          cases hws
          obtain ⟨O2, q2, h2⟩ := RepCs.set rv kk rcs
          exact ⟨O2, q2, h2.trans (by simp)⟩
        have s6 := s5.back ev
        rw [List.set_set] at s6
        exact hk F2 _ _ s6 q
      · exact q.elim
    · exact q.elim
  · exact q.elim
theorem ds_swp (i : Nat) {x : Str} {k k2 : Expr} {mk mk2 : M C} {kt : Nat} (hk : PE X k (tOf X.K W mk)) (hk2 : PE X k2 (tOf X.K W mk2)) (he : PE X e (tOf X.K W m)) (hc : X.calm = true := by rfl) (hN : X.N[i]? = some x := by rfl) (hv : Vis X.env.scope x := by first | exact Or.inl rfl | exact Or.inr (Or.inl rfl) | exact Or.inr (Or.inr rfl)) (hd : (x == ("__debug__" : Str)) = false := by decide)
    (hcd : (x == ("__classdict__" : Str)) = false := by decide)
    (hn : (assignEach [.Subscript (.Name x p) k apos, .Subscript (.Name x p2) k2 apos2] X.env).length = 2 := by rfl) (hst : (assignEach [.Subscript (.Name x p) k apos, .Subscript (.Name x p2) k2 apos2] X.env).findIdx? (·.1) = none := by rfl)
    (hs1 : (assignEach [.Subscript (.Name x p) k apos, .Subscript (.Name x p2) k2 apos2] X.env).map (·.2) = assign (.Subscript (.Name x p) k apos) X.env :: (assignEach [.Subscript (.Name x p2) k2 apos2] X.env).map (·.2) := by rfl)
    (hs2 : (assignEach [.Subscript (.Name x p2) k2 apos2] X.env).map (·.2) = assign (.Subscript (.Name x p2) k2 apos2) X.env :: (assignEach [] X.env).map (·.2) := by rfl)
    (hs : swapsWithSole [.Tuple [.Subscript (.Name x p) k apos, .Subscript (.Name x p2) k2 apos2] kt tpos] e pos.line X.env = pure false := by rfl) (hw : swappedStores [.Tuple [.Subscript (.Name x p) k apos, .Subscript (.Name x p2) k2 apos2] kt tpos] e X.env = pure none := by rfl)
    (h1 : (assignEach [.Tuple [.Subscript (.Name x p) k apos, .Subscript (.Name x p2) k2 apos2] kt tpos] X.env).map (·.2) = [assign (.Tuple [.Subscript (.Name x p) k apos, .Subscript (.Name x p2) k2 apos2] kt tpos) X.env] := by rfl)
    (ha : ∀ v, assign (.Subscript (.Name x p) k apos) X.env v = (do let ov ← holding [v] (eval (.Name x p) X.env); let iv ← holding [v, ov] (eval k X.env); standAt apos; holding [v, ov, iv] (setItem ov iv v); release [v, ov, iv] []) := by intro _; rfl)
    (ha2 : ∀ v, assign (.Subscript (.Name x p2) k2 apos2) X.env v = (do let ov ← holding [v] (eval (.Name x p2) X.env); let iv ← holding [v, ov] (eval k2 X.env); standAt apos2; holding [v, ov, iv] (setItem ov iv v); release [v, ov, iv] []) := by intro _; rfl) :
    PS X (.Assign [.Tuple [.Subscript (.Name x p) k apos, .Subscript (.Name x p2) k2 apos2] kt tpos] e pos) (sOf X.K W (sSwp i mk mk2 m)) :=
  (ps_asg he (pg_tup hc (pgs_cons (pg_sub (pe_var hN hv hd hcd) hk set_list ha) (pgs_cons (pg_sub (pe_var hN hv hd hcd) hk2 set_list ha2) pgs_nil hs2) hs1) hn hst) hs hw h1).imp fun D σ H ⟨F, ρ, τ, s, g⟩ => by
    refine run1 s ((GoodS.thn g).imp (fun c ρ1 q v F1 H1 s1 => ?_) fun _ _ q => q)
    split at q
    · rename_i d d2 ec
      rw [ec] at s1
      obtain ⟨a, vs, rfl, hl, rs⟩ := s1.fzOf.tupv
      obtain ⟨v1, v2, rfl, r1, r2⟩ := rs.two
      refine ⟨a, [v1, v2], rfl, hl.seq, rfl, v1, [v2], rfl, ?_⟩
      have s2 : Sta X.K F1 H1 σ ρ1 ((some v1, .fz d) :: ([(some v2, .fz d2)] ++ τ)) := (s1.drop.push r2).push r1
      refine putS_ok s2 q fun F3 H3 ρ3 s3 q3 => ⟨v2, [], rfl, ?_⟩
      refine putS_ok (l := []) s3 q3 fun F4 H4 ρ4 s4 q4 => ⟨rfl, ?_⟩
      exact q4 σ F4 H4 s4
    · exact q.elim
@[simp] theorem sSwp_ap (i : Nat) (mk mk2 me : M C) (ρ : Rho) : sSwp i mk mk2 me ρ = (me ρ).thn fun c ρ => match fzD c with
  | .tup [d, d2] => putS i mk d (putS i mk2 d2 fun ρ => .nx ρ) ρ
  | _ => .st := rfl
@[simp] theorem putS_ap (i : Nat) (mk : M C) (d : D) (k : Rho → SR) (ρ : Rho) : putS i mk d k ρ = if isOw ρ[i]? then (mk ρ).thn fun e ρ => match ρ[i]?, fzD e with
  | some (.ow cs), .int j => match setF j cs (.fz d) with
    | some cs' => k (ρ.set i (.ow cs'))
    | none => .st
  | _, _ => .st
  else .st := rfl
/-! y in d -/
def eInK (neg : Bool) (m : M C) (i : Nat) : M C := fun ρ => (m ρ).bind fun c ρ => match odOf ρ[i]?, keyD (fzD c) with
  | some kvs, some k => .ok (.fz (.bl (if neg then !(valD kvs k).isSome else (valD kvs k).isSome))) ρ
  | _, _ => .st
@[simp] theorem eInK_ap (neg : Bool) (m : M C) (i : Nat) (ρ : Rho) : eInK neg m i ρ = (m ρ).bind fun c ρ => match odOf ρ[i]?, keyD (fzD c) with
  | some kvs, some k => .ok (.fz (.bl (if neg then !(valD kvs k).isSome else (valD kvs k).isSome))) ρ
  | _, _ => .st := rfl
variable {a : Expr} {x : Str} {ma : M C}
theorem inK_ok {i : Nat} {σ : L2.St} {H : Hp} {Q : VK} {neg : Bool} (h : tOf X.K W (eInK neg ma i) σ H Q) :
    tOf X.K W ma σ H fun y H1 => tVar i σ H1 fun z H2 => ∃ a o, z = .ref a ∧ DGet H2 a y o ∧ Q (.bl (if neg then !o.isSome else o.isSome)) H2 := by
  obtain ⟨F, ρ, τ, s, g⟩ := h
  unfold eInK at g
  rw [Good.bind] at g
  refine run1 s (g.imp (fun c ρ1 q w F1 H1 s1 => ?_) fun _ _ q => q)
  split at q
  · rename_i kvs k hkv hk
    obtain ⟨a, vs, ev, hv, hr⟩ := s1.dict hkv
    refine ⟨.ref a, ev, a, valV vs k, rfl, .inl ⟨vs, k, hv, s1.fzOf.key hk, rfl⟩, ?_⟩
    rw [← hr.val.2]
    exact q _ F1 H1 (by simp) (s1.drop.push (.bl _))
  · exact q.elim
theorem d_inK (i : Nat) (hu : X.A.units + 1 < cLine) (ha : PE X a (tOf X.K W ma)) (hN : X.N[i]? = some x := by rfl) (hv : Vis X.env.scope x := by first | exact Or.inl rfl | exact Or.inr (Or.inl rfl) | exact Or.inr (Or.inr rfl)) (hd : (x == ("__debug__" : Str)) = false := by decide)
    (hcd : (x == ("__classdict__" : Str)) = false := by decide) (h1 : behindInMarks .In (.Name x p) = false := by first | exact nobehind _ (by decide) (by decide) | rfl) : PE X (.Compare a [.In] [.Name x p] pos) (tOf X.K W (eInK false ma i)) :=
  (pe_cmp (pc_din hu ha (pe_var hN hv hd hcd)) h1).imp fun σ H Q h => inK_ok (neg := false) h
theorem d_ninK (i : Nat) (hu : X.A.units + 1 < cLine) (ha : PE X a (tOf X.K W ma)) (hN : X.N[i]? = some x := by rfl) (hv : Vis X.env.scope x := by first | exact Or.inl rfl | exact Or.inr (Or.inl rfl) | exact Or.inr (Or.inr rfl)) (hd : (x == ("__debug__" : Str)) = false := by decide)
    (hcd : (x == ("__classdict__" : Str)) = false := by decide) (h1 : behindInMarks .NotIn (.Name x p) = false := by first | exact nobehind _ (by decide) (by decide) | rfl) : PE X (.Compare a [.NotIn] [.Name x p] pos) (tOf X.K W (eInK true ma i)) :=
  (pe_cmp (pc_dnotin hu ha (pe_var hN hv hd hcd)) h1).imp fun σ H Q h => inK_ok (neg := true) h
theorem dt_inK (i : Nat) (hu : X.A.units + 1 < cLine) (ha : PE X a (tOf X.K W ma)) (hN : X.N[i]? = some x := by rfl) (hv : Vis X.env.scope x := by first | exact Or.inl rfl | exact Or.inr (Or.inl rfl) | exact Or.inr (Or.inr rfl)) (hd : (x == ("__debug__" : Str)) = false := by decide)
    (hcd : (x == ("__classdict__" : Str)) = false := by decide) (h1 : behindInMarks .In (.Name x p) = false := by first | exact nobehind _ (by decide) (by decide) | rfl) : PT X (.Compare a [.In] [.Name x p] pos) (bOf X.K W (asB (eInK false ma i))) :=
  (pt_cmp (pc_din hu ha (pe_var hN hv hd hcd)) h1).imp fun σ H Q h => inK_ok (neg := false) (asB_ok h)
theorem dt_ninK (i : Nat) (hu : X.A.units + 1 < cLine) (ha : PE X a (tOf X.K W ma)) (hN : X.N[i]? = some x := by rfl) (hv : Vis X.env.scope x := by first | exact Or.inl rfl | exact Or.inr (Or.inl rfl) | exact Or.inr (Or.inr rfl)) (hd : (x == ("__debug__" : Str)) = false := by decide)
    (hcd : (x == ("__classdict__" : Str)) = false := by decide) (h1 : behindInMarks .NotIn (.Name x p) = false := by first | exact nobehind _ (by decide) (by decide) | rfl) : PT X (.Compare a [.NotIn] [.Name x p] pos) (bOf X.K W (asB (eInK true ma i))) :=
  (pt_cmp (pc_dnotin hu ha (pe_var hN hv hd hcd)) h1).imp fun σ H Q h => inK_ok (neg := true) (asB_ok h)
/-! dict(d) -/
def eDcp (i : Nat) : M C := fun ρ => match odOf ρ[i]? with
  | some kvs => .ok (.od kvs) ρ
  | none => .st
@[simp] theorem eDcp_ap (i : Nat) (ρ : Rho) : eDcp i ρ = match odOf ρ[i]? with
  | some kvs => .ok (.od kvs) ρ
  | none => .st := rfl
theorem d_dcp (i : Nat) {y : Str} (hm : X.mg "dict" = none) (hN : X.N[i]? = some y := by rfl) (hy : Vis X.env.scope y := by first | exact Or.inl rfl | exact Or.inr (Or.inl rfl) | exact Or.inr (Or.inr rfl))
    (hg : Gl X "dict" := by rfl) (hd2 : (y == ("__debug__" : Str)) = false := by decide) (hcd : (y == ("__classdict__" : Str)) = false := by decide)
    (he : starEach [Expr.Name y p2] X.env = (false, eval (Expr.Name y p2) X.env) :: starEach [] X.env := by rfl) : PE X (.Call (.Name "dict" p) [.Name y p2] [] pos) (tOf X.K W (eDcp i)) :=
  (pe_callTy call_dictD hg hm (by decide +kernel) (pa_cons (pe_var hN hy hd2 hcd) pa_nil he) (by decide) (by decide) he rfl).imp fun σ H Q ⟨F, ρ, τ, s, g⟩ => by
    unfold eDcp at g
    split at g
    · rename_i kvs hkv
      obtain ⟨a, vs, ev, hv, hr⟩ := s.dict hkv
      exact ⟨_, ev, a, vs, rfl, hv, fun p hp => g _ F _ (by simp) (s.mkD hp hr)⟩
    · exact g.elim
/-! {a: b} -/
def eDis1 (mk mv : M C) : M C := fun ρ => (mk ρ).bind fun c ρ => (mv ρ).bind fun d ρ => match keyD (fzD c) with
  | some k => .ok (.od [(k, fzD d)]) ρ
  | none => .st
@[simp] theorem eDis1_ap (mk mv : M C) (ρ : Rho) : eDis1 mk mv ρ = (mk ρ).bind fun c ρ => (mv ρ).bind fun d ρ => match keyD (fzD c) with
  | some k => .ok (.od [(k, fzD d)]) ρ
  | none => .st := rfl
theorem d_dis1 {ke ve : Expr} {mk mv : M C} (hk : PE X ke (tOf X.K W mk)) (hv : PE X ve (tOf X.K W mv)) : PE X (.Dict [some ke] [ve] pos) (tOf X.K W (eDis1 mk mv)) :=
  (pe_disp (pps_cons hk hv pps_nil) rfl rfl (by simp) (by simp)).imp fun σ H Q ⟨F, ρ, τ, s, g⟩ => by
    intro p hp
    unfold eDis1 at g
    rw [Good.bind] at g
    have s0 := s.mkD hp (.nil : RepK X.K F H [] [])
    refine run1 s0 (g.imp (fun c ρ1 q w F1 H1 s1 => ?_) fun _ _ q => q.drop)
    rw [Good.bind] at q
    refine run1 s1 (q.imp (fun d ρ2 q2 w2 F2 H2 s2 => ?_) fun _ _ q => q.drop.drop)
    split at q2
    · rename_i k hk
      have hkey := s2.drop.fzOf.key hk
      have s3 := (s2.perm (τ' := (some (.ref p), .od []) :: (some w2, .fz (fzD d)) :: (some w, .fz (fzD c)) :: τ) (by
        refine (List.Perm.cons _ (.swap _ _ _)).trans ?_
        exact .swap _ _ _))
      obtain ⟨a', vs, e1, e2, rk⟩ := s3.odGet
      cases e1
      cases rk
      refine ⟨e2, [(k, w2)], by simp [hkey], by simp, ?_⟩
      have s4 := s3.odPut (k := k) e2
      exact q2 (.ref p) F2 _ (by simp) s4.swap.drop
    · exact q2.elim
end
end Dn

/-! Den33: to lend lists to an expression that answers numbers or a list of numbers. -/
namespace Dn
open PySem PySem.Spec PyProof.Rows L2
mutual
def fltD : D → Bool
  | .non => true
  | .bl _ => true
  | .int _ => true
  | .str _ => true
  | .tup ds => fltDs ds
  | _ => false
def fltDs : List D → Bool
  | [] => true
  | d :: ds => fltD d && fltDs ds
end
theorem fltDs_map {α : Type} (f : α → D) : ∀ l : List α, (∀ a ∈ l, fltD (f a) = true) → fltDs (l.map f) = true
  | [], _ => by simp [fltDs]
  | a :: l, h => by simp [fltDs, h a List.mem_cons_self, fltDs_map f l fun b m => h b (List.mem_cons_of_mem _ m)]
def lndC : C → C
  | .fz d => .fz d
  | .ow cs => match allFz cs with
    | some ds => .fz (.lst ds)
    | none => .no
  | _ => .no
abbrev lndR (ρ : Rho) : Rho := ρ.map lndC
@[simp] theorem lndC_fz (d : D) : lndC (.fz d) = .fz d := rfl
@[simp] theorem lndC_no : lndC .no = .no := rfl
theorem lndC_ow (ds : List D) : lndC (.ow (ds.map C.fz)) = .fz (.lst ds) := by simp [lndC, allFz_map]
def eLendL (m : M C) : M C := fun ρ => match m (lndR ρ) with
  | .ok (.ow cs) _ => match allFz cs with
    | some ds => if fltDs ds then .ok (.ow (ds.map .fz)) ρ else .st
    | none => .st
  | .ok (.fz z) _ => if fltD z then .ok (.fz z) ρ else .st
  | _ => .st
@[simp] theorem eLendL_ap (m : M C) (ρ : Rho) : eLendL m ρ = match m (lndR ρ) with
  | .ok (.ow cs) _ => match allFz cs with
    | some ds => if fltDs ds then .ok (.ow (ds.map .fz)) ρ else .st
    | none => .st
  | .ok (.fz z) _ => if fltD z then .ok (.fz z) ρ else .st
  | _ => .st := rfl
section
variable {K : PySem.W.Frag} {F F' : Addr → Prop} {H H' : Hp}
def Kind (H : Hp) (a : Addr) : Prop := (∃ vs, H a = some (.lst vs)) ∨ (∃ vs, H a = some (.tup vs)) ∨ ∃ kvs, H a = some (.dK kvs)
mutual
theorem RepC.kind : ∀ {v : V} {c : C} {O : List Addr}, RepC K F H v c O → ∀ a ∈ O, Kind H a
  | _, _, _, .fz _, a, m => nomatch m
  | _, _, _, .ow e r, a, m => (List.mem_cons.mp m).elim (fun z => .inl ⟨_, z ▸ e⟩) (RepCs.kind r a)
  | _, _, _, .tp e r, a, m => (List.mem_cons.mp m).elim (fun z => .inr (.inl ⟨_, z ▸ e⟩)) (RepCs.kind r a)
  | _, _, _, .od e r, a, m => .inr (.inr ⟨_, List.mem_singleton.mp m ▸ e⟩)
  | _, _, _, .pl e r, a, m => (List.mem_cons.mp m).elim (fun z => .inl ⟨_, z ▸ e⟩) (RepCs.kind r a)
  | _, _, _, .wp q e r, a, m => (List.mem_append.mp m).elim (RepC.kind q a) fun m => (List.mem_cons.mp m).elim (fun z => .inl ⟨_, z ▸ e⟩) (RepCs.kind r a)
theorem RepCs.kind : ∀ {v : List V} {c : List C} {O : List Addr}, RepCs K F H v c O → ∀ a ∈ O, Kind H a
  | _, _, _, .nil, a, m => nomatch m
  | _, _, _, .cons q r, a, m => (List.mem_append.mp m).elim (RepC.kind q a) (RepCs.kind r a)
end
theorem RepP.kind : ∀ {ps : List Pr} {O : List Addr}, RepP K F H ps O → ∀ a ∈ O, Kind H a
  | _, _, .nil, a, m => nomatch m
  | _, _, .no r, a, m => RepP.kind r a m
  | _, _, .cons q r, a, m => (List.mem_append.mp m).elim (RepC.kind q a) (RepP.kind r a)
def isTp (H : Hp) (a : Addr) : Bool := match H a with
  | some (.tup _) => true
  | _ => false
def tpOf (H : Hp) (a : Addr) : List V := match H a with
  | some (.tup vs) => vs
  | _ => []
/-- the owned tuples, as they are -/
def tpP (H : Hp) (a : Addr) : Pr := (some (.ref a), .tp ((tpOf H a).map fun v => .fz (.ob v)))
theorem obs_rep : ∀ vs : List V, RepCs K F H vs (vs.map fun v => C.fz (.ob v)) []
  | [] => .nil
  | v :: vs => .cons (O := []) (O' := []) (.fz (.ob v)) (obs_rep vs)
theorem obs_eq : ∀ {vs ws : List V} {O : List Addr}, RepCs K F H ws (vs.map fun v => C.fz (.ob v)) O → ws = vs
  | [], _, _, .nil => rfl
  | v :: vs, _, _, .cons q r => by
    cases q with
    | fz q => cases q with
      | ob v => rw [obs_eq r]
theorem tp_at {a : Addr} (h : isTp H a = true) : H a = some (.tup (tpOf H a)) := by
  unfold isTp at h
  unfold tpOf
  split at h
  · rename_i vs e; rw [e]
  · cases h
theorem tps_rep {T : List Addr} (h : ∀ a ∈ T, isTp H a = true) : RepP K F H (T.map (tpP H)) T := by
  induction T with
  | nil => exact .nil
  | cons a T ih =>
    have h1 := tp_at (h a List.mem_cons_self)
    exact .cons (O := [a]) (.tp h1 (obs_rep _)) (ih fun b m => h b (List.mem_cons_of_mem _ m))
/-- they are still so -/
theorem tps_back {T : List Addr} : ∀ {O : List Addr}, RepP K F H' (T.map (tpP H)) O → O = T ∧ ∀ a ∈ T, H' a = some (.tup (tpOf H a)) := by
  induction T with
  | nil => intro O r; cases r; exact ⟨rfl, nofun⟩
  | cons a T ih =>
    intro O r
    cases r with
    | cons q r =>
      cases q with
      | tp e q =>
        have e2 := obs_eq q
        obtain ⟨e3, h3⟩ := ih r
        have : ∀ {vs ws : List V} {O : List Addr}, RepCs K F H' ws (vs.map fun v => C.fz (.ob v)) O → O = [] := by
          intro vs
          induction vs with
          | nil => intro ws O r; cases r; rfl
          | cons v vs ih => intro ws O r; cases r with
            | cons q r => cases q with
              | fz q => simpa using ih r
        have hO := this q
        subst hO
        refine ⟨by simp [e3], fun b m => ?_⟩
        rcases List.mem_cons.mp m with rfl | m
        · rw [e, e2]
        · exact h3 b m
theorem RepP.lnd (hF : ∀ a, F a → F' a) (hL : ∀ a vs, H a = some (.lst vs) → F' a) : ∀ {σ : L2.St} {ρ : Rho} {τ : List Pr} {O : List Addr}, RepP K F H (σ.zip ρ ++ τ) O → RepP K F' H (σ.zip (lndR ρ)) []
  | [], _, _, _, _ => by simpa using RepP.nil
  | _ :: _, [], _, _, _ => by simpa using RepP.nil
  | x :: σ, c :: ρ, τ, _, r => by
    simp only [List.zip_cons_cons, List.cons_append, List.map_cons] at r ⊢
    have rest : ∀ {O}, RepP K F H (σ.zip ρ ++ τ) O → RepP K F' H (σ.zip (lndR ρ)) [] := fun r => RepP.lnd hF hL r
    cases r with
    | no r => exact .no (rest r)
    | cons q r =>
      cases q with
      | fz q => exact .cons (O := []) (O' := []) (.fz (Rep.mono hF (fun _ _ => rfl) q)) (rest r)
      | @ow _ _ cs _ e q =>
        cases hds : allFz cs with
        | some ds =>
          have e2 : lndC (.ow cs) = .fz (.lst ds) := by simp only [lndC, hds]
          rw [allFz_eq hds] at q
          rw [e2]
          exact .cons (O := []) (O' := []) (.fz (.lst ⟨hL _ _ e, e⟩ (Reps.mono hF (fun _ _ => rfl) q.fzs))) (rest r)
        | none =>
          have e2 : lndC (.ow cs) = .no := by simp only [lndC, hds]
          rw [e2]
          exact .no (rest r)
      | tp e q => exact .no (rest r)
      | od e q => exact .no (rest r)
      | pl e q => exact .no (rest r)
      | wp _ e q => exact .no (rest r)
theorem RepP.app {ps qs : List Pr} {O O' : List Addr} (r : RepP K F H ps O) (q : RepP K F H qs O') : RepP K F H (ps ++ qs) (O ++ O') := by
  induction r with
  | nil => exact q
  | no _ ih => exact .no ih
  | cons c _ ih => rw [List.append_assoc]; exact .cons c ih
mutual
theorem Rep.flt {F2 : Addr → Prop} (hT : ∀ a vs, F a → Rd H a (.tup vs) → F2 a) : ∀ {v : V} {d : D}, Rep K F H v d → fltD d = true → Rep K F2 H v d
  | _, _, .non, _ => .non
  | _, _, .bl b, _ => .bl b
  | _, _, .int b, _ => .int b
  | _, _, .str b, _ => .str b
  | _, _, .ob b, h => by simp [fltD] at h
  | _, _, .gh _, h => by simp [fltD] at h
  | _, _, .lst _ _, h => by simp [fltD] at h
  | _, _, .fr _ _, h => by simp [fltD] at h
  | _, _, .dk _ _ _, h => by simp [fltD] at h
  | _, _, .tup a r, h => by
    rw [fltD] at h
    refine .tup ?_ (Reps.flt hT r h)
    rcases a with ⟨f, e⟩ | w
    · exact .inl ⟨hT _ _ f e, e⟩
    · exact .inr w
theorem Reps.flt {F2 : Addr → Prop} (hT : ∀ a vs, F a → Rd H a (.tup vs) → F2 a) : ∀ {vs : List V} {ds : List D}, Reps K F H vs ds → fltDs ds = true → Reps K F2 H vs ds
  | _, _, .nil, _ => .nil
  | _, _, .cons r rs, h => by
    rw [fltDs, Bool.and_eq_true] at h
    exact .cons (Rep.flt hT r h.1) (Reps.flt hT rs h.2)
end
theorem Reps.toCs : ∀ {vs : List V} {ds : List D}, Reps K F H vs ds → RepCs K F H vs (ds.map C.fz) []
  | _, _, .nil => .nil
  | _, _, .cons r rs => .cons (O := []) (O' := []) (.fz r) (Reps.toCs rs)
/-- the state of the loan: owned lists and dicts frozen, owned tuples kept -/
theorem Sta.lendL {σ : L2.St} {ρ : Rho} {τ : List Pr} (s : Sta K F H σ ρ τ) : ∃ (T : List Addr) (F' : Addr → Prop) (O : List Addr), RepP K F H (σ.zip ρ ++ τ) O ∧ O.Nodup ∧ (∀ a ∈ O, ¬ F a) ∧ (∀ a, a ∈ T ↔ a ∈ O ∧ isTp H a = true) ∧ (∀ a, F' a ↔ H a ≠ none ∧ a ∉ T) ∧
    Sta K F' H σ (lndR ρ) (T.map (tpP H) ++ [(some .non, .fz (.gh F' H))]) := by
  obtain ⟨e, O, r, nd, nf, dm⟩ := s
  refine ⟨O.filter (isTp H), fun a => H a ≠ none ∧ a ∉ O.filter (isTp H), O, r, nd, nf, fun a => by rw [List.mem_filter], fun a => Iff.rfl, by simpa using e, ?_⟩
  have h1 : RepP K (fun a => H a ≠ none ∧ a ∉ O.filter (isTp H)) H (σ.zip (lndR ρ)) [] := RepP.lnd (fun a f => ⟨dm a f, fun m => nf a (List.mem_filter.mp m).1 f⟩) (fun a vs q => ⟨by rw [q]; simp, fun m => by
    have := (List.mem_filter.mp m).2
    unfold isTp at this
    rw [q] at this
    cases this⟩) r
  have h2 : RepP K (fun a => H a ≠ none ∧ a ∉ O.filter (isTp H)) H ((O.filter (isTp H)).map (tpP H)) (O.filter (isTp H)) := tps_rep fun a m => (List.mem_filter.mp m).2
  have h3 : RepP K (fun a => H a ≠ none ∧ a ∉ O.filter (isTp H)) H [(some V.non, C.fz (.gh (fun a => H a ≠ none ∧ a ∉ O.filter (isTp H)) H))] [] := .cons (O := []) (O' := []) (.fz (.gh fun a g => ⟨g, rfl⟩)) .nil
  have h4 := h1.app (h2.app h3)
  rw [List.nil_append, List.append_nil] at h4
  exact ⟨O.filter (isTp H), h4, nd.filter _, fun a m f => f.2 m, fun a f => f.1⟩
/-- and back -/
theorem Sta.backL {σ : L2.St} {ρ ρ2 : Rho} {τ : List Pr} {T O : List Addr} {F2 : Addr → Prop} {H2 : Hp} {v : V} {c : C} (s : Sta K F H σ ρ τ) (r : RepP K F H (σ.zip ρ ++ τ) O) (nd : O.Nodup) (nf : ∀ a ∈ O, ¬ F a) (hT : ∀ a, a ∈ T ↔ a ∈ O ∧ isTp H a = true) (hF : ∀ a, F' a ↔ H a ≠ none ∧ a ∉ T)
    (s2 : Sta K F2 H2 σ ρ2 ((some v, c) :: (T.map (tpP H) ++ [(some .non, .fz (.gh F' H))]))) :
    (∀ z, c = .fz z → fltD z = true → ∃ F3, Sta K F3 H2 σ ρ ((some v, .fz z) :: τ)) ∧ (∀ ds, c = .ow (ds.map C.fz) → fltDs ds = true → ∃ F3, Sta K F3 H2 σ ρ ((some v, .ow (ds.map C.fz)) :: τ)) := by
  obtain ⟨e, O0, r0, nd0, nf0, dm0⟩ := s
  obtain ⟨e2, O2, r2, nd2, nf2, dm2⟩ := s2
  obtain ⟨O2', r2', p2⟩ := RepP.perm (List.perm_append_comm) r2
  have nd3 := p2.nodup_iff.mp nd2
  have nf3 : ∀ a ∈ O2', ¬ F2 a := fun a m => nf2 a (p2.mem_iff.mpr m)
  rw [List.cons_append, List.append_assoc] at r2'
  cases r2' with
  | no r2' => exact ⟨fun z h => (nomatch h), fun ds h => (nomatch h)⟩
  | @cons _ _ _ Oc Or q r2' =>
    obtain ⟨O3, O4, r3, r4, rfl⟩ := RepP.split r2'
    obtain ⟨rfl, hTH⟩ := tps_back r3
    have hg : ∀ a, F' a → F2 a ∧ H2 a = H a := by
      cases r4 with
      | cons q4 r4 => cases q4 with
        | fz q4 => cases q4 with
          | gh h => exact h
    have hnT : ∀ a ∈ O3, ¬ F2 a := fun a m => nf3 a (List.mem_append_right _ (List.mem_append_left _ m))
    have hsame : ∀ a, H a ≠ none → H2 a = H a := fun a h => by
      by_cases m : a ∈ O3
      · rw [hTH a m, ← tp_at ((hT a).mp m).2]
      · exact (hg a ((hF a).mpr ⟨h, m⟩)).2
    have dom : ∀ a ∈ O, H a ≠ none := fun a m => RepP.dom r a m
    -- what is frozen now
    have hd : ∀ a ∈ O, ¬ (F a ∨ (F2 a ∧ ∃ vs, Rd H2 a (.tup vs))) := fun a m z => by
      rcases z with z | ⟨z, vs, w⟩
      · exact nf a m z
      · have hk := RepP.kind r a m
        have e1 := hsame a (dom a m)
        rcases hk with ⟨xs, k⟩ | ⟨xs, k⟩ | ⟨xs, k⟩
        · rw [← e1] at k; rcases w with w | ⟨o, w⟩ <;> rw [k] at w <;> cases w
        · exact hnT a ((hT a).mpr ⟨m, by unfold isTp; rw [k]⟩) z
        · rw [← e1] at k; rcases w with w | ⟨o, w⟩ <;> rw [k] at w <;> cases w
    have dm : ∀ a, F a → H a ≠ none := fun a f => dm0 a f
    have rold : RepP K (fun a => F a ∨ (F2 a ∧ ∃ vs, Rd H2 a (.tup vs))) H2 (σ.zip ρ ++ τ) O := RepP.mono (fun a f => .inl f) (fun a f => hsame a (dm a f)) r fun a m => hsame a (dom a m)
    have dmn : ∀ a, (F a ∨ (F2 a ∧ ∃ vs, Rd H2 a (.tup vs))) → H2 a ≠ none := fun a z => by
      rcases z with z | ⟨z, _⟩
      · rw [hsame a (dm a z)]; exact dm a z
      · exact dm2 a z
    refine ⟨fun z hc hz => ?_, fun ds hc hz => ?_⟩
    · subst hc
      cases q with
      | fz q =>
        have q2 : Rep K (fun a => F a ∨ (F2 a ∧ ∃ vs, Rd H2 a (.tup vs))) H2 v z := Rep.flt (fun a vs f w => .inr ⟨f, vs, w⟩) q hz
        have all : All K (fun a => F a ∨ (F2 a ∧ ∃ vs, Rd H2 a (.tup vs))) H2 (σ.zip ρ ++ τ) := ⟨O, rold, nd, hd, dmn⟩
        exact ⟨_, (show Sta K _ H2 σ ρ τ from ⟨e, all⟩).push q2⟩
    · subst hc
      cases q with
      | @ow a vs _ Oi ea q =>
        have q1 := q.fzs
        have q2 : Reps K (fun a => F a ∨ (F2 a ∧ ∃ vs, Rd H2 a (.tup vs))) H2 vs ds := Reps.flt (fun a vs f w => .inr ⟨f, vs, w⟩) q1 hz
        have haF : ¬ F2 a := nf3 a (List.mem_append_left _ List.mem_cons_self)
        have haT : a ∉ O3 := fun m => (List.nodup_append.mp nd3).2.2 a List.mem_cons_self a (List.mem_append_left _ m) rfl
        have hfresh : H a = none := Classical.byContradiction fun z => haF (hg a ((hF a).mpr ⟨z, haT⟩)).1
        have haO : a ∉ O := fun m => dom a m hfresh
        have rc : RepC K (fun a => F a ∨ (F2 a ∧ ∃ vs, Rd H2 a (.tup vs))) H2 (.ref a) (.ow (ds.map C.fz)) [a] := .ow ea q2.toCs
        have all : All K (fun a => F a ∨ (F2 a ∧ ∃ vs, Rd H2 a (.tup vs))) H2 ((some (.ref a), .ow (ds.map C.fz)) :: (σ.zip ρ ++ τ)) := by
          refine ⟨[a] ++ O, .cons rc rold, ?_, fun b m => ?_, dmn⟩
          · rw [List.singleton_append]; exact List.nodup_cons.mpr ⟨haO, nd⟩
          · rcases List.mem_append.mp m with m | m
            · rw [List.mem_singleton.mp m]
              rintro (z | ⟨z, _⟩)
              · exact dm a z hfresh
              · exact haF z
            · exact hd b m
        exact ⟨_, e, all.perm List.perm_middle.symm⟩
variable {X : Cx} {W : WX}
theorem lendL_ok {m : M C} {σ : L2.St} {Q : VK} (h : tOf K W (eLendL m) σ H Q) : tOf K W m σ H Q := by
  obtain ⟨F, ρ, τ, s, g⟩ := h
  obtain ⟨T, F', O, r, nd, nf, hT, hF, s1⟩ := s.lendL
  refine ⟨_, _, _, s1, ?_⟩
  simp only [eLendL_ap] at g
  generalize hm : m (lndR ρ) = rr at g
  unfold lndR at hm
  cases rr with
  | st => exact g.elim
  | er e _ => exact g.elim
  | ok c ρ2 =>
    intro v F2 H2 nc s2
    have hb := s.backL r nd nf hT hF s2
    cases c with
    | fz z =>
      simp only at g
      split at g
      · rename_i hz
        obtain ⟨F3, s3⟩ := hb.1 z rfl hz
        exact g v F3 H2 nc s3
      · exact g.elim
    | ow cs =>
      simp only at g
      split at g
      · rename_i ds hds
        split at g
        · rename_i hz
          have ecs := allFz_eq hds
          subst ecs
          obtain ⟨F3, s3⟩ := hb.2 ds rfl hz
          exact g v F3 H2 nc s3
        · exact g.elim
      · exact g.elim
    | _ => exact g.elim
theorem d_lendL {e : Expr} {m : M C} (h : PE X e (tOf X.K W m)) : PE X e (tOf X.K W (eLendL m)) := h.imp fun _ _ _ q => lendL_ok q
end
end Dn

/-! Den34: a or b of values. -/
namespace Dn
open PySem PySem.Spec PyProof.Rows L2
section
variable {X : Cx} {W : WX} {pos : Pos} {a b : Expr} {rest : List Expr} {m n : M C} {ρ : Rho}
def eOrT (m n : M C) : M C := fun ρ => (m ρ).bind fun c ρ => match truD (fzD c) with
  | some true => .ok (.fz (fzD c)) ρ
  | some false => n ρ
  | none => .st
@[simp] theorem eOrT_ap : eOrT m n ρ = (m ρ).bind fun c ρ => match truD (fzD c) with
  | some true => .ok (.fz (fzD c)) ρ
  | some false => n ρ
  | none => .st := rfl
theorem d_orT (ha : PE X a (tOf X.K W m)) (hb : PE X (.BoolOp .Or (b :: rest) pos) (tOf X.K W n)) : PE X (.BoolOp .Or (a :: b :: rest) pos) (tOf X.K W (eOrT m n)) := (pe_orT ha hb).imp fun σ H Q ⟨F, ρ, τ, s, g⟩ => by
  unfold eOrT at g
  rw [Good.bind] at g
  refine run1 s (g.imp (fun c ρ1 q v F1 H1 s1 => ?_) fun _ _ q => q)
  split at q
  · rename_i hk
    refine ⟨true, s1.fzOf.tru hk, ?_⟩
    rw [if_pos rfl]
    exact q v F1 H1 (by simp) (s1.drop.push s1.fzOf)
  · rename_i hk
    refine ⟨false, s1.fzOf.tru hk, ?_⟩
    rw [if_neg (by simp)]
    exact ⟨F1, ρ1, τ, s1.drop, q⟩
  · exact q.elim
end
end Dn

/-! Num: rational numbers as pairs. -/
namespace Dn
open PySem PySem.Spec PyProof.Rows L2

abbrev nD (q : Rat) : D := .tup [.int q.num, .int q.den]
abbrev nC (q : Rat) : C := .fz (nD q)
def Okq (q : Rat) : Prop := q.num.natAbs < 2 ^ 2600 ∧ q.den < 2 ^ 2600
theorem log2_lt {n k : Nat} (h0 : 0 < k) (h : n < 2 ^ k) : n.log2 < k := by
  by_cases hn : n = 0
  · subst hn; simpa using h0
  · exact (Nat.log2_lt hn).mpr h
theorem wide_of {i j : Int} {a b : Nat} (h1 : i.natAbs < 2 ^ a) (h2 : j.natAbs < 2 ^ b) (h : a + b ≤ 900000) (ha : 0 < a) (hb : 0 < b) : wide i j = true := by
  unfold wide
  have := log2_lt ha h1
  have := log2_lt hb h2
  simp only [Bool.or_eq_true, decide_eq_true_eq]
  omega
/-- a small factor -/
theorem wide_r {i j : Int} (h : j.natAbs < 2 ^ 60) : wide i j = true := by
  unfold wide
  have := log2_lt (by decide) h
  simp only [Bool.or_eq_true, decide_eq_true_eq]
  omega
/-! Euclid's steps -/
def kf : Nat → Nat
  | 0 => 1
  | 1 => 2
  | n + 2 => kf (n + 1) + kf n
theorem kf_mono : ∀ n, kf n ≤ kf (n + 1)
  | 0 => by decide
  | n + 1 => by show kf (n + 1) ≤ kf (n + 1) + kf n; omega
theorem kf_pos : ∀ n, 0 < kf n
  | 0 => by decide
  | n + 1 => Nat.lt_of_lt_of_le (kf_pos n) (kf_mono n)
theorem kf36 (n : Nat) : 2 ^ 24 * kf n ≤ kf (n + 36) := by
  have h := kf_mono n
  have e0 : kf (n + 2) = kf (n + 1) + kf (n) := rfl
  have e1 : kf (n + 3) = kf (n + 2) + kf (n + 1) := rfl
  have e2 : kf (n + 4) = kf (n + 3) + kf (n + 2) := rfl
  have e3 : kf (n + 5) = kf (n + 4) + kf (n + 3) := rfl
  have e4 : kf (n + 6) = kf (n + 5) + kf (n + 4) := rfl
  have e5 : kf (n + 7) = kf (n + 6) + kf (n + 5) := rfl
  have e6 : kf (n + 8) = kf (n + 7) + kf (n + 6) := rfl
  have e7 : kf (n + 9) = kf (n + 8) + kf (n + 7) := rfl
  have e8 : kf (n + 10) = kf (n + 9) + kf (n + 8) := rfl
  have e9 : kf (n + 11) = kf (n + 10) + kf (n + 9) := rfl
  have e10 : kf (n + 12) = kf (n + 11) + kf (n + 10) := rfl
  have e11 : kf (n + 13) = kf (n + 12) + kf (n + 11) := rfl
  have e12 : kf (n + 14) = kf (n + 13) + kf (n + 12) := rfl
  have e13 : kf (n + 15) = kf (n + 14) + kf (n + 13) := rfl
  have e14 : kf (n + 16) = kf (n + 15) + kf (n + 14) := rfl
  have e15 : kf (n + 17) = kf (n + 16) + kf (n + 15) := rfl
  have e16 : kf (n + 18) = kf (n + 17) + kf (n + 16) := rfl
  have e17 : kf (n + 19) = kf (n + 18) + kf (n + 17) := rfl
  have e18 : kf (n + 20) = kf (n + 19) + kf (n + 18) := rfl
  have e19 : kf (n + 21) = kf (n + 20) + kf (n + 19) := rfl
  have e20 : kf (n + 22) = kf (n + 21) + kf (n + 20) := rfl
  have e21 : kf (n + 23) = kf (n + 22) + kf (n + 21) := rfl
  have e22 : kf (n + 24) = kf (n + 23) + kf (n + 22) := rfl
  have e23 : kf (n + 25) = kf (n + 24) + kf (n + 23) := rfl
  have e24 : kf (n + 26) = kf (n + 25) + kf (n + 24) := rfl
  have e25 : kf (n + 27) = kf (n + 26) + kf (n + 25) := rfl
  have e26 : kf (n + 28) = kf (n + 27) + kf (n + 26) := rfl
  have e27 : kf (n + 29) = kf (n + 28) + kf (n + 27) := rfl
  have e28 : kf (n + 30) = kf (n + 29) + kf (n + 28) := rfl
  have e29 : kf (n + 31) = kf (n + 30) + kf (n + 29) := rfl
  have e30 : kf (n + 32) = kf (n + 31) + kf (n + 30) := rfl
  have e31 : kf (n + 33) = kf (n + 32) + kf (n + 31) := rfl
  have e32 : kf (n + 34) = kf (n + 33) + kf (n + 32) := rfl
  have e33 : kf (n + 35) = kf (n + 34) + kf (n + 33) := rfl
  have e34 : kf (n + 36) = kf (n + 35) + kf (n + 34) := rfl
  have e99 : (2 : Nat) ^ 24 = 16777216 := by decide
  rw [e99]
  omega
theorem kf_big : ∀ k, 2 ^ (24 * k) ≤ kf (36 * k)
  | 0 => by decide
  | k + 1 => by
    have h := kf36 (36 * k)
    have ih := kf_big k
    have e1 : 36 * (k + 1) = 36 * k + 36 := by omega
    have e2 : 24 * (k + 1) = 24 + 24 * k := by omega
    rw [e1, e2, Nat.pow_add]
    exact Nat.le_trans (Nat.mul_le_mul_left _ ih) h
theorem kf_le {m n : Nat} (h : m ≤ n) : kf m ≤ kf n := by
  induction h with
  | refl => exact Nat.le_refl _
  | step _ ih => exact Nat.le_trans ih (kf_mono _)
theorem kf4000 : 2 ^ 2600 ≤ kf 4000 := by
  have h := kf_big 111
  have h2 : kf (36 * 111) ≤ kf 4000 := kf_le (by decide)
  have h3 : (2 : Nat) ^ 2600 ≤ 2 ^ (24 * 111) := Nat.pow_le_pow_right (by decide) (by decide)
  exact Nat.le_trans h3 (Nat.le_trans h h2)
/-- Euclid's steps on what is left of the list -/
def eu : Nat → Int → Int → Int × Int
  | 0, a, b => (a, b)
  | n + 1, a, b => if b = 0 then (a, b) else eu n b (a % b)
theorem eu_gcd : ∀ (n : Nat) (a b : Nat), b < kf n * Nat.gcd a b → (eu n a b).1 = (Nat.gcd a b : Nat)
  | 0, a, b, h => by
    have hb : b = 0 := by
      cases b with
      | zero => rfl
      | succ b =>
        exfalso
        have h2 : Nat.gcd a (b + 1) ≤ b + 1 := Nat.gcd_le_right a (Nat.succ_pos b)
        have h3 : b + 1 < 1 * Nat.gcd a (b + 1) := h
        omega
    subst hb
    simp [eu]
  | n + 1, a, b, h => by
    unfold eu
    by_cases hb : b = 0
    · subst hb; simp
    · have hb' : ¬ ((b : Nat) : Int) = 0 := by omega
      rw [if_neg hb']
      have e : ((a : Nat) : Int) % ((b : Nat) : Int) = ((a % b : Nat) : Int) := by simp
      rw [e]
      have hg : Nat.gcd b (a % b) = Nat.gcd a b := by rw [Nat.gcd_comm, ← Nat.gcd_rec, Nat.gcd_comm]
      by_cases hr : a % b < kf n * Nat.gcd b (a % b)
      · rw [eu_gcd n b (a % b) hr, hg]
      · -- the next rest is small
        rw [hg] at hr
        cases n with
        | zero =>
          exfalso
          have h1 : b < 2 * Nat.gcd a b := by simpa [kf] using h
          obtain ⟨q, hq⟩ := Nat.gcd_dvd_right a b
          have hq1 : q = 1 := by
            have hg0 : 0 < Nat.gcd a b := Nat.gcd_pos_of_pos_right a (by omega)
            have : Nat.gcd a b * q < Nat.gcd a b * 2 := by omega
            have := Nat.lt_of_mul_lt_mul_left this
            cases q with
            | zero => simp at hq; omega
            | succ q => omega
          subst hq1
          have hba : b ∣ a := by
            have := Nat.gcd_dvd_left a b
            rw [Nat.mul_one] at hq
            rw [← hq] at this
            exact this
          have : a % b = 0 := Nat.mod_eq_zero_of_dvd hba
          have hg0 : 0 < Nat.gcd a b := Nat.gcd_pos_of_pos_right a (by omega)
          simp [kf, this] at hr
          omega
        | succ n =>
          have hr' : kf (n + 1) * Nat.gcd a b ≤ a % b := by omega
          have hk : kf (n + 1 + 1) * Nat.gcd a b = kf (n + 1) * Nat.gcd a b + kf n * Nat.gcd a b := by
            show (kf (n + 1) + kf n) * _ = _
            rw [Nat.add_mul]
          have hr0 : 0 < a % b := by
            have hg0 : 0 < Nat.gcd a b := Nat.gcd_pos_of_pos_right a (by omega)
            have := Nat.mul_pos (kf_pos (n + 1)) hg0
            omega
          have hlt : a % b < b := Nat.mod_lt _ (by omega)
          unfold eu
          have hr0' : ¬ ((a % b : Nat) : Int) = 0 := by omega
          rw [if_neg hr0']
          have e2 : ((b : Nat) : Int) % ((a % b : Nat) : Int) = ((b % (a % b) : Nat) : Int) := by simp
          rw [e2]
          have hg2 : Nat.gcd (a % b) (b % (a % b)) = Nat.gcd a b := by rw [Nat.gcd_comm, ← Nat.gcd_rec, Nat.gcd_comm, hg]
          have hs : b % (a % b) ≤ b - a % b := by
            rw [Nat.mod_eq_sub_mod (by omega)]
            exact Nat.mod_le _ _
          rw [eu_gcd n (a % b) (b % (a % b)) (by rw [hg2]; omega), hg2]
/-! rational numbers -/
theorem nD_inj {a b : Rat} (h : a.num = b.num) (h2 : a.den = b.den) : a = b := Rat.ext h h2
theorem toPy_nD (q : Rat) : toPy (nD q) = some (.tuple [.int q.num, .int q.den]) := by simp [toPy, toPys]
theorem eqP_nD (a b : Rat) : eqP (nD a) (nD b) = some (decide (a = b)) := by
  unfold eqP eqS eqQ
  simp only [toPy_nD]
  have hs : ∀ q : Rat, SeqAt.shaped (.tuple [.int q.num, .int (q.den : Int)]) = true := fun q => by
    simp [SeqAt.shaped, PyData.canLay0, PyData.canLayAll0, PyData.depth, PyData.depthAll]
  simp only [hs, Bool.and_self, if_true]
  congr 1
  simp only [PyData.eqv, PyData.eqvAll, Bool.and_true]
  by_cases h : a = b
  · subst h; simp
  · rw [decide_eq_false h]
    by_cases h1 : a.num = b.num
    · have : ¬ a.den = b.den := fun z => h (Rat.ext h1 z)
      have h2 : ¬ ((a.den : Nat) : Int) = ((b.den : Nat) : Int) := by omega
      simp [h1, h2]
    · simp [h1]
@[simp] theorem eqD_nD (a b : Rat) : eqD (nD a) (nD b) = some (.bl (decide (a = b))) := by simp [eqD, eqP_nD]
@[simp] theorem neD_nD (a b : Rat) : neD (nD a) (nD b) = some (.bl (!decide (a = b))) := by simp [neD, eqP_nD]
/-- n over d in lowest terms -/
theorem div_num {n d : Int} (h : 0 < d) : n / ((Nat.gcd n.natAbs d.natAbs : Nat) : Int) = (Rat.divInt n d).num := by
  rw [Rat.num_divInt, Int.sign_eq_one_of_pos h, Int.one_mul]
  congr 2
  rw [Int.gcd_comm]; rfl
theorem div_den {n d : Int} (h : 0 < d) : d / ((Nat.gcd n.natAbs d.natAbs : Nat) : Int) = ((Rat.divInt n d).den : Int) := by
  rw [Rat.den_divInt, if_neg (by omega)]
  have e : d.gcd n = Nat.gcd n.natAbs d.natAbs := by rw [Int.gcd_comm]; rfl
  rw [e]
  obtain ⟨m, rfl⟩ : ∃ m : Nat, d = m := ⟨d.toNat, by omega⟩
  simp
theorem neg_divInt (n d : Int) : Rat.divInt (-n) (-d) = Rat.divInt n d := by
  exact Rat.neg_divInt_neg n d
end Dn

/-! Shp: which data may be shown, and compared with itself. -/
namespace Dn
open PySem PySem.Spec PyProof.Rows L2

mutual
theorem eqv_self : ∀ p : PyData, p.canLay0 = true → PyData.eqv p p = true
  | .none, _ => by simp only [PyData.eqv]
  | .bool b, _ => by simp [PyData.eqv]
  | .int b, _ => by simp [PyData.eqv]
  | .str b, _ => by simp [PyData.eqv]
  | .list xs, h => by
    simp only [PyData.eqv]
    exact eqvAll_self xs (by simpa only [PyData.canLay0] using h)
  | .tuple xs, h => by
    simp only [PyData.eqv]
    exact eqvAll_self xs (by simpa only [PyData.canLay0] using h)
  | .dict _, h => by simp [PyData.canLay0] at h
theorem eqvAll_self : ∀ ps : List PyData, PyData.canLayAll0 ps = true → PyData.eqvAll ps ps = true
  | [], _ => by simp only [PyData.eqvAll]
  | p :: ps, h => by
    have h' : p.canLay0 = true ∧ PyData.canLayAll0 ps = true := by simpa only [PyData.canLayAll0, Bool.and_eq_true] using h
    simp only [PyData.eqvAll, eqv_self p h'.1, eqvAll_self ps h'.2, Bool.and_self]
end
mutual
theorem noDict0 : ∀ p : PyData, p.canLay0 = true → p.hasDict = false
  | .none, _ => by simp only [PyData.hasDict]
  | .bool b, _ => by simp only [PyData.hasDict]
  | .int b, _ => by simp only [PyData.hasDict]
  | .str b, _ => by simp only [PyData.hasDict]
  | .list xs, h => by
    simp only [PyData.hasDict]
    exact noDictA xs (by simpa only [PyData.canLay0] using h)
  | .tuple xs, h => by
    simp only [PyData.hasDict]
    exact noDictA xs (by simpa only [PyData.canLay0] using h)
  | .dict _, h => by simp [PyData.canLay0] at h
theorem noDictA : ∀ ps : List PyData, PyData.canLayAll0 ps = true → PyData.hasDictAll ps = false
  | [], _ => by simp only [PyData.hasDictAll]
  | p :: ps, h => by
    have h' : p.canLay0 = true ∧ PyData.canLayAll0 ps = true := by simpa only [PyData.canLayAll0, Bool.and_eq_true] using h
    simp only [PyData.hasDictAll, noDict0 p h'.1, noDictA ps h'.2, Bool.or_self]
end
/-- laid out, at most n deep -/
def Lay (n : Nat) (d : D) : Prop := ∃ p, toPy d = some p ∧ p.canLay0 = true ∧ p.depth ≤ n
/-- .. and short -/
def Shw (n w : Nat) (d : D) : Prop := ∃ p, toPy d = some p ∧ p.canLay0 = true ∧ p.depth ≤ n ∧ p.showable = true ∧ p.leavesShort 20 = true ∧ p.weight ≤ w
theorem Shw.lay {n w : Nat} {d : D} (h : Shw n w d) : Lay n d := let ⟨p, a, b, c, _⟩ := h; ⟨p, a, b, c⟩
theorem Lay.le {n n' : Nat} {d : D} (h : Lay n d) (e : n ≤ n') : Lay n' d := let ⟨p, a, b, c⟩ := h; ⟨p, a, b, Nat.le_trans c e⟩
theorem Shw.le {n n' w w' : Nat} {d : D} (h : Shw n w d) (e : n ≤ n') (e2 : w ≤ w') : Shw n' w' d := let ⟨p, a, b, c, d, e3, f⟩ := h; ⟨p, a, b, Nat.le_trans c e, d, e3, Nat.le_trans f e2⟩
theorem Lay.int (i : Int) : Lay 0 (.int i) := ⟨.int i, by simp [toPy], by simp [PyData.canLay0], by simp [PyData.depth]⟩
theorem Lay.bl (b : Bool) : Lay 0 (.bl b) := ⟨.bool b, by simp [toPy], by simp [PyData.canLay0], by simp [PyData.depth]⟩
theorem Lay.non : Lay 0 .non := ⟨.none, by simp [toPy], by simp [PyData.canLay0], by simp [PyData.depth]⟩
theorem Lay.str {s : Str} (h : s.cps.all (· < 0x110000) = true) : Lay 0 (.str s) := ⟨.str s, by simp [toPy], by simpa [PyData.canLay0, PyData.strOk] using h, by simp [PyData.depth]⟩
theorem Lay.all {n : Nat} : ∀ {ds : List D}, (∀ d ∈ ds, Lay n d) → ∃ ps, toPys ds = some ps ∧ PyData.canLayAll0 ps = true ∧ PyData.depthAll ps ≤ n
  | [], _ => ⟨[], by simp [toPys], by simp [PyData.canLayAll0], by simp [PyData.depthAll]⟩
  | d :: ds, h => by
    obtain ⟨p, h1, h2, h3⟩ := h d List.mem_cons_self
    obtain ⟨ps, k1, k2, k3⟩ := Lay.all fun d m => h d (List.mem_cons_of_mem _ m)
    exact ⟨p :: ps, by simp [toPys, h1, k1], by simp [PyData.canLayAll0, h2, k2], by simp [PyData.depthAll]; omega⟩
theorem Lay.lst {n : Nat} {ds : List D} (h : ∀ d ∈ ds, Lay n d) : Lay (n + 1) (.lst ds) := by
  obtain ⟨ps, k1, k2, k3⟩ := Lay.all h
  exact ⟨.list ps, by simp [toPy, k1], by simpa [PyData.canLay0] using k2, by simp [PyData.depth]; omega⟩
theorem Lay.tup {n : Nat} {ds : List D} (h : ∀ d ∈ ds, Lay n d) : Lay (n + 1) (.tup ds) := by
  obtain ⟨ps, k1, k2, k3⟩ := Lay.all h
  exact ⟨.tuple ps, by simp [toPy, k1], by simpa [PyData.canLay0] using k2, by simp [PyData.depth]; omega⟩
theorem Lay.nD (q : Rat) : Lay 1 (nD q) := .tup fun d m => by
  simp at m
  rcases m with rfl | rfl <;> exact .int _
theorem eqQ_self {n : Nat} {d : D} (h : Lay n d) (hn : n ≤ 60) : eqQ d d = some true := by
  obtain ⟨p, h1, h2, h3⟩ := h
  unfold eqQ
  rw [h1]
  have : SeqAt.shaped p = true := by unfold SeqAt.shaped; simp [h2]; omega
  simp [this, eqv_self p h2]
theorem eqP_self {n : Nat} {d : D} (h : Lay n d) (hn : n ≤ 60) : eqP d d = some true := by
  unfold eqP
  cases d <;> simp [eqS, eqQ_self h hn]
theorem eqD_self {n : Nat} {d : D} (h : Lay n d) (hn : n ≤ 60 := by decide) : eqD d d = some (.bl true) := by simp [eqD, eqP_self h hn]
theorem neD_self {n : Nat} {d : D} (h : Lay n d) (hn : n ≤ 60 := by decide) : neD d d = some (.bl false) := by simp [neD, eqP_self h hn]
theorem Shw.int {i : Int} (h : i.natAbs < 10 ^ 19) : Shw 0 64 (.int i) := by
  have hl : i.natAbs.log2 < 64 := log2_lt (by decide) (Nat.lt_of_lt_of_le h (by decide))
  refine ⟨.int i, by simp [toPy], by simp [PyData.canLay0], by simp [PyData.depth], ?_, ?_, ?_⟩
  · simp [PyData.showable]; omega
  · simp only [PyData.leavesShort, decide_eq_true_eq]
    have e := int_text_length_le10 (k := 19) (by decide) h
    show (Str.ofString (toString i)).length ≤ 20
    rw [PySem.ofString_length]; exact e
  · simp only [PyData.weight]
    split <;> omega
theorem Shw.bl (b : Bool) : Shw 0 64 (.bl b) := ⟨.bool b, by simp [toPy], by simp [PyData.canLay0], by simp [PyData.depth], by simp [PyData.showable], by simp [PyData.leavesShort], by simp [PyData.weight]⟩
theorem Shw.non : Shw 0 64 .non := ⟨.none, by simp [toPy], by simp [PyData.canLay0], by simp [PyData.depth], by simp [PyData.showable], by simp [PyData.leavesShort], by simp [PyData.weight]⟩
theorem Shw.str {s : Str} (h : s.cps.all (· < 0x110000) = true) (h2 : s.cps.size ≤ 64) : Shw 0 64 (.str s) := by
  refine ⟨.str s, by simp [toPy], by simpa [PyData.canLay0, PyData.strOk] using h, by simp [PyData.depth], by simp [PyData.showable], ?_, by simpa [PyData.weight] using h2⟩
  refine PyData.leavesShort_of_canLay0 20 (.str s) (by simpa [PyData.canLay0, PyData.strOk] using h) (by simp [PyData.intsShort])
theorem Shw.all {n w : Nat} : ∀ {ds : List D}, (∀ d ∈ ds, Shw n w d) → ∃ ps, toPys ds = some ps ∧ PyData.canLayAll0 ps = true ∧ PyData.depthAll ps ≤ n ∧ PyData.showableAll ps = true ∧ PyData.leavesShortAll 20 ps = true ∧ PyData.weightAll ps ≤ ds.length * (w + 1)
  | [], _ => ⟨[], by simp [toPys], by simp [PyData.canLayAll0], by simp [PyData.depthAll], by simp [PyData.showableAll], by simp [PyData.leavesShortAll], by simp [PyData.weightAll]⟩
  | d :: ds, h => by
    obtain ⟨p, h1, h2, h3, h4, h5, h6⟩ := h d List.mem_cons_self
    obtain ⟨ps, k1, k2, k3, k4, k5, k6⟩ := Shw.all fun d m => h d (List.mem_cons_of_mem _ m)
    refine ⟨p :: ps, by simp [toPys, h1, k1], by simp [PyData.canLayAll0, h2, k2], by simp [PyData.depthAll]; omega, by simp [PyData.showableAll, h4, k4], by simp [PyData.leavesShortAll, h5, k5], ?_⟩
    simp only [PyData.weightAll, List.length_cons, Nat.succ_mul]
    omega
theorem Shw.lst {n w l : Nat} {ds : List D} (h : ∀ d ∈ ds, Shw n w d) (hl : ds.length ≤ l) : Shw (n + 1) (l * (w + 1)) (.lst ds) := by
  obtain ⟨ps, k1, k2, k3, k4, k5, k6⟩ := Shw.all h
  exact ⟨.list ps, by simp [toPy, k1], by simpa [PyData.canLay0] using k2, by simp [PyData.depth]; omega, by simpa [PyData.showable] using k4, by simpa [PyData.leavesShort] using k5, by simp only [PyData.weight]; exact Nat.le_trans k6 (Nat.mul_le_mul_right _ hl)⟩
theorem Shw.tup {n w l : Nat} {ds : List D} (h : ∀ d ∈ ds, Shw n w d) (hl : ds.length ≤ l) : Shw (n + 1) (l * (w + 1)) (.tup ds) := by
  obtain ⟨ps, k1, k2, k3, k4, k5, k6⟩ := Shw.all h
  exact ⟨.tuple ps, by simp [toPy, k1], by simpa [PyData.canLay0] using k2, by simp [PyData.depth]; omega, by simpa [PyData.showable] using k4, by simpa [PyData.leavesShort] using k5, by simp only [PyData.weight]; exact Nat.le_trans k6 (Nat.mul_le_mul_right _ hl)⟩
theorem Shw.okS {n w : Nat} {d : D} (h : Shw n w d) (hn : n ≤ 40) (hw : w ≤ 700000) : ∃ p, toPy d = some p ∧ Dn.shw p = true := by
  obtain ⟨p, h1, h2, h3, h4, h5, h6⟩ := h
  refine ⟨p, h1, ?_⟩
  have e := PyData.shown_le 20 (by decide) p h5
  have e3 : p.shown.length ≤ sizeLine := by rw [sizeLine_eq]; omega
  unfold Dn.shw
  simp [h4, noDict0 p h2, e3]
  omega
theorem reprD_lst {n w : Nat} {ds : List D} (h : Shw n w (.lst ds)) (hn : n ≤ 40 := by decide) (hw : w ≤ 700000 := by decide) : ∃ s, reprD (.lst ds) = some (.str s) := by
  obtain ⟨p, h1, h2⟩ := h.okS hn hw
  exact ⟨p.shown, by simp [reprD, h1, h2]⟩
theorem reprD_tup {n w : Nat} {ds : List D} (h : Shw n w (.tup ds)) (hn : n ≤ 40 := by decide) (hw : w ≤ 700000 := by decide) : ∃ s, reprD (.tup ds) = some (.str s) := by
  obtain ⟨p, h1, h2⟩ := h.okS hn hw
  exact ⟨p.shown, by simp [reprD, h1, h2]⟩
theorem Shw.nD {q : Rat} (h1 : q.num.natAbs < 10 ^ 19) (h2 : q.den < 10 ^ 19) : Shw 1 130 (nD q) := (Shw.tup (l := 2) (n := 0) (w := 64) (fun d m => by
  simp at m
  rcases m with rfl | rfl
  · exact .int h1
  · exact .int (by simpa using h2)) (by simp)).le (by decide) (by decide)
end Dn

namespace Lw
open PySem PySem.Spec PyProof.Rows L2 Dn
/-! ### what the defs are worth -/
noncomputable section
abbrev k_NOUGHT : D := (D.tup [(D.int 0), (D.int 1)])
abbrev k_ONE : D := (D.tup [(D.int 1), (D.int 1)])
abbrev k_SHORT : D := (D.int 1000)
abbrev b__law_draws_0 : SM :=
  (sSeq (sSet 5 (ret (.int 0)))
  (sSeq (sIf (asB (eOp iGt (eCBV (sc1 lenD) 2) (ret (.int 0))))
  (sSeq (sSet 6 (eOp iMod (eCB (sc1 intD) (aCons (eVar 4) aNil)) (eCBV (sc1 lenD) 2)))
  (sIf (asB (eOp iGe (eIxV 2 (eVar 6)) (eOp iPow (ret (.int 10)) (ret (.int 18)))))
  (sSeq (sSet 5 (eOp iMod (eCB (sc1 intD) (aCons (eIxV 2 (eVar 6)) aNil)) (ret (.int 1000))))
  (sSetIx 2 (eVar 6) (eOp iDiv (eIxV 2 (eVar 6)) (ret (.int 1000)))))
  (sSeq (sSet 7 (eOp iMod (eCB (sc1 intD) (aCons (eFz (eOpC addC (eOpC addC (eOpC mulC (eIxV 2 (eVar 6)) (ret (.int 48271))) (eOpC mulC (eVar 4) (ret (.int 69621)))) (ret (.int 11)))) aNil)) (ret (.int 2147483647))))
  (sSeq (sSet 7 (eOp iMod (eCB (sc1 intD) (aCons (eFz (eOpC addC (eOpC mulC (eVar 7) (ret (.int 16807))) (eVar 6))) aNil)) (ret (.int 2147483629))))
  (sSet 5 (eOp iMod (eCB (sc1 intD) (aCons (eFz (eOp iDiv (eVar 7) (ret (.int 7)))) aNil)) (ret (.int 1000))))))))
  sNext)
  (sOw 3 (eVar 5) appF)))
def m__law_draws : SM :=
  (sSeq (sSet 2 (eLc [8] (iLst (eVar 0)) (Tg.put (.nm 8)) bYes (eVar 8)))
  (sSeq (sSet 3 (eLst aNil))
  (sSeq (sFor (iRg1 (aCons (eVar 1) aNil)) (Tg.put (.nm 4))
  b__law_draws_0)
  (sRet (eMv 3)))))
def w__law_draws : M C := noEr (runDef 9 2 m__law_draws)
abbrev b__law_gcd_0 : SM :=
  (sSeq (sIf (asB (eOp eqD (eVar 1) (ret (.int 0))))
  sBrk
  sNext)
  (sSeq (sSet 3 (eOp iMod (eCB (sc1 intD) (aCons (eVar 0) aNil)) (eVar 1)))
  (sSeq (sSet 0 (eVar 1))
  (sSet 1 (eVar 3)))))
def m__law_gcd : SM :=
  (sSeq (sSet 0 (eCB (sc1 absD) (aCons (eVar 0) aNil)))
  (sSeq (sSet 1 (eCB (sc1 absD) (aCons (eVar 1) aNil)))
  (sSeq (sFor (iRg1 (aCons (ret (.int 4000)) aNil)) (Tg.put (.nm 2))
  b__law_gcd_0)
  (sRet (eMv 0)))))
def w__law_gcd : M C := noEr (runDef 4 2 m__law_gcd)
def m__law_number : SM :=
  (sSeq (sIf (asB (eOp iLt (eVar 1) (ret (.int 0))))
  (sSeq (sSet 0 (eUn negD (eVar 0)))
  (sSet 1 (eUn negD (eVar 1))))
  sNext)
  (sSeq (sSet 2 (eCall w__law_gcd (aCons (eVar 0) (aCons (eVar 1) aNil))))
  (sRet (eTup (aCons (eFz (eOp iDiv (eVar 0) (eVar 2))) (aCons (eFz (eOp iDiv (eVar 1) (eVar 2))) aNil))))))
def w__law_number : M C := noEr (runDef 3 2 m__law_number)
abbrev e__law_walk_0 : M C :=
  (eFz (eOpC addC (ret (.int 1)) (eOp iMod (eCB (sc1 intD) (aCons (eIxV 6 (eOpC addC (ret (.int 1)) (eVar 11))) aNil)) (ret (.int 4)))))
abbrev b__law_walk_1 : SM :=
  (sOw 10 (eTup (aCons (eFz (eCall w__law_number (aCons (eIxV 9 (eVar 11)) (aCons (eFz (eCBV (sc1 sumD) 9)) aNil)))) (aCons (eFz (eOpC addC (eVar 7) (eOp iMod (eCB (sc1 intD) (aCons (eIxV 6 (eOpC addC (ret (.int 7)) (eVar 11))) aNil)) (eOp iSub (eVar 2) (eVar 7))))) aNil))) appF)
abbrev b__law_walk_2 : SM :=
  (sSeq (sSet 6 (eSl (eVar 0) (pSome (eOpC addC (ret (.int 2)) (eOpC mulC (ret (.int 14)) (eVar 5)))) (pSome (eOpC addC (ret (.int 16)) (eOpC mulC (ret (.int 14)) (eVar 5))))))
  (sSeq (sSet 7 (eOp iSub (eVar 5) (eOp iMod (eCB (sc1 intD) (aCons (eVar 5) aNil)) (eVar 3))))
  (sSeq (sSet 8 (eOp ixD (eLst (aCons (ret (.int 1)) (aCons (ret (.int 2)) (aCons (ret (.int 3)) (aCons (ret (.int 2)) (aCons (ret (.int 1)) (aCons (ret (.int 4)) (aCons (ret (.int 5)) (aCons (ret (.int 6)) (aCons (ret (.int 2)) (aCons (ret (.int 1)) aNil))))))))))) (eOp iMod (eCB (sc1 intD) (aCons (eIxV 6 (ret (.int 0))) aNil)) (ret (.int 10)))))
  (sSeq (sSet 9 (eLc [11] (iRg1 (aCons (eVar 8) aNil)) (Tg.put (.nm 11)) bYes e__law_walk_0))
  (sSeq (sSet 10 (eLst aNil))
  (sSeq (sFor (iRg1 (aCons (eVar 8) aNil)) (Tg.put (.nm 11))
  b__law_walk_1)
  (sOw 4 (eTup (aCons (eFz (eCall w__law_number (aCons (eFz (eOp iSub (eOp iMod (eCB (sc1 intD) (aCons (eIxV 6 (ret (.int 13))) aNil)) (ret (.int 15))) (ret (.int 6)))) (aCons (eOp ixD (eLst (aCons (ret (.int 1)) (aCons (ret (.int 1)) (aCons (ret (.int 2)) (aCons (ret (.int 5)) aNil))))) (eOp iMod (eCB (sc1 intD) (aCons (eFz (eOp iDiv (eIxV 6 (ret (.int 13))) (ret (.int 15)))) aNil)) (ret (.int 4)))) aNil)))) (aCons (ret (.str "draw")) (aCons (eVar 10) aNil)))) appF)))))))
def m__law_walk : SM :=
  (sSeq (sSet 2 (eOpC addC (ret (.int 1)) (eOp iMod (eCB (sc1 intD) (aCons (eIxV 0 (ret (.int 0))) aNil)) (eVar 1))))
  (sSeq (sSet 3 (eOp ixD (eLst (aCons (eVar 2) (aCons (ret (.int 1)) (aCons (ret (.int 2)) (aCons (ret (.int 3)) aNil))))) (eOp iMod (eCB (sc1 intD) (aCons (eIxV 0 (ret (.int 1))) aNil)) (ret (.int 4)))))
  (sSeq (sSet 4 (eLst aNil))
  (sSeq (sFor (iRg1 (aCons (eVar 2) aNil)) (Tg.put (.nm 5))
  b__law_walk_2)
  (sRet (eMv 4))))))
def w__law_walk : M C := noEr (runDef 12 2 m__law_walk)
def m_targets : SM :=
  (sSeq (sAsg (Tg.put (.tup [(.nm 2), (.nm 3), (.nm 4)])) (eIxV 0 (eVar 1)))
  (sSeq (sIf (asB (eOp eqD (eVar 3) (ret (.str "draw"))))
  (sRet (eLc [5, 6] (iLst (eVar 4)) (Tg.put (.tup [(.nm 5), (.nm 6)])) bYes (eVar 6)))
  sNext)
  (sRet (eCB (nw1 listC) (aCons (eVar 4) aNil)))))
def w_targets : M C := noEr (runDef 7 2 m_targets)
abbrev b_reached_0 : SM :=
  (sIf (bLend (asB (eOpV ninD (eVar 4) 2)))
  (sSeq (sOw 2 (eVar 4) appF)
  (sOw 3 (eVar 4) appF))
  sNext)
abbrev b_reached_1 : SM :=
  (sFor (iLst (eCall w_targets (aCons (eVar 0) (aCons (eFz (ePop 3)) aNil)))) (Tg.put (.nm 4))
  b_reached_0)
def m_reached : SM :=
  (sSeq (sSet 2 (eLst (aCons (eVar 1) aNil)))
  (sSeq (sSet 3 (eLst (aCons (eVar 1) aNil)))
  (sSeq (fun ρ => whileL (bVar 3)
  b_reached_1 (1000000) ρ)
  (sRet (eCB (nw1 sortC) (aCons (eVar 2) aNil))))))
def w_reached : M C := noEr (runDef 5 2 m_reached)
abbrev e_closed_classes_0 : M C :=
  (eFz (eCall w_reached (aCons (eVar 0) (aCons (eVar 3) aNil))))
abbrev e_closed_classes_1 : M C :=
  (eOp inD (eVar 3) (eIxV 1 (eVar 5)))
abbrev b_closed_classes_2 : SM :=
  (sIf (bAnd (asB (eOp eqD (eIxV 4 (ret (.int 0))) (eVar 3))) (bTru truD (eCB (sc1 allD) (aCons (eFz (eLc [5] (iLst (eVar 4)) (Tg.put (.nm 5)) bYes e_closed_classes_1)) aNil))))
  (sOw 2 (eVar 4) appF)
  sNext)
def m_closed_classes : SM :=
  (sSeq (sSet 1 (eLc [3] (iRg1 (aCons (eFz (eCBV (sc1 lenD) 0)) aNil)) (Tg.put (.nm 3)) bYes e_closed_classes_0))
  (sSeq (sSet 2 (eLst aNil))
  (sSeq (sFor (iEnm (aCons (eVar 1) aNil)) (Tg.put (.tup [(.nm 3), (.nm 4)]))
  b_closed_classes_2)
  (sRet (eMv 2)))))
def w_closed_classes : M C := noEr (runDef 6 1 m_closed_classes)
def m_number : SM :=
  (sSeq (sIf (asB (eOp iLt (eVar 1) (ret (.int 0))))
  (sPar 0 1 (aCons (eUn negD (eVar 0)) (aCons (eUn negD (eVar 1)) aNil)))
  sNext)
  (sSeq (sSet 2 (eCB (sc2 gcdD) (aCons (eVar 0) (aCons (eVar 1) aNil))))
  (sRet (eTup (aCons (eFz (eOp iDiv (eVar 0) (eVar 2))) (aCons (eFz (eOp iDiv (eVar 1) (eVar 2))) aNil))))))
def w_number : M C := noEr (runDef 3 2 m_number)
def m_plus : SM :=
  (sRet (eCall w_number (aCons (eFz (eOpC addC (eOpC mulC (eIxV 0 (ret (.int 0))) (eIxV 1 (ret (.int 1)))) (eOpC mulC (eIxV 1 (ret (.int 0))) (eIxV 0 (ret (.int 1)))))) (aCons (eFz (eOpC mulC (eIxV 0 (ret (.int 1))) (eIxV 1 (ret (.int 1))))) aNil))))
def w_plus : M C := noEr (runDef 2 2 m_plus)
abbrev b_total_0 : SM :=
  (sSet 1 (eCall w_plus (aCons (eVar 1) (aCons (eVar 2) aNil))))
def m_total : SM :=
  (sSeq (sSet 1 (ret k_NOUGHT))
  (sSeq (sFor (iLst (eVar 0)) (Tg.put (.nm 2))
  b_total_0)
  (sRet (eMv 1))))
def w_total : M C := noEr (runDef 3 1 m_total)
def m_times : SM :=
  (sRet (eCall w_number (aCons (eFz (eOpC mulC (eIxV 0 (ret (.int 0))) (eIxV 1 (ret (.int 0))))) (aCons (eFz (eOpC mulC (eIxV 0 (ret (.int 1))) (eIxV 1 (ret (.int 1))))) aNil))))
def w_times : M C := noEr (runDef 2 2 m_times)
abbrev e_weighed_by_0 : M C :=
  (eFz (eCall w_times (aCons (eVar 2) (aCons (eVar 3) aNil))))
def m_weighed_by : SM :=
  (sRet (eCall w_total (aCons (eFz (eLc [2, 3] (iZp (aCons (eVar 0) (aCons (eVar 1) aNil))) (Tg.put (.tup [(.nm 2), (.nm 3)])) bYes e_weighed_by_0)) aNil)))
def w_weighed_by : M C := noEr (runDef 4 2 m_weighed_by)
def m_minus : SM :=
  (sRet (eCall w_number (aCons (eFz (eOp iSub (eOpC mulC (eIxV 0 (ret (.int 0))) (eIxV 1 (ret (.int 1)))) (eOpC mulC (eIxV 1 (ret (.int 0))) (eIxV 0 (ret (.int 1)))))) (aCons (eFz (eOpC mulC (eIxV 0 (ret (.int 1))) (eIxV 1 (ret (.int 1))))) aNil))))
def w_minus : M C := noEr (runDef 2 2 m_minus)
def m_divided : SM :=
  (sRet (eCall w_number (aCons (eFz (eOpC mulC (eIxV 0 (ret (.int 0))) (eIxV 1 (ret (.int 1))))) (aCons (eFz (eOpC mulC (eIxV 0 (ret (.int 1))) (eIxV 1 (ret (.int 0))))) aNil))))
def w_divided : M C := noEr (runDef 2 2 m_divided)
abbrev e_lessened_0 : M C :=
  (eFz (eCall w_minus (aCons (eVar 3) (aCons (eFz (eCall w_times (aCons (eIxV 0 (eVar 1)) (aCons (eVar 4) aNil)))) aNil))))
def m_lessened : SM :=
  (sRet (eLc [3, 4] (iZp (aCons (eVar 0) (aCons (eVar 2) aNil))) (Tg.put (.tup [(.nm 3), (.nm 4)])) bYes e_lessened_0))
def w_lessened : M C := noEr (runDef 5 3 m_lessened)
abbrev e_solved_0 : M C :=
  (eFz (eCall w_times (aCons (eVar 3) (aCons (eVar 5) aNil))))
abbrev b_solved_1 : SM :=
  (sIf (bAnd (asB (eOp neD (eVar 4) (eVar 1))) (asB (eOp neD (eOp ixD (eIxV 0 (eVar 4)) (eVar 1)) (ret k_NOUGHT))))
  (sSetIx 0 (eVar 4) (eCall w_lessened (aCons (eIxV 0 (eVar 4)) (aCons (eVar 1) (aCons (eIxV 0 (eVar 1)) aNil)))))
  sNext)
abbrev b_solved_2 : SM :=
  (sSeq (sSet 2 (eOp ixD (eLc [4] (iRg2 (aCons (eVar 1) (aCons (eFz (eCBV (sc1 lenD) 0)) aNil))) (Tg.put (.nm 4)) (asB (eOp neD (eOp ixD (eIxV 0 (eVar 4)) (eVar 1)) (ret k_NOUGHT))) (eVar 4)) (ret (.int 0))))
  (sSeq (sSwp 0 (eVar 1) (eVar 2) (eTup (aCons (eIxV 0 (eVar 2)) (aCons (eIxV 0 (eVar 1)) aNil))))
  (sSeq (sSet 3 (eCall w_divided (aCons (ret k_ONE) (aCons (eOp ixD (eIxV 0 (eVar 1)) (eVar 1)) aNil))))
  (sSeq (sSetIx 0 (eVar 1) (eLc [5] (iLst (eIxV 0 (eVar 1))) (Tg.put (.nm 5)) bYes e_solved_0))
  (sFor (iRg1 (aCons (eFz (eCBV (sc1 lenD) 0)) aNil)) (Tg.put (.nm 4))
  b_solved_1)))))
abbrev e_solved_3 : M C :=
  (eIxV 6 (eUn negD (ret (.int 1))))
def m_solved : SM :=
  (sSeq (sSet 0 (eCB (nw1 listC) (aCons (eVar 0) aNil)))
  (sSeq (sFor (iRg1 (aCons (eFz (eCBV (sc1 lenD) 0)) aNil)) (Tg.put (.nm 1))
  b_solved_2)
  (sRet (eLc [6] (iLst (eVar 0)) (Tg.put (.nm 6)) bYes e_solved_3))))
def w_solved : M C := noEr (runDef 7 1 m_solved)
abbrev e_shares_in_0 : M C :=
  (eFz (eIf (asB (eOp eqD (eVar 6) (eVar 3))) (eCall w_minus (aCons (ret k_NOUGHT) (aCons (ret k_ONE) aNil))) (ret k_NOUGHT)))
abbrev b_shares_in_1 : SM :=
  (sSetIx 4 (eVar 5) (eCall w_plus (aCons (eIxV 4 (eVar 5)) (aCons (eFz (eCall w_total (aCons (eFz (eLc [8, 9] (iLst (eOp ixD (eIxV 0 (eVar 6)) (ret (.int 2)))) (Tg.put (.tup [(.nm 8), (.nm 9)])) (asB (eOp eqD (eVar 9) (eVar 3))) (eVar 8))) aNil))) aNil))))
abbrev b_shares_in_2 : SM :=
  (sSeq (sSet 4 (eOpC addC (eLc [6] (iLst (eVar 1)) (Tg.put (.nm 6)) bYes e_shares_in_0) (eLst (aCons (ret k_NOUGHT) aNil))))
  (sSeq (sFor (iEnm (aCons (eVar 1) aNil)) (Tg.put (.tup [(.nm 5), (.nm 6)]))
  b_shares_in_1)
  (sOw 2 (eVar 4) appF)))
def m_shares_in : SM :=
  (sSeq (sSet 2 (eLst (aCons (eFz (eOpC addC (eLc [7] (iLst (eVar 1)) (Tg.put (.nm 7)) bYes (ret k_ONE)) (eLst (aCons (ret k_ONE) aNil)))) aNil)))
  (sSeq (sFor (iLst (eSl (eVar 1) (pSome (ret (.int 1))) pNone)) (Tg.put (.nm 3))
  b_shares_in_2)
  (sRet (eCall w_solved (aCons (eVar 2) aNil)))))
def w_shares_in : M C := noEr (runDef 10 2 m_shares_in)
abbrev e_met_0 : M C :=
  (eFz (eIf (asB (eOp eqD (eVar 10) (eVar 5))) (ret k_ONE) (ret k_NOUGHT)))
abbrev b_met_1 : SM :=
  (sIf (asB (eInK false (eVar 8) 2))
  (sSetIx 6 (eUn negD (ret (.int 1))) (eCall w_minus (aCons (eIxV 6 (eUn negD (ret (.int 1)))) (aCons (eFz (eCall w_times (aCons (eVar 7) (aCons (eFz (eCall w_minus (aCons (ret k_NOUGHT) (aCons (eKxV 2 (eVar 8)) aNil)))) aNil)))) aNil))))
  (sSeq (sSet 9 (eIdx (eVar 1) (eVar 8)))
  (sSetIx 6 (eVar 9) (eCall w_minus (aCons (eIxV 6 (eVar 9)) (aCons (eVar 7) aNil))))))
abbrev b_met_2 : SM :=
  (sSeq (sSet 6 (eOpC addC (eLc [10] (iLst (eVar 1)) (Tg.put (.nm 10)) bYes e_met_0) (eLst (aCons (eIxV 3 (eVar 5)) aNil))))
  (sSeq (sFor (iLst (eOp ixD (eIxV 0 (eVar 5)) (ret (.int 2)))) (Tg.put (.tup [(.nm 7), (.nm 8)]))
  b_met_1)
  (sOw 4 (eVar 6) appF)))
def m_met : SM :=
  (sSeq (sSet 4 (eLst aNil))
  (sSeq (sFor (iLst (eVar 1)) (Tg.put (.nm 5))
  b_met_2)
  (sRet (eCall w_solved (aCons (eVar 4) aNil)))))
def w_met : M C := noEr (runDef 11 4 m_met)
abbrev b_with_rest_0 : SM :=
  (sSetK 4 (eVar 5) (eVar 6))
abbrev e_with_rest_1 : M C :=
  (eKxV 4 (eVar 5))
def m_with_rest : SM :=
  (sSeq (sSet 3 (eLc [5] (iRg1 (aCons (eFz (eCBV (sc1 lenD) 0)) aNil)) (Tg.put (.nm 5)) (asB (eInK true (eVar 5) 1)) (eVar 5)))
  (sSeq (sSet 4 (eDcp 1))
  (sSeq (sFor (iZp (aCons (eVar 3) (aCons (eFz (eCall w_met (aCons (eVar 0) (aCons (eVar 3) (aCons (eVar 1) (aCons (eVar 2) aNil)))))) aNil))) (Tg.put (.tup [(.nm 5), (.nm 6)]))
  b_with_rest_0)
  (sRet (eLc [5] (iRg1 (aCons (eFz (eCBV (sc1 lenD) 0)) aNil)) (Tg.put (.nm 5)) bYes e_with_rest_1)))))
def w_with_rest : M C := noEr (runDef 7 3 m_with_rest)
abbrev e_long_gains_0 : M C :=
  (eOp ixD (eIxV 0 (eVar 4)) (ret (.int 0)))
abbrev b_long_gains_1 : SM :=
  (sSetK 1 (eVar 4) (eVar 3))
abbrev b_long_gains_2 : SM :=
  (sSeq (sSet 3 (eCall w_weighed_by (aCons (eFz (eCall w_shares_in (aCons (eVar 0) (aCons (eVar 2) aNil)))) (aCons (eFz (eLc [4] (iLst (eVar 2)) (Tg.put (.nm 4)) bYes e_long_gains_0)) aNil))))
  (sFor (iLst (eVar 2)) (Tg.put (.nm 4))
  b_long_gains_1))
abbrev e_long_gains_3 : M C :=
  (ret k_NOUGHT)
def m_long_gains : SM :=
  (sSeq (sSet 1 (retC (.od [])))
  (sSeq (sFor (iLst (eCall w_closed_classes (aCons (eVar 0) aNil))) (Tg.put (.nm 2))
  b_long_gains_2)
  (sRet (eCall w_with_rest (aCons (eVar 0) (aCons (eVar 1) (aCons (eFz (eLc [5] (iLst (eVar 0)) (Tg.put (.nm 5)) bYes e_long_gains_3)) aNil)))))))
def w_long_gains : M C := noEr (runDef 6 1 m_long_gains)
abbrev e_leads_0 : M C :=
  (eFz (eCall w_minus (aCons (eIxV 8 (ret (.int 0))) (aCons (eVar 9) aNil))))
abbrev b_leads_1 : SM :=
  (sSetK 2 (eVar 6) (eCall w_minus (aCons (eVar 7) (aCons (eVar 5) aNil))))
abbrev b_leads_2 : SM :=
  (sSeq (sSet 4 (eOpC addC (eLst (aCons (ret k_NOUGHT) aNil)) (eCall w_met (aCons (eVar 0) (aCons (eFz (eSl (eVar 3) (pSome (ret (.int 1))) pNone)) (aCons (eFz (eDis1 (eIxV 3 (ret (.int 0))) (ret k_NOUGHT))) (aCons (eVar 1) aNil)))))))
  (sSeq (sSet 5 (eCall w_weighed_by (aCons (eFz (eCall w_shares_in (aCons (eVar 0) (aCons (eVar 3) aNil)))) (aCons (eVar 4) aNil))))
  (sFor (iZp (aCons (eVar 3) (aCons (eVar 4) aNil))) (Tg.put (.tup [(.nm 6), (.nm 7)]))
  b_leads_1)))
def m_leads : SM :=
  (sSeq (sSet 1 (eLc [8, 9] (iZp (aCons (eVar 0) (aCons (eFz (eCall w_long_gains (aCons (eVar 0) aNil))) aNil))) (Tg.put (.tup [(.nm 8), (.nm 9)])) bYes e_leads_0))
  (sSeq (sSet 2 (retC (.od [])))
  (sSeq (sFor (iLst (eCall w_closed_classes (aCons (eVar 0) aNil))) (Tg.put (.nm 3))
  b_leads_2)
  (sRet (eCall w_with_rest (aCons (eVar 0) (aCons (eVar 2) (aCons (eVar 1) aNil))))))))
def w_leads : M C := noEr (runDef 10 1 m_leads)
def m_is_whole : SM :=
  (sRet (eAnd (eCB (sc2 isiD) (aCons (eVar 0) (aCons (ret (.ob (.ty "int"))) aNil))) (eNot (eCB (sc2 isiD) (aCons (eVar 0) (aCons (ret (.ob (.ty "bool"))) aNil))))))
def w_is_whole : M C := noEr (runDef 1 1 m_is_whole)
def m_is_number : SM :=
  (sSeq (sIf (bOr (bNot (bTru truD (eCB (sc2 isiD) (aCons (eVar 0) (aCons (ret (.ob (.ty "tuple"))) aNil))))) (asB (eOp neD (eCBV (sc1 lenD) 0) (ret (.int 2)))))
  (sRet (ret (.bl false)))
  sNext)
  (sSeq (sIf (bOr (bNot (bTru truD (eCall w_is_whole (aCons (eIxV 0 (ret (.int 0))) aNil)))) (bNot (bTru truD (eCall w_is_whole (aCons (eIxV 0 (ret (.int 1))) aNil)))))
  (sRet (ret (.bl false)))
  sNext)
  (sRet (eAnd (eOp iGe (eIxV 0 (ret (.int 1))) (ret (.int 1))) (eOp eqD (eCB (sc2 gcdD) (aCons (eIxV 0 (ret (.int 0))) (aCons (eIxV 0 (ret (.int 1))) aNil))) (ret (.int 1)))))))
def w_is_number : M C := noEr (runDef 1 1 m_is_number)
def m_is_short : SM :=
  (sRet (eAnd (eCall w_is_number (aCons (eVar 0) aNil)) (eAnd (eChain iLt iLt (eUn negD (ret k_SHORT)) (eIxV 0 (ret (.int 0))) (ret k_SHORT)) (eOp iLt (eIxV 0 (ret (.int 1))) (ret k_SHORT)))))
def w_is_short : M C := noEr (runDef 1 1 m_is_short)
abbrev e_gained_0 : M C :=
  (eFz (eCall w_is_short (aCons (eVar 2) aNil)))
abbrev e_gained_1 : M C :=
  (eTup (aCons (eVar 2) (aCons (eVar 4) (aCons (eFz (eCB (nw1 listC) (aCons (eVar 5) aNil))) aNil))))
def m_gained : SM :=
  (sSeq (sIf (bNot (bTru truD (eCB (sc1 allD) (aCons (eFz (eLc [2] (iLst (eVar 1)) (Tg.put (.nm 2)) bYes e_gained_0)) aNil))))
  (sRaise0 "BadNumber")
  sNext)
  (sRet (eLc [2, 3, 4, 5] (iZp (aCons (eVar 1) (aCons (eVar 0) aNil))) (Tg.put (.tup [(.nm 2), (.tup [(.nm 3), (.nm 4), (.nm 5)])])) bYes e_gained_1)))
def w_gained : M C := runDef 6 2 m_gained
abbrev e_rolled_0 : M C :=
  (eFz (eCall w_times (aCons (eVar 8) (aCons (eIxV 1 (eVar 9)) aNil))))
abbrev b_rolled_1 : SM :=
  (sSeq (sSet 7 (eCall w_total (aCons (eFz (eLc [8, 9] (iLst (eVar 6)) (Tg.put (.tup [(.nm 8), (.nm 9)])) bYes e_rolled_0)) aNil)))
  (sOw 2 (eFz (eCall w_minus (aCons (eFz (eCall w_plus (aCons (eVar 4) (aCons (eIxV 1 (eVar 3)) aNil)))) (aCons (eVar 7) aNil)))) appF))
def m_rolled : SM :=
  (sSeq (sSet 2 (eLst aNil))
  (sSeq (sFor (iEnm (aCons (eVar 0) aNil)) (Tg.put (.tup [(.nm 3), (.tup [(.nm 4), (.nm 5), (.nm 6)])]))
  b_rolled_1)
  (sRet (eCall w_gained (aCons (eVar 0) (aCons (eVar 2) aNil))))))
def w_rolled : M C := runDef 10 2 m_rolled
def m__law_plus : SM :=
  (sRet (eCall w__law_number (aCons (eFz (eOpC addC (eOpC mulC (eIxV 0 (ret (.int 0))) (eIxV 1 (ret (.int 1)))) (eOpC mulC (eIxV 1 (ret (.int 0))) (eIxV 0 (ret (.int 1)))))) (aCons (eFz (eOpC mulC (eIxV 0 (ret (.int 1))) (eIxV 1 (ret (.int 1))))) aNil))))
def w__law_plus : M C := noEr (runDef 2 2 m__law_plus)
def m__law_minus : SM :=
  (sRet (eCall w__law_plus (aCons (eVar 0) (aCons (eTup (aCons (eUn negD (eIxV 1 (ret (.int 0)))) (aCons (eIxV 1 (ret (.int 1))) aNil))) aNil))))
def w__law_minus : M C := noEr (runDef 2 2 m__law_minus)
def m__law_times : SM :=
  (sRet (eCall w__law_number (aCons (eFz (eOpC mulC (eIxV 0 (ret (.int 0))) (eIxV 1 (ret (.int 0))))) (aCons (eFz (eOpC mulC (eIxV 0 (ret (.int 1))) (eIxV 1 (ret (.int 1))))) aNil))))
def w__law_times : M C := noEr (runDef 2 2 m__law_times)
abbrev e_law_0 : M C :=
  (eTup (aCons (eTup (aCons (eIxV 10 (ret (.int 0))) (aCons (ret (.int 1)) aNil))) (aCons (eVar 11) (aCons (eVar 12) aNil))))
abbrev e_law_1 : M C :=
  (eFz (eCall w__law_number (aCons (eFz (eOp iSub (eOp iMod (eCB (sc1 intD) (aCons (eIxV 1 (eOpC addC (ret (.int 100)) (eVar 13))) aNil)) (ret (.int 13))) (ret (.int 6)))) (aCons (eFz (eOpC addC (ret (.int 1)) (eOp iMod (eCB (sc1 intD) (aCons (eIxV 1 (ret (.int 107))) aNil)) (ret (.int 2))))) aNil))))
abbrev e_law_2 : M C :=
  (eTup (aCons (eIxV 3 (eVar 13)) (aCons (ret (.str "draw")) (aCons (eOp ixD (eIxV 2 (eVar 13)) (ret (.int 2))) aNil))))
abbrev e_law_3 : M C :=
  (eFz (eCall w__law_minus (aCons (eFz (eCall w__law_plus (aCons (eIxV 5 (eVar 13)) (aCons (eIxV 3 (eVar 13)) aNil)))) (aCons (eIxV 6 (eVar 13)) aNil))))
abbrev e_law_4 : M C :=
  (eTup (aCons (eFz (eCall w__law_plus (aCons (eVar 10) (aCons (eVar 8) aNil)))) (aCons (eVar 11) (aCons (eVar 12) aNil))))
abbrev e_law_5 : M C :=
  (eFz (eCall w__law_plus (aCons (eVar 14) (aCons (eVar 8) aNil))))
abbrev e_law_6 : M C :=
  (eTup (aCons (eFz (eCall w__law_times (aCons (eVar 10) (aCons (eVar 8) aNil)))) (aCons (eVar 11) (aCons (eVar 12) aNil))))
abbrev e_law_7 : M C :=
  (eFz (eCall w__law_times (aCons (eVar 14) (aCons (eVar 8) aNil))))
abbrev e_law_8 : M C :=
  (eFz (eCall w__law_times (aCons (eVar 14) (aCons (eVar 8) aNil))))
def m_law : SM :=
  (sSeq (sSet 1 (eCall w__law_draws (aCons (eVar 0) (aCons (ret (.int 120)) aNil))))
  (sSeq (sSet 2 (eLc [10, 11, 12] (iLst (eCall w__law_walk (aCons (eVar 1) (aCons (ret (.int 7)) aNil)))) (Tg.put (.tup [(.nm 10), (.nm 11), (.nm 12)])) bYes e_law_0))
  (sSeq (sSet 3 (eLc [13] (iRg1 (aCons (eFz (eCBV (sc1 lenD) 2)) aNil)) (Tg.put (.nm 13)) bYes e_law_1))
  (sSeq (sAsg (Tg.put (.tup [(.nm 4), (.nm 5)])) (eTupC (aCons (eCall w_long_gains (aCons (eVar 2) aNil)) (aCons (eCall w_leads (aCons (eVar 2) aNil)) aNil))))
  (sSeq (sSet 6 (eCall w_long_gains (aCons (eFz (eLc [13] (iRg1 (aCons (eFz (eCBV (sc1 lenD) 2)) aNil)) (Tg.put (.nm 13)) bYes e_law_2)) aNil)))
  (sSeq (sSet 7 (eCall w_rolled (aCons (eVar 2) (aCons (eVar 3) aNil))))
  (sSeq (sIf (asB (eOp neD (eCall w_long_gains (aCons (eVar 7) aNil)) (eVar 4)))
  (sRet (ret (.bl false)))
  sNext)
  (sSeq (sIf (asB (eOp neD (eCall w_leads (aCons (eVar 7) aNil)) (eLc [13] (iRg1 (aCons (eFz (eCBV (sc1 lenD) 2)) aNil)) (Tg.put (.nm 13)) bYes e_law_3)))
  (sRet (ret (.bl false)))
  sNext)
  (sSeq (sSet 8 (eCall w__law_number (aCons (eFz (eOp iSub (eOp iMod (eCB (sc1 intD) (aCons (eIxV 1 (ret (.int 108))) aNil)) (ret (.int 9))) (ret (.int 4)))) (aCons (eFz (eOpC addC (ret (.int 1)) (eOp iMod (eCB (sc1 intD) (aCons (eIxV 1 (ret (.int 109))) aNil)) (ret (.int 3))))) aNil))))
  (sSeq (sSet 9 (eLc [10, 11, 12] (iLst (eVar 2)) (Tg.put (.tup [(.nm 10), (.nm 11), (.nm 12)])) bYes e_law_4))
  (sSeq (sIf (bOr (asB (eOp neD (eCall w_long_gains (aCons (eVar 9) aNil)) (eLc [14] (iLst (eVar 4)) (Tg.put (.nm 14)) bYes e_law_5))) (asB (eOp neD (eCall w_leads (aCons (eVar 9) aNil)) (eVar 5))))
  (sRet (ret (.bl false)))
  sNext)
  (sSeq (sSet 9 (eLc [10, 11, 12] (iLst (eVar 2)) (Tg.put (.tup [(.nm 10), (.nm 11), (.nm 12)])) bYes e_law_6))
  (sRet (eAnd (eOp eqD (eCall w_long_gains (aCons (eVar 9) aNil)) (eLc [14] (iLst (eVar 4)) (Tg.put (.nm 14)) bYes e_law_8)) (eOp eqD (eCall w_leads (aCons (eVar 9) aNil)) (eLc [14] (iLst (eVar 5)) (Tg.put (.nm 14)) bYes e_law_7))))))))))))))))
def w_law0 : M C := runDef 15 1 m_law
def w_law : M C := noEr w_law0
end
end Lw
/-! LA1: sums, determinants along a column, Cramer. -/
namespace LA
/-- sum over i < n -/
def sm (f : Nat → Rat) : Nat → Rat
  | 0 => 0
  | n + 1 => sm f n + f n
theorem sm_congr {f g : Nat → Rat} : ∀ {n : Nat}, (∀ i, i < n → f i = g i) → sm f n = sm g n
  | 0, _ => rfl
  | n + 1, h => by simp only [sm]; rw [sm_congr fun i hi => h i (by omega), h n (by omega)]
theorem sm_zero {f : Nat → Rat} : ∀ {n : Nat}, (∀ i, i < n → f i = 0) → sm f n = 0
  | 0, _ => rfl
  | n + 1, h => by simp only [sm]; rw [sm_zero fun i hi => h i (by omega), h n (by omega)]; grind
theorem sm_add (f g : Nat → Rat) : ∀ n, sm (fun i => f i + g i) n = sm f n + sm g n
  | 0 => by simp [sm]; grind
  | n + 1 => by simp only [sm]; rw [sm_add f g n]; grind
theorem sm_sub (f g : Nat → Rat) : ∀ n, sm (fun i => f i - g i) n = sm f n - sm g n
  | 0 => by simp [sm]; grind
  | n + 1 => by simp only [sm]; rw [sm_sub f g n]; grind
theorem sm_mul (c : Rat) (f : Nat → Rat) : ∀ n, sm (fun i => c * f i) n = c * sm f n
  | 0 => by simp [sm]
  | n + 1 => by simp only [sm]; rw [sm_mul c f n]; grind
theorem sm_one {f : Nat → Rat} {k : Nat} : ∀ {n : Nat}, k < n → (∀ i, i < n → i ≠ k → f i = 0) → sm f n = f k
  | 0, h, _ => absurd h (by omega)
  | n + 1, h, h0 => by
    simp only [sm]
    by_cases e : k = n
    · subst e
      rw [sm_zero fun i hi => h0 i (by omega) (by omega)]; grind
    · rw [sm_one (by omega) fun i hi hne => h0 i (by omega) hne, h0 n (by omega) (fun z => e z.symm)]; grind
theorem sm_comm (f : Nat → Nat → Rat) (m : Nat) : ∀ n, sm (fun i => sm (fun j => f i j) m) n = sm (fun j => sm (fun i => f i j) n) m
  | 0 => by simp only [sm]; rw [sm_zero fun _ _ => rfl]
  | n + 1 => by
    simp only [sm]
    rw [sm_comm f m n, ← sm_add]
/-- one term set apart -/
theorem sm_split {f g : Nat → Rat} {k n : Nat} (hk : k < n) (h : ∀ i, i < n → i ≠ k → f i = g i) : sm f n = sm g n + (f k - g k) := by
  have : sm (fun i => f i - g i) n = f k - g k := sm_one hk fun i hi hne => by rw [h i hi hne]; grind
  rw [sm_sub] at this
  grind

/-- along a column -/
def E (v : Nat → Rat) : (List Nat → Rat) → List Nat → Rat
  | _, [] => 0
  | F, r :: rs => v r * F rs - E v (fun l => F (r :: l)) rs
theorem E_addv (v u : Nat → Rat) : ∀ (F : List Nat → Rat) (rs : List Nat), E (fun r => v r + u r) F rs = E v F rs + E u F rs
  | F, [] => by simp [E]; grind
  | F, r :: rs => by simp only [E]; rw [E_addv v u _ rs]; grind
theorem E_smulv (c : Rat) (v : Nat → Rat) : ∀ (F : List Nat → Rat) (rs : List Nat), E (fun r => c * v r) F rs = c * E v F rs
  | F, [] => by simp [E]
  | F, r :: rs => by simp only [E]; rw [E_smulv c v _ rs]; grind
theorem E_addF (v : Nat → Rat) : ∀ (F G : List Nat → Rat) (rs : List Nat), E v (fun l => F l + G l) rs = E v F rs + E v G rs
  | F, G, [] => by simp [E]; grind
  | F, G, r :: rs => by simp only [E]; rw [E_addF v (fun l => F (r :: l)) (fun l => G (r :: l)) rs]; grind
theorem E_smulF (v : Nat → Rat) (c : Rat) : ∀ (F : List Nat → Rat) (rs : List Nat), E v (fun l => c * F l) rs = c * E v F rs
  | F, [] => by simp [E]
  | F, r :: rs => by simp only [E]; rw [E_smulF v c (fun l => F (r :: l)) rs]; grind
theorem E_zeroF (v : Nat → Rat) : ∀ (rs : List Nat), E v (fun _ => 0) rs = 0
  | [] => rfl
  | r :: rs => by simp only [E]; rw [E_zeroF v rs]; grind
theorem E_zerov {v : Nat → Rat} : ∀ {F : List Nat → Rat} {rs : List Nat}, (∀ r ∈ rs, v r = 0) → E v F rs = 0
  | F, [], _ => rfl
  | F, r :: rs, h => by simp only [E]; rw [E_zerov fun q m => h q (List.mem_cons_of_mem _ m), h r List.mem_cons_self]; grind
theorem E_alt (v : Nat → Rat) : ∀ (F : List Nat → Rat) (rs : List Nat), E v (E v F) rs = 0
  | F, [] => rfl
  | F, r :: rs => by
    simp only [E]
    have h1 : E v (fun l => v r * F l - E v (fun l => F (r :: l)) l) rs = v r * E v F rs - E v (E v (fun l => F (r :: l))) rs := by
      have := E_addF v (fun l => v r * F l) (fun l => (-1) * E v (fun l => F (r :: l)) l) rs
      rw [E_smulF, E_smulF] at this
      have e : (fun l => v r * F l - E v (fun l => F (r :: l)) l) = fun l => v r * F l + (-1) * E v (fun l => F (r :: l)) l := by funext l; grind
      rw [e, this]
      grind
    rw [h1, E_alt v (fun l => F (r :: l)) rs]
    grind
theorem E_swap (v u : Nat → Rat) (F : List Nat → Rat) (rs : List Nat) : E v (E u F) rs = - E u (E v F) rs := by
  have h := E_alt (fun r => v r + u r) F rs
  have e : E (fun r => v r + u r) F = fun l => E v F l + E u F l := by funext l; exact E_addv v u F l
  rw [e, E_addv, E_addF, E_addF, E_alt, E_alt] at h
  grind
/-- the determinant of columns over rows -/
def det : List (Nat → Rat) → List Nat → Rat
  | [], _ => 1
  | v :: vs, rs => E v (det vs) rs
theorem det_add (x y : Nat → Rat) (B : List (Nat → Rat)) : ∀ (A : List (Nat → Rat)) (rs : List Nat), det (A ++ (fun r => x r + y r) :: B) rs = det (A ++ x :: B) rs + det (A ++ y :: B) rs
  | [], rs => E_addv x y _ rs
  | a :: A, rs => by
    simp only [List.cons_append, det]
    have : det (A ++ (fun r => x r + y r) :: B) = fun l => det (A ++ x :: B) l + det (A ++ y :: B) l := funext (det_add x y B A)
    rw [this, E_addF]
theorem det_smul (c : Rat) (x : Nat → Rat) (B : List (Nat → Rat)) : ∀ (A : List (Nat → Rat)) (rs : List Nat), det (A ++ (fun r => c * x r) :: B) rs = c * det (A ++ x :: B) rs
  | [], rs => E_smulv c x _ rs
  | a :: A, rs => by
    simp only [List.cons_append, det]
    have : det (A ++ (fun r => c * x r) :: B) = fun l => c * det (A ++ x :: B) l := funext (det_smul c x B A)
    rw [this, E_smulF]
theorem det_zero (B : List (Nat → Rat)) : ∀ (A : List (Nat → Rat)) (rs : List Nat), det (A ++ (fun _ => 0) :: B) rs = 0
  | [], rs => E_zerov fun _ _ => rfl
  | a :: A, rs => by
    simp only [List.cons_append, det]
    have : det (A ++ (fun _ => 0) :: B) = fun _ => 0 := funext (det_zero B A)
    rw [this, E_zeroF]
theorem det_dup0 (x : Nat → Rat) (B : List (Nat → Rat)) : ∀ (A : List (Nat → Rat)) (rs : List Nat), det (x :: (A ++ x :: B)) rs = 0
  | [], rs => E_alt x _ rs
  | a :: A, rs => by
    simp only [List.cons_append, det]
    rw [E_swap]
    have : E x (det (A ++ x :: B)) = fun _ => 0 := funext (det_dup0 x B A)
    rw [this, E_zeroF]
    grind
theorem det_dup (x : Nat → Rat) (A B : List (Nat → Rat)) : ∀ (P : List (Nat → Rat)) (rs : List Nat), det (P ++ x :: (A ++ x :: B)) rs = 0
  | [], rs => det_dup0 x B A rs
  | p :: P, rs => by
    simp only [List.cons_append, det]
    have : det (P ++ x :: (A ++ x :: B)) = fun _ => 0 := funext (det_dup x A B P)
    rw [this, E_zeroF]
theorem set_eq {α : Type} (V : List α) {i : Nat} (h : i < V.length) (x : α) : V.set i x = V.take i ++ x :: V.drop (i + 1) := List.set_eq_take_append_cons_drop .. |>.trans (by rw [if_pos h])
section
variable {V : List (Nat → Rat)} {rs : List Nat}
theorem dset_add {i : Nat} (h : i < V.length) (x y : Nat → Rat) : det (V.set i fun r => x r + y r) rs = det (V.set i x) rs + det (V.set i y) rs := by
  rw [set_eq V h, set_eq V h, set_eq V h, det_add]
theorem dset_smul {i : Nat} (h : i < V.length) (c : Rat) (x : Nat → Rat) : det (V.set i fun r => c * x r) rs = c * det (V.set i x) rs := by
  rw [set_eq V h, set_eq V h, det_smul]
theorem dset_zero {i : Nat} (h : i < V.length) : det (V.set i fun _ => 0) rs = 0 := by rw [set_eq V h, det_zero]
/-- two columns the same -/
theorem det_eq {i j : Nat} (hij : i < j) (hj : j < V.length) (e : V[i] = V[j]) : det V rs = 0 := by
  have h1 : V = V.take i ++ V[i] :: ((V.drop (i + 1)).take (j - i - 1) ++ V[j] :: V.drop (j + 1)) := by
    have a : V = V.take i ++ V.drop i := (List.take_append_drop i V).symm
    have b : V.drop i = V[i] :: V.drop (i + 1) := List.drop_eq_getElem_cons (by omega)
    have c : V.drop (i + 1) = (V.drop (i + 1)).take (j - i - 1) ++ (V.drop (i + 1)).drop (j - i - 1) := (List.take_append_drop _ _).symm
    have d : (V.drop (i + 1)).drop (j - i - 1) = V[j] :: V.drop (j + 1) := by
      rw [List.drop_drop, show i + 1 + (j - i - 1) = j by omega]
      exact List.drop_eq_getElem_cons hj
    rw [d] at c
    rw [← c, ← b]
    exact a
  rw [h1, ← e]
  exact det_dup _ _ _ _ _
theorem dset_dup {i k : Nat} (hi : i < V.length) (hk : k < V.length) (hne : i ≠ k) : det (V.set i V[k]) rs = 0 := by
  rcases Nat.lt_or_gt_of_ne hne with h | h
  · refine det_eq h (by simpa using hk) ?_
    rw [List.getElem_set_self, List.getElem_set_ne hne]
  · refine det_eq h (by simpa using hi) ?_
    rw [List.getElem_set_self, List.getElem_set_ne hne]
theorem dset_sm {i : Nat} (h : i < V.length) (x : Nat → Rat) (u : Nat → Nat → Rat) : ∀ n, det (V.set i fun r => sm (fun k => x k * u k r) n) rs = sm (fun k => x k * det (V.set i (u k)) rs) n
  | 0 => dset_zero h
  | n + 1 => by
    simp only [sm]
    rw [dset_add h, dset_sm h x u n, dset_smul h]
theorem cramer {x : Nat → Rat} {b : Nat → Rat} (hb : ∀ r, b r = sm (fun i => x i * (V.getD i fun _ => 0) r) V.length) {j : Nat} (hj : j < V.length) : det (V.set j b) rs = x j * det V rs := by
  have e : b = fun r => sm (fun i => x i * (V.getD i fun _ => 0) r) V.length := funext hb
  rw [e, dset_sm hj]
  have g : ∀ i, i < V.length → (V.getD i fun _ => 0) = V[i]! := fun i hi => by simp [List.getD_eq_getElem?_getD, List.getElem?_eq_getElem hi, hi]
  rw [sm_one hj fun i hi hne => ?_]
  · have : (V.getD j fun _ => 0) = V[j] := by simp [List.getD_eq_getElem?_getD, List.getElem?_eq_getElem hj]
    rw [this, List.set_getElem_self]
  · have : (V.getD i fun _ => 0) = V[i] := by simp [List.getD_eq_getElem?_getD, List.getElem?_eq_getElem hi]
    rw [this, dset_dup hj hi (Ne.symm hne)]
    grind
/-- two columns exchanged -/
theorem dset_comm {i j : Nat} (hi : i < V.length) (hj : j < V.length) (hne : i ≠ j) (x y : Nat → Rat) : det ((V.set i x).set j y) rs = - det ((V.set i y).set j x) rs := by
  have z : ∀ x, det ((V.set i x).set j x) rs = 0 := fun x => by
    rcases Nat.lt_or_gt_of_ne hne with h | h
    · refine det_eq h (by simpa using hj) ?_
      rw [List.getElem_set_self, List.getElem_set_ne (Ne.symm hne), List.getElem_set_self]
    · refine det_eq h (by simpa using hi) ?_
      rw [List.getElem_set_self, List.getElem_set_ne (Ne.symm hne), List.getElem_set_self]
  have hj' : ∀ x, j < (V.set i x).length := fun x => by simpa using hj
  have hi' : ∀ x, i < (V.set j x).length := fun x => by simpa using hi
  have h := z fun r => x r + y r
  rw [dset_add (hj' _)] at h
  have c : ∀ a b, (V.set i a).set j b = (V.set j b).set i a := fun a b => List.set_comm _ _ hne
  rw [c, c, dset_add (hi' _), dset_add (hi' _), ← c, ← c, ← c, ← c, z, z] at h
  grind
end
theorem E_int {v : Nat → Rat} {m B : Nat} (hv : ∀ r, ∃ k : Int, v r = (k : Rat) ∧ k.natAbs ≤ m) : ∀ (rs : List Nat) (K : Nat) (F : List Nat → Rat), rs.length ≤ K → (∀ l : List Nat, l.length ≤ K → ∃ z : Int, F l = (z : Rat) ∧ z.natAbs ≤ B) → ∃ z : Int, E v F rs = (z : Rat) ∧ z.natAbs ≤ rs.length * m * B
  | [], K, F, _, _ => ⟨0, by simp [E], by simp⟩
  | r :: rs, K, F, hK, hF => by
    simp only [List.length_cons] at hK
    obtain ⟨k, ek, bk⟩ := hv r
    obtain ⟨a, ea, ba⟩ := hF rs (by omega)
    obtain ⟨z, ez, bz⟩ := E_int hv rs (K - 1) (fun l => F (r :: l)) (by omega) (fun l hl => hF (r :: l) (by simp; omega))
    refine ⟨k * a - z, ?_, ?_⟩
    · simp only [E]
      rw [ek, ea, ez, Rat.intCast_sub, Rat.intCast_mul]
    · have h1 : (k * a - z).natAbs ≤ k.natAbs * a.natAbs + z.natAbs := by
        rw [← Int.natAbs_mul]; omega
      have h2 : k.natAbs * a.natAbs ≤ m * B := Nat.mul_le_mul bk ba
      have h3 : (rs.length + 1) * m * B = rs.length * m * B + m * B := by rw [Nat.add_mul, Nat.one_mul, Nat.add_mul]
      simp only [List.length_cons]
      rw [h3]
      omega
theorem det_int {m K : Nat} : ∀ (V : List (Nat → Rat)), (∀ v ∈ V, ∀ r, ∃ k : Int, v r = (k : Rat) ∧ k.natAbs ≤ m) → ∀ rs : List Nat, rs.length ≤ K → ∃ z : Int, det V rs = (z : Rat) ∧ z.natAbs ≤ (K * m) ^ V.length
  | [], _, rs, _ => ⟨1, rfl, by simp⟩
  | v :: V, h, rs, hl => by
    obtain ⟨z, e, b⟩ := E_int (B := (K * m) ^ V.length) (h v List.mem_cons_self) rs K (det V) hl (fun l hl => det_int V (fun u mu => h u (List.mem_cons_of_mem _ mu)) l hl)
    refine ⟨z, e, Nat.le_trans b ?_⟩
    rw [List.length_cons, Nat.pow_succ, Nat.mul_comm ((K * m) ^ V.length)]
    exact Nat.mul_le_mul_right _ (Nat.mul_le_mul_right _ hl)
/-- c times the unit columns -/
def unitC (c : Rat) (i r : Nat) : Rat := if r = i then c else 0
theorem det_unit (c : Rat) : ∀ (n k : Nat), det ((List.range' k n).map (unitC c)) (List.range' k n) = c ^ n
  | 0, k => by simp [det]
  | n + 1, k => by
    rw [List.range'_succ, List.map_cons]
    simp only [det, E]
    rw [det_unit c n (k + 1), E_zerov (v := unitC c k) (rs := List.range' (k + 1) n) (fun r m => by
      have := List.mem_range'_1.mp m
      unfold unitC
      rw [if_neg (by omega)])]
    unfold unitC
    rw [if_pos rfl, Rat.pow_succ]
    grind
end LA

/-! LA2: elimination, the sizes of what stands in the rows. -/
namespace LA
/-- V: the columns of a basis; A: what the columns are in this basis -/
structure El (n w m : Nat) (col : Nat → Nat → Rat) (A : Nat → Nat → Rat) (V : List (Nat → Rat)) : Prop where
  len : V.length = n
  int : ∀ v ∈ V, ∀ r, ∃ k : Int, v r = (k : Rat) ∧ k.natAbs ≤ m
  wn : n ≤ w
  m1 : 0 < m
  cint : ∀ j, j < n → ∀ r, ∃ k : Int, col j r = (k : Rat) ∧ k.natAbs ≤ m
  dz : det V (List.range' 0 n) ≠ 0
  eq : ∀ j, j < w → ∀ r, col j r = sm (fun i => A i j * (V.getD i fun _ => 0) r) n
section
variable {n w m : Nat} {col A : Nat → Nat → Rat} {V : List (Nat → Rat)}
theorem El.cram (h : El n w m col A V) {i j : Nat} (hi : i < n) (hj : j < w) : det (V.set i (col j)) (List.range' 0 n) = A i j * det V (List.range' 0 n) :=
  cramer (x := fun i => A i j) (by rw [h.len]; exact h.eq j hj) (by rw [h.len]; exact hi)
theorem mem_setL {α : Type} {V : List α} {i : Nat} {x v : α} (m : v ∈ V.set i x) : v ∈ V ∨ v = x := List.mem_or_eq_of_mem_set m
/-- what stands in the rows, over one divisor; a column whose multiple by K is whole -/
theorem El.size (h : El n w m col A V) : ∃ D : Int, D ≠ 0 ∧ D.natAbs ≤ (n * m) ^ n ∧ (∀ i j, i < n → j < n → ∃ N : Int, A i j = Rat.divInt N D ∧ N.natAbs ≤ (n * m) ^ n) ∧
    ∀ (K m2 j : Nat), 0 < K → j < w → (∀ r, n ≤ r → col j r = 0) → (∀ r, r < n → ∃ k : Int, (K : Rat) * col j r = (k : Rat) ∧ k.natAbs ≤ m2) → ∀ i, i < n → ∃ N : Int, A i j = Rat.divInt N ((K : Int) * D) ∧ N.natAbs ≤ n * m2 * (n * m) ^ n := by
  obtain ⟨D, eD, bD⟩ := det_int V h.int (List.range' 0 n) (K := n) (by simp)
  rw [h.len] at bD
  have hD : D ≠ 0 := fun z => h.dz (by rw [eD, z]; rfl)
  have hq : (D : Rat) ≠ 0 := fun z => hD (by exact_mod_cast z)
  have unit : ∀ (c : Nat → Rat) (i : Nat), (∀ r, ∃ k : Int, c r = (k : Rat) ∧ k.natAbs ≤ m) → ∃ N : Int, det (V.set i c) (List.range' 0 n) = (N : Rat) ∧ N.natAbs ≤ (n * m) ^ n := fun c i hc => by
    obtain ⟨N, eN, bN⟩ := det_int (V.set i c) (fun v mv r => by
      rcases mem_setL mv with mv | rfl
      · exact h.int v mv r
      · exact hc r) (List.range' 0 n) (K := n) (by simp)
    rw [List.length_set, h.len] at bN
    exact ⟨N, eN, bN⟩
  refine ⟨D, hD, bD, fun i j hi hj => ?_, fun K m2 j hK hj h0 hk i hi => ?_⟩
  · obtain ⟨N, eN, bN⟩ := unit (col j) i (h.cint j hj)
    refine ⟨N, ?_, bN⟩
    have c := h.cram hi (Nat.lt_of_lt_of_le hj h.wn)
    rw [eD, eN] at c
    rw [Rat.divInt_eq_div, c]
    rw [Rat.mul_div_cancel hq]
  · -- the column as a sum of unit columns
    obtain ⟨ks, hks⟩ : ∃ ks : Nat → Int, ∀ r, r < n → (K : Rat) * col j r = (ks r : Rat) ∧ (ks r).natAbs ≤ m2 := by
      have : ∀ r, ∃ k : Int, r < n → (K : Rat) * col j r = (k : Rat) ∧ k.natAbs ≤ m2 := fun r => by
        by_cases hr : r < n
        · obtain ⟨k, e⟩ := hk r hr; exact ⟨k, fun _ => e⟩
        · exact ⟨0, fun z => absurd z hr⟩
      exact Classical.axiomOfChoice this
    have hcol : (fun r => (K : Rat) * col j r) = fun r => sm (fun s => (ks s : Rat) * unitC 1 s r) n := by
      funext r
      by_cases hr : r < n
      · rw [sm_one hr fun s _ hne => by unfold unitC; rw [if_neg (fun z => hne z.symm)]; grind]
        unfold unitC
        rw [if_pos rfl, (hks r hr).1]; grind
      · rw [h0 r (by omega), sm_zero fun s hs => by unfold unitC; rw [if_neg (by omega)]; grind]
        grind
    have hil : i < V.length := by rw [h.len]; exact hi
    have e1 : det (V.set i fun r => (K : Rat) * col j r) (List.range' 0 n) = (K : Rat) * (A i j * D) := by
      rw [dset_smul hil, h.cram hi hj, eD]
    rw [hcol, dset_sm hil] at e1
    -- its size
    have bound : ∀ t, t ≤ n → ∃ N : Int, sm (fun s => (ks s : Rat) * det (V.set i (unitC 1 s)) (List.range' 0 n)) t = (N : Rat) ∧ N.natAbs ≤ t * m2 * (n * m) ^ n := by
      intro t
      induction t with
      | zero => exact fun _ => ⟨0, rfl, by simp⟩
      | succ t ih =>
        intro ht
        obtain ⟨N, e2, b2⟩ := ih (by omega)
        obtain ⟨U, e3, b3⟩ := unit (unitC 1 t) i (fun r => by
          unfold unitC
          split
          · exact ⟨1, rfl, by have := h.m1; simp; omega⟩
          · exact ⟨0, rfl, by simp⟩)
        refine ⟨N + ks t * U, ?_, ?_⟩
        · simp only [sm]
          rw [e2, e3, Rat.intCast_add, Rat.intCast_mul]
        · have h1 : (N + ks t * U).natAbs ≤ N.natAbs + (ks t).natAbs * U.natAbs := by rw [← Int.natAbs_mul]; omega
          have h2 : (ks t).natAbs * U.natAbs ≤ m2 * (n * m) ^ n := Nat.mul_le_mul (hks t (by omega)).2 b3
          have h3 : (t + 1) * m2 * (n * m) ^ n = t * m2 * (n * m) ^ n + m2 * (n * m) ^ n := by rw [Nat.add_mul, Nat.one_mul, Nat.add_mul]
          rw [h3]
          omega
    obtain ⟨N, e2, b2⟩ := bound n (Nat.le_refl n)
    refine ⟨N, ?_, b2⟩
    rw [e2] at e1
    have hKq : (K : Rat) ≠ 0 := fun z => by
      have : K = 0 := by exact_mod_cast z
      omega
    rw [Rat.divInt_eq_div, e1]
    have e4 : (((K : Int) * D : Int) : Rat) = (K : Rat) * (D : Rat) := by rw [Rat.intCast_mul]; rfl
    rw [e4]
    have hKD : (K : Rat) * (D : Rat) ≠ 0 := fun z => (Rat.mul_eq_zero.mp z).elim hKq hq
    have e5 : (K : Rat) * (A i j * (D : Rat)) = A i j * ((K : Rat) * (D : Rat)) := by grind
    rw [e5, Rat.mul_div_cancel hKD]
def pivA (A : Nat → Nat → Rat) (p c : Nat) (i j : Nat) : Rat := if i = p then A p j / A p c else A i j - A i c * (A p j / A p c)
theorem El.pivot (h : El n w m col A V) {p c : Nat} (hp : p < n) (hcn : c < n) (hz : A p c ≠ 0) : El n w m col (pivA A p c) (V.set p (col c)) where
  len := by rw [List.length_set, h.len]
  int := fun v mv r => by
    rcases mem_setL mv with mv | rfl
    · exact h.int v mv r
    · exact h.cint c hcn r
  wn := h.wn
  m1 := h.m1
  cint := h.cint
  dz := by
    rw [h.cram hp (Nat.lt_of_lt_of_le hcn h.wn)]
    intro z
    rcases Rat.mul_eq_zero.mp z with z | z
    · exact hz z
    · exact h.dz z
  eq := fun j hj r => by
    have hl := h.len
    have e1 := h.eq j hj r
    have e2 := h.eq c (Nat.lt_of_lt_of_le hcn h.wn) r
    have g : ∀ i, i < n → ((V.set p (col c)).getD i fun _ => 0) = if i = p then col c else (V.getD i fun _ => 0) := fun i hi => by
      simp only [List.getD_eq_getElem?_getD]
      by_cases e : i = p
      · subst e
        rw [List.getElem?_set_self (by omega), if_pos rfl]; rfl
      · rw [List.getElem?_set_ne (fun z => e z.symm), if_neg e]
    have s1 : sm (fun i => pivA A p c i j * ((V.set p (col c)).getD i fun _ => 0) r) n = sm (fun i => A i j * (V.getD i fun _ => 0) r - (A p j / A p c) * (A i c * (V.getD i fun _ => 0) r)) n + ((A p j / A p c) * col c r - (A p j * (V.getD p fun _ => 0) r - (A p j / A p c) * (A p c * (V.getD p fun _ => 0) r))) := by
      have := sm_split (f := fun i => pivA A p c i j * ((V.set p (col c)).getD i fun _ => 0) r) (g := fun i => A i j * (V.getD i fun _ => 0) r - (A p j / A p c) * (A i c * (V.getD i fun _ => 0) r)) hp (fun i hi hne => by
        rw [g i hi, if_neg hne]
        unfold pivA
        rw [if_neg hne]
        grind)
      rw [this]
      rw [g p hp, if_pos rfl]
      unfold pivA
      rw [if_pos rfl]
    rw [s1, sm_sub, sm_mul, ← e1, ← e2]
    have hq : A p j / A p c * A p c = A p j := Rat.div_mul_cancel hz
    grind
theorem El.swap (h : El n w m col A V) {p q : Nat} (hp : p < n) (hq : q < n) : El n w m col (fun i j => A (if i = p then q else if i = q then p else i) j) ((V.set p (V.getD q fun _ => 0)).set q (V.getD p fun _ => 0)) := by
  have hl := h.len
  by_cases e : p = q
  · subst e
    have e1 : (V.set p (V.getD p fun _ => 0)).set p (V.getD p fun _ => 0) = V := by
      rw [List.set_set, List.getD_eq_getElem?_getD, List.getElem?_eq_getElem (by omega)]
      simp
    have e2 : (fun i j => A (if i = p then p else if i = p then p else i) j) = A := by
      funext i j
      split
      · rename_i z; rw [z]
      · rfl
    rw [e1, e2]
    exact h
  · have gp : (V.getD p fun _ => 0) = V[p]'(by omega) := by simp [List.getD_eq_getElem?_getD, List.getElem?_eq_getElem (show p < V.length by omega)]
    have gq : (V.getD q fun _ => 0) = V[q]'(by omega) := by simp [List.getD_eq_getElem?_getD, List.getElem?_eq_getElem (show q < V.length by omega)]
    refine ⟨by rw [List.length_set, List.length_set, hl], fun v mv r => ?_, h.wn, h.m1, h.cint, ?_, fun j hj r => ?_⟩
    · rcases mem_setL mv with mv | rfl
      · rcases mem_setL mv with mv | rfl
        · exact h.int v mv r
        · rw [gq]; exact h.int _ (List.getElem_mem _) r
      · rw [gp]; exact h.int _ (List.getElem_mem _) r
    · rw [dset_comm (by omega) (by omega) e, gp, gq]
      have e1 : (V.set p V[p]).set q V[q] = V := by
        rw [List.set_getElem_self]
        exact List.set_getElem_self _
      rw [e1]
      intro z
      apply h.dz
      grind
    · rw [h.eq j hj r]
      have g : ∀ i, i < n → (((V.set p (V.getD q fun _ => 0)).set q (V.getD p fun _ => 0)).getD i fun _ => 0) = if i = p then (V.getD q fun _ => 0) else if i = q then (V.getD p fun _ => 0) else (V.getD i fun _ => 0) := fun i hi => by
        rw [List.getD_eq_getElem?_getD]
        by_cases ep : i = p
        · subst ep
          rw [List.getElem?_set_ne (fun z => e z.symm), List.getElem?_set_self (by omega), if_pos rfl]; rfl
        · by_cases eq : i = q
          · subst eq
            rw [List.getElem?_set_self (by rw [List.length_set]; omega), if_neg ep, if_pos rfl]; rfl
          · rw [List.getElem?_set_ne (fun z => eq z.symm), List.getElem?_set_ne (fun z => ep z.symm), if_neg ep, if_neg eq, List.getD_eq_getElem?_getD]
      -- the sums: two terms exchanged
      let f : Nat → Rat := fun i => A i j * (V.getD i fun _ => 0) r
      let gg : Nat → Rat := fun i => A (if i = p then q else if i = q then p else i) j * (((V.set p (V.getD q fun _ => 0)).set q (V.getD p fun _ => 0)).getD i fun _ => 0) r
      let f1 : Nat → Rat := fun i => if i = p then f q else f i
      have a1 : sm f1 n = sm f n + (f q - f p) := by
        have := sm_split (f := f1) (g := f) hp (fun i _ hne => by show (if i = p then _ else _) = _; rw [if_neg hne])
        rw [this]
        show _ + ((if p = p then f q else f p) - f p) = _
        rw [if_pos rfl]
      have a2 : sm gg n = sm f1 n + (gg q - f1 q) := sm_split hq (fun i hi hne => by
        show A _ j * _ = _
        rw [g i hi]
        by_cases ep : i = p
        · show A (if i = p then q else _) j * _ = (if i = p then f q else f i)
          rw [if_pos ep, if_pos ep, if_pos ep]
        · show A (if i = p then q else if i = q then p else i) j * _ = (if i = p then f q else f i)
          rw [if_neg ep, if_neg hne, if_neg ep, if_neg hne, if_neg ep])
      have a3 : gg q = f p := by
        show A (if q = p then q else if q = q then p else q) j * _ = _
        rw [g q hq, if_neg (fun z => e z.symm), if_pos rfl, if_neg (fun z => e z.symm), if_pos rfl]
      have a4 : f1 q = f q := by
        show (if q = p then _ else _) = _
        rw [if_neg (fun z => e z.symm)]
      show sm f n = sm gg n
      rw [a2, a1, a3, a4]
      grind
/-- the beginning -/
def colOf (n M : Nat) (R : Nat → Nat → Rat) (j r : Nat) : Rat := if r < n then (M : Rat) * R r j else 0
theorem El.start {R : Nat → Nat → Rat} {M : Nat} (hM : 0 < M) (hm : M ≤ m) (hw : n ≤ w) (hR : ∀ r j, r < n → j < n → ∃ k : Int, (M : Rat) * R r j = (k : Rat) ∧ k.natAbs ≤ m) : El n w m (colOf n M R) R ((List.range' 0 n).map (unitC (M : Rat))) where
  len := by simp
  int := fun v mv r => by
    obtain ⟨i, _, rfl⟩ := List.mem_map.mp mv
    unfold unitC
    split
    · exact ⟨M, rfl, by simpa using hm⟩
    · exact ⟨0, rfl, by simp⟩
  wn := hw
  m1 := Nat.lt_of_lt_of_le hM hm
  cint := fun j hj r => by
    unfold colOf
    split
    · rename_i h; exact hR r j h hj
    · exact ⟨0, rfl, by simp⟩
  dz := by
    rw [det_unit]
    have h0 : (M : Rat) ≠ 0 := fun z => by
      have : M = 0 := by exact_mod_cast z
      omega
    intro z
    have key : ∀ k : Nat, (M : Rat) ^ k ≠ 0 := fun k => by
      induction k with
      | zero => rw [Rat.pow_zero]; decide
      | succ k ih =>
        rw [Rat.pow_succ]
        intro z
        rcases Rat.mul_eq_zero.mp z with z | z
        · exact ih z
        · exact h0 z
    exact key n z
  eq := fun j hj r => by
    have g : ∀ i, i < n → (((List.range' 0 n).map (unitC (M : Rat))).getD i fun _ => 0) = unitC (M : Rat) i := fun i hi => by
      rw [List.getD_eq_getElem?_getD, List.getElem?_map, List.getElem?_eq_getElem (by simpa using hi)]
      simp
    rw [sm_congr (g := fun i => R i j * unitC (M : Rat) i r) fun i hi => by rw [g i hi]]
    unfold colOf
    by_cases h : r < n
    · rw [if_pos h, sm_one h fun i _ hne => by unfold unitC; rw [if_neg (fun z => hne z.symm)]; grind]
      unfold unitC
      rw [if_pos rfl]
      grind
    · rw [if_neg h, sm_zero fun i hi => by unfold unitC; rw [if_neg (by omega)]; grind]
/-- the solution: the basis is made of the first n columns -/
theorem El.solved {R : Nat → Nat → Rat} {M : Nat} (hM : 0 < M) (h : El n w m (colOf n M R) A V) (hV : ∀ i, i < n → (V.getD i fun _ => 0) = colOf n M R i) {j : Nat} (hj : j < w) {r : Nat} (hr : r < n) : sm (fun i => A i j * R r i) n = R r j := by
  have e := h.eq j hj r
  rw [sm_congr (g := fun i => (M : Rat) * (A i j * R r i)) fun i hi => by rw [hV i hi]; unfold colOf; rw [if_pos hr]; grind, sm_mul] at e
  unfold colOf at e
  rw [if_pos hr] at e
  have h0 : (M : Rat) ≠ 0 := fun z => by
    have : M = 0 := by exact_mod_cast z
    omega
  have : (M : Rat) * (R r j - sm (fun i => A i j * R r i) n) = 0 := by grind
  rcases Rat.mul_eq_zero.mp this with z | z
  · exact absurd z h0
  · grind
/-- a column without pivot: the first columns are not independent -/
theorem El.nopiv {R : Nat → Nat → Rat} {M : Nat} (hM : 0 < M) (h : El n w m (colOf n M R) A V) {c : Nat} (hc : c < n) (hw : c < w) (hV : ∀ i, i < c → (V.getD i fun _ => 0) = colOf n M R i) (hz : ∀ i, c ≤ i → i < n → A i c = 0) :
    ∃ x : Nat → Rat, x c = -1 ∧ ∀ r, r < n → sm (fun i => x i * R r i) n = 0 := by
  refine ⟨fun i => if i < c then A i c else if i = c then -1 else 0, by simp, fun r hr => ?_⟩
  have e := h.eq c hw r
  have h0 : (M : Rat) ≠ 0 := fun z => by
    have : M = 0 := by exact_mod_cast z
    omega
  let f : Nat → Rat := fun i => (if i < c then A i c else if i = c then -1 else 0) * R r i
  let g : Nat → Rat := fun i => (if i < c then A i c else 0) * R r i
  have a1 : sm f n = sm g n + (f c - g c) := sm_split hc (fun i hi hne => by
    show (if i < c then A i c else if i = c then -1 else 0) * R r i = (if i < c then A i c else 0) * R r i
    rw [if_neg hne])
  have a2 : f c = - R r c := by
    show (if c < c then A c c else if c = c then -1 else 0) * R r c = _
    rw [if_neg (by omega), if_pos rfl]; grind
  have a3 : g c = 0 := by
    show (if c < c then A c c else 0) * R r c = _
    rw [if_neg (by omega)]; grind
  have a4 : (M : Rat) * R r c = (M : Rat) * sm g n := by
    unfold colOf at e
    rw [if_pos hr] at e
    rw [e, ← sm_mul]
    refine sm_congr fun i hi => ?_
    by_cases hic : i < c
    · have := hV i hic
      rw [this]
      unfold colOf
      rw [if_pos hr]
      show A i c * _ = (M : Rat) * ((if i < c then A i c else 0) * R r i)
      rw [if_pos hic]; grind
    · rw [hz i (by omega) hi]
      show _ = (M : Rat) * ((if i < c then A i c else 0) * R r i)
      rw [if_neg hic]; grind
  show sm f n = 0
  rw [a1, a2, a3]
  have : (M : Rat) * (R r c - sm g n) = 0 := by grind
  rcases Rat.mul_eq_zero.mp this with z | z
  · exact absurd z h0
  · grind
end
end LA

/-! LA3: the elimination column by column. -/
namespace LA
def swapA (A : Nat → Nat → Rat) (p q : Nat) (i j : Nat) : Rat := A (if i = p then q else if i = q then p else i) j
def fstP (n c : Nat) (A : Nat → Nat → Rat) : Option Nat := (List.range' c (n - c)).find? fun k => decide (A k c ≠ 0)
def stepA (A : Nat → Nat → Rat) (c p : Nat) : Nat → Nat → Rat := pivA (swapA A c p) c c
/-- the rows behind c columns -/
def gA (n : Nat) (R : Nat → Nat → Rat) : Nat → Nat → Nat → Rat
  | 0 => R
  | c + 1 => stepA (gA n R c) c ((fstP n c (gA n R c)).getD c)
/-- the only solution of what stands on the left with 0 on the right is 0 -/
def NonSing (n : Nat) (R : Nat → Nat → Rat) : Prop := ∀ x : Nat → Rat, (∀ r, r < n → sm (fun i => x i * R r i) n = 0) → ∀ i, i < n → x i = 0
theorem fstP_some {n c p : Nat} {A : Nat → Nat → Rat} (h : fstP n c A = some p) : c ≤ p ∧ p < n ∧ A p c ≠ 0 := by
  unfold fstP at h
  have h1 := List.find?_some h
  have h2 := List.mem_range'_1.mp (List.mem_of_find?_eq_some h)
  simp only [ne_eq, decide_eq_true_eq] at h1
  exact ⟨h2.1, by omega, h1⟩
theorem fstP_none {n c : Nat} {A : Nat → Nat → Rat} (h : fstP n c A = none) : ∀ i, c ≤ i → i < n → A i c = 0 := fun i h1 h2 => by
  unfold fstP at h
  have := List.find?_eq_none.mp h i (List.mem_range'_1.mpr ⟨h1, by omega⟩)
  simpa using this
section
variable {n w m M : Nat} {R : Nat → Nat → Rat}
theorem gauss_inv (hM : 0 < M) (hm : M ≤ m) (hw : n ≤ w) (hR : ∀ r j, r < n → j < n → ∃ k : Int, (M : Rat) * R r j = (k : Rat) ∧ k.natAbs ≤ m) (hs : NonSing n R) :
    ∀ c, c ≤ n → (∃ V, El n w m (colOf n M R) (gA n R c) V ∧ ∀ i, i < c → (V.getD i fun _ => 0) = colOf n M R i) ∧ (c < n → ∃ p, fstP n c (gA n R c) = some p)
  | c, hc => by
    have main : ∃ V, El n w m (colOf n M R) (gA n R c) V ∧ ∀ i, i < c → (V.getD i fun _ => 0) = colOf n M R i := by
      cases c with
      | zero => exact ⟨_, El.start hM hm hw hR, fun i hi => absurd hi (by omega)⟩
      | succ c =>
        obtain ⟨⟨V, h1, h2⟩, h3⟩ := gauss_inv hM hm hw hR hs c (by omega)
        obtain ⟨p, hp⟩ := h3 (by omega)
        obtain ⟨p1, p2, p3⟩ := fstP_some hp
        have hl := h1.len
        have s1 := h1.swap (p := c) (q := p) (by omega) p2
        have e1 : (fun i j => gA n R c (if i = c then p else if i = p then c else i) j) = swapA (gA n R c) c p := rfl
        rw [e1] at s1
        have hz : swapA (gA n R c) c p c c ≠ 0 := by unfold swapA; rw [if_pos rfl]; exact p3
        have s2 := s1.pivot (p := c) (c := c) (by omega) (by omega) hz
        refine ⟨_, by show El n w m _ (stepA (gA n R c) c ((fstP n c (gA n R c)).getD c)) _; rw [hp]; exact s2, fun i hi => ?_⟩
        rw [List.getD_eq_getElem?_getD]
        by_cases e : i = c
        · subst e
          rw [List.getElem?_set_self (by simp; omega)]; rfl
        · rw [List.getElem?_set_ne (fun z => e z.symm), List.getElem?_set_ne (by omega), List.getElem?_set_ne (fun z => e z.symm), ← List.getD_eq_getElem?_getD]
          exact h2 i (by omega)
    refine ⟨main, fun hlt => ?_⟩
    obtain ⟨V, h1, h2⟩ := main
    cases hp : fstP n c (gA n R c) with
    | some p => exact ⟨p, rfl⟩
    | none =>
      obtain ⟨x, e1, e2⟩ := h1.nopiv hM hlt (by omega) h2 (fstP_none hp)
      have := hs x e2 c hlt
      rw [e1] at this
      exact absurd this (by decide)
theorem gauss_size (hM : 0 < M) (hm : M ≤ m) (hw : n ≤ w) (hR : ∀ r j, r < n → j < n → ∃ k : Int, (M : Rat) * R r j = (k : Rat) ∧ k.natAbs ≤ m) (hs : NonSing n R) {c : Nat} (hc : c ≤ n) :
    ∃ D : Int, D ≠ 0 ∧ D.natAbs ≤ (n * m) ^ n ∧ (∀ i j, i < n → j < n → ∃ N : Int, gA n R c i j = Rat.divInt N D ∧ N.natAbs ≤ (n * m) ^ n) ∧
      ∀ (K m2 j : Nat), 0 < K → j < w → (∀ r, r < n → ∃ k : Int, (K : Rat) * ((M : Rat) * R r j) = (k : Rat) ∧ k.natAbs ≤ m2) → ∀ i, i < n → ∃ N : Int, gA n R c i j = Rat.divInt N ((K : Int) * D) ∧ N.natAbs ≤ n * m2 * (n * m) ^ n := by
  obtain ⟨⟨V, h, _⟩, _⟩ := gauss_inv hM hm hw hR hs c hc
  obtain ⟨D, h1, h2, h3, h4⟩ := h.size
  refine ⟨D, h1, h2, h3, fun K m2 j hK hj hk => h4 K m2 j hK hj (fun r hr => by unfold colOf; rw [if_neg (by omega)]) (fun r hr => ?_)⟩
  unfold colOf
  rw [if_pos hr]
  exact hk r hr
theorem gauss_sol (hM : 0 < M) (hm : M ≤ m) (hw : n ≤ w) (hR : ∀ r j, r < n → j < n → ∃ k : Int, (M : Rat) * R r j = (k : Rat) ∧ k.natAbs ≤ m) (hs : NonSing n R) {j : Nat} (hj : j < w) {r : Nat} (hr : r < n) :
    sm (fun i => gA n R n i j * R r i) n = R r j := by
  obtain ⟨⟨V, h, h2⟩, _⟩ := gauss_inv hM hm hw hR hs n (Nat.le_refl _)
  exact h.solved hM h2 hj hr
end
end LA

/-! LA4: sizes of fractions; lists made of a range. -/
namespace LA
open Dn
/-- both parts at most Z -/
def Bd (Z : Nat) (q : Rat) : Prop := q.num.natAbs ≤ Z ∧ q.den ≤ Z
theorem Bd.le {Z Z' : Nat} {q : Rat} (h : Bd Z q) (hz : Z ≤ Z') : Bd Z' q := ⟨Nat.le_trans h.1 hz, Nat.le_trans h.2 hz⟩
theorem Bd.okq {Z : Nat} {q : Rat} (h : Bd Z q) (hz : Z < 2 ^ 2600) : Okq q := ⟨Nat.lt_of_le_of_lt h.1 hz, Nat.lt_of_le_of_lt h.2 hz⟩
theorem bd_pos {Z : Nat} {N D : Int} (hD : 0 < D) (h1 : N.natAbs ≤ Z) (h2 : D.natAbs ≤ Z) : Bd Z (Rat.divInt N D) := by
  constructor
  · rw [← div_num hD, Int.natAbs_ediv_of_dvd (Int.ofNat_dvd_left.mpr (Nat.gcd_dvd_left _ _))]
    exact Nat.le_trans (Nat.div_le_self _ _) h1
  · rw [Rat.den_divInt, if_neg (by omega)]
    exact Nat.le_trans (Nat.div_le_self _ _) h2
theorem bd_div {Z : Nat} {N D : Int} (hD : D ≠ 0) (h1 : N.natAbs ≤ Z) (h2 : D.natAbs ≤ Z) : Bd Z (Rat.divInt N D) := by
  rcases Int.lt_or_gt_of_ne hD with h | h
  · rw [← Rat.neg_divInt_neg]
    exact bd_pos (by omega) (by simpa using h1) (by simpa using h2)
  · exact bd_pos h h1 h2
theorem den0 (q : Rat) : (q.den : Int) ≠ 0 := by have := q.den_nz; omega
theorem Bd.mul {Z Z' : Nat} {a b : Rat} (h1 : Bd Z a) (h2 : Bd Z' b) : Bd (Z * Z') (a * b) := by
  have e : a * b = Rat.divInt (a.num * b.num) ((a.den : Int) * b.den) := by
    rw [← Rat.divInt_mul_divInt, Rat.num_divInt_den, Rat.num_divInt_den]
  rw [e]
  refine bd_div (Int.mul_ne_zero (den0 a) (den0 b)) ?_ ?_
  · rw [Int.natAbs_mul]; exact Nat.mul_le_mul h1.1 h2.1
  · rw [Int.natAbs_mul]; exact Nat.mul_le_mul (by simpa using h1.2) (by simpa using h2.2)
theorem Bd.neg {Z : Nat} {a : Rat} (h : Bd Z a) : Bd Z (-a) := ⟨by rw [Rat.neg_num]; simpa using h.1, by rw [Rat.neg_den]; exact h.2⟩
theorem Bd.inv {Z : Nat} {a : Rat} (h : Bd Z a) (h0 : a ≠ 0) : Bd Z a⁻¹ := by
  rw [Rat.inv_def]
  refine bd_div ?_ (by simpa using h.2) h.1
  intro z
  exact h0 (Rat.num_eq_zero.mp z)
section
variable {α : Type}
theorem range_set (f : Nat → α) (n k : Nat) (x : α) : ((List.range n).map f).set k x = (List.range n).map fun i => if i = k then x else f i := by
  apply List.ext_getElem?
  intro i
  by_cases hi : i < n
  · rw [List.getElem?_map, List.getElem?_range hi]
    by_cases e : i = k
    · subst e
      rw [List.getElem?_set_self (by simpa using hi)]; simp
    · rw [List.getElem?_set_ne (fun z => e z.symm), List.getElem?_map, List.getElem?_range hi]; simp [e]
  · rw [List.getElem?_eq_none (by simp; omega), List.getElem?_eq_none (by simp; omega)]
theorem range_get (f : Nat → α) {n k : Nat} (h : k < n) : ((List.range n).map f)[k]? = some (f k) := by simp [h]
theorem range_congr {f g : Nat → α} {n : Nat} (h : ∀ i, i < n → f i = g i) : (List.range n).map f = (List.range n).map g := List.map_congr_left fun i m => h i (List.mem_range.mp m)
end
end LA

/-! MC1: chains with finitely many places: closed sets, stationary shares, gains. -/
namespace LA
theorem sm_le {f g : Nat → Rat} : ∀ {n : Nat}, (∀ i, i < n → f i ≤ g i) → sm f n ≤ sm g n
  | 0, _ => Rat.le_refl
  | n + 1, h => by
    have h1 := sm_le (f := f) (g := g) (n := n) fun i hi => h i (by omega)
    have h2 := h n (by omega)
    simp only [sm]
    grind
theorem sm_nonneg {f : Nat → Rat} {n : Nat} (h : ∀ i, i < n → 0 ≤ f i) : 0 ≤ sm f n := by
  have := sm_le (f := fun _ => 0) (g := f) (n := n) h
  rwa [sm_zero fun _ _ => rfl] at this
theorem sm_ge {f : Nat → Rat} : ∀ {n k : Nat}, k < n → (∀ i, i < n → 0 ≤ f i) → f k ≤ sm f n
  | 0, k, h, _ => absurd h (by omega)
  | n + 1, k, hk, h => by
    simp only [sm]
    have h2 := h n (by omega)
    by_cases e : k = n
    · subst e
      have := sm_nonneg (f := f) (n := k) fun i hi => h i (by omega)
      grind
    · have := sm_ge (f := f) (n := n) (k := k) (by omega) fun i hi => h i (by omega)
      grind
theorem sm_zero_all {f : Nat → Rat} {n : Nat} (h : ∀ i, i < n → 0 ≤ f i) (e : sm f n = 0) : ∀ i, i < n → f i = 0 := fun i hi => by
  have h1 := sm_ge hi h
  have h2 := h i hi
  grind
theorem sm_const (c : Rat) : ∀ n : Nat, sm (fun _ => c) n = (n : Rat) * c
  | 0 => by simp [sm]
  | n + 1 => by
    simp only [sm]
    rw [sm_const c n]
    have : ((n + 1 : Nat) : Rat) = (n : Rat) + 1 := by exact_mod_cast rfl
    rw [this]; grind
/-- a chain: n places, the chances p -/
structure Chain (n : Nat) (p : Nat → Nat → Rat) : Prop where
  nn : ∀ x y, x < n → y < n → 0 ≤ p x y
  one : ∀ x, x < n → sm (p x) n = 1
/-- a set that is not left -/
def Closed (n : Nat) (p : Nat → Nat → Rat) (S : Nat → Prop) : Prop := ∀ x y, x < n → y < n → S x → 0 < p x y → S y
/-- from x y is reached -/
inductive Rc (n : Nat) (p : Nat → Nat → Rat) (x : Nat) : Nat → Prop
  | refl : Rc n p x x
  | step {y z : Nat} : Rc n p x y → y < n → z < n → 0 < p y z → Rc n p x z
def Recur (n : Nat) (p : Nat → Nat → Rat) (x : Nat) : Prop := ∀ y, Rc n p x y → Rc n p y x
section
variable {n : Nat} {p : Nat → Nat → Rat}
theorem Rc.lt {x y : Nat} (h : Rc n p x y) (hx : x < n) : y < n := by
  cases h with
  | refl => exact hx
  | step _ _ h _ => exact h
theorem Rc.trans {x y z : Nat} (h1 : Rc n p x y) (h2 : Rc n p y z) : Rc n p x z := by
  induction h2 with
  | refl => exact h1
  | step _ a b c ih => exact .step ih a b c
theorem Closed.rc {S : Nat → Prop} (h : Closed n p S) {x y : Nat} (r : Rc n p x y) (hx : S x) : S y := by
  induction r with
  | refl => exact hx
  | step _ a b c ih => exact h _ _ a b ih c
theorem closed_rc (x : Nat) : Closed n p (Rc n p x) := fun a b ha hb h c => .step h ha hb c
theorem Recur.rc {x y : Nat} (h : Recur n p x) (r : Rc n p x y) : Recur n p y := fun z hz => (h z (r.trans hz)).trans r
open Classical in
/-- a closed set has a place to which one always comes back -/
theorem closed_recur {S : Nat → Prop} (hc : Closed n p S) {x : Nat} (hx : x < n) (hs : S x) : ∃ y, y < n ∧ S y ∧ Recur n p y := by
  have key : ∀ (k : Nat) (S : Nat → Prop), ((List.range n).filter fun i => decide (S i)).length ≤ k → Closed n p S → ∀ x, x < n → S x → ∃ y, y < n ∧ S y ∧ Recur n p y := by
    intro k
    induction k with
    | zero =>
      intro S hk _ x hx hs
      have : x ∈ (List.range n).filter fun i => decide (S i) := List.mem_filter.mpr ⟨List.mem_range.mpr hx, by simpa using hs⟩
      rw [List.length_eq_zero_iff.mp (Nat.le_zero.mp hk)] at this
      cases this
    | succ k ih =>
      intro S hk hc x hx hs
      by_cases hr : Recur n p x
      · exact ⟨x, hx, hs, hr⟩
      · unfold Recur at hr
        simp only [Classical.not_forall] at hr
        obtain ⟨y, hxy, hyx⟩ := hr
        have hy := hxy.lt hx
        have sub : ∀ z, Rc n p y z → S z := fun z hz => hc.rc (hxy.trans hz) hs
        have hlt : ((List.range n).filter fun i => decide (Rc n p y i)).length < ((List.range n).filter fun i => decide (S i)).length := by
          have h1 : ((List.range n).filter fun i => decide (Rc n p y i)) = ((List.range n).filter fun i => decide (S i)).filter fun i => decide (Rc n p y i) := by
            rw [List.filter_filter]
            refine List.filter_congr fun i _ => ?_
            by_cases h : Rc n p y i
            · simp [h, sub i h]
            · simp [h]
          rw [h1]
          refine List.length_filter_lt_length_iff_exists.mpr ⟨x, List.mem_filter.mpr ⟨List.mem_range.mpr hx, by simpa using hs⟩, by simpa using hyx⟩
        obtain ⟨z, h1, h2, h3⟩ := ih (Rc n p y) (by omega) (closed_rc y) y hy .refl
        exact ⟨z, h1, sub z h2, h3⟩
  exact key _ S (Nat.le_refl _) hc x hx hs
/-- the whole is one class -/
def Irred (n : Nat) (p : Nat → Nat → Rat) : Prop := ∀ S : Nat → Prop, (∃ i, i < n ∧ S i) → Closed n p S → ∀ i, i < n → S i
/-- the shares do not change in a step -/
def Stat (n : Nat) (p : Nat → Nat → Rat) (x : Nat → Rat) : Prop := ∀ k, k < n → x k = sm (fun o => x o * p o k) n
theorem Stat.sign (hC : Chain n p) (hI : Irred n p) {x : Nat → Rat} (hx : Stat n p x) : (∀ k, k < n → x k ≤ 0) ∨ (∀ k, k < n → 0 < x k) := by
  let y : Nat → Rat := fun k => if 0 < x k then x k else 0
  have y0 : ∀ k, 0 ≤ y k := fun k => by
    show 0 ≤ (if 0 < x k then x k else 0)
    split <;> grind
  have yx : ∀ k, x k ≤ y k := fun k => by
    show x k ≤ (if 0 < x k then x k else 0)
    split <;> grind
  have le : ∀ k, k < n → y k ≤ sm (fun o => y o * p o k) n := fun k hk => by
    have h1 : x k ≤ sm (fun o => y o * p o k) n := by
      rw [hx k hk]
      refine sm_le fun o ho => Rat.mul_le_mul_of_nonneg_right (yx o) (hC.nn o k ho hk)
    have h2 : 0 ≤ sm (fun o => y o * p o k) n := sm_nonneg fun o ho => Rat.mul_nonneg (y0 o) (hC.nn o k ho hk)
    show (if 0 < x k then x k else 0) ≤ _
    split
    · exact h1
    · exact h2
  have tot : sm (fun k => sm (fun o => y o * p o k) n - y k) n = 0 := by
    rw [sm_sub, sm_comm]
    have : sm (fun o => sm (fun k => y o * p o k) n) n = sm y n := sm_congr fun o ho => by
      rw [sm_mul, hC.one o ho]; grind
    rw [this]; grind
  have eq := sm_zero_all (fun k hk => by have := le k hk; grind) tot
  have cl : Closed n p (fun k => 0 < y k) := fun i j hi hj h1 h2 => by
    have e := eq j hj
    have h3 : y i * p i j ≤ sm (fun o => y o * p o j) n := sm_ge (f := fun o => y o * p o j) hi fun o ho => Rat.mul_nonneg (y0 o) (hC.nn o j ho hj)
    have h4 : 0 < y i * p i j := Rat.mul_pos h1 h2
    show 0 < y j
    grind
  by_cases h : ∃ i, i < n ∧ 0 < y i
  · right
    intro k hk
    have h1 : 0 < y k := hI (fun k => 0 < y k) h cl k hk
    have h2 : y k = if 0 < x k then x k else 0 := rfl
    rw [h2] at h1
    split at h1
    · assumption
    · exact absurd h1 (by grind)
  · left
    intro k hk
    have h2 : ¬ 0 < y k := fun z => h ⟨k, hk, z⟩
    have h3 := yx k
    grind
theorem Stat.neg {x : Nat → Rat} (hx : Stat n p x) : Stat n p fun k => - x k := fun k hk => by
  have h := hx k hk
  have : sm (fun o => -x o * p o k) n = -1 * sm (fun o => x o * p o k) n := by
    rw [← sm_mul]
    exact sm_congr fun o _ => by grind
  rw [this, ← h]; grind
theorem Stat.pos (hC : Chain n p) (hI : Irred n p) {x : Nat → Rat} (hx : Stat n p x) (h1 : sm x n = 1) : ∀ k, k < n → 0 < x k := by
  rcases hx.sign hC hI with h | h
  · exfalso
    have := sm_le (f := x) (g := fun _ => 0) (n := n) h
    rw [sm_zero (f := fun _ => 0) fun _ _ => rfl, h1] at this
    exact absurd this (by decide)
  · exact h
theorem Stat.zero (hC : Chain n p) (hI : Irred n p) {x : Nat → Rat} (hx : Stat n p x) (h0 : sm x n = 0) : ∀ k, k < n → x k = 0 := by
  have main : ∀ {x : Nat → Rat}, Stat n p x → sm x n = 0 → ∀ k, k < n → x k ≤ 0 := fun {x} hx h0 => by
    rcases hx.sign hC hI with h | h
    · exact h
    · intro k hk
      have := sm_zero_all (f := x) (fun i hi => Rat.le_of_lt (h i hi)) h0 k hk
      rw [this]; exact Rat.le_refl
  intro k hk
  have a := main hx h0 k hk
  have b := main hx.neg (by
    have : sm (fun k => - x k) n = -1 * sm x n := by rw [← sm_mul]; exact sm_congr fun i _ => by grind
    rw [this, h0]; grind) k hk
  grind
/-- one equation follows from the others -/
theorem stat_of (hC : Chain n p) {x : Nat → Rat} (h : ∀ k, 1 ≤ k → k < n → x k = sm (fun o => x o * p o k) n) : Stat n p x := by
  have tot : sm (fun k => x k - sm (fun o => x o * p o k) n) n = 0 := by
    rw [sm_sub, sm_comm (fun k o => x o * p o k)]
    have : sm (fun o => sm (fun k => x o * p o k) n) n = sm x n := sm_congr fun o ho => by
      rw [sm_mul, hC.one o ho]; grind
    rw [this]; grind
  intro k hk
  by_cases h1 : 1 ≤ k
  · exact h k h1 hk
  · have hk0 : k = 0 := by omega
    subst hk0
    rw [sm_one hk fun i hi hne => by rw [← h i (by omega) hi]; grind] at tot
    grind
/-! ### gains -/
/-- the mean of g at x -/
def mn (n : Nat) (p : Nat → Nat → Rat) (g : Nat → Rat) (x : Nat) : Rat := sm (fun y => p x y * g y) n
theorem mn_le (hC : Chain n p) {g h : Nat → Rat} (hl : ∀ y, y < n → g y ≤ h y) {x : Nat} (hx : x < n) : mn n p g x ≤ mn n p h x :=
  sm_le fun y hy => Rat.mul_le_mul_of_nonneg_left (hl y hy) (hC.nn x y hx hy)
theorem mn_const (hC : Chain n p) (c : Rat) {x : Nat} (hx : x < n) : mn n p (fun _ => c) x = c := by
  unfold mn
  rw [sm_congr (g := fun y => c * p x y) fun y _ => Rat.mul_comm .., sm_mul, hC.one x hx]; grind
/-- g: the mean of itself, at places that are come back to the gain weighed by shares that stay -/
structure Gain (n : Nat) (p : Nat → Nat → Rat) (r g : Nat → Rat) : Prop where
  mean : ∀ x, x < n → g x = mn n p g x
  rcl : ∀ x, x < n → Recur n p x → ∃ q : Nat → Rat, (∀ y, y < n → 0 ≤ q y) ∧ sm q n = 1 ∧ Stat n p q ∧ g x = sm (fun y => q y * r y) n
theorem Gain.neg {r g : Nat → Rat} (h : Gain n p r g) : Gain n p (fun x => - r x) (fun x => - g x) where
  mean := fun x hx => by
    have h1 := h.mean x hx
    have : mn n p (fun x => - g x) x = -1 * mn n p g x := by
      unfold mn
      rw [← sm_mul]; exact sm_congr fun y _ => by grind
    rw [this, ← h1]; grind
  rcl := fun x hx hr => by
    obtain ⟨q, h1, h2, h3, h4⟩ := h.rcl x hx hr
    refine ⟨q, h1, h2, h3, ?_⟩
    have : sm (fun y => q y * - r y) n = -1 * sm (fun y => q y * r y) n := by
      rw [← sm_mul]; exact sm_congr fun y _ => by grind
    rw [this, ← h4]; grind
/-- no closed set where one stays below what holds at the places that are come back to -/
theorem min_recur (hC : Chain n p) {g : Nat → Rat} (hg : ∀ x, x < n → g x = mn n p g x) {m : Rat} (hr : ∀ x, x < n → Recur n p x → m ≤ g x) : ∀ x, x < n → m ≤ g x := by
  -- a place with the least g
  have least : ∀ k : Nat, k < n → ∃ x, x < n ∧ ∀ y, y ≤ k → g x ≤ g y := by
    intro k
    induction k with
    | zero => exact fun h => ⟨0, h, fun y hy => by rw [Nat.le_zero.mp hy]; exact Rat.le_refl⟩
    | succ k ih =>
      intro h
      obtain ⟨x, h1, h2⟩ := ih (by omega)
      by_cases hle : g x ≤ g (k + 1)
      · exact ⟨x, h1, fun y hy => by
          by_cases e : y = k + 1
          · rw [e]; exact hle
          · exact h2 y (by omega)⟩
      · refine ⟨k + 1, h, fun y hy => ?_⟩
        by_cases e : y = k + 1
        · rw [e]; exact Rat.le_refl
        · have := h2 y (by omega); grind
  intro x hx
  obtain ⟨z, hz, hl⟩ := least (n - 1) (by omega)
  have hl : ∀ y, y < n → g z ≤ g y := fun y hy => hl y (by omega)
  have cl : Closed n p (fun y => g y = g z) := fun a b ha hb h1 h2 => by
    have e := hg a ha
    have e2 : mn n p (fun _ => g z) a = g z := mn_const hC _ ha
    have tot : sm (fun y => p a y * (g y - g z)) n = 0 := by
      have : sm (fun y => p a y * (g y - g z)) n = mn n p g a - mn n p (fun _ => g z) a := by
        unfold mn
        rw [← sm_sub]; exact sm_congr fun y _ => by grind
      rw [this, e2, ← e, h1]; grind
    have h3 := sm_zero_all (f := fun y => p a y * (g y - g z)) (fun y hy => Rat.mul_nonneg (hC.nn a y ha hy) (by have := hl y hy; grind)) tot b hb
    rcases Rat.mul_eq_zero.mp h3 with h4 | h4
    · rw [h4] at h2; exact absurd h2 (by decide)
    · show g b = g z
      grind
  obtain ⟨y, h1, h2, h3⟩ := closed_recur cl hz rfl
  have := hr y h1 h3
  have h2 : g y = g z := h2
  have := hl x hx
  grind
theorem Gain.lower (hC : Chain n p) {r g w : Nat → Rat} {m : Rat} (h : Gain n p r g) (hw : ∀ x, x < n → w x + m ≤ r x + mn n p w x) : ∀ x, x < n → m ≤ g x := by
  refine min_recur hC h.mean fun x hx hr => ?_
  obtain ⟨q, q0, q1, qs, e⟩ := h.rcl x hx hr
  rw [e]
  have s1 : sm (fun y => q y * mn n p w y) n = sm (fun y => q y * w y) n := by
    unfold mn
    rw [sm_congr (g := fun y => sm (fun z => q y * p y z * w z) n) fun y _ => by rw [← sm_mul]; exact sm_congr fun z _ => by grind]
    rw [sm_comm]
    refine sm_congr fun z hz => ?_
    rw [qs z hz]
    rw [Rat.mul_comm, ← sm_mul]
    exact sm_congr fun y _ => by grind
  have s2 : sm (fun y => q y * (w y + m)) n ≤ sm (fun y => q y * (r y + mn n p w y)) n := sm_le fun y hy => Rat.mul_le_mul_of_nonneg_left (hw y hy) (q0 y hy)
  have s3 : sm (fun y => q y * (w y + m)) n = sm (fun y => q y * w y) n + m := by
    rw [sm_congr (g := fun y => q y * w y + m * q y) fun y _ => by grind, sm_add, sm_mul, q1]; grind
  have s4 : sm (fun y => q y * (r y + mn n p w y)) n = sm (fun y => q y * r y) n + sm (fun y => q y * mn n p w y) n := by
    rw [← sm_add]; exact sm_congr fun y _ => by grind
  rw [s3, s4, s1] at s2
  grind
theorem Gain.upper (hC : Chain n p) {r g w : Nat → Rat} {m : Rat} (h : Gain n p r g) (hw : ∀ x, x < n → r x + mn n p w x ≤ w x + m) : ∀ x, x < n → g x ≤ m := fun x hx => by
  have := h.neg.lower hC (w := fun x => - w x) (m := - m) (fun x hx => by
    have h1 := hw x hx
    have : mn n p (fun x => - w x) x = -1 * mn n p w x := by
      unfold mn
      rw [← sm_mul]; exact sm_congr fun y _ => by grind
    rw [this]; grind) x hx
  grind
end
end LA

/-! MC2: a class of a chain as a list, the places that are left. -/
namespace LA
/-- the j-th of the list -/
def nth (C : List Nat) (j : Nat) : Nat := C.getD j 0
theorem nth_mem {C : List Nat} {j : Nat} (h : j < C.length) : nth C j ∈ C := by
  unfold nth
  rw [List.getD_eq_getElem?_getD, List.getElem?_eq_getElem h]
  exact List.getElem_mem h
theorem nth_inj {C : List Nat} (hn : C.Nodup) {i j : Nat} (hi : i < C.length) (hj : j < C.length) (e : nth C i = nth C j) : i = j := by
  unfold nth at e
  rw [List.getD_eq_getElem?_getD, List.getD_eq_getElem?_getD, List.getElem?_eq_getElem hi, List.getElem?_eq_getElem hj] at e
  exact (List.getElem_inj hn).mp e
theorem mem_nth {C : List Nat} {y : Nat} (h : y ∈ C) : ∃ j, j < C.length ∧ nth C j = y := by
  obtain ⟨j, hj, e⟩ := List.getElem_of_mem h
  exact ⟨j, hj, by unfold nth; rw [List.getD_eq_getElem?_getD, List.getElem?_eq_getElem hj]; exact e⟩
/-- sums over all, over the list -/
theorem sm_push {n : Nat} {C : List Nat} (hC : ∀ c ∈ C, c < n) (u : Nat → Rat) (f : Nat → Rat) : sm (fun y => sm (fun j => if nth C j = y then u j else 0) C.length * f y) n = sm (fun j => u j * f (nth C j)) C.length := by
  rw [sm_congr (g := fun y => sm (fun j => (if nth C j = y then u j else 0) * f y) C.length) fun y _ => by rw [Rat.mul_comm, ← sm_mul]; exact sm_congr fun j _ => Rat.mul_comm ..]
  rw [sm_comm]
  refine sm_congr fun j hj => ?_
  rw [sm_one (hC _ (nth_mem hj)) fun y _ hne => by rw [if_neg (fun z => hne z.symm)]; grind, if_pos rfl]
theorem sm_list {n : Nat} {C : List Nat} (hn : C.Nodup) (hC : ∀ c ∈ C, c < n) {f : Nat → Rat} (h0 : ∀ y, y < n → y ∉ C → f y = 0) : sm f n = sm (fun j => f (nth C j)) C.length := by
  have h1 := sm_push hC (fun _ => 1) f
  have h2 : sm (fun j => 1 * f (nth C j)) C.length = sm (fun j => f (nth C j)) C.length := sm_congr fun j _ => Rat.one_mul _
  rw [h2] at h1
  rw [← h1]
  refine sm_congr fun y hy => ?_
  by_cases hm : y ∈ C
  · obtain ⟨j, hj, e⟩ := mem_nth hm
    rw [sm_one (k := j) hj fun i hi hne => by rw [if_neg (fun z => hne (nth_inj hn hi hj (z.trans e.symm)))], if_pos e]; grind
  · rw [h0 y hy hm]; grind
structure Cls (n : Nat) (p : Nat → Nat → Rat) (C : List Nat) : Prop where
  nd : C.Nodup
  lt : ∀ c ∈ C, c < n
  cl : ∀ c ∈ C, ∀ y, y < n → 0 < p c y → y ∈ C
  con : ∀ c ∈ C, ∀ d ∈ C, Rc n p c d
section
variable {n : Nat} {p : Nat → Nat → Rat} {C : List Nat}
def subP (p : Nat → Nat → Rat) (C : List Nat) (i j : Nat) : Rat := p (nth C i) (nth C j)
theorem Cls.out (hP : Chain n p) (h : Cls n p C) {c y : Nat} (hc : c ∈ C) (hy : y < n) (hn : y ∉ C) : p c y = 0 := by
  have h1 := hP.nn c y (h.lt c hc) hy
  by_cases h2 : 0 < p c y
  · exact absurd (h.cl c hc y hy h2) hn
  · grind
theorem Cls.chain (hP : Chain n p) (h : Cls n p C) : Chain C.length (subP p C) where
  nn := fun i j hi hj => hP.nn _ _ (h.lt _ (nth_mem hi)) (h.lt _ (nth_mem hj))
  one := fun i hi => by
    have := hP.one _ (h.lt _ (nth_mem hi))
    rw [sm_list h.nd h.lt fun y hy hm => h.out hP (nth_mem hi) hy hm] at this
    exact this
theorem Cls.irred (h : Cls n p C) : Irred C.length (subP p C) := by
  rintro S ⟨i, hi, hs⟩ hc j hj
  have cl : Closed n p (fun y => ∃ j, j < C.length ∧ nth C j = y ∧ S j) := by
    rintro a b ha hb ⟨k, hk, rfl, hk2⟩ hab
    obtain ⟨l, hl, e⟩ := mem_nth (h.cl _ (nth_mem hk) b hb hab)
    refine ⟨l, hl, e, hc k l hk hl hk2 ?_⟩
    unfold subP
    rw [e]; exact hab
  obtain ⟨k, hk, e, hk2⟩ := cl.rc (h.con _ (nth_mem hi) _ (nth_mem hj)) ⟨i, hi, rfl, hs⟩
  rw [← nth_inj h.nd hk hj e]; exact hk2
/-- shares of the class as shares of all places -/
def ext (C : List Nat) (u : Nat → Rat) (y : Nat) : Rat := sm (fun j => if nth C j = y then u j else 0) C.length
theorem ext_in (hn : C.Nodup) (u : Nat → Rat) {j : Nat} (hj : j < C.length) : ext C u (nth C j) = u j := by
  unfold ext
  rw [sm_one hj fun i hi hne => by rw [if_neg (fun z => hne (nth_inj hn hi hj z))], if_pos rfl]
theorem ext_out (u : Nat → Rat) {y : Nat} (hy : y ∉ C) : ext C u y = 0 := by
  unfold ext
  exact sm_zero fun j hj => by rw [if_neg (fun z : nth C j = y => hy (by rw [← z]; exact nth_mem hj))]
theorem Cls.stat (hP : Chain n p) (h : Cls n p C) {u : Nat → Rat} (hu : Stat C.length (subP p C) u) : Stat n p (ext C u) := fun y hy => by
  have e : sm (fun o => ext C u o * p o y) n = sm (fun j => u j * p (nth C j) y) C.length := sm_push h.lt u fun o => p o y
  rw [e]
  by_cases hm : y ∈ C
  · obtain ⟨j, hj, rfl⟩ := mem_nth hm
    rw [ext_in h.nd u hj, hu j hj]
    rfl
  · rw [ext_out u hm, sm_zero fun j hj => by rw [h.out hP (nth_mem hj) hy hm]; grind]
theorem Cls.sum (h : Cls n p C) (u f : Nat → Rat) : sm (fun y => ext C u y * f y) n = sm (fun j => u j * f (nth C j)) C.length := sm_push h.lt u f
/-- the equations of the shares: all but the first place, the sum at the end -/
def shR (p : Nat → Nat → Rat) (C : List Nat) (i j : Nat) : Rat :=
  if i + 1 < C.length then (if j < C.length then (if j = i + 1 then 1 else 0) - p (nth C j) (nth C (i + 1)) else 0) else 1
theorem Cls.sh_eq (h : Cls n p C) {x : Nat → Rat} {i : Nat} (hi : i + 1 < C.length) : sm (fun j => x j * shR p C i j) C.length = x (i + 1) - sm (fun o => x o * subP p C o (i + 1)) C.length := by
  have e1 : sm (fun j => x j * (if j = i + 1 then 1 else 0)) C.length = x (i + 1) := by
    rw [sm_one hi fun j _ hne => by rw [if_neg hne]; grind, if_pos rfl]; grind
  rw [← e1, ← sm_sub]
  refine sm_congr fun j hj => ?_
  unfold shR subP
  rw [if_pos hi, if_pos hj]; grind
theorem Cls.sh_ns (hP : Chain n p) (h : Cls n p C) (h0 : 0 < C.length) : NonSing C.length (shR p C) := by
  intro x hx
  have hs : Stat C.length (subP p C) x := stat_of (h.chain hP) fun k h1 hk => by
    have := hx (k - 1) (by omega)
    rw [h.sh_eq (by omega), show k - 1 + 1 = k by omega] at this
    grind
  refine hs.zero (h.chain hP) h.irred ?_
  have := hx (C.length - 1) (by omega)
  rw [sm_congr (g := x) fun j hj => by unfold shR; rw [if_neg (by omega)]; grind] at this
  exact this
/-- what solves them -/
theorem Cls.sh_sol (hP : Chain n p) (h : Cls n p C) (h0 : 0 < C.length) {x : Nat → Rat} (hx : ∀ i, i < C.length → sm (fun j => x j * shR p C i j) C.length = shR p C i C.length) :
    Stat C.length (subP p C) x ∧ sm x C.length = 1 ∧ ∀ k, k < C.length → 0 < x k := by
  have hs : Stat C.length (subP p C) x := stat_of (h.chain hP) fun k h1 hk => by
    have := hx (k - 1) (by omega)
    rw [h.sh_eq (by omega), show k - 1 + 1 = k by omega] at this
    unfold shR at this
    rw [if_pos (by omega), if_neg (by omega)] at this
    grind
  have h1 : sm x C.length = 1 := by
    have := hx (C.length - 1) (by omega)
    rw [sm_congr (g := x) fun j hj => by unfold shR; rw [if_neg (by omega)]; grind] at this
    rw [this]
    unfold shR
    rw [if_neg (by omega)]
  exact ⟨hs, h1, hs.pos (h.chain hP) h.irred h1⟩
end
/-! ### the places that are left -/
section
variable {n : Nat} {p : Nat → Nat → Rat} {L : List Nat}
/-- L: the places to which one does not always come back -/
structure Live (n : Nat) (p : Nat → Nat → Rat) (L : List Nat) : Prop where
  nd : L.Nodup
  lt : ∀ c ∈ L, c < n
  iff : ∀ x, x < n → (x ∈ L ↔ ¬ Recur n p x)
/-- the equations of numbers at the places of L, with v at all others and e added -/
def lvR (n : Nat) (p : Nat → Nat → Rat) (L : List Nat) (v e : Nat → Rat) (i j : Nat) : Rat :=
  if j < L.length then (if j = i then 1 else 0) - p (nth L i) (nth L j) else e (nth L i) + sm (fun y => if y ∈ L then 0 else p (nth L i) y * v y) n
/-- v, with x at the places of L -/
def put (L : List Nat) (v x : Nat → Rat) (y : Nat) : Rat := if y ∈ L then ext L x y else v y
theorem put_in (h : L.Nodup) (v x : Nat → Rat) {j : Nat} (hj : j < L.length) : put L v x (nth L j) = x j := by
  unfold put
  rw [if_pos (nth_mem hj), ext_in h x hj]
theorem put_out (v x : Nat → Rat) {y : Nat} (hy : y ∉ L) : put L v x y = v y := by unfold put; rw [if_neg hy]
theorem lv_eq (hn : L.Nodup) (hl : ∀ c ∈ L, c < n) (v e x : Nat → Rat) {i : Nat} (hi : i < L.length) :
    sm (fun j => x j * lvR n p L v e i j) L.length = x i - (mn n p (put L v x) (nth L i) - sm (fun y => if y ∈ L then 0 else p (nth L i) y * v y) n) := by
  have e1 : sm (fun j => x j * (if j = i then 1 else 0)) L.length = x i := by
    rw [sm_one hi fun j _ hne => by rw [if_neg hne]; grind, if_pos rfl]; grind
  have e2 : mn n p (put L v x) (nth L i) - sm (fun y => if y ∈ L then 0 else p (nth L i) y * v y) n = sm (fun j => x j * p (nth L i) (nth L j)) L.length := by
    unfold mn
    rw [← sm_sub, sm_list hn hl fun y hy hm => by rw [put_out v x hm, if_neg hm]; grind]
    refine sm_congr fun j hj => ?_
    rw [put_in hn v x hj, if_pos (nth_mem hj)]; grind
  rw [e2, ← e1, ← sm_sub]
  refine sm_congr fun j hj => ?_
  unfold lvR
  rw [if_pos hj]; grind
theorem Live.out (h : Live n p L) {x y : Nat} (hx : x < n) (hm : x ∉ L) (hy : y < n) (hp : 0 < p x y) : y ∉ L := by
  have hr : Recur n p x := Classical.byContradiction fun z => hm ((h.iff x hx).mpr z)
  have := hr.rc (.step .refl hx hy hp)
  intro m
  exact (h.iff y hy).mp m this
/-- the mean at a place that is come back to looks at such places alone -/
theorem Live.mn_out (hP : Chain n p) (h : Live n p L) (v x : Nat → Rat) {y : Nat} (hy : y < n) (hm : y ∉ L) : mn n p (put L v x) y = mn n p v y := by
  refine sm_congr fun z hz => ?_
  by_cases h2 : 0 < p y z
  · rw [put_out v x (h.out hy hm hz h2)]
  · have : p y z = 0 := by have := hP.nn y z hy hz; grind
    rw [this]; grind
theorem Live.ns (hP : Chain n p) (h : Live n p L) (v e : Nat → Rat) : NonSing L.length (lvR n p L v e) := by
  -- with 0 at the other places
  have key : ∀ x : Nat → Rat, (∀ i, i < L.length → x i = mn n p (put L (fun _ => 0) x) (nth L i)) → ∀ i, i < L.length → 0 ≤ x i := fun x hx i hi => by
    have hg : ∀ y, y < n → put L (fun _ => 0) x y = mn n p (put L (fun _ => 0) x) y := fun y hy => by
      by_cases hm : y ∈ L
      · obtain ⟨j, hj, rfl⟩ := mem_nth hm
        rw [put_in h.nd _ x hj]; exact hx j hj
      · rw [put_out _ x hm, h.mn_out hP _ x hy hm, mn_const hP 0 hy]
    have := min_recur hP hg (m := 0) (fun y hy hr => by
      rw [put_out _ x (fun m => (h.iff y hy).mp m hr)]; exact Rat.le_refl) (nth L i) (h.lt _ (nth_mem hi))
    rwa [put_in h.nd _ x hi] at this
  intro x hx i hi
  have hx2 : ∀ i, i < L.length → x i = mn n p (put L (fun _ => 0) x) (nth L i) := fun i hi => by
    have e1 := hx i hi
    have e2 := lv_eq (p := p) h.nd h.lt v e x hi
    have e3 := lv_eq (p := p) h.nd h.lt (fun _ => 0) (fun _ => 0) x hi
    have e4 : sm (fun j => x j * lvR n p L v e i j) L.length = sm (fun j => x j * lvR n p L (fun _ => 0) (fun _ => 0) i j) L.length := sm_congr fun j hj => by unfold lvR; rw [if_pos hj, if_pos hj]
    rw [e1] at e4
    rw [← e4] at e3
    have e5 : sm (fun y => if y ∈ L then 0 else p (nth L i) y * (0 : Rat)) n = 0 := sm_zero fun y _ => by split <;> grind
    rw [e5] at e3
    grind
  have a := key x hx2 i hi
  have b := key (fun i => - x i) (fun i hi => by
    have h1 := hx2 i hi
    have h2 : mn n p (put L (fun _ => 0) fun i => - x i) (nth L i) = -1 * mn n p (put L (fun _ => 0) x) (nth L i) := by
      unfold mn
      rw [← sm_mul]
      refine sm_congr fun y hy => ?_
      by_cases hm : y ∈ L
      · obtain ⟨j, hj, rfl⟩ := mem_nth hm
        rw [put_in h.nd _ _ hj, put_in h.nd _ _ hj]; grind
      · rw [put_out _ _ hm, put_out _ _ hm]; grind
    rw [h2, ← h1]; grind) i hi
  grind
theorem Live.sol (h : Live n p L) {v e x : Nat → Rat} (hx : ∀ i, i < L.length → sm (fun j => x j * lvR n p L v e i j) L.length = lvR n p L v e i L.length) :
    ∀ i, i < L.length → x i = e (nth L i) + mn n p (put L v x) (nth L i) := fun i hi => by
  have e1 := hx i hi
  rw [lv_eq (p := p) h.nd h.lt v e x hi] at e1
  unfold lvR at e1
  rw [if_neg (by omega)] at e1
  grind
end
end LA

/-! MC3: the equations of the shares, the sum first. -/
namespace LA
section
variable {n : Nat} {p : Nat → Nat → Rat} {C : List Nat}
def shQ (p : Nat → Nat → Rat) (C : List Nat) (i j : Nat) : Rat :=
  if i = 0 then 1 else if j < C.length then p (nth C j) (nth C i) - (if j = i then 1 else 0) else 0
theorem shQ_up {i j : Nat} (hi : i + 1 < C.length) : shR p C i j = -shQ p C (i + 1) j := by
  unfold shR shQ
  rw [if_pos hi, if_neg (show ¬ i + 1 = 0 by omega)]
  by_cases h : j < C.length
  · rw [if_pos h, if_pos h]; grind
  · rw [if_neg h, if_neg h]; grind
theorem shQ_last {j : Nat} {i : Nat} (hi : ¬ i + 1 < C.length) : shR p C i j = shQ p C 0 j := by
  unfold shR shQ
  rw [if_neg hi, if_pos rfl]
theorem shQ_to {x : Nat → Rat} (h0 : 0 < C.length)
    (h : ∀ i, i < C.length → sm (fun j => x j * shQ p C i j) C.length = shQ p C i C.length) : ∀ i, i < C.length → sm (fun j => x j * shR p C i j) C.length = shR p C i C.length := fun i hi => by
  by_cases h1 : i + 1 < C.length
  · have := h (i + 1) h1
    rw [shQ_up h1, ← this]
    have e : sm (fun j => x j * shR p C i j) C.length = sm (fun j => (-1) * (x j * shQ p C (i + 1) j)) C.length := sm_congr fun j _ => by rw [shQ_up h1]; grind
    rw [e, sm_mul]
    grind
  · have := h 0 h0
    rw [shQ_last h1, ← this]
    exact sm_congr fun j _ => by rw [shQ_last h1]
theorem Cls.shq_ns (hP : Chain n p) (h : Cls n p C) (h0 : 0 < C.length) : NonSing C.length (shQ p C) := by
  intro x hx
  refine h.sh_ns hP h0 x fun i hi => ?_
  by_cases h1 : i + 1 < C.length
  · have := hx (i + 1) h1
    have e : sm (fun j => x j * shR p C i j) C.length = sm (fun j => (-1) * (x j * shQ p C (i + 1) j)) C.length := sm_congr fun j _ => by rw [shQ_up h1]; grind
    rw [e, sm_mul, this]
    grind
  · have := hx 0 h0
    rw [← this]
    exact sm_congr fun j _ => by rw [shQ_last h1]
theorem Cls.shq_sol (hP : Chain n p) (h : Cls n p C) (h0 : 0 < C.length) {x : Nat → Rat} (hx : ∀ i, i < C.length → sm (fun j => x j * shQ p C i j) C.length = shQ p C i C.length) :
    Stat C.length (subP p C) x ∧ sm x C.length = 1 ∧ ∀ k, k < C.length → 0 < x k := h.sh_sol hP h0 (shQ_to h0 hx)
end
end LA

/-! MC4: equations at places from which one comes out. -/
namespace LA
theorem argmin (f : Nat → Rat) : ∀ n, 0 < n → ∃ x, x < n ∧ ∀ y, y < n → f x ≤ f y
  | 0, h => absurd h (Nat.lt_irrefl 0)
  | 1, _ => ⟨0, by omega, fun y hy => by rw [show y = 0 by omega]; exact Rat.le_refl⟩
  | n + 2, _ => by
    obtain ⟨x, hx, h⟩ := argmin f (n + 1) (by omega)
    by_cases e : f x ≤ f (n + 1)
    · exact ⟨x, by omega, fun y hy => by
        by_cases z : y < n + 1
        · exact h y z
        · rw [show y = n + 1 by omega]; exact e⟩
    · refine ⟨n + 1, by omega, fun y hy => ?_⟩
      by_cases z : y < n + 1
      · have := h y z; grind
      · rw [show y = n + 1 by omega]; exact Rat.le_refl
section
variable {n : Nat} {p : Nat → Nat → Rat} {L : List Nat}
theorem mean_least (hP : Chain n p) {g : Nat → Rat} {m : Rat} (hm : ∀ y, y < n → m ≤ g y) {x : Nat} (hx : x < n) (e : mn n p g x = m) : ∀ y, y < n → 0 < p x y → g y = m := fun y hy hp => by
  have e1 : sm (fun y => p x y * (g y - m)) n = 0 := by
    have h1 : sm (fun y => p x y * (g y - m)) n = mn n p g x - mn n p (fun _ => m) x := by
      unfold mn
      rw [← sm_sub]
      exact sm_congr fun y _ => by grind
    rw [h1, e, mn_const hP m hx]; grind
  have := sm_zero_all (f := fun y => p x y * (g y - m)) (fun y hy => Rat.mul_nonneg (hP.nn x y hx hy) (by have := hm y hy; grind)) e1 y hy
  have h2 := hm y hy
  rcases Rat.mul_eq_zero.mp this with z | z
  · grind
  · grind
structure Out (n : Nat) (p : Nat → Nat → Rat) (L : List Nat) : Prop where
  nd : L.Nodup
  lt : ∀ c ∈ L, c < n
  out : ∀ c ∈ L, ∃ y, y < n ∧ y ∉ L ∧ Rc n p c y
theorem Out.nonneg (hP : Chain n p) (h : Out n p L) {x : Nat → Rat} (hx : ∀ i, i < L.length → x i = mn n p (put L (fun _ => 0) x) (nth L i)) : ∀ i, i < L.length → 0 ≤ x i := fun i hi => by
  have hn : 0 < n := by have := h.lt _ (nth_mem hi); omega
  obtain ⟨a, ha, hmin⟩ := argmin (put L (fun _ => 0) x) n hn
  have hle := hmin _ (h.lt _ (nth_mem hi))
  rw [put_in h.nd _ x hi] at hle
  by_cases hneg : 0 ≤ put L (fun _ => 0) x a
  · grind
  · have inL : ∀ y, put L (fun _ => 0) x y = put L (fun _ => 0) x a → y ∈ L := fun y e => Classical.byContradiction fun m => by
      rw [put_out _ x m] at e; grind
    have stay : ∀ y, Rc n p a y → put L (fun _ => 0) x y = put L (fun _ => 0) x a := fun y r => by
      induction r with
      | refl => rfl
      | @step y z _ hy hz hp ih =>
        obtain ⟨j, hj, ej⟩ := mem_nth (inL y ih)
        have e1 := hx j hj
        rw [ej] at e1
        have e2 : put L (fun _ => 0) x y = x j := by rw [← ej]; exact put_in h.nd _ x hj
        exact mean_least hP hmin hy (by rw [← e1, ← e2, ih]) z hz hp
    obtain ⟨y, hy, hm, r⟩ := h.out a (inL a rfl)
    exact absurd (inL y (stay y r)) hm
theorem Out.ns (hP : Chain n p) (h : Out n p L) (v e : Nat → Rat) : NonSing L.length (lvR n p L v e) := by
  intro x hx i hi
  have hx2 : ∀ i, i < L.length → x i = mn n p (put L (fun _ => 0) x) (nth L i) := fun i hi => by
    have e1 := hx i hi
    have e2 := lv_eq (p := p) h.nd h.lt v e x hi
    have e3 := lv_eq (p := p) h.nd h.lt (fun _ => 0) (fun _ => 0) x hi
    have e4 : sm (fun j => x j * lvR n p L v e i j) L.length = sm (fun j => x j * lvR n p L (fun _ => 0) (fun _ => 0) i j) L.length := sm_congr fun j hj => by unfold lvR; rw [if_pos hj, if_pos hj]
    rw [e1] at e4
    rw [← e4] at e3
    have e5 : sm (fun y => if y ∈ L then 0 else p (nth L i) y * (0 : Rat)) n = 0 := sm_zero fun y _ => by split <;> grind
    rw [e5] at e3
    grind
  have a := h.nonneg hP hx2 i hi
  have b := h.nonneg hP (x := fun i => - x i) (fun i hi => by
    have h1 := hx2 i hi
    have h2 : mn n p (put L (fun _ => 0) fun i => - x i) (nth L i) = -1 * mn n p (put L (fun _ => 0) x) (nth L i) := by
      unfold mn
      rw [← sm_mul]
      refine sm_congr fun y hy => ?_
      by_cases hm : y ∈ L
      · obtain ⟨j, hj, rfl⟩ := mem_nth hm
        rw [put_in h.nd _ _ hj, put_in h.nd _ _ hj]; grind
      · rw [put_out _ _ hm, put_out _ _ hm]; grind
    rw [h2, ← h1]; grind) i hi
  grind
theorem lv_sol (hn : L.Nodup) (hl : ∀ c ∈ L, c < n) {v e x : Nat → Rat} (hx : ∀ i, i < L.length → sm (fun j => x j * lvR n p L v e i j) L.length = lvR n p L v e i L.length) :
    ∀ i, i < L.length → x i = e (nth L i) + mn n p (put L v x) (nth L i) := fun i hi => by
  have e1 := hx i hi
  rw [lv_eq (p := p) hn hl v e x hi] at e1
  unfold lvR at e1
  rw [if_neg (by omega)] at e1
  grind
/-- what is not come back to is left -/
theorem Out.ofLive (h : Live n p L) : Out n p L where
  nd := h.nd
  lt := h.lt
  out := fun c m => by
    obtain ⟨y, hy, hs, hr⟩ := closed_recur (S := fun y => Rc n p c y) (fun a b ha hb hsa hab => .step hsa ha hb hab) (h.lt c m) .refl
    exact ⟨y, hy, fun z => (h.iff y hy).mp z hr, hs⟩
/-- a class without one of its places -/
theorem Out.ofCls (h : Cls n p L) (i : Nat) (hi : i < L.length) : Out n p (L.filter fun y => decide (y ≠ nth L i)) where
  nd := h.nd.filter _
  lt := fun c m => h.lt c (List.mem_filter.mp m).1
  out := fun c m => ⟨nth L i, h.lt _ (nth_mem hi), fun z => by simpa using (List.mem_filter.mp z).2, h.con c (List.mem_filter.mp m).1 _ (nth_mem hi)⟩
theorem Out.ofDrop (h : Cls n p L) (hi : 0 < L.length) : Out n p (L.drop 1) where
  nd := h.nd.sublist (List.drop_sublist 1 L)
  lt := fun c m => h.lt c (List.mem_of_mem_drop m)
  out := fun c m => ⟨nth L 0, h.lt _ (nth_mem hi), fun z => by
    obtain ⟨a, l, rfl⟩ : ∃ a l, L = a :: l := by cases L with
      | nil => simp at hi
      | cons a l => exact ⟨a, l, rfl⟩
    have : a ∈ l := by simpa [nth] using z
    exact (List.nodup_cons.mp h.nd).1 this, h.con c (List.mem_of_mem_drop m) _ (nth_mem hi)⟩
end
end LA

/-! MC5: means of themselves; the same everywhere in a class, 0 if 0 where one comes back to. -/
namespace LA
section
variable {n : Nat} {p : Nat → Nat → Rat}
theorem stat_mean {q w : Nat → Rat} (hq : Stat n p q) : sm (fun y => q y * mn n p w y) n = sm (fun y => q y * w y) n := by
  unfold mn
  rw [sm_congr (g := fun y => sm (fun z => q y * p y z * w z) n) fun y _ => by rw [← sm_mul]; exact sm_congr fun z _ => by grind]
  rw [sm_comm]
  refine sm_congr fun z hz => ?_
  rw [hq z hz]
  rw [Rat.mul_comm, ← sm_mul]
  exact sm_congr fun y _ => by grind
theorem harm_const (hC : Chain n p) {f : Nat → Rat} (hf : ∀ x, x < n → f x = mn n p f x) {x : Nat} (hx : x < n) (hr : Recur n p x) {y : Nat} (hy : Rc n p x y) : f y = f x := by
  classical
  obtain ⟨z, hz, hl⟩ := argmin (fun y => if Rc n p x y then f y else f x + 1) n (by omega)
  have hxx := hl x hx
  rw [if_pos Rc.refl] at hxx
  have rz : Rc n p x z := Classical.byContradiction fun c => by
    rw [if_neg c] at hxx; grind
  rw [if_pos rz] at hl hxx
  have hl : ∀ y, y < n → Rc n p x y → f z ≤ f y := fun y hy r => by
    have := hl y hy
    rw [if_pos r] at this; exact this
  have cl : Closed n p (fun y => Rc n p x y ∧ f y = f z) := fun a b ha hb h1 h2 => by
    refine ⟨.step h1.1 ha hb h2, ?_⟩
    have e := hf a ha
    have e2 : mn n p (fun _ => f z) a = f z := mn_const hC _ ha
    have tot : sm (fun y => p a y * (f y - f z)) n = 0 := by
      have : sm (fun y => p a y * (f y - f z)) n = mn n p f a - mn n p (fun _ => f z) a := by
        unfold mn
        rw [← sm_sub]; exact sm_congr fun y _ => by grind
      rw [this, e2, ← e, h1.2]; grind
    have h3 := sm_zero_all (f := fun y => p a y * (f y - f z)) (fun y hy => by
      by_cases c : 0 < p a y
      · have := hl y hy (.step h1.1 ha hy c)
        exact Rat.mul_nonneg (hC.nn a y ha hy) (by grind)
      · have := hC.nn a y ha hy
        have : p a y = 0 := by grind
        rw [this, Rat.zero_mul]; exact Rat.le_refl) tot b hb
    rcases Rat.mul_eq_zero.mp h3 with h4 | h4
    · rw [h4] at h2; exact absurd h2 (by decide)
    · show f b = f z
      grind
  have hzx := hr z rz
  have s1 := (cl.rc hzx ⟨rz, rfl⟩).2
  have s2 := (cl.rc (hzx.trans hy) ⟨rz, rfl⟩).2
  rw [s1, s2]
theorem harm_zero (hC : Chain n p) {f : Nat → Rat} (hf : ∀ x, x < n → f x = mn n p f x) (h0 : ∀ x, x < n → Recur n p x → f x = 0) : ∀ x, x < n → f x = 0 := fun x hx => by
  have h1 := min_recur hC hf (m := 0) (fun x hx hr => by rw [h0 x hx hr]; exact Rat.le_refl) x hx
  have h2 := min_recur hC (g := fun x => - f x) (fun x hx => by
    have : mn n p (fun x => - f x) x = -1 * mn n p f x := by
      unfold mn
      rw [← sm_mul]; exact sm_congr fun y _ => by grind
    show - f x = _
    rw [this, ← hf x hx]; grind) (m := 0) (fun x hx hr => by show 0 ≤ - f x; rw [h0 x hx hr]; exact by decide) x hx
  grind
theorem mn_sub {f g : Nat → Rat} {x : Nat} : mn n p (fun y => f y - g y) x = mn n p f x - mn n p g x := by
  unfold mn
  rw [← sm_sub]; exact sm_congr fun y _ => by grind
theorem mn_add {f g : Nat → Rat} {x : Nat} : mn n p (fun y => f y + g y) x = mn n p f x + mn n p g x := by
  unfold mn
  rw [← sm_add]; exact sm_congr fun y _ => by grind
theorem mn_mul {f : Nat → Rat} {c : Rat} {x : Nat} : mn n p (fun y => c * f y) x = c * mn n p f x := by
  unfold mn
  rw [← sm_mul]; exact sm_congr fun y _ => by grind
end
end LA

namespace Lw
open PySem PySem.Spec PyProof.Rows L2 Dn
theorem gcd_loop : ∀ (ds : List D) (a b : Nat) (s r : C), ∃ b' s' r', forL (Tg.put (.nm 2)) b__law_gcd_0 ds [.fz (.int a), .fz (.int b), s, r] = .nx [.fz (.int (eu ds.length a b).1), b', s', r']
  | [], a, b, s, r => ⟨_, _, _, rfl⟩
  | d :: ds, a, b, s, r => by
    rw [forL_cons]
    by_cases hb : b = 0
    · subst hb
      refine ⟨.fz (.int 0), .fz d, r, ?_⟩
      simp [eu]
    · obtain ⟨b', s', r', h⟩ := gcd_loop ds b (a % b) (.fz d) (.fz (.int (a % b : Nat)))
      refine ⟨b', s', r', ?_⟩
      have h0 : ¬ ((b : Nat) : Int) = 0 := by omega
      have h1 : 0 < ((b : Nat) : Int) := by omega
      have e : eu (d :: ds).length a b = eu ds.length b (a % b : Nat) := by
        show (if (b : Int) = 0 then _ else _) = _
        rw [if_neg h0]; rfl
      rw [e, ← h]
      simp [h0, hb, Nat.pos_of_ne_zero hb]
theorem sp_gcd {a b : Int} (h : b.natAbs < 2 ^ 2600 * Nat.gcd a.natAbs b.natAbs) : w__law_gcd [.fz (.int a), .fz (.int b)] = .ok (.fz (.int (Nat.gcd a.natAbs b.natAbs : Nat))) [] := by
  obtain ⟨b', s', r', e⟩ := gcd_loop (intsD 0 4000) a.natAbs b.natAbs .no .no
  have hk : b.natAbs < kf 4000 * Nat.gcd a.natAbs b.natAbs := Nat.lt_of_lt_of_le h (Nat.mul_le_mul_right _ kf4000)
  rw [intsD_len, eu_gcd _ _ _ hk] at e
  simp [w__law_gcd, runDef, noEr, m__law_gcd, r62_eq, e]
theorem den_gcd {n d : Int} (hd : d ≠ 0) (h : (Rat.divInt n d).den < 2 ^ 2600) : d.natAbs < 2 ^ 2600 * Nat.gcd n.natAbs d.natAbs := by
  rw [Rat.den_divInt, if_neg hd] at h
  have e : d.gcd n = Nat.gcd n.natAbs d.natAbs := by rw [Int.gcd_comm]; rfl
  rw [e] at h
  exact (Nat.div_lt_iff_lt_mul (Nat.gcd_pos_of_pos_right _ (by omega))).mp h
theorem div_numN {n d : Int} (h : d < 0) : (-n) / ((Nat.gcd n.natAbs d.natAbs : Nat) : Int) = (Rat.divInt n d).num := by
  have := div_num (n := -n) (d := -d) (by omega)
  simpa [neg_divInt] using this
theorem div_denN {n d : Int} (h : d < 0) : (-d) / ((Nat.gcd n.natAbs d.natAbs : Nat) : Int) = ((Rat.divInt n d).den : Int) := by
  have := div_den (n := -n) (d := -d) (by omega)
  simpa [neg_divInt] using this
theorem sp__law_number {n d : Int} (hd : d ≠ 0) (h : d.natAbs < 2 ^ 5200) (h2 : (Rat.divInt n d).den < 2 ^ 2600) : w__law_number [.fz (.int n), .fz (.int d)] = .ok (nC (Rat.divInt n d)) [] := by
  have hl : (Nat.gcd n.natAbs d.natAbs).log2 < 9000 := log2_lt (by decide) (Nat.lt_of_le_of_lt (Nat.gcd_le_right _ (by omega)) (Nat.lt_of_lt_of_le h (Nat.pow_le_pow_right (by decide) (by decide))))
  have hp : 0 < Nat.gcd n.natAbs d.natAbs := Nat.gcd_pos_of_pos_right _ (by omega)
  have hb := den_gcd hd h2
  rcases Int.lt_or_gt_of_ne hd with h1 | h1
  · have hg := sp_gcd (a := -n) (b := -d) (by simpa using hb)
    simp [w__law_number, runDef, noEr, m__law_number, h1, hd, hg, hl, hp, div_numN h1, div_denN h1]
  · have hg := sp_gcd (a := n) hb
    have h2 : ¬ d < 0 := by omega
    simp [w__law_number, runDef, noEr, m__law_number, h2, hd, hg, hl, hp, div_num h1, div_den h1]
theorem sp_number {n d : Int} (hd : d ≠ 0) (h : d.natAbs < 2 ^ 5200) (h2 : (Rat.divInt n d).den < 2 ^ 2600) : w_number [.fz (.int n), .fz (.int d)] = .ok (nC (Rat.divInt n d)) [] := by
  have hl : (Nat.gcd n.natAbs d.natAbs).log2 < 9000 := log2_lt (by decide) (Nat.lt_of_le_of_lt (Nat.gcd_le_right _ (by omega)) (Nat.lt_of_lt_of_le h (Nat.pow_le_pow_right (by decide) (by decide))))
  have hp : 0 < Nat.gcd n.natAbs d.natAbs := Nat.gcd_pos_of_pos_right _ (by omega)
  have hb := den_gcd hd h2
  rcases Int.lt_or_gt_of_ne hd with h1 | h1
  · skip
    simp [w_number, runDef, noEr, m_number, h1, hd, hl, hp, div_numN h1, div_denN h1]
  · skip
    have h2 : ¬ d < 0 := by omega
    simp [w_number, runDef, noEr, m_number, h2, hd, hl, hp, div_num h1, div_den h1]
theorem Okq.d0 {q : Rat} : (q.den : Int) ≠ 0 := by have := q.den_nz; omega
theorem wide_ok {i j : Int} (h1 : i.natAbs < 2 ^ 2600) (h2 : j.natAbs < 2 ^ 2600) : wide i j = true := wide_of h1 h2 (by decide) (by decide) (by decide)
theorem add_divInt (a b : Rat) : Rat.divInt (a.num * b.den + b.num * a.den) (a.den * b.den) = a + b := by
  rw [← Rat.divInt_add_divInt _ _ (by have := a.den_nz; omega) (by have := b.den_nz; omega), Rat.num_divInt_den, Rat.num_divInt_den]
theorem mul_divInt (a b : Rat) : Rat.divInt (a.num * b.num) (a.den * b.den) = a * b := by
  rw [← Rat.divInt_mul_divInt, Rat.num_divInt_den, Rat.num_divInt_den]
theorem den_mul {a b : Rat} (h1 : Okq a) (h2 : Okq b) : ((a.den : Int) * (b.den : Int)).natAbs < 2 ^ 5200 := by
  rw [Int.natAbs_mul]
  exact Nat.lt_of_lt_of_le (Nat.mul_lt_mul'' h1.2 h2.2) (by rw [← Nat.pow_add]; exact Nat.le_refl _)
theorem den_ne {a b : Rat} : ((a.den : Int) * (b.den : Int)) ≠ 0 := Int.mul_ne_zero (by have := a.den_nz; omega) (by have := b.den_nz; omega)
theorem sp__law_plus {a b : Rat} (h1 : Okq a) (h2 : Okq b) (h3 : (a + b).den < 2 ^ 2600) : w__law_plus [nC a, nC b] = .ok (nC (a + b)) [] := by
  have w1 : wide a.num b.den = true := wide_ok h1.1 (by simpa using h2.2)
  have w2 : wide b.num a.den = true := wide_ok h2.1 (by simpa using h1.2)
  have w3 : wide a.den b.den = true := wide_ok (by simpa using h1.2) (by simpa using h2.2)
  have hn := sp__law_number (n := a.num * b.den + b.num * a.den) den_ne (den_mul h1 h2) (by rw [add_divInt]; exact h3)
  rw [add_divInt] at hn
  simp [w__law_plus, runDef, noEr, m__law_plus, w1, w2, w3, atI_ofNat, hn]
theorem sp_plus {a b : Rat} (h1 : Okq a) (h2 : Okq b) (h3 : (a + b).den < 2 ^ 2600) : w_plus [nC a, nC b] = .ok (nC (a + b)) [] := by
  have w1 : wide a.num b.den = true := wide_ok h1.1 (by simpa using h2.2)
  have w2 : wide b.num a.den = true := wide_ok h2.1 (by simpa using h1.2)
  have w3 : wide a.den b.den = true := wide_ok (by simpa using h1.2) (by simpa using h2.2)
  have hn := sp_number (n := a.num * b.den + b.num * a.den) den_ne (den_mul h1 h2) (by rw [add_divInt]; exact h3)
  rw [add_divInt] at hn
  simp [w_plus, runDef, noEr, m_plus, w1, w2, w3, atI_ofNat, hn]
theorem sp__law_times {a b : Rat} (h1 : Okq a) (h2 : Okq b) (h3 : (a * b).den < 2 ^ 2600) : w__law_times [nC a, nC b] = .ok (nC (a * b)) [] := by
  have w1 : wide a.num b.num = true := wide_ok h1.1 h2.1
  have w3 : wide a.den b.den = true := wide_ok (by simpa using h1.2) (by simpa using h2.2)
  have hn := sp__law_number (n := a.num * b.num) den_ne (den_mul h1 h2) (by rw [mul_divInt]; exact h3)
  rw [mul_divInt] at hn
  simp [w__law_times, runDef, noEr, m__law_times, w1, w3, atI_ofNat, hn]
theorem sp_times {a b : Rat} (h1 : Okq a) (h2 : Okq b) (h3 : (a * b).den < 2 ^ 2600) : w_times [nC a, nC b] = .ok (nC (a * b)) [] := by
  have w1 : wide a.num b.num = true := wide_ok h1.1 h2.1
  have w3 : wide a.den b.den = true := wide_ok (by simpa using h1.2) (by simpa using h2.2)
  have hn := sp_number (n := a.num * b.num) den_ne (den_mul h1 h2) (by rw [mul_divInt]; exact h3)
  rw [mul_divInt] at hn
  simp [w_times, runDef, noEr, m_times, w1, w3, atI_ofNat, hn]
theorem lt_num (a b : Rat) : (a.num * b.den < b.num * a.den) ↔ a < b := by
  rw [Rat.lt_iff]
end Lw

namespace Dn
open PySem PySem.Spec PyProof.Rows L2
/-! ### numbers over a common divisor -/
def Inn (M B : Nat) (q : Rat) : Prop := 0 < M ∧ ∃ k : Int, q = Rat.divInt k M ∧ k.natAbs ≤ B * M
theorem Inn.add {M B B' : Nat} {a b : Rat} (h : Inn M B a) (h' : Inn M B' b) : Inn M (B + B') (a + b) := by
  obtain ⟨p, k, rfl, hk⟩ := h
  obtain ⟨_, j, rfl, hj⟩ := h'
  have hm : (M : Int) ≠ 0 := by omega
  refine ⟨p, k + j, ?_, ?_⟩
  · rw [Rat.divInt_add_divInt _ _ hm hm, ← Int.add_mul, Rat.divInt_mul_right hm]
  · rw [Nat.add_mul]; omega
theorem Inn.mul {M M' B B' : Nat} {a b : Rat} (h : Inn M B a) (h' : Inn M' B' b) : Inn (M * M') (B * B') (a * b) := by
  obtain ⟨p, k, rfl, hk⟩ := h
  obtain ⟨p', j, rfl, hj⟩ := h'
  refine ⟨Nat.mul_pos p p', k * j, ?_, ?_⟩
  · rw [Rat.divInt_mul_divInt]; simp
  · rw [Int.natAbs_mul, show B * B' * (M * M') = (B * M) * (B' * M') by ac_rfl]
    exact Nat.mul_le_mul hk hj
theorem Inn.lift {M B : Nat} {a : Rat} (h : Inn M B a) {c : Nat} (hc : 0 < c) : Inn (M * c) B a := by
  obtain ⟨p, k, rfl, hk⟩ := h
  have hm : (c : Int) ≠ 0 := by omega
  refine ⟨Nat.mul_pos p hc, k * c, ?_, ?_⟩
  · rw [Int.natCast_mul, Rat.divInt_mul_right hm]
  · rw [Int.natAbs_mul, ← Nat.mul_assoc]; simpa using Nat.mul_le_mul_right c hk
theorem Inn.dvd {M M' B : Nat} {a : Rat} (h : Inn M B a) (hd : M ∣ M') (hp : 0 < M') : Inn M' B a := by
  obtain ⟨c, rfl⟩ := hd
  exact h.lift (Nat.pos_of_mul_pos_left hp)
theorem Inn.le {M B B' : Nat} {a : Rat} (h : Inn M B a) (hb : B ≤ B') : Inn M B' a := by
  obtain ⟨p, k, rfl, hk⟩ := h
  exact ⟨p, k, rfl, Nat.le_trans hk (Nat.mul_le_mul_right _ hb)⟩
theorem Inn.neg {M B : Nat} {a : Rat} (h : Inn M B a) : Inn M B (-a) := by
  obtain ⟨p, k, rfl, hk⟩ := h
  exact ⟨p, -k, by rw [Rat.neg_divInt], by simpa using hk⟩
theorem Inn.sub {M B B' : Nat} {a b : Rat} (h : Inn M B a) (h' : Inn M B' b) : Inn M (B + B') (a - b) := by
  rw [Rat.sub_eq_add_neg]; exact h.add h'.neg
theorem Inn.zero {M : Nat} (h : 0 < M) : Inn M 0 0 := ⟨h, 0, by simp, by simp⟩
theorem Inn.of {M : Nat} {k : Int} {B : Nat} (h : 0 < M) (hk : k.natAbs ≤ B * M) : Inn M B (Rat.divInt k M) := ⟨h, k, rfl, hk⟩
theorem Inn.den {M B : Nat} {a : Rat} (h : Inn M B a) : a.den ≤ M := by
  obtain ⟨p, k, rfl, hk⟩ := h
  rw [Rat.den_divInt, if_neg (by omega)]
  simpa using Nat.div_le_self _ _
theorem Inn.num {M B : Nat} {a : Rat} (h : Inn M B a) : a.num.natAbs ≤ B * M := by
  obtain ⟨p, k, rfl, hk⟩ := h
  refine Nat.le_trans ?_ hk
  rw [← div_num (by omega), Int.natAbs_ediv_of_dvd (Int.ofNat_dvd_left.mpr (Nat.gcd_dvd_left _ _))]
  exact Nat.div_le_self _ _
theorem Inn.okq {M B : Nat} {a : Rat} (h : Inn M B a) (h1 : B * M < 2 ^ 2600) (h2 : M < 2 ^ 2600) : Okq a := ⟨Nat.lt_of_le_of_lt h.num h1, Nat.lt_of_le_of_lt h.den h2⟩
theorem forall₂_get {ds : List D} {d : D} {i : Nat} : ds[i]? = some d → d ∈ ds := fun h => List.mem_of_getElem? h
end Dn
namespace Lw
open PySem PySem.Spec PyProof.Rows L2 Dn
/-! ### draws -/
def DrawOk (i : Int) : Prop := 0 ≤ i ∧ i < 1000
def DrI (ns : List Int) (n : Nat) : Nat → Rho → Prop := fun k ρ => ∃ (rs ds : List Int) (a b c d : C), rs.length = ns.length ∧ ds.length = k ∧ (∀ i ∈ ds, DrawOk i) ∧
    ρ = [.fz (.fr (ns.map D.int)), .fz (.int n), .ow (rs.map fun i => .fz (.int i)), .ow (ds.map fun i => .fz (.int i)), a, b, c, d, .no]
theorem dr_hr (ns : List Int) (n : Nat) (hl : ns.length ≤ 63) : lcL [8] (Tg.put (.nm 8)) bYes (eVar 8) (ns.map D.int) [] [.fz (.fr (ns.map D.int)), .fz (.int n), .no, .no, .no, .no, .no, .no, .no] = .ok (ns.map fun i => .fz (.int i)) [.fz (.fr (ns.map D.int)), .fz (.int n), .no, .no, .no, .no, .no, .no, .no] :=
    lcL_getO _ D.int (fun i => .fz (.int i)) ns (by omega) fun d m => by simp
theorem dr_fin (ns : List Int) (n : Nat) : ∀ (k : Nat) (rs ds : List Int) (v : Int) (a b c d : C), rs.length = ns.length → ds.length = k → (∀ i ∈ ds, DrawOk i) → DrawOk v → DrI ns n (k + 1) [.fz (.fr (ns.map D.int)), .fz (.int n), .ow (rs.map fun i => .fz (.int i)), .ow ((ds.map fun i => C.fz (.int i)) ++ [.fz (.int v)]), a, b, c, d, .no] := by
    intro k rs ds v a b c d h1 h2 h3 h4
    refine ⟨rs, ds ++ [v], a, b, c, d, h1, by simp [h2], fun i m => ?_, by simp⟩
    rcases List.mem_append.mp m with m | m
    · exact h3 i m
    · rw [List.mem_singleton.mp m]; exact h4
theorem dr_step (ns : List Int) (n : Nat) (hn : n ≤ 1000) : ∀ (i : Nat) (d : D) (ρ : Rho), (intsD 0 n)[i]? = some d → DrI ns n i ρ → (fStep (Tg.put (.nm 4)) b__law_draws_0 d ρ).sat (DrI ns n (i + 1)) := by
    intro i d ρ hd hI
    obtain ⟨hi, rfl⟩ := intsD_get hd
    obtain ⟨rs, ds, a, b, c, e, h1, h2, h3, rfl⟩ := hI
    have hds : ds.length ≤ 1000000 := by omega
    by_cases h0 : rs = []
    · subst h0
      have := dr_fin ns n i [] ds 0 (.fz (.int i)) (.fz (.int 0)) c e h1 h2 h3 ⟨by decide, by decide⟩
      simpa [hds] using this
    · have hp : 0 < rs.length := List.length_pos_iff.mpr h0
      have hk0 : (0 : Int) ≤ (i : Int) % (rs.length : Int) := Int.emod_nonneg _ (by omega)
      have hk1 : (i : Int) % (rs.length : Int) < rs.length := Int.emod_lt_of_pos _ (by omega)
      obtain ⟨r, hr1, hr2, hr3⟩ := atI_in hk0 hk1
      have hat : atI (rs.map fun i => C.fz (.int i)) ((i : Int) % (rs.length : Int)) = some (.fz (.int r)) := by rw [atI_map, hr1]; rfl
      by_cases hbig : (10 : Int) ^ 18 ≤ r
      · have hset : setF ((i : Int) % (rs.length : Int)) (rs.map fun i => C.fz (.int i)) (.fz (.int (r / 1000))) = some ((rs.set ((i : Int) % (rs.length : Int)).toNat (r / 1000)).map fun i => C.fz (.int i)) := by
          rw [setF_in hk0 (by simpa using hk1), List.map_set]; simp
        have := dr_fin ns n i (rs.set ((i : Int) % (rs.length : Int)).toNat (r / 1000)) ds (r % 1000) (.fz (.int i)) (.fz (.int (r % 1000))) (.fz (.int ((i : Int) % (rs.length : Int)))) e (by simpa using h1) h2 h3 ⟨Int.emod_nonneg _ (by decide), Int.emod_lt_of_pos _ (by decide)⟩
        have hl : Nat.log2 1000 < 9000 := by decide
        simp at hbig
        simpa [hds, hp, hat, hset, hbig, hl] using this
      · have w1 : wide r 48271 = true := wide_r (by decide)
        have w2 : wide (i : Int) 69621 = true := wide_r (by decide)
        have w3 : ∀ z : Int, wide z 16807 = true := fun z => wide_r (by decide)
        have hl : Nat.log2 7 < 9000 := by decide
        have hbig' : ¬ (1000000000000000000 ≤ r) := by simpa using hbig
        simp [hds, hp, hat, hbig', hl, w1, w2, w3]
        exact dr_fin ns n i rs ds _ _ _ _ _ h1 h2 h3 ⟨Int.emod_nonneg _ (by decide), Int.emod_lt_of_pos _ (by decide)⟩
theorem sp__law_draws (ns : List Int) (n : Nat) (hn : n ≤ 1000) (hl : ns.length ≤ 63) : ∃ ds : List Int, ds.length = n ∧ (∀ i ∈ ds, DrawOk i) ∧ w__law_draws [.fz (.fr (ns.map D.int)), .fz (.int n)] = .ok (.ow (ds.map fun i => .fz (.int i))) [] := by
  have hr := dr_hr ns n hl
  have step := dr_step ns n hn
  obtain ⟨ρ', e, rs, ds, a, b, c, d, h1, h2, h3, rfl⟩ := forL_sat (DrI ns n) (intsD 0 n) step (ρ := [.fz (.fr (ns.map D.int)), .fz (.int n), .ow (ns.map fun i => .fz (.int i)), .ow [], .no, .no, .no, .no, .no]) ⟨ns, [], .no, .no, .no, .no, rfl, rfl, by simp, rfl⟩
  rw [intsD_len] at h2
  refine ⟨ds, h2, h3, ?_⟩
  have hn' : r62 (n : Int) = true := by rw [r62_eq]; simp; omega
  simp -implicitDefEqProofs [w__law_draws, runDef, noEr, m__law_draws, hr, hn', e]
end Lw

namespace Lw
open PySem PySem.Spec PyProof.Rows L2 Dn
/-! ### games -/
inductive Pl where
  | dr (g : Rat) (bs : List (Rat × Nat))
  | ch (g : Rat) (ours : Bool) (ts : List Nat)
def brD (b : Rat × Nat) : D := .tup [nD b.1, .int b.2]
def sideS (b : Bool) : Str := if b then "ours" else "theirs"
def plD : Pl → D
  | .dr g bs => .tup [nD g, .str "draw", .lst (bs.map brD)]
  | .ch g o ts => .tup [nD g, .str (sideS o), .lst (ts.map fun t => .int (t : Nat))]
abbrev LL : Nat := 5354228880
def plOkG (Mg Bg m : Nat) : Pl → Prop
  | .dr g bs => Inn Mg Bg g ∧ bs ≠ [] ∧ bs.length ≤ 6 ∧ ∀ b ∈ bs, Inn LL 1 b.1 ∧ b.2 < m
  | .ch g _ ts => Inn Mg Bg g ∧ ts ≠ [] ∧ ts.length ≤ 6 ∧ ∀ t ∈ ts, t < m
abbrev plOk (m : Nat) (p : Pl) : Prop := plOkG 6 9 m p
theorem divInt_pos {w S : Int} (hw : 0 < w) (hS : 0 < S) : 0 < Rat.divInt w S := by
  have h1 : 0 ≤ Rat.divInt w S := (Rat.divInt_nonneg_iff_of_pos_right hS).mpr (by omega)
  have h2 : Rat.divInt w S ≠ 0 := fun z => by
    have e : (w : Rat) = 0 * (S : Rat) := by
      rw [← z, Rat.divInt_eq_div, Rat.div_mul_cancel (fun h => by have : S = 0 := by exact_mod_cast h
                                                                  omega)]
    rw [Rat.zero_mul] at e
    have : w = 0 := by exact_mod_cast e
    omega
  grind
/-- chances: greater than 0, 1 in all -/
def plFair : Pl → Prop
  | .dr _ bs => (∀ b ∈ bs, 0 < b.1) ∧ (bs.map (·.1)).foldl (· + ·) 0 = (1 : Rat)
  | .ch _ _ _ => True
theorem atI_ds {ds : List Int} (h : ∀ i ∈ ds, DrawOk i) {j : Int} (h0 : 0 ≤ j) (h1 : j < ds.length) : atI (ds.map D.int) j = some (.int (ds.getD j.toNat 0)) ∧ DrawOk (ds.getD j.toNat 0) := by
  obtain ⟨a, e1, e2, e3⟩ := atI_in h0 h1
  rw [atI_map, e1]
  have : ds.getD j.toNat 0 = a := by rw [List.getD_eq_getElem?_getD, e2]; rfl
  rw [this]
  exact ⟨rfl, h a e3⟩
theorem dvd_LL {s : Int} (h : 1 ≤ s) (h2 : s ≤ 24) : s.toNat ∣ LL := by
  have : s = 1 ∨ s = 2 ∨ s = 3 ∨ s = 4 ∨ s = 5 ∨ s = 6 ∨ s = 7 ∨ s = 8 ∨ s = 9 ∨ s = 10 ∨ s = 11 ∨ s = 12 ∨ s = 13 ∨ s = 14 ∨ s = 15 ∨ s = 16 ∨ s = 17 ∨ s = 18 ∨ s = 19 ∨ s = 20 ∨ s = 21 ∨ s = 22 ∨ s = 23 ∨ s = 24 := by omega
  rcases this with rfl | rfl | rfl | rfl | rfl | rfl | rfl | rfl | rfl | rfl | rfl | rfl | rfl | rfl | rfl | rfl | rfl | rfl | rfl | rfl | rfl | rfl | rfl | rfl <;> decide
theorem small_num {n d : Int} (h : 0 < d) (h2 : d < 2 ^ 1000) : d ≠ 0 ∧ d.natAbs < 2 ^ 5200 ∧ (Rat.divInt n d).den < 2 ^ 2600 := by
  have h3 : d.natAbs < 2 ^ 1000 := by omega
  have p1 : (2 : Nat) ^ 1000 ≤ 2 ^ 5200 := Nat.pow_le_pow_right (by decide) (by decide)
  have p2 : (2 : Nat) ^ 1000 ≤ 2 ^ 2600 := Nat.pow_le_pow_right (by decide) (by decide)
  refine ⟨by omega, Nat.lt_of_lt_of_le h3 p1, ?_⟩
  rw [Rat.den_divInt, if_neg (by omega)]
  exact Nat.lt_of_le_of_lt (Nat.div_le_self _ _) (Nat.lt_of_lt_of_le h3 p2)
theorem divs4 {j : Int} (h0 : 0 ≤ j) (h1 : j < 4) : ∃ g : Nat, atI [D.int 1, .int 1, .int 2, .int 3] j = some (.int g) ∧ 0 < g ∧ g ∣ 6 ∧ g ≤ 3 := by
  have : j = 0 ∨ j = 1 ∨ j = 2 ∨ j = 3 := by omega
  rcases this with rfl | rfl | rfl | rfl
  · exact ⟨1, rfl, by decide, by decide, by decide⟩
  · exact ⟨1, rfl, by decide, by decide, by decide⟩
  · exact ⟨2, rfl, by decide, by decide, by decide⟩
  · exact ⟨3, rfl, by decide, by decide, by decide⟩
theorem sizes9 {j : Int} (h0 : 0 ≤ j) (h1 : j < 9) : ∃ g : Nat, atI [D.int 1, .int 2, .int 3, .int 1, .int 2, .int 3, .int 4, .int 5, .int 6] j = some (.int g) ∧ 0 < g ∧ g ≤ 6 := by
  have : j = 0 ∨ j = 1 ∨ j = 2 ∨ j = 3 ∨ j = 4 ∨ j = 5 ∨ j = 6 ∨ j = 7 ∨ j = 8 := by omega
  rcases this with rfl | rfl | rfl | rfl | rfl | rfl | rfl | rfl | rfl
  · exact ⟨1, rfl, by decide, by decide⟩
  · exact ⟨2, rfl, by decide, by decide⟩
  · exact ⟨3, rfl, by decide, by decide⟩
  · exact ⟨1, rfl, by decide, by decide⟩
  · exact ⟨2, rfl, by decide, by decide⟩
  · exact ⟨3, rfl, by decide, by decide⟩
  · exact ⟨4, rfl, by decide, by decide⟩
  · exact ⟨5, rfl, by decide, by decide⟩
  · exact ⟨6, rfl, by decide, by decide⟩
theorem gain_in {x : Int} {g : Nat} (hx : DrawOk x) (h : 0 < g) (h6 : g ∣ 6) (h3 : g ≤ 3) : Inn 6 9 (Rat.divInt (x % 15 - 5) g) := by
  refine (Inn.of (B := 9) h ?_).dvd h6 (by decide)
  have := Int.emod_nonneg x (b := 15) (by decide)
  have := Int.emod_lt_of_pos x (b := 15) (by decide)
  omega
def wts (ds : List Int) (k : Nat) : Int := 1 + ds.getD (9 + k % 5) 0 % 5
theorem wts_in {ds : List Int} (k : Nat) : 1 ≤ wts ds k ∧ wts ds k ≤ 5 := by
  unfold wts
  have := Int.emod_nonneg (ds.getD (9 + k % 5) 0) (b := 5) (by decide)
  have := Int.emod_lt_of_pos (ds.getD (9 + k % 5) 0) (b := 5) (by decide)
  omega
def wsum (ds : List Int) (n : Nat) : Int := ((List.range n).map (wts ds)).sum
theorem wsum_in (ds : List Int) : ∀ n : Nat, (n : Int) ≤ wsum ds n ∧ wsum ds n ≤ 5 * n ∧ ∀ k, k < n → wts ds k ≤ wsum ds n
  | 0 => by simp [wsum]
  | n + 1 => by
    obtain ⟨h1, h2, h3⟩ := wsum_in ds n
    have e : wsum ds (n + 1) = wsum ds n + wts ds n := by
      unfold wsum
      rw [List.range_succ, List.map_append, List.sum_append]; simp
    have hw := wts_in (ds := ds) n
    rw [e]
    refine ⟨by omega, by omega, fun k hk => ?_⟩
    rcases Nat.lt_succ_iff_lt_or_eq.mp hk with hk | rfl
    · have := h3 k hk; omega
    · omega
theorem intsOf_map (l : List Int) : intsOf (l.map D.int) = some l := by
  induction l with
  | nil => rfl
  | cons a l ih => simp [intsOf, ih]
theorem wts_fair (ds : List Int) {S : Int} (hS : S ≠ 0) : ∀ n : Nat, ((List.range n).map fun k => Rat.divInt (wts ds k) S).foldl (· + ·) 0 = Rat.divInt (wsum ds n) S
  | 0 => by simp [wsum]
  | n + 1 => by
    have e : wsum ds (n + 1) = wsum ds n + wts ds n := by
      unfold wsum
      rw [List.range_succ, List.map_append, List.sum_append]; simp
    rw [List.range_succ, List.map_append, List.foldl_append, wts_fair ds hS n, e]
    show Rat.divInt (wsum ds n) S + Rat.divInt (wts ds n) S = _
    rw [Rat.divInt_add_divInt _ _ hS hS, ← Int.add_mul, Rat.divInt_mul_right hS]
/-- fifteen at a place -/
theorem cutL_eq {α : Type} (l : List α) (a b : Nat) (hb : b ≤ l.length) (h : a ≤ b) : cutL l (some (a : Int)) (some (b : Int)) = (l.drop a).take (b - a) := by
  unfold cutL
  rw [HT.sIx_nat, HT.sIx_nat, Nat.min_eq_left hb, Nat.min_eq_left (Nat.le_trans h hb)]
theorem frac01 {n d : Int} (h0 : 0 < n) (h : n < d) : 0 < Rat.divInt n d ∧ Rat.divInt n d < 1 := by
  rw [Rat.divInt_eq_div]
  have hd : (0 : Rat) < d := by exact_mod_cast (show (0 : Int) < d by omega)
  constructor
  · rw [Rat.lt_div_iff hd]; simp; exact_mod_cast h0
  · rw [Rat.div_lt_iff hd]; simp; exact_mod_cast h
def dcOk (q : Rat) : Prop := ∃ M : Nat, Inn M 1 q ∧ M ≤ 1000001 ∧ 0 < q ∧ q < 1
end Lw

namespace Dn
open PySem PySem.Spec PyProof.Rows L2
def Sz (M B : Nat) : Prop := M < 2 ^ 2600 ∧ B * M < 2 ^ 2600
theorem Inn.sz {M B : Nat} {a : Rat} (h : Inn M B a) (z : Sz M B) : Okq a := h.okq z.2 z.1
theorem Sz.le {M B B' : Nat} (z : Sz M B) (h : B' ≤ B) : Sz M B' := ⟨z.1, Nat.lt_of_le_of_lt (Nat.mul_le_mul_right _ h) z.2⟩
theorem Sz.dvd {M M' B : Nat} (z : Sz M B) (h : M' ∣ M) (hp : 0 < M) : Sz M' B := by
  have := Nat.le_of_dvd hp h
  exact ⟨Nat.lt_of_le_of_lt this z.1, Nat.lt_of_le_of_lt (Nat.mul_le_mul_left _ this) z.2⟩
theorem enumD_get {ds : List D} {i : Nat} {e : D} (h : (enumD ds)[i]? = some e) : ∃ d, ds[i]? = some d ∧ e = .tup [.int i, d] := by
  unfold enumD at h
  rw [List.getElem?_map, Option.map_eq_some_iff] at h
  obtain ⟨⟨d, n⟩, h1, rfl⟩ := h
  rw [List.getElem?_zipIdx, Option.map_eq_some_iff] at h1
  obtain ⟨d', h2, h3⟩ := h1
  cases h3
  exact ⟨_, h2, by simp⟩
@[simp] theorem enumD_len (ds : List D) : (enumD ds).length = ds.length := by
  simp [enumD]
end Dn
namespace Lw
open PySem PySem.Spec PyProof.Rows L2 Dn
/-! ### sums and choices -/
def sumF (a : Rat) (qs : List Rat) : Rat := qs.foldl (· + ·) a
theorem sumF_in {M B : Nat} : ∀ (qs : List Rat) (a : Rat) (B0 : Nat), (∀ q ∈ qs, Inn M B q) → Inn M B0 a → Inn M (B0 + qs.length * B) (sumF a qs)
  | [], a, B0, _, h => by simpa [sumF] using h
  | q :: qs, a, B0, h, h0 => by
    have := sumF_in qs (a + q) (B0 + B) (fun x m => h x (List.mem_cons_of_mem _ m)) (h0.add (h q List.mem_cons_self))
    simpa [sumF, Nat.succ_mul, Nat.add_assoc, Nat.add_comm, Nat.add_left_comm] using this
theorem total_loop {M B : Nat} (x : C) : ∀ (qs : List Rat) (a : Rat) (B0 : Nat) (o : C), (∀ q ∈ qs, Inn M B q) → Inn M B0 a → Sz M (B0 + qs.length * B) →
    ∃ o', forL (Tg.put (.nm 2)) b_total_0 (qs.map nD) [x, nC a, o] = .nx [x, nC (sumF a qs), o']
  | [], a, B0, o, _, _, _ => ⟨o, rfl⟩
  | q :: qs, a, B0, o, h, h0, z => by
    have hq := h q List.mem_cons_self
    have hs := h0.add hq
    have zz : Sz M (B0 + B) := z.le (by simp [Nat.succ_mul] <;> omega)
    have hp := sp_plus (h0.sz (zz.le (by omega))) (hq.sz (zz.le (by omega))) (hs.sz zz).2
    obtain ⟨o', e⟩ := total_loop x qs (a + q) (B0 + B) (.fz (nD q)) (fun x m => h x (List.mem_cons_of_mem _ m)) hs (z.le (by simp [Nat.succ_mul] <;> omega))
    refine ⟨o', ?_⟩
    rw [List.map_cons, forL_cons]
    have e' : sumF a (q :: qs) = sumF (a + q) qs := rfl
    rw [e', ← e]
    simp [hp]
theorem nC_zero : (.fz (.tup [.int 0, .int 1]) : C) = nC 0 := by simp
theorem sp_total {M B : Nat} {qs : List Rat} (h : ∀ q ∈ qs, Inn M B q) (hM : 0 < M) (z : Sz M (qs.length * B)) : w_total [.fz (.lst (qs.map nD))] = .ok (nC (sumF 0 qs)) [] := by
  obtain ⟨o', e⟩ := total_loop (.fz (.lst (qs.map nD))) qs 0 0 .no h (Inn.zero hM) (by simpa using z)
  rw [← nC_zero] at e
  simp -implicitDefEqProofs [w_total, runDef, noEr, m_total, e]
/-- the better of two -/
def btr (o : Bool) (a b : Rat) : Bool := if o then decide (a < b) else decide (b < a)
def pickS (o : Bool) (a b : Rat) : Rat := if btr o a b then b else a
def pickF (o : Bool) (a : Rat) (qs : List Rat) : Rat := qs.foldl (pickS o) a
theorem pickF_mem (o : Bool) : ∀ (qs : List Rat) (a : Rat), pickF o a qs = a ∨ pickF o a qs ∈ qs
  | [], a => .inl rfl
  | q :: qs, a => by
    have e : pickF o a (q :: qs) = pickF o (pickS o a q) qs := rfl
    rw [e]
    rcases pickF_mem o qs (pickS o a q) with h | h
    · rw [h]
      unfold pickS
      split
      · exact .inr List.mem_cons_self
      · exact .inl rfl
    · exact .inr (List.mem_cons_of_mem _ h)
end Lw

namespace Lw
open PySem PySem.Spec PyProof.Rows L2 Dn
/-! ### a step -/
def wAt (W : List Rat) (t : Nat) : Rat := W.getD t 0
def pick0 (o : Bool) : List Rat → Rat
  | [] => 0
  | q :: qs => pickF o q (q :: qs)
def drL (W : List Rat) (bs : List (Rat × Nat)) : List Rat := bs.map fun b => b.1 * wAt W b.2
def chL (W : List Rat) (ts : List Nat) : List Rat := ts.map (wAt W)
def restF (W : List Rat) : Pl → Rat
  | .dr _ bs => sumF 0 (drL W bs)
  | .ch _ o ts => pick0 o (chL W ts)
def gainF : Pl → Rat
  | .dr g _ => g
  | .ch g _ _ => g
def stepF (q : Rat) (W : List Rat) (p : Pl) : Rat := gainF p + q * restF W p
theorem wAt_mem {W : List Rat} {t : Nat} (h : t < W.length) : wAt W t ∈ W ∧ atI (W.map nD) (t : Int) = some (nD (wAt W t)) := by
  have e : wAt W t = W[t] := by unfold wAt; rw [List.getD_eq_getElem?_getD, List.getElem?_eq_getElem h]; rfl
  rw [e]
  refine ⟨List.getElem_mem h, ?_⟩
  rw [atI_natCast, List.getElem?_map, List.getElem?_eq_getElem h]; rfl
theorem pos_LL : 0 < LL := by decide
section
variable {m M B Mq : Nat} {q : Rat} {W : List Rat}
theorem drL_in (hW : ∀ w ∈ W, Inn M B w) {g : Rat} {bs : List (Rat × Nat)} (hp : plOk W.length (.dr g bs)) : ∀ x ∈ drL W bs, Inn (LL * M) B x := by
  intro x hx
  obtain ⟨b, hb, rfl⟩ := List.mem_map.mp hx
  obtain ⟨h1, h2⟩ := hp.2.2.2 b hb
  have := h1.mul (hW _ (wAt_mem h2).1)
  rwa [Nat.one_mul] at this
theorem chL_in (hW : ∀ w ∈ W, Inn M B w) {g : Rat} {o : Bool} {ts : List Nat} (hp : plOk W.length (.ch g o ts)) : ∀ x ∈ chL W ts, Inn M B x := by
  intro x hx
  obtain ⟨b, hb, rfl⟩ := List.mem_map.mp hx
  exact hW _ (wAt_mem (hp.2.2.2 b hb)).1
theorem rest_in (hW : ∀ w ∈ W, Inn M B w) (hM : 0 < M) {p : Pl} (hp : plOk W.length p) : Inn (LL * M) (6 * B) (restF W p) := by
  have hLM : 0 < LL * M := Nat.mul_pos pos_LL hM
  cases p with
  | dr g bs =>
    have := sumF_in (drL W bs) 0 0 (drL_in hW hp) (Inn.zero hLM)
    refine this.le ?_
    have := Nat.mul_le_mul_right B hp.2.2.1
    simpa [drL] using this
  | ch g o ts =>
    have hne := hp.2.1
    cases ts with
    | nil => exact absurd rfl hne
    | cons t ts =>
      have hh := chL_in hW hp
      have : pickF o (wAt W t) (chL W (t :: ts)) ∈ chL W (t :: ts) := by
        rcases pickF_mem o (chL W (t :: ts)) (wAt W t) with h | h
        · rw [h]; exact List.mem_cons_self
        · exact h
      exact ((hh _ this).dvd (Nat.dvd_mul_left M LL) hLM).le (by omega)
theorem gain_ok {m : Nat} {p : Pl} (hp : plOk m p) : Inn 6 9 (gainF p) := by cases p <;> exact hp.1
theorem step_in (hW : ∀ w ∈ W, Inn M B w) (hM : 0 < M) (hq : Inn Mq 1 q) {p : Pl} (hp : plOk W.length p) : Inn (Mq * (LL * M)) (6 * B) (q * restF W p) ∧ Inn (Mq * (LL * M)) (9 + 6 * B) (stepF q W p) := by
  have hr := rest_in hW hM hp
  have hqr := hq.mul hr
  rw [Nat.one_mul] at hqr
  have hg : Inn (Mq * (LL * M)) 9 (gainF p) := (gain_ok hp).dvd (Nat.dvd_mul_left_of_dvd (Nat.dvd_mul_right_of_dvd (by decide) M) Mq) hqr.1
  exact ⟨hqr, hg.add hqr⟩
/-- all that a step asks -/
structure StepOk (q : Rat) (W : List Rat) (M B Mq : Nat) : Prop where
  hW : ∀ w ∈ W, Inn M B w
  hM : 0 < M
  hq : Inn Mq 1 q
  z : Sz (Mq * (LL * M)) (9 + 6 * B)
theorem StepOk.z1 (s : StepOk q W M B Mq) : Sz (LL * M) (6 * B) := (s.z.dvd (Nat.dvd_mul_left _ _) (Nat.mul_pos s.hq.1 (Nat.mul_pos pos_LL s.hM))).le (by omega)
theorem StepOk.z0 (s : StepOk q W M B Mq) : Sz M B := (s.z1.dvd (Nat.dvd_mul_left _ _) (Nat.mul_pos pos_LL s.hM)).le (by omega)
theorem StepOk.okq (s : StepOk q W M B Mq) : Okq q := s.hq.sz ((s.z.dvd (Nat.dvd_mul_right _ _) (Nat.mul_pos s.hq.1 (Nat.mul_pos pos_LL s.hM))).le (by omega))
theorem n_draw_ours : (Str.ofString "ours" = Str.ofString "draw") = False := by decide
theorem n_draw_theirs : (Str.ofString "theirs" = Str.ofString "draw") = False := by decide
theorem n_draw (o : Bool) : (sideS o = Str.ofString "draw") = False := by cases o; exact n_draw_theirs; exact n_draw_ours
theorem mulL {s : StepOk q W M B Mq} {g : Rat} {bs : List (Rat × Nat)} (hp : plOk W.length (.dr g bs)) {b : Rat × Nat} (hb : b ∈ bs) : Okq b.1 ∧ Okq (wAt W b.2) ∧ (b.1 * wAt W b.2).den < 2 ^ 2600 := by
  obtain ⟨h1, h2⟩ := hp.2.2.2 b hb
  have hw := s.hW _ (wAt_mem h2).1
  have hpLM : 0 < LL * M := Nat.mul_pos pos_LL s.hM
  have zB : Sz (LL * M) B := s.z1.le (by omega)
  have zone : Sz LL 1 := ((s.z.dvd (Nat.dvd_mul_left_of_dvd (Nat.dvd_mul_right _ _) Mq) (Nat.mul_pos s.hq.1 hpLM)).le (by omega))
  refine ⟨h1.sz zone, hw.sz s.z0, ?_⟩
  have := h1.mul hw
  rw [Nat.one_mul] at this
  exact (this.sz zB).2
end
end Lw

namespace Lw
open PySem PySem.Spec PyProof.Rows L2 Dn
def tgsF : Pl → List Nat
  | .dr _ bs => bs.map (·.2)
  | .ch _ _ ts => ts
def kindS : Pl → Str
  | .dr _ _ => Str.ofString "draw"
  | .ch _ o _ => sideS o
def brsD : Pl → D
  | .dr _ bs => .lst (bs.map brD)
  | .ch _ _ ts => .lst (ts.map fun t => .int (t : Nat))
theorem plD_eq (p : Pl) : plD p = .tup [nD (gainF p), .str (kindS p), brsD p] := by cases p <;> rfl
theorem sp_targets {Mg Bg : Nat} {ps : List Pl} {m i : Nat} {p : Pl} (h : ps[i]? = some p) (hp : plOkG Mg Bg m p) : w_targets [.fz (.lst (ps.map plD)), .fz (.int i)] = .ok (.ow ((tgsF p).map fun t => .fz (.int (t : Nat)))) [] := by
  have hat : atI (ps.map plD) (i : Int) = some (plD p) := by rw [atI_natCast, List.getElem?_map, h]; rfl
  cases p with
  | dr g bs =>
    have l1 : lcL [5, 6] (Tg.put (.tup [(.nm 5), (.nm 6)])) bYes (eVar 6) (bs.map brD) [] [.fz (.lst (ps.map plD)), .fz (.int i), nC g, .fz (.str (Str.ofString "draw")), .fz (.lst (bs.map brD)), .no, .no] = .ok (bs.map fun b => .fz (.int (b.2 : Nat))) [.fz (.lst (ps.map plD)), .fz (.int i), nC g, .fz (.str (Str.ofString "draw")), .fz (.lst (bs.map brD)), .no, .no] := by
      refine lcL_getO _ brD _ bs (by have := hp.2.2.1; omega) fun b hb => ?_
      simp [brD]
    simp -implicitDefEqProofs [w_targets, runDef, noEr, m_targets, hat, plD, l1, tgsF, Function.comp_def]
  | ch g o ts =>
    simp -implicitDefEqProofs [w_targets, runDef, noEr, m_targets, hat, plD, tgsF, n_draw, Function.comp_def]
section
variable {m M B Mq : Nat} {q : Rat} {W : List Rat}
theorem tgs_ok {Mg Bg : Nat} {p : Pl} (hp : plOkG Mg Bg m p) : (tgsF p).length ≤ 6 ∧ ∀ t ∈ tgsF p, t < m := by
  cases p with
  | dr g bs =>
    refine ⟨by simpa [tgsF] using hp.2.2.1, fun t ht => ?_⟩
    obtain ⟨b, hb, rfl⟩ := List.mem_map.mp ht
    exact (hp.2.2.2 b hb).2
  | ch g o ts => exact ⟨hp.2.2.1, hp.2.2.2⟩
/-- a step of all -/
def stepAll (q : Rat) (W : List Rat) (ps : List Pl) : List Rat := ps.map (stepF q W)
end
end Lw

namespace Lw
open PySem PySem.Spec PyProof.Rows L2 Dn
theorem boolsOf_true {α : Type} : ∀ l : List α, boolsOf (l.map fun _ => D.bl true) = some (l.map fun _ => true)
  | [] => rfl
  | n :: l => by simp [boolsOf, boolsOf_true l]
/-- the worths after so many steps -/
def wts0 (q : Rat) (ps : List Pl) : Nat → List Rat
  | 0 => ps.map fun _ => 0
  | t + 1 => stepAll q (wts0 q ps t) ps
theorem wts0_len (q : Rat) (ps : List Pl) : ∀ t, (wts0 q ps t).length = ps.length
  | 0 => by simp [wts0]
  | t + 1 => by simp [wts0, stepAll]
def Bt : Nat → Nat
  | 0 => 0
  | t + 1 => 9 + 6 * Bt t
def Mt (Mq : Nat) : Nat → Nat
  | 0 => 1
  | t + 1 => Mq * (LL * Mt Mq t)
theorem Mt_pos {Mq : Nat} (h : 0 < Mq) : ∀ t, 0 < Mt Mq t
  | 0 => by simp [Mt]
  | t + 1 => Nat.mul_pos h (Nat.mul_pos pos_LL (Mt_pos h t))
theorem wts0_in {q : Rat} {Mq : Nat} (hq : Inn Mq 1 q) {ps : List Pl} (hp : ∀ p ∈ ps, plOk ps.length p) : ∀ t, ∀ w ∈ wts0 q ps t, Inn (Mt Mq t) (Bt t) w
  | 0 => by
    intro w hw
    obtain ⟨_, _, rfl⟩ := List.mem_map.mp hw
    exact Inn.zero (by simp [Mt])
  | t + 1 => by
    intro w hw
    obtain ⟨p, hm, rfl⟩ := List.mem_map.mp hw
    exact (step_in (wts0_in hq hp t) (Mt_pos hq.1 t) hq (by rw [wts0_len]; exact hp p hm)).2
theorem Mt_le {Mq : Nat} (h : Mq ≤ 1000001) : ∀ t, Mt Mq t ≤ (1000001 * LL) ^ t
  | 0 => by simp [Mt]
  | t + 1 => by
    have := Mt_le h t
    rw [Nat.pow_succ, Nat.mul_comm]
    simp only [Mt]
    rw [← Nat.mul_assoc]
    exact Nat.mul_le_mul (Nat.mul_le_mul_right _ h) this
theorem Mt_mono {Mq : Nat} (h : 0 < Mq) : ∀ {s t : Nat}, s ≤ t → Mt Mq s ≤ Mt Mq t := by
  intro s t hst
  induction hst with
  | refl => exact Nat.le_refl _
  | step _ ih =>
    refine Nat.le_trans ih ?_
    simp only [Mt]
    rw [← Nat.mul_assoc]
    exact Nat.le_mul_of_pos_left _ (Nat.mul_pos h pos_LL)
theorem Bt_mono : ∀ {s t : Nat}, s ≤ t → Bt s ≤ Bt t := by
  intro s t hst
  induction hst with
  | refl => exact Nat.le_refl _
  | step _ ih => simp only [Bt]; omega
theorem big40 : Bt 40 * (1000001 * LL) ^ 40 < 2 ^ 2600 := by decide +kernel
theorem big40' : (1000001 * LL) ^ 40 < 2 ^ 2600 := by decide +kernel
theorem sz_t {Mq : Nat} (h0 : 0 < Mq) (h : Mq ≤ 1000001) {t : Nat} (ht : t ≤ 40) : Sz (Mt Mq t) (Bt t) := by
  have h1 := Mt_mono h0 ht
  have h2 := Mt_le h 40
  have h3 := Bt_mono ht
  exact ⟨Nat.lt_of_le_of_lt (Nat.le_trans h1 h2) big40', Nat.lt_of_le_of_lt (Nat.mul_le_mul h3 (Nat.le_trans h1 h2)) big40⟩
theorem stepOk_t {q : Rat} {Mq : Nat} (hq : Inn Mq 1 q) (h : Mq ≤ 1000001) {ps : List Pl} (hp : ∀ p ∈ ps, plOk ps.length p) {t : Nat} (ht : t < 40) : StepOk q (wts0 q ps t) (Mt Mq t) (Bt t) Mq :=
  ⟨wts0_in hq hp t, Mt_pos hq.1 t, hq, sz_t hq.1 h (t := t + 1) (by omega)⟩
/-! ### what may be shown -/
theorem shw_side (o : Bool) : Shw 0 64 (.str (sideS o)) := by cases o <;> exact .str (by decide +kernel) (by decide +kernel)
theorem shw_pl {Mg Bg m : Nat} (hm : m ≤ 1000) {p : Pl} (hp : plOkG Mg Bg m p) (hM : Mg ≤ 1000000 := by decide) (hB : Bg * Mg ≤ 100000000 := by decide) : Shw 4 5000 (plD p) := by
  have e : (10 : Nat) ^ 19 = 10000000000000000000 := by decide
  have eL : LL = 5354228880 := rfl
  have hg : Shw 1 130 (nD (gainF p)) := by
    have h : Inn Mg Bg (gainF p) := by cases p <;> exact hp.1
    have h1 := h.num
    have h2 := h.den
    exact .nD (by omega) (by omega)
  have hb : Shw 3 1590 (brsD p) := by
    cases p with
    | dr g bs =>
      have hb : ∀ d ∈ bs.map brD, Shw 2 262 d := by
        intro d m
        obtain ⟨b, hb, rfl⟩ := List.mem_map.mp m
        obtain ⟨h1, h2⟩ := hp.2.2.2 b hb
        have e1 := h1.num
        have e2 := h1.den
        have a1 : Shw 1 130 (nD b.1) := .nD (by omega) (by omega)
        have a2 : Shw 1 130 (.int (b.2 : Nat)) := (Shw.int (by simp; omega)).le (by decide) (by decide)
        refine Shw.tup (l := 2) (w := 130) (fun d m => ?_) (by simp)
        simp at m
        rcases m with rfl | rfl
        · exact a1
        · exact a2
      exact (Shw.lst hb (l := 6) (by simpa using hp.2.2.1)).le (by decide) (by decide)
    | ch g o ts =>
      have hb : ∀ d ∈ ts.map (fun t => D.int (t : Nat)), Shw 0 64 d := by
        intro d m
        obtain ⟨b, hb, rfl⟩ := List.mem_map.mp m
        have := hp.2.2.2 b hb
        exact Shw.int (by simp; omega)
      exact (Shw.lst hb (l := 6) (by simpa using hp.2.2.1)).le (by decide) (by decide)
  have hk : Shw 0 64 (.str (kindS p)) := by
    cases p with
    | dr g bs => exact (Shw.str (s := Str.ofString "draw") (by decide +kernel) (by decide +kernel) : Shw 0 64 (.str (Str.ofString "draw")))
    | ch g o ts => exact shw_side o
  rw [plD_eq]
  refine (Shw.tup (l := 3) (w := 1590) (n := 3) (fun d m => ?_) (by simp)).le (by decide) (by decide)
  simp only [List.mem_cons, List.not_mem_nil, or_false] at m
  rcases m with rfl | rfl | rfl
  · exact hg.le (by decide) (by decide)
  · exact hk.le (by decide) (by decide)
  · exact hb
theorem repr_game {Mg Bg m : Nat} (hm : m ≤ 1000) {ps : List Pl} (hl : ps.length ≤ 60) (hp : ∀ p ∈ ps, plOkG Mg Bg m p) (hM : Mg ≤ 1000000 := by decide) (hB : Bg * Mg ≤ 100000000 := by decide) : ∃ s, reprD (.lst (ps.map plD)) = some (.str s) := by
  refine reprD_lst (n := 5) (w := 60 * 5001) (Shw.lst (fun d m => ?_) (by simpa using hl))
  obtain ⟨p, h, rfl⟩ := List.mem_map.mp m
  exact shw_pl hm (hp p h) hM hB
end Lw

namespace Lw
open PySem PySem.Spec PyProof.Rows L2 Dn
/-! ### steps without a discount -/
theorem pickS_self (o : Bool) (q : Rat) : pickS o q q = q := by unfold pickS; split <;> rfl
theorem pick0_cons (o : Bool) (q : Rat) (qs : List Rat) : pick0 o (q :: qs) = pickF o q qs := by
  show pickF o (pickS o q q) qs = _
  rw [pickS_self]
theorem cutL_tail {α : Type} (a : α) (l : List α) : cutL (a :: l) (some 1) none = l := by
  unfold cutL
  rw [HT.sIx_none, show (some (1 : Int)) = some ((1 : Nat) : Int) from rfl, HT.sIx_nat]
  have : min 1 (a :: l).length = 1 := by simp
  rw [this]
  simp
section
variable {M B Mq : Nat} {q : Rat} {W : List Rat}
theorem unit_ok {ps : List Pl} {p : Pl} (s : StepOk 1 W M B 1) (hp : plOk W.length p) : Okq (gainF p) ∧ Okq (restF W p) ∧ Okq (gainF p + restF W p) ∧ gainF p + restF W p = stepF 1 W p := by
  obtain ⟨t1, t2⟩ := step_in s.hW s.hM s.hq hp
  have hgain : Okq (gainF p) := (gain_ok hp).sz ((s.z.dvd (Nat.dvd_mul_left_of_dvd (Nat.dvd_mul_right_of_dvd (by decide) M) 1) (Nat.mul_pos s.hq.1 (Nat.mul_pos pos_LL s.hM))).le (by omega))
  have e : gainF p + restF W p = stepF 1 W p := by unfold stepF; rw [Rat.one_mul]
  exact ⟨hgain, (rest_in s.hW s.hM hp).sz s.z1, e ▸ t2.sz s.z, e⟩
end
/-- after so many steps from S -/
def wU (S : List Rat) (ps : List Pl) : Nat → List Rat
  | 0 => S
  | t + 1 => stepAll 1 (wU S ps t) ps
def BU (B0 : Nat) : Nat → Nat
  | 0 => B0
  | t + 1 => 9 + 6 * BU B0 t
def MU (M0 : Nat) : Nat → Nat
  | 0 => M0
  | t + 1 => 1 * (LL * MU M0 t)
/-- a row to begin with -/
structure StartOk (S : List Rat) (ps : List Pl) (M0 B0 : Nat) : Prop where
  len : S.length = ps.length
  small : ps.length ≤ 1000
  hS : ∀ w ∈ S, Inn M0 B0 w
  hM : 0 < M0
  hp : ∀ p ∈ ps, plOk ps.length p
  z : ∀ t, t ≤ 31 → Sz (MU M0 t) (BU B0 t)
section
variable {S : List Rat} {ps : List Pl} {M0 B0 : Nat}
theorem StartOk.lenU (s : StartOk S ps M0 B0) : ∀ t, (wU S ps t).length = ps.length
  | 0 => s.len
  | t + 1 => by simp [wU, stepAll]
theorem StartOk.posU (s : StartOk S ps M0 B0) : ∀ t, 0 < MU M0 t
  | 0 => s.hM
  | t + 1 => by simp only [MU]; exact Nat.mul_pos (by decide) (Nat.mul_pos pos_LL (s.posU t))
theorem StartOk.inU (s : StartOk S ps M0 B0) : ∀ t, ∀ w ∈ wU S ps t, Inn (MU M0 t) (BU B0 t) w
  | 0 => s.hS
  | t + 1 => by
    intro w hw
    obtain ⟨p, hm, rfl⟩ := List.mem_map.mp hw
    exact (step_in (s.inU t) (s.posU t) ⟨by decide, 1, by rfl, by decide⟩ (by rw [s.lenU]; exact s.hp p hm)).2
theorem StartOk.stp (s : StartOk S ps M0 B0) {t : Nat} (ht : t ≤ 30) : StepOk 1 (wU S ps t) (MU M0 t) (BU B0 t) 1 := ⟨s.inU t, s.posU t, ⟨by decide, 1, by rfl, by decide⟩, s.z (t + 1) (by omega)⟩
theorem StartOk.okU (s : StartOk S ps M0 B0) {t : Nat} (ht : t ≤ 31) : ∀ w ∈ wU S ps t, Okq w := fun w m => (s.inU t w m).sz (s.z t ht)
end
end Lw

namespace Lw
open PySem PySem.Spec PyProof.Rows L2 Dn
theorem run_ok {N n : Nat} {m : SM} {cs : List C} {c : C} (h : m (cs ++ List.replicate (N - n) .no) = .rt c) : noEr (runDef N n m) cs = .ok c [] := by
  unfold noEr runDef; rw [h]
theorem run_ok0 {N n : Nat} {m : SM} {cs : List C} {c : C} (h : m (cs ++ List.replicate (N - n) .no) = .rt c) : runDef N n m cs = .ok c [] := by
  unfold runDef; rw [h]
section
variable {S : List Rat} {ps : List Pl} {M0 B0 : Nat}
theorem wU_succ (a i : Nat) : wU S ps (a + (i + 1)) = stepAll 1 (wU S ps (a + i)) ps := rfl
def WfI (S : List Rat) (ps : List Pl) (a t : Nat) (i : Nat) (ρ : Rho) : Prop := ∃ c4 : C, ρ = [.fz (.lst (ps.map plD)), .fz (.lst ((wU S ps a).map nD)), .fz (.int t), .ow ((wU S ps (a + i)).map nC), c4]
theorem r62_nat {t : Nat} (h : t ≤ 100000) : r62 (t : Int) = true := by rw [r62_eq]; simp; omega
end
end Lw

namespace Lw
open PySem PySem.Spec PyProof.Rows L2 Dn
theorem bu_le (B0 : Nat) (h : B0 ≤ 100000) : ∀ t, BU B0 t + 2 ≤ 100002 * 6 ^ t
  | 0 => by simp [BU]; omega
  | t + 1 => by
    have := bu_le B0 h t
    rw [Nat.pow_succ, ← Nat.mul_assoc]
    simp only [BU]
    have h6 : 1 ≤ 6 ^ t := Nat.pos_of_ne_zero (by simp)
    omega
theorem mu_eq (M0 : Nat) : ∀ t, MU M0 t = LL ^ t * M0
  | 0 => by simp [MU]
  | t + 1 => by simp only [MU]; rw [mu_eq M0 t, Nat.pow_succ]; ac_rfl
theorem big31 : (100002 * 6 ^ 31) * (LL ^ 31 * 100000) < 2 ^ 2600 := by decide +kernel
theorem szU {M0 B0 : Nat} (hM : M0 ≤ 100000) (h0 : 0 < M0) (hB : B0 ≤ 100000) {t : Nat} (ht : t ≤ 31) : Sz (MU M0 t) (BU B0 t) := by
  have h1 : MU M0 t ≤ LL ^ 31 * 100000 := by rw [mu_eq]; exact Nat.mul_le_mul (Nat.pow_le_pow_right pos_LL ht) hM
  have h2 : BU B0 t ≤ 100002 * 6 ^ 31 := by
    have := bu_le B0 hB t
    have : 100002 * 6 ^ t ≤ 100002 * 6 ^ 31 := Nat.mul_le_mul_left _ (Nat.pow_le_pow_right (by decide) ht)
    omega
  refine ⟨Nat.lt_of_le_of_lt h1 (Nat.lt_of_le_of_lt (Nat.le_mul_of_pos_left _ (by decide +kernel)) big31), Nat.lt_of_le_of_lt (Nat.mul_le_mul h2 h1) big31⟩
theorem lay_wts (W : List Rat) : Lay 2 (.lst (W.map nD)) := .lst fun d m => by
  obtain ⟨q, _, rfl⟩ := List.mem_map.mp m
  exact .nD q
theorem lcL_filt {vs : List Nat} {put : C → Rho → Option Rho} {t : M Bool} {el : M C} (ρ0 : Rho) (P : Nat → Bool) (F : Nat → C) : ∀ (L : List Nat) (acc : List C), acc.length + L.length ≤ 1000000 →
    (∀ a ∈ L, ∃ ρ1 ρ2, put (.fz (.int (a : Nat))) ρ0 = some ρ1 ∧ t ρ1 = .ok (P a) ρ2 ∧ wipeR ρ2 vs = ρ0 ∧ ∃ ρ3, el ρ2 = .ok (F a) ρ3 ∧ wipeR ρ3 vs = ρ0) → lcL vs put t el (L.map fun a => .int (a : Nat)) acc ρ0 = .ok (acc ++ (L.filter P).map F) ρ0
  | [], acc, _, _ => by simp [lcL]
  | a :: L, acc, hl, h => by
    obtain ⟨ρ1, ρ2, h1, h2, h3, ρ3, h4, h5⟩ := h a List.mem_cons_self
    simp only [List.length_cons] at hl
    rw [List.map_cons]
    unfold lcL
    simp only [h1, h2]
    cases hP : P a with
    | true =>
      simp only [h4]
      rw [if_pos (by simp; omega), h5, lcL_filt ρ0 P F L (acc ++ [F a]) (by simp; omega) fun x m => h x (List.mem_cons_of_mem _ m)]
      simp [List.filter_cons, hP]
    | false =>
      simp only
      rw [h3, lcL_filt ρ0 P F L acc (by omega) fun x m => h x (List.mem_cons_of_mem _ m)]
      simp [List.filter_cons, hP]
theorem eqD_nil (L : List Nat) : eqD (.lst (L.map fun k => .int (k : Nat))) (.lst []) = some (.bl (decide (L = []))) := by
  cases L with
  | nil => exact eqD_self (n := 1) (.lst nofun)
  | cons a L =>
    obtain ⟨ps, h1, h2, h3⟩ := Lay.all (n := 0) (ds := L.map fun k => D.int (k : Nat)) fun d m => by
      obtain ⟨k, _, rfl⟩ := List.mem_map.mp m
      exact .int _
    have e1 : toPy (.lst ((a :: L).map fun k => .int (k : Nat))) = some (.list (.int a :: ps)) := by simp [toPy, toPys, h1]
    have e2 : toPy (.lst []) = some (.list []) := by simp [toPy, toPys]
    have s1 : SeqAt.shaped (.list (.int a :: ps)) = true := by unfold SeqAt.shaped; simp [PyData.canLay0, PyData.canLayAll0, h2, PyData.depth, PyData.depthAll]; omega
    have s2 : SeqAt.shaped (.list []) = true := by unfold SeqAt.shaped; simp [PyData.canLay0, PyData.canLayAll0, PyData.depth, PyData.depthAll]
    simp only [List.map_cons] at e1 ⊢
    simp [eqD, eqP, eqS, eqQ, e1, e2, s1, s2, PyData.eqv, PyData.eqvAll]
end Lw

namespace Lw
open PySem PySem.Spec PyProof.Rows L2 Dn
/-! for k50: the same as at the head of M_k52 (do not use both) -/
def S0 (ps : List Pl) : List Rat := ps.map fun _ => 0
theorem start0 {ps : List Pl} (hl : ps.length ≤ 1000) (pok : ∀ p ∈ ps, plOk ps.length p) : StartOk (S0 ps) ps 1 0 :=
  ⟨by simp [S0], hl, fun w hw => by obtain ⟨_, _, rfl⟩ := List.mem_map.mp hw; exact Inn.zero (by decide), by decide, pok, fun t ht => szU (by decide) (by decide) (by decide) ht⟩
end Lw

namespace Lw
open PySem PySem.Spec PyProof.Rows L2 Dn
/-! ### best moves -/
theorem enumD_range {α : Type} (f : α → D) (qs : List α) (z : α) : enumD (qs.map f) = (List.range qs.length).map fun k => .tup [.int (k : Nat), f (qs.getD k z)] := by
  apply List.ext_getElem?
  intro i
  unfold enumD
  simp only [List.getElem?_map, List.getElem?_zipIdx]
  by_cases h : i < qs.length
  · rw [List.getElem?_range h, List.getElem?_eq_getElem h]
    simp [List.getD_eq_getElem?_getD, h]
  · rw [List.getElem?_eq_none (by omega), List.getElem?_eq_none (by simpa using Nat.le_of_not_lt h)]
    rfl
theorem btr_trans {o : Bool} {a b c : Rat} (h1 : btr o a b = false) (h2 : btr o b c = false) : btr o a c = false := by
  cases o <;> simp [btr] at * <;> grind
theorem pickF_best (o : Bool) : ∀ (qs : List Rat) (a : Rat), btr o (pickF o a qs) a = false ∧ ∀ x ∈ qs, btr o (pickF o a qs) x = false
  | [], a => ⟨by cases o <;> simp [btr, pickF], by simp⟩
  | q :: qs, a => by
    have e : pickF o a (q :: qs) = pickF o (pickS o a q) qs := rfl
    obtain ⟨h1, h2⟩ := pickF_best o qs (pickS o a q)
    rw [e]
    have k1 : btr o (pickS o a q) a = false := by
      unfold pickS; split
      · rename_i h; cases o <;> simp [btr] at * <;> grind
      · cases o <;> simp [btr]
    have k2 : btr o (pickS o a q) q = false := by
      unfold pickS; split
      · cases o <;> simp [btr]
      · rename_i h; simpa using h
    refine ⟨btr_trans h1 k1, fun x m => ?_⟩
    rcases List.mem_cons.mp m with rfl | m
    · exact btr_trans h1 k2
    · exact h2 x m
theorem pick0_best {o : Bool} {qs : List Rat} {x : Rat} (hx : x ∈ qs) : btr o (pick0 o qs) x = false := by
  cases qs with
  | nil => cases hx
  | cons q qs => exact (pickF_best o (q :: qs) q).2 x hx
theorem pick0_mem {o : Bool} {qs : List Rat} (h : qs ≠ []) : pick0 o qs ∈ qs := by
  cases qs with
  | nil => exact absurd rfl h
  | cons q qs =>
    rcases pickF_mem o (q :: qs) q with h | h
    · show pickF o q (q :: qs) ∈ _
      rw [h]; exact List.mem_cons_self
    · exact h
/-- what is best has none better, and the other way round -/
theorem best_iff {o : Bool} {qs : List Rat} {a : Rat} (ha : a ∈ qs) : (a = pick0 o qs) ↔ qs.filter (fun x => !decide (x = a) && decide (decide (a < x) = o)) = [] := by
  have hne : qs ≠ [] := by rintro rfl; cases ha
  have e : ∀ x, (!decide (x = a) && decide (decide (a < x) = o)) = btr o a x := by
    intro x
    cases o
    · by_cases h : x = a
      · subst h; simp [btr]
      · by_cases h2 : a < x
        · have : ¬ x < a := by grind
          simp [btr, h, h2, this]
        · have : x < a := by grind
          simp [btr, h, h2, this]
    · by_cases h : x = a
      · subst h; simp [btr]
      · simp [btr, h]
  simp only [e]
  constructor
  · intro h
    rw [List.filter_eq_nil_iff]
    intro x hx
    rw [h, pick0_best hx]; simp
  · intro h
    rw [List.filter_eq_nil_iff] at h
    have h1 := h _ (pick0_mem (o := o) hne)
    have h2 := pick0_best (o := o) ha
    generalize pick0 o qs = b at *
    cases o <;> simp [btr] at * <;> grind
def bestL (o : Bool) (qs : List Rat) : List Nat := (List.range qs.length).filter fun k => decide (qs.getD k 0 = pick0 o qs)
def bestF (W : List Rat) : Pl → List Nat
  | .dr _ _ => []
  | .ch _ o ts => bestL o (chL W ts)
end Lw

namespace Lw
open PySem PySem.Spec PyProof.Rows L2 Dn
/-! ### how a step's worth hangs on the row -/
theorem pick0_uniq {o : Bool} {qs : List Rat} {v : Rat} (hm : v ∈ qs) (hb : ∀ x ∈ qs, btr o v x = false) : pick0 o qs = v := by
  have hne : qs ≠ [] := by rintro rfl; cases hm
  have h1 := hb _ (pick0_mem (o := o) hne)
  have h2 := pick0_best (o := o) hm
  generalize pick0 o qs = b at *
  cases o <;> simp [btr] at * <;> grind
theorem pick0_mono {o : Bool} {α : Type} {f g : α → Rat} {l : List α} (h : ∀ a ∈ l, f a ≤ g a) : pick0 o (l.map f) ≤ pick0 o (l.map g) := by
  by_cases hl : l = []
  · subst hl; simp [pick0]
  have hf := pick0_mem (o := o) (qs := l.map f) (by simpa using hl)
  have hg := pick0_mem (o := o) (qs := l.map g) (by simpa using hl)
  obtain ⟨a, ha, ea⟩ := List.mem_map.mp hf
  obtain ⟨b, hb, eb⟩ := List.mem_map.mp hg
  have h1 := pick0_best (o := o) (qs := l.map f) (List.mem_map_of_mem (f := f) hb)
  have h2 := pick0_best (o := o) (qs := l.map g) (List.mem_map_of_mem (f := g) ha)
  have k1 := h a ha
  have k2 := h b hb
  generalize pick0 o (l.map f) = x at *
  generalize pick0 o (l.map g) = y at *
  cases o <;> simp [btr] at * <;> grind
theorem pick0_add {o : Bool} {α : Type} {f : α → Rat} {l : List α} (hl : l ≠ []) (c : Rat) : pick0 o (l.map fun a => f a + c) = pick0 o (l.map f) + c := by
  have hf := pick0_mem (o := o) (qs := l.map f) (by simpa using hl)
  obtain ⟨a, ha, ea⟩ := List.mem_map.mp hf
  refine pick0_uniq (by rw [← ea]; exact List.mem_map_of_mem (f := fun a => f a + c) ha) fun x hx => ?_
  obtain ⟨b, hb, rfl⟩ := List.mem_map.mp hx
  have h1 := pick0_best (o := o) (qs := l.map f) (List.mem_map_of_mem (f := f) hb)
  generalize pick0 o (l.map f) = x at *
  cases o <;> simp [btr] at * <;> grind
theorem pick0_neg {o : Bool} {α : Type} {f : α → Rat} {l : List α} (hl : l ≠ []) : pick0 (!o) (l.map fun a => - f a) = - pick0 o (l.map f) := by
  have hf := pick0_mem (o := o) (qs := l.map f) (by simpa using hl)
  obtain ⟨a, ha, ea⟩ := List.mem_map.mp hf
  refine pick0_uniq (by rw [← ea]; exact List.mem_map_of_mem (f := fun a => - f a) ha) fun x hx => ?_
  obtain ⟨b, hb, rfl⟩ := List.mem_map.mp hx
  have h1 := pick0_best (o := o) (qs := l.map f) (List.mem_map_of_mem (f := f) hb)
  generalize pick0 o (l.map f) = x at *
  cases o <;> simp [btr] at * <;> grind
theorem sumF_mono {α : Type} {f g : α → Rat} : ∀ (l : List α) (a b : Rat), a ≤ b → (∀ x ∈ l, f x ≤ g x) → sumF a (l.map f) ≤ sumF b (l.map g)
  | [], a, b, h, _ => h
  | x :: l, a, b, h, hl => by
    have h1 := hl x List.mem_cons_self
    exact sumF_mono l (a + f x) (b + g x) (by grind) fun y m => hl y (List.mem_cons_of_mem _ m)
theorem sumF_add {α : Type} {f g : α → Rat} : ∀ (l : List α) (a b : Rat), sumF (a + b) (l.map fun x => f x + g x) = sumF a (l.map f) + sumF b (l.map g)
  | [], a, b => rfl
  | x :: l, a, b => by
    have h := sumF_add (f := f) (g := g) l (a + f x) (b + g x)
    show sumF (a + b + (f x + g x)) _ = sumF (a + f x) _ + sumF (b + g x) _
    rw [← h]
    congr 1
    grind
theorem sumF_mulr {α : Type} {f : α → Rat} (c : Rat) : ∀ (l : List α) (a : Rat), sumF (a * c) (l.map fun x => f x * c) = sumF a (l.map f) * c
  | [], a => rfl
  | x :: l, a => by
    have h := sumF_mulr (f := f) c l (a + f x)
    show sumF (a * c + f x * c) _ = sumF (a + f x) _ * c
    rw [← h]
    congr 1
    grind
theorem sumF_neg {α : Type} {f : α → Rat} : ∀ (l : List α) (a : Rat), sumF (- a) (l.map fun x => - f x) = - sumF a (l.map f)
  | [], a => rfl
  | x :: l, a => by
    have h := sumF_neg (f := f) l (a + f x)
    show sumF (- a + - f x) _ = - sumF (a + f x) _
    rw [← h]
    congr 1
    grind
theorem rest_mono {W W' : List Rat} {m : Nat} (h : ∀ t, t < m → wAt W t ≤ wAt W' t) {p : Pl} (hp : plOk m p) (hf : plFair p) : restF W p ≤ restF W' p := by
  cases p with
  | dr g bs =>
    refine sumF_mono bs 0 0 Rat.le_refl fun b hb => ?_
    exact Rat.mul_le_mul_of_nonneg_left (h _ (hp.2.2.2 b hb).2) (Rat.le_of_lt (hf.1 b hb))
  | ch g o ts => exact pick0_mono fun t ht => h t (hp.2.2.2 t ht)
theorem rest_add {W W' : List Rat} {m : Nat} {c : Rat} (h : ∀ t, t < m → wAt W' t = wAt W t + c) {p : Pl} (hp : plOk m p) (hf : plFair p) : restF W' p = restF W p + c := by
  cases p with
  | dr g bs =>
    show sumF 0 (bs.map fun b => b.1 * wAt W' b.2) = sumF 0 (bs.map fun b => b.1 * wAt W b.2) + c
    have e1 : (bs.map fun b => b.1 * wAt W' b.2) = bs.map fun b => b.1 * wAt W b.2 + b.1 * c := by
      refine List.map_congr_left fun b hb => ?_
      rw [h _ (hp.2.2.2 b hb).2]; grind
    have e2 : sumF 0 (bs.map (·.1)) = 1 := hf.2
    have e3 := sumF_add (f := fun b : Rat × Nat => b.1 * wAt W b.2) (g := fun b => b.1 * c) bs 0 0
    have e4 := sumF_mulr (f := fun b : Rat × Nat => b.1) c bs 0
    rw [Rat.zero_mul] at e4
    rw [Rat.add_zero] at e3
    rw [e1, e3, e4, e2, Rat.one_mul]
  | ch g o ts =>
    show pick0 o (ts.map (wAt W')) = pick0 o (ts.map (wAt W)) + c
    rw [← pick0_add hp.2.1]
    congr 1
    exact List.map_congr_left fun t ht => h t (hp.2.2.2 t ht)
def turnP : Pl → Pl
  | .dr g bs => .dr (-g) bs
  | .ch g o ts => .ch (-g) (!o) ts
theorem rest_neg {W W' : List Rat} {m : Nat} (h : ∀ t, t < m → wAt W' t = - wAt W t) {p : Pl} (hp : plOk m p) : restF W' (turnP p) = - restF W p := by
  cases p with
  | dr g bs =>
    show sumF 0 (bs.map fun b => b.1 * wAt W' b.2) = - sumF 0 (bs.map fun b => b.1 * wAt W b.2)
    have e1 : (bs.map fun b => b.1 * wAt W' b.2) = bs.map fun b => - (b.1 * wAt W b.2) := by
      refine List.map_congr_left fun b hb => ?_
      rw [h _ (hp.2.2.2 b hb).2]; grind
    have e2 := sumF_neg (f := fun b : Rat × Nat => b.1 * wAt W b.2) bs 0
    rw [Rat.neg_zero] at e2
    rw [e1, e2]
  | ch g o ts =>
    show pick0 (!o) (ts.map (wAt W')) = - pick0 o (ts.map (wAt W))
    rw [← pick0_neg hp.2.1]
    congr 1
    exact List.map_congr_left fun t ht => h t (hp.2.2.2 t ht)
theorem gain_turn (p : Pl) : gainF (turnP p) = - gainF p := by cases p <;> rfl
section
variable {S S' : List Rat} {ps : List Pl}
theorem wAt_step {W : List Rat} {i : Nat} (hi : i < ps.length) : wAt (stepAll 1 W ps) i = gainF ps[i] + restF W ps[i] := by
  unfold wAt stepAll stepF
  simp [List.getD_eq_getElem?_getD, hi, Rat.one_mul]
theorem wU_mono (hp : ∀ p ∈ ps, plOk ps.length p ∧ plFair p) (h : ∀ t, t < ps.length → wAt S t ≤ wAt S' t) : ∀ n i, i < ps.length → wAt (wU S ps n) i ≤ wAt (wU S' ps n) i
  | 0, i, hi => h i hi
  | n + 1, i, hi => by
    obtain ⟨h1, h2⟩ := hp _ (List.getElem_mem hi)
    have := rest_mono (wU_mono hp h n) h1 h2
    simp only [wU]
    rw [wAt_step hi, wAt_step hi]; grind
theorem wU_add {c : Rat} (hp : ∀ p ∈ ps, plOk ps.length p ∧ plFair p) (h : ∀ t, t < ps.length → wAt S' t = wAt S t + c) : ∀ n i, i < ps.length → wAt (wU S' ps n) i = wAt (wU S ps n) i + c
  | 0, i, hi => h i hi
  | n + 1, i, hi => by
    obtain ⟨h1, h2⟩ := hp _ (List.getElem_mem hi)
    have := rest_add (wU_add hp h n) h1 h2
    simp only [wU]
    rw [wAt_step hi, wAt_step hi]; grind
theorem wU_neg (hp : ∀ p ∈ ps, plOk ps.length p) (h : ∀ t, t < ps.length → wAt S' t = - wAt S t) : ∀ n i, i < ps.length → wAt (wU S' (ps.map turnP) n) i = - wAt (wU S ps n) i
  | 0, i, hi => h i hi
  | n + 1, i, hi => by
    have h1 := hp _ (List.getElem_mem hi)
    have := rest_neg (wU_neg hp h n) h1
    simp only [wU]
    rw [wAt_step (by simpa using hi), wAt_step hi, List.getElem_map, this, gain_turn]; grind
/-- never farther than at the start -/
theorem wU_far {c : Rat} (hp : ∀ p ∈ ps, plOk ps.length p ∧ plFair p) (hl : S.length = ps.length) (h : ∀ t, t < ps.length → wAt S t ≤ wAt S' t + c) : ∀ n i, i < ps.length → wAt (wU S ps n) i ≤ wAt (wU S' ps n) i + c := by
  intro n i hi
  have e : ∀ t, t < ps.length → wAt ((List.range ps.length).map fun t => wAt S' t + c) t = wAt S' t + c := fun t ht => by
    show (List.map (fun t => wAt S' t + c) (List.range ps.length)).getD t 0 = _
    rw [List.getD_eq_getElem?_getD, List.getElem?_map, List.getElem?_range ht]; rfl
  have h1 := wU_mono (S := S) (S' := (List.range ps.length).map fun t => wAt S' t + c) hp (fun t ht => by rw [e t ht]; exact h t ht) n i hi
  rw [wU_add (S := S') hp e n i hi] at h1
  exact h1
end
end Lw

namespace Lw
open PySem PySem.Spec PyProof.Rows L2 Dn
theorem sub_divInt (a b : Rat) : Rat.divInt (a.num * b.den - b.num * a.den) (a.den * b.den) = a - b := by
  rw [← Rat.divInt_sub_divInt _ _ (by have := a.den_nz; omega) (by have := b.den_nz; omega), Rat.num_divInt_den, Rat.num_divInt_den]
theorem sp_minus {a b : Rat} (h1 : Okq a) (h2 : Okq b) (h3 : (a - b).den < 2 ^ 2600) : w_minus [nC a, nC b] = .ok (nC (a - b)) [] := by
  have w1 : wide a.num b.den = true := wide_ok h1.1 (by simpa using h2.2)
  have w2 : wide b.num a.den = true := wide_ok h2.1 (by simpa using h1.2)
  have w3 : wide a.den b.den = true := wide_ok (by simpa using h1.2) (by simpa using h2.2)
  have hn := sp_number (n := a.num * b.den - b.num * a.den) den_ne (den_mul h1 h2) (by rw [sub_divInt]; exact h3)
  rw [sub_divInt] at hn
  simp [w_minus, runDef, noEr, m_minus, w1, w2, w3, atI_ofNat, hn]
theorem nD_neg (q : Rat) : nD (-q) = .tup [.int (-q.num), .int q.den] := by simp [nD]
def abq (q : Rat) : Rat := if q < 0 then -q else q
theorem abq_den (q : Rat) : (abq q).den = q.den := by unfold abq; split <;> simp
theorem abq_num (q : Rat) : (abq q).num = (q.num.natAbs : Int) := by
  unfold abq
  split
  · rename_i h
    have : q.num < 0 := by rw [Rat.lt_iff] at h; simpa using h
    simp; omega
  · rename_i h
    have : 0 ≤ q.num := Rat.num_nonneg.mpr (by grind)
    omega
theorem nD_abq (q : Rat) : nD (abq q) = .tup [.int (q.num.natAbs : Nat), .int q.den] := by rw [nD, abq_den, abq_num]
theorem abq_ok {q : Rat} (h : Okq q) : Okq (abq q) := ⟨by rw [abq_num]; simpa using h.1, by rw [abq_den]; exact h.2⟩
theorem neg_ok {q : Rat} (h : Okq q) : Okq (-q) := ⟨by simpa using h.1, by simpa using h.2⟩
def farF (a : Rat) (l : List (Rat × Rat)) : Rat := l.foldl (fun a p => if a < abq (p.1 - p.2) then abq (p.1 - p.2) else a) a
theorem farF_le : ∀ (l : List (Rat × Rat)) (a : Rat), a ≤ farF a l ∧ ∀ p ∈ l, abq (p.1 - p.2) ≤ farF a l
  | [], a => ⟨Rat.le_refl, by simp⟩
  | p :: l, a => by
    obtain ⟨h1, h2⟩ := farF_le l (if a < abq (p.1 - p.2) then abq (p.1 - p.2) else a)
    have e : farF a (p :: l) = farF (if a < abq (p.1 - p.2) then abq (p.1 - p.2) else a) l := rfl
    rw [e]
    have k1 : a ≤ (if a < abq (p.1 - p.2) then abq (p.1 - p.2) else a) := by split <;> grind
    have k2 : abq (p.1 - p.2) ≤ (if a < abq (p.1 - p.2) then abq (p.1 - p.2) else a) := by split <;> grind
    refine ⟨by grind, fun q m => ?_⟩
    rcases List.mem_cons.mp m with rfl | m
    · grind
    · exact h2 q m
theorem farF_ge {c : Rat} : ∀ (l : List (Rat × Rat)) (a : Rat), a ≤ c → (∀ p ∈ l, abq (p.1 - p.2) ≤ c) → farF a l ≤ c
  | [], a, h, _ => h
  | p :: l, a, h, hl => farF_ge l (if a < abq (p.1 - p.2) then abq (p.1 - p.2) else a) (by have := hl p List.mem_cons_self; split <;> assumption) fun q m => hl q (List.mem_cons_of_mem _ m)
theorem zipD_map (A B : List Rat) : zipD (A.map nD) (B.map nD) = (A.zip B).map fun p => .tup [nD p.1, nD p.2] := by
  unfold zipD
  rw [List.zipWith_map, List.zip, List.map_zipWith]
theorem turn_ok {m : Nat} {p : Pl} (hp : plOk m p) : plOk m (turnP p) := by
  cases p with
  | dr g bs => exact ⟨hp.1.neg, hp.2⟩
  | ch g o ts => exact ⟨hp.1.neg, hp.2⟩
theorem BU_two (a : Nat) : ∀ t, 2 * BU a t + 2 ≤ BU (2 * a + 2) t
  | 0 => by simp [BU]
  | t + 1 => by have := BU_two a t; simp only [BU]; omega
end Lw

namespace Lw
open PySem PySem.Spec PyProof.Rows L2 Dn
/-! ### strategies (S21) -/
def optD : Option Nat → D
  | none => .non
  | some n => .int (n : Nat)
/-- what a strategy tells at a place -/
def okS (o : Bool) : Pl → Option Nat → Prop
  | .dr _ _, x => x = none
  | .ch _ o' ts, x => if o' = o then ∃ j, x = some j ∧ j < ts.length else x = none
def stratOk (o : Bool) (ps : List Pl) (st : List (Option Nat)) : Prop := st.length = ps.length ∧ ∀ (k : Nat) (p : Pl) (x : Option Nat), ps[k]? = some p → st[k]? = some x → okS o p x
theorem side_eq (a b : Bool) : (sideS a = sideS b) = (a = b) := by cases a <;> cases b <;> simp [sideS] <;> decide
theorem n_draw' (o : Bool) : (Str.ofString "draw" = sideS o) = False := by cases o <;> simp [sideS] <;> decide
end Lw
namespace Lw
open PySem PySem.Spec PyProof.Rows L2 Dn
/-! ### ways (S21) -/
def tgt (ps : List Pl) (i b : Nat) : Nat := match ps[i]? with
  | some p => (tgsF p).getD b 0
  | none => 0
/-- the places after the start -/
def goF (ps : List Pl) : Nat → List Nat → List Nat
  | _, [] => []
  | i, b :: bs => tgt ps i b :: goF ps (tgt ps i b) bs
def endF (ps : List Pl) : Nat → List Nat → Nat
  | i, [] => i
  | i, b :: bs => endF ps (tgt ps i b) bs
def WayOk (ps : List Pl) : Nat → List Nat → Prop
  | i, [] => i < ps.length
  | i, b :: bs => ∃ p, ps[i]? = some p ∧ b < (tgsF p).length ∧ WayOk ps (tgt ps i b) bs
theorem goF_len (ps : List Pl) : ∀ (bs : List Nat) (i : Nat), (goF ps i bs).length = bs.length
  | [], _ => rfl
  | b :: bs, i => by simp [goF, goF_len ps bs]
@[simp] theorem eChain_ap (f g : D → D → Option D) (a b c : M C) (ρ : Rho) : eChain f g a b c ρ = (a ρ).bind fun x ρ => (b ρ).bind fun y ρ => match f (fzD x) (fzD y) with
  | some (.bl true) => (c ρ).bind fun z ρ => match g (fzD y) (fzD z) with
    | some (.bl k) => .ok (.fz (.bl k)) ρ
    | _ => .st
  | some (.bl false) => .ok (.fz (.bl false)) ρ
  | _ => .st := rfl
def iC (n : Nat) : C := .fz (.int (n : Nat))
theorem goF_last (ps : List Pl) : ∀ (bs : List Nat) (i : Nat) (acc : List C), ∃ acc', acc ++ [iC i] ++ (goF ps i bs).map iC = acc' ++ [iC (endF ps i bs)]
  | [], i, acc => ⟨acc, by simp [goF, endF]⟩
  | b :: bs, i, acc => by
    obtain ⟨acc', e⟩ := goF_last ps bs (tgt ps i b) (acc ++ [iC i])
    exact ⟨acc', by rw [show endF ps i (b :: bs) = endF ps (tgt ps i b) bs from rfl, ← e]; simp [goF]⟩
theorem WayOk.end {ps : List Pl} : ∀ {bs : List Nat} {i : Nat}, WayOk ps i bs → endF ps i bs < ps.length
  | [], _, h => h
  | _ :: bs, _, ⟨_, _, _, h⟩ => WayOk.end (bs := bs) h
theorem WayOk.start {ps : List Pl} : ∀ {bs : List Nat} {i : Nat}, WayOk ps i bs → i < ps.length
  | [], _, h => h
  | _ :: _, _, ⟨_, h, _⟩ => (List.getElem?_eq_some_iff.mp h).1
theorem WayOk.take {ps : List Pl} : ∀ {bs : List Nat} {i : Nat} (n : Nat), WayOk ps i bs → WayOk ps i (bs.take n)
  | _, _, 0, h => h.start
  | [], _, _ + 1, h => h
  | _ :: bs, _, n + 1, ⟨p, h1, h2, h3⟩ => ⟨p, h1, h2, WayOk.take (bs := bs) n h3⟩
theorem tgt_eq {ps : List Pl} {i b : Nat} {p : Pl} (h : ps[i]? = some p) (hb : b < (tgsF p).length) : (tgsF p)[b]? = some (tgt ps i b) := by
  unfold tgt
  rw [h]
  simp [List.getD_eq_getElem?_getD, List.getElem?_eq_getElem hb]
def enumT (t : Nat) (ds : List D) : List D := (ds.zipIdx t).map fun p => .tup [.int (p.2 : Nat), p.1]
theorem enumT_cons (t : Nat) (d : D) (ds : List D) : enumT t (d :: ds) = .tup [.int (t : Nat), d] :: enumT (t + 1) ds := by simp [enumT]
section
variable {Mg Bg : Nat} {ps : List Pl}
end
end Lw

namespace Lw
open PySem PySem.Spec PyProof.Rows L2 Dn
/-! ### lists of names (SL) -/
def nI (n : Nat) : D := .int (n : Nat)
def cI (n : Nat) : C := .fz (.int (n : Nat))
theorem flat_nI : ∀ l : List Nat, flatDs (l.map nI) = some (l.map fun n => V.int (n : Nat))
  | [] => rfl
  | n :: l => by simp [nI, flatDs, flatD, flat_nI l]
theorem eqV_nI (a b : Nat) : eqV (V.int (a : Nat)) (V.int (b : Nat)) = decide (a = b) := by
  show ((a : Int) == (b : Int)) = _
  rw [Bool.eq_iff_iff]
  simp
  omega
theorem in_nI (x : Nat) (l : List Nat) : inP (.int (x : Nat)) (.lst (l.map nI)) = some (decide (x ∈ l)) := by
  have := flat_nI l
  unfold inP
  simp only [seqD, flatD, this, Option.bind_some, Option.map_some, inV, List.any_map, Function.comp_def, eqV_nI]
  congr 1
  rw [Bool.eq_iff_iff]
  simp
theorem idx_nI (x : Nat) (l : List Nat) : idxD (.lst (l.map nI)) (.int (x : Nat)) = (l.findIdx? fun z => decide (z = x)).map fun j => .int (j : Nat) := by
  have := flat_nI l
  unfold idxD
  simp only [flatD, this, Option.bind_some, List.findIdx?_map, Function.comp_def, eqV_nI]
theorem fz_cI (l : List Nat) : (l.map cI).map fzD = l.map nI := by rw [List.map_map]; rfl
theorem ints_nI (l : List Nat) : intsOf (l.map nI) = some (l.map fun n : Nat => (n : Int)) := by
  have := intsOf_map (l.map fun n : Nat => (n : Int))
  rw [List.map_map] at this
  exact this
theorem at_nI {l : List Nat} {j : Nat} (h : j < l.length) : atI (l.map nI) (j : Int) = some (.int (l[j] : Nat)) := by
  rw [atI_natCast, List.getElem?_map, List.getElem?_eq_getElem h]; rfl
theorem at_cI {l : List Nat} {j : Nat} (h : j < l.length) : atI (l.map cI) (j : Int) = some (.fz (.int (l[j] : Nat))) := by
  rw [atI_natCast, List.getElem?_map, List.getElem?_eq_getElem h]; rfl
theorem cutN {α : Type} (l : List α) {k : Nat} (h : k ≤ l.length) : cutL l none (some (k : Int)) = l.take k := by
  have := cutL_eq l 0 k h (by omega)
  rw [List.drop_zero, Nat.sub_zero] at this
  exact this
theorem cutT {α : Type} (l : List α) {k : Nat} (h : k ≤ l.length) : cutL l (some (k : Int)) none = l.drop k := by
  have e1 := cutL_eq l k l.length (by omega) h
  rw [List.take_of_length_le (by simp)] at e1
  rw [← e1]
  unfold cutL
  have u1 : HT.sIx l.length l.length none = HT.sIx l.length l.length (some (l.length : Int)) := by
    rw [HT.sIx_none, HT.sIx_nat]; simp
  rw [u1]
theorem cut1 {α : Type} (a : α) (l : List α) : cutL (a :: l) (some 1) none = l := by
  have := cutT (a :: l) (k := 1) (by simp)
  exact this
theorem cutM1 {α : Type} (l : List α) (a : α) : cutL (l ++ [a]) none (some (-1)) = l := by
  have e : HT.sIx (l ++ [a]).length (l ++ [a]).length (some (-1)) = l.length := by
    simp [HT.sIx]
    omega
  unfold cutL
  rw [e, HT.sIx_none]
  simp
theorem intsD_cons (k m : Nat) : intsD (k : Int) (m + 1) = .int (k : Int) :: intsD ((k + 1 : Nat) : Int) m := by
  unfold intsD
  rw [List.range_succ_eq_map, List.map_cons, List.map_map]
  have h0 : D.int ((k : Int) + ((0 : Nat) : Int)) = .int (k : Int) := by simp
  rw [h0]
  congr 1
  apply List.map_congr_left
  intro j _
  show D.int ((k : Int) + ((j + 1 : Nat) : Int)) = .int (((k + 1 : Nat) : Int) + (j : Int))
  congr 1
  omega
theorem intsD0 (n : Nat) : intsD 0 n = (List.range n).map nI := by simp [intsD, nI]
/-- an ascending list without doubles, sorted -/
theorem sort_nI {l m : List Nat} (hp : l.Perm m) (hm : m.Pairwise (· < ·)) : sortC (.lst (l.map nI)) = some (.ow (m.map cI)) := by
  have hi := ints_nI l
  simp only [sortC]
  rw [hi]
  simp only [Option.map_some]
  have e : (l.map fun n : Nat => (n : Int)).mergeSort (· ≤ ·) = m.map fun n : Nat => (n : Int) := by
    refine perm_sorted_eq ((List.mergeSort_perm _ _).trans (hp.map _)) ?_ ?_
    · have := List.pairwise_mergeSort (le := fun a b : Int => decide (a ≤ b)) (fun a b c h1 h2 => by simp at *; omega) (fun a b => by simp; omega) (l.map fun n : Nat => (n : Int))
      exact this.imp fun h => by simpa using h
    · rw [List.pairwise_map]
      exact hm.imp fun h => by omega
  rw [e, List.map_map]
  rfl
theorem r62_n {n : Nat} (h : n ≤ 1000000) : r62 (n : Int) = true := by rw [r62_eq]; exact decide_eq_true ⟨by omega, by omega⟩
theorem forL_one {put : C → Rho → Option Rho} {x : SM} {d : D} {ds : List D} {ρ ρ2 : Rho} (h : fStep put x d ρ = .nx ρ2) : forL put x (d :: ds) ρ = forL put x ds ρ2 := by
  rw [forL_cons]
  unfold fStep at h
  split at h
  · cases h
  · rename_i ρ1 hp
    rw [h]
theorem lcL_fst {vs : List Nat} {put : C → Rho → Option Rho} {t : M Bool} {el : M C} {d : D} {ds : List D} {ρ ρ0 : Rho} {c : Option C} (h1 : lcF vs put t el d ρ = .ok c ρ0) (h2 : lcF vs put t el d ρ0 = .ok c ρ0) : lcL vs put t el (d :: ds) [] ρ = lcL vs put t el (d :: ds) [] ρ0 := by
  rw [lcF_cons h1 ds [] (by simp), lcF_cons h2 ds [] (by simp)]
end Lw

namespace Lw
open PySem PySem.Spec PyProof.Rows L2 Dn LA
/-! ### the law's elimination (K51a) -/
def optN : Option Nat → D
  | none => .non
  | some n => .int (n : Nat)
def rowD (w : Nat) (A : Nat → Nat → Rat) (i : Nat) : D := .lst ((List.range w).map fun j => nD (A i j))
def rowsC (n w : Nat) (A : Nat → Nat → Rat) : List C := (List.range n).map fun i => .fz (rowD w A i)
theorem nD_eq (q : Rat) : nD q = .tup [.int q.num, .int (q.den : Int)] := rfl
theorem nC_eq (q : Rat) : nC q = .fz (.tup [.int q.num, .int (q.den : Int)]) := rfl
theorem isN_opt (o : Option Nat) : isN (optN o) .non = some (.bl o.isNone) := by cases o <;> rfl
theorem rowsC_at {n w : Nat} {A : Nat → Nat → Rat} {k : Nat} (h : k < n) : atI (rowsC n w A) (k : Int) = some (.fz (rowD w A k)) := by
  rw [atI_natCast]; unfold rowsC; exact range_get _ h
theorem rowD_at {w : Nat} {A : Nat → Nat → Rat} {i j : Nat} (h : j < w) : atI ((List.range w).map fun j => nD (A i j)) (j : Int) = some (nD (A i j)) := by
  rw [atI_natCast]; exact range_get _ h
theorem rowsC_len {n w : Nat} {A : Nat → Nat → Rat} : (rowsC n w A).length = n := by simp [rowsC]
theorem rowsC_set {n w : Nat} {A : Nat → Nat → Rat} {k : Nat} (h : k < n) (f : Nat → Rat) (cs : List C) (hc : cs = (List.range w).map fun j => nC (f j)) : setF (k : Int) (rowsC n w A) (.ow cs) = some (rowsC n w fun i j => if i = k then f j else A i j) := by
  rw [setF_in (by omega) (by rw [rowsC_len]; omega), Int.toNat_natCast]
  unfold rowsC
  rw [range_set]
  congr 1
  refine range_congr fun i hi => ?_
  by_cases e : i = k
  · subst e
    have : fzD (.ow cs) = rowD w (fun i' j => if i' = i then f j else A i' j) i := by
      rw [fzD_ow, hc, List.map_map]
      unfold rowD
      congr 1
      exact List.map_congr_left fun j _ => by simp [nC_eq, nD_eq]
    rw [if_pos rfl, this]
  · rw [if_neg e]
    unfold rowD
    simp [e]
theorem rowsC_setR {n w : Nat} {A : Nat → Nat → Rat} {k l : Nat} (h : k < n) : setF (k : Int) (rowsC n w A) (.fz (rowD w A l)) = some (rowsC n w fun i j => if i = k then A l j else A i j) := by
  rw [setF_in (by omega) (by rw [rowsC_len]; omega), Int.toNat_natCast]
  unfold rowsC
  rw [range_set]
  congr 1
  refine range_congr fun i hi => ?_
  by_cases e : i = k
  · subst e; simp [rowD]
  · rw [if_neg e]; unfold rowD; simp [e]
theorem num_ne (q : Rat) : (q.num = 0) ↔ q = 0 := Rat.num_eq_zero
end Lw

namespace Lw
open PySem PySem.Spec PyProof.Rows L2 Dn LA
/-! ### a column is cleared (K51b) -/
/-- behind the exchange and the division -/
def scA (A : Nat → Nat → Rat) (c p : Nat) (i j : Nat) : Rat := if i = c then A p j / A p c else swapA A c p i j
theorem step_row {A : Nat → Nat → Rat} {c p i : Nat} (hi : i ≠ c) (j : Nat) : stepA A c p i j = scA A c p i j + (-(scA A c p i c)) * scA A c p c j := by
  have h0 : swapA A c p c = A p := by funext j; unfold swapA; rw [if_pos rfl]
  unfold stepA pivA
  rw [if_neg hi]
  unfold scA
  rw [if_neg hi, if_neg hi, if_pos rfl, h0]
  grind
theorem step_piv {A : Nat → Nat → Rat} {c p : Nat} (j : Nat) : stepA A c p c j = scA A c p c j := by
  have h0 : swapA A c p c = A p := by funext j; unfold swapA; rw [if_pos rfl]
  unfold stepA pivA
  rw [if_pos rfl]
  unfold scA
  rw [if_pos rfl, h0]
/-- k rows are done -/
def midA (A : Nat → Nat → Rat) (c p k : Nat) (i j : Nat) : Rat := if i < k then stepA A c p i j else scA A c p i j
def Sized (n w Z : Nat) (A : Nat → Nat → Rat) : Prop := ∀ i j, i < n → j < w → Bd Z (A i j)
theorem rows_same {n w : Nat} {A B : Nat → Nat → Rat} (h : ∀ i j, i < n → j < w → A i j = B i j) : rowsC n w A = rowsC n w B := by
  unfold rowsC rowD
  refine range_congr fun i hi => ?_
  congr 2
  exact range_congr fun j hj => by rw [h i j hi hj]
section
variable {n w Z Z2 : Nat} {A : Nat → Nat → Rat} {c p : Nat}
end
end Lw

namespace Lw
open PySem PySem.Spec PyProof.Rows L2 Dn LA
/-! ### the law's solution (K51c) -/
section
variable {n w Z Z2 M m K m2 : Nat} {R : Nat → Nat → Rat}
/-- what is asked of the rows -/
structure RowsOk (n w M m K m2 Z Z2 : Nat) (R : Nat → Nat → Rat) : Prop where
  hM : 0 < M
  hm : M ≤ m
  hw : w = n + 1
  hw1 : w ≤ 1000
  int : ∀ r j, r < n → j < n → ∃ k : Int, (M : Rat) * R r j = (k : Rat) ∧ k.natAbs ≤ m
  ns : NonSing n R
  hK : 0 < K
  last : ∀ r, r < n → ∃ k : Int, (K : Rat) * ((M : Rat) * R r n) = (k : Rat) ∧ k.natAbs ≤ m2
  z1 : (n * m) ^ n ≤ Z
  z2 : K * (n * m) ^ n ≤ Z2
  z3 : n * m2 * (n * m) ^ n ≤ Z2
  hZ : Z * Z2 < 2 ^ 2600
theorem RowsOk.z12 (h : RowsOk n w M m K m2 Z Z2 R) : (n * m) ^ n ≤ Z2 := Nat.le_trans (Nat.le_mul_of_pos_left _ h.hK) h.z2
theorem RowsOk.sized (h : RowsOk n w M m K m2 Z Z2 R) {c : Nat} (hc : c ≤ n) : Sized n w Z2 (gA n R c) ∧ ∀ i j, i < n → j < n → Bd Z (gA n R c i j) := by
  obtain ⟨D, h1, h2, h3, h4⟩ := gauss_size (w := w) h.hM h.hm (by rw [h.hw]; omega) h.int h.ns hc
  refine ⟨fun i j hi hj => ?_, fun i j hi hj => ?_⟩
  · by_cases hjn : j < n
    · obtain ⟨N, e, b⟩ := h3 i j hi hjn
      rw [e]
      exact bd_div h1 (Nat.le_trans b h.z12) (Nat.le_trans h2 h.z12)
    · have e0 : j = n := by rw [h.hw] at hj; omega
      rw [e0]
      obtain ⟨N, e, b⟩ := h4 K m2 n h.hK (by rw [h.hw]; omega) h.last i hi
      rw [e]
      have hK := h.hK
      refine bd_div (Int.mul_ne_zero (by omega) h1) (Nat.le_trans b h.z3) ?_
      rw [Int.natAbs_mul]
      exact Nat.le_trans (Nat.mul_le_mul_left _ h2) h.z2
  · obtain ⟨N, e, b⟩ := h3 i j hi hj
    rw [e]
    exact bd_div h1 (Nat.le_trans b h.z1) (Nat.le_trans h2 h.z1)
theorem RowsOk.piv (h : RowsOk n w M m K m2 Z Z2 R) {c : Nat} (hc : c < n) : ∃ p, fstP n c (gA n R c) = some p :=
  (gauss_inv (w := w) h.hM h.hm (by rw [h.hw]; omega) h.int h.ns c (by omega)).2 hc
theorem RowsOk.sol (h : RowsOk n w M m K m2 Z Z2 R) {r : Nat} (hr : r < n) : sm (fun i => gA n R n i n * R r i) n = R r n :=
  gauss_sol (w := w) h.hM h.hm (by rw [h.hw]; omega) h.int h.ns (by rw [h.hw]; omega) hr
theorem inn_of {N D : Int} {B : Nat} (hD : D ≠ 0) (hb : N.natAbs ≤ B * D.natAbs) : Inn D.natAbs B (Rat.divInt N D) := by
  have hp : 0 < D.natAbs := Int.natAbs_pos.mpr hD
  rcases Int.lt_or_gt_of_ne hD with z | z
  · refine ⟨hp, -N, ?_, by simpa using hb⟩
    rw [← Rat.neg_divInt_neg]
    congr 1
    omega
  · refine ⟨hp, N, ?_, hb⟩
    congr 1
    omega
/-- the numbers of the solution over one divisor -/
theorem RowsOk.common (h : RowsOk n w M m K m2 Z Z2 R) : ∃ D : Nat, 0 < D ∧ D ≤ Z2 ∧ ∀ i, i < n → Inn D Z2 (gA n R n i n) := by
  obtain ⟨D, h1, h2, h3, h4⟩ := gauss_size (w := w) h.hM h.hm (by rw [h.hw]; omega) h.int h.ns (Nat.le_refl n)
  have hK := h.hK
  have hKD : (K : Int) * D ≠ 0 := Int.mul_ne_zero (by omega) h1
  have hp : 0 < ((K : Int) * D).natAbs := Int.natAbs_pos.mpr hKD
  refine ⟨((K : Int) * D).natAbs, hp, ?_, fun i hi => ?_⟩
  · rw [Int.natAbs_mul]
    exact Nat.le_trans (Nat.mul_le_mul_left _ h2) h.z2
  · obtain ⟨N, e, b⟩ := h4 K m2 n hK (by rw [h.hw]; omega) h.last i hi
    rw [e]
    exact inn_of hKD (Nat.le_trans (Nat.le_trans b h.z3) (Nat.le_mul_of_pos_right _ hp))
end
end Lw

namespace Lw
open PySem PySem.Spec PyProof.Rows L2 Dn LA
/-! ### what is reached (K51d) -/
def addT (F : List Nat) (t : Nat) : List Nat := if t ∈ F then F else F ++ [t]
def tgA (ps : List Pl) (x : Nat) : List Nat := match ps[x]? with
  | some p => tgsF p
  | none => []
/-- one round -/
def rndF (ps : List Pl) (F : List Nat) : List Nat := F.foldl (fun G x => (tgA ps x).foldl addT G) F
inductive RcT (ps : List Pl) (x : Nat) : Nat → Prop
  | refl : RcT ps x x
  | step {y z : Nat} : RcT ps x y → z ∈ tgA ps y → RcT ps x z
theorem addT_mem (F : List Nat) (t y : Nat) : y ∈ addT F t ↔ y ∈ F ∨ y = t := by
  unfold addT
  split
  · constructor
    · exact .inl
    · rintro (h | rfl) <;> assumption
  · simp
theorem addT_nd {F : List Nat} (h : F.Nodup) (t : Nat) : (addT F t).Nodup := by
  unfold addT
  split
  · exact h
  · rename_i hn
    rw [List.nodup_append]
    refine ⟨h, by simp, ?_⟩
    rintro a ha b hb rfl
    rw [List.mem_singleton] at hb
    exact hn (hb ▸ ha)
theorem addT_len (F : List Nat) (t : Nat) : F.length ≤ (addT F t).length ∧ (t ∉ F → F.length < (addT F t).length) := by
  unfold addT
  split
  · exact ⟨Nat.le_refl _, fun h => absurd (by assumption) h⟩
  · simp
theorem foldT_mem : ∀ (ts F : List Nat) (y : Nat), y ∈ ts.foldl addT F ↔ y ∈ F ∨ y ∈ ts
  | [], F, y => by simp
  | t :: ts, F, y => by
    rw [List.foldl_cons, foldT_mem ts, addT_mem, List.mem_cons]
    constructor
    · rintro ((h | h) | h)
      · exact .inl h
      · exact .inr (.inl h)
      · exact .inr (.inr h)
    · rintro (h | h | h)
      · exact .inl (.inl h)
      · exact .inl (.inr h)
      · exact .inr h
theorem foldT_nd : ∀ (ts F : List Nat), F.Nodup → (ts.foldl addT F).Nodup
  | [], F, h => h
  | t :: ts, F, h => foldT_nd ts _ (addT_nd h t)
theorem rnd_mem (ps : List Pl) : ∀ (xs F : List Nat) (y : Nat), y ∈ xs.foldl (fun G x => (tgA ps x).foldl addT G) F ↔ y ∈ F ∨ ∃ x ∈ xs, y ∈ tgA ps x
  | [], F, y => by simp
  | x :: xs, F, y => by
    rw [List.foldl_cons, rnd_mem ps xs, foldT_mem]
    constructor
    · rintro ((h | h) | ⟨z, hz, h⟩)
      · exact .inl h
      · exact .inr ⟨x, List.mem_cons_self, h⟩
      · exact .inr ⟨z, List.mem_cons_of_mem _ hz, h⟩
    · rintro (h | ⟨z, hz, h⟩)
      · exact .inl (.inl h)
      · rcases List.mem_cons.mp hz with rfl | hz
        · exact .inl (.inr h)
        · exact .inr ⟨z, hz, h⟩
theorem rnd_nd (ps : List Pl) : ∀ (xs F : List Nat), F.Nodup → (xs.foldl (fun G x => (tgA ps x).foldl addT G) F).Nodup
  | [], F, h => h
  | x :: xs, F, h => rnd_nd ps xs _ (foldT_nd _ _ h)
theorem sub_len : ∀ {F G : List Nat}, F.Nodup → (∀ y ∈ F, y ∈ G) → F.length ≤ G.length
  | [], G, _, _ => Nat.zero_le _
  | y :: F, G, hn, hs => by
    obtain ⟨h1, h2⟩ := List.nodup_cons.mp hn
    have hy := hs y List.mem_cons_self
    have h3 := sub_len (F := F) (G := G.erase y) h2 fun z hz => (List.mem_erase_of_ne (fun e : z = y => h1 (by rw [← e]; exact hz))).mpr (hs z (List.mem_cons_of_mem _ hz))
    rw [List.length_erase_of_mem hy] at h3
    have := List.length_pos_of_mem hy
    simp only [List.length_cons]
    omega
theorem nodup_le {F : List Nat} {n : Nat} (hn : F.Nodup) (hl : ∀ y ∈ F, y < n) : F.length ≤ n := by
  have := sub_len (G := List.range n) hn fun y m => List.mem_range.mpr (hl y m)
  simpa using this
theorem sub_lt {F G : List Nat} (hn : F.Nodup) (hs : ∀ y ∈ F, y ∈ G) {z : Nat} (hz : z ∈ G) (hzF : z ∉ F) : F.length < G.length := by
  have : (z :: F).length ≤ G.length := sub_len (List.nodup_cons.mpr ⟨hzF, hn⟩) fun y m => by
    rcases List.mem_cons.mp m with rfl | m
    · exact hz
    · exact hs y m
  simp only [List.length_cons] at this
  omega
def itF (ps : List Pl) (x : Nat) : Nat → List Nat
  | 0 => [x]
  | k + 1 => rndF ps (itF ps x k)
theorem it_inv {ps : List Pl} {n x : Nat} (hx : x < n) (ht : ∀ y, y < n → ∀ z ∈ tgA ps y, z < n) : ∀ k, (itF ps x k).Nodup ∧ x ∈ itF ps x k ∧ (∀ y ∈ itF ps x k, y < n ∧ RcT ps x y) ∧ ((∀ y ∈ itF ps x k, ∀ z ∈ tgA ps y, z ∈ itF ps x k) ∨ k < (itF ps x k).length)
  | 0 => ⟨by simp [itF], by simp [itF], fun y m => by rw [List.mem_singleton.mp m]; exact ⟨hx, .refl⟩, .inr (by simp [itF])⟩
  | k + 1 => by
    obtain ⟨h1, h2, h3, h4⟩ := it_inv hx ht k
    have hm : ∀ y, y ∈ itF ps x (k + 1) ↔ y ∈ itF ps x k ∨ ∃ z ∈ itF ps x k, y ∈ tgA ps z := fun y => rnd_mem ps _ _ y
    refine ⟨rnd_nd ps _ _ h1, (hm x).mpr (.inl h2), fun y m => ?_, ?_⟩
    · rcases (hm y).mp m with m | ⟨z, hz, m⟩
      · exact h3 y m
      · exact ⟨ht z (h3 z hz).1 y m, .step (h3 z hz).2 m⟩
    · by_cases hc : ∀ y ∈ itF ps x k, ∀ z ∈ tgA ps y, z ∈ itF ps x k
      · left
        intro y m z hz
        have my : y ∈ itF ps x k := by
          rcases (hm y).mp m with m | ⟨w, hw, m⟩
          · exact m
          · exact hc w hw y m
        exact (hm z).mpr (.inl (hc y my z hz))
      · right
        have h5 : k < (itF ps x k).length := h4.resolve_left hc
        simp only [Classical.not_forall] at hc
        obtain ⟨y, my, z, hz, hn⟩ := hc
        have := sub_lt h1 (G := itF ps x (k + 1)) (fun w hw => (hm w).mpr (.inl hw)) ((hm z).mpr (.inr ⟨y, my, hz⟩)) hn
        omega
theorem it_all {ps : List Pl} {n x : Nat} (hx : x < n) (ht : ∀ y, y < n → ∀ z ∈ tgA ps y, z < n) (y : Nat) : y ∈ itF ps x n ↔ RcT ps x y := by
  obtain ⟨h1, h2, h3, h4⟩ := it_inv hx ht n
  have hc := h4.resolve_right (fun h => by have := nodup_le h1 fun y m => (h3 y m).1; omega)
  constructor
  · exact fun m => (h3 y m).2
  · intro r
    induction r with
    | refl => exact h2
    | step _ m ih => exact hc _ ih _ m
open Classical in
/-- all that is reached, ascending -/
noncomputable def rchF (ps : List Pl) (n x : Nat) : List Nat := (List.range n).filter fun y => decide (RcT ps x y)
theorem rch_sorted (ps : List Pl) (n x : Nat) : (rchF ps n x).Pairwise (· < ·) := List.Pairwise.filter _ List.pairwise_lt_range
theorem rch_nd (ps : List Pl) (n x : Nat) : (rchF ps n x).Nodup := (rch_sorted ps n x).imp fun h => Nat.ne_of_lt h
theorem rcT_lt {ps : List Pl} {n x y : Nat} (hx : x < n) (ht : ∀ y, y < n → ∀ z ∈ tgA ps y, z < n) (h : RcT ps x y) : y < n := by
  induction h with
  | refl => exact hx
  | step _ m ih => exact ht _ ih _ m
theorem rch_mem {ps : List Pl} {n x : Nat} (hx : x < n) (ht : ∀ y, y < n → ∀ z ∈ tgA ps y, z < n) (y : Nat) : y ∈ rchF ps n x ↔ RcT ps x y := by
  unfold rchF
  rw [List.mem_filter, List.mem_range]
  constructor
  · rintro ⟨_, h⟩; simpa using h
  · intro h; exact ⟨rcT_lt hx ht h, by simpa using h⟩
theorem it_perm {ps : List Pl} {n x : Nat} (hx : x < n) (ht : ∀ y, y < n → ∀ z ∈ tgA ps y, z < n) : (itF ps x n).Perm (rchF ps n x) := by
  refine (List.perm_ext_iff_of_nodup (it_inv hx ht n).1 (rch_nd ps n x)).mpr fun y => ?_
  rw [it_all hx ht, rch_mem hx ht]
/-! the program's side -/
section
variable {Mg Bg : Nat} {ps : List Pl}
theorem foldT_len : ∀ (ts F : List Nat), (ts.foldl addT F).length ≤ F.length + ts.length
  | [], F => by simp
  | t :: ts, F => by
    have := foldT_len ts (addT F t)
    have h2 : (addT F t).length ≤ F.length + 1 := by unfold addT; split <;> simp
    simp only [List.foldl_cons, List.length_cons]
    omega
theorem tgA_lt (pok : ∀ p ∈ ps, plOkG Mg Bg ps.length p) : ∀ y, y < ps.length → ∀ z ∈ tgA ps y, z < ps.length := fun y hy z hz => by
  have h1 : ps[y]? = some ps[y] := List.getElem?_eq_getElem hy
  unfold tgA at hz
  rw [h1] at hz
  exact (tgs_ok (pok _ (List.getElem_mem hy))).2 z hz
end
end Lw

namespace Lw
open PySem PySem.Spec PyProof.Rows L2 Dn LA
/-! ### games that are chains (K51e) -/
def chS : List (Rat × Nat) → Nat → Rat
  | [], _ => 0
  | b :: bs, y => (if b.2 = y then b.1 else 0) + chS bs y
def pP (ps : List Pl) (x y : Nat) : Rat := match ps[x]? with
  | some (.dr _ bs) => chS bs y
  | _ => 0
def gP (ps : List Pl) (x : Nat) : Rat := match ps[x]? with
  | some p => gainF p
  | none => 0
structure ChG (Mg Bg : Nat) (ps : List Pl) : Prop where
  pok : ∀ p ∈ ps, plOkG Mg Bg ps.length p
  fair : ∀ p ∈ ps, plFair p
  dr : ∀ p ∈ ps, ∃ g bs, p = .dr g bs
abbrev ChOk (ps : List Pl) : Prop := ChG 6 9 ps
theorem chS_nn : ∀ {bs : List (Rat × Nat)} (y : Nat), (∀ b ∈ bs, 0 < b.1) → 0 ≤ chS bs y
  | [], _, _ => Rat.le_refl
  | b :: bs, y, h => by
    have h1 := chS_nn y fun b m => h b (List.mem_cons_of_mem _ m)
    have h2 := h b List.mem_cons_self
    simp only [chS]
    split <;> grind
theorem chS_pos : ∀ {bs : List (Rat × Nat)} (y : Nat), (∀ b ∈ bs, 0 < b.1) → (0 < chS bs y ↔ y ∈ bs.map (·.2))
  | [], y, _ => by simp [chS]
  | b :: bs, y, h => by
    have h0 := chS_nn y fun b m => h b (List.mem_cons_of_mem _ m)
    have h1 := chS_pos y fun b m => h b (List.mem_cons_of_mem _ m)
    have h2 := h b List.mem_cons_self
    simp only [chS, List.map_cons, List.mem_cons]
    by_cases e : b.2 = y
    · rw [if_pos e]
      exact ⟨fun _ => .inl e.symm, fun _ => by grind⟩
    · rw [if_neg e, ← h1]
      constructor
      · intro z; right; grind
      · rintro (z | z)
        · exact absurd z.symm e
        · grind
theorem sumF_shift : ∀ (l : List Rat) (a : Rat), sumF a l = a + sumF 0 l
  | [], a => by simp [sumF]; grind
  | q :: l, a => by
    have h1 := sumF_shift l (a + q)
    have h2 := sumF_shift l (0 + q)
    show sumF (a + q) l = a + sumF (0 + q) l
    rw [h1, h2]; grind
theorem chS_sum {n : Nat} : ∀ {bs : List (Rat × Nat)}, (∀ b ∈ bs, b.2 < n) → sm (chS bs) n = sumF 0 (bs.map (·.1))
  | [], _ => sm_zero fun _ _ => rfl
  | b :: bs, h => by
    have h1 := chS_sum (n := n) fun b m => h b (List.mem_cons_of_mem _ m)
    have h2 := h b List.mem_cons_self
    have e1 : sm (chS (b :: bs)) n = sm (fun y => if b.2 = y then b.1 else 0) n + sm (chS bs) n := by rw [← sm_add]; rfl
    rw [e1, h1, sm_one h2 fun i _ hne => by rw [if_neg (fun z => hne z.symm)], if_pos rfl]
    have := sumF_shift (bs.map (·.1)) (0 + b.1)
    show _ = sumF (0 + b.1) (bs.map (·.1))
    rw [this]; grind
theorem sumF_range (f : Nat → Rat) : ∀ n : Nat, sumF 0 ((List.range n).map f) = sm f n
  | 0 => rfl
  | n + 1 => by
    rw [List.range_succ, List.map_append]
    unfold sumF
    rw [List.foldl_append]
    have := sumF_range f n
    unfold sumF at this
    rw [this]
    rfl
theorem chS_inn : ∀ {bs : List (Rat × Nat)} (y : Nat), (∀ b ∈ bs, Inn LL 1 b.1) → Inn LL bs.length (chS bs y)
  | [], y, _ => Inn.zero (by decide)
  | b :: bs, y, h => by
    have h1 := chS_inn y fun b m => h b (List.mem_cons_of_mem _ m)
    have h2 := h b List.mem_cons_self
    simp only [chS, List.length_cons]
    rw [Nat.add_comm]
    split
    · exact h2.add h1
    · exact ((Inn.zero (by decide)).le (Nat.zero_le 1)).add h1
section
variable {Mg Bg : Nat} {ps : List Pl}
theorem ChG.at (h : ChG Mg Bg ps) {x : Nat} (hx : x < ps.length) : ∃ g bs, ps[x]? = some (.dr g bs) ∧ plOkG Mg Bg ps.length (.dr g bs) ∧ plFair (.dr g bs) := by
  have h1 : ps[x]? = some ps[x] := List.getElem?_eq_getElem hx
  have m := List.getElem_mem hx
  obtain ⟨g, bs, e⟩ := h.dr _ m
  have p1 := h.pok _ m
  have p2 := h.fair _ m
  rw [e] at h1 p1 p2
  exact ⟨g, bs, h1, p1, p2⟩
theorem pP_eq {x : Nat} {g : Rat} {bs : List (Rat × Nat)} (h : ps[x]? = some (.dr g bs)) (y : Nat) : pP ps x y = chS bs y := by unfold pP; rw [h]
theorem ChG.chain (h : ChG Mg Bg ps) : Chain ps.length (pP ps) where
  nn := fun x y hx _ => by
    obtain ⟨g, bs, e, p1, p2⟩ := h.at hx
    rw [pP_eq e]; exact chS_nn y p2.1
  one := fun x hx => by
    obtain ⟨g, bs, e, p1, p2⟩ := h.at hx
    have : pP ps x = chS bs := funext fun y => pP_eq e y
    rw [this, chS_sum fun b m => (p1.2.2.2 b m).2]
    exact p2.2
theorem ChG.pos (h : ChG Mg Bg ps) {x : Nat} (hx : x < ps.length) (y : Nat) : 0 < pP ps x y ↔ y ∈ tgA ps x := by
  obtain ⟨g, bs, e, p1, p2⟩ := h.at hx
  rw [pP_eq e, chS_pos y p2.1]
  unfold tgA
  rw [e]
  rfl
theorem ChG.tl (h : ChG Mg Bg ps) : ∀ y, y < ps.length → ∀ z ∈ tgA ps y, z < ps.length := tgA_lt h.pok
theorem ChG.rc (h : ChG Mg Bg ps) {x : Nat} (hx : x < ps.length) (y : Nat) : Rc ps.length (pP ps) x y ↔ RcT ps x y := by
  constructor
  · intro r
    induction r with
    | refl => exact .refl
    | step _ a b c ih => exact .step ih ((h.pos a _).mp c)
  · intro r
    induction r with
    | refl => exact .refl
    | @step y z r m ih =>
      have hy := rcT_lt hx h.tl r
      exact .step ih hy (h.tl _ hy _ m) ((h.pos hy _).mpr m)
theorem ChG.recur (h : ChG Mg Bg ps) {x : Nat} (hx : x < ps.length) : Recur ps.length (pP ps) x ↔ ∀ y, RcT ps x y → RcT ps y x := by
  constructor
  · intro r y hy
    exact (h.rc (rcT_lt hx h.tl hy) x).mp (r y ((h.rc hx y).mpr hy))
  · intro r y hy
    exact (h.rc (hy.lt hx) x).mpr (r y ((h.rc hx y).mp hy))
theorem ChG.cls (h : ChG Mg Bg ps) {x : Nat} (hx : x < ps.length) (hr : Recur ps.length (pP ps) x) : Cls ps.length (pP ps) (rchF ps ps.length x) where
  nd := rch_nd ps _ x
  lt := fun c m => rcT_lt hx h.tl ((rch_mem hx h.tl c).mp m)
  cl := fun c m y hy hp => by
    have m := (rch_mem hx h.tl c).mp m
    exact (rch_mem hx h.tl y).mpr (.step m ((h.pos (rcT_lt hx h.tl m) y).mp hp))
  con := fun c mc d md => by
    have mc := (h.rc hx c).mpr ((rch_mem hx h.tl c).mp mc)
    have md := (h.rc hx d).mpr ((rch_mem hx h.tl d).mp md)
    exact (hr c mc).trans md
theorem ChG.cls0 (h : ChG Mg Bg ps) {x : Nat} (hx : x < ps.length) : 0 < (rchF ps ps.length x).length := List.length_pos_of_mem ((rch_mem hx h.tl x).mpr .refl)
theorem ChG.clsN (h : ChG Mg Bg ps) {x : Nat} (hx : x < ps.length) : (rchF ps ps.length x).length ≤ ps.length := nodup_le (rch_nd ps _ x) fun c m => rcT_lt hx h.tl ((rch_mem hx h.tl c).mp m)
/-- one class, one list -/
theorem ChG.same (h : ChG Mg Bg ps) {x y : Nat} (hx : x < ps.length) (hr : Recur ps.length (pP ps) x) (hy : RcT ps x y) : rchF ps ps.length y = rchF ps ps.length x := by
  have hyl := rcT_lt hx h.tl hy
  have hyx := (h.recur hx).mp hr y hy
  have tr : ∀ {a b c : Nat}, RcT ps a b → RcT ps b c → RcT ps a c := fun {a b c} h1 h2 => by
    induction h2 with
    | refl => exact h1
    | step _ m ih => exact .step ih m
  unfold rchF
  refine List.filter_congr fun z _ => ?_
  have : RcT ps y z ↔ RcT ps x z := ⟨fun r => tr hy r, fun r => tr hyx r⟩
  simp [this]
theorem ChG.p_inn (h : ChG Mg Bg ps) {x : Nat} (hx : x < ps.length) (y : Nat) : Inn LL 6 (pP ps x y) := by
  obtain ⟨g, bs, e, p1, p2⟩ := h.at hx
  rw [pP_eq e]
  exact (chS_inn y fun b m => (p1.2.2.2 b m).1).le p1.2.2.1
theorem ChG.g_inn (h : ChG Mg Bg ps) {x : Nat} (hx : x < ps.length) : Inn Mg Bg (gP ps x) := by
  obtain ⟨g, bs, e, p1, p2⟩ := h.at hx
  unfold gP
  rw [e]
  exact p1.1
theorem inn_mul {M B : Nat} {q : Rat} (h : Inn M B q) : ∃ k : Int, (M : Rat) * q = (k : Rat) ∧ k.natAbs ≤ B * M := by
  obtain ⟨hp, k, rfl, hk⟩ := h
  refine ⟨k, ?_, hk⟩
  have h0 : ((M : Int) : Rat) ≠ 0 := fun z => by
    have : (M : Int) = 0 := by exact_mod_cast z
    omega
  rw [Rat.divInt_eq_div]
  show ((M : Int) : Rat) * ((k : Rat) / ((M : Int) : Rat)) = (k : Rat)
  rw [Rat.mul_comm, Rat.div_mul_cancel h0]
theorem nat_one (n : Nat) : (n : Rat) * 1 = ((n : Int) : Rat) := by rw [Rat.mul_one]; rfl
theorem nat_one1 (n : Nat) : ((1 : Nat) : Rat) * ((n : Rat) * 1) = ((n : Int) : Rat) := by
  rw [nat_one]
  have : ((1 : Nat) : Rat) = 1 := rfl
  rw [this, Rat.one_mul]
theorem d_inn {M : Nat} (hM : 0 < M) (b : Prop) [Decidable b] : Inn M 1 (if b then (1 : Rat) else 0) := by
  split
  · exact ⟨hM, (M : Int), (Rat.divInt_self' (by omega)).symm, by simp⟩
  · exact (Inn.zero hM).le (Nat.zero_le 1)
theorem LL_pos : 0 < LL := by decide
abbrev ZA : Nat := (12 * (7 * LL)) ^ 12
abbrev ZB : Nat := 12 * LL * ZA
theorem pow_le {n : Nat} (hn : n ≤ 12) : (n * (7 * LL)) ^ n ≤ ZA :=
  Nat.le_trans (Nat.pow_le_pow_left (Nat.mul_le_mul_right _ hn) n) (Nat.pow_le_pow_right (by decide) hn)
theorem ChG.rows (h : ChG Mg Bg ps) {x : Nat} (hx : x < ps.length) (hl : ps.length ≤ 12) (hr : Recur ps.length (pP ps) x) : RowsOk (rchF ps ps.length x).length ((rchF ps ps.length x).length + 1) LL (7 * LL) 1 LL ZA ZB (shR (pP ps) (rchF ps ps.length x)) := by
  have hc := h.cls hx hr
  have h0 := h.cls0 hx
  have hn := h.clsN hx
  have hn12 := Nat.le_trans hn hl
  have hp := pow_le hn12
  refine ⟨by decide, by decide, rfl, by omega, fun r j hr hj => ?_, hc.sh_ns h.chain h0, by decide, fun r hr => ?_, hp, ?_, ?_, by decide⟩
  · unfold shR
    rw [if_pos hj]
    split
    · have i1 : Inn LL 1 (if j = r + 1 then (1 : Rat) else 0) := d_inn LL_pos _
      obtain ⟨k, e, b⟩ := inn_mul ((i1.sub (h.p_inn (hc.lt _ (nth_mem hj)) _)).le (B' := 7) (Nat.le_refl 7))
      exact ⟨k, e, b⟩
    · exact ⟨((LL : Nat) : Int), nat_one LL, by decide⟩
  · unfold shR
    rw [if_neg (Nat.lt_irrefl _)]
    split
    · exact ⟨0, by grind, by decide⟩
    · exact ⟨((LL : Nat) : Int), nat_one1 LL, by decide⟩
  · rw [Nat.one_mul]; exact Nat.le_trans hp (Nat.le_mul_of_pos_left _ (by decide))
  · exact Nat.mul_le_mul (Nat.mul_le_mul_right _ hn12) hp
end
end Lw

namespace Lw
open PySem PySem.Spec PyProof.Rows L2 Dn LA
/-! ### the law's chain (T1) -/
def wsF (f : Nat → Int) (n : Nat) : Int := ((List.range n).map f).sum
theorem wsF_succ (f : Nat → Int) (n : Nat) : wsF f (n + 1) = wsF f n + f n := by
  unfold wsF
  rw [List.range_succ, List.map_append, List.sum_append]; simp
theorem wsF_in {f : Nat → Int} (h : ∀ k, 1 ≤ f k ∧ f k ≤ 4) : ∀ n : Nat, (n : Int) ≤ wsF f n ∧ wsF f n ≤ 4 * n ∧ ∀ k, k < n → f k ≤ wsF f n
  | 0 => by simp [wsF]
  | n + 1 => by
    obtain ⟨h1, h2, h3⟩ := wsF_in h n
    have hw := h n
    rw [wsF_succ]
    refine ⟨by omega, by omega, fun k hk => ?_⟩
    rcases Nat.lt_succ_iff_lt_or_eq.mp hk with hk | rfl
    · have := h3 k hk; omega
    · omega
theorem wsF_fair (f : Nat → Int) {S : Int} (hS : S ≠ 0) : ∀ n : Nat, ((List.range n).map fun k => Rat.divInt (f k) S).foldl (· + ·) 0 = Rat.divInt (wsF f n) S
  | 0 => by simp [wsF]
  | n + 1 => by
    rw [List.range_succ, List.map_append, List.foldl_append, wsF_fair f hS n, wsF_succ]
    show Rat.divInt (wsF f n) S + Rat.divInt (f n) S = _
    rw [Rat.divInt_add_divInt _ _ hS hS, ← Int.add_mul, Rat.divInt_mul_right hS]
theorem sizes10 {j : Int} (h0 : 0 ≤ j) (h1 : j < 10) : ∃ g : Nat, atI [D.int 1, .int 2, .int 3, .int 2, .int 1, .int 4, .int 5, .int 6, .int 2, .int 1] j = some (.int g) ∧ 0 < g ∧ g ≤ 6 := by
  have : j = 0 ∨ j = 1 ∨ j = 2 ∨ j = 3 ∨ j = 4 ∨ j = 5 ∨ j = 6 ∨ j = 7 ∨ j = 8 ∨ j = 9 := by omega
  rcases this with rfl | rfl | rfl | rfl | rfl | rfl | rfl | rfl | rfl | rfl
  · exact ⟨1, rfl, by decide, by decide⟩
  · exact ⟨2, rfl, by decide, by decide⟩
  · exact ⟨3, rfl, by decide, by decide⟩
  · exact ⟨2, rfl, by decide, by decide⟩
  · exact ⟨1, rfl, by decide, by decide⟩
  · exact ⟨4, rfl, by decide, by decide⟩
  · exact ⟨5, rfl, by decide, by decide⟩
  · exact ⟨6, rfl, by decide, by decide⟩
  · exact ⟨2, rfl, by decide, by decide⟩
  · exact ⟨1, rfl, by decide, by decide⟩
theorem divs10 {j : Int} (h0 : 0 ≤ j) (h1 : j < 4) : ∃ g : Nat, atI [D.int 1, .int 1, .int 2, .int 5] j = some (.int g) ∧ 0 < g ∧ g ∣ 10 ∧ g ≤ 5 := by
  have : j = 0 ∨ j = 1 ∨ j = 2 ∨ j = 3 := by omega
  rcases this with rfl | rfl | rfl | rfl
  · exact ⟨1, rfl, by decide, by decide, by decide⟩
  · exact ⟨1, rfl, by decide, by decide, by decide⟩
  · exact ⟨2, rfl, by decide, by decide, by decide⟩
  · exact ⟨5, rfl, by decide, by decide, by decide⟩
theorem gain10 {x : Int} {g : Nat} (h : 0 < g) (h6 : g ∣ 10) (h3 : g ≤ 5) : Inn 10 8 (Rat.divInt (x % 15 - 6) g) := by
  refine (Inn.of (B := 8) h ?_).dvd h6 (by decide)
  have := Int.emod_nonneg x (b := 15) (by decide)
  have := Int.emod_lt_of_pos x (b := 15) (by decide)
  have : (8 : Nat) ≤ 8 * g := Nat.le_mul_of_pos_right _ h
  omega
def wtk (ds : List Int) (k : Nat) : Int := 1 + ds.getD (1 + k) 0 % 4
theorem wtk_in {ds : List Int} (k : Nat) : 1 ≤ wtk ds k ∧ wtk ds k ≤ 4 := by
  unfold wtk
  have := Int.emod_nonneg (ds.getD (1 + k) 0) (b := 4) (by decide)
  have := Int.emod_lt_of_pos (ds.getD (1 + k) 0) (b := 4) (by decide)
  omega
theorem num_le {k : Int} {M : Nat} (hM : 0 < M) : (Rat.divInt k M).num.natAbs ≤ k.natAbs := by
  rw [← div_num (by omega), Int.natAbs_ediv_of_dvd (Int.ofNat_dvd_left.mpr (Nat.gcd_dvd_left _ _))]
  exact Nat.div_le_self _ _
/-- small gains, one divisor for the chances of a place -/
def walkP : Pl → Prop
  | .dr g bs => g.num.natAbs ≤ 8 ∧ ∃ S : Nat, 0 < S ∧ S ≤ 24 ∧ ∀ b ∈ bs, Inn S 1 b.1
  | .ch _ _ _ => False
theorem walk_turn {ds part : List Int} {n gN k : Nat} (hn : n ≤ 60) (hg : 0 < gN) (hk : k < n) (hpl : part.length = 14) (hd : ∀ i ∈ part, DrawOk i) (hcut : cutL (ds.map D.int) (some (2 + 14 * (k : Int))) (some (16 + 14 * (k : Int))) = part.map D.int) (found : List C) (hf : found.length ≤ 1000) (x1 c6 c7 c8 c9 c10 c11 : C) :
    ∃ (p : Pl) (d6 d7 d8 d9 d10 d11 : C), plOkG 10 8 n p ∧ plFair p ∧ ((∃ g bs, p = .dr g bs) ∧ walkP p) ∧
      b__law_walk_2 [.fz (.lst (ds.map .int)), x1, .fz (.int (n : Nat)), .fz (.int (gN : Nat)), .ow found, .fz (.int (k : Nat)), c6, c7, c8, c9, c10, c11] =
        .nx [.fz (.lst (ds.map .int)), x1, .fz (.int (n : Nat)), .fz (.int (gN : Nat)), .ow (found ++ [.fz (plD p)]), .fz (.int (k : Nat)), d6, d7, d8, d9, d10, d11] := by
  have A : ∀ j : Int, 0 ≤ j → j < 14 → atI (part.map D.int) j = some (.int (part.getD j.toNat 0)) := fun j h0 h1 => (atI_ds hd h0 (by omega)).1
  have AC : ∀ j : Int, 0 ≤ j → j < 14 → atI (part.map fun i => C.fz (.int i)) j = some (.fz (.int (part.getD j.toNat 0))) := fun j h0 h1 => by
    have := A j h0 h1
    have e : (part.map fun i => C.fz (.int i)) = (part.map D.int).map C.fz := by rw [List.map_map]; rfl
    rw [e, atI_map, this]; rfl
  obtain ⟨sz, es, sz0, sz6⟩ := sizes10 (j := part.getD 0 0 % 10) (Int.emod_nonneg _ (by decide)) (Int.emod_lt_of_pos _ (by decide))
  obtain ⟨g, eg, g0, g10, g5⟩ := divs10 (j := part.getD 13 0 / 15 % 4) (Int.emod_nonneg _ (by decide)) (Int.emod_lt_of_pos _ (by decide))
  have a0 := AC 0 (by decide) (by decide)
  have a13 := AC 13 (by decide) (by decide)
  have hgb : (g : Int) < 2 ^ 1000 := Int.lt_of_le_of_lt (b := 5) (by omega) (by decide)
  obtain ⟨s1, s2, s3⟩ := small_num (n := part.getD 13 0 % 15 - 6) (d := g) (by omega) hgb
  have hgain := sp__law_number s1 s2 s3
  have hin := gain10 (x := part.getD 13 0) g0 g10 g5
  have hw14 : wide 14 (k : Int) = true := by
    unfold wide
    have : Nat.log2 14 < 60 := by decide
    simp [this]
  have hlg : Nat.log2 15 < 9000 := by decide
  have hg' : (0 : Int) < (gN : Int) := by omega
  have m0 := Int.emod_nonneg (k : Int) (b := (gN : Int)) (by omega)
  have m1 : (k : Int) % (gN : Int) ≤ k := by
    rw [← Int.natCast_emod]
    exact_mod_cast Nat.mod_le k gN
  obtain ⟨lw, hlw⟩ : ∃ lw : Nat, (lw : Int) = (k : Int) - (k : Int) % (gN : Int) := ⟨((k : Int) - (k : Int) % (gN : Int)).toNat, by omega⟩
  have hlwk : lw ≤ k := by omega
  have hnl : (0 : Int) < (n : Int) - (lw : Int) := by omega
  have hlwn : lw < n := by omega
  let T : Nat → Nat := fun j => lw + (part.getD (7 + j) 0 % ((n : Int) - (lw : Int))).toNat
  have hT : ∀ j, ((T j : Nat) : Int) = (lw : Int) + part.getD (7 + j) 0 % ((n : Int) - (lw : Int)) := fun j => by
    have := Int.toNat_of_nonneg (Int.emod_nonneg (part.getD (7 + j) 0) (b := (n : Int) - (lw : Int)) (by omega))
    show ((lw + (part.getD (7 + j) 0 % ((n : Int) - (lw : Int))).toNat : Nat) : Int) = _
    omega
  have hTm : ∀ j, T j < n := fun j => by
    have := Int.emod_lt_of_pos (part.getD (7 + j) 0) hnl
    have := hT j
    omega
  have hr : r62 (sz : Int) = true := r62_n (by omega)
  have hW := wsF_in (wtk_in (ds := part)) sz
  have hS1 : 0 < wsF (wtk part) sz := by omega
  have hS2 : wsF (wtk part) sz < 2 ^ 1000 := Int.lt_of_le_of_lt (b := 24) (by omega) (by decide)
  have l11 : ∀ c10 : C, lcL [11] (Tg.put (.nm 11)) bYes e__law_walk_0 (intsD 0 sz) [] [.fz (.lst (ds.map .int)), x1, .fz (.int (n : Nat)), .fz (.int (gN : Nat)), .ow found, .fz (.int (k : Nat)), .ow (part.map fun i => .fz (.int i)), .fz (.int (lw : Nat)), .fz (.int (sz : Nat)), c9, c10, .no] =
      .ok ((List.range sz).map fun j => .fz (.int (wtk part j))) [.fz (.lst (ds.map .int)), x1, .fz (.int (n : Nat)), .fz (.int (gN : Nat)), .ow found, .fz (.int (k : Nat)), .ow (part.map fun i => .fz (.int i)), .fz (.int (lw : Nat)), .fz (.int (sz : Nat)), c9, c10, .no] := fun c10 => by
    refine lcL_rng _ sz _ (by omega) fun j hj => ?_
    have := AC (1 + j) (by omega) (by omega)
    have e3 : (1 + (j : Int)).toNat = 1 + j := by omega
    rw [e3] at this
    generalize (part.map fun i => C.fz (.int i)) = pc at *
    simp -implicitDefEqProofs [this, wtk]
  have hsum : intsOf ((List.range sz).map fun j => D.int (wtk part j)) = some ((List.range sz).map (wtk part)) := by
    have := intsOf_map ((List.range sz).map (wtk part))
    rwa [List.map_map] at this
  let P : Nat → Rat × Nat := fun j => (Rat.divInt (wtk part j) (wsF (wtk part) sz), T j)
  have lp : ∀ c11 : C, ∃ d11, forL (Tg.put (.nm 11)) b__law_walk_1 (intsD 0 sz) [.fz (.lst (ds.map .int)), x1, .fz (.int (n : Nat)), .fz (.int (gN : Nat)), .ow found, .fz (.int (k : Nat)), .ow (part.map fun i => .fz (.int i)), .fz (.int (lw : Nat)), .fz (.int (sz : Nat)), .ow ((List.range sz).map fun j => .fz (.int (wtk part j))), .ow [], c11] =
      .nx [.fz (.lst (ds.map .int)), x1, .fz (.int (n : Nat)), .fz (.int (gN : Nat)), .ow found, .fz (.int (k : Nat)), .ow (part.map fun i => .fz (.int i)), .fz (.int (lw : Nat)), .fz (.int (sz : Nat)), .ow ((List.range sz).map fun j => .fz (.int (wtk part j))), .ow ((List.range sz).map fun j => .fz (brD (P j))), d11] := fun c11 => by
    obtain ⟨ρ', e, d11, rfl⟩ := forL_sat (put := Tg.put (.nm 11)) (x := b__law_walk_1) (fun m ρ => ∃ c11, ρ = [.fz (.lst (ds.map .int)), x1, .fz (.int (n : Nat)), .fz (.int (gN : Nat)), .ow found, .fz (.int (k : Nat)), .ow (part.map fun i => .fz (.int i)), .fz (.int (lw : Nat)), .fz (.int (sz : Nat)), .ow ((List.range sz).map fun j => .fz (.int (wtk part j))), .ow ((List.range m).map fun j => .fz (brD (P j))), c11]) (intsD 0 sz) (fun j d ρ hd hI => by
      obtain ⟨hj, rfl⟩ := intsD_get hd
      obtain ⟨c11, rfl⟩ := hI
      rw [show (0 : Int) + (j : Int) = (j : Int) by omega]
      have h7 := AC (7 + j) (by omega) (by omega)
      have e3 : (7 + (j : Int)).toNat = 7 + j := by omega
      rw [e3] at h7
      have hwj : atI ((List.range sz).map fun j => C.fz (.int (wtk part j))) (j : Int) = some (.fz (.int (wtk part j))) := by rw [atI_natCast]; exact range_get _ hj
      obtain ⟨q1, q2, q3⟩ := small_num (n := wtk part j) hS1 hS2
      have hc := sp__law_number q1 q2 q3
      have hsz : ((List.range j).map fun j => C.fz (brD (P j))).length ≤ 1000000 := by simp; omega
      have hTj := hT j
      have hfz : ((List.range sz).map fun j => C.fz (.int (wtk part j))).map fzD = (List.range sz).map fun j => D.int (wtk part j) := by rw [List.map_map]; rfl
      have hws : ((List.range sz).map (wtk part)).sum = wsF (wtk part) sz := rfl
      have eb : brD (P j) = .tup [nD (Rat.divInt (wtk part j) (wsF (wtk part) sz)), .int ((T j : Nat) : Int)] := rfl
      rw [List.range_succ, List.map_append, List.map_cons, List.map_nil, eb, hTj]
      generalize ((List.range j).map fun j => C.fz (brD (P j))) = bl at *
      generalize (part.map fun i => C.fz (.int i)) = pc at *
      generalize ((List.range sz).map fun j => C.fz (.int (wtk part j))) = wc at *
      generalize ((List.range sz).map fun j => D.int (wtk part j)) = wd at *
      unfold nC at hc
      generalize nD (Rat.divInt (wtk part j) (wsF (wtk part) sz)) = qd at *
      generalize wtk part j = wj at *
      simp -implicitDefEqProofs [hwj, hfz, hsum, hws, hc, h7, hlwn, hsz]) (ρ := [.fz (.lst (ds.map .int)), x1, .fz (.int (n : Nat)), .fz (.int (gN : Nat)), .ow found, .fz (.int (k : Nat)), .ow (part.map fun i => .fz (.int i)), .fz (.int (lw : Nat)), .fz (.int (sz : Nat)), .ow ((List.range sz).map fun j => .fz (.int (wtk part j))), .ow [], c11]) ⟨_, rfl⟩
    rw [intsD_len] at e
    exact ⟨d11, e⟩
  have hwk : walkP (.dr (Rat.divInt (part.getD 13 0 % 15 - 6) g) ((List.range sz).map P)) := by
    refine ⟨Nat.le_trans (num_le g0) (by omega), (wsF (wtk part) sz).toNat, by omega, by omega, fun b hb => ?_⟩
    obtain ⟨j, hj, rfl⟩ := List.mem_map.mp hb
    have hj := List.mem_range.mp hj
    have e : wsF (wtk part) sz = ((wsF (wtk part) sz).toNat : Nat) := by omega
    show Inn _ 1 (Rat.divInt (wtk part j) (wsF (wtk part) sz))
    conv => arg 3; rw [e]
    refine Inn.of (B := 1) (by omega) ?_
    have := hW.2.2 j hj
    have := wtk_in (ds := part) j
    omega
  obtain ⟨d11, lp'⟩ := lp c11
  refine ⟨.dr (Rat.divInt (part.getD 13 0 % 15 - 6) g) ((List.range sz).map P), .ow (part.map fun i => .fz (.int i)), .fz (.int (lw : Nat)), .fz (.int (sz : Nat)), .ow ((List.range sz).map fun j => .fz (.int (wtk part j))), .fz (.lst ((List.range sz).map fun j => brD (P j))), d11, ⟨hin, by simp; omega, by simpa using sz6, fun b hb => ?_⟩, ⟨fun b hb => ?_, ?_⟩, ⟨⟨_, _, rfl⟩, hwk⟩, ?_⟩
  · obtain ⟨j, hj, rfl⟩ := List.mem_map.mp hb
    have hj := List.mem_range.mp hj
    refine ⟨?_, hTm j⟩
    have e : wsF (wtk part) sz = ((wsF (wtk part) sz).toNat : Nat) := by omega
    show Inn LL 1 (Rat.divInt (wtk part j) (wsF (wtk part) sz))
    rw [e]
    refine (Inn.of (B := 1) (by omega) ?_).dvd (dvd_LL (by omega) (by omega)) (by decide)
    have := hW.2.2 j hj
    have := wtk_in (ds := part) j
    omega
  · obtain ⟨j, hj, rfl⟩ := List.mem_map.mp hb
    have := wtk_in (ds := part) j
    exact divInt_pos (by omega) hS1
  · rw [List.map_map]
    show ((List.range sz).map fun j => Rat.divInt (wtk part j) (wsF (wtk part) sz)).foldl (· + ·) 0 = (1 : Rat)
    rw [wsF_fair _ (by omega) sz, Rat.divInt_self' (by omega)]
  · have hfs : found.length ≤ 1000000 := by omega
    have epl : plD (.dr (Rat.divInt (part.getD 13 0 % 15 - 6) g) ((List.range sz).map P)) = .tup [nD (Rat.divInt (part.getD 13 0 % 15 - 6) g), .str "draw", .lst ((List.range sz).map fun j => brD (P j))] := by
      simp only [plD, List.map_map]; rfl
    have hbf : ((List.range sz).map fun j => C.fz (brD (P j))).map fzD = (List.range sz).map fun j => brD (P j) := by rw [List.map_map]; rfl
    have hpm : (part.map D.int).map C.fz = part.map fun i => C.fz (.int i) := by rw [List.map_map]; rfl
    rw [epl]
    have ht0 : Int.toNat 0 = 0 := rfl
    have ht13 : Int.toNat 13 = 13 := rfl
    rw [ht0] at a0
    rw [ht13] at a13
    generalize ((List.range sz).map fun j => C.fz (brD (P j))) = bl at *
    generalize ((List.range sz).map fun j => brD (P j)) = bd at *
    generalize (part.map fun i => C.fz (.int i)) = pc at *
    generalize ((List.range sz).map fun j => C.fz (.int (wtk part j))) = wc at *
    unfold nC at hgain
    generalize nD (Rat.divInt (part.getD 13 0 % 15 - 6) g) = qd at *
    generalize part.getD 13 0 = y13 at *
    generalize part.getD 0 0 = y0 at *
    simp -implicitDefEqProofs [hw14, hcut, hpm, a0, a13, es, eg, hgain, hr, l11, lp', hbf, hfs, hlg, hg, ← hlw]
theorem sp__law_walk {ds : List Int} {most : Nat} (hm : 0 < most) (hm2 : most ≤ 60) (hl : 14 * most + 2 ≤ ds.length) (h : ∀ i ∈ ds, DrawOk i) : ∃ ps : List Pl, 0 < ps.length ∧ ps.length ≤ most ∧ ChG 10 8 ps ∧ (w__law_walk [.fz (.lst (ds.map .int)), .fz (.int most)] = .ok (.ow (ps.map fun p => .fz (plD p))) []) ∧ ∀ p ∈ ps, walkP p := by
  have a0 := (atI_ds h (j := 0) (by decide) (by omega)).1
  have a1 := (atI_ds h (j := 1) (by decide) (by omega)).1
  generalize ds.getD (Int.toNat 0) 0 = x0 at a0
  generalize ds.getD (Int.toNat 1) 0 = x1 at a1
  have hmp : (0 : Int) < most := by omega
  have b0 := Int.emod_nonneg x0 (b := most) (by omega)
  have b1 := Int.emod_lt_of_pos x0 hmp
  obtain ⟨n, hn⟩ : ∃ n : Nat, (n : Int) = 1 + x0 % (most : Int) := ⟨(1 + x0 % (most : Int)).toNat, by omega⟩
  have hn0 : 0 < n := by omega
  have hn1 : n ≤ most := by omega
  have hr : r62 (n : Int) = true := r62_n (by omega)
  obtain ⟨gN, eg, hg⟩ : ∃ gN : Nat, atI [D.int (n : Int), .int 1, .int 2, .int 3] (x1 % 4) = some (.int (gN : Int)) ∧ 0 < gN := by
    have : x1 % 4 = 0 ∨ x1 % 4 = 1 ∨ x1 % 4 = 2 ∨ x1 % 4 = 3 := by omega
    rcases this with e | e | e | e <;> rw [e]
    · exact ⟨n, rfl, hn0⟩
    · exact ⟨1, rfl, by decide⟩
    · exact ⟨2, rfl, by decide⟩
    · exact ⟨3, rfl, by decide⟩
  obtain ⟨ρ', e, ps, c5, c6, c7, c8, c9, c10, c11, rfl, h1, h2⟩ := forL_sat (put := Tg.put (.nm 5)) (x := b__law_walk_2) (fun k ρ => ∃ (ps : List Pl) (c5 c6 c7 c8 c9 c10 c11 : C), ρ = [.fz (.lst (ds.map .int)), .fz (.int most), .fz (.int (n : Nat)), .fz (.int (gN : Nat)), .ow (ps.map fun p => .fz (plD p)), c5, c6, c7, c8, c9, c10, c11] ∧ ps.length = k ∧ ∀ p ∈ ps, plOkG 10 8 n p ∧ plFair p ∧ (∃ g bs, p = .dr g bs) ∧ walkP p) (intsD 0 n) (fun k d ρ hd hI => by
    obtain ⟨hk, rfl⟩ := intsD_get hd
    obtain ⟨ps, c5, c6, c7, c8, c9, c10, c11, rfl, h1, h2⟩ := hI
    rw [show (0 : Int) + (k : Int) = (k : Int) by omega]
    have hc := cutL_eq (ds.map D.int) (2 + 14 * k) (16 + 14 * k) (by rw [List.length_map]; omega) (by omega)
    rw [show 16 + 14 * k - (2 + 14 * k) = 14 by omega, ← List.map_drop, ← List.map_take] at hc
    simp only [Int.natCast_add, Int.natCast_mul, Int.cast_ofNat_Int] at hc
    obtain ⟨p, d6, d7, d8, d9, d10, d11, p1, p2, p3, e⟩ := walk_turn (ds := ds) (part := (ds.drop (2 + 14 * k)).take 14) (n := n) (gN := gN) (k := k) (by omega) hg hk (by rw [List.length_take, List.length_drop]; omega) (fun i m => h i (List.mem_of_mem_drop (List.mem_of_mem_take m))) hc (ps.map fun p => .fz (plD p)) (by simp; omega) (.fz (.int most)) c6 c7 c8 c9 c10 c11
    have est : fStep (Tg.put (.nm 5)) b__law_walk_2 (.int (k : Nat)) [.fz (.lst (ds.map .int)), .fz (.int most), .fz (.int (n : Nat)), .fz (.int (gN : Nat)), .ow (ps.map fun p => .fz (plD p)), c5, c6, c7, c8, c9, c10, c11] = .nx [.fz (.lst (ds.map .int)), .fz (.int most), .fz (.int (n : Nat)), .fz (.int (gN : Nat)), .ow ((ps.map fun p => .fz (plD p)) ++ [.fz (plD p)]), .fz (.int (k : Nat)), d6, d7, d8, d9, d10, d11] := by
      rw [← e]
      generalize b__law_walk_2 = bb
      simp [fStep]
    rw [est]
    refine ⟨ps ++ [p], _, _, _, _, _, _, _, by rw [List.map_append]; rfl, by simp [h1], fun q m => ?_⟩
    rcases List.mem_append.mp m with m | m
    · exact h2 q m
    · rw [List.mem_singleton.mp m]; exact ⟨p1, p2, p3⟩) (ρ := [.fz (.lst (ds.map .int)), .fz (.int most), .fz (.int (n : Nat)), .fz (.int (gN : Nat)), .ow [], .no, .no, .no, .no, .no, .no, .no]) ⟨[], _, _, _, _, _, _, _, rfl, rfl, nofun⟩
  rw [intsD_len] at h1
  refine ⟨ps, by omega, by omega, ⟨fun p m => by rw [h1]; exact (h2 p m).1, fun p m => (h2 p m).2.1, fun p m => (h2 p m).2.2.1⟩, ?_, fun p m => (h2 p m).2.2.2⟩
  refine run_ok ?_
  generalize (ps.map fun p => C.fz (plD p)) = pc at *
  generalize ds.map D.int = dl at *
  simp -implicitDefEqProofs [m__law_walk, a0, a1, hm, ← hn, eg, hr, e]
end Lw

namespace Dn
open PySem PySem.Spec PyProof.Rows L2
def Okw (q : Rat) : Prop := q.num.natAbs < 2 ^ 4500 ∧ q.den < 2 ^ 4500
theorem Okq.w {q : Rat} (h : Okq q) : Okw q := ⟨Nat.lt_of_lt_of_le h.1 (Nat.pow_le_pow_right (by decide) (by decide)), Nat.lt_of_lt_of_le h.2 (Nat.pow_le_pow_right (by decide) (by decide))⟩
theorem Inn.okw {M B : Nat} {a : Rat} (h : Inn M B a) (h1 : B * M < 2 ^ 4500) (h2 : M < 2 ^ 4500) : Okw a := ⟨Nat.lt_of_le_of_lt h.num h1, Nat.lt_of_le_of_lt h.den h2⟩
def Szw (M B : Nat) : Prop := M < 2 ^ 4500 ∧ B * M < 2 ^ 4500
theorem Inn.szw {M B : Nat} {a : Rat} (h : Inn M B a) (z : Szw M B) : Okw a := h.okw z.2 z.1
theorem Szw.le {M B B' : Nat} (z : Szw M B) (h : B' ≤ B) : Szw M B' := ⟨z.1, Nat.lt_of_le_of_lt (Nat.mul_le_mul_right _ h) z.2⟩
theorem Szw.dvd {M M' B : Nat} (z : Szw M B) (h : M' ∣ M) (hp : 0 < M) : Szw M' B := by
  have := Nat.le_of_dvd hp h
  exact ⟨Nat.lt_of_le_of_lt this z.1, Nat.lt_of_le_of_lt (Nat.mul_le_mul_left _ this) z.2⟩
end Dn
namespace LA
open Dn
theorem Bd.okw {Z : Nat} {q : Rat} (h : Bd Z q) (hz : Z < 2 ^ 4500) : Okw q := ⟨Nat.lt_of_le_of_lt h.1 hz, Nat.lt_of_le_of_lt h.2 hz⟩
end LA
namespace Lw
open PySem PySem.Spec PyProof.Rows L2 Dn LA
theorem sp_numberW {n d : Int} (hd : d ≠ 0) (h : d.natAbs < 2 ^ 9000) : w_number [.fz (.int n), .fz (.int d)] = .ok (nC (Rat.divInt n d)) [] := by
  have hl : (Nat.gcd n.natAbs d.natAbs).log2 < 9000 := log2_lt (by decide) (Nat.lt_of_le_of_lt (Nat.gcd_le_right _ (by omega)) h)
  have hp : 0 < Nat.gcd n.natAbs d.natAbs := Nat.gcd_pos_of_pos_right _ (by omega)
  rcases Int.lt_or_gt_of_ne hd with h1 | h1
  · skip
    simp [w_number, runDef, noEr, m_number, h1, hd, hl, hp, div_numN h1, div_denN h1]
  · skip
    have h2 : ¬ d < 0 := by omega
    simp [w_number, runDef, noEr, m_number, h2, hd, hl, hp, div_num h1, div_den h1]
theorem wide_okW {i j : Int} (h1 : i.natAbs < 2 ^ 4500) (h2 : j.natAbs < 2 ^ 4500) : wide i j = true := wide_of h1 h2 (by decide) (by decide) (by decide)
theorem den_mulW {a b : Rat} (h1 : Okw a) (h2 : Okw b) : ((a.den : Int) * (b.den : Int)).natAbs < 2 ^ 9000 := by
  rw [Int.natAbs_mul]
  exact Nat.lt_of_lt_of_le (Nat.mul_lt_mul'' h1.2 h2.2) (by rw [← Nat.pow_add]; exact Nat.le_refl _)
theorem sp_plusW {a b : Rat} (h1 : Okw a) (h2 : Okw b) (h3 : (a + b).den < 2 ^ 4500) : w_plus [nC a, nC b] = .ok (nC (a + b)) [] := by
  have w1 : wide a.num b.den = true := wide_okW h1.1 (by simpa using h2.2)
  have w2 : wide b.num a.den = true := wide_okW h2.1 (by simpa using h1.2)
  have w3 : wide a.den b.den = true := wide_okW (by simpa using h1.2) (by simpa using h2.2)
  have hn := sp_numberW (n := a.num * b.den + b.num * a.den) den_ne (den_mulW h1 h2)
  rw [add_divInt] at hn
  simp [w_plus, runDef, noEr, m_plus, w1, w2, w3, atI_ofNat, hn]
theorem sp_timesW {a b : Rat} (h1 : Okw a) (h2 : Okw b) (h3 : (a * b).den < 2 ^ 4500) : w_times [nC a, nC b] = .ok (nC (a * b)) [] := by
  have w1 : wide a.num b.num = true := wide_okW h1.1 h2.1
  have w3 : wide a.den b.den = true := wide_okW (by simpa using h1.2) (by simpa using h2.2)
  have hn := sp_numberW (n := a.num * b.num) den_ne (den_mulW h1 h2)
  rw [mul_divInt] at hn
  simp [w_times, runDef, noEr, m_times, w1, w3, atI_ofNat, hn]
theorem total_loopW {M B : Nat} (x : C) : ∀ (qs : List Rat) (a : Rat) (B0 : Nat) (o : C), (∀ q ∈ qs, Inn M B q) → Inn M B0 a → Szw M (B0 + qs.length * B) →
    ∃ o', forL (Tg.put (.nm 2)) b_total_0 (qs.map nD) [x, nC a, o] = .nx [x, nC (sumF a qs), o']
  | [], a, B0, o, _, _, _ => ⟨o, rfl⟩
  | q :: qs, a, B0, o, h, h0, z => by
    have hq := h q List.mem_cons_self
    have hs := h0.add hq
    have zz : Szw M (B0 + B) := z.le (by simp [Nat.succ_mul] <;> omega)
    have hp := sp_plusW (h0.szw (zz.le (by omega))) (hq.szw (zz.le (by omega))) (hs.szw zz).2
    obtain ⟨o', e⟩ := total_loopW x qs (a + q) (B0 + B) (.fz (nD q)) (fun x m => h x (List.mem_cons_of_mem _ m)) hs (z.le (by simp [Nat.succ_mul] <;> omega))
    refine ⟨o', ?_⟩
    rw [List.map_cons, forL_cons]
    have e' : sumF a (q :: qs) = sumF (a + q) qs := rfl
    rw [e', ← e]
    simp [hp]
theorem sp_totalW {M B : Nat} {qs : List Rat} (h : ∀ q ∈ qs, Inn M B q) (hM : 0 < M) (z : Szw M (qs.length * B)) : w_total [.fz (.lst (qs.map nD))] = .ok (nC (sumF 0 qs)) [] := by
  obtain ⟨o', e⟩ := total_loopW (.fz (.lst (qs.map nD))) qs 0 0 .no h (Inn.zero hM) (by simpa using z)
  rw [← nC_zero] at e
  simp -implicitDefEqProofs [w_total, runDef, noEr, m_total, e]
theorem neg_okW {q : Rat} (h : Okw q) : Okw (-q) := ⟨by simpa using h.1, by simpa using h.2⟩
theorem sp_minusW {a b : Rat} (h1 : Okw a) (h2 : Okw b) (h3 : (a - b).den < 2 ^ 4500) : w_minus [nC a, nC b] = .ok (nC (a - b)) [] := by
  have w1 : wide a.num b.den = true := wide_okW h1.1 (by simpa using h2.2)
  have w2 : wide b.num a.den = true := wide_okW h2.1 (by simpa using h1.2)
  have w3 : wide a.den b.den = true := wide_okW (by simpa using h1.2) (by simpa using h2.2)
  have hn := sp_numberW (n := a.num * b.den - b.num * a.den) den_ne (den_mulW h1 h2)
  rw [sub_divInt] at hn
  simp [w_minus, runDef, noEr, m_minus, w1, w2, w3, atI_ofNat, hn]
section
variable {n w M m K m2 Z Z2 : Nat} {R : Nat → Nat → Rat}
structure RowsW (n w M m K m2 Z Z2 : Nat) (R : Nat → Nat → Rat) : Prop where
  hM : 0 < M
  hm : M ≤ m
  hw : w = n + 1
  hw1 : w ≤ 1000
  int : ∀ r j, r < n → j < n → ∃ k : Int, (M : Rat) * R r j = (k : Rat) ∧ k.natAbs ≤ m
  ns : NonSing n R
  hK : 0 < K
  last : ∀ r, r < n → ∃ k : Int, (K : Rat) * ((M : Rat) * R r n) = (k : Rat) ∧ k.natAbs ≤ m2
  z1 : (n * m) ^ n ≤ Z
  z2 : K * (n * m) ^ n ≤ Z2
  z3 : n * m2 * (n * m) ^ n ≤ Z2
  hZ : Z * Z2 < 2 ^ 4500
theorem RowsW.z12 (h : RowsW n w M m K m2 Z Z2 R) : (n * m) ^ n ≤ Z2 := Nat.le_trans (Nat.le_mul_of_pos_left _ h.hK) h.z2
theorem RowsW.sized (h : RowsW n w M m K m2 Z Z2 R) {c : Nat} (hc : c ≤ n) : Sized n w Z2 (gA n R c) ∧ ∀ i j, i < n → j < n → Bd Z (gA n R c i j) := by
  obtain ⟨D, h1, h2, h3, h4⟩ := gauss_size (w := w) h.hM h.hm (by rw [h.hw]; omega) h.int h.ns hc
  refine ⟨fun i j hi hj => ?_, fun i j hi hj => ?_⟩
  · by_cases hjn : j < n
    · obtain ⟨N, e, b⟩ := h3 i j hi hjn
      rw [e]
      exact bd_div h1 (Nat.le_trans b h.z12) (Nat.le_trans h2 h.z12)
    · have e0 : j = n := by rw [h.hw] at hj; omega
      rw [e0]
      obtain ⟨N, e, b⟩ := h4 K m2 n h.hK (by rw [h.hw]; omega) h.last i hi
      rw [e]
      have hK := h.hK
      refine bd_div (Int.mul_ne_zero (by omega) h1) (Nat.le_trans b h.z3) ?_
      rw [Int.natAbs_mul]
      exact Nat.le_trans (Nat.mul_le_mul_left _ h2) h.z2
  · obtain ⟨N, e, b⟩ := h3 i j hi hj
    rw [e]
    exact bd_div h1 (Nat.le_trans b h.z1) (Nat.le_trans h2 h.z1)
theorem RowsW.piv (h : RowsW n w M m K m2 Z Z2 R) {c : Nat} (hc : c < n) : ∃ p, fstP n c (gA n R c) = some p :=
  (gauss_inv (w := w) h.hM h.hm (by rw [h.hw]; omega) h.int h.ns c (by omega)).2 hc
theorem RowsW.sol (h : RowsW n w M m K m2 Z Z2 R) {r : Nat} (hr : r < n) : sm (fun i => gA n R n i n * R r i) n = R r n :=
  gauss_sol (w := w) h.hM h.hm (by rw [h.hw]; omega) h.int h.ns (by rw [h.hw]; omega) hr
theorem RowsW.common (h : RowsW n w M m K m2 Z Z2 R) : ∃ D : Nat, 0 < D ∧ D ≤ Z2 ∧ ∀ i, i < n → Inn D Z2 (gA n R n i n) := by
  obtain ⟨D, h1, h2, h3, h4⟩ := gauss_size (w := w) h.hM h.hm (by rw [h.hw]; omega) h.int h.ns (Nat.le_refl n)
  have hK := h.hK
  have hKD : (K : Int) * D ≠ 0 := Int.mul_ne_zero (by omega) h1
  have hp : 0 < ((K : Int) * D).natAbs := Int.natAbs_pos.mpr hKD
  refine ⟨((K : Int) * D).natAbs, hp, ?_, fun i hi => ?_⟩
  · rw [Int.natAbs_mul]
    exact Nat.le_trans (Nat.mul_le_mul_left _ h2) h.z2
  · obtain ⟨N, e, b⟩ := h4 K m2 n hK (by rw [h.hw]; omega) h.last i hi
    rw [e]
    exact inn_of hKD (Nat.le_trans (Nat.le_trans b h.z3) (Nat.le_mul_of_pos_right _ hp))
end
end Lw
namespace Lw
open PySem PySem.Spec PyProof.Rows L2 Dn LA
/-! ### the program's elimination (E1) -/
theorem Bd.wide {Z Z' : Nat} {a b : Rat} (h1 : Bd Z a) (h2 : Bd Z' b) : True := trivial
theorem div_divInt {a b : Rat} (hb : b ≠ 0) : Rat.divInt (a.num * b.den) (a.den * b.num) = a / b := by
  rw [Rat.div_def, Rat.inv_def, ← Rat.divInt_mul_divInt, Rat.num_divInt_den]
theorem sp_dividedW {a b : Rat} (h1 : Okw a) (h2 : Okw b) (hb : b ≠ 0) (h3 : (a / b).den < 2 ^ 4500) : w_divided [nC a, nC b] = .ok (nC (a / b)) [] := by
  have w1 : wide a.num b.den = true := wide_okW h1.1 (by simpa using h2.2)
  have w3 : wide a.den b.num = true := wide_okW (by simpa using h1.2) h2.1
  have hbn : b.num ≠ 0 := mt (num_ne b).mp hb
  have hn := sp_numberW (n := a.num * b.den) (d := a.den * b.num) (Int.mul_ne_zero (by have := a.den_pos; omega) hbn) (by
    rw [Int.natAbs_mul]
    have e : (2 : Nat) ^ 9000 = 2 ^ 4500 * 2 ^ 4500 := by rw [← Nat.pow_add]
    rw [e]
    exact Nat.mul_lt_mul_of_lt_of_lt (by simpa using h1.2) h2.1)
  rw [div_divInt hb] at hn
  simp [w_divided, runDef, noEr, m_divided, w1, w3, atI_ofNat, hn]
theorem nD_inj {a b : Rat} : (nD a = nD b) ↔ a = b := by
  constructor
  · intro h
    unfold nD at h
    injection h with h
    injection h with h1 h2
    injection h1 with h1
    injection h2 with h2
    injection h2 with h2
    exact Rat.ext h1 (by omega)
  · rintro rfl; rfl
section
variable {n w Z Z2 : Nat} {A : Nat → Nat → Rat} {c p : Nat}
theorem zip_range (w : Nat) (f g : Nat → D) : zipD ((List.range w).map f) ((List.range w).map g) = (List.range w).map fun j => .tup [f j, g j] := by
  unfold zipD
  rw [List.zipWith_map]
  simp [List.zipWith_self]
theorem sp_lessened {f g : Nat → Rat} (hw : w ≤ 1000) (hc : c < w) (h : ∀ j, j < w → Okw (f c) ∧ Okw (g j) ∧ Okw (f c * g j) ∧ Okw (f j) ∧ Okw (f j - f c * g j)) :
    w_lessened [.fz (.lst ((List.range w).map fun j => nD (f j))), .fz (.int (c : Nat)), .fz (.lst ((List.range w).map fun j => nD (g j)))] = .ok (.ow ((List.range w).map fun j => nC (f j - f c * g j))) [] := by
  have hz := zip_range w (fun j => nD (f j)) (fun j => nD (g j))
  have ha : atI ((List.range w).map fun j => nD (f j)) (c : Int) = some (nD (f c)) := by rw [atI_natCast]; exact range_get _ hc
  have l3 : lcL [3, 4] (Tg.put (.tup [(.nm 3), (.nm 4)])) bYes e_lessened_0 ((List.range w).map fun j => .tup [nD (f j), nD (g j)]) [] [.fz (.lst ((List.range w).map fun j => nD (f j))), .fz (.int (c : Nat)), .fz (.lst ((List.range w).map fun j => nD (g j))), .no, .no] =
      .ok ((List.range w).map fun j => nC (f j - f c * g j)) [.fz (.lst ((List.range w).map fun j => nD (f j))), .fz (.int (c : Nat)), .fz (.lst ((List.range w).map fun j => nD (g j))), .no, .no] := by
    refine lcL_getO _ (fun j => .tup [nD (f j), nD (g j)]) (fun j => nC (f j - f c * g j)) _ (by simp; omega) fun j hj => ?_
    obtain ⟨a1, a2, a3, a4, a5⟩ := h j (List.mem_range.mp hj)
    have t1 := sp_timesW a1 a2 a3.2
    have t2 := sp_minusW a4 a3 a5.2
    unfold nC at t1 t2 ⊢
    generalize nD (f j - f c * g j) = r4 at *
    generalize nD (f c * g j) = r3 at *
    generalize (List.range w).map (fun j => nD (f j)) = rf at *
    generalize (List.range w).map (fun j => nD (g j)) = rg at *
    generalize nD (f j) = r1 at *
    generalize nD (g j) = r2 at *
    generalize nD (f c) = r0 at *
    simp -implicitDefEqProofs [ha, t1, t2]
  refine run_ok ?_
  generalize ((List.range w).map fun j => nC (f j - f c * g j)) = out at *
  generalize ((List.range w).map fun j => D.tup [nD (f j), nD (g j)]) = zz at *
  generalize (List.range w).map (fun j => nD (f j)) = rf at *
  generalize (List.range w).map (fun j => nD (g j)) = rg at *
  simp -implicitDefEqProofs [m_lessened, hz, l3]
theorem nD0 : nD 0 = k_NOUGHT := rfl
theorem nD1 : nD 1 = k_ONE := rfl
theorem ne_nought (q : Rat) : neD (nD q) k_NOUGHT = some (.bl (decide (q ≠ 0))) := by
  rw [← nD0, neD_nD]
  simp
theorem pelim_turn (hw : w = n + 1) (hw1 : w ≤ 1000) (hZ : Z * Z2 < 2 ^ 4500) (hc : c < n) (s1 : Sized n w Z2 (scA A c p)) (s1c : ∀ i, i < n → Bd Z (scA A c p i c)) (s2 : Sized n w Z2 (stepA A c p)) {k : Nat} (hk : k < n) (c2 c3 c4 : C) :
    fStep (Tg.put (.nm 4)) b_solved_1 (.int (k : Nat)) [.ow (rowsC n w (midA A c p k)), .fz (.int (c : Nat)), c2, c3, c4, .no, .no] =
      .nx [.ow (rowsC n w (midA A c p (k + 1))), .fz (.int (c : Nat)), c2, c3, .fz (.int (k : Nat)), .no, .no] := by
  have hZ1 : 1 ≤ Z := by
    have := (s1c c hc).2
    have := (scA A c p c c).den_pos
    omega
  have hZ2p : 1 ≤ Z2 := by
    have := (s1 0 0 (by omega) (by omega)).2
    have := (scA A c p 0 0).den_pos
    omega
  have hZa : Z < 2 ^ 4500 := Nat.lt_of_le_of_lt (Nat.le_mul_of_pos_right Z hZ2p) hZ
  have hZ2 : Z2 < 2 ^ 4500 := Nat.lt_of_le_of_lt (Nat.le_mul_of_pos_left Z2 hZ1) hZ
  have mk : ∀ j, midA A c p k k j = scA A c p k j := fun j => by unfold midA; rw [if_neg (by omega)]
  have mc : ∀ j, midA A c p k c j = scA A c p c j := fun j => by
    unfold midA
    by_cases h : c < k
    · rw [if_pos h, step_piv]
    · rw [if_neg h]
  have hr := rowsC_at (n := n) (w := w) (A := midA A c p k) hk
  have hrc := rowsC_at (n := n) (w := w) (A := midA A c p k) hc
  have hd := rowD_at (w := w) (A := midA A c p k) (i := k) (j := c) (by omega)
  rw [mk] at hd
  have hne := ne_nought (scA A c p k c)
  have stay : (k = c ∨ scA A c p k c = 0) → rowsC n w (midA A c p k) = rowsC n w (midA A c p (k + 1)) := fun h => rows_same fun i j hi hj => by
    unfold midA
    by_cases h1 : i < k
    · rw [if_pos h1, if_pos (by omega)]
    · rw [if_neg h1]
      by_cases h2 : i = k
      · subst h2
        rw [if_pos (by omega)]
        by_cases e : i = c
        · subst e; rw [step_piv]
        · rcases h with h | h
          · exact absurd h e
          · rw [step_row e, h]; grind
      · rw [if_neg (by omega)]
  by_cases e : k = c
  · rw [← stay (.inl e)]
    have e2 : ((k : Int) = (c : Int)) ↔ True := by simp; omega
    simp -implicitDefEqProofs [e2]
  · have e2 : ((k : Int) = (c : Int)) ↔ False := by simp; omega
    by_cases hz : scA A c p k c = 0
    · rw [← stay (.inr hz)]
      rw [decide_eq_false (by simpa using hz)] at hne
      unfold rowD at hr
      generalize rowsC n w (midA A c p k) = rc at *
      generalize (List.range w).map (fun j => nD (midA A c p k k j)) = rd at *
      generalize nD (scA A c p k c) = q0 at *
      simp -implicitDefEqProofs [e2, hr, hd, hne]
    · rw [decide_eq_true (by simpa using hz)] at hne
      have hset := rowsC_set (n := n) (w := w) (A := midA A c p k) (k := k) hk (fun j => stepA A c p k j) _ rfl
      have hsame : rowsC n w (fun i j => if i = k then stepA A c p k j else midA A c p k i j) = rowsC n w (midA A c p (k + 1)) := rows_same fun i j hi hj => by
        by_cases h : i = k
        · subst h; rw [if_pos rfl]; unfold midA; rw [if_pos (by omega)]
        · rw [if_neg h]
          unfold midA
          by_cases h2 : i < k
          · rw [if_pos h2, if_pos (by omega)]
          · rw [if_neg h2, if_neg (by omega)]
      rw [hsame] at hset
      have bk := s1c k hk
      have hst : ∀ j, stepA A c p k j = scA A c p k j - scA A c p k c * scA A c p c j := fun j => by rw [step_row e]; grind
      have hls := sp_lessened (w := w) (c := c) (f := fun j => midA A c p k k j) (g := fun j => midA A c p k c j) hw1 (by omega) fun j hj => by
        rw [mk, mk, mc]
        have bc := s1 c j hc hj
        have bj := s1 k j hk hj
        have bn := s2 k j hk hj
        rw [hst] at bn
        exact ⟨bk.okw hZa, bc.okw hZ2, (bk.mul bc).okw hZ, bj.okw hZ2, bn.okw hZ2⟩
      have hout : ((List.range w).map fun j => nC (midA A c p k k j - midA A c p k k c * midA A c p k c j)) = (List.range w).map fun j => nC (stepA A c p k j) := by
        refine List.map_congr_left fun j _ => ?_
        rw [mk, mk, mc, hst]
      rw [hout] at hls
      unfold rowD at hr hrc
      generalize rowsC n w (midA A c p k) = rc at *
      generalize rowsC n w (midA A c p (k + 1)) = rc2 at *
      generalize (List.range w).map (fun j => nD (midA A c p k k j)) = rd at *
      generalize (List.range w).map (fun j => nD (midA A c p k c j)) = rd2 at *
      generalize ((List.range w).map fun j => nC (stepA A c p k j)) = nw at *
      generalize nD (scA A c p k c) = q0 at *
      simp -implicitDefEqProofs [e2, hr, hrc, hd, hne, hls, hset]
theorem pelim_loop (hw : w = n + 1) (hw1 : w ≤ 1000) (hZ : Z * Z2 < 2 ^ 4500) (hc : c < n) (s1 : Sized n w Z2 (scA A c p)) (s1c : ∀ i, i < n → Bd Z (scA A c p i c)) (s2 : Sized n w Z2 (stepA A c p)) (c2 c3 c4 : C) :
    ∃ d4, forL (Tg.put (.nm 4)) b_solved_1 (intsD 0 n) [.ow (rowsC n w (scA A c p)), .fz (.int (c : Nat)), c2, c3, c4, .no, .no] =
      .nx [.ow (rowsC n w (stepA A c p)), .fz (.int (c : Nat)), c2, c3, d4, .no, .no] := by
  obtain ⟨ρ', e, d4, rfl⟩ := forL_sat (put := Tg.put (.nm 4)) (x := b_solved_1) (fun k ρ => ∃ c4, ρ = [.ow (rowsC n w (midA A c p k)), .fz (.int (c : Nat)), c2, c3, c4, .no, .no]) (intsD 0 n) (fun k d ρ hd h => by
    obtain ⟨hk, rfl⟩ := intsD_get hd
    obtain ⟨c4, rfl⟩ := h
    rw [show (0 : Int) + (k : Int) = (k : Int) by omega]
    rw [pelim_turn hw hw1 hZ hc s1 s1c s2 hk c2 c3 c4]
    exact ⟨_, rfl⟩) (ρ := [.ow (rowsC n w (midA A c p 0)), .fz (.int (c : Nat)), c2, c3, c4, .no, .no]) ⟨_, rfl⟩
  rw [intsD_len] at e
  refine ⟨d4, ?_⟩
  have e1 : rowsC n w (midA A c p 0) = rowsC n w (scA A c p) := rows_same fun i j _ _ => by unfold midA; rw [if_neg (by omega)]
  have e2 : rowsC n w (midA A c p n) = rowsC n w (stepA A c p) := rows_same fun i j hi _ => by unfold midA; rw [if_pos hi]
  rw [e1, e2] at e
  exact e
end
theorem intsD_map (k m : Nat) : intsD (k : Int) m = (List.range' k m).map nI := by
  unfold intsD
  rw [List.range'_eq_map_range, List.map_map]
  refine List.map_congr_left fun i _ => ?_
  simp [nI]
theorem find_filter {α : Type} (P : α → Bool) : ∀ l : List α, (l.filter P).head? = l.find? P
  | [] => rfl
  | a :: l => by
    rw [List.filter_cons, List.find?_cons]
    by_cases h : P a = true
    · rw [if_pos h, h]; rfl
    · rw [if_neg h]
      simp only [Bool.not_eq_true] at h
      rw [h]; exact find_filter P l
section
variable {n w Z Z2 M m K m2 : Nat} {R : Nat → Nat → Rat}
theorem atI_last {α : Type} {xs : List α} {w n : Nat} {a : α} (hl : xs.length = w) (hw : w = n + 1) (h : xs[n]? = some a) : atI xs (-1) = some a := by
  have e : ixN xs.length (-1) = some n := by
    unfold L2.ixN
    rw [hl, if_neg (by omega), if_pos (by omega)]
    congr 1
    omega
  unfold L2.atI
  rw [e]
  exact h
theorem rowsC_setB {n w : Nat} {A B : Nat → Nat → Rat} {k l : Nat} (h : k < n) : setF (k : Int) (rowsC n w A) (.fz (rowD w B l)) = some (rowsC n w fun i j => if i = k then B l j else A i j) := by
  rw [setF_in (by omega) (by rw [rowsC_len]; omega), Int.toNat_natCast]
  unfold rowsC
  rw [range_set]
  congr 1
  refine range_congr fun i hi => ?_
  by_cases e : i = k
  · subst e; simp [rowD]
  · rw [if_neg e]; unfold rowD; simp [e]
theorem pcolumn_turn (h : RowsW n w M m K m2 Z Z2 R) {c : Nat} (hc : c < n) (c1 c2 c3 c4 : C) :
    (fStep (Tg.put (.nm 1)) b_solved_2 (.int (c : Nat)) [.ow (rowsC n w (gA n R c)), c1, c2, c3, c4, .no, .no]).sat
      fun ρ => ∃ c1 c2 c3 c4, ρ = [.ow (rowsC n w (gA n R (c + 1))), c1, c2, c3, c4, .no, .no] := by
  obtain ⟨p, hp⟩ := h.piv hc
  obtain ⟨p1, p2, p3⟩ := fstP_some hp
  have hg : gA n R (c + 1) = stepA (gA n R c) c p := by
    show stepA (gA n R c) c ((fstP n c (gA n R c)).getD c) = _
    rw [hp]; rfl
  obtain ⟨z1, y1⟩ := h.sized (c := c) (by omega)
  obtain ⟨z2, y2⟩ := h.sized (c := c + 1) (by omega)
  rw [hg] at z2 y2 ⊢
  have hw := h.hw
  have hw1 := h.hw1
  have hZ := h.hZ
  generalize gA n R c = A at *
  have hZ1 : 1 ≤ Z := by
    have := (y1 0 0 (by omega) (by omega)).2
    have := (A 0 0).den_pos
    omega
  have hZ2p : 1 ≤ Z2 := by
    have := (z1 0 0 (by omega) (by omega)).2
    have := (A 0 0).den_pos
    omega
  have hZa : Z < 2 ^ 4500 := Nat.lt_of_le_of_lt (Nat.le_mul_of_pos_right Z hZ2p) hZ
  have hZ2 : Z2 < 2 ^ 4500 := Nat.lt_of_le_of_lt (Nat.le_mul_of_pos_left Z2 hZ1) hZ
  have zc : ∀ i, i < n → Bd Z (scA A c p i c) := fun i hi => by
    by_cases e : i = c
    · subst e; rw [← step_piv]; exact y2 i i hi hi
    · unfold scA
      rw [if_neg e]
      unfold swapA
      rw [if_neg e]
      split
      · exact y1 c c hc hc
      · exact y1 i c hi hc
  have zs : Sized n w Z2 (scA A c p) := fun i j hi hj => by
    by_cases e : i = c
    · subst e; rw [← step_piv]; exact z2 i j hi hj
    · unfold scA
      rw [if_neg e]
      unfold swapA
      rw [if_neg e]
      split
      · exact z1 c j hc hj
      · exact z1 i j hi hj
  have hr1 : r62 (n : Int) = true := by rw [r62_eq]; exact decide_eq_true ⟨by omega, by omega⟩
  have hr2 : r62 (c : Int) = true := by rw [r62_eq]; exact decide_eq_true ⟨by omega, by omega⟩
  have ht : ((n : Int) - (c : Int)).toNat = n - c := by omega
  -- the pivot
  have l4 : ∀ x2 x3 : C, lcL [4] (Tg.put (.nm 4)) (asB (eOp neD (eOp ixD (eIxV 0 (eVar 4)) (eVar 1)) (ret k_NOUGHT))) (eVar 4) (intsD (c : Int) (n - c)) [] [.ow (rowsC n w A), .fz (.int (c : Nat)), x2, x3, .no, .no, .no] =
      .ok (((List.range' c (n - c)).filter fun k => decide (A k c ≠ 0)).map cI) [.ow (rowsC n w A), .fz (.int (c : Nat)), x2, x3, .no, .no, .no] := fun x2 x3 => by
    rw [intsD_map]
    refine lcL_filtO _ nI (fun k => decide (A k c ≠ 0)) cI _ (by simp; omega) fun k hk => ?_
    have hk := List.mem_range'_1.mp hk
    have hr := rowsC_at (n := n) (w := w) (A := A) (k := k) (by omega)
    have hd := rowD_at (w := w) (A := A) (i := k) (j := c) (by omega)
    have hne := ne_nought (A k c)
    unfold rowD at hr
    generalize rowsC n w A = ra at *
    generalize (List.range w).map (fun j => nD (A k j)) = rd at *
    by_cases hz : A k c = 0
    · rw [decide_eq_false (by simpa using hz)] at hne ⊢
      generalize nD (A k c) = q0 at *
      simp -implicitDefEqProofs [nI, hr, hd, hne]
    · rw [decide_eq_true (by simpa using hz)] at hne ⊢
      generalize nD (A k c) = q0 at *
      simp -implicitDefEqProofs [nI, cI, hr, hd, hne]
  have hhead : ((List.range' c (n - c)).filter fun k => decide (A k c ≠ 0)).head? = some p := by rw [find_filter]; exact hp
  generalize ((List.range' c (n - c)).filter fun k => decide (A k c ≠ 0)) = FL at *
  obtain ⟨rest, rfl⟩ : ∃ r, FL = p :: r := by
    cases FL with
    | nil => cases hhead
    | cons a r => cases hhead; exact ⟨r, rfl⟩
  have hat0 : ixD (.lst (((p :: rest).map cI).map fzD)) (.int 0) = some (.int (p : Nat)) := by
    have := at_nI (l := p :: rest) (j := 0) (by simp)
    rw [fz_cI]
    exact this
  -- the exchange
  have hp1 := rowsC_at (n := n) (w := w) (A := A) p2
  have hc1 := rowsC_at (n := n) (w := w) (A := A) hc
  have hs1 := rowsC_setB (n := n) (w := w) (A := A) (B := A) (k := c) (l := p) hc
  have hs2 := rowsC_setB (n := n) (w := w) (A := fun i j => if i = c then A p j else A i j) (B := A) (k := p) (l := c) p2
  have hsw : rowsC n w (fun i j => if i = p then A c j else (fun i j => if i = c then A p j else A i j) i j) = rowsC n w (swapA A c p) := rows_same fun i j hi hj => by
    unfold swapA
    dsimp only
    by_cases e : i = c
    · subst e
      by_cases e2 : i = p
      · subst e2; simp
      · rw [if_neg e2, if_pos rfl, if_pos rfl]
    · by_cases e2 : i = p
      · subst e2; rw [if_pos rfl, if_neg e, if_pos rfl]
      · rw [if_neg e2, if_neg e, if_neg e, if_neg e2]
  rw [hsw] at hs2
  have hsc : ∀ j, swapA A c p c j = A p j := fun j => by unfold swapA; rw [if_pos rfl]
  have hc2 := rowsC_at (n := n) (w := w) (A := swapA A c p) hc
  have hd2 := rowD_at (w := w) (A := swapA A c p) (i := c) (j := c) (by omega)
  rw [hsc] at hd2
  have bpc := z1 p c p2 (by omega)
  have bi := bpc.inv p3
  have e1i : (1 : Rat) / A p c = (A p c)⁻¹ := by rw [Rat.div_def, Rat.one_mul]
  have hdv := sp_dividedW (a := 1) (b := A p c) ⟨by decide +kernel, by decide +kernel⟩ (bpc.okw hZ2) p3 (by rw [e1i]; exact (bi.okw hZ2).2)
  rw [e1i] at hdv
  have l5 : ∀ (x0 x1 x2 x4 : C), lcL [5] (Tg.put (.nm 5)) bYes e_solved_0 ((List.range w).map fun j => nD (swapA A c p c j)) [] [x0, x1, x2, nC (A p c)⁻¹, x4, .no, .no] =
      .ok ((List.range w).map fun j => nC (scA A c p c j)) [x0, x1, x2, nC (A p c)⁻¹, x4, .no, .no] := fun x0 x1 x2 x4 => by
    refine lcL_getO _ (fun j => nD (swapA A c p c j)) (fun j => nC (scA A c p c j)) _ (by simp; omega) fun j hj => ?_
    have hj := List.mem_range.mp hj
    have es : scA A c p c j = A p j / A p c := by unfold scA; rw [if_pos rfl]
    have eq : (A p c)⁻¹ * A p j = scA A c p c j := by rw [es, Rat.div_def, Rat.mul_comm]
    have bs := zs c j hc hj
    have t := sp_timesW (bi.okw hZ2) ((z1 p j p2 hj).okw hZ2) (by rw [eq]; exact (bs.okw hZ2).2)
    rw [eq] at t
    rw [hsc]
    unfold nC at t ⊢
    generalize nD (scA A c p c j) = q1 at *
    generalize nD (A p c)⁻¹ = q2 at *
    generalize nD (A p j) = q3 at *
    simp -implicitDefEqProofs [t]
  have hs3 := rowsC_set (n := n) (w := w) (A := swapA A c p) (k := c) hc (fun j => scA A c p c j) _ rfl
  have hsame : rowsC n w (fun i j => if i = c then scA A c p c j else swapA A c p i j) = rowsC n w (scA A c p) := rows_same fun i j hi hj => by
    by_cases e : i = c
    · rw [if_pos e, e]
    · rw [if_neg e]; unfold scA; rw [if_neg e]
  rw [hsame] at hs3
  obtain ⟨d4, e2⟩ := pelim_loop (n := n) (w := w) (A := A) (c := c) (p := p) hw hw1 hZ hc zs zc z2 (.fz (.int (p : Nat))) (nC (A p c)⁻¹) c4
  have lA := rowsC_len (n := n) (w := w) (A := A)
  have lS := rowsC_len (n := n) (w := w) (A := scA A c p)
  unfold rowD at hp1 hc1 hs1 hs2 hc2
  have hn1 : nC 1 = .fz k_ONE := rfl
  rw [hn1] at hdv
  generalize rowsC n w (scA A c p) = rs at *
  generalize rowsC n w (swapA A c p) = rw' at *
  generalize rowsC n w (fun i j => if i = c then A p j else A i j) = rx at *
  generalize rowsC n w (stepA A c p) = rt at *
  generalize rowsC n w A = ra at *
  generalize ((List.range w).map fun j => nC (scA A c p c j)) = nw at *
  generalize ((List.range w).map fun j => nD (swapA A c p c j)) = rsw at *
  generalize ((List.range w).map fun j => nD (A c j)) = rc at *
  generalize ((List.range w).map fun j => nD (A p j)) = rp at *
  generalize ((p :: rest).map cI) = FC at *
  unfold nC at *
  generalize nD (A p c)⁻¹ = qi at *
  generalize nD (A p c) = qp at *
  simp -implicitDefEqProofs [hr1, hr2, ht, l4, hat0, hp1, hc1, hs1, hs2, hc2, hd2, hdv, l5, hs3, lA, lS, e2]
theorem sp_solved (h : RowsW n w M m K m2 Z Z2 R) (hn : n ≤ 900) : w_solved [.fz (.lst ((List.range n).map (rowD w R)))] = .ok (.ow ((List.range n).map fun i => nC (gA n R n i n))) [] := by
  have hw := h.hw
  have e0 : ((List.range n).map (rowD w R)).map C.fz = rowsC n w R := by rw [List.map_map]; rfl
  obtain ⟨ρ', e, c1, c2, c3, c4, rfl⟩ := forL_sat (put := Tg.put (.nm 1)) (x := b_solved_2) (fun c ρ => ∃ c1 c2 c3 c4, ρ = [.ow (rowsC n w (gA n R c)), c1, c2, c3, c4, .no, .no]) (intsD 0 n) (fun c d ρ hd hI => by
    obtain ⟨hc, rfl⟩ := intsD_get hd
    obtain ⟨c1, c2, c3, c4, rfl⟩ := hI
    rw [show (0 : Int) + (c : Int) = (c : Int) by omega]
    exact pcolumn_turn h hc c1 c2 c3 c4) (ρ := [.ow (rowsC n w R), .no, .no, .no, .no, .no, .no]) ⟨_, _, _, _, rfl⟩
  rw [intsD_len] at e
  have hr1 : r62 (n : Int) = true := by rw [r62_eq]; exact decide_eq_true ⟨by omega, by omega⟩
  have l6 : ∀ x, x = C.fz (.lst ((List.range n).map (rowD w (gA n R n)))) → lcL [6] (Tg.put (.nm 6)) bYes e_solved_3 ((List.range n).map (rowD w (gA n R n))) [] [x, c1, c2, c3, c4, .no, .no] =
      .ok ((List.range n).map fun i => nC (gA n R n i n)) [x, c1, c2, c3, c4, .no, .no] := fun x _ => by
    refine lcL_getO _ (rowD w (gA n R n)) (fun i => nC (gA n R n i n)) _ (by simp; omega) fun i hi => ?_
    have hz : atI ((List.range w).map fun j => nD (gA n R n i j)) (-1) = some (nD (gA n R n i n)) := by
      have hl : ((List.range w).map fun j => nD (gA n R n i j)).length = w := by simp
      exact atI_last hl (by omega) (range_get _ (by omega))
    unfold rowD
    unfold nC
    generalize nD (gA n R n i n) = q at *
    generalize (List.range w).map (fun j => nD (gA n R n i j)) = rd at *
    simp -implicitDefEqProofs [hz]
  have hfz : (rowsC n w (gA n R n)).map fzD = (List.range n).map (rowD w (gA n R n)) := by unfold rowsC; rw [List.map_map]; rfl
  have lA := rowsC_len (n := n) (w := w) (A := R)
  have l6' := l6 _ rfl
  clear l6
  refine run_ok ?_
  generalize (List.range n).map (rowD w R) = rd at *
  generalize (List.range n).map (rowD w (gA n R n)) = re at *
  generalize rowsC n w (gA n R n) = rt at *
  generalize ((List.range n).map fun i => nC (gA n R n i n)) = out at *
  generalize rowsC n w R = r0 at *
  simp -implicitDefEqProofs [m_solved, e0, lA, hr1, e, hfz, l6']
end
end Lw

namespace Lw
open PySem PySem.Spec PyProof.Rows L2 Dn LA
/-! ### what the program reaches (E2) -/
theorem foldT_app : ∀ (ts F : List Nat), ∃ N, ts.foldl addT F = F ++ N
  | [], F => ⟨[], by simp⟩
  | t :: ts, F => by
    obtain ⟨N, e⟩ := foldT_app ts (addT F t)
    rw [List.foldl_cons, e]
    unfold addT
    split
    · exact ⟨N, rfl⟩
    · exact ⟨t :: N, by simp⟩
section
variable {Mg Bg : Nat} {ps : List Pl}
theorem padd_loop (x0 x1 : C) : ∀ (ts F W : List Nat) (c4 : C), F.length + ts.length ≤ 1000000 → W.length + ts.length ≤ 1000000 →
    ∃ N d4, ts.foldl addT F = F ++ N ∧ forL (Tg.put (.nm 4)) b_reached_0 (ts.map nI) [x0, x1, .ow (F.map cI), .ow (W.map cI), c4] = .nx [x0, x1, .ow ((F ++ N).map cI), .ow ((W ++ N).map cI), d4]
  | [], F, W, c4, _, _ => ⟨[], c4, by simp, by simp⟩
  | t :: ts, F, W, c4, hl, hl2 => by
    simp only [List.length_cons] at hl hl2
    have hi := in_nI t F
    have hz := fz_cI F
    by_cases h : t ∈ F
    · obtain ⟨N, d4, e1, e⟩ := padd_loop x0 x1 ts F W (.fz (nI t)) (by omega) (by omega)
      refine ⟨N, d4, ?_, ?_⟩
      · rw [List.foldl_cons, ← e1]; unfold addT; rw [if_pos h]
      · rw [← e, List.map_cons]
        refine forL_one ?_
        rw [decide_eq_true h] at hi
        generalize F.map cI = fc at *
        generalize F.map nI = fd at *
        generalize W.map cI = wc at *
        simp -implicitDefEqProofs [nI, hz, ninD, hi]
    · obtain ⟨N, d4, e1, e⟩ := padd_loop x0 x1 ts (F ++ [t]) (W ++ [t]) (.fz (nI t)) (by simp; omega) (by simp; omega)
      refine ⟨t :: N, d4, ?_, ?_⟩
      · rw [List.foldl_cons]
        have ea : addT F t = F ++ [t] := by unfold addT; rw [if_neg h]
        rw [ea, e1]; simp
      · have q1 : F ++ t :: N = F ++ [t] ++ N := by simp
        have q2 : W ++ t :: N = W ++ [t] ++ N := by simp
        rw [q1, q2, ← e, List.map_cons]
        refine forL_one ?_
        rw [decide_eq_false h] at hi
        have ei : (F ++ [t]).map cI = F.map cI ++ [.fz (.int (t : Nat))] := by simp [cI]
        have ei2 : (W ++ [t]).map cI = W.map cI ++ [.fz (.int (t : Nat))] := by simp [cI]
        have hs : (F.map cI).length ≤ 1000000 := by simp; omega
        have hs2 : (W.map cI).length ≤ 1000000 := by simp; omega
        rw [ei, ei2]
        generalize F.map cI = fc at *
        generalize F.map nI = fd at *
        generalize W.map cI = wc at *
        simp -implicitDefEqProofs [nI, hz, ninD, hi, hs, hs2]
/-- found, waiting -/
structure DfOk (ps : List Pl) (x : Nat) (F W : List Nat) : Prop where
  nd : F.Nodup
  wnd : W.Nodup
  start : x ∈ F
  rc : ∀ y ∈ F, RcT ps x y
  wf : ∀ y ∈ W, y ∈ F
  cl : ∀ y ∈ F, y ∉ W → ∀ z ∈ tgA ps y, z ∈ F
theorem DfOk.step {x y : Nat} {F W N : List Nat} (h : DfOk ps x F (W ++ [y])) (e : (tgA ps y).foldl addT F = F ++ N) : DfOk ps x (F ++ N) (W ++ N) := by
  have hm : ∀ z, z ∈ F ++ N ↔ z ∈ F ∨ z ∈ tgA ps y := fun z => by rw [← e]; exact foldT_mem _ _ _
  have hy : y ∈ F := h.wf y (by simp)
  have nd : (F ++ N).Nodup := by rw [← e]; exact foldT_nd _ _ h.nd
  refine ⟨nd, ?_, List.mem_append_left _ h.start, fun z m => ?_, fun z m => ?_, fun z m hn t ht => ?_⟩
  · rw [List.nodup_append] at nd ⊢
    refine ⟨(List.nodup_append.mp h.wnd).1, nd.2.1, fun a ha b hb => nd.2.2 a (h.wf a (List.mem_append_left _ ha)) b hb⟩
  · rcases (hm z).mp m with m | m
    · exact h.rc z m
    · exact .step (h.rc y hy) m
  · rcases List.mem_append.mp m with m | m
    · exact List.mem_append_left _ (h.wf z (List.mem_append_left _ m))
    · exact List.mem_append_right _ m
  · have hzF : z ∈ F := by
      rcases List.mem_append.mp m with m | m
      · exact m
      · exact absurd (List.mem_append_right _ m) hn
    by_cases e2 : z = y
    · subst e2; exact (hm t).mpr (.inr ht)
    · refine (hm t).mpr (.inl (h.cl z hzF (fun q => ?_) t ht))
      rcases List.mem_append.mp q with q | q
      · exact hn (List.mem_append_left _ q)
      · exact e2 (List.mem_singleton.mp q)
theorem reach_turn (pok : ∀ p ∈ ps, plOkG Mg Bg ps.length p) {y : Nat} (hy : y < ps.length) (x1 c4 : C) {F W : List Nat} (hF : F.length + 6 ≤ 1000000) (hW : W.length + 6 ≤ 1000000) :
    ∃ N d4, (tgA ps y).foldl addT F = F ++ N ∧ b_reached_1 [.fz (.lst (ps.map plD)), x1, .ow (F.map cI), .ow ((W ++ [y]).map cI), c4] = .nx [.fz (.lst (ps.map plD)), x1, .ow ((F ++ N).map cI), .ow ((W ++ N).map cI), d4] := by
  have h1 : ps[y]? = some ps[y] := List.getElem?_eq_getElem hy
  have pk := pok _ (List.getElem_mem hy)
  have et : tgA ps y = tgsF ps[y] := by unfold tgA; rw [h1]
  have h6 := (tgs_ok pk).1
  have htg := sp_targets h1 pk
  obtain ⟨N, d4, e1, e2⟩ := padd_loop (.fz (.lst (ps.map plD))) x1 (tgsF ps[y]) F W c4 (by omega) (by omega)
  rw [et]
  refine ⟨N, d4, e1, ?_⟩
  have hz : ((tgsF ps[y]).map fun t => C.fz (D.int (t : Nat))).map fzD = (tgsF ps[y]).map nI := by rw [List.map_map]; rfl
  have ew : (W ++ [y]).map cI = W.map cI ++ [.fz (.int (y : Nat))] := by simp [cI]
  have g1 : (W.map cI ++ [C.fz (.int (y : Nat))])[(W.map cI ++ [C.fz (.int (y : Nat))]).length - 1]? = some (.fz (.int (y : Nat))) := by simp
  have g2 : (W.map cI ++ [C.fz (.int (y : Nat))]).dropLast = W.map cI := by simp
  rw [ew]
  rw [← e2]
  generalize (W.map cI ++ [C.fz (.int (y : Nat))]) = wl at *
  generalize ps.map plD = gm at *
  generalize ((tgsF ps[y]).map fun t => C.fz (D.int (t : Nat))) = tc at *
  generalize (tgsF ps[y]).map nI = td at *
  simp -implicitDefEqProofs [g1, g2, htg, hz]
theorem reach_loop (pok : ∀ p ∈ ps, plOkG Mg Bg ps.length p) (hl : ps.length ≤ 1000) {x : Nat} (hx : x < ps.length) (x1 : C) : ∀ (k f : Nat) (F W : List Nat) (c4 : C), DfOk ps x F W → 2 * (ps.length - F.length) + W.length ≤ k → k < f →
    ∃ G d4, DfOk ps x G [] ∧ whileL (bVar 3) b_reached_1 f [.fz (.lst (ps.map plD)), x1, .ow (F.map cI), .ow (W.map cI), c4] = .nx [.fz (.lst (ps.map plD)), x1, .ow (G.map cI), .ow [], d4]
  | k, f + 1, F, W, c4, h, hk, hf => by
    have ht := tgA_lt pok
    have hFl : ∀ y ∈ F, y < ps.length := fun y m => rcT_lt hx ht (h.rc y m)
    have hFn := nodup_le h.nd hFl
    have hWn : W.length ≤ ps.length := nodup_le h.wnd fun y m => hFl y (h.wf y m)
    rcases List.eq_nil_or_concat W with rfl | ⟨W', y, rfl⟩
    · exact ⟨F, c4, h, by simp [whileL]⟩
    · rw [List.concat_eq_append] at *
      have hyl := hFl y (h.wf y (by simp))
      obtain ⟨N, d4, e1, e2⟩ := reach_turn pok hyl x1 c4 (F := F) (W := W') (by omega) (by simp at hWn; omega)
      have h2 := h.step e1
      have hFn2 := nodup_le h2.nd fun z m => rcT_lt hx ht (h2.rc z m)
      simp only [List.length_append, List.length_cons, List.length_nil] at hk hFn2
      cases k with
      | zero => omega
      | succ k =>
        obtain ⟨G, d, hG, e3⟩ := reach_loop pok hl hx x1 k f (F ++ N) (W' ++ N) d4 h2 (by simp only [List.length_append]; omega) (by omega)
        refine ⟨G, d, hG, ?_⟩
        rw [← e3]
        have hne : ((W' ++ [y]).map cI).isEmpty = false := by simp
        have hnn : bVar 3 [.fz (.lst (ps.map plD)), x1, .ow (F.map cI), .ow ((W' ++ [y]).map cI), c4] = .ok true [.fz (.lst (ps.map plD)), x1, .ow (F.map cI), .ow ((W' ++ [y]).map cI), c4] := by
          generalize (W' ++ [y]).map cI = wl at *
          generalize ps.map plD = gm at *
          cases wl with
          | nil => simp at hne
          | cons a b => simp [truD]
        conv => lhs; unfold whileL
        rw [hnn]
        simp only
        rw [e2]
theorem sp_reached (pok : ∀ p ∈ ps, plOkG Mg Bg ps.length p) (hl : ps.length ≤ 1000) {x : Nat} (hx : x < ps.length) :
    w_reached [.fz (.lst (ps.map plD)), .fz (.int (x : Nat))] = .ok (.ow ((rchF ps ps.length x).map cI)) [] := by
  have ht := tgA_lt pok
  have h0 : DfOk ps x [x] [x] := ⟨by simp, by simp, by simp, fun y m => by rw [List.mem_singleton.mp m]; exact .refl, fun y m => m, fun y m n => absurd m n⟩
  obtain ⟨G, d4, hG, e⟩ := reach_loop pok hl hx (.fz (.int (x : Nat))) (2 * ps.length + 1) 1000000 [x] [x] .no h0 (by simp; omega) (by omega)
  have hp : G.Perm (rchF ps ps.length x) := by
    refine (List.perm_ext_iff_of_nodup hG.nd (rch_nd ps _ x)).mpr fun y => ?_
    rw [rch_mem hx ht]
    refine ⟨hG.rc y, fun r => ?_⟩
    induction r with
    | refl => exact hG.start
    | step _ m ih => exact hG.cl _ ih (by simp) _ m
  have hs := sort_nI hp (rch_sorted ps ps.length x)
  have hz := fz_cI G
  have e0 : [x].map cI = [.fz (.int (x : Nat))] := rfl
  rw [e0] at e
  refine run_ok ?_
  generalize G.map cI = g1 at *
  generalize G.map nI = gd at *
  generalize (rchF ps ps.length x).map cI = rc at *
  generalize ps.map plD = gm at *
  simp -implicitDefEqProofs [m_reached, e, hz, hs]
end
end Lw

namespace Lw
open PySem PySem.Spec PyProof.Rows L2 Dn LA
/-! ### the closed classes (E3) -/
theorem boolsOf_map {α : Type} (f : α → Bool) : ∀ l : List α, boolsOf (l.map fun a => D.bl (f a)) = some (l.map f)
  | [] => rfl
  | a :: l => by simp [boolsOf, boolsOf_map f l]
theorem allD_mapE {α : Type} (f : α → Bool) (l : List α) : allD (.lst (l.map fun a => D.bl (f a))) = some (.bl (l.all f)) := by
  have := boolsOf_map f l
  simp [allD, this, List.all_map, Function.comp_def]
section
variable {Mg Bg : Nat} {ps : List Pl}
open Classical in
theorem ChG.allR (h : ChG Mg Bg ps) {k : Nat} (hk : k < ps.length) : (rchF ps ps.length k).all (fun o => decide (k ∈ rchF ps ps.length o)) = decide (Recur ps.length (pP ps) k) := by
  rw [Bool.eq_iff_iff, List.all_eq_true, decide_eq_true_iff, h.recur hk]
  constructor
  · intro a y hy
    have := a y ((rch_mem hk h.tl y).mpr hy)
    rw [decide_eq_true_iff] at this
    exact (rch_mem (rcT_lt hk h.tl hy) h.tl k).mp this
  · intro a y hy
    have hy := (rch_mem hk h.tl y).mp hy
    rw [decide_eq_true_iff]
    exact (rch_mem (rcT_lt hk h.tl hy) h.tl k).mpr (a y hy)
open Classical in
/-- a class' first place -/
noncomputable def clsP (ps : List Pl) (x : Nat) : Bool := decide (nth (rchF ps ps.length x) 0 = x) && decide (Recur ps.length (pP ps) x)
noncomputable def clsL (ps : List Pl) : List Nat := (List.range ps.length).filter (clsP ps)
noncomputable def clD (ps : List Pl) (x : Nat) : D := .lst ((rchF ps ps.length x).map nI)
theorem nth_get {L : List Nat} {j : Nat} (h : j < L.length) : L[j] = nth L j := by
  unfold nth; rw [List.getD_eq_getElem?_getD, List.getElem?_eq_getElem h]; rfl
open Classical in
theorem classes_turn (h : ChG Mg Bg ps) (hl : ps.length ≤ 900) {k : Nat} (hk : k < ps.length) (c3 c4 : C) :
    fStep (Tg.put (.tup [(.nm 3), (.nm 4)])) b_closed_classes_2 (.tup [.int (k : Nat), clD ps k]) [.fz (.lst (ps.map plD)), .fz (.lst ((List.range ps.length).map (clD ps))), .ow (((List.range k).filter (clsP ps)).map fun x => .fz (clD ps x)), c3, c4, .no] =
      .nx [.fz (.lst (ps.map plD)), .fz (.lst ((List.range ps.length).map (clD ps))), .ow (((List.range (k + 1)).filter (clsP ps)).map fun x => .fz (clD ps x)), .fz (.int (k : Nat)), .fz (clD ps k), .no] := by
  have h0 := h.cls0 hk
  have hat : atI ((rchF ps ps.length k).map nI) 0 = some (.int (nth (rchF ps ps.length k) 0 : Nat)) := by
    have := at_nI (l := rchF ps ps.length k) (j := 0) h0
    rw [nth_get] at this
    exact this
  have l5 : ∀ x2 : C, lcL [5] (Tg.put (.nm 5)) bYes e_closed_classes_1 ((rchF ps ps.length k).map nI) [] [.fz (.lst (ps.map plD)), .fz (.lst ((List.range ps.length).map (clD ps))), x2, .fz (.int (k : Nat)), .fz (.lst ((rchF ps ps.length k).map nI)), .no] =
      .ok ((rchF ps ps.length k).map fun o => .fz (.bl (decide (k ∈ rchF ps ps.length o)))) [.fz (.lst (ps.map plD)), .fz (.lst ((List.range ps.length).map (clD ps))), x2, .fz (.int (k : Nat)), .fz (.lst ((rchF ps ps.length k).map nI)), .no] := fun x2 => by
    refine lcL_getO _ nI (fun o => .fz (.bl (decide (k ∈ rchF ps ps.length o)))) _ (by have := h.clsN hk; omega) fun o ho => ?_
    have hol := rcT_lt hk h.tl ((rch_mem hk h.tl o).mp ho)
    have ha : atI ((List.range ps.length).map (clD ps)) (o : Int) = some (clD ps o) := by rw [atI_natCast]; exact range_get _ hol
    unfold clD at ha
    have hi := in_nI k (rchF ps ps.length o)
    unfold clD
    generalize (rchF ps ps.length o).map nI = rd at *
    generalize (List.range ps.length).map (fun x => D.lst ((rchF ps ps.length x).map nI)) = ws at *
    generalize ps.map plD = gm at *
    generalize (rchF ps ps.length k).map nI = re at *
    simp -implicitDefEqProofs [nI, ha, inD, hi]
  have hall := allD_mapE (fun o => decide (k ∈ rchF ps ps.length o)) (rchF ps ps.length k)
  rw [h.allR hk] at hall
  have hz : ((rchF ps ps.length k).map fun o => C.fz (.bl (decide (k ∈ rchF ps ps.length o)))).map fzD = (rchF ps ps.length k).map fun o => D.bl (decide (k ∈ rchF ps ps.length o)) := by rw [List.map_map]; rfl
  have hsz : (((List.range k).filter (clsP ps)).map fun x => C.fz (clD ps x)).length ≤ 1000000 := by
    have := List.length_filter_le (clsP ps) (List.range k)
    simp at this ⊢; omega
  rw [List.range_succ, List.filter_append, List.map_append]
  have hP : clsP ps k = (decide (nth (rchF ps ps.length k) 0 = k) && decide (Recur ps.length (pP ps) k)) := rfl
  have hcl : clD ps k = .lst ((rchF ps ps.length k).map nI) := rfl
  rw [List.filter_cons, hP, hcl]
  have e2 : ((nth (rchF ps ps.length k) 0 : Int) = (k : Int)) ↔ (nth (rchF ps ps.length k) 0 = k) := by constructor <;> intro z <;> omega
  by_cases h1 : nth (rchF ps ps.length k) 0 = k
  · by_cases h2 : Recur ps.length (pP ps) k
    · rw [decide_eq_true h2] at hall
      generalize ((rchF ps ps.length k).map fun o => C.fz (.bl (decide (k ∈ rchF ps ps.length o)))) = oc at *
      generalize ((rchF ps ps.length k).map fun o => D.bl (decide (k ∈ rchF ps ps.length o))) = od at *
      generalize (List.range ps.length).map (clD ps) = ws at *
      generalize (((List.range k).filter (clsP ps)).map fun x => C.fz (clD ps x)) = fl at *
      generalize ps.map plD = gm at *
      generalize hre : (rchF ps ps.length k).map nI = re at *
      simp -implicitDefEqProofs [hat, e2, h1, h2, l5, hz, hall, hsz, clD, hre]
    · rw [decide_eq_false h2] at hall
      generalize ((rchF ps ps.length k).map fun o => C.fz (.bl (decide (k ∈ rchF ps ps.length o)))) = oc at *
      generalize ((rchF ps ps.length k).map fun o => D.bl (decide (k ∈ rchF ps ps.length o))) = od at *
      generalize (List.range ps.length).map (clD ps) = ws at *
      generalize (((List.range k).filter (clsP ps)).map fun x => C.fz (clD ps x)) = fl at *
      generalize ps.map plD = gm at *
      generalize hre : (rchF ps ps.length k).map nI = re at *
      simp -implicitDefEqProofs [hat, e2, h1, h2, l5, hz, hall, hsz]
  · generalize (List.range ps.length).map (clD ps) = ws at *
    generalize (((List.range k).filter (clsP ps)).map fun x => C.fz (clD ps x)) = fl at *
    generalize ps.map plD = gm at *
    generalize hre : (rchF ps ps.length k).map nI = re at *
    simp -implicitDefEqProofs [hat, e2, h1]
theorem sp_closed_classes (h : ChG Mg Bg ps) (hl : ps.length ≤ 900) : w_closed_classes [.fz (.lst (ps.map plD))] = .ok (.ow ((clsL ps).map fun x => .fz (clD ps x))) [] := by
  have l3 : lcL [3] (Tg.put (.nm 3)) bYes e_closed_classes_0 (intsD 0 ps.length) [] [.fz (.lst (ps.map plD)), .no, .no, .no, .no, .no] =
      .ok ((List.range ps.length).map fun x => .fz (clD ps x)) [.fz (.lst (ps.map plD)), .no, .no, .no, .no, .no] := by
    refine lcL_rng _ _ _ (by omega) fun x hx => ?_
    have hr := sp_reached h.pok (by omega) hx
    have hz := fz_cI (rchF ps ps.length x)
    unfold clD
    generalize (rchF ps ps.length x).map cI = rc at *
    generalize (rchF ps ps.length x).map nI = rd at *
    generalize ps.map plD = gm at *
    simp -implicitDefEqProofs [hr, hz]
  obtain ⟨ρ', e, c3, c4, rfl⟩ := forL_sat (put := Tg.put (.tup [(.nm 3), (.nm 4)])) (x := b_closed_classes_2) (fun k ρ => ∃ c3 c4, ρ = [.fz (.lst (ps.map plD)), .fz (.lst ((List.range ps.length).map (clD ps))), .ow (((List.range k).filter (clsP ps)).map fun x => .fz (clD ps x)), c3, c4, .no]) (enumD ((List.range ps.length).map (clD ps))) (fun k d ρ hd hI => by
    obtain ⟨d', h1, rfl⟩ := enumD_get hd
    obtain ⟨c3, c4, rfl⟩ := hI
    have hk : k < ps.length := by
      have := (List.getElem?_eq_some_iff.mp h1).1
      simpa using this
    rw [range_get _ hk] at h1
    cases h1
    rw [classes_turn h hl hk c3 c4]
    exact ⟨_, _, rfl⟩) (ρ := [.fz (.lst (ps.map plD)), .fz (.lst ((List.range ps.length).map (clD ps))), .ow [], .no, .no, .no]) ⟨_, _, rfl⟩
  rw [enumD_len, List.length_map, List.length_range] at e
  have hz : ((List.range ps.length).map fun x => C.fz (clD ps x)).map fzD = (List.range ps.length).map (clD ps) := by rw [List.map_map]; rfl
  have hr1 := r62_n (n := ps.length) (by omega)
  have hpl : (ps.map plD).length = ps.length := by simp
  have ec : clsL ps = (List.range ps.length).filter (clsP ps) := rfl
  rw [ec]
  refine run_ok ?_
  generalize (((List.range ps.length).filter (clsP ps)).map fun x => C.fz (clD ps x)) = out at *
  generalize ((List.range ps.length).map fun x => C.fz (clD ps x)) = wc at *
  generalize (List.range ps.length).map (clD ps) = ws at *
  generalize ps.map plD = gm at *
  simp -implicitDefEqProofs [m_closed_classes, hpl, hr1, l3, hz, e]
end
end Lw

namespace Lw
open PySem PySem.Spec PyProof.Rows L2 Dn LA
/-! ### the shares of a class (E4) -/
/-- a row as a list of cells -/
def rowC (w : Nat) (f : Nat → Rat) : List C := (List.range w).map fun j => nC (f j)
theorem rowC_len {w : Nat} {f : Nat → Rat} : (rowC w f).length = w := by simp [rowC]
theorem rowC_at {w : Nat} {f : Nat → Rat} {j : Nat} (h : j < w) : atI (rowC w f) (j : Int) = some (nC (f j)) := by
  rw [atI_natCast]; unfold rowC; exact range_get _ h
theorem rowC_set {w : Nat} {f : Nat → Rat} {j : Nat} (h : j < w) (q : Rat) : setF (j : Int) (rowC w f) (nC q) = some (rowC w fun i => if i = j then q else f i) := by
  rw [setF_in (by omega) (by rw [rowC_len]; omega), Int.toNat_natCast]
  unfold rowC
  rw [range_set]
  congr 1
  refine range_congr fun i hi => ?_
  dsimp only
  by_cases e : i = j
  · rw [if_pos e, if_pos e]; rfl
  · rw [if_neg e, if_neg e]
theorem rowC_congr {w : Nat} {f g : Nat → Rat} (h : ∀ j, j < w → f j = g j) : rowC w f = rowC w g := range_congr fun j hj => by rw [h j hj]
theorem rowC_fz {w : Nat} {f : Nat → Rat} : (rowC w f).map fzD = (List.range w).map fun j => nD (f j) := by unfold rowC; rw [List.map_map]; rfl
theorem find_nth {L : List Nat} (hn : L.Nodup) {j : Nat} (hj : j < L.length) : (L.findIdx? fun z => decide (z = nth L j)) = some j := by
  rw [List.findIdx?_eq_some_iff_getElem]
  have e : L[j] = nth L j := by unfold nth; rw [List.getD_eq_getElem?_getD, List.getElem?_eq_getElem hj]; rfl
  refine ⟨hj, by simp [e], fun i hi => ?_⟩
  have hil : i < L.length := by omega
  have e2 : L[i] = nth L i := by unfold nth; rw [List.getD_eq_getElem?_getD, List.getElem?_eq_getElem hil]; rfl
  rw [e2]
  simp only [decide_eq_true_eq]
  intro z
  have := nth_inj hn hil hj z
  omega
theorem szEW {B : Nat} (h : B ≤ 100) : Szw LL B := Szw.le (B := 100) ⟨by decide, by decide⟩ h

theorem filt_sum (k : Nat) : ∀ bs : List (Rat × Nat), sumF 0 ((bs.filter fun b => decide (b.2 = k)).map (·.1)) = chS bs k
  | [] => rfl
  | b :: bs => by
    rw [List.filter_cons]
    simp only [chS]
    by_cases e : b.2 = k
    · rw [if_pos (decide_eq_true e), if_pos e, List.map_cons]
      show sumF (0 + b.1) _ = _
      rw [sumF_shift, filt_sum k bs]; grind
    · rw [if_neg (by simpa using e), if_neg e, filt_sum k bs]; grind
theorem sumF_inn {M B : Nat} (hM : 0 < M) : ∀ qs : List Rat, (∀ q ∈ qs, Inn M B q) → Inn M (qs.length * B) (sumF 0 qs)
  | [], _ => by rw [List.length_nil, Nat.zero_mul]; exact Inn.zero hM
  | q :: qs, h => by
    have h1 := sumF_inn hM qs fun x m => h x (List.mem_cons_of_mem _ m)
    have h2 := h q List.mem_cons_self
    show Inn M _ (sumF (0 + q) qs)
    rw [sumF_shift, List.length_cons, Nat.succ_mul, Nat.add_comm]
    have e : (0 : Rat) + q = q := by grind
    rw [e]
    exact h2.add h1
section
variable {Mg Bg : Nat} {ps : List Pl} {L : List Nat}
theorem ChG.sq_inn (h : ChG Mg Bg ps) (hC : ∀ c ∈ L, c < ps.length) {i j : Nat} (hj : j < L.length) : Inn LL 7 (shQ (pP ps) L i j) := by
  unfold shQ
  split
  · exact (d_inn LL_pos True).le (by decide)
  · have i1 := h.p_inn (hC _ (nth_mem hj)) (nth L i)
    have i2 : Inn LL 1 (if j = i then (1 : Rat) else 0) := d_inn LL_pos _
    exact (i1.sub i2).le (B' := 7) (Nat.le_refl 7)
theorem at_turn (h : ChG Mg Bg ps) (hC : ∀ c ∈ L, c < ps.length) {j : Nat} (hj : j < L.length) {w : Nat} (hw : L.length < w) (k : Nat) {f : Nat → Rat} (hf : Inn LL 1 (f j)) (x1 x2 c5 c6 x7 : C) :
    fStep (Tg.put (.tup [(.nm 5), (.nm 6)])) b_shares_in_1 (.tup [.int (j : Nat), nI (nth L j)]) [.fz (.lst (ps.map plD)), x1, x2, .fz (.int (k : Nat)), .ow (rowC w f), c5, c6, x7, .no, .no] =
      .nx [.fz (.lst (ps.map plD)), x1, x2, .fz (.int (k : Nat)), .ow (rowC w fun i => if i = j then f j + pP ps (nth L j) k else f i), .fz (.int (j : Nat)), .fz (nI (nth L j)), x7, .no, .no] := by
  obtain ⟨g, bs, b1, b2, b3⟩ := h.at (hC _ (nth_mem hj))
  have hat : atI (ps.map plD) (nth L j : Int) = some (plD (.dr g bs)) := by rw [atI_natCast, List.getElem?_map, b1]; rfl
  simp only [plD] at hat
  have l8 : ∀ (x0 x4 x5 x6 : C), lcL [8, 9] (Tg.put (.tup [(.nm 8), (.nm 9)])) (asB (eOp eqD (eVar 9) (eVar 3))) (eVar 8) (bs.map brD) [] [x0, x1, x2, .fz (.int (k : Nat)), x4, x5, x6, x7, .no, .no] =
      .ok ((bs.filter fun b => decide (b.2 = k)).map fun b => nC b.1) [x0, x1, x2, .fz (.int (k : Nat)), x4, x5, x6, x7, .no, .no] := fun x0 x4 x5 x6 => by
    refine lcL_filtO _ brD (fun b => decide (b.2 = k)) (fun b => nC b.1) bs (by have := b2.2.2.1; omega) fun b hb => ?_
    by_cases e : b.2 = k
    · have e2 : ((b.2 : Int) = (k : Int)) ↔ True := by simp; omega
      simp [brD, e2, e, nC]
    · have e2 : ((b.2 : Int) = (k : Int)) ↔ False := by simp; omega
      simp [brD, e2, e]
  have hlen : (bs.filter fun b => decide (b.2 = k)).length ≤ 6 := Nat.le_trans (List.length_filter_le _ _) b2.2.2.1
  have hq : ∀ q ∈ (bs.filter fun b => decide (b.2 = k)).map (·.1), Inn LL 1 q := fun q m => by
    obtain ⟨b, mb, rfl⟩ := List.mem_map.mp m
    exact (b2.2.2.2 b (List.mem_filter.mp mb).1).1
  have htot := sp_totalW (qs := (bs.filter fun b => decide (b.2 = k)).map (·.1)) hq LL_pos (szEW (by simp; omega))
  rw [filt_sum, ← pP_eq b1] at htot
  have hz : ((bs.filter fun b => decide (b.2 = k)).map fun b => nC b.1).map fzD = ((bs.filter fun b => decide (b.2 = k)).map (·.1)).map nD := by rw [List.map_map, List.map_map]; rfl
  have hp := (h.p_inn (hC _ (nth_mem hj)) k)
  have ha := rowC_at (w := w) (f := f) (j := j) (by omega)
  have hpl := sp_plusW (hf.szw (szEW (by decide))) (hp.szw (szEW (by decide))) ((hf.add hp).szw (szEW (by decide))).2
  have hs := rowC_set (w := w) (f := f) (j := j) (by omega) (f j + pP ps (nth L j) k)
  generalize rowC w (fun i => if i = j then f j + pP ps (nth L j) k else f i) = r2 at *
  generalize rowC w f = r1 at *
  generalize ((bs.filter fun b => decide (b.2 = k)).map fun b => nC b.1) = bc at *
  generalize (((bs.filter fun b => decide (b.2 = k)).map (·.1)).map nD) = bd at *
  generalize bs.map brD = bb at *
  generalize ps.map plD = gm at *
  unfold nC at *
  generalize nD (f j + pP ps (nth L j) k) = q3 at *
  generalize nD (pP ps (nth L j) k) = q2 at *
  generalize nD (f j) = q1 at *
  generalize nD g = q0 at *
  generalize nth L j = nj at *
  simp -implicitDefEqProofs [nI, hat, l8, hz, htot, ha, hpl, hs]
theorem at_loop (h : ChG Mg Bg ps) (hC : ∀ c ∈ L, c < ps.length) {w : Nat} (hw : L.length < w) (k : Nat) {f : Nat → Rat} (hf : ∀ j, j < L.length → Inn LL 1 (f j)) (x1 x2 c5 c6 x7 : C) :
    ∃ d5 d6, forL (Tg.put (.tup [(.nm 5), (.nm 6)])) b_shares_in_1 (enumD (L.map nI)) [.fz (.lst (ps.map plD)), x1, x2, .fz (.int (k : Nat)), .ow (rowC w f), c5, c6, x7, .no, .no] =
      .nx [.fz (.lst (ps.map plD)), x1, x2, .fz (.int (k : Nat)), .ow (rowC w fun i => if i < L.length then f i + pP ps (nth L i) k else f i), d5, d6, x7, .no, .no] := by
  obtain ⟨ρ', e, c5, c6, rfl⟩ := forL_sat (put := Tg.put (.tup [(.nm 5), (.nm 6)])) (x := b_shares_in_1) (fun m ρ => ∃ c5 c6, ρ = [.fz (.lst (ps.map plD)), x1, x2, .fz (.int (k : Nat)), .ow (rowC w fun i => if i < m then f i + pP ps (nth L i) k else f i), c5, c6, x7, .no, .no]) (enumD (L.map nI)) (fun j d ρ hd hI => by
    obtain ⟨d', h1, rfl⟩ := enumD_get hd
    obtain ⟨c5, c6, rfl⟩ := hI
    have hj : j < L.length := by
      have := (List.getElem?_eq_some_iff.mp h1).1
      simpa using this
    rw [List.getElem?_map, List.getElem?_eq_getElem hj, nth_get hj] at h1
    cases h1
    rw [at_turn h hC hj hw k (f := fun i => if i < j then f i + pP ps (nth L i) k else f i) (by show Inn LL 1 (if j < j then _ else _); rw [if_neg (Nat.lt_irrefl j)]; exact hf j hj) x1 x2 c5 c6 x7]
    have hrow : rowC w (fun i => if i = j then (fun i => if i < j then f i + pP ps (nth L i) k else f i) j + pP ps (nth L j) k else (fun i => if i < j then f i + pP ps (nth L i) k else f i) i) = rowC w fun i => if i < j + 1 then f i + pP ps (nth L i) k else f i := rowC_congr fun i hi => by
      dsimp only
      by_cases e1 : i = j
      · subst e1; rw [if_pos rfl, if_neg (Nat.lt_irrefl i), if_pos (Nat.lt_succ_self i)]
      · rw [if_neg e1]
        by_cases e2 : i < j
        · rw [if_pos e2, if_pos (by omega)]
        · rw [if_neg e2, if_neg (by omega)]
    rw [hrow]
    exact ⟨_, _, rfl⟩) (ρ := [.fz (.lst (ps.map plD)), x1, x2, .fz (.int (k : Nat)), .ow (rowC w fun i => if i < 0 then f i + pP ps (nth L i) k else f i), c5, c6, x7, .no, .no]) ⟨_, _, rfl⟩
  rw [enumD_len, List.length_map] at e
  refine ⟨c5, c6, ?_⟩
  have e0 : rowC w (fun i => if i < 0 then f i + pP ps (nth L i) k else f i) = rowC w f := rowC_congr fun i _ => by rw [if_neg (Nat.not_lt_zero i)]
  rw [e0] at e
  exact e
end
end Lw

namespace Lw
open PySem PySem.Spec PyProof.Rows L2 Dn LA
/-! ### the shares of a class, all of it (E5) -/
theorem addC_rowE {L : List Nat} {l : List C} (f : Nat → Rat) (z : Rat) (h : l = (List.range L.length).map fun j => nC (f j)) :
    l.map fzD ++ [nD z] = (List.range (L.length + 1)).map fun j => nD (if j < L.length then f j else z) := by
  rw [h, List.map_map, List.range_succ, List.map_append]
  congr 1
  · exact List.map_congr_left fun i hi => by
      have := List.mem_range.mp hi
      simp only [Function.comp, if_pos this]
      rfl
  · simp
theorem map_nth {α : Type} {L : List Nat} (f : Nat → α) : L.map f = (List.range L.length).map fun j => f (nth L j) := by
  apply List.ext_getElem?
  intro j
  by_cases hj : j < L.length
  · rw [List.getElem?_map, List.getElem?_map, List.getElem?_range hj, List.getElem?_eq_getElem hj, nth_get hj]
    rfl
  · rw [List.getElem?_eq_none (by simp; omega), List.getElem?_eq_none (by simp; omega)]
section
variable {Mg Bg : Nat} {ps : List Pl} {L : List Nat}
theorem sh_turn (h : ChG Mg Bg ps) (hn : L.Nodup) (hC : ∀ c ∈ L, c < ps.length) (hl : L.length ≤ 900) {i : Nat} (hi : i + 1 < L.length) (rows : List C) (hr : rows.length ≤ 1000) (c3 c4 c5 c6 x7 : C) :
    ∃ d4 d5 d6, fStep (Tg.put (.nm 3)) b_shares_in_2 (nI (nth L (i + 1))) [.fz (.lst (ps.map plD)), .fz (.lst (L.map nI)), .ow rows, c3, c4, c5, c6, x7, .no, .no] =
      .nx [.fz (.lst (ps.map plD)), .fz (.lst (L.map nI)), .ow (rows ++ [.fz (rowD (L.length + 1) (shQ (pP ps) L) (i + 1))]), .fz (.int (nth L (i + 1) : Nat)), d4, d5, d6, x7, .no, .no] := by
  have hm := sp_minusW (a := 0) (b := 1) ⟨by decide +kernel, by decide +kernel⟩ ⟨by decide +kernel, by decide +kernel⟩ (by decide +kernel)
  have hm1 : (0 : Rat) - 1 = -1 := by grind
  have e00 : nC 0 = .fz k_NOUGHT := rfl
  have e01 : nC 1 = .fz k_ONE := rfl
  rw [hm1, e00, e01] at hm
  have l6 : ∀ x2 x4 x5 : C, lcL [6] (Tg.put (.nm 6)) bYes e_shares_in_0 (L.map nI) [] [.fz (.lst (ps.map plD)), .fz (.lst (L.map nI)), x2, .fz (.int (nth L (i + 1) : Nat)), x4, x5, .no, x7, .no, .no] =
      .ok (L.map fun o => nC (if o = nth L (i + 1) then -1 else 0)) [.fz (.lst (ps.map plD)), .fz (.lst (L.map nI)), x2, .fz (.int (nth L (i + 1) : Nat)), x4, x5, .no, x7, .no, .no] := fun x2 x4 x5 => by
    refine lcL_getO _ nI (fun o => nC (if o = nth L (i + 1) then -1 else 0)) _ (by omega) fun o ho => ?_
    by_cases e : o = nth L (i + 1)
    · have e2 : ((o : Int) = (nth L (i + 1) : Int)) ↔ True := by simp; omega
      rw [if_pos e]
      unfold nC at hm ⊢
      generalize nD (-1) = q at *
      simp -implicitDefEqProofs [nI, e2, hm]
    · have e2 : ((o : Int) = (nth L (i + 1) : Int)) ↔ False := by constructor; (intro z; exact e (by omega)); exact False.elim
      rw [if_neg e, e00]
      simp -implicitDefEqProofs [nI, e2]
  have hrow := map_nth (L := L) (fun o => nC (if o = nth L (i + 1) then (-1 : Rat) else 0))
  have hadd := addC_rowE (L := L) (fun j => if nth L j = nth L (i + 1) then (-1 : Rat) else 0) 0 hrow
  have hstart : ((List.range (L.length + 1)).map fun j => nD (if j < L.length then (if nth L j = nth L (i + 1) then (-1 : Rat) else 0) else 0)).map C.fz = rowC (L.length + 1) fun j => if j < L.length then (if nth L j = nth L (i + 1) then -1 else 0) else 0 := by
    unfold rowC; rw [List.map_map]; rfl
  obtain ⟨d5, d6, e⟩ := at_loop h hC (w := L.length + 1) (by omega) (nth L (i + 1)) (f := fun j => if j < L.length then (if nth L j = nth L (i + 1) then -1 else 0) else 0) (fun j hj => by
    show Inn LL 1 (if j < L.length then (if nth L j = nth L (i + 1) then (-1 : Rat) else 0) else 0)
    rw [if_pos hj]
    split
    · have i1 : Inn LL 1 (if True then (1 : Rat) else 0) := d_inn LL_pos True
      rw [if_pos trivial] at i1
      exact i1.neg
    · exact (Inn.zero LL_pos).le (by decide)) (.fz (.lst (L.map nI))) (.ow rows) c5 c6 x7
  have hend : (rowC (L.length + 1) fun j => if j < L.length then (if j < L.length then (if nth L j = nth L (i + 1) then (-1 : Rat) else 0) else 0) + pP ps (nth L j) (nth L (i + 1)) else (if j < L.length then (if nth L j = nth L (i + 1) then (-1 : Rat) else 0) else 0)).map fzD = (List.range (L.length + 1)).map fun j => nD (shQ (pP ps) L (i + 1) j) := by
    rw [rowC_fz]
    refine range_congr fun j hj => ?_
    congr 1
    unfold shQ
    rw [if_neg (show ¬ i + 1 = 0 by omega)]
    by_cases z : j < L.length
    · rw [if_pos z, if_pos z, if_pos z]
      by_cases z2 : j = i + 1
      · rw [if_pos z2, z2, if_pos rfl]; grind
      · rw [if_neg z2, if_neg (fun e => z2 (nth_inj hn z hi e))]; grind
    · rw [if_neg z, if_neg z, if_neg z]
  have hs3 : rows.length ≤ 1000000 := by omega
  have hn0 : nD 0 = k_NOUGHT := rfl
  rw [hn0] at hadd
  have hsm : (L.map fun o => nC (if o = nth L (i + 1) then (-1 : Rat) else 0)).length ≤ 999999 := by simp; omega
  refine ⟨.fz (.lst ((List.range (L.length + 1)).map fun j => nD (shQ (pP ps) L (i + 1) j))), d5, d6, ?_⟩
  have hrs : rowD (L.length + 1) (shQ (pP ps) L) (i + 1) = .lst ((List.range (L.length + 1)).map fun j => nD (shQ (pP ps) L (i + 1) j)) := rfl
  rw [hrs]
  generalize ((List.range (L.length + 1)).map fun j => nD (shQ (pP ps) L (i + 1) j)) = fin at *
  generalize (rowC (L.length + 1) fun j => if j < L.length then (if j < L.length then (if nth L j = nth L (i + 1) then (-1 : Rat) else 0) else 0) + pP ps (nth L j) (nth L (i + 1)) else (if j < L.length then (if nth L j = nth L (i + 1) then (-1 : Rat) else 0) else 0)) = r2 at *
  generalize (rowC (L.length + 1) fun j => if j < L.length then (if nth L j = nth L (i + 1) then (-1 : Rat) else 0) else 0) = r1 at *
  generalize ((List.range (L.length + 1)).map fun j => nD (if j < L.length then (if nth L j = nth L (i + 1) then (-1 : Rat) else 0) else 0)) = x1 at *
  clear hrow
  generalize (L.map fun o => nC (if o = nth L (i + 1) then (-1 : Rat) else 0)) = l1 at *
  have hX : l1.map (C.fz ∘ fzD) ++ [C.fz k_NOUGHT] = r1 := by
    rw [← hstart, ← hadd, List.map_append, List.map_map]; rfl
  clear hadd
  generalize L.map nI = cd at *
  generalize ps.map plD = gm at *
  generalize nth L (i + 1) = kk at *
  simp -implicitDefEqProofs [nI, l6, hsm, hX, e, hend, hs3]
theorem ChG.sqrows (h : ChG Mg Bg ps) {x : Nat} (hx : x < ps.length) (hl : ps.length ≤ 12) (hr : Recur ps.length (pP ps) x) : RowsW (rchF ps ps.length x).length ((rchF ps ps.length x).length + 1) LL (7 * LL) 1 LL ZA ZB (shQ (pP ps) (rchF ps ps.length x)) := by
  have hc := h.cls hx hr
  have h0 := h.cls0 hx
  have hn := h.clsN hx
  have hn12 := Nat.le_trans hn hl
  have hp := pow_le hn12
  refine ⟨by decide, by decide, rfl, by omega, fun r j hr hj => ?_, hc.shq_ns h.chain h0, by decide, fun r hr => ?_, hp, ?_, ?_, by decide⟩
  · obtain ⟨k, e, b⟩ := inn_mul (h.sq_inn hc.lt (i := r) hj)
    exact ⟨k, e, b⟩
  · unfold shQ
    split
    · exact ⟨((LL : Nat) : Int), nat_one1 LL, by decide⟩
    · rw [if_neg (Nat.lt_irrefl _)]
      exact ⟨0, by grind, by decide⟩
  · rw [Nat.one_mul]; exact Nat.le_trans hp (Nat.le_mul_of_pos_left _ (by decide))
  · exact Nat.mul_le_mul (Nat.mul_le_mul_right _ hn12) hp
/-- the shares -/
def shF (ps : List Pl) (L : List Nat) (k : Nat) : Rat := gA L.length (shQ (pP ps) L) L.length k L.length
variable {w M m K m2 Z Z2 : Nat}
theorem sp_shares_in (h : ChG Mg Bg ps) (hn : L.Nodup) (hC : ∀ c ∈ L, c < ps.length) (hl : L.length ≤ 900) (h0 : 0 < L.length) (hR : RowsW L.length (L.length + 1) M m K m2 Z Z2 (shQ (pP ps) L)) :
    w_shares_in [.fz (.lst (ps.map plD)), .fz (.lst (L.map nI))] = .ok (.ow ((List.range L.length).map fun k => nC (shF ps L k))) [] := by
  obtain ⟨ρ', e, c3, c4, c5, c6, rfl⟩ := forL_sat (put := Tg.put (.nm 3)) (x := b_shares_in_2) (fun i ρ => ∃ c3 c4 c5 c6, ρ = [.fz (.lst (ps.map plD)), .fz (.lst (L.map nI)), .ow ((List.range (i + 1)).map fun i => .fz (rowD (L.length + 1) (shQ (pP ps) L) i)), c3, c4, c5, c6, .no, .no, .no]) ((L.drop 1).map nI) (fun i d ρ hd hI => by
    rw [List.getElem?_map, Option.map_eq_some_iff] at hd
    obtain ⟨o, ho, rfl⟩ := hd
    obtain ⟨c3, c4, c5, c6, rfl⟩ := hI
    rw [List.getElem?_drop] at ho
    have hi : i + 1 < L.length := by have := (List.getElem?_eq_some_iff.mp ho).1; omega
    have eo : o = nth L (i + 1) := by unfold nth; rw [List.getD_eq_getElem?_getD, show i + 1 = 1 + i by omega, ho]; rfl
    rw [eo]
    obtain ⟨d4, d5, d6, e⟩ := sh_turn h hn hC hl hi ((List.range (i + 1)).map fun i => .fz (rowD (L.length + 1) (shQ (pP ps) L) i)) (by simp; omega) c3 c4 c5 c6 .no
    rw [e]
    refine ⟨.fz (.int (nth L (i + 1) : Nat)), d4, d5, d6, ?_⟩
    rw [List.range_succ (n := i + 1), List.map_append]
    rfl) (ρ := [.fz (.lst (ps.map plD)), .fz (.lst (L.map nI)), .ow [.fz (rowD (L.length + 1) (shQ (pP ps) L) 0)], .no, .no, .no, .no, .no, .no, .no]) ⟨_, _, _, _, rfl⟩
  have hlen : ((L.drop 1).map nI).length + 1 = L.length := by simp; omega
  rw [hlen] at e
  have hcut : cutL (L.map nI) (some 1) none = (L.drop 1).map nI := by
    have := cutT (L.map nI) (k := 1) (by rw [List.length_map]; exact h0)
    rw [List.map_drop]
    exact this
  have l7 : lcL [7] (Tg.put (.nm 7)) bYes (ret k_ONE) (L.map nI) [] [.fz (.lst (ps.map plD)), .fz (.lst (L.map nI)), .no, .no, .no, .no, .no, .no, .no, .no] =
      .ok (L.map fun _ => .fz k_ONE) [.fz (.lst (ps.map plD)), .fz (.lst (L.map nI)), .no, .no, .no, .no, .no, .no, .no, .no] := by
    refine lcL_getO _ nI (fun _ => .fz k_ONE) _ (by omega) fun o ho => ?_
    simp [nI]
  have hone : (L.map fun _ => k_ONE) ++ [k_ONE] = (List.range (L.length + 1)).map fun j => nD (shQ (pP ps) L 0 j) := by
    have e1 : ∀ j, nD (shQ (pP ps) L 0 j) = k_ONE := fun j => by unfold shQ; rw [if_pos rfl]; rfl
    rw [List.range_succ, List.map_append, List.map_cons, List.map_nil, e1]
    congr 1
    rw [List.map_congr_left (g := fun _ => k_ONE) (l := List.range L.length) fun j _ => e1 j, List.map_const', List.map_const', List.length_range]
  have hr0 : rowD (L.length + 1) (shQ (pP ps) L) 0 = .lst ((List.range (L.length + 1)).map fun j => nD (shQ (pP ps) L 0 j)) := rfl
  rw [hr0, ← hone] at e
  have hrfz : ((List.range L.length).map fun i => C.fz (rowD (L.length + 1) (shQ (pP ps) L) i)).map fzD = (List.range L.length).map (rowD (L.length + 1) (shQ (pP ps) L)) := by rw [List.map_map]; rfl
  have hsol := sp_solved hR hl
  have hl1 : (L.map fun _ => C.fz k_ONE).map fzD = L.map fun _ => k_ONE := by rw [List.map_map]; rfl
  have hl2 : (L.map fun _ => k_ONE).length ≤ 999999 := by simp; omega
  have hmid : ((L.map fun _ => k_ONE).map C.fz ++ [C.fz k_ONE]).map fzD = (L.map fun _ => k_ONE) ++ [k_ONE] := by
    rw [List.map_append, List.map_map]; simp [Function.comp_def]
  have ho : (fun i => nC (gA L.length (shQ (pP ps) L) L.length i L.length)) = fun k => nC (shF ps L k) := rfl
  rw [ho] at hsol
  refine run_ok ?_
  generalize ((List.range L.length).map fun k => nC (shF ps L k)) = out at *
  generalize (List.range L.length).map (rowD (L.length + 1) (shQ (pP ps) L)) = rd at *
  generalize ((List.range L.length).map fun i => C.fz (rowD (L.length + 1) (shQ (pP ps) L) i)) = rc at *
  clear hone
  generalize (L.map fun _ => C.fz k_ONE) = o1 at *
  generalize (L.map fun _ => k_ONE) = o2 at *
  generalize (L.drop 1).map nI = dd at *
  generalize L.map nI = cd at *
  generalize ps.map plD = gm at *
  simp -implicitDefEqProofs [m_shares_in, hcut, e, l7, hl1, hl2, hmid, hrfz, hsol, Function.comp_def]
end
end Lw

namespace Lw
open PySem PySem.Spec PyProof.Rows L2 Dn LA
/-! ### equations with known numbers (E6) -/
def kS (P : List Nat) (v : Nat → Rat) : List (Rat × Nat) → Rat
  | [] => 0
  | b :: bs => (if b.2 ∈ P then 0 else b.1 * v b.2) + kS P v bs
theorem kS_sm {P : List Nat} {v : Nat → Rat} {n : Nat} : ∀ {bs : List (Rat × Nat)}, (∀ b ∈ bs, b.2 < n) → kS P v bs = sm (fun y => if y ∈ P then 0 else chS bs y * v y) n
  | [], _ => by rw [sm_zero fun y _ => by simp only [chS]; split <;> grind]; rfl
  | b :: bs, h => by
    have h1 := kS_sm (P := P) (v := v) (n := n) fun b m => h b (List.mem_cons_of_mem _ m)
    have h2 := h b List.mem_cons_self
    have e1 : sm (fun y => if y ∈ P then 0 else chS (b :: bs) y * v y) n = sm (fun y => if b.2 = y then (if y ∈ P then 0 else b.1 * v y) else 0) n + sm (fun y => if y ∈ P then 0 else chS bs y * v y) n := by
      rw [← sm_add]
      refine sm_congr fun y _ => ?_
      simp only [chS]
      split <;> split <;> grind
    rw [e1, sm_one h2 fun i _ hne => by rw [if_neg (fun z => hne z.symm)], if_pos rfl, ← h1]
    rfl
/-- a row behind some branches; len = the places -/
def stB (P : List Nat) (v : Nat → Rat) (bs : List (Rat × Nat)) (f : Nat → Rat) (i : Nat) : Rat := if i < P.length then f i - chS bs (nth P i) else f i + kS P v bs
theorem stB_cons (P : List Nat) (v : Nat → Rat) (b : Rat × Nat) (bs : List (Rat × Nat)) (f : Nat → Rat) (i : Nat) : stB P v (b :: bs) f i = stB P v bs (stB P v [b] f) i := by
  unfold stB
  simp only [chS, kS]
  split <;> grind
theorem setF_last {w n : Nat} {f : Nat → Rat} (hw : w = n + 1) (q : Rat) : setF (-1) (rowC w f) (nC q) = some (rowC w fun i => if i = n then q else f i) := by
  have e : ixN (rowC w f).length (-1) = some n := by
    rw [rowC_len]
    unfold L2.ixN
    rw [if_neg (by omega), if_pos (by omega)]
    congr 1
    omega
  have := rowC_set (w := w) (f := f) (j := n) (by omega) q
  unfold setF at this ⊢
  rw [e]
  have e2 : ixN (rowC w f).length (n : Int) = some n := by
    rw [rowC_len]
    unfold L2.ixN
    rw [if_pos (by omega), if_pos (by omega)]
    simp
  rw [e2] at this
  exact this
theorem find_nthE {L : List Nat} (hn : L.Nodup) {j : Nat} (hj : j < L.length) : (L.findIdx? fun z => decide (z = nth L j)) = some j := by
  rw [List.findIdx?_eq_some_iff_getElem]
  refine ⟨hj, by simp [nth_get hj], fun i hi => ?_⟩
  have hil : i < L.length := by omega
  rw [nth_get hil]
  simp only [decide_eq_true_eq]
  intro z
  have := nth_inj hn hil hj z
  omega
section
variable {Mg Bg Mx Be Bc : Nat} {ps : List Pl} {P : List Nat} {v e : Nat → Rat} {kvs : List (Key × D)}
structure MetOk (ps : List Pl) (P : List Nat) (v e : Nat → Rat) (kvs : List (Key × D)) (Mx Be Bc : Nat) : Prop where
  nd : P.Nodup
  lt : ∀ c ∈ P, c < ps.length
  kin : ∀ c ∈ P, ∀ t ∈ tgA ps c, t ∈ P → valD kvs (.inl (t : Int)) = none
  kout : ∀ c ∈ P, ∀ t ∈ tgA ps c, t ∉ P → valD kvs (.inl (t : Int)) = some (nD (v t)) ∧ Okw (v t)
  ext : ∀ c ∈ P, Inn Mx Be (e c)
  prod : ∀ c ∈ P, ∀ g bs, ps[c]? = some (.dr g bs) → ∀ b ∈ bs, b.2 ∉ P → Inn Mx Bc (b.1 * v b.2)
  hM : 0 < Mx
  szw : Szw Mx (Be + 6 * Bc)
theorem met_turn (hn : P.Nodup) {b : Rat × Nat} (hb : Inn LL 1 b.1) {Bl : Nat} (hsz : Szw Mx (Bl + Bc)) (hin : b.2 ∈ P → valD kvs (.inl (b.2 : Int)) = none)
    (hout : b.2 ∉ P → valD kvs (.inl (b.2 : Int)) = some (nD (v b.2)) ∧ Okw (v b.2) ∧ Inn Mx Bc (b.1 * v b.2)) {f : Nat → Rat} {B : Nat} (hf : ∀ i, i < P.length → Inn LL B (f i)) (hB : B + 1 ≤ 100) (hl : Inn Mx Bl (f P.length)) (x0 x3 x4 x5 c7 c8 c9 x10 : C) :
    ∃ d7 d8 d9, fStep (Tg.put (.tup [(.nm 7), (.nm 8)])) b_met_1 (brD b) [x0, .fz (.lst (P.map nI)), .fz (.dk kvs), x3, x4, x5, .ow (rowC (P.length + 1) f), c7, c8, c9, x10] =
      .nx [x0, .fz (.lst (P.map nI)), .fz (.dk kvs), x3, x4, x5, .ow (rowC (P.length + 1) (stB P v [b] f)), d7, d8, d9, x10] := by
  by_cases hm : b.2 ∈ P
  · have hv := hin hm
    obtain ⟨j, hj, ej⟩ := mem_nth hm
    have hi := idx_nI b.2 P
    rw [← ej, find_nthE hn hj, ej] at hi
    simp only [Option.map_some] at hi
    have ha := rowC_at (w := P.length + 1) (f := f) (j := j) (by omega)
    have hp := sp_minusW ((hf j hj).szw (szEW (by omega))) (hb.szw (szEW (by omega))) (((hf j hj).sub hb).szw (szEW hB)).2
    have hs := rowC_set (w := P.length + 1) (f := f) (j := j) (by omega) (f j - b.1)
    have hsame : rowC (P.length + 1) (fun i => if i = j then f j - b.1 else f i) = rowC (P.length + 1) (stB P v [b] f) := rowC_congr fun i hi => by
      unfold stB
      simp only [chS, kS]
      by_cases e1 : i < P.length
      · rw [if_pos e1]
        by_cases e2 : i = j
        · subst e2; rw [if_pos rfl, if_pos ej.symm]; grind
        · rw [if_neg e2, if_neg (fun z => e2 (nth_inj hn e1 hj (by rw [ej, z])))]; grind
      · rw [if_neg e1, if_neg (by omega), if_pos hm]; grind
    rw [hsame] at hs
    refine ⟨nC b.1, .fz (.int (b.2 : Nat)), .fz (.int (j : Nat)), ?_⟩
    generalize rowC (P.length + 1) (stB P v [b] f) = r2 at *
    generalize rowC (P.length + 1) f = r1 at *
    generalize P.map nI = cd at *
    unfold nC at *
    generalize nD (f j - b.1) = q3 at *
    generalize nD (f j) = q1 at *
    unfold brD
    generalize nD b.1 = q0 at *
    generalize b.2 = t at *
    simp -implicitDefEqProofs [hv, eIdx, hi, ha, hp, hs]
  · obtain ⟨hv, hvo, hpr⟩ := hout hm
    have ha : (rowC (P.length + 1) f).getLast? = some (nC (f P.length)) := by unfold rowC; rw [List.range_succ, List.map_append]; simp
    have t1 := sp_minusW (a := 0) (b := v b.2) ⟨by decide +kernel, by decide +kernel⟩ hvo (by
      have : (0 : Rat) - v b.2 = -(v b.2) := by grind
      rw [this]; exact (neg_okW hvo).2)
    have e00 : nC 0 = .fz k_NOUGHT := rfl
    rw [e00] at t1
    have hz : (0 : Rat) - v b.2 = -(v b.2) := by grind
    rw [hz] at t1
    have hpn : b.1 * -(v b.2) = -(b.1 * v b.2) := by grind
    have szs : Szw Mx Bl := hsz.le (Nat.le_add_right _ _)
    have szc : Szw Mx Bc := hsz.le (Nat.le_add_left _ _)
    have t2 := sp_timesW (hb.szw (szEW (by decide))) (neg_okW hvo) (by rw [hpn]; exact (hpr.neg.szw szc).2)
    rw [hpn] at t2
    have hfe : f P.length - -(b.1 * v b.2) = f P.length + b.1 * v b.2 := by grind
    have t3 := sp_minusW (hl.szw szs) (hpr.neg.szw szc) (by rw [hfe]; exact ((hl.add hpr).szw hsz).2)
    rw [hfe] at t3
    have hs := setF_last (w := P.length + 1) (f := f) rfl (f P.length + b.1 * v b.2)
    have hsame : rowC (P.length + 1) (fun i => if i = P.length then f P.length + b.1 * v b.2 else f i) = rowC (P.length + 1) (stB P v [b] f) := rowC_congr fun i hi => by
      unfold stB
      simp only [chS, kS]
      by_cases e1 : i < P.length
      · rw [if_pos e1, if_neg (by omega), if_neg (fun z => hm (by rw [z]; exact nth_mem e1))]; grind
      · have e2 : i = P.length := by omega
        subst e2
        rw [if_neg e1, if_pos rfl, if_neg hm]; grind
    rw [hsame] at hs
    refine ⟨nC b.1, .fz (.int (b.2 : Nat)), c9, ?_⟩
    generalize rowC (P.length + 1) (stB P v [b] f) = r2 at *
    generalize rowC (P.length + 1) f = r1 at *
    generalize P.map nI = cd at *
    unfold nC at *
    generalize nD (f P.length + b.1 * v b.2) = q5 at *
    generalize nD (-(b.1 * v b.2)) = q4 at *
    generalize nD (-(v b.2)) = q3 at *
    generalize nD (v b.2) = q2 at *
    generalize nD (f P.length) = q1 at *
    unfold brD
    generalize nD b.1 = q0 at *
    generalize b.2 = t at *
    simp -implicitDefEqProofs [hv, ha, t1, t2, t3, hs, negD]
end
end Lw

namespace Lw
open PySem PySem.Spec PyProof.Rows L2 Dn LA
/-! ### equations with known numbers, all of it (E7) -/
section
variable {Mg Bg Mx Be Bc : Nat} {ps : List Pl} {P : List Nat} {v e : Nat → Rat} {kvs : List (Key × D)}
theorem met_loop (hn : P.Nodup) {Bt : Nat} (hsz : Szw Mx Bt) (x0 x3 x4 x5 x10 : C) : ∀ (bs : List (Rat × Nat)) (f : Nat → Rat) (B Bl : Nat) (c7 c8 c9 : C), (∀ b ∈ bs, Inn LL 1 b.1 ∧ (b.2 ∈ P → valD kvs (.inl (b.2 : Int)) = none) ∧ (b.2 ∉ P → valD kvs (.inl (b.2 : Int)) = some (nD (v b.2)) ∧ Okw (v b.2) ∧ Inn Mx Bc (b.1 * v b.2))) →
    (∀ i, i < P.length → Inn LL B (f i)) → B + bs.length ≤ 100 → Inn Mx Bl (f P.length) → Bl + bs.length * Bc ≤ Bt →
    ∃ d7 d8 d9, forL (Tg.put (.tup [(.nm 7), (.nm 8)])) b_met_1 (bs.map brD) [x0, .fz (.lst (P.map nI)), .fz (.dk kvs), x3, x4, x5, .ow (rowC (P.length + 1) f), c7, c8, c9, x10] =
      .nx [x0, .fz (.lst (P.map nI)), .fz (.dk kvs), x3, x4, x5, .ow (rowC (P.length + 1) (stB P v bs f)), d7, d8, d9, x10]
  | [], f, B, Bl, c7, c8, c9, _, _, _, _, _ => by
    have same : rowC (P.length + 1) (stB P v [] f) = rowC (P.length + 1) f := rowC_congr fun i _ => by
      unfold stB
      simp only [chS, kS]
      split <;> grind
    rw [same]
    exact ⟨c7, c8, c9, rfl⟩
  | b :: bs, f, B, Bl, c7, c8, c9, hb, hf, hB, hl, hBl => by
    simp only [List.length_cons, Nat.succ_mul] at hB hBl
    obtain ⟨a1, a2, a3⟩ := hb b List.mem_cons_self
    obtain ⟨k7, k8, k9, e1⟩ := met_turn (v := v) hn a1 (Bl := Bl) (hsz.le (by omega)) a2 a3 hf (by omega) hl x0 x3 x4 x5 c7 c8 c9 x10
    have hf2 : ∀ i, i < P.length → Inn LL (B + 1) (stB P v [b] f i) := fun i hi => by
      unfold stB
      rw [if_pos hi]
      simp only [chS]
      split
      · have e : b.1 + 0 = b.1 := by grind
        rw [e]; exact (hf i hi).sub a1
      · have e : (0 : Rat) + 0 = 0 := by grind
        rw [e]; exact (hf i hi).sub ((Inn.zero LL_pos).le (Nat.zero_le 1))
    have hl2 : Inn Mx (Bl + Bc) (stB P v [b] f P.length) := by
      unfold stB
      rw [if_neg (Nat.lt_irrefl _)]
      simp only [kS]
      split
      · have e : (0 : Rat) + 0 = 0 := by grind
        rw [e]
        have e : f P.length + 0 = f P.length := by grind
        rw [e]
        exact hl.le (Nat.le_add_right _ _)
      · rename_i hm
        have e : b.1 * v b.2 + 0 = b.1 * v b.2 := by grind
        rw [e]
        exact hl.add (a3 hm).2.2
    obtain ⟨d7, d8, d9, e2⟩ := met_loop hn hsz x0 x3 x4 x5 x10 bs (stB P v [b] f) (B + 1) (Bl + Bc) k7 k8 k9 (fun b m => hb b (List.mem_cons_of_mem _ m)) hf2 (by omega) hl2 (by omega)
    refine ⟨d7, d8, d9, ?_⟩
    rw [List.map_cons, forL_one e1, e2]
    have same : rowC (P.length + 1) (stB P v bs (stB P v [b] f)) = rowC (P.length + 1) (stB P v (b :: bs) f) := rowC_congr fun i _ => (stB_cons P v b bs f i).symm
    rw [same]
def exD (n : Nat) (e : Nat → Rat) : List D := (List.range n).map fun y => nD (e y)
theorem mrow_turn (h : ChG Mg Bg ps) (hm : MetOk ps P v e kvs Mx Be Bc) (hl : P.length ≤ 900) {i : Nat} (hi : i < P.length) (rows : List C) (hr : rows.length ≤ 1000) (c5 c6 c7 c8 c9 : C) :
    ∃ d6 d7 d8 d9, fStep (Tg.put (.nm 5)) b_met_2 (nI (nth P i)) [.fz (.lst (ps.map plD)), .fz (.lst (P.map nI)), .fz (.dk kvs), .fz (.lst (exD ps.length e)), .ow rows, c5, c6, c7, c8, c9, .no] =
      .nx [.fz (.lst (ps.map plD)), .fz (.lst (P.map nI)), .fz (.dk kvs), .fz (.lst (exD ps.length e)), .ow (rows ++ [.fz (rowD (P.length + 1) (lvR ps.length (pP ps) P v e) i)]), .fz (.int (nth P i : Nat)), d6, d7, d8, d9, .no] := by
  have hmem := nth_mem hi
  have hlt := hm.lt _ hmem
  obtain ⟨g, bs, b1, b2, b3⟩ := h.at hlt
  have hat : atI (ps.map plD) (nth P i : Int) = some (plD (.dr g bs)) := by rw [atI_natCast, List.getElem?_map, b1]; rfl
  simp only [plD] at hat
  have hae : atI (exD ps.length e) (nth P i : Int) = some (nD (e (nth P i))) := by rw [atI_natCast]; exact range_get _ hlt
  have htg : tgA ps (nth P i) = bs.map (·.2) := by unfold tgA; rw [b1]; rfl
  have e00 : nC 0 = .fz k_NOUGHT := rfl
  have e01 : nC 1 = .fz k_ONE := rfl
  have l10 : ∀ x6 : C, lcL [10] (Tg.put (.nm 10)) bYes e_met_0 (P.map nI) [] [.fz (.lst (ps.map plD)), .fz (.lst (P.map nI)), .fz (.dk kvs), .fz (.lst (exD ps.length e)), .ow rows, .fz (.int (nth P i : Nat)), x6, c7, c8, c9, .no] =
      .ok (P.map fun o => nC (if o = nth P i then 1 else 0)) [.fz (.lst (ps.map plD)), .fz (.lst (P.map nI)), .fz (.dk kvs), .fz (.lst (exD ps.length e)), .ow rows, .fz (.int (nth P i : Nat)), x6, c7, c8, c9, .no] := fun x6 => by
    refine lcL_getO _ nI (fun o => nC (if o = nth P i then 1 else 0)) _ (by omega) fun o ho => ?_
    by_cases e : o = nth P i
    · have e2 : ((o : Int) = (nth P i : Int)) ↔ True := by simp; omega
      rw [if_pos e, e01]
      simp -implicitDefEqProofs [nI, e2]
    · have e2 : ((o : Int) = (nth P i : Int)) ↔ False := by constructor; (intro z; exact e (by omega)); exact False.elim
      rw [if_neg e, e00]
      simp -implicitDefEqProofs [nI, e2]
  have hrow := map_nth (L := P) (fun o => nC (if o = nth P i then (1 : Rat) else 0))
  have hadd := addC_rowE (L := P) (fun j => if nth P j = nth P i then (1 : Rat) else 0) (e (nth P i)) hrow
  have hstart : ((List.range (P.length + 1)).map fun j => nD (if j < P.length then (if nth P j = nth P i then (1 : Rat) else 0) else e (nth P i))).map C.fz = rowC (P.length + 1) fun j => if j < P.length then (if nth P j = nth P i then 1 else 0) else e (nth P i) := by
    unfold rowC; rw [List.map_map]; rfl
  obtain ⟨d7, d8, d9, e1⟩ := met_loop (v := v) (kvs := kvs) (Bc := Bc) hm.nd hm.szw (.fz (.lst (ps.map plD))) (.fz (.lst (exD ps.length e))) (.ow rows) (.fz (.int (nth P i : Nat))) .no bs (fun j => if j < P.length then (if nth P j = nth P i then 1 else 0) else e (nth P i)) 1 Be c7 c8 c9 (fun b mb => by
    have mt : b.2 ∈ tgA ps (nth P i) := by rw [htg]; exact List.mem_map.mpr ⟨b, mb, rfl⟩
    refine ⟨(b2.2.2.2 b mb).1, hm.kin _ hmem _ mt, fun hn => ?_⟩
    obtain ⟨q1, q2⟩ := hm.kout _ hmem _ mt hn
    exact ⟨q1, q2, hm.prod _ hmem g bs b1 b mb hn⟩) (fun j hj => by
    show Inn LL 1 (if j < P.length then (if nth P j = nth P i then (1 : Rat) else 0) else e (nth P i))
    rw [if_pos hj]
    exact d_inn LL_pos _) (by have := b2.2.2.1; omega) (by
    show Inn Mx Be (if P.length < P.length then _ else e (nth P i))
    rw [if_neg (Nat.lt_irrefl _)]
    exact hm.ext _ hmem) (by have := Nat.mul_le_mul_right Bc b2.2.2.1; omega)
  have hend : (rowC (P.length + 1) (stB P v bs fun j => if j < P.length then (if nth P j = nth P i then 1 else 0) else e (nth P i))).map fzD = (List.range (P.length + 1)).map fun j => nD (lvR ps.length (pP ps) P v e i j) := by
    rw [rowC_fz]
    refine range_congr fun j hj => ?_
    congr 1
    unfold stB lvR
    have hp : pP ps (nth P i) = chS bs := funext fun y => pP_eq b1 y
    rw [hp]
    by_cases z : j < P.length
    · rw [if_pos z, if_pos z]
      dsimp only
      rw [if_pos z]
      by_cases z2 : j = i
      · rw [if_pos z2, z2, if_pos rfl]
      · rw [if_neg z2, if_neg (fun e => z2 (nth_inj hm.nd z hi e))]
    · rw [if_neg z, if_neg z]
      dsimp only
      rw [if_neg z, kS_sm fun b m => (b2.2.2.2 b m).2]
  have hs3 : rows.length ≤ 1000000 := by omega
  have hsm : (P.map fun o => nC (if o = nth P i then (1 : Rat) else 0)).length ≤ 999999 := by simp; omega
  refine ⟨.fz (.lst ((List.range (P.length + 1)).map fun j => nD (lvR ps.length (pP ps) P v e i j))), d7, d8, d9, ?_⟩
  have hrs : rowD (P.length + 1) (lvR ps.length (pP ps) P v e) i = .lst ((List.range (P.length + 1)).map fun j => nD (lvR ps.length (pP ps) P v e i j)) := rfl
  rw [hrs]
  generalize ((List.range (P.length + 1)).map fun j => nD (lvR ps.length (pP ps) P v e i j)) = fin at *
  generalize (rowC (P.length + 1) (stB P v bs fun j => if j < P.length then (if nth P j = nth P i then 1 else 0) else e (nth P i))) = r2 at *
  generalize (rowC (P.length + 1) fun j => if j < P.length then (if nth P j = nth P i then (1 : Rat) else 0) else e (nth P i)) = r1 at *
  generalize ((List.range (P.length + 1)).map fun j => nD (if j < P.length then (if nth P j = nth P i then (1 : Rat) else 0) else e (nth P i))) = x1 at *
  clear hrow
  generalize (P.map fun o => nC (if o = nth P i then (1 : Rat) else 0)) = l1 at *
  have hX : l1.map (C.fz ∘ fzD) ++ [C.fz (nD (e (nth P i)))] = r1 := by
    rw [← hstart, ← hadd, List.map_append, List.map_map]; rfl
  clear hadd
  generalize nD (e (nth P i)) = qe at *
  generalize bs.map brD = bb at *
  generalize exD ps.length e = ex at *
  generalize P.map nI = cd at *
  generalize ps.map plD = gm at *
  generalize nth P i = kk at *
  generalize nD g = qg at *
  simp -implicitDefEqProofs [nI, l10, hsm, hX, hat, hae, e1, hend, hs3]
variable {M m K m2 Z Z2 : Nat}
theorem sp_met (h : ChG Mg Bg ps) (hm : MetOk ps P v e kvs Mx Be Bc) (hl : P.length ≤ 900) (hR : RowsW P.length (P.length + 1) M m K m2 Z Z2 (lvR ps.length (pP ps) P v e)) :
    w_met [.fz (.lst (ps.map plD)), .fz (.lst (P.map nI)), .fz (.dk kvs), .fz (.lst (exD ps.length e))] = .ok (.ow ((List.range P.length).map fun i => nC (gA P.length (lvR ps.length (pP ps) P v e) P.length i P.length))) [] := by
  obtain ⟨ρ', e1, c5, c6, c7, c8, c9, rfl⟩ := forL_sat (put := Tg.put (.nm 5)) (x := b_met_2) (fun i ρ => ∃ c5 c6 c7 c8 c9, ρ = [.fz (.lst (ps.map plD)), .fz (.lst (P.map nI)), .fz (.dk kvs), .fz (.lst (exD ps.length e)), .ow ((List.range i).map fun i => .fz (rowD (P.length + 1) (lvR ps.length (pP ps) P v e) i)), c5, c6, c7, c8, c9, .no]) (P.map nI) (fun i d ρ hd hI => by
    rw [List.getElem?_map, Option.map_eq_some_iff] at hd
    obtain ⟨o, ho, rfl⟩ := hd
    obtain ⟨c5, c6, c7, c8, c9, rfl⟩ := hI
    obtain ⟨hi, ho⟩ := List.getElem?_eq_some_iff.mp ho
    rw [nth_get hi] at ho
    rw [← ho]
    obtain ⟨d6, d7, d8, d9, e⟩ := mrow_turn h hm hl hi ((List.range i).map fun i => .fz (rowD (P.length + 1) (lvR ps.length (pP ps) P v e) i)) (by simp; omega) c5 c6 c7 c8 c9
    rw [e]
    refine ⟨.fz (.int (nth P i : Nat)), d6, d7, d8, d9, ?_⟩
    rw [List.range_succ, List.map_append]
    rfl) (ρ := [.fz (.lst (ps.map plD)), .fz (.lst (P.map nI)), .fz (.dk kvs), .fz (.lst (exD ps.length e)), .ow [], .no, .no, .no, .no, .no, .no]) ⟨_, _, _, _, _, rfl⟩
  rw [List.length_map] at e1
  have hrfz : ((List.range P.length).map fun i => C.fz (rowD (P.length + 1) (lvR ps.length (pP ps) P v e) i)).map fzD = (List.range P.length).map (rowD (P.length + 1) (lvR ps.length (pP ps) P v e)) := by rw [List.map_map]; rfl
  have hsol := sp_solved hR hl
  refine run_ok ?_
  generalize ((List.range P.length).map fun i => nC (gA P.length (lvR ps.length (pP ps) P v e) P.length i P.length)) = out at *
  generalize (List.range P.length).map (rowD (P.length + 1) (lvR ps.length (pP ps) P v e)) = rd at *
  generalize ((List.range P.length).map fun i => C.fz (rowD (P.length + 1) (lvR ps.length (pP ps) P v e) i)) = rc at *
  generalize exD ps.length e = ex at *
  generalize P.map nI = cd at *
  generalize ps.map plD = gm at *
  simp -implicitDefEqProofs [m_met, e1, hrfz, hsol]
end
end Lw

namespace Lw
open PySem PySem.Spec PyProof.Rows L2 Dn LA
/-! ### the rest of the places (E8) -/
theorem valD_any (k : Key) : ∀ kvs : List (Key × D), (kvs.any fun kv => decide (kv.1 = k)) = (valD kvs k).isSome
  | [] => rfl
  | q :: r => by
    rw [List.any_cons, valD_any k r]
    unfold valD
    rw [List.find?_cons]
    by_cases e : q.1 = k
    · rw [decide_eq_true e]; rfl
    · rw [decide_eq_false e]; rfl
theorem valD_map (k j : Key) (d : D) : ∀ kvs : List (Key × D), valD (kvs.map fun kv => if kv.1 = k then (kv.1, d) else kv) j = (valD kvs j).map fun x => if j = k then d else x
  | [] => rfl
  | q :: r => by
    have ih := valD_map k j d r
    unfold valD at ih ⊢
    rw [List.map_cons, List.find?_cons, List.find?_cons]
    have e1 : (if q.1 = k then (q.1, d) else q).1 = q.1 := by split <;> rfl
    by_cases e : q.1 = j
    · rw [e1, decide_eq_true e]
      simp only [Option.map_some]
      by_cases h : q.1 = k
      · rw [if_pos h, if_pos (e.symm.trans h)]
      · rw [if_neg h, if_neg (fun z => h (e.trans z))]
    · rw [e1, decide_eq_false e]
      exact ih
theorem valD_snoc (k j : Key) (d : D) : ∀ kvs : List (Key × D), valD kvs k = none → valD (kvs ++ [(k, d)]) j = if j = k then some d else valD kvs j
  | [], _ => by
    unfold valD
    by_cases e : k = j
    · simp [e]
    · simp [e, Ne.symm e, fun z : j = k => e z.symm]
  | q :: r, hn => by
    have hq : ¬ q.1 = k := fun z => by unfold valD at hn; rw [List.find?_cons, decide_eq_true z] at hn; cases hn
    have hn2 : valD r k = none := by unfold valD at hn ⊢; rw [List.find?_cons, decide_eq_false hq] at hn; exact hn
    have ih := valD_snoc k j d r hn2
    unfold valD at ih ⊢
    rw [List.cons_append, List.find?_cons, List.find?_cons]
    by_cases e : q.1 = j
    · rw [decide_eq_true e, if_neg (fun z => hq (e.trans z))]
    · rw [decide_eq_false e]; exact ih
theorem valD_put (kvs : List (Key × D)) (k j : Key) (d : D) : valD (putD kvs k d) j = if j = k then some d else valD kvs j := by
  unfold putD
  rw [valD_any]
  cases h : valD kvs k with
  | none => exact valD_snoc k j d kvs h
  | some x =>
    simp only [Option.isSome_some, if_true]
    rw [valD_map]
    by_cases e : j = k
    · rw [if_pos e, e, h, Option.map_some, if_pos rfl]
    · simp only [if_neg e]
      cases valD kvs j <;> rfl
theorem len_putD (kvs : List (Key × D)) (k : Key) (d : D) : (putD kvs k d).length ≤ kvs.length + 1 := by
  unfold putD
  split <;> simp
theorem zip_nth {L : List Nat} (x : Nat → Rat) : zipD (L.map nI) ((List.range L.length).map fun i => nD (x i)) = (List.range L.length).map fun i => .tup [nI (nth L i), nD (x i)] := by
  rw [map_nth nI, zip_range]
section
variable {Mg Bg Mx Be Bc : Nat} {ps : List Pl} {L : List Nat} {v e : Nat → Rat} {kvs : List (Key × D)}
theorem rest_loop {x : Nat → Rat} (hn : L.Nodup) (hl : L.length ≤ 60) (hk : kvs.length ≤ 900) (x0 x1 x2 x3 c5 c6 : C) :
    ∃ kv2 d5 d6, (∀ y : Nat, valD kv2 (.inl (y : Int)) = if y ∈ L then some (nD (ext L x y)) else valD kvs (.inl (y : Int))) ∧
      forL (Tg.put (.tup [(.nm 5), (.nm 6)])) b_with_rest_0 ((List.range L.length).map fun i => .tup [nI (nth L i), nD (x i)]) [x0, x1, x2, x3, .od kvs, c5, c6] = .nx [x0, x1, x2, x3, .od kv2, d5, d6] := by
  obtain ⟨ρ', e, kv2, c5, c6, rfl, h1, h2⟩ := forL_sat (put := Tg.put (.tup [(.nm 5), (.nm 6)])) (x := b_with_rest_0) (fun i ρ => ∃ kv2 c5 c6, ρ = [x0, x1, x2, x3, .od kv2, c5, c6] ∧ kv2.length ≤ kvs.length + i ∧ ∀ y : Nat, valD kv2 (.inl (y : Int)) = if y ∈ L.take i then some (nD (ext L x y)) else valD kvs (.inl (y : Int))) ((List.range L.length).map fun i => .tup [nI (nth L i), nD (x i)]) (fun i d ρ hd hI => by
    obtain ⟨kv2, c5, c6, rfl, h1, h2⟩ := hI
    have hi : i < L.length := by
      have := (List.getElem?_eq_some_iff.mp hd).1
      simpa using this
    rw [range_get _ hi] at hd
    cases hd
    have hs : kv2.length ≤ 1000 := by omega
    have hst : fStep (Tg.put (.tup [(.nm 5), (.nm 6)])) b_with_rest_0 (.tup [nI (nth L i), nD (x i)]) [x0, x1, x2, x3, .od kv2, c5, c6] = .nx [x0, x1, x2, x3, .od (putD kv2 (.inl (nth L i : Int)) (nD (x i))), .fz (nI (nth L i)), nC (x i)] := by
      unfold nC
      generalize nD (x i) = q at *
      simp -implicitDefEqProofs [nI, hs]
    rw [hst]
    refine ⟨_, _, _, rfl, Nat.le_trans (len_putD _ _ _) (by omega), fun y => ?_⟩
    have et : L.take (i + 1) = L.take i ++ [nth L i] := by rw [List.take_succ, List.getElem?_eq_getElem hi, nth_get hi]; rfl
    rw [valD_put, h2, et]
    have hkey : ((Sum.inl (y : Int) : Key) = Sum.inl (nth L i : Int)) ↔ y = nth L i := by
      constructor
      · intro z; injection z with z; omega
      · rintro rfl; rfl
    by_cases ey : y = nth L i
    · rw [if_pos (hkey.mpr ey), if_pos (by rw [ey]; simp), ey, ext_in hn x hi]
    · rw [if_neg (mt hkey.mp ey)]
      have : y ∈ L.take i ++ [nth L i] ↔ y ∈ L.take i := by simp [ey]
      simp only [this]) (ρ := [x0, x1, x2, x3, .od kvs, c5, c6]) ⟨kvs, c5, c6, rfl, by omega, fun y => by simp⟩
  refine ⟨kv2, c5, c6, fun y => ?_, e⟩
  have := h2 y
  rw [List.length_map, List.length_range, List.take_length] at this
  exact this
variable {M m K m2 Z Z2 : Nat}
theorem sp_with_rest (h : ChG Mg Bg ps) (hn : ps.length ≤ 30) (hk : kvs.length ≤ 900) (hL : L = (List.range ps.length).filter fun y : Nat => !(valD kvs (.inl (y : Int))).isSome)
    (hkn : ∀ y, y < ps.length → y ∉ L → valD kvs (.inl (y : Int)) = some (nD (v y))) (hm : MetOk ps L v e kvs Mx Be Bc) (hR : RowsW L.length (L.length + 1) M m K m2 Z Z2 (lvR ps.length (pP ps) L v e)) :
    w_with_rest [.fz (.lst (ps.map plD)), .fz (.dk kvs), .fz (.lst (exD ps.length e))] = .ok (.ow ((List.range ps.length).map fun y => nC (LA.put L v (fun i => gA L.length (lvR ps.length (pP ps) L v e) L.length i L.length) y))) [] := by
  have hLn : L.length ≤ ps.length := nodup_le hm.nd hm.lt
  have l5 : lcL [5] (Tg.put (.nm 5)) (asB (eInK true (eVar 5) 1)) (eVar 5) (intsD 0 ps.length) [] [.fz (.lst (ps.map plD)), .fz (.dk kvs), .fz (.lst (exD ps.length e)), .no, .no, .no, .no] =
      .ok (L.map cI) [.fz (.lst (ps.map plD)), .fz (.dk kvs), .fz (.lst (exD ps.length e)), .no, .no, .no, .no] := by
    rw [intsD0, hL]
    refine lcL_filtO _ nI (fun y : Nat => !(valD kvs (.inl (y : Int))).isSome) cI _ (by simp; omega) fun y hy => ?_
    cases hv : valD kvs (.inl (y : Int)) with
    | none => simp -implicitDefEqProofs [nI, cI, hv]
    | some d => simp -implicitDefEqProofs [nI, cI, hv]
  have hmet := sp_met h hm (by omega) hR
  obtain ⟨kv2, d5, d6, h2, e1⟩ := rest_loop (kvs := kvs) (x := fun i => gA L.length (lvR ps.length (pP ps) L v e) L.length i L.length) hm.nd (by omega) hk (.fz (.lst (ps.map plD))) (.fz (.dk kvs)) (.fz (.lst (exD ps.length e))) (.fz (.lst (L.map nI))) .no .no
  have hz := zip_nth (L := L) (fun i => gA L.length (lvR ps.length (pP ps) L v e) L.length i L.length)
  have hfz := fz_cI L
  have hsz : ((List.range L.length).map fun i => nC (gA L.length (lvR ps.length (pP ps) L v e) L.length i L.length)).map fzD = (List.range L.length).map fun i => nD (gA L.length (lvR ps.length (pP ps) L v e) L.length i L.length) := by rw [List.map_map]; rfl
  have l5b : lcL [5] (Tg.put (.nm 5)) bYes e_with_rest_1 (intsD 0 ps.length) [] [.fz (.lst (ps.map plD)), .fz (.dk kvs), .fz (.lst (exD ps.length e)), .fz (.lst (L.map nI)), .od kv2, .no, d6] =
      .ok ((List.range ps.length).map fun y => nC (LA.put L v (fun i => gA L.length (lvR ps.length (pP ps) L v e) L.length i L.length) y)) [.fz (.lst (ps.map plD)), .fz (.dk kvs), .fz (.lst (exD ps.length e)), .fz (.lst (L.map nI)), .od kv2, .no, d6] := by
    refine lcL_rng _ _ _ (by omega) fun y hy => ?_
    have hv : valD kv2 (.inl (y : Int)) = some (nD (LA.put L v (fun i => gA L.length (lvR ps.length (pP ps) L v e) L.length i L.length) y)) := by
      rw [h2]
      unfold LA.put
      by_cases my : y ∈ L
      · rw [if_pos my, if_pos my]
      · rw [if_neg my, if_neg my]; exact hkn y hy my
    unfold nC
    generalize nD (LA.put L v (fun i => gA L.length (lvR ps.length (pP ps) L v e) L.length i L.length) y) = q at *
    simp -implicitDefEqProofs [hv]
  have hpl : (ps.map plD).length = ps.length := by simp
  have hr1 := r62_n (n := ps.length) (by omega)
  refine run_ok ?_
  generalize ((List.range ps.length).map fun y => nC (LA.put L v (fun i => gA L.length (lvR ps.length (pP ps) L v e) L.length i L.length) y)) = out at *
  generalize ((List.range L.length).map fun i => nC (gA L.length (lvR ps.length (pP ps) L v e) L.length i L.length)) = xc at *
  generalize ((List.range L.length).map fun i => nD (gA L.length (lvR ps.length (pP ps) L v e) L.length i L.length)) = xd at *
  generalize ((List.range L.length).map fun i => D.tup [nI (nth L i), nD (gA L.length (lvR ps.length (pP ps) L v e) L.length i L.length)]) = zz at *
  generalize exD ps.length e = ex at *
  generalize L.map cI = lc at *
  generalize L.map nI = cd at *
  generalize ps.map plD = gm at *
  simp -implicitDefEqProofs [m_with_rest, hpl, hr1, l5, hfz, hmet, hsz, hz, e1, l5b]
end
end Lw

namespace Lw
open PySem PySem.Spec PyProof.Rows L2 Dn LA
/-! ### one divisor for all classes (E9) -/
abbrev QL : Nat := 12 * (7 * LL)
theorem whole_div {N E : Int} (hE : E ≠ 0) : ∃ z : Int, (E.natAbs : Rat) * Rat.divInt N E = (z : Rat) := by
  rw [Rat.divInt_eq_div]
  have hq : (E : Rat) ≠ 0 := fun z => hE (by exact_mod_cast z)
  rcases Int.lt_or_gt_of_ne hE with z | z
  · refine ⟨-N, ?_⟩
    have : ((E.natAbs : Nat) : Rat) = -(E : Rat) := by
      have e1 : ((E.natAbs : Nat) : Int) = -E := by omega
      have : (((E.natAbs : Nat) : Int) : Rat) = ((-E : Int) : Rat) := by rw [e1]
      rw [Rat.intCast_neg] at this
      exact this
    rw [this, Rat.intCast_neg]
    have := Rat.div_mul_cancel (a := (N : Rat)) hq
    grind
  · refine ⟨N, ?_⟩
    have : ((E.natAbs : Nat) : Rat) = (E : Rat) := by
      have e1 : ((E.natAbs : Nat) : Int) = E := by omega
      have : (((E.natAbs : Nat) : Int) : Rat) = (E : Rat) := by rw [e1]
      exact this
    rw [this]
    have := Rat.div_mul_cancel (a := (N : Rat)) hq
    grind
def Whole (K : Nat) (q : Rat) : Prop := ∃ z : Int, (K : Rat) * q = (z : Rat)
theorem Whole.mulL {K : Nat} {q : Rat} (h : Whole K q) (c : Nat) : Whole (c * K) q := by
  obtain ⟨z, e⟩ := h
  refine ⟨c * z, ?_⟩
  rw [Rat.intCast_mul, ← e]
  have : ((c * K : Nat) : Rat) = (c : Rat) * (K : Rat) := by exact_mod_cast rfl
  rw [this]
  show _ = (c : Rat) * _
  grind
theorem Whole.mulR {K : Nat} {q : Rat} (h : Whole K q) (c : Nat) : Whole (K * c) q := by rw [Nat.mul_comm]; exact h.mulL c
theorem Whole.dvd {K M : Nat} {q : Rat} (h : Whole K q) (hd : K ∣ M) : Whole M q := by obtain ⟨c, rfl⟩ := hd; exact h.mulR c
theorem Whole.add {K : Nat} {a b : Rat} (h1 : Whole K a) (h2 : Whole K b) : Whole K (a + b) := by
  obtain ⟨x, e1⟩ := h1
  obtain ⟨y, e2⟩ := h2
  refine ⟨x + y, ?_⟩
  rw [Rat.intCast_add, ← e1, ← e2]; grind
theorem Whole.neg {K : Nat} {a : Rat} (h1 : Whole K a) : Whole K (-a) := by
  obtain ⟨x, e1⟩ := h1
  refine ⟨-x, ?_⟩
  rw [Rat.intCast_neg, ← e1]; grind
theorem Whole.sub {K : Nat} {a b : Rat} (h1 : Whole K a) (h2 : Whole K b) : Whole K (a - b) := by rw [Rat.sub_eq_add_neg]; exact h1.add h2.neg
theorem Whole.mul {K M : Nat} {a b : Rat} (h1 : Whole K a) (h2 : Whole M b) : Whole (K * M) (a * b) := by
  obtain ⟨x, e1⟩ := h1
  obtain ⟨y, e2⟩ := h2
  refine ⟨x * y, ?_⟩
  rw [Rat.intCast_mul, ← e1, ← e2]
  have : ((K * M : Nat) : Rat) = (K : Rat) * (M : Rat) := by exact_mod_cast rfl
  rw [this]; grind
theorem Whole.sm {K : Nat} {f : Nat → Rat} : ∀ {n}, (∀ i, i < n → Whole K (f i)) → Whole K (sm f n)
  | 0, _ => ⟨0, by simp [LA.sm]⟩
  | n + 1, h => by
    simp only [LA.sm]
    exact (Whole.sm fun i hi => h i (by omega)).add (h n (by omega))
theorem Whole.zero (K : Nat) : Whole K 0 := ⟨0, by grind⟩
theorem whole_inn {M B : Nat} {q : Rat} (h : Inn M B q) : Whole M q := let ⟨k, e, _⟩ := inn_mul h; ⟨k, e⟩
theorem inn_wholeE {K B : Nat} {q : Rat} (hK : 0 < K) (hz : Whole K q) (h1 : -(B : Rat) ≤ q) (h2 : q ≤ (B : Rat)) : Inn K B q := by
  obtain ⟨z, hz⟩ := hz
  have h0 : ((K : Int) : Rat) ≠ 0 := fun e => by
    have : (K : Int) = 0 := by exact_mod_cast e
    omega
  have hKp : (0 : Rat) ≤ (K : Rat) := by
    have : ((0 : Nat) : Rat) ≤ (K : Rat) := by exact_mod_cast Nat.zero_le K
    exact this
  refine ⟨hK, z, ?_, ?_⟩
  · rw [Rat.divInt_eq_div, ← hz]
    show q = ((K : Int) : Rat) * q / ((K : Int) : Rat)
    rw [Rat.mul_comm, Rat.mul_div_cancel h0]
  · have a1 : (z : Rat) ≤ (((B * K : Nat) : Int) : Rat) := by
      rw [← hz]
      have := Rat.mul_le_mul_of_nonneg_left h2 hKp
      have e : (((B * K : Nat) : Int) : Rat) = (K : Rat) * (B : Rat) := by
        rw [Int.natCast_mul, Rat.intCast_mul, Rat.mul_comm]; rfl
      rw [e]; exact this
    have a2 : ((-((B * K : Nat) : Int) : Int) : Rat) ≤ (z : Rat) := by
      rw [← hz]
      have := Rat.mul_le_mul_of_nonneg_left h1 hKp
      have e : ((-((B * K : Nat) : Int) : Int) : Rat) = (K : Rat) * -(B : Rat) := by
        rw [Rat.intCast_neg, Int.natCast_mul, Rat.intCast_mul]
        show -((B : Rat) * (K : Rat)) = _
        grind
      rw [e]; exact this
    have b1 : z ≤ ((B * K : Nat) : Int) := by exact_mod_cast a1
    have b2 : -((B * K : Nat) : Int) ≤ z := by exact_mod_cast a2
    omega
/-- the bounds of a number in parts of M -/
theorem inn_le {M B : Nat} {q : Rat} (h : Inn M B q) : -(B : Rat) ≤ q ∧ q ≤ (B : Rat) := by
  obtain ⟨hp, k, e, b⟩ := h
  have h0 : (0 : Rat) < ((M : Int) : Rat) := by exact_mod_cast hp
  have b1 : (k : Rat) ≤ (((B * M : Nat) : Int) : Rat) := by exact_mod_cast (show k ≤ ((B * M : Nat) : Int) by omega)
  have b2 : ((-((B * M : Nat) : Int) : Int) : Rat) ≤ (k : Rat) := by exact_mod_cast (show -((B * M : Nat) : Int) ≤ k by omega)
  have e1 : (((B * M : Nat) : Int) : Rat) = (B : Rat) * ((M : Int) : Rat) := by rw [Int.natCast_mul, Rat.intCast_mul]; rfl
  rw [e1] at b1
  rw [Rat.intCast_neg, e1] at b2
  have hc : (k : Rat) / ((M : Int) : Rat) * ((M : Int) : Rat) = (k : Rat) := Rat.div_mul_cancel (Rat.ne_of_gt h0)
  rw [e, Rat.divInt_eq_div]
  constructor
  · refine Rat.le_of_mul_le_mul_right ?_ h0
    rw [hc]; grind
  · refine Rat.le_of_mul_le_mul_right ?_ h0
    rw [hc]; exact b1
section
variable {n w Z Z2 M m K m2 : Nat} {R : Nat → Nat → Rat}
/-- the numbers of the solution, times one number, are whole; how great they are -/
theorem RowsW.whole (h : RowsW n w M m K m2 Z Z2 R) : ∃ d : Nat, 0 < d ∧ d ≤ (n * m) ^ n ∧ ∀ i, i < n → Whole (K * d) (gA n R n i n) := by
  obtain ⟨D, h1, h2, h3, h4⟩ := gauss_size (w := w) h.hM h.hm (by rw [h.hw]; omega) h.int h.ns (Nat.le_refl n)
  have hK := h.hK
  have hKD : (K : Int) * D ≠ 0 := Int.mul_ne_zero (by omega) h1
  refine ⟨D.natAbs, Int.natAbs_pos.mpr h1, h2, fun i hi => ?_⟩
  obtain ⟨N, e, b⟩ := h4 K m2 n hK (by rw [h.hw]; omega) h.last i hi
  rw [e]
  have := whole_div (N := N) hKD
  rw [Int.natAbs_mul] at this
  exact this
end
def prodE : List Nat → Nat
  | [] => 1
  | a :: l => a * prodE l
theorem prodE_dvd : ∀ {l : List Nat} {a : Nat}, a ∈ l → a ∣ prodE l
  | b :: l, a, m => by
    rcases List.mem_cons.mp m with rfl | m
    · exact ⟨prodE l, rfl⟩
    · exact Nat.dvd_trans (prodE_dvd m) ⟨b, by simp only [prodE]; rw [Nat.mul_comm]⟩
theorem prodE_pos : ∀ {l : List Nat}, (∀ a ∈ l, 0 < a) → 0 < prodE l
  | [], _ => by decide
  | a :: l, h => Nat.mul_pos (h a List.mem_cons_self) (prodE_pos fun b m => h b (List.mem_cons_of_mem _ m))
theorem prodE_le {A : Nat} (f : Nat → Nat) (c : Nat → List Nat) : ∀ H : List Nat, (∀ h ∈ H, f h ≤ A ^ (c h).length) → prodE (H.map f) ≤ A ^ (H.flatMap c).length
  | [], _ => by simp [prodE]
  | h :: H, hh => by
    simp only [List.map_cons, prodE, List.flatMap_cons, List.length_append]
    rw [Nat.pow_add]
    exact Nat.mul_le_mul (hh h List.mem_cons_self) (prodE_le f c H fun x m => hh x (List.mem_cons_of_mem _ m))
open Classical in
noncomputable def recE (ps : List Pl) : List Nat := (List.range ps.length).filter fun k => decide (Recur ps.length (pP ps) k)
open Classical in
noncomputable def liveE (ps : List Pl) : List Nat := (List.range ps.length).filter fun k => decide (¬ Recur ps.length (pP ps) k)
theorem filt_two {α : Type} (P : α → Bool) : ∀ l : List α, (l.filter P).length + (l.filter fun a => !P a).length = l.length
  | [] => rfl
  | a :: l => by
    have := filt_two P l
    rw [List.filter_cons, List.filter_cons]
    cases P a <;> simp <;> omega
theorem rec_live (ps : List Pl) : (recE ps).length + (liveE ps).length = ps.length := by
  have := filt_two (fun k => @decide (Recur ps.length (pP ps) k) (Classical.propDecidable _)) (List.range ps.length)
  rw [List.length_range] at this
  have e : (liveE ps) = (List.range ps.length).filter fun a => !@decide (Recur ps.length (pP ps) a) (Classical.propDecidable _) := by
    unfold liveE
    refine List.filter_congr fun k _ => ?_
    by_cases h : Recur ps.length (pP ps) k <;> simp [h]
  rw [e]
  exact this
theorem liveE_ok (ps : List Pl) : Live ps.length (pP ps) (liveE ps) where
  nd := (List.Pairwise.filter _ List.pairwise_lt_range : (liveE ps).Pairwise (· < ·)).imp fun h => Nat.ne_of_lt h
  lt := fun c m => by
    unfold liveE at m
    exact List.mem_range.mp (List.mem_filter.mp m).1
  iff := fun x hx => by
    unfold liveE
    rw [List.mem_filter, List.mem_range]
    simp [hx]
section
variable {Mg Bg : Nat} {ps : List Pl}
open Classical in
theorem ChG.commonG (h : ChG Mg Bg ps) {A : Nat} (hA : 0 < A) {f : Nat → Rat}
    (hκ : ∀ x, x < ps.length → Recur ps.length (pP ps) x → ∃ κ : Nat, 0 < κ ∧ κ ≤ A ^ (rchF ps ps.length x).length ∧ ∀ y ∈ rchF ps ps.length x, Whole κ (f y)) :
    ∃ K, 0 < K ∧ K ≤ A ^ (recE ps).length ∧ ∀ y, y < ps.length → Recur ps.length (pP ps) y → Whole K (f y) := by
  let C : Nat → List Nat := rchF ps ps.length
  have hk : ∀ x, ∃ κ : Nat, 0 < κ ∧ (x < ps.length → Recur ps.length (pP ps) x → κ ≤ A ^ (C x).length ∧ ∀ y ∈ C x, Whole κ (f y)) := fun x => by
    by_cases hx : x < ps.length ∧ Recur ps.length (pP ps) x
    · obtain ⟨κ, k1, k2, k3⟩ := hκ x hx.1 hx.2
      exact ⟨κ, k1, fun _ _ => ⟨k2, k3⟩⟩
    · exact ⟨1, by decide, fun a b => absurd ⟨a, b⟩ hx⟩
  obtain ⟨κ, hκ⟩ := Classical.axiomOfChoice hk
  let H : List Nat := (List.range ps.length).filter fun k => decide (Recur ps.length (pP ps) k ∧ nth (C k) 0 = k)
  have hH : ∀ k, k ∈ H ↔ k < ps.length ∧ Recur ps.length (pP ps) k ∧ nth (C k) 0 = k := fun k => by
    show k ∈ (List.range ps.length).filter _ ↔ _
    rw [List.mem_filter, List.mem_range]; simp
  have nd : (H.flatMap C).Nodup := by
    unfold List.Nodup
    rw [List.pairwise_flatMap]
    refine ⟨fun a m => rch_nd ps _ a, ?_⟩
    have hHn : H.Pairwise (· < ·) := List.Pairwise.filter _ List.pairwise_lt_range
    refine (List.pairwise_iff_getElem.mpr fun i j hi hj hij => ?_)
    have hlt := List.pairwise_iff_getElem.mp hHn i j hi hj hij
    have m1 := (hH _).mp (List.getElem_mem hi)
    have m2 := (hH _).mp (List.getElem_mem hj)
    rintro x hx y hy rfl
    have r1 := (rch_mem m1.1 h.tl x).mp hx
    have r2 := (rch_mem m2.1 h.tl x).mp hy
    have e1 := h.same m1.1 m1.2.1 r1
    have e2 := h.same m2.1 m2.2.1 r2
    have : C H[i] = C H[j] := e1.symm.trans e2
    have e3 := m1.2.2
    rw [this, m2.2.2] at e3
    omega
  have hlen : (H.flatMap C).length ≤ (recE ps).length := sub_len nd fun y m => by
    obtain ⟨a, ha, hy⟩ := List.mem_flatMap.mp m
    obtain ⟨a1, a2, _⟩ := (hH a).mp ha
    have r := (rch_mem a1 h.tl y).mp hy
    unfold recE
    rw [List.mem_filter, List.mem_range]
    exact ⟨rcT_lt a1 h.tl r, decide_eq_true (a2.rc ((h.rc a1 y).mpr r))⟩
  refine ⟨prodE (H.map κ), prodE_pos fun a m => ?_, ?_, fun y hy hr => ?_⟩
  · obtain ⟨k, _, rfl⟩ := List.mem_map.mp m
    exact (hκ k).1
  · refine Nat.le_trans (prodE_le κ C H fun k m => ((hκ k).2 ((hH k).mp m).1 ((hH k).mp m).2.1).1) ?_
    exact Nat.pow_le_pow_right hA hlen
  · have h0 := h.cls0 hy
    have hm : nth (C y) 0 ∈ C y := nth_mem h0
    have hr0 := (rch_mem hy h.tl _).mp hm
    have hlt := rcT_lt hy h.tl hr0
    have hsame := h.same hy hr hr0
    have hrec : Recur ps.length (pP ps) (nth (C y) 0) := hr.rc ((h.rc hy _).mpr hr0)
    have hhead : nth (C y) 0 ∈ H := (hH _).mpr ⟨hlt, hrec, by show nth (rchF ps ps.length _) 0 = _; rw [hsame]⟩
    have hw := ((hκ (nth (C y) 0)).2 hlt hrec).2 y (by show y ∈ rchF ps ps.length _; rw [hsame]; exact (rch_mem hy h.tl y).mpr .refl)
    exact hw.dvd (prodE_dvd (List.mem_map_of_mem (f := κ) hhead))
end
end Lw

namespace Lw
open PySem PySem.Spec PyProof.Rows L2 Dn LA
/-! ### the systems' sizes (E10) -/
theorem hz_ok {len K s t B : Nat} (hK : K ≤ 2 ^ 450 * QL ^ s) (hB : B ≤ 2 ^ 30 * QL ^ t) (hs : s + t + 2 * len + 1 ≤ 52) : QL ^ len * (12 * (LL * K * B) * QL ^ len) < 2 ^ 4500 := by
  have h1 : 12 * LL ≤ QL := by decide
  have e1 : QL ^ len * (12 * (LL * K * B) * QL ^ len) = (12 * LL) * (K * B) * (QL ^ len * QL ^ len) := by
    generalize QL ^ len = q
    generalize LL = l
    generalize 12 = c
    ac_rfl
  rw [e1, ← Nat.pow_add]
  have h2 : (12 * LL) * (K * B) * QL ^ (len + len) ≤ QL * ((2 ^ 450 * QL ^ s) * (2 ^ 30 * QL ^ t)) * QL ^ (len + len) := Nat.mul_le_mul_right _ (Nat.mul_le_mul h1 (Nat.mul_le_mul hK hB))
  have e2 : QL * ((2 ^ 450 * QL ^ s) * (2 ^ 30 * QL ^ t)) * QL ^ (len + len) = 2 ^ 480 * QL ^ (1 + s + t + (len + len)) := by
    have h90 : (2 : Nat) ^ 480 = 2 ^ 450 * 2 ^ 30 := by rw [← Nat.pow_add]
    rw [Nat.pow_add QL (1 + s + t), Nat.pow_add QL (1 + s), Nat.pow_add QL 1, Nat.pow_one, h90]
    generalize QL ^ (len + len) = q
    generalize QL ^ s = u
    generalize QL ^ t = v
    generalize (2 : Nat) ^ 450 = x
    generalize (2 : Nat) ^ 30 = y
    generalize QL = z
    grind
  rw [e2] at h2
  refine Nat.lt_of_le_of_lt h2 (Nat.lt_of_le_of_lt (Nat.mul_le_mul_left _ (Nat.pow_le_pow_right (by decide) (show 1 + s + t + (len + len) ≤ 52 by omega))) (by decide))
theorem ql_pos : 0 < QL := by decide
theorem nm_le {n : Nat} (hn : n ≤ 12) : (n * (7 * LL)) ^ n ≤ QL ^ n := Nat.pow_le_pow_left (Nat.mul_le_mul_right _ hn) n
theorem kS_inn {P : List Nat} {v : Nat → Rat} {K Bv : Nat} (hK : 0 < K) : ∀ {bs : List (Rat × Nat)}, (∀ b ∈ bs, Inn LL 1 b.1 ∧ (b.2 ∉ P → Inn K Bv (v b.2))) → Inn (LL * K) (bs.length * Bv) (kS P v bs)
  | [], _ => by rw [List.length_nil, Nat.zero_mul]; exact Inn.zero (Nat.mul_pos LL_pos hK)
  | b :: bs, h => by
    have i1 := kS_inn (P := P) (v := v) hK fun b m => h b (List.mem_cons_of_mem _ m)
    obtain ⟨b1, b2⟩ := h b List.mem_cons_self
    have e0 : (b :: bs).length * Bv = Bv + bs.length * Bv := by rw [List.length_cons, Nat.succ_mul, Nat.add_comm]
    rw [e0]
    show Inn (LL * K) (Bv + bs.length * Bv) ((if b.2 ∈ P then 0 else b.1 * v b.2) + kS P v bs)
    by_cases m : b.2 ∈ P
    · rw [if_pos m]
      exact ((Inn.zero (Nat.mul_pos LL_pos hK)).le (Nat.zero_le Bv)).add i1
    · rw [if_neg m]
      have := b1.mul (b2 m)
      rw [Nat.one_mul] at this
      exact this.add i1
section
variable {Mg Bg : Nat} {ps : List Pl} {L : List Nat} {v e : Nat → Rat} {K Be Bv : Nat}
/-- the solution of the equations -/
def slF (ps : List Pl) (L : List Nat) (v e : Nat → Rat) (i : Nat) : Rat := gA L.length (lvR ps.length (pP ps) L v e) L.length i L.length
structure SysOk (ps : List Pl) (L : List Nat) (v e : Nat → Rat) (K Be Bv : Nat) : Prop where
  out : Out ps.length (pP ps) L
  hK : 0 < K
  kn : ∀ c ∈ L, ∀ y ∈ tgA ps c, y ∉ L → Inn K Bv (v y)
  ex : ∀ c ∈ L, Inn K Be (e c)
  hZ : QL ^ L.length * (12 * (LL * K * (Be + 6 * Bv + 1)) * QL ^ L.length) < 2 ^ 4500
theorem SysOk.last (h : ChG Mg Bg ps) (s : SysOk ps L v e K Be Bv) {r : Nat} (hr : r < L.length) : Inn (LL * K) (Be + 6 * Bv) (lvR ps.length (pP ps) L v e r L.length) := by
  unfold lvR
  rw [if_neg (Nat.lt_irrefl _)]
  have hm := nth_mem hr
  obtain ⟨g, bs, b1, p1, p2⟩ := h.at (s.out.lt _ hm)
  have e1 : (fun y => if y ∈ L then (0 : Rat) else pP ps (nth L r) y * v y) = fun y => if y ∈ L then 0 else chS bs y * v y := by
    funext y; rw [pP_eq b1]
  rw [e1, ← kS_sm fun b m => (p1.2.2.2 b m).2]
  have i1 := (s.ex _ hm).dvd (M' := LL * K) ⟨LL, Nat.mul_comm _ _⟩ (Nat.mul_pos LL_pos s.hK)
  have i2 := kS_inn (P := L) (v := v) (K := K) (Bv := Bv) s.hK (bs := bs) fun b m => ⟨(p1.2.2.2 b m).1, fun hn => s.kn _ hm b.2 (by unfold tgA; rw [b1]; exact List.mem_map.mpr ⟨b, m, rfl⟩) hn⟩
  exact i1.add (i2.le (Nat.mul_le_mul_right _ p1.2.2.1))
theorem SysOk.rows (h : ChG Mg Bg ps) (hl : ps.length ≤ 12) (s : SysOk ps L v e K Be Bv) :
    RowsW L.length (L.length + 1) LL (7 * LL) K (LL * K * (Be + 6 * Bv)) (QL ^ L.length) (12 * (LL * K * (Be + 6 * Bv + 1)) * QL ^ L.length) (lvR ps.length (pP ps) L v e) := by
  have hn : L.length ≤ 12 := Nat.le_trans (nodup_le s.out.nd s.out.lt) hl
  have hp := nm_le hn
  refine ⟨by decide, by decide, rfl, by omega, fun r j hr hj => ?_, s.out.ns h.chain _ _, s.hK, fun r hr => ?_, hp, ?_, ?_, s.hZ⟩
  · unfold lvR
    rw [if_pos hj]
    obtain ⟨k, ek, b⟩ := inn_mul (((d_inn LL_pos (j = r)).sub (h.p_inn (s.out.lt _ (nth_mem hr)) (nth L j))).le (B' := 7) (Nat.le_refl 7))
    exact ⟨k, ek, b⟩
  · obtain ⟨k, ek, b⟩ := inn_mul (s.last h hr)
    refine ⟨k, ?_, by rw [Nat.mul_comm (LL * K)]; exact b⟩
    rw [← ek]
    have : ((LL * K : Nat) : Rat) = (LL : Rat) * (K : Rat) := by exact_mod_cast rfl
    rw [this]
    generalize (LL : Rat) = l
    grind
  · refine Nat.mul_le_mul ?_ hp
    refine Nat.le_trans (Nat.le_mul_of_pos_left K (by decide : 0 < 12 * LL)) ?_
    rw [Nat.mul_assoc 12, ← Nat.mul_assoc 12 (LL * K)]
    exact Nat.le_mul_of_pos_right _ (Nat.succ_pos _)
  · refine Nat.mul_le_mul (Nat.mul_le_mul hn (Nat.mul_le_mul_left _ (Nat.le_succ _))) hp
theorem SysOk.szw (h : ChG Mg Bg ps) (s : SysOk ps L v e K Be Bv) : Szw (LL * K) (Be + 6 * Bv) := by
  have hq : 0 < QL ^ L.length := Nat.pow_pos ql_pos
  have h1 : LL * K * (Be + 6 * Bv + 1) < 2 ^ 4500 := by
    refine Nat.lt_of_le_of_lt ?_ s.hZ
    refine Nat.le_trans ?_ (Nat.le_mul_of_pos_left _ hq)
    refine Nat.le_trans ?_ (Nat.le_mul_of_pos_right _ hq)
    exact Nat.le_mul_of_pos_left _ (by decide)
  constructor
  · exact Nat.lt_of_le_of_lt (Nat.le_mul_of_pos_right _ (Nat.succ_pos _)) h1
  · rw [Nat.mul_comm]
    exact Nat.lt_of_le_of_lt (Nat.mul_le_mul_left _ (Nat.le_succ _)) h1
theorem SysOk.met (h : ChG Mg Bg ps) (s : SysOk ps L v e K Be Bv) {kvs : List (Key × D)} (kin : ∀ c ∈ L, ∀ t ∈ tgA ps c, t ∈ L → valD kvs (.inl (t : Int)) = none)
    (kout : ∀ c ∈ L, ∀ t ∈ tgA ps c, t ∉ L → valD kvs (.inl (t : Int)) = some (nD (v t))) : MetOk ps L v e kvs (LL * K) Be Bv where
  nd := s.out.nd
  lt := s.out.lt
  kin := kin
  kout := fun c m t ht hn => by
    refine ⟨kout c m t ht hn, (s.kn c m t ht hn).szw ?_⟩
    have z := s.szw h
    have h0 : Bv ≤ Be + 6 * Bv := by omega
    exact (z.le h0).dvd ⟨LL, Nat.mul_comm _ _⟩ (Nat.mul_pos LL_pos s.hK)
  ext := fun c m => (s.ex c m).dvd ⟨LL, Nat.mul_comm _ _⟩ (Nat.mul_pos LL_pos s.hK)
  prod := fun c m g bs b1 b mb hn => by
    obtain ⟨g', bs', b1', p1, p2⟩ := h.at (s.out.lt _ m)
    rw [b1] at b1'
    cases b1'
    have := (p1.2.2.2 b mb).1.mul (s.kn c m b.2 (by unfold tgA; rw [b1]; exact List.mem_map.mpr ⟨b, mb, rfl⟩) hn)
    rw [Nat.one_mul] at this
    exact this
  hM := Nat.mul_pos LL_pos s.hK
  szw := s.szw h
theorem SysOk.eqs (h : ChG Mg Bg ps) (hl : ps.length ≤ 12) (s : SysOk ps L v e K Be Bv) : ∀ i, i < L.length → slF ps L v e i = e (nth L i) + mn ps.length (pP ps) (LA.put L v (slF ps L v e)) (nth L i) :=
  lv_sol s.out.nd s.out.lt fun i hi => (s.rows h hl).sol hi
theorem SysOk.whole (h : ChG Mg Bg ps) (hl : ps.length ≤ 12) (s : SysOk ps L v e K Be Bv) : ∃ d : Nat, 0 < d ∧ d ≤ QL ^ L.length ∧ ∀ i, i < L.length → Whole (K * d) (slF ps L v e i) := by
  obtain ⟨d, d1, d2, d3⟩ := (s.rows h hl).whole
  exact ⟨d, d1, Nat.le_trans d2 (nm_le (Nat.le_trans (nodup_le s.out.nd s.out.lt) hl)), d3⟩
theorem SysOk.okw (h : ChG Mg Bg ps) (hl : ps.length ≤ 12) (s : SysOk ps L v e K Be Bv) {i : Nat} (hi : i < L.length) : Bd (12 * (LL * K * (Be + 6 * Bv + 1)) * QL ^ L.length) (slF ps L v e i) :=
  ((s.rows h hl).sized (Nat.le_refl _)).1 i _ hi (by omega)
end
end Lw

namespace Lw
open PySem PySem.Spec PyProof.Rows L2 Dn LA
/-! ### the long gains (E11) -/
theorem sp_weighed_by {n : Nat} {f g : Nat → Rat} {M B : Nat} (hn : n ≤ 900) (hM : 0 < M) (h : ∀ k, k < n → Okw (f k) ∧ Okw (g k) ∧ Inn M B (f k * g k)) (hz : Szw M (n * B)) (hb : 0 < n) :
    w_weighed_by [.fz (.lst ((List.range n).map fun k => nD (f k))), .fz (.lst ((List.range n).map fun k => nD (g k)))] = .ok (nC (sm (fun k => f k * g k) n)) [] := by
  have hzr := zip_range n (fun k => nD (f k)) (fun k => nD (g k))
  have hz1 : Szw M B := hz.le (Nat.le_mul_of_pos_left _ hb)
  have l2 : lcL [2, 3] (Tg.put (.tup [(.nm 2), (.nm 3)])) bYes e_weighed_by_0 ((List.range n).map fun k => .tup [nD (f k), nD (g k)]) [] [.fz (.lst ((List.range n).map fun k => nD (f k))), .fz (.lst ((List.range n).map fun k => nD (g k))), .no, .no] =
      .ok ((List.range n).map fun k => nC (f k * g k)) [.fz (.lst ((List.range n).map fun k => nD (f k))), .fz (.lst ((List.range n).map fun k => nD (g k))), .no, .no] := by
    refine lcL_getO _ (fun k => .tup [nD (f k), nD (g k)]) (fun k => nC (f k * g k)) _ (by simp; omega) fun k hk => ?_
    obtain ⟨a1, a2, a3⟩ := h k (List.mem_range.mp hk)
    have t := sp_timesW a1 a2 (a3.szw hz1).2
    unfold nC at t ⊢
    generalize nD (f k * g k) = q3 at *
    generalize (List.range n).map (fun k => nD (f k)) = lf at *
    generalize (List.range n).map (fun k => nD (g k)) = lg at *
    generalize nD (f k) = q1 at *
    generalize nD (g k) = q2 at *
    simp -implicitDefEqProofs [t]
  have htot := sp_totalW (qs := (List.range n).map fun k => f k * g k) (M := M) (B := B) (fun q m => by
    obtain ⟨k, hk, rfl⟩ := List.mem_map.mp m
    exact (h k (List.mem_range.mp hk)).2.2) hM (by simpa using hz)
  rw [sumF_range] at htot
  have hfz : ((List.range n).map fun k => nC (f k * g k)).map fzD = ((List.range n).map fun k => f k * g k).map nD := by rw [List.map_map, List.map_map]; rfl
  refine run_ok ?_
  generalize ((List.range n).map fun k => nC (f k * g k)) = oc at *
  generalize (((List.range n).map fun k => f k * g k).map nD) = od at *
  generalize ((List.range n).map fun k => D.tup [nD (f k), nD (g k)]) = zz at *
  generalize (List.range n).map (fun k => nD (f k)) = lf at *
  generalize (List.range n).map (fun k => nD (g k)) = lg at *
  simp -implicitDefEqProofs [m_weighed_by, hzr, l2, hfz, htot]
section
variable {Mg Bg : Nat} {ps : List Pl}
/-- the gain of x's class -/
noncomputable def cgQ (ps : List Pl) (x : Nat) : Rat := sm (fun k => shF ps (rchF ps ps.length x) k * gP ps (nth (rchF ps ps.length x) k)) (rchF ps ps.length x).length
theorem ChG.shq (h : ChG Mg Bg ps) (hl : ps.length ≤ 12) {x : Nat} (hx : x < ps.length) (hr : Recur ps.length (pP ps) x) :
    Stat (rchF ps ps.length x).length (subP (pP ps) (rchF ps ps.length x)) (shF ps (rchF ps ps.length x)) ∧ sm (shF ps (rchF ps ps.length x)) (rchF ps ps.length x).length = 1 ∧ ∀ k, k < (rchF ps ps.length x).length → 0 < shF ps (rchF ps ps.length x) k :=
  (h.cls hx hr).shq_sol h.chain (h.cls0 hx) fun i hi => (h.sqrows hx hl hr).sol hi
theorem ChG.shareQ (h : ChG Mg Bg ps) (hl : ps.length ≤ 12) {x : Nat} (hx : x < ps.length) (hr : Recur ps.length (pP ps) x) :
    (∀ y, y < ps.length → 0 ≤ ext (rchF ps ps.length x) (shF ps (rchF ps ps.length x)) y) ∧ sm (ext (rchF ps ps.length x) (shF ps (rchF ps ps.length x))) ps.length = 1 ∧
      Stat ps.length (pP ps) (ext (rchF ps ps.length x) (shF ps (rchF ps ps.length x))) ∧ ∀ f : Nat → Rat, sm (fun k => shF ps (rchF ps ps.length x) k * f (nth (rchF ps ps.length x) k)) (rchF ps ps.length x).length = sm (fun y => ext (rchF ps ps.length x) (shF ps (rchF ps ps.length x)) y * f y) ps.length := by
  have hc := h.cls hx hr
  obtain ⟨s1, s2, s3⟩ := h.shq hl hx hr
  refine ⟨fun y _ => ?_, ?_, hc.stat h.chain s1, fun f => (hc.sum _ f).symm⟩
  · unfold ext
    exact sm_nonneg fun i hi => by
      split
      · exact Rat.le_of_lt (s3 i hi)
      · exact Rat.le_refl
  · have := hc.sum (shF ps (rchF ps ps.length x)) (fun _ => 1)
    rw [sm_congr (g := ext (rchF ps ps.length x) _) fun y _ => Rat.mul_one _] at this
    rw [this, sm_congr (g := shF ps (rchF ps ps.length x)) fun i _ => Rat.mul_one _]
    exact s2
/-- what the shares weigh lies between bounds -/
theorem ChG.shBd (h : ChG Mg Bg ps) (hl : ps.length ≤ 12) {x : Nat} (hx : x < ps.length) (hr : Recur ps.length (pP ps) x) {f : Nat → Rat} {B : Rat} (hf : ∀ y, y < ps.length → -B ≤ f y ∧ f y ≤ B) :
    -B ≤ sm (fun k => shF ps (rchF ps ps.length x) k * f (nth (rchF ps ps.length x) k)) (rchF ps ps.length x).length ∧ sm (fun k => shF ps (rchF ps ps.length x) k * f (nth (rchF ps ps.length x) k)) (rchF ps ps.length x).length ≤ B := by
  obtain ⟨q0, q1, _, e⟩ := h.shareQ hl hx hr
  rw [e f]
  generalize ext (rchF ps ps.length x) (shF ps (rchF ps ps.length x)) = q at *
  constructor
  · have := sm_le (f := fun y => -B * q y) (g := fun y => q y * f y) (n := ps.length) fun y hy => by
      have := Rat.mul_le_mul_of_nonneg_left (hf y hy).1 (q0 y hy)
      grind
    rw [sm_mul, q1] at this
    grind
  · have := sm_le (f := fun y => q y * f y) (g := fun y => B * q y) (n := ps.length) fun y hy => by
      have := Rat.mul_le_mul_of_nonneg_left (hf y hy).2 (q0 y hy)
      grind
    rw [sm_mul, q1] at this
    grind
theorem ChG.Mpos (h : ChG Mg Bg ps) {x : Nat} (hx : x < ps.length) : 0 < Mg := (h.g_inn hx).1
theorem ChG.cgK (h : ChG Mg Bg ps) (hl : ps.length ≤ 12) {x : Nat} (hx : x < ps.length) (hr : Recur ps.length (pP ps) x) :
    ∃ κ : Nat, 0 < κ ∧ κ ≤ (QL * Mg) ^ (rchF ps ps.length x).length ∧ ∀ y ∈ rchF ps ps.length x, Whole κ (cgQ ps y) := by
  have hc := h.cls hx hr
  have hn := Nat.le_trans (h.clsN hx) hl
  have h0 := h.cls0 hx
  have hM := h.Mpos hx
  obtain ⟨d, d1, d2, d3⟩ := (h.sqrows hx hl hr).whole
  refine ⟨d * Mg, Nat.mul_pos d1 hM, ?_, fun y hy => ?_⟩
  · rw [Nat.mul_pow]
    refine Nat.mul_le_mul (Nat.le_trans d2 (nm_le hn)) ?_
    obtain ⟨k, hk⟩ : ∃ k, (rchF ps ps.length x).length = k + 1 := ⟨_, (Nat.succ_pred_eq_of_pos h0).symm⟩
    rw [hk, Nat.pow_succ]
    exact Nat.le_mul_of_pos_left _ (Nat.pow_pos hM)
  · have hs := h.same hx hr ((rch_mem hx h.tl y).mp hy)
    unfold cgQ
    rw [hs]
    refine Whole.sm fun i hi => ?_
    have w1 := d3 i hi
    rw [Nat.one_mul] at w1
    exact w1.mul (whole_inn (h.g_inn (hc.lt _ (nth_mem hi))))
theorem ChG.cg1 (h : ChG Mg Bg ps) (hl : ps.length ≤ 12) (h0 : 0 < ps.length) : ∃ K, 0 < K ∧ K ≤ (QL * Mg) ^ (recE ps).length ∧ ∀ y, y < ps.length → Recur ps.length (pP ps) y → Inn K Bg (cgQ ps y) := by
  obtain ⟨K, k1, k2, k3⟩ := h.commonG (A := QL * Mg) (Nat.mul_pos ql_pos (h.Mpos h0)) (f := cgQ ps) fun x hx hr => h.cgK hl hx hr
  refine ⟨K, k1, k2, fun y hy hr => ?_⟩
  obtain ⟨b1, b2⟩ := h.shBd hl hy hr (f := gP ps) (B := Bg) fun z hz => inn_le (h.g_inn hz)
  exact inn_wholeE k1 (k3 y hy hr) b1 b2
theorem recE_len (ps : List Pl) : (recE ps).length ≤ ps.length := by have := rec_live ps; omega
theorem k1_le {a K : Nat} (hM : Mg ≤ 2 ^ 34) (ha : a ≤ 12) (hK : K ≤ (QL * Mg) ^ a) : K ≤ 2 ^ 408 * QL ^ a := by
  refine Nat.le_trans hK ?_
  rw [Nat.mul_pow, Nat.mul_comm]
  refine Nat.mul_le_mul_right _ (Nat.le_trans (Nat.pow_le_pow_left hM a) ?_)
  exact Nat.le_trans (Nat.pow_le_pow_right (by decide) ha) (by decide)
/-- the gains at all places -/
noncomputable def gnQ (ps : List Pl) : Nat → Rat := LA.put (liveE ps) (cgQ ps) (slF ps (liveE ps) (cgQ ps) fun _ => 0)
theorem ChG.gsys (h : ChG Mg Bg ps) (hl : ps.length ≤ 12) (hM : Mg ≤ 2 ^ 34) (hB : Bg ≤ 2 ^ 20) {K : Nat} (k1 : 0 < K) (k2 : K ≤ (QL * Mg) ^ (recE ps).length) (k3 : ∀ y, y < ps.length → Recur ps.length (pP ps) y → Inn K Bg (cgQ ps y)) :
    SysOk ps (liveE ps) (cgQ ps) (fun _ => 0) K 0 Bg where
  out := Out.ofLive (liveE_ok ps)
  hK := k1
  kn := fun c m y hy hn => by
    have hyl := h.tl c ((liveE_ok ps).lt c m) y hy
    exact k3 y hyl (Classical.byContradiction fun z => hn (((liveE_ok ps).iff y hyl).mpr z))
  ex := fun c m => Inn.zero k1
  hZ := by
    have ha := recE_len ps
    have hr := rec_live ps
    have hk := k1_le hM (by omega) k2
    refine hz_ok (s := (recE ps).length) (t := 0) (Nat.le_trans hk (Nat.mul_le_mul_right _ (by decide))) ?_ (by omega)
    rw [Nat.pow_zero, Nat.mul_one]
    omega
theorem ChG.g_rec (h : ChG Mg Bg ps) {y : Nat} (hy : y < ps.length) (hr : Recur ps.length (pP ps) y) : gnQ ps y = cgQ ps y := put_out _ _ fun m => ((liveE_ok ps).iff y hy).mp m hr
theorem ChG.gainQ (h : ChG Mg Bg ps) (hl : ps.length ≤ 12) (h0 : 0 < ps.length) (hM : Mg ≤ 2 ^ 34) (hB : Bg ≤ 2 ^ 20) : Gain ps.length (pP ps) (gP ps) (gnQ ps) := by
  obtain ⟨K, k1, k2, k3⟩ := h.cg1 hl h0
  have s := h.gsys hl hM hB k1 k2 k3
  have hsol := s.eqs h hl
  have L := liveE_ok ps
  refine ⟨fun x hx => ?_, fun x hx hr => ?_⟩
  · by_cases m : x ∈ liveE ps
    · obtain ⟨i, hi, rfl⟩ := mem_nth m
      have := hsol i hi
      have e : gnQ ps (nth (liveE ps) i) = slF ps (liveE ps) (cgQ ps) (fun _ => 0) i := put_in L.nd _ _ hi
      rw [e, this]
      show 0 + mn ps.length (pP ps) (gnQ ps) _ = _
      grind
    · have hr : Recur ps.length (pP ps) x := Classical.byContradiction fun z => m ((L.iff x hx).mpr z)
      have e1 : mn ps.length (pP ps) (gnQ ps) x = mn ps.length (pP ps) (fun _ => gnQ ps x) x := sm_congr fun y hy => by
        by_cases hp : 0 < pP ps x y
        · have hxy : Rc ps.length (pP ps) x y := .step .refl hx hy hp
          have hry := hr.rc hxy
          rw [h.g_rec hx hr, h.g_rec hy hry]
          have := h.same hx hr ((h.rc hx y).mp hxy)
          unfold cgQ
          rw [this]
        · have h0 : pP ps x y = 0 := by have := h.chain.nn x y hx hy; grind
          rw [h0]; grind
      rw [e1, mn_const h.chain _ hx]
  · rw [h.g_rec hx hr]
    obtain ⟨q0, q1, q2, q3⟩ := h.shareQ hl hx hr
    exact ⟨_, q0, q1, q2, q3 (gP ps)⟩
/-- all gains over one divisor -/
theorem ChG.gK (h : ChG Mg Bg ps) (hl : ps.length ≤ 12) (h0 : 0 < ps.length) (hM : Mg ≤ 2 ^ 34) (hB : Bg ≤ 2 ^ 20) : ∃ K, 0 < K ∧ K ≤ 2 ^ 408 * QL ^ ps.length ∧ ∀ x, x < ps.length → Inn K Bg (gnQ ps x) := by
  obtain ⟨K, k1, k2, k3⟩ := h.cg1 hl h0
  have s := h.gsys hl hM hB k1 k2 k3
  obtain ⟨d, d1, d2, d3⟩ := s.whole h hl
  have hg := h.gainQ hl h0 hM hB
  have L := liveE_ok ps
  refine ⟨K * d, Nat.mul_pos k1 d1, ?_, fun x hx => ?_⟩
  · have hr := rec_live ps
    have := Nat.mul_le_mul (k1_le hM (by omega) k2) d2
    rw [Nat.mul_assoc, ← Nat.pow_add, hr] at this
    exact this
  · have wh : Whole (K * d) (gnQ ps x) := by
      by_cases m : x ∈ liveE ps
      · obtain ⟨i, hi, rfl⟩ := mem_nth m
        have e : gnQ ps (nth (liveE ps) i) = slF ps (liveE ps) (cgQ ps) (fun _ => 0) i := put_in L.nd _ _ hi
        rw [e]; exact d3 i hi
      · have hr : Recur ps.length (pP ps) x := Classical.byContradiction fun z => m ((L.iff x hx).mpr z)
        rw [h.g_rec hx hr]
        exact (whole_inn (k3 x hx hr)).mulR d
    refine inn_wholeE (Nat.mul_pos k1 d1) wh ?_ ?_
    · exact hg.lower h.chain (w := fun _ => 0) (fun y hy => by rw [mn_const h.chain 0 hy]; have := (inn_le (h.g_inn hy)).1; grind) x hx
    · exact hg.upper h.chain (w := fun _ => 0) (fun y hy => by rw [mn_const h.chain 0 hy]; have := (inn_le (h.g_inn hy)).2; grind) x hx
end
end Lw

namespace Lw
open PySem PySem.Spec PyProof.Rows L2 Dn LA
/-! ### the long gains of a chain (E12) -/
section
variable {Mg Bg : Nat} {ps : List Pl}
/-- the classes, one behind another -/
noncomputable def clF (ps : List Pl) (xs : List Nat) : List Nat := xs.flatMap (rchF ps ps.length)
open Classical in
theorem ChG.cls_in (h : ChG Mg Bg ps) {x : Nat} (hm : x ∈ clsL ps) : x < ps.length ∧ Recur ps.length (pP ps) x ∧ nth (rchF ps ps.length x) 0 = x := by
  unfold clsL at hm
  rw [List.mem_filter, List.mem_range] at hm
  obtain ⟨h1, h2⟩ := hm
  unfold clsP at h2
  rw [Bool.and_eq_true, decide_eq_true_eq, decide_eq_true_eq] at h2
  exact ⟨h1, h2.2, h2.1⟩
open Classical in
theorem ChG.cls_all (h : ChG Mg Bg ps) {y : Nat} (hy : y < ps.length) : y ∈ clF ps (clsL ps) ↔ Recur ps.length (pP ps) y := by
  unfold clF
  rw [List.mem_flatMap]
  constructor
  · rintro ⟨x, hx, m⟩
    obtain ⟨a1, a2, a3⟩ := h.cls_in hx
    exact a2.rc ((h.rc a1 y).mpr ((rch_mem a1 h.tl y).mp m))
  · intro hr
    have h0 := h.cls0 hy
    have hm := nth_mem h0
    have hr0 := (rch_mem hy h.tl _).mp hm
    have hlt := rcT_lt hy h.tl hr0
    have hsame := h.same hy hr hr0
    have hrec : Recur ps.length (pP ps) (nth (rchF ps ps.length y) 0) := hr.rc ((h.rc hy _).mpr hr0)
    refine ⟨nth (rchF ps ps.length y) 0, ?_, ?_⟩
    · unfold clsL
      rw [List.mem_filter, List.mem_range]
      refine ⟨hlt, ?_⟩
      unfold clsP
      rw [hsame, decide_eq_true rfl, decide_eq_true hrec]; rfl
    · rw [hsame]; exact (rch_mem hy h.tl y).mpr .refl
theorem cls_len (ps : List Pl) : (clsL ps).length ≤ ps.length := by
  unfold clsL
  have := List.length_filter_le (clsP ps) (List.range ps.length)
  simpa using this
theorem key_iff (y z : Nat) : ((Sum.inl (y : Int) : Key) = Sum.inl (z : Int)) ↔ y = z := by
  constructor
  · intro e; injection e with e; omega
  · rintro rfl; rfl
theorem gput_loop (x0 x2 x5 : C) (q : Rat) : ∀ (ys : List Nat) (kvs : List (Key × D)) (c4 : C), kvs.length + ys.length ≤ 900 →
    ∃ kv2 d4, kv2.length ≤ kvs.length + ys.length ∧ (∀ y : Nat, valD kv2 (.inl (y : Int)) = if y ∈ ys then some (nD q) else valD kvs (.inl (y : Int))) ∧
      forL (Tg.put (.nm 4)) b_long_gains_1 (ys.map nI) [x0, .od kvs, x2, nC q, c4, x5] = .nx [x0, .od kv2, x2, nC q, d4, x5]
  | [], kvs, c4, _ => ⟨kvs, c4, by simp, fun y => by simp, rfl⟩
  | y :: ys, kvs, c4, hl => by
    simp only [List.length_cons] at hl
    have hlen := len_putD kvs (.inl (y : Int)) (nD q)
    obtain ⟨kv2, d4, h1, h2, e⟩ := gput_loop x0 x2 x5 q ys (putD kvs (.inl (y : Int)) (nD q)) (.fz (nI y)) (by omega)
    refine ⟨kv2, d4, by simp only [List.length_cons]; omega, fun z => ?_, ?_⟩
    · rw [h2, valD_put]
      by_cases m : z ∈ ys
      · rw [if_pos m, if_pos (List.mem_cons_of_mem _ m)]
      · rw [if_neg m]
        by_cases e2 : z = y
        · rw [if_pos ((key_iff z y).mpr e2), if_pos (by rw [e2]; exact List.mem_cons_self)]
        · rw [if_neg (mt (key_iff z y).mp e2), if_neg (fun w => by rcases List.mem_cons.mp w with w | w; exact e2 w; exact m w)]
    · rw [List.map_cons, ← e]
      refine forL_one ?_
      have hs : kvs.length ≤ 1000 := by omega
      unfold nC
      generalize nD q = qd at *
      simp -implicitDefEqProofs [nI, hs]
theorem class_turn (h : ChG Mg Bg ps) (hl : ps.length ≤ 12) (hM : Mg ≤ 2 ^ 34) (hB : Bg ≤ 2 ^ 20) {x : Nat} (hx : x < ps.length) (hr : Recur ps.length (pP ps) x) {kvs : List (Key × D)} (hk : kvs.length ≤ 200) (c2 c3 c4 : C) :
    ∃ kv2 d4, kv2.length ≤ kvs.length + 12 ∧ (∀ y : Nat, valD kv2 (.inl (y : Int)) = if y ∈ rchF ps ps.length x then some (nD (cgQ ps x)) else valD kvs (.inl (y : Int))) ∧
      fStep (Tg.put (.nm 2)) b_long_gains_2 (clD ps x) [.fz (.lst (ps.map plD)), .od kvs, c2, c3, c4, .no] = .nx [.fz (.lst (ps.map plD)), .od kv2, .fz (clD ps x), nC (cgQ ps x), d4, .no] := by
  have hc := h.cls hx hr
  have h0 := h.cls0 hx
  have hn := Nat.le_trans (h.clsN hx) hl
  have hR := h.sqrows hx hl hr
  have hsh := sp_shares_in h hc.nd hc.lt (by omega) h0 hR
  have hsf : ((List.range (rchF ps ps.length x).length).map fun k => nC (shF ps (rchF ps ps.length x) k)).map fzD = (List.range (rchF ps ps.length x).length).map fun k => nD (shF ps (rchF ps ps.length x) k) := by rw [List.map_map]; rfl
  have l4 : ∀ x1 x3 : C, lcL [4] (Tg.put (.nm 4)) bYes e_long_gains_0 ((rchF ps ps.length x).map nI) [] [.fz (.lst (ps.map plD)), x1, .fz (.lst ((rchF ps ps.length x).map nI)), x3, .no, .no] =
      .ok ((rchF ps ps.length x).map fun o => nC (gP ps o)) [.fz (.lst (ps.map plD)), x1, .fz (.lst ((rchF ps ps.length x).map nI)), x3, .no, .no] := fun x1 x3 => by
    refine lcL_getO _ nI (fun o => nC (gP ps o)) _ (by omega) fun o ho => ?_
    obtain ⟨g, bs, b1, b2, b3⟩ := h.at (hc.lt o ho)
    have ha : atI (ps.map plD) (o : Int) = some (plD (.dr g bs)) := by rw [atI_natCast, List.getElem?_map, b1]; rfl
    have eg : gP ps o = g := by unfold gP; rw [b1]; rfl
    rw [eg]
    simp only [plD] at ha
    unfold nC
    generalize nD g = q at *
    generalize bs.map brD = bb at *
    generalize ps.map plD = gm at *
    simp -implicitDefEqProofs [nI, ha]
  have hgz : ((rchF ps ps.length x).map fun o => nC (gP ps o)).map fzD = (List.range (rchF ps ps.length x).length).map fun k => nD (gP ps (nth (rchF ps ps.length x) k)) := by
    rw [List.map_map, map_nth]; rfl
  -- the sizes
  obtain ⟨D, d1, d2, d3⟩ := hR.common
  have hMp := h.Mpos hx
  have key : ∀ k, k < (rchF ps ps.length x).length → Inn (D * Mg) (ZB * Bg) (shF ps (rchF ps ps.length x) k * gP ps (nth (rchF ps ps.length x) k)) := fun k hk => (d3 k hk).mul (h.g_inn (hc.lt _ (nth_mem hk)))
  have hz : Szw (D * Mg) ((rchF ps ps.length x).length * (ZB * Bg)) := by
    have q1 : D * Mg ≤ ZB * 2 ^ 34 := Nat.mul_le_mul d2 hM
    have q2 : (rchF ps ps.length x).length * (ZB * Bg) ≤ 12 * (ZB * 2 ^ 20) := Nat.mul_le_mul hn (Nat.mul_le_mul_left _ hB)
    exact ⟨Nat.lt_of_le_of_lt q1 (by decide), Nat.lt_of_le_of_lt (Nat.mul_le_mul q2 q1) (by decide)⟩
  have hw := sp_weighed_by (f := shF ps (rchF ps ps.length x)) (g := fun k => gP ps (nth (rchF ps ps.length x) k)) (M := D * Mg) (B := ZB * Bg) (by omega) (Nat.mul_pos d1 hMp) (fun k hk => ⟨((hR.sized (Nat.le_refl _)).1 k _ hk (by omega)).okw (by decide), (h.g_inn (hc.lt _ (nth_mem hk))).okw (by
      have : Bg * Mg ≤ 2 ^ 20 * 2 ^ 34 := Nat.mul_le_mul hB hM
      exact Nat.lt_of_le_of_lt this (by decide)) (Nat.lt_of_le_of_lt hM (by decide)), key k hk⟩) hz h0
  have ecg : sm (fun k => shF ps (rchF ps ps.length x) k * gP ps (nth (rchF ps ps.length x) k)) (rchF ps ps.length x).length = cgQ ps x := rfl
  rw [ecg] at hw
  obtain ⟨kv2, d4, k1, k2, e⟩ := gput_loop (.fz (.lst (ps.map plD))) (.fz (clD ps x)) .no (cgQ ps x) (rchF ps ps.length x) kvs c4 (by omega)
  refine ⟨kv2, d4, by omega, k2, ?_⟩
  unfold clD at e ⊢
  unfold nC at *
  generalize ((List.range (rchF ps ps.length x).length).map fun k => C.fz (nD (shF ps (rchF ps ps.length x) k))) = sc at *
  generalize ((List.range (rchF ps ps.length x).length).map fun k => nD (shF ps (rchF ps ps.length x) k)) = sd at *
  generalize ((rchF ps ps.length x).map fun o => C.fz (nD (gP ps o))) = gc at *
  generalize ((List.range (rchF ps ps.length x).length).map fun k => nD (gP ps (nth (rchF ps ps.length x) k))) = gd at *
  generalize nD (cgQ ps x) = cg at *
  generalize ps.map plD = gm at *
  generalize (rchF ps ps.length x).map nI = re at *
  simp -implicitDefEqProofs [hsh, hsf, l4, hgz, hw, e]
open Classical in
theorem sp_long_gains (h : ChG Mg Bg ps) (hl : ps.length ≤ 12) (h0 : 0 < ps.length) (hM : Mg ≤ 2 ^ 34) (hB : Bg ≤ 2 ^ 20) : w_long_gains [.fz (.lst (ps.map plD))] = .ok (.ow ((List.range ps.length).map fun y => nC (gnQ ps y))) [] := by
  have hcc := sp_closed_classes h (by omega)
  obtain ⟨ρ', e, kv, c2, c3, c4, rfl, k1, k2⟩ := forL_sat (put := Tg.put (.nm 2)) (x := b_long_gains_2) (fun i ρ => ∃ kv c2 c3 c4, ρ = [.fz (.lst (ps.map plD)), .od kv, c2, c3, c4, .no] ∧ kv.length ≤ 12 * i ∧ ∀ y : Nat, valD kv (.inl (y : Int)) = if y ∈ clF ps ((clsL ps).take i) then some (nD (cgQ ps y)) else none) ((clsL ps).map (clD ps)) (fun i d ρ hd hI => by
    obtain ⟨kv, c2, c3, c4, rfl, k1, k2⟩ := hI
    rw [List.getElem?_map, Option.map_eq_some_iff] at hd
    obtain ⟨x, hx, rfl⟩ := hd
    have hm : x ∈ clsL ps := List.mem_of_getElem? hx
    have hi : i < (clsL ps).length := (List.getElem?_eq_some_iff.mp hx).1
    have hcl := cls_len ps
    obtain ⟨a1, a2, a3⟩ := h.cls_in hm
    obtain ⟨kv2, d4, q1, q2, q3⟩ := class_turn h hl hM hB a1 a2 (kvs := kv) (by omega) c2 c3 c4
    rw [q3]
    refine ⟨_, _, _, _, rfl, by omega, fun y => ?_⟩
    have et : clF ps ((clsL ps).take (i + 1)) = clF ps ((clsL ps).take i) ++ rchF ps ps.length x := by
      rw [List.take_succ, hx]
      unfold clF
      rw [List.flatMap_append]; simp
    rw [q2, k2, et]
    by_cases m : y ∈ rchF ps ps.length x
    · rw [if_pos m, if_pos (List.mem_append_right _ m)]
      have := h.same a1 a2 ((rch_mem a1 h.tl y).mp m)
      unfold cgQ
      rw [this]
    · rw [if_neg m]
      have : y ∈ clF ps ((clsL ps).take i) ++ rchF ps ps.length x ↔ y ∈ clF ps ((clsL ps).take i) := by simp [m]
      simp only [this]) (ρ := [.fz (.lst (ps.map plD)), .od [], .no, .no, .no, .no]) ⟨[], _, _, _, rfl, by simp, fun y => by simp [valD, clF]⟩
  rw [List.length_map, List.take_length] at k2
  rw [List.length_map] at k1
  have hcl := cls_len ps
  obtain ⟨K, s1, s2, s3⟩ := h.cg1 hl h0
  have s := h.gsys hl hM hB s1 s2 s3
  have L := liveE_ok ps
  have hin : ∀ y, y < ps.length → (y ∈ clF ps (clsL ps) ↔ y ∉ liveE ps) := fun y hy => by rw [h.cls_all hy, L.iff y hy]; exact Classical.not_not.symm
  have hLf : liveE ps = (List.range ps.length).filter fun y : Nat => !(valD kv (.inl (y : Int))).isSome := by
    unfold liveE
    refine List.filter_congr fun y hy => ?_
    have hy := List.mem_range.mp hy
    rw [k2]
    have := h.cls_all hy
    by_cases hr : Recur ps.length (pP ps) y
    · rw [if_pos (this.mpr hr)]; simp [hr]
    · rw [if_neg (mt this.mp hr)]; simp [hr]
  have hm := s.met h (kvs := kv) (fun c m t ht hn => by
    have htl := h.tl c (L.lt c m) t ht
    rw [k2, if_neg (fun z => (hin t htl).mp z hn)]) (fun c m t ht hn => by
    have htl := h.tl c (L.lt c m) t ht
    rw [k2, if_pos ((hin t htl).mpr hn)])
  have hrest := sp_with_rest h (by omega) (kvs := kv) (by omega) hLf (v := cgQ ps) (fun y hy hn => by rw [k2, if_pos ((hin y hy).mpr hn)]) hm (s.rows h hl)
  have eg : (fun y => nC (LA.put (liveE ps) (cgQ ps) (fun i => gA (liveE ps).length (lvR ps.length (pP ps) (liveE ps) (cgQ ps) fun _ => 0) (liveE ps).length i (liveE ps).length) y)) = fun y => nC (gnQ ps y) := rfl
  rw [eg] at hrest
  have hfz : ((clsL ps).map fun x => C.fz (clD ps x)).map fzD = (clsL ps).map (clD ps) := by rw [List.map_map]; rfl
  have l5 : lcL [5] (Tg.put (.nm 5)) bYes e_long_gains_3 (ps.map plD) [] [.fz (.lst (ps.map plD)), .fz (.dk kv), c2, c3, c4, .no] =
      .ok (ps.map fun _ => .fz k_NOUGHT) [.fz (.lst (ps.map plD)), .fz (.dk kv), c2, c3, c4, .no] := by
    refine lcL_getO _ plD (fun _ => .fz k_NOUGHT) ps (by omega) fun p _ => ?_
    generalize plD p = pd
    simp -implicitDefEqProofs []
  have hex : (ps.map fun _ => C.fz k_NOUGHT).map fzD = exD ps.length fun _ => 0 := by
    unfold exD
    rw [List.map_map]
    show ps.map (fun _ => k_NOUGHT) = (List.range ps.length).map fun _ => k_NOUGHT
    rw [List.map_const', List.map_const', List.length_range]
  refine run_ok ?_
  generalize ((List.range ps.length).map fun y => nC (gnQ ps y)) = out at *
  generalize ((clsL ps).map fun x => C.fz (clD ps x)) = cc at *
  generalize (clsL ps).map (clD ps) = cd at *
  generalize (ps.map fun _ => C.fz k_NOUGHT) = nn at *
  generalize (exD ps.length fun _ => 0) = ex at *
  generalize ps.map plD = gm at *
  simp -implicitDefEqProofs [m_long_gains, hcc, hfz, e, l5, hex, hrest]
end
end Lw

namespace Lw
open PySem PySem.Spec PyProof.Rows L2 Dn LA
/-! ### the leads, maths (E13) -/
theorem inn_divInt {N E : Int} {B : Nat} (hE : E ≠ 0) (hb : N.natAbs ≤ B * E.natAbs) : Inn E.natAbs B (Rat.divInt N E) := by
  have hp : 0 < E.natAbs := Int.natAbs_pos.mpr hE
  rcases Int.lt_or_gt_of_ne hE with z | z
  · refine ⟨hp, -N, ?_, by simpa using hb⟩
    rw [← Rat.neg_divInt_neg]
    congr 1
    omega
  · refine ⟨hp, N, ?_, hb⟩
    congr 1
    omega
section
variable {Mg Bg : Nat} {ps : List Pl} {L : List Nat} {v e : Nat → Rat} {K Be Bv : Nat}
theorem SysOk.inn (h : ChG Mg Bg ps) (hl : ps.length ≤ 12) (s : SysOk ps L v e K Be Bv) : ∃ d : Nat, 0 < d ∧ d ≤ QL ^ L.length ∧ ∀ i, i < L.length → Inn (K * d) ((Be + 6 * Bv) * QL ^ (L.length + 1)) (slF ps L v e i) := by
  have hR := s.rows h hl
  have hn : L.length ≤ 12 := Nat.le_trans (nodup_le s.out.nd s.out.lt) hl
  obtain ⟨D, h1, h2, h3, h4⟩ := gauss_size (w := L.length + 1) hR.hM hR.hm (by omega) hR.int hR.ns (Nat.le_refl L.length)
  have hK := s.hK
  have hKD : (K : Int) * D ≠ 0 := Int.mul_ne_zero (by omega) h1
  refine ⟨D.natAbs, Int.natAbs_pos.mpr h1, Nat.le_trans h2 (nm_le hn), fun i hi => ?_⟩
  obtain ⟨N, e1, b⟩ := h4 K _ L.length hK (by omega) hR.last i hi
  unfold slF
  rw [e1]
  have eK : ((K : Int) * D).natAbs = K * D.natAbs := by rw [Int.natAbs_mul]; rfl
  rw [← eK]
  refine inn_divInt hKD ?_
  rw [eK]
  refine Nat.le_trans b ?_
  have q1 : L.length * (LL * K * (Be + 6 * Bv)) * (L.length * (7 * LL)) ^ L.length ≤ 12 * (LL * K * (Be + 6 * Bv)) * QL ^ L.length := Nat.mul_le_mul (Nat.mul_le_mul_right _ hn) (nm_le hn)
  refine Nat.le_trans q1 ?_
  have q2 : 12 * (LL * K * (Be + 6 * Bv)) * QL ^ L.length = (12 * LL) * ((Be + 6 * Bv) * QL ^ L.length * K) := by
    generalize QL ^ L.length = q
    generalize LL = l
    generalize Be + 6 * Bv = b
    generalize 12 = c
    ac_rfl
  have q3 : (Be + 6 * Bv) * QL ^ (L.length + 1) * (K * D.natAbs) = QL * ((Be + 6 * Bv) * QL ^ L.length * K) * D.natAbs := by
    rw [Nat.pow_succ]
    generalize QL ^ L.length = q
    generalize QL = l
    generalize Be + 6 * Bv = b
    generalize D.natAbs = d
    ac_rfl
  rw [q2, q3]
  refine Nat.le_trans (Nat.mul_le_mul_right _ (by decide : 12 * LL ≤ QL)) (Nat.le_mul_of_pos_right _ (Int.natAbs_pos.mpr h1))
/-- the gain here, less the long gain -/
noncomputable def exQ (ps : List Pl) (y : Nat) : Rat := gP ps y - gnQ ps y
theorem ChG.exK (h : ChG Mg Bg ps) (hl : ps.length ≤ 12) (h0 : 0 < ps.length) (hM : Mg ≤ 2 ^ 34) (hB : Bg ≤ 2 ^ 20) : ∃ K, 0 < K ∧ K ≤ 2 ^ 442 * QL ^ ps.length ∧ ∀ x, x < ps.length → Inn K (2 * Bg) (exQ ps x) ∧ Inn K Bg (gnQ ps x) := by
  obtain ⟨K, k1, k2, k3⟩ := h.gK hl h0 hM hB
  have hMp := h.Mpos h0
  have hp := Nat.mul_pos hMp k1
  refine ⟨Mg * K, hp, ?_, fun x hx => ?_⟩
  · refine Nat.le_trans (Nat.mul_le_mul hM k2) ?_
    rw [← Nat.mul_assoc]
    exact Nat.mul_le_mul_right _ (by decide)
  · have i1 := (h.g_inn hx).dvd (M' := Mg * K) ⟨K, rfl⟩ hp
    have i2 := (k3 x hx).dvd (M' := Mg * K) ⟨Mg, Nat.mul_comm _ _⟩ hp
    refine ⟨?_, i2⟩
    have := i1.sub i2
    rw [← Nat.two_mul] at this
    exact this
/-- the leads in x's class, roughly: 0 at its first place -/
noncomputable def rgF (ps : List Pl) (x k : Nat) : Rat := if k = 0 then 0 else slF ps ((rchF ps ps.length x).drop 1) (fun _ => 0) (exQ ps) (k - 1)
noncomputable def lsF (ps : List Pl) (x : Nat) : Rat := sm (fun k => shF ps (rchF ps ps.length x) k * rgF ps x k) (rchF ps ps.length x).length
/-- the leads where one comes back -/
noncomputable def ldC (ps : List Pl) (y : Nat) : Rat := ext (rchF ps ps.length y) (rgF ps y) y - lsF ps y
noncomputable def ldQ (ps : List Pl) : Nat → Rat := LA.put (liveE ps) (ldC ps) (slF ps (liveE ps) (ldC ps) (exQ ps))
theorem len_drop {x : Nat} : ((rchF ps ps.length x).drop 1).length = (rchF ps ps.length x).length - 1 := by simp
theorem ChG.rsys (h : ChG Mg Bg ps) (hl : ps.length ≤ 12) (hB : Bg ≤ 2 ^ 20) {x : Nat} (hx : x < ps.length) (hr : Recur ps.length (pP ps) x) {K : Nat} (k1 : 0 < K) (k2 : K ≤ 2 ^ 442 * QL ^ ps.length) (k3 : ∀ y, y < ps.length → Inn K (2 * Bg) (exQ ps y)) :
    SysOk ps ((rchF ps ps.length x).drop 1) (fun _ => 0) (exQ ps) K (2 * Bg) 0 where
  out := Out.ofDrop (h.cls hx hr) (h.cls0 hx)
  hK := k1
  kn := fun c m y hy hn => Inn.zero k1
  ex := fun c m => k3 c ((h.cls hx hr).lt c (List.mem_of_mem_drop m))
  hZ := by
    have hn := h.clsN hx
    have h0 := h.cls0 hx
    refine hz_ok (s := ps.length) (t := 0) (Nat.le_trans k2 (Nat.mul_le_mul_right _ (by decide))) ?_ (by rw [len_drop]; omega)
    rw [Nat.pow_zero, Nat.mul_one]
    omega
theorem ChG.same_rg (h : ChG Mg Bg ps) {x y : Nat} (hx : x < ps.length) (hr : Recur ps.length (pP ps) x) (hy : y ∈ rchF ps ps.length x) : rgF ps y = rgF ps x ∧ lsF ps y = lsF ps x ∧ rchF ps ps.length y = rchF ps ps.length x := by
  have e := h.same hx hr ((rch_mem hx h.tl y).mp hy)
  have e1 : rgF ps y = rgF ps x := by funext k; unfold rgF; rw [e]
  refine ⟨e1, ?_, e⟩
  unfold lsF
  rw [e1, e]
theorem ChG.ld_nth (h : ChG Mg Bg ps) {x : Nat} (hx : x < ps.length) (hr : Recur ps.length (pP ps) x) {k : Nat} (hk : k < (rchF ps ps.length x).length) : ldC ps (nth (rchF ps ps.length x) k) = rgF ps x k - lsF ps x := by
  obtain ⟨e1, e2, e3⟩ := h.same_rg hx hr (nth_mem hk)
  unfold ldC
  rw [e1, e2, e3, ext_in (h.cls hx hr).nd _ hk]
/-- sizes -/
theorem ChG.rgI (h : ChG Mg Bg ps) (hl : ps.length ≤ 12) (hB : Bg ≤ 2 ^ 20) {x : Nat} (hx : x < ps.length) (hr : Recur ps.length (pP ps) x) {K : Nat} (k1 : 0 < K) (k2 : K ≤ 2 ^ 442 * QL ^ ps.length) (k3 : ∀ y, y < ps.length → Inn K (2 * Bg) (exQ ps y)) :
    ∃ d : Nat, 0 < d ∧ d ≤ QL ^ ((rchF ps ps.length x).length - 1) ∧ ∀ k, k < (rchF ps ps.length x).length → Inn (K * d) (2 * Bg * QL ^ (rchF ps ps.length x).length) (rgF ps x k) := by
  have s := h.rsys hl hB hx hr k1 k2 k3
  obtain ⟨d, d1, d2, d3⟩ := s.inn h hl
  have h0 := h.cls0 hx
  rw [len_drop] at d2 d3
  refine ⟨d, d1, d2, fun k hk => ?_⟩
  unfold rgF
  by_cases e : k = 0
  · rw [if_pos e]; exact (Inn.zero (Nat.mul_pos k1 d1)).le (Nat.zero_le _)
  · rw [if_neg e]
    have := d3 (k - 1) (by omega)
    rw [show (rchF ps ps.length x).length - 1 + 1 = (rchF ps ps.length x).length by omega, Nat.mul_zero, Nat.add_zero] at this
    exact this
theorem ChG.lsB (h : ChG Mg Bg ps) (hl : ps.length ≤ 12) {x : Nat} (hx : x < ps.length) (hr : Recur ps.length (pP ps) x) {B : Nat} (hb : ∀ k, k < (rchF ps ps.length x).length → -(B : Rat) ≤ rgF ps x k ∧ rgF ps x k ≤ (B : Rat)) : -(B : Rat) ≤ lsF ps x ∧ lsF ps x ≤ (B : Rat) := by
  have hc := h.cls hx hr
  have hB0 : (0 : Rat) ≤ (B : Rat) := by exact_mod_cast Nat.zero_le B
  have := h.shBd hl hx hr (f := ext (rchF ps ps.length x) (rgF ps x)) (B := B) fun y hy => by
    by_cases m : y ∈ rchF ps ps.length x
    · obtain ⟨k, hk, rfl⟩ := mem_nth m
      rw [ext_in hc.nd _ hk]; exact hb k hk
    · rw [ext_out _ m]
      constructor <;> grind
  have e : sm (fun k => shF ps (rchF ps ps.length x) k * ext (rchF ps ps.length x) (rgF ps x) (nth (rchF ps ps.length x) k)) (rchF ps ps.length x).length = lsF ps x := sm_congr fun k hk => by rw [ext_in hc.nd _ hk]
  rw [e] at this
  exact this
/-- shares, their divisor -/
theorem ChG.shK (h : ChG Mg Bg ps) (hl : ps.length ≤ 12) {x : Nat} (hx : x < ps.length) (hr : Recur ps.length (pP ps) x) : ∃ d : Nat, 0 < d ∧ d ≤ QL ^ (rchF ps ps.length x).length ∧ ∀ k, k < (rchF ps ps.length x).length → Inn d 1 (shF ps (rchF ps ps.length x) k) := by
  obtain ⟨d, d1, d2, d3⟩ := (h.sqrows hx hl hr).whole
  obtain ⟨_, s2, s3⟩ := h.shq hl hx hr
  refine ⟨d, d1, Nat.le_trans d2 (nm_le (Nat.le_trans (h.clsN hx) hl)), fun k hk => ?_⟩
  have w1 := d3 k hk
  rw [Nat.one_mul] at w1
  have hp := s3 k hk
  have hle := sm_ge (f := shF ps (rchF ps ps.length x)) hk fun i hi => Rat.le_of_lt (s3 i hi)
  rw [s2] at hle
  have e1 : ((1 : Nat) : Rat) = 1 := rfl
  exact inn_wholeE d1 w1 (by rw [e1]; grind) (by rw [e1]; exact hle)
open Classical in
theorem cls_rec_len (h : ChG Mg Bg ps) {x : Nat} (hx : x < ps.length) (hr : Recur ps.length (pP ps) x) : (rchF ps ps.length x).length ≤ (recE ps).length := sub_len (rch_nd ps _ x) fun y m => by
  have r := (rch_mem hx h.tl y).mp m
  unfold recE
  rw [List.mem_filter, List.mem_range]
  exact ⟨rcT_lt hx h.tl r, decide_eq_true (hr.rc ((h.rc hx y).mpr r))⟩
theorem ChG.ld1 (h : ChG Mg Bg ps) (hl : ps.length ≤ 12) (hB : Bg ≤ 2 ^ 20) {K : Nat} (k1 : 0 < K) (k2 : K ≤ 2 ^ 442 * QL ^ ps.length) (k3 : ∀ y, y < ps.length → Inn K (2 * Bg) (exQ ps y)) :
    ∃ K2, 0 < K2 ∧ K2 ≤ QL ^ (2 * (recE ps).length) ∧ ∀ y, y < ps.length → Recur ps.length (pP ps) y → Inn (K * K2) (4 * Bg * QL ^ (recE ps).length) (ldC ps y) := by
  obtain ⟨K2, a1, a2, a3⟩ := h.commonG (A := QL ^ 2) (Nat.pow_pos ql_pos) (f := fun y => (K : Rat) * ldC ps y) fun x hx hr => by
    obtain ⟨d, d1, d2, d3⟩ := h.rgI hl hB hx hr k1 k2 k3
    obtain ⟨c, c1, c2, c3⟩ := h.shK hl hx hr
    refine ⟨d * c, Nat.mul_pos d1 c1, ?_, fun y hy => ?_⟩
    · refine Nat.le_trans (Nat.mul_le_mul (Nat.le_trans d2 (Nat.pow_le_pow_right ql_pos (Nat.sub_le _ 1))) c2) ?_
      rw [← Nat.pow_add, ← Nat.pow_mul]
      exact Nat.pow_le_pow_right ql_pos (by omega)
    · obtain ⟨k, hk, rfl⟩ := mem_nth hy
      rw [h.ld_nth hx hr hk]
      have w1 := (whole_inn (d3 k hk)).mulR c
      have w2 : Whole (K * d * c) (lsF ps x) := by
        unfold lsF
        refine Whole.sm fun i hi => ?_
        have := (whole_inn (c3 i hi)).mul (whole_inn (d3 i hi))
        rw [Nat.mul_comm c] at this
        exact this
      obtain ⟨z, ez⟩ := w1.sub w2
      refine ⟨z, ?_⟩
      rw [← ez]
      have : ((K * d * c : Nat) : Rat) = (K : Rat) * ((d * c : Nat) : Rat) := by rw [Nat.mul_assoc]; exact_mod_cast rfl
      rw [this]
      generalize ((d * c : Nat) : Rat) = u
      generalize (K : Rat) = w
      grind
  refine ⟨K2, a1, ?_, fun y hy hr => ?_⟩
  · rw [Nat.pow_mul]; exact a2
  · obtain ⟨d, d1, d2, d3⟩ := h.rgI hl hB hy hr k1 k2 k3
    have hm : y ∈ rchF ps ps.length y := (rch_mem hy h.tl y).mpr .refl
    obtain ⟨k, hk, ek⟩ := mem_nth hm
    have e := h.ld_nth hy hr hk
    rw [ek] at e
    have hlen := cls_rec_len h hy hr
    have hpow : QL ^ (rchF ps ps.length y).length ≤ QL ^ (recE ps).length := Nat.pow_le_pow_right ql_pos hlen
    have hb : ∀ j, j < (rchF ps ps.length y).length → -((2 * Bg * QL ^ (recE ps).length : Nat) : Rat) ≤ rgF ps y j ∧ rgF ps y j ≤ ((2 * Bg * QL ^ (recE ps).length : Nat) : Rat) := fun j hj => inn_le ((d3 j hj).le (Nat.mul_le_mul_left _ hpow))
    have b1 := hb k hk
    have b2 := h.lsB hl hy hr hb
    have hc : ((4 * Bg * QL ^ (recE ps).length : Nat) : Rat) = ((2 * Bg * QL ^ (recE ps).length : Nat) : Rat) + ((2 * Bg * QL ^ (recE ps).length : Nat) : Rat) := by
      have : 4 * Bg * QL ^ (recE ps).length = 2 * Bg * QL ^ (recE ps).length + 2 * Bg * QL ^ (recE ps).length := by
        rw [← Nat.add_mul]; congr 1; omega
      rw [this]; exact_mod_cast rfl
    have wh : Whole (K * K2) (ldC ps y) := by
      obtain ⟨z, ez⟩ := a3 y hy hr
      refine ⟨z, ?_⟩
      rw [← ez]
      have : ((K * K2 : Nat) : Rat) = (K : Rat) * (K2 : Rat) := by exact_mod_cast rfl
      rw [this]
      generalize (K : Rat) = w
      generalize (K2 : Rat) = u
      grind
    refine inn_wholeE (Nat.mul_pos k1 a1) wh ?_ ?_
    · rw [hc, e]
      generalize ((2 * Bg * QL ^ (recE ps).length : Nat) : Rat) = B at *
      grind
    · rw [hc, e]
      generalize ((2 * Bg * QL ^ (recE ps).length : Nat) : Rat) = B at *
      grind
end
end Lw

namespace Lw
open PySem PySem.Spec PyProof.Rows L2 Dn LA
/-! ### the leads, equations (E14) -/
section
variable {Mg Bg : Nat} {ps : List Pl}
theorem ChG.lsys (h : ChG Mg Bg ps) (hl : ps.length ≤ 12) (hB : Bg ≤ 2 ^ 20) {K K2 : Nat} (k1 : 0 < K) (k2 : K ≤ 2 ^ 442 * QL ^ ps.length) (k3 : ∀ y, y < ps.length → Inn K (2 * Bg) (exQ ps y))
    (j1 : 0 < K2) (j2 : K2 ≤ QL ^ (2 * (recE ps).length)) (j3 : ∀ y, y < ps.length → Recur ps.length (pP ps) y → Inn (K * K2) (4 * Bg * QL ^ (recE ps).length) (ldC ps y)) :
    SysOk ps (liveE ps) (ldC ps) (exQ ps) (K * K2) (2 * Bg) (4 * Bg * QL ^ (recE ps).length) where
  out := Out.ofLive (liveE_ok ps)
  hK := Nat.mul_pos k1 j1
  kn := fun c m y hy hn => by
    have hyl := h.tl c ((liveE_ok ps).lt c m) y hy
    exact j3 y hyl (Classical.byContradiction fun z => hn (((liveE_ok ps).iff y hyl).mpr z))
  ex := fun c m => (k3 c ((liveE_ok ps).lt c m)).dvd ⟨K2, rfl⟩ (Nat.mul_pos k1 j1)
  hZ := by
    have hr := rec_live ps
    have hk : K * K2 ≤ 2 ^ 450 * QL ^ (ps.length + 2 * (recE ps).length) := by
      refine Nat.le_trans (Nat.mul_le_mul k2 j2) ?_
      rw [Nat.mul_assoc, ← Nat.pow_add]
      exact Nat.mul_le_mul_right _ (by decide)
    refine hz_ok (s := ps.length + 2 * (recE ps).length) (t := (recE ps).length) hk ?_ (by omega)
    have hq : 1 ≤ QL ^ (recE ps).length := Nat.pow_pos ql_pos
    generalize QL ^ (recE ps).length = q at *
    have e1 : 2 * Bg ≤ 2 * Bg * q := Nat.le_mul_of_pos_right _ hq
    have e2 : 6 * (4 * Bg * q) = 24 * Bg * q := by rw [← Nat.mul_assoc, ← Nat.mul_assoc]
    have e3 : 2 * Bg * q + 24 * Bg * q + q = (26 * Bg + 1) * q := by rw [← Nat.add_mul, ← Nat.succ_mul]; congr 1; omega
    have e4 : (26 * Bg + 1) * q ≤ 2 ^ 30 * q := Nat.mul_le_mul_right _ (by omega)
    omega
theorem ChG.l_rec (h : ChG Mg Bg ps) {y : Nat} (hy : y < ps.length) (hr : Recur ps.length (pP ps) y) : ldQ ps y = ldC ps y := put_out _ _ fun m => ((liveE_ok ps).iff y hy).mp m hr
theorem nth_drop {L : List Nat} {k : Nat} : nth (L.drop 1) k = nth L (k + 1) := by
  unfold nth
  rw [List.getD_eq_getElem?_getD, List.getD_eq_getElem?_getD, List.getElem?_drop, Nat.add_comm]
/-- rough leads solve the equations in their class -/
theorem ChG.rg_eq (h : ChG Mg Bg ps) (hl : ps.length ≤ 12) (h0 : 0 < ps.length) (hM : Mg ≤ 2 ^ 34) (hB : Bg ≤ 2 ^ 20) {x : Nat} (hx : x < ps.length) (hr : Recur ps.length (pP ps) x) {k : Nat} (hk : k < (rchF ps ps.length x).length) :
    rgF ps x k = exQ ps (nth (rchF ps ps.length x) k) + mn ps.length (pP ps) (ext (rchF ps ps.length x) (rgF ps x)) (nth (rchF ps ps.length x) k) := by
  have hc := h.cls hx hr
  obtain ⟨K, k1, k2, k3⟩ := h.exK hl h0 hM hB
  have s := h.rsys hl hB hx hr k1 k2 fun y hy => (k3 y hy).1
  have hsol := s.eqs h hl
  have hmn : ∀ y, y ∈ rchF ps ps.length x → mn ps.length (pP ps) (LA.put ((rchF ps ps.length x).drop 1) (fun _ => 0) (slF ps ((rchF ps ps.length x).drop 1) (fun _ => 0) (exQ ps))) y = mn ps.length (pP ps) (ext (rchF ps ps.length x) (rgF ps x)) y := fun y hy => by
    refine sm_congr fun z hz => ?_
    by_cases hp : 0 < pP ps y z
    · have mz := hc.cl y hy z hz hp
      obtain ⟨j, hj, rfl⟩ := mem_nth mz
      rw [ext_in hc.nd _ hj]
      congr 1
      by_cases e : j = 0
      · subst e
        have : nth (rchF ps ps.length x) 0 ∉ (rchF ps ps.length x).drop 1 := fun m => by
          obtain ⟨i, hi, ei⟩ := mem_nth m
          rw [len_drop] at hi
          rw [nth_drop] at ei
          have := nth_inj hc.nd (by omega) hj ei
          omega
        rw [put_out _ _ this]
        rfl
      · have ej : nth (rchF ps ps.length x) j = nth ((rchF ps ps.length x).drop 1) (j - 1) := by rw [nth_drop, Nat.sub_add_cancel (by omega)]
        rw [ej, put_in s.out.nd _ _ (by rw [len_drop]; omega)]
        unfold rgF
        rw [if_neg e]
    · have : pP ps y z = 0 := by have := h.chain.nn y z (hc.lt y hy) hz; grind
      rw [this]; grind
  have up : ∀ k, 0 < k → k < (rchF ps ps.length x).length → rgF ps x k = exQ ps (nth (rchF ps ps.length x) k) + mn ps.length (pP ps) (ext (rchF ps ps.length x) (rgF ps x)) (nth (rchF ps ps.length x) k) := fun k hk0 hk => by
    have := hsol (k - 1) (by rw [len_drop]; omega)
    rw [nth_drop, Nat.sub_add_cancel hk0, hmn _ (nth_mem hk)] at this
    have e : rgF ps x k = slF ps ((rchF ps ps.length x).drop 1) (fun _ => 0) (exQ ps) (k - 1) := by unfold rgF; rw [if_neg (by omega)]
    rw [e, this]
  by_cases hk0 : 0 < k
  · exact up k hk0 hk
  · have e0 : k = 0 := by omega
    subst e0
    obtain ⟨q0, q1, q2, q3⟩ := h.shareQ hl hx hr
    obtain ⟨_, _, s3⟩ := h.shq hl hx hr
    -- the weighed sum of what is left over is 0
    have tot : sm (fun k => shF ps (rchF ps ps.length x) k * (fun y => ext (rchF ps ps.length x) (rgF ps x) y - exQ ps y - mn ps.length (pP ps) (ext (rchF ps ps.length x) (rgF ps x)) y) (nth (rchF ps ps.length x) k)) (rchF ps ps.length x).length = 0 := by
      rw [q3 (fun y => ext (rchF ps ps.length x) (rgF ps x) y - exQ ps y - mn ps.length (pP ps) (ext (rchF ps ps.length x) (rgF ps x)) y)]
      have gc : ∀ y, y < ps.length → ext (rchF ps ps.length x) (shF ps (rchF ps ps.length x)) y * gnQ ps y = cgQ ps x * ext (rchF ps ps.length x) (shF ps (rchF ps ps.length x)) y := fun y hy => by
        by_cases m : y ∈ rchF ps ps.length x
        · have hyr := hr.rc ((h.rc hx y).mpr ((rch_mem hx h.tl y).mp m))
          have e := (h.same_rg hx hr m).2.2
          have : cgQ ps y = cgQ ps x := by unfold cgQ; rw [e]
          rw [h.g_rec hy hyr, this]; grind
        · rw [ext_out _ m]; grind
      have ecg : cgQ ps x = sm (fun y => ext (rchF ps ps.length x) (shF ps (rchF ps ps.length x)) y * gP ps y) ps.length := q3 (gP ps)
      generalize ext (rchF ps ps.length x) (shF ps (rchF ps ps.length x)) = q at *
      generalize ext (rchF ps ps.length x) (rgF ps x) = f at *
      have e1 : sm (fun y => q y * (f y - exQ ps y - mn ps.length (pP ps) f y)) ps.length = sm (fun y => q y * f y) ps.length - sm (fun y => q y * exQ ps y) ps.length - sm (fun y => q y * mn ps.length (pP ps) f y) ps.length := by
        rw [← sm_sub, ← sm_sub]; exact sm_congr fun y _ => by grind
      have e2 : sm (fun y => q y * exQ ps y) ps.length = 0 := by
        have : sm (fun y => q y * exQ ps y) ps.length = sm (fun y => q y * gP ps y) ps.length - sm (fun y => cgQ ps x * q y) ps.length := by
          rw [← sm_sub]
          refine sm_congr fun y hy => ?_
          rw [← gc y hy]
          unfold exQ; grind
        rw [this, sm_mul, q1, ← ecg]; grind
      have e3 : sm (fun y => q y * mn ps.length (pP ps) f y) ps.length = sm (fun y => q y * f y) ps.length := by
        have a1 : sm (fun y => q y * mn ps.length (pP ps) f y) ps.length = sm (fun y => sm (fun z => q y * pP ps y z * f z) ps.length) ps.length := sm_congr fun y _ => by
          unfold mn
          rw [← sm_mul]; exact sm_congr fun z _ => by grind
        rw [a1, sm_comm]
        refine sm_congr fun z hz => ?_
        have a2 : sm (fun y => q y * pP ps y z * f z) ps.length = f z * sm (fun y => q y * pP ps y z) ps.length := by
          rw [← sm_mul]; exact sm_congr fun y _ => by grind
        rw [a2, ← q2 z hz]; grind
      rw [e1, e2, e3]; grind
    rw [sm_one hk fun i hi hne => by
      have := up i (by omega) hi
      dsimp only
      rw [ext_in hc.nd _ hi]
      have e : rgF ps x i - exQ ps (nth (rchF ps ps.length x) i) - mn ps.length (pP ps) (ext (rchF ps ps.length x) (rgF ps x)) (nth (rchF ps ps.length x) i) = 0 := by grind
      rw [e]; grind] at tot
    dsimp only at tot
    rw [ext_in hc.nd _ hk] at tot
    have hp := s3 0 hk
    rcases Rat.mul_eq_zero.mp tot with z | z
    · rw [z] at hp; exact absurd hp (by decide)
    · grind
/-- the equations of the leads, at all places -/
theorem ChG.ld_eq (h : ChG Mg Bg ps) (hl : ps.length ≤ 12) (h0 : 0 < ps.length) (hM : Mg ≤ 2 ^ 34) (hB : Bg ≤ 2 ^ 20) {x : Nat} (hx : x < ps.length) : gnQ ps x + ldQ ps x = gP ps x + mn ps.length (pP ps) (ldQ ps) x := by
  have L := liveE_ok ps
  by_cases m : x ∈ liveE ps
  · obtain ⟨K, k1, k2, k3⟩ := h.exK hl h0 hM hB
    obtain ⟨K2, j1, j2, j3⟩ := h.ld1 hl hB k1 k2 fun y hy => (k3 y hy).1
    have s := h.lsys hl hB k1 k2 (fun y hy => (k3 y hy).1) j1 j2 j3
    obtain ⟨i, hi, rfl⟩ := mem_nth m
    have := s.eqs h hl i hi
    have e : ldQ ps (nth (liveE ps) i) = slF ps (liveE ps) (ldC ps) (exQ ps) i := put_in L.nd _ _ hi
    have e2 : mn ps.length (pP ps) (ldQ ps) (nth (liveE ps) i) = mn ps.length (pP ps) (LA.put (liveE ps) (ldC ps) (slF ps (liveE ps) (ldC ps) (exQ ps))) (nth (liveE ps) i) := rfl
    rw [e, this, e2]
    unfold exQ
    grind
  · have hr : Recur ps.length (pP ps) x := Classical.byContradiction fun z => m ((L.iff x hx).mpr z)
    have hc := h.cls hx hr
    have hm : x ∈ rchF ps ps.length x := (rch_mem hx h.tl x).mpr .refl
    obtain ⟨k, hk, ek⟩ := mem_nth hm
    have e1 := h.rg_eq hl h0 hM hB hx hr hk
    have e2 := h.ld_nth hx hr hk
    rw [ek] at e1 e2
    have e3 : mn ps.length (pP ps) (ldQ ps) x = mn ps.length (pP ps) (ext (rchF ps ps.length x) (rgF ps x)) x - lsF ps x := by
      have := mn_const h.chain (lsF ps x) hx
      rw [← this]
      unfold mn
      rw [← sm_sub]
      refine sm_congr fun z hz => ?_
      by_cases hp : 0 < pP ps x z
      · have mz := hc.cl x hm z hz hp
        obtain ⟨j, hj, rfl⟩ := mem_nth mz
        have hzr := hr.rc (.step .refl hx hz hp)
        rw [h.l_rec hz hzr, h.ld_nth hx hr hj, ext_in hc.nd _ hj]; grind
      · have : pP ps x z = 0 := by have := h.chain.nn x z hx hz; grind
        rw [this]; grind
    rw [h.l_rec hx hr, e2, e3, e1]
    unfold exQ
    grind
/-- the shares of a class weigh its leads to 0 -/
theorem ChG.ld_zero (h : ChG Mg Bg ps) (hl : ps.length ≤ 12) {x : Nat} (hx : x < ps.length) (hr : Recur ps.length (pP ps) x) : sm (fun k => shF ps (rchF ps ps.length x) k * ldQ ps (nth (rchF ps ps.length x) k)) (rchF ps ps.length x).length = 0 := by
  obtain ⟨_, s2, _⟩ := h.shq hl hx hr
  have hc := h.cls hx hr
  have e : sm (fun k => shF ps (rchF ps ps.length x) k * ldQ ps (nth (rchF ps ps.length x) k)) (rchF ps ps.length x).length = sm (fun k => shF ps (rchF ps ps.length x) k * rgF ps x k) (rchF ps ps.length x).length - sm (fun k => lsF ps x * shF ps (rchF ps ps.length x) k) (rchF ps ps.length x).length := by
    rw [← sm_sub]
    refine sm_congr fun k hk => ?_
    have hlt := hc.lt _ (nth_mem hk)
    have hyr := hr.rc ((h.rc hx _).mpr ((rch_mem hx h.tl _).mp (nth_mem hk)))
    rw [h.l_rec hlt hyr, h.ld_nth hx hr hk]; grind
  rw [e, sm_mul, s2]
  unfold lsF
  grind
/-- all leads over one divisor -/
theorem ChG.lK (h : ChG Mg Bg ps) (hl : ps.length ≤ 12) (h0 : 0 < ps.length) (hM : Mg ≤ 2 ^ 34) (hB : Bg ≤ 2 ^ 20) :
    ∃ K, 0 < K ∧ K ≤ 2 ^ 442 * QL ^ (3 * ps.length) ∧ ∀ x, x < ps.length → Inn K (2 ^ 30 * QL ^ (ps.length + 1)) (ldQ ps x) ∧ Inn K Bg (gnQ ps x) := by
  obtain ⟨K, k1, k2, k3⟩ := h.exK hl h0 hM hB
  obtain ⟨K2, j1, j2, j3⟩ := h.ld1 hl hB k1 k2 fun y hy => (k3 y hy).1
  have s := h.lsys hl hB k1 k2 (fun y hy => (k3 y hy).1) j1 j2 j3
  obtain ⟨d, d1, d2, d3⟩ := s.inn h hl
  have L := liveE_ok ps
  have hr := rec_live ps
  have hp := Nat.mul_pos (Nat.mul_pos k1 j1) d1
  refine ⟨K * K2 * d, hp, ?_, fun x hx => ⟨?_, ?_⟩⟩
  · refine Nat.le_trans (Nat.mul_le_mul (Nat.mul_le_mul k2 j2) d2) ?_
    rw [Nat.mul_assoc (2 ^ 442), ← Nat.pow_add, Nat.mul_assoc (2 ^ 442), ← Nat.pow_add]
    exact Nat.mul_le_mul_left _ (Nat.pow_le_pow_right ql_pos (by omega))
  · have hq : 1 ≤ QL ^ (recE ps).length := Nat.pow_pos ql_pos
    have hB2 : 2 * Bg + 6 * (4 * Bg * QL ^ (recE ps).length) ≤ 2 ^ 30 * QL ^ (recE ps).length := by
      generalize QL ^ (recE ps).length = q at *
      have e1 : 2 * Bg ≤ 2 * Bg * q := Nat.le_mul_of_pos_right _ hq
      have e2 : 6 * (4 * Bg * q) = 24 * Bg * q := by rw [← Nat.mul_assoc, ← Nat.mul_assoc]
      have e3 : 2 * Bg * q + 24 * Bg * q = (26 * Bg) * q := by rw [← Nat.add_mul]; congr 1; omega
      have e4 : (26 * Bg) * q ≤ 2 ^ 30 * q := Nat.mul_le_mul_right _ (by omega)
      omega
    by_cases m : x ∈ liveE ps
    · obtain ⟨i, hi, rfl⟩ := mem_nth m
      have e : ldQ ps (nth (liveE ps) i) = slF ps (liveE ps) (ldC ps) (exQ ps) i := put_in L.nd _ _ hi
      rw [e]
      refine (d3 i hi).le ?_
      refine Nat.le_trans (Nat.mul_le_mul_right _ hB2) ?_
      rw [Nat.mul_assoc, ← Nat.pow_add]
      exact Nat.mul_le_mul_left _ (Nat.pow_le_pow_right ql_pos (by omega))
    · have hrr : Recur ps.length (pP ps) x := Classical.byContradiction fun z => m ((L.iff x hx).mpr z)
      rw [h.l_rec hx hrr]
      refine ((j3 x hx hrr).dvd (M' := K * K2 * d) ⟨d, rfl⟩ hp).le ?_
      refine Nat.le_trans (Nat.mul_le_mul_right _ (show 4 * Bg ≤ 2 ^ 30 by omega)) ?_
      exact Nat.mul_le_mul_left _ (Nat.pow_le_pow_right ql_pos (by omega))
  · exact (k3 x hx).2.dvd (M' := K * K2 * d) ⟨K2 * d, Nat.mul_assoc _ _ _⟩ hp
end
end Lw

namespace Lw
open PySem PySem.Spec PyProof.Rows L2 Dn LA
/-! ### the leads of a chain (E15) -/
def plY (ps : List Pl) (y : Nat) : D := match ps[y]? with
  | some p => plD p
  | none => .non
theorem map_plY (ps : List Pl) : ps.map plD = (List.range ps.length).map (plY ps) := by
  apply List.ext_getElem?
  intro j
  by_cases hj : j < ps.length
  · rw [List.getElem?_map, List.getElem?_map, List.getElem?_range hj, List.getElem?_eq_getElem hj]
    unfold plY
    simp only [Option.map_some, List.getElem?_eq_getElem hj]
  · rw [List.getElem?_eq_none (by simp; omega), List.getElem?_eq_none (by simp; omega)]
section
variable {Mg Bg : Nat} {ps : List Pl}
theorem ex_loop (h : ChG Mg Bg ps) (hl : ps.length ≤ 12) (h0 : 0 < ps.length) (hM : Mg ≤ 2 ^ 34) (hB : Bg ≤ 2 ^ 20) :
    lcL [8, 9] (Tg.put (.tup [(.nm 8), (.nm 9)])) bYes e_leads_0 (zipD (ps.map plD) ((List.range ps.length).map fun y => nD (gnQ ps y))) [] [.fz (.lst (ps.map plD)), .no, .no, .no, .no, .no, .no, .no, .no, .no] =
      .ok ((List.range ps.length).map fun y => nC (exQ ps y)) [.fz (.lst (ps.map plD)), .no, .no, .no, .no, .no, .no, .no, .no, .no] := by
  obtain ⟨K, k1, k2, k3⟩ := h.exK hl h0 hM hB
  have hz := zip_range ps.length (plY ps) (fun y => nD (gnQ ps y))
  rw [← map_plY] at hz
  rw [hz]
  refine lcL_getO _ (fun y => .tup [plY ps y, nD (gnQ ps y)]) (fun y => nC (exQ ps y)) _ (by simp; omega) fun y hy => ?_
  have hy := List.mem_range.mp hy
  obtain ⟨g, bs, b1, b2, b3⟩ := h.at hy
  have e1 : plY ps y = plD (.dr g bs) := by unfold plY; rw [b1]
  have eg : gP ps y = g := by unfold gP; rw [b1]; rfl
  obtain ⟨i1, i2⟩ := k3 y hy
  have hq : QL ^ ps.length ≤ QL ^ 12 := Nat.pow_le_pow_right ql_pos hl
  have hz : Szw K (2 ^ 21) := by
    have q1 := Nat.le_trans k2 (Nat.mul_le_mul_left _ hq)
    exact ⟨Nat.lt_of_le_of_lt q1 (by decide), Nat.lt_of_le_of_lt (Nat.mul_le_mul_left _ q1) (by decide)⟩
  have og : Okw (gP ps y) := (h.g_inn hy).okw (by
    have : Bg * Mg ≤ 2 ^ 20 * 2 ^ 34 := Nat.mul_le_mul hB hM
    exact Nat.lt_of_le_of_lt this (by decide)) (Nat.lt_of_le_of_lt hM (by decide))
  have t := sp_minusW og (i2.szw (hz.le (by omega))) (i1.szw (hz.le (by omega))).2
  have ee : gP ps y - gnQ ps y = exQ ps y := rfl
  rw [ee, eg] at t
  rw [e1]
  simp only [plD]
  unfold nC at t ⊢
  generalize nD (exQ ps y) = q3 at *
  generalize nD (gnQ ps y) = q2 at *
  generalize nD g = q1 at *
  generalize bs.map brD = bb at *
  generalize ps.map plD = gm at *
  simp -implicitDefEqProofs [t]
theorem lput_loop (x0 x1 x3 x4 x8 x9 : C) {ls : Rat} {f : Nat → Rat} {L : List Nat} (hn : L.Nodup) (hl : L.length ≤ 12) (hok : ∀ k, k < L.length → Okw (f k) ∧ Okw (f k - ls)) (hls : Okw ls) {kvs : List (Key × D)} (hk : kvs.length ≤ 200) (c6 c7 : C) :
    ∃ kv2 d6 d7, kv2.length ≤ kvs.length + 12 ∧ (∀ y : Nat, valD kv2 (.inl (y : Int)) = if y ∈ L then some (nD (ext L f y - ls)) else valD kvs (.inl (y : Int))) ∧
      forL (Tg.put (.tup [(.nm 6), (.nm 7)])) b_leads_1 ((List.range L.length).map fun i => .tup [nI (nth L i), nD (f i)]) [x0, x1, .od kvs, x3, x4, nC ls, c6, c7, x8, x9] = .nx [x0, x1, .od kv2, x3, x4, nC ls, d6, d7, x8, x9] := by
  obtain ⟨ρ', e, kv2, c5, c6, rfl, h1, h2⟩ := forL_sat (put := Tg.put (.tup [(.nm 6), (.nm 7)])) (x := b_leads_1) (fun i ρ => ∃ kv2 c6 c7, ρ = [x0, x1, .od kv2, x3, x4, nC ls, c6, c7, x8, x9] ∧ kv2.length ≤ kvs.length + i ∧ ∀ y : Nat, valD kv2 (.inl (y : Int)) = if y ∈ L.take i then some (nD (ext L f y - ls)) else valD kvs (.inl (y : Int))) ((List.range L.length).map fun i => .tup [nI (nth L i), nD (f i)]) (fun i d ρ hd hI => by
    obtain ⟨kv2, c6, c7, rfl, h1, h2⟩ := hI
    have hi : i < L.length := by
      have := (List.getElem?_eq_some_iff.mp hd).1
      simpa using this
    rw [range_get _ hi] at hd
    cases hd
    have hs : kv2.length ≤ 1000 := by omega
    obtain ⟨o1, o2⟩ := hok i hi
    have t := sp_minusW o1 hls o2.2
    have hst : fStep (Tg.put (.tup [(.nm 6), (.nm 7)])) b_leads_1 (.tup [nI (nth L i), nD (f i)]) [x0, x1, .od kv2, x3, x4, nC ls, c6, c7, x8, x9] = .nx [x0, x1, .od (putD kv2 (.inl (nth L i : Int)) (nD (f i - ls))), x3, x4, nC ls, .fz (nI (nth L i)), nC (f i), x8, x9] := by
      unfold nC at *
      generalize nD (f i - ls) = q3 at *
      generalize nD (f i) = q1 at *
      generalize nD ls = q2 at *
      simp -implicitDefEqProofs [nI, hs, t]
    rw [hst]
    refine ⟨_, _, _, rfl, Nat.le_trans (len_putD _ _ _) (by omega), fun y => ?_⟩
    have et : L.take (i + 1) = L.take i ++ [nth L i] := by rw [List.take_succ, List.getElem?_eq_getElem hi, nth_get hi]; rfl
    rw [valD_put, h2, et]
    by_cases ey : y = nth L i
    · rw [if_pos ((key_iff _ _).mpr ey), if_pos (by rw [ey]; simp), ey, ext_in hn f hi]
    · rw [if_neg (mt (key_iff _ _).mp ey)]
      have : y ∈ L.take i ++ [nth L i] ↔ y ∈ L.take i := by simp [ey]
      simp only [this]) (ρ := [x0, x1, .od kvs, x3, x4, nC ls, c6, c7, x8, x9]) ⟨kvs, c6, c7, rfl, by omega, fun y => by simp⟩
  rw [List.length_map, List.length_range] at h1 h2
  refine ⟨kv2, c5, c6, by omega, fun y => ?_, e⟩
  have := h2 y
  rw [List.take_length] at this
  exact this
theorem lead_turn (h : ChG Mg Bg ps) (hl : ps.length ≤ 12) (h0 : 0 < ps.length) (hM : Mg ≤ 2 ^ 34) (hB : Bg ≤ 2 ^ 20) {x : Nat} (hx : x < ps.length) (hr : Recur ps.length (pP ps) x) {kvs : List (Key × D)} (hk : kvs.length ≤ 200) {c1 : C} (hc1 : c1 = .ow ((List.range ps.length).map fun y => nC (exQ ps y)) ∨ c1 = .fz (.lst (exD ps.length (exQ ps)))) (c3 c4 c5 c6 c7 : C) :
    ∃ kv2 d4 d6 d7, kv2.length ≤ kvs.length + 12 ∧ (∀ y : Nat, valD kv2 (.inl (y : Int)) = if y ∈ rchF ps ps.length x then some (nD (ldC ps y)) else valD kvs (.inl (y : Int))) ∧
      fStep (Tg.put (.nm 3)) b_leads_2 (clD ps x) [.fz (.lst (ps.map plD)), c1, .od kvs, c3, c4, c5, c6, c7, .no, .no] = .nx [.fz (.lst (ps.map plD)), .fz (.lst (exD ps.length (exQ ps))), .od kv2, .fz (clD ps x), d4, nC (lsF ps x), d6, d7, .no, .no] := by
  have hc := h.cls hx hr
  have hC0 := h.cls0 hx
  have hn := Nat.le_trans (h.clsN hx) hl
  have hR := h.sqrows hx hl hr
  obtain ⟨K, k1, k2, k3⟩ := h.exK hl h0 hM hB
  have s := h.rsys hl hB hx hr k1 k2 fun y hy => (k3 y hy).1
  have key0 : ∀ t : Nat, valD [((Sum.inl ((nth (rchF ps ps.length x) 0 : Nat) : Int) : Key), k_NOUGHT)] (.inl (t : Int)) = if t = nth (rchF ps ps.length x) 0 then some k_NOUGHT else none := fun t => by
    unfold valD
    rw [List.find?_cons]
    by_cases e : t = nth (rchF ps ps.length x) 0
    · rw [if_pos e, decide_eq_true ((key_iff _ _).mpr e.symm)]; rfl
    · rw [if_neg e, decide_eq_false (mt (key_iff _ _).mp (Ne.symm e))]; rfl
  have notin : ∀ {t : Nat}, t ∈ (rchF ps ps.length x).drop 1 → t ≠ nth (rchF ps ps.length x) 0 := fun {t} m e => by
    obtain ⟨i, hi, ei⟩ := mem_nth m
    rw [len_drop] at hi
    rw [nth_drop] at ei
    have := nth_inj hc.nd (by omega) hC0 (ei.trans e)
    omega
  have split : ∀ {t : Nat}, t ∈ rchF ps ps.length x → t ∉ (rchF ps ps.length x).drop 1 → t = nth (rchF ps ps.length x) 0 := fun {t} m hn => by
    obtain ⟨i, hi, ei⟩ := mem_nth m
    by_cases e : i = 0
    · rw [← ei, e]
    · exact absurd (by
        have : nth ((rchF ps ps.length x).drop 1) (i - 1) ∈ (rchF ps ps.length x).drop 1 := nth_mem (by rw [len_drop]; omega)
        rw [nth_drop, Nat.sub_add_cancel (by omega), ei] at this
        exact this) hn
  have hm := s.met h (kvs := [((Sum.inl ((nth (rchF ps ps.length x) 0 : Nat) : Int) : Key), k_NOUGHT)]) (fun c m t ht hn => by rw [key0, if_neg (notin hn)]) (fun c m t ht hn => by
    have mc := List.mem_of_mem_drop m
    have hcl := hc.lt c mc
    have mt := hc.cl c mc t (h.tl c hcl t ht) ((h.pos hcl t).mpr ht)
    rw [key0, if_pos (split mt hn)]; rfl)
  have hmet := sp_met h hm (by rw [len_drop]; omega) (s.rows h hl)
  have esl : (fun i => nC (gA ((rchF ps ps.length x).drop 1).length (lvR ps.length (pP ps) ((rchF ps ps.length x).drop 1) (fun _ => 0) (exQ ps)) ((rchF ps ps.length x).drop 1).length i ((rchF ps ps.length x).drop 1).length)) = fun i => nC (slF ps ((rchF ps ps.length x).drop 1) (fun _ => 0) (exQ ps) i) := rfl
  rw [esl] at hmet
  have hrough : [k_NOUGHT] ++ ((List.range ((rchF ps ps.length x).drop 1).length).map fun i => nC (slF ps ((rchF ps ps.length x).drop 1) (fun _ => 0) (exQ ps) i)).map fzD = (List.range (rchF ps ps.length x).length).map fun k => nD (rgF ps x k) := by
    obtain ⟨m, hm⟩ : ∃ m, (rchF ps ps.length x).length = m + 1 := ⟨_, (Nat.succ_pred_eq_of_pos hC0).symm⟩
    rw [len_drop, hm, Nat.add_sub_cancel, List.range_succ_eq_map, List.map_cons, List.map_map, List.map_map]
    have e0 : nD (rgF ps x 0) = k_NOUGHT := by unfold rgF; rw [if_pos rfl]; rfl
    rw [e0, List.singleton_append]
    congr 1
  have hroughC : ([k_NOUGHT] ++ ((List.range ((rchF ps ps.length x).drop 1).length).map fun i => nC (slF ps ((rchF ps ps.length x).drop 1) (fun _ => 0) (exQ ps) i)).map fzD).map C.fz = (List.range (rchF ps ps.length x).length).map fun k => nC (rgF ps x k) := by
    rw [hrough, List.map_map]; rfl
  have hrz : ((List.range (rchF ps ps.length x).length).map fun k => nC (rgF ps x k)).map fzD = (List.range (rchF ps ps.length x).length).map fun k => nD (rgF ps x k) := by rw [List.map_map]; rfl
  have hsh := sp_shares_in h hc.nd hc.lt (by omega) hC0 hR
  have hsf : ((List.range (rchF ps ps.length x).length).map fun k => nC (shF ps (rchF ps ps.length x) k)).map fzD = (List.range (rchF ps ps.length x).length).map fun k => nD (shF ps (rchF ps ps.length x) k) := by rw [List.map_map]; rfl
  -- the sizes
  obtain ⟨d, d1, d2, d3⟩ := h.rgI hl hB hx hr k1 k2 fun y hy => (k3 y hy).1
  obtain ⟨c, c1', c2', c3'⟩ := h.shK hl hx hr
  have p12 : ∀ {a : Nat}, a ≤ 12 → QL ^ a ≤ QL ^ 12 := fun ha => Nat.pow_le_pow_right ql_pos ha
  have hKd : K * d ≤ 2 ^ 442 * QL ^ 12 * QL ^ 12 := Nat.mul_le_mul (Nat.le_trans k2 (Nat.mul_le_mul_left _ (p12 hl))) (Nat.le_trans d2 (p12 (by omega)))
  have hc12 : c ≤ QL ^ 12 := Nat.le_trans c2' (p12 hn)
  have hBr : 2 * Bg * QL ^ (rchF ps ps.length x).length ≤ 2 ^ 21 * QL ^ 12 := Nat.mul_le_mul (by omega) (p12 hn)
  have szr : Szw (K * d) (2 * Bg * QL ^ (rchF ps ps.length x).length) := ⟨Nat.lt_of_le_of_lt hKd (by decide), Nat.lt_of_le_of_lt (Nat.mul_le_mul hBr hKd) (by decide)⟩
  have szs : Szw c 1 := ⟨Nat.lt_of_le_of_lt hc12 (by decide), by rw [Nat.one_mul]; exact Nat.lt_of_le_of_lt hc12 (by decide)⟩
  have hcKd : c * (K * d) ≤ QL ^ 12 * (2 ^ 442 * QL ^ 12 * QL ^ 12) := Nat.mul_le_mul hc12 hKd
  have szp : Szw (c * (K * d)) ((rchF ps ps.length x).length * (1 * (2 * Bg * QL ^ (rchF ps ps.length x).length))) := by
    have q : (rchF ps ps.length x).length * (1 * (2 * Bg * QL ^ (rchF ps ps.length x).length)) ≤ 12 * (1 * (2 ^ 21 * QL ^ 12)) := Nat.mul_le_mul hn (Nat.mul_le_mul_left _ hBr)
    exact ⟨Nat.lt_of_le_of_lt hcKd (by decide), Nat.lt_of_le_of_lt (Nat.mul_le_mul q hcKd) (by decide)⟩
  have hw := sp_weighed_by (f := shF ps (rchF ps ps.length x)) (g := rgF ps x) (M := c * (K * d)) (B := 1 * (2 * Bg * QL ^ (rchF ps ps.length x).length)) (by omega) (Nat.mul_pos c1' (Nat.mul_pos k1 d1)) (fun k hk => ⟨(c3' k hk).szw szs, (d3 k hk).szw szr, (c3' k hk).mul (d3 k hk)⟩) szp hC0
  have els : sm (fun k => shF ps (rchF ps ps.length x) k * rgF ps x k) (rchF ps ps.length x).length = lsF ps x := rfl
  rw [els] at hw
  have hlsI : Inn (c * (K * d)) (2 * Bg * QL ^ (rchF ps ps.length x).length) (lsF ps x) := by
    obtain ⟨b1, b2⟩ := h.lsB hl hx hr (B := 2 * Bg * QL ^ (rchF ps ps.length x).length) fun k hk => inn_le (d3 k hk)
    refine inn_wholeE (Nat.mul_pos c1' (Nat.mul_pos k1 d1)) ?_ b1 b2
    exact Whole.sm fun k hk => (whole_inn (c3' k hk)).mul (whole_inn (d3 k hk))
  have szl : Szw (c * (K * d)) (2 * Bg * QL ^ (rchF ps ps.length x).length + 2 * Bg * QL ^ (rchF ps ps.length x).length) := by
    have q : 2 * Bg * QL ^ (rchF ps ps.length x).length + 2 * Bg * QL ^ (rchF ps ps.length x).length ≤ 2 ^ 22 * QL ^ 12 := by
      have : 2 ^ 22 * QL ^ 12 = 2 ^ 21 * QL ^ 12 + 2 ^ 21 * QL ^ 12 := by rw [← Nat.add_mul]
      omega
    exact ⟨Nat.lt_of_le_of_lt hcKd (by decide), Nat.lt_of_le_of_lt (Nat.mul_le_mul q hcKd) (by decide)⟩
  obtain ⟨kv2, d6, d7, q1, q2, e⟩ := lput_loop (.fz (.lst (ps.map plD))) (.fz (.lst (exD ps.length (exQ ps)))) (.fz (clD ps x)) (.fz (.lst ((List.range (rchF ps ps.length x).length).map fun k => nD (rgF ps x k)))) .no .no (ls := lsF ps x) (f := rgF ps x) hc.nd hn (fun k hk => ⟨(d3 k hk).szw szr, (((d3 k hk).dvd (M' := c * (K * d)) ⟨c, Nat.mul_comm _ _⟩ (Nat.mul_pos c1' (Nat.mul_pos k1 d1))).sub hlsI).szw szl⟩) (hlsI.szw (szl.le (Nat.le_add_right _ _))) hk c6 c7
  have hcut : cutL ((rchF ps ps.length x).map nI) (some 1) none = ((rchF ps ps.length x).drop 1).map nI := by
    have := cutT ((rchF ps ps.length x).map nI) (k := 1) (by rw [List.length_map]; exact hC0)
    rw [List.map_drop]
    exact this
  have hat : atI ((rchF ps ps.length x).map nI) 0 = some (.int (nth (rchF ps ps.length x) 0 : Nat)) := by
    have := at_nI (l := rchF ps ps.length x) (j := 0) hC0
    rw [nth_get] at this
    exact this
  have hzip := zip_nth (L := rchF ps ps.length x) (rgF ps x)
  have hexz : ((List.range ps.length).map fun y => nC (exQ ps y)).map fzD = exD ps.length (exQ ps) := by rw [List.map_map]; rfl
  refine ⟨kv2, .fz (.lst ((List.range (rchF ps ps.length x).length).map fun k => nD (rgF ps x k))), d6, d7, q1, fun y => ?_, ?_⟩
  · rw [q2]
    by_cases m : y ∈ rchF ps ps.length x
    · rw [if_pos m, if_pos m]
      obtain ⟨e1, e2, e3⟩ := h.same_rg hx hr m
      unfold ldC
      rw [e1, e2, e3]
    · rw [if_neg m, if_neg m]
  · have hlen1 : 1 + ((List.range ((rchF ps ps.length x).drop 1).length).map fun i => nC (slF ps ((rchF ps ps.length x).drop 1) (fun _ => 0) (exQ ps) i)).length ≤ 1000000 := by rw [List.length_map, List.length_range, len_drop]; omega
    unfold clD at e ⊢
    clear hrough
    generalize ((List.range (rchF ps ps.length x).length).map fun k => nC (shF ps (rchF ps ps.length x) k)) = sc at *
    generalize ((List.range (rchF ps ps.length x).length).map fun k => nD (shF ps (rchF ps ps.length x) k)) = sd at *
    generalize ((List.range ((rchF ps ps.length x).drop 1).length).map fun i => nC (slF ps ((rchF ps ps.length x).drop 1) (fun _ => 0) (exQ ps) i)) = mc at *
    generalize ((List.range (rchF ps ps.length x).length).map fun k => nC (rgF ps x k)) = rc at *
    generalize ((List.range (rchF ps ps.length x).length).map fun k => nD (rgF ps x k)) = rd at *
    generalize ((List.range (rchF ps ps.length x).length).map fun i => D.tup [nI (nth (rchF ps ps.length x) i), nD (rgF ps x i)]) = zz at *
    generalize ((List.range ps.length).map fun y => nC (exQ ps y)) = ec at *
    generalize exD ps.length (exQ ps) = ed at *
    generalize ps.map plD = gm at *
    generalize ((rchF ps ps.length x).drop 1).map nI = dd at *
    generalize (rchF ps ps.length x).map nI = re at *
    unfold nC at hw e ⊢
    generalize nD (lsF ps x) = ql at *
    have hX : C.fz k_NOUGHT :: mc.map (C.fz ∘ fzD) = rc := by
      rw [← hroughC, List.singleton_append, List.map_cons, List.map_map]
    clear hroughC
    rcases hc1 with rfl | rfl
    · simp -implicitDefEqProofs [hexz, hcut, hat, hmet, hlen1, hX, hsh, hsf, hrz, hw, hzip, e]
    · simp -implicitDefEqProofs [hcut, hat, hmet, hlen1, hX, hsh, hsf, hrz, hw, hzip, e]
open Classical in
theorem sp_leads (h : ChG Mg Bg ps) (hl : ps.length ≤ 12) (h0 : 0 < ps.length) (hM : Mg ≤ 2 ^ 34) (hB : Bg ≤ 2 ^ 20) : w_leads [.fz (.lst (ps.map plD))] = .ok (.ow ((List.range ps.length).map fun y => nC (ldQ ps y))) [] := by
  have hcc := sp_closed_classes h (by omega)
  have hlg := sp_long_gains h hl h0 hM hB
  have hgz : ((List.range ps.length).map fun y => nC (gnQ ps y)).map fzD = (List.range ps.length).map fun y => nD (gnQ ps y) := by rw [List.map_map]; rfl
  have hex := ex_loop h hl h0 hM hB
  obtain ⟨ρ', e, c1, kv, c3, c4, c5, c6, c7, rfl, hc1, k1, k2⟩ := forL_sat (put := Tg.put (.nm 3)) (x := b_leads_2) (fun i ρ => ∃ c1 kv c3 c4 c5 c6 c7, ρ = [.fz (.lst (ps.map plD)), c1, .od kv, c3, c4, c5, c6, c7, .no, .no] ∧ (c1 = .ow ((List.range ps.length).map fun y => nC (exQ ps y)) ∨ c1 = .fz (.lst (exD ps.length (exQ ps)))) ∧ kv.length ≤ 12 * i ∧ ∀ y : Nat, valD kv (.inl (y : Int)) = if y ∈ clF ps ((clsL ps).take i) then some (nD (ldC ps y)) else none) ((clsL ps).map (clD ps)) (fun i d ρ hd hI => by
    obtain ⟨c1, kv, c3, c4, c5, c6, c7, rfl, hc1, k1, k2⟩ := hI
    rw [List.getElem?_map, Option.map_eq_some_iff] at hd
    obtain ⟨x, hx, rfl⟩ := hd
    have hm : x ∈ clsL ps := List.mem_of_getElem? hx
    have hi : i < (clsL ps).length := (List.getElem?_eq_some_iff.mp hx).1
    have hcl := cls_len ps
    obtain ⟨a1, a2, a3⟩ := h.cls_in hm
    obtain ⟨kv2, d4, d6, d7, q1, q2, q3⟩ := lead_turn h hl h0 hM hB a1 a2 (kvs := kv) (by omega) hc1 c3 c4 c5 c6 c7
    rw [q3]
    refine ⟨_, _, _, _, _, _, _, rfl, .inr rfl, by omega, fun y => ?_⟩
    have et : clF ps ((clsL ps).take (i + 1)) = clF ps ((clsL ps).take i) ++ rchF ps ps.length x := by
      rw [List.take_succ, hx]
      unfold clF
      rw [List.flatMap_append]; simp
    rw [q2, k2, et]
    by_cases m : y ∈ rchF ps ps.length x
    · rw [if_pos m, if_pos (List.mem_append_right _ m)]
    · rw [if_neg m]
      have : y ∈ clF ps ((clsL ps).take i) ++ rchF ps ps.length x ↔ y ∈ clF ps ((clsL ps).take i) := by simp [m]
      simp only [this]) (ρ := [.fz (.lst (ps.map plD)), .ow ((List.range ps.length).map fun y => nC (exQ ps y)), .od [], .no, .no, .no, .no, .no, .no, .no]) ⟨_, [], _, _, _, _, _, rfl, .inl rfl, by simp, fun y => by simp [valD, clF]⟩
  rw [List.length_map, List.take_length] at k2
  rw [List.length_map] at k1
  have hcl := cls_len ps
  obtain ⟨K, s1, s2, s3⟩ := h.exK hl h0 hM hB
  obtain ⟨K2, j1, j2, j3⟩ := h.ld1 hl hB s1 s2 fun y hy => (s3 y hy).1
  have s := h.lsys hl hB s1 s2 (fun y hy => (s3 y hy).1) j1 j2 j3
  have L := liveE_ok ps
  have hin : ∀ y, y < ps.length → (y ∈ clF ps (clsL ps) ↔ y ∉ liveE ps) := fun y hy => by rw [h.cls_all hy, L.iff y hy]; exact Classical.not_not.symm
  have hLf : liveE ps = (List.range ps.length).filter fun y : Nat => !(valD kv (.inl (y : Int))).isSome := by
    unfold liveE
    refine List.filter_congr fun y hy => ?_
    have hy := List.mem_range.mp hy
    rw [k2]
    have := h.cls_all hy
    by_cases hr : Recur ps.length (pP ps) y
    · rw [if_pos (this.mpr hr)]; simp [hr]
    · rw [if_neg (mt this.mp hr)]; simp [hr]
  have hm := s.met h (kvs := kv) (fun c m t ht hn => by
    have htl := h.tl c (L.lt c m) t ht
    rw [k2, if_neg (fun z => (hin t htl).mp z hn)]) (fun c m t ht hn => by
    have htl := h.tl c (L.lt c m) t ht
    rw [k2, if_pos ((hin t htl).mpr hn)])
  have hrest := sp_with_rest h (by omega) (kvs := kv) (by omega) hLf (v := ldC ps) (fun y hy hn => by rw [k2, if_pos ((hin y hy).mpr hn)]) hm (s.rows h hl)
  have eg : (fun y => nC (LA.put (liveE ps) (ldC ps) (fun i => gA (liveE ps).length (lvR ps.length (pP ps) (liveE ps) (ldC ps) (exQ ps)) (liveE ps).length i (liveE ps).length) y)) = fun y => nC (ldQ ps y) := rfl
  rw [eg] at hrest
  have hfz : ((clsL ps).map fun x => C.fz (clD ps x)).map fzD = (clsL ps).map (clD ps) := by rw [List.map_map]; rfl
  have hexz : ((List.range ps.length).map fun y => nC (exQ ps y)).map fzD = exD ps.length (exQ ps) := by rw [List.map_map]; rfl
  refine run_ok ?_
  generalize ((List.range ps.length).map fun y => nC (ldQ ps y)) = out at *
  generalize ((List.range ps.length).map fun y => nC (gnQ ps y)) = gc at *
  generalize ((List.range ps.length).map fun y => nD (gnQ ps y)) = gd at *
  generalize ((List.range ps.length).map fun y => nC (exQ ps y)) = ec at *
  generalize ((clsL ps).map fun x => C.fz (clD ps x)) = cc at *
  generalize (clsL ps).map (clD ps) = cd at *
  generalize exD ps.length (exQ ps) = ed at *
  generalize ps.map plD = gm at *
  rcases hc1 with rfl | rfl
  · simp -implicitDefEqProofs [m_leads, hlg, hgz, hex, hcc, hfz, e, hexz, hrest]
  · simp -implicitDefEqProofs [m_leads, hlg, hgz, hex, hcc, hfz, e, hrest]
end
end Lw


namespace Lw
open PySem PySem.Spec PyProof.Rows L2 Dn LA
theorem sp__law_minusT {a b : Rat} (h1 : Okq a) (h2 : Okq b) (h3 : (a - b).den < 2 ^ 2600) : w__law_minus [nC a, nC b] = .ok (nC (a - b)) [] := by
  have e : nC (-b) = .fz (.tup [.int (-b.num), .int (b.den : Int)]) := by rw [nC_eq, Rat.neg_num, Rat.neg_den]
  have t := sp__law_plus h1 (neg_ok h2) (by rw [← Rat.sub_eq_add_neg]; exact h3)
  rw [← Rat.sub_eq_add_neg, e] at t
  have e2 : nC b = .fz (.tup [.int b.num, .int (b.den : Int)]) := nC_eq b
  rw [e2]
  refine run_ok ?_
  unfold nC at *
  generalize nD (a - b) = q at *
  generalize nD a = q1 at *
  simp -implicitDefEqProofs [m__law_minus, t, atI_ofNat, negD]
end Lw

namespace Lw
open PySem PySem.Spec PyProof.Rows L2 Dn LA
/-! ### gains and leads are the only ones (R1) -/
section
variable {Mg Bg : Nat} {ps : List Pl}
theorem ChG.shr (h : ChG Mg Bg ps) (hl : ps.length ≤ 12) {x : Nat} (hx : x < ps.length) (hr : Recur ps.length (pP ps) x) {f : Nat → Rat} (hf : ∀ x, x < ps.length → f x = mn ps.length (pP ps) f x) :
    sm (fun k => shF ps (rchF ps ps.length x) k * f (nth (rchF ps ps.length x) k)) (rchF ps ps.length x).length = f x := by
  have hc := h.cls hx hr
  have e : sm (fun k => shF ps (rchF ps ps.length x) k * f (nth (rchF ps ps.length x) k)) (rchF ps ps.length x).length = sm (fun k => f x * shF ps (rchF ps ps.length x) k) (rchF ps ps.length x).length := sm_congr fun k hk => by
    have m := nth_mem hk
    have rt := (rch_mem hx h.tl _).mp m
    rw [harm_const h.chain hf hx hr ((h.rc hx _).mpr rt), Rat.mul_comm]
  rw [e, sm_mul, (h.shq hl hx hr).2.1, Rat.mul_one]
theorem ChG.g_uniq (h : ChG Mg Bg ps) (hl : ps.length ≤ 12) (h0 : 0 < ps.length) (hM : Mg ≤ 2 ^ 34) (hB : Bg ≤ 2 ^ 20) {g' h' : Nat → Rat} (H1 : ∀ x, x < ps.length → g' x = mn ps.length (pP ps) g' x)
    (H2 : ∀ x, x < ps.length → g' x + h' x = gP ps x + mn ps.length (pP ps) h' x) : ∀ x, x < ps.length → g' x = gnQ ps x := by
  have hg := h.gainQ hl h0 hM hB
  have key := harm_zero h.chain (f := fun y => g' y - gnQ ps y) (fun x hx => by rw [mn_sub, ← H1 x hx, ← hg.mean x hx]) fun x hx hr => by
    have e1 := h.shr hl hx hr H1
    have e2 : gnQ ps x = sm (fun k => shF ps (rchF ps ps.length x) k * gP ps (nth (rchF ps ps.length x) k)) (rchF ps ps.length x).length := h.g_rec hx hr
    obtain ⟨q0, q1, qs, e⟩ := h.shareQ hl hx hr
    rw [e] at e1 e2
    have s1 := stat_mean (w := h') qs
    have s2 : sm (fun y => ext (rchF ps ps.length x) (shF ps (rchF ps ps.length x)) y * (g' y + h' y)) ps.length = sm (fun y => ext (rchF ps ps.length x) (shF ps (rchF ps ps.length x)) y * (gP ps y + mn ps.length (pP ps) h' y)) ps.length := sm_congr fun y hy => by rw [H2 y hy]
    rw [sm_congr (g := fun y => ext (rchF ps ps.length x) (shF ps (rchF ps ps.length x)) y * g' y + ext (rchF ps ps.length x) (shF ps (rchF ps ps.length x)) y * h' y) fun y _ => by grind, sm_add,
      sm_congr (f := fun y => ext (rchF ps ps.length x) (shF ps (rchF ps ps.length x)) y * (gP ps y + mn ps.length (pP ps) h' y)) (g := fun y => ext (rchF ps ps.length x) (shF ps (rchF ps ps.length x)) y * gP ps y + ext (rchF ps ps.length x) (shF ps (rchF ps ps.length x)) y * mn ps.length (pP ps) h' y) fun y _ => by grind, sm_add, s1] at s2
    show g' x - gnQ ps x = 0
    rw [e2]
    grind
  intro x hx
  have := key x hx
  grind
theorem ChG.h_uniq (h : ChG Mg Bg ps) (hl : ps.length ≤ 12) (h0 : 0 < ps.length) (hM : Mg ≤ 2 ^ 34) (hB : Bg ≤ 2 ^ 20) {h' : Nat → Rat}
    (H2 : ∀ x, x < ps.length → gnQ ps x + h' x = gP ps x + mn ps.length (pP ps) h' x)
    (H3 : ∀ x, x < ps.length → Recur ps.length (pP ps) x → sm (fun k => shF ps (rchF ps ps.length x) k * h' (nth (rchF ps ps.length x) k)) (rchF ps ps.length x).length = 0) : ∀ x, x < ps.length → h' x = ldQ ps x := by
  have hd : ∀ x, x < ps.length → h' x - ldQ ps x = mn ps.length (pP ps) (fun y => h' y - ldQ ps y) x := fun x hx => by
    have a := H2 x hx
    have b := h.ld_eq hl h0 hM hB hx
    rw [mn_sub]; grind
  have key := harm_zero h.chain (f := fun y => h' y - ldQ ps y) hd fun x hx hr => by
    have e1 := h.shr hl hx hr hd
    have a := H3 x hx hr
    have b := h.ld_zero hl hx hr
    rw [sm_congr (g := fun k => shF ps (rchF ps ps.length x) k * h' (nth (rchF ps ps.length x) k) - shF ps (rchF ps ps.length x) k * ldQ ps (nth (rchF ps ps.length x) k)) fun k _ => by grind, sm_sub, a, b] at e1
    show h' x - ldQ ps x = 0
    rw [← e1]; grind
  intro x hx
  have := key x hx
  grind
/-- what the shares weigh, over all places -/
theorem ChG.shAll (h : ChG Mg Bg ps) (hl : ps.length ≤ 12) {x : Nat} (hx : x < ps.length) (hr : Recur ps.length (pP ps) x) (f : Nat → Rat) :
    ∃ q : Nat → Rat, (∀ y, y < ps.length → 0 ≤ q y) ∧ sm q ps.length = 1 ∧ Stat ps.length (pP ps) q ∧ sm (fun k => shF ps (rchF ps ps.length x) k * f (nth (rchF ps ps.length x) k)) (rchF ps ps.length x).length = sm (fun y => q y * f y) ps.length := by
  obtain ⟨q0, q1, qs, e⟩ := h.shareQ hl hx hr
  exact ⟨_, q0, q1, qs, e f⟩
end
end Lw

namespace Lw
open PySem PySem.Spec PyProof.Rows L2 Dn LA
/-! ### the same chain with other gains (V1) -/
def reP (ps : List Pl) (gs : Nat → Rat) (k : Nat) : Pl := match ps[k]? with
  | some (.dr _ bs) => .dr (gs k) bs
  | _ => .dr 0 []
def reL (ps : List Pl) (gs : Nat → Rat) : List Pl := (List.range ps.length).map (reP ps gs)
section
variable {ps : List Pl} {gs : Nat → Rat} {Mg Bg Mq Bq : Nat}
theorem re_len : (reL ps gs).length = ps.length := by simp [reL]
theorem re_at {k : Nat} (hk : k < ps.length) : (reL ps gs)[k]? = some (reP ps gs k) := by unfold reL; exact range_get _ hk
theorem re_eq {k : Nat} {g : Rat} {bs : List (Rat × Nat)} (h : ps[k]? = some (.dr g bs)) : reP ps gs k = .dr (gs k) bs := by unfold reP; rw [h]
theorem re_ch (h : ChG Mg Bg ps) (hg : ∀ k, k < ps.length → Inn Mq Bq (gs k)) : ChG Mq Bq (reL ps gs) := by
  have key : ∀ p ∈ reL ps gs, plOkG Mq Bq (reL ps gs).length p ∧ plFair p ∧ ∃ g bs, p = .dr g bs := fun p m => by
    obtain ⟨k, hk, rfl⟩ := List.mem_map.mp m
    have hk := List.mem_range.mp hk
    obtain ⟨g, bs, b1, b2, b3⟩ := h.at hk
    rw [re_eq b1, re_len]
    exact ⟨⟨hg k hk, b2.2⟩, b3, _, _, rfl⟩
  exact ⟨fun p m => (key p m).1, fun p m => (key p m).2.1, fun p m => (key p m).2.2⟩
theorem re_gP (h : ChG Mg Bg ps) {k : Nat} (hk : k < ps.length) : gP (reL ps gs) k = gs k := by
  obtain ⟨g, bs, b1, b2, b3⟩ := h.at hk
  unfold gP
  rw [re_at hk, re_eq b1]; rfl
theorem re_p (h : ChG Mg Bg ps) : pP (reL ps gs) = pP ps := by
  funext x y
  by_cases hx : x < ps.length
  · obtain ⟨g, bs, b1, b2, b3⟩ := h.at hx
    have e1 := pP_eq b1
    have b4 : (reL ps gs)[x]? = some (.dr (gs x) bs) := by rw [re_at hx, re_eq b1]
    rw [pP_eq b1, pP_eq b4]
  · have e1 : ps[x]? = none := List.getElem?_eq_none (by omega)
    have e2 : (reL ps gs)[x]? = none := List.getElem?_eq_none (by rw [re_len]; omega)
    unfold pP
    rw [e1, e2]
theorem re_tg (h : ChG Mg Bg ps) (x : Nat) : tgA (reL ps gs) x = tgA ps x := by
  unfold tgA
  by_cases hx : x < ps.length
  · obtain ⟨g, bs, b1, b2, b3⟩ := h.at hx
    rw [re_at hx, re_eq b1, b1]; rfl
  · have e1 : ps[x]? = none := List.getElem?_eq_none (by omega)
    have e2 : (reL ps gs)[x]? = none := List.getElem?_eq_none (by rw [re_len]; omega)
    rw [e1, e2]
theorem re_rc (h : ChG Mg Bg ps) (x y : Nat) : RcT (reL ps gs) x y ↔ RcT ps x y := by
  constructor
  · intro r
    induction r with
    | refl => exact .refl
    | step r m ih => rw [re_tg h] at m; exact .step ih m
  · intro r
    induction r with
    | refl => exact .refl
    | step r m ih => rw [← re_tg (gs := gs) h] at m; exact .step ih m
theorem re_rch (h : ChG Mg Bg ps) (n x : Nat) : rchF (reL ps gs) n x = rchF ps n x := by
  unfold rchF
  exact List.filter_congr fun y _ => decide_eq_decide.mpr (re_rc h x y)
theorem re_sh (h : ChG Mg Bg ps) (L : List Nat) : shF (reL ps gs) L = shF ps L := by
  funext k
  unfold shF
  rw [re_p h]
/-- gains and leads of it, told by what they keep to -/
theorem re_uniq (h : ChG Mg Bg ps) (hQ : ChG Mq Bq (reL ps gs)) (hl : ps.length ≤ 12) (h0 : 0 < ps.length) (hM : Mq ≤ 2 ^ 34) (hB : Bq ≤ 2 ^ 20) {g' h' : Nat → Rat}
    (H1 : ∀ x, x < ps.length → g' x = mn ps.length (pP ps) g' x) (H2 : ∀ x, x < ps.length → g' x + h' x = gs x + mn ps.length (pP ps) h' x)
    (H3 : ∀ x, x < ps.length → Recur ps.length (pP ps) x → sm (fun k => shF ps (rchF ps ps.length x) k * h' (nth (rchF ps ps.length x) k)) (rchF ps ps.length x).length = 0) :
    (∀ x, x < ps.length → gnQ (reL ps gs) x = g' x) ∧ ∀ x, x < ps.length → ldQ (reL ps gs) x = h' x := by
  have hlen := re_len (ps := ps) (gs := gs)
  have hg : ∀ x, x < (reL ps gs).length → g' x = gnQ (reL ps gs) x := hQ.g_uniq (by omega) (by omega) hM hB (h' := h') (fun x hx => by
    rw [hlen] at hx ⊢
    rw [re_p h]; exact H1 x hx) (fun x hx => by
    rw [hlen] at hx ⊢
    rw [re_p h, re_gP h hx]; exact H2 x hx)
  refine ⟨fun x hx => (hg x (by omega)).symm, fun x hx => ?_⟩
  symm
  refine hQ.h_uniq (by omega) (by omega) hM hB (h' := h') (fun x hx => ?_) (fun x hx hr => ?_) x (by omega)
  · rw [← hg x hx]
    rw [hlen] at hx ⊢
    rw [re_p h, re_gP h hx]; exact H2 x hx
  · rw [hlen] at hx hr ⊢
    rw [re_rch h, re_sh h]
    rw [re_p h] at hr
    exact H3 x hx hr
/-- what the shares weigh of the leads is 0, of the gains the long gain -/
theorem sh_lead (h : ChG Mg Bg ps) (hl : ps.length ≤ 12) {x : Nat} (hx : x < ps.length) (hr : Recur ps.length (pP ps) x) (c : Rat) : sm (fun k => shF ps (rchF ps ps.length x) k * (c * ldQ ps (nth (rchF ps ps.length x) k))) (rchF ps ps.length x).length = 0 := by
  have z := h.ld_zero hl hx hr
  have : sm (fun k => shF ps (rchF ps ps.length x) k * (c * ldQ ps (nth (rchF ps ps.length x) k))) (rchF ps ps.length x).length = c * sm (fun k => shF ps (rchF ps ps.length x) k * ldQ ps (nth (rchF ps ps.length x) k)) (rchF ps ps.length x).length := by
    rw [← sm_mul]; exact sm_congr fun k _ => by grind
  rw [this, z, Rat.mul_zero]
/-- rolled by p -/
noncomputable def rlG (ps : List Pl) (p : Nat → Rat) (x : Nat) : Rat := gP ps x + p x - mn ps.length (pP ps) p x
theorem roll_eq (h : ChG Mg Bg ps) {p : Nat → Rat} (hP : ChG Mq Bq (reL ps p)) {M3 B3 : Nat} (hQ : ChG M3 B3 (reL ps (rlG ps p))) (hl : ps.length ≤ 12) (h0 : 0 < ps.length) (hM : Mg ≤ 2 ^ 34) (hB : Bg ≤ 2 ^ 20) (hM2 : Mq ≤ 2 ^ 34) (hB2 : Bq ≤ 2 ^ 20) (hM3 : M3 ≤ 2 ^ 34) (hB3 : B3 ≤ 2 ^ 20) :
    (∀ x, x < ps.length → gnQ (reL ps (rlG ps p)) x = gnQ ps x) ∧ ∀ x, x < ps.length → ldQ (reL ps (rlG ps p)) x = ldQ ps x + p x - gnQ (reL ps p) x := by
  have hlen := re_len (ps := ps) (gs := p)
  have G1 := h.gainQ hl h0 hM hB
  have G2 := hP.gainQ (by omega) (by omega) hM2 hB2
  have m2 := G2.mean
  rw [hlen, re_p h] at m2
  refine re_uniq h hQ hl h0 hM3 hB3 (fun x hx => G1.mean x hx) (fun x hx => ?_) (fun x hx hr => ?_)
  · have l := h.ld_eq hl h0 hM hB hx
    have e := m2 x hx
    rw [mn_sub, mn_add, ← e]
    unfold rlG
    grind
  · have z := h.ld_zero hl hx hr
    have e1 : gnQ (reL ps p) x = sm (fun k => shF ps (rchF ps ps.length x) k * p (nth (rchF ps ps.length x) k)) (rchF ps ps.length x).length := by
      have hr' : Recur (reL ps p).length (pP (reL ps p)) x := by rw [hlen, re_p h]; exact hr
      rw [hP.g_rec (by omega) hr']
      unfold cgQ
      rw [hlen, re_rch h, re_sh h]
      refine sm_congr fun k hk => ?_
      have hk := (rcT_lt hx h.tl ((rch_mem hx h.tl _).mp (nth_mem hk)))
      rw [re_gP h hk]
    have e2 := h.shr hl hx hr (f := gnQ (reL ps p)) m2
    rw [sm_congr (g := fun k => (shF ps (rchF ps ps.length x) k * ldQ ps (nth (rchF ps ps.length x) k) + shF ps (rchF ps ps.length x) k * p (nth (rchF ps ps.length x) k)) - shF ps (rchF ps ps.length x) k * gnQ (reL ps p) (nth (rchF ps ps.length x) k)) fun k _ => by grind, sm_sub, sm_add, z, e2, ← e1]
    grind
theorem add_eq (h : ChG Mg Bg ps) {c : Rat} (hQ : ChG Mq Bq (reL ps fun x => gP ps x + c)) (hl : ps.length ≤ 12) (h0 : 0 < ps.length) (hM : Mg ≤ 2 ^ 34) (hB : Bg ≤ 2 ^ 20) (hM3 : Mq ≤ 2 ^ 34) (hB3 : Bq ≤ 2 ^ 20) :
    (∀ x, x < ps.length → gnQ (reL ps fun x => gP ps x + c) x = gnQ ps x + c) ∧ ∀ x, x < ps.length → ldQ (reL ps fun x => gP ps x + c) x = ldQ ps x := by
  have G1 := h.gainQ hl h0 hM hB
  refine re_uniq h hQ hl h0 hM3 hB3 (fun x hx => ?_) (fun x hx => ?_) (fun x hx hr => h.ld_zero hl hx hr)
  · have e : mn ps.length (pP ps) (fun x => gnQ ps x + c) x = mn ps.length (pP ps) (gnQ ps) x + mn ps.length (pP ps) (fun _ => c) x := mn_add
    rw [e, ← G1.mean x hx, mn_const h.chain _ hx]
  · have l := h.ld_eq hl h0 hM hB hx
    grind
theorem mul_eq (h : ChG Mg Bg ps) {c : Rat} (hQ : ChG Mq Bq (reL ps fun x => gP ps x * c)) (hl : ps.length ≤ 12) (h0 : 0 < ps.length) (hM : Mg ≤ 2 ^ 34) (hB : Bg ≤ 2 ^ 20) (hM3 : Mq ≤ 2 ^ 34) (hB3 : Bq ≤ 2 ^ 20) :
    (∀ x, x < ps.length → gnQ (reL ps fun x => gP ps x * c) x = c * gnQ ps x) ∧ ∀ x, x < ps.length → ldQ (reL ps fun x => gP ps x * c) x = c * ldQ ps x := by
  have G1 := h.gainQ hl h0 hM hB
  refine re_uniq h hQ hl h0 hM3 hB3 (g' := fun x => c * gnQ ps x) (h' := fun x => c * ldQ ps x) (fun x hx => ?_) (fun x hx => ?_) (fun x hx hr => sh_lead h hl hx hr c)
  · rw [mn_mul, ← G1.mean x hx]
  · have l := h.ld_eq hl h0 hM hB hx
    rw [mn_mul]
    have : c * (gnQ ps x + ldQ ps x) = c * (gP ps x + mn ps.length (pP ps) (ldQ ps) x) := by rw [l]
    grind
end
end Lw

namespace Lw
open PySem PySem.Spec PyProof.Rows L2 Dn LA
/-! ### rolled, called (V2) -/
theorem sp_is_whole (i : Int) : w_is_whole [.fz (.int i)] = .ok (.fz (.bl true)) [] := by
  refine run_ok ?_
  simp [m_is_whole, isiD, ofTy, isTy]
theorem sp_is_number (q : Rat) : w_is_number [nC q] = .ok (.fz (.bl true)) [] := by
  have h1 := sp_is_whole q.num
  have h2 := sp_is_whole q.den
  have hg : Nat.gcd q.num.natAbs q.den = 1 := q.reduced
  have hd : (1 : Int) ≤ q.den := by have := q.den_nz; omega
  refine run_ok ?_
  simp [m_is_number, isiD, ofTy, isTy, h1, h2, hg, hd]
@[simp] theorem eChain_ap' (f g : D → D → Option D) (a b c : M C) (ρ : Rho) : eChain f g a b c ρ = (a ρ).bind fun x ρ => (b ρ).bind fun y ρ => match f (fzD x) (fzD y) with
  | some (.bl true) => (c ρ).bind fun z ρ => match g (fzD y) (fzD z) with
    | some (.bl k) => .ok (.fz (.bl k)) ρ
    | _ => .st
  | some (.bl false) => .ok (.fz (.bl false)) ρ
  | _ => .st := rfl
theorem sp_is_short {q : Rat} (h1 : q.num.natAbs < 1000) (h2 : q.den < 1000) : w_is_short [nC q] = .ok (.fz (.bl true)) [] := by
  have t := sp_is_number q
  have a1 : (-1000 : Int) < q.num := by omega
  have a2 : q.num < 1000 := by omega
  have a3 : (q.den : Int) < 1000 := by omega
  refine run_ok ?_
  simp [m_is_short, t, a1, a2, a3]
section
variable {ps : List Pl} {gs : Nat → Rat} {Mg Bg : Nat}
theorem zip_ex (ps : List Pl) (gs : Nat → Rat) : zipD (exD ps.length gs) (ps.map plD) = (List.range ps.length).map fun k => .tup [nD (gs k), plY ps k] := by
  rw [map_plY]
  exact zip_range ps.length (fun k => nD (gs k)) (plY ps)
theorem sp_gained (h : ChG Mg Bg ps) (hl : ps.length ≤ 12) (hs : ∀ k, k < ps.length → (gs k).num.natAbs < 1000 ∧ (gs k).den < 1000) :
    w_gained [.fz (.lst (ps.map plD)), .fz (.lst (exD ps.length gs))] = .ok (.ow ((reL ps gs).map fun p => .fz (plD p))) [] := by
  have l1 : lcL [2] (Tg.put (.nm 2)) bYes e_gained_0 (exD ps.length gs) [] [.fz (.lst (ps.map plD)), .fz (.lst (exD ps.length gs)), .no, .no, .no, .no] = .ok ((List.range ps.length).map fun _ => .fz (.bl true)) [.fz (.lst (ps.map plD)), .fz (.lst (exD ps.length gs)), .no, .no, .no, .no] := by
    refine lcL_getO _ (fun k => nD (gs k)) (fun _ => .fz (.bl true)) _ (by simp; omega) fun k hk => ?_
    obtain ⟨s1, s2⟩ := hs k (List.mem_range.mp hk)
    have t := sp_is_short s1 s2
    unfold nC at t
    generalize nD (gs k) = q at *
    generalize exD ps.length gs = ex at *
    generalize ps.map plD = gm at *
    simp -implicitDefEqProofs [t]
  have l2 : lcL [2, 3, 4, 5] (Tg.put (.tup [(.nm 2), (.tup [(.nm 3), (.nm 4), (.nm 5)])])) bYes e_gained_1 ((List.range ps.length).map fun k => .tup [nD (gs k), plY ps k]) [] [.fz (.lst (ps.map plD)), .fz (.lst (exD ps.length gs)), .no, .no, .no, .no] = .ok ((reL ps gs).map fun p => .fz (plD p)) [.fz (.lst (ps.map plD)), .fz (.lst (exD ps.length gs)), .no, .no, .no, .no] := by
    unfold reL
    rw [List.map_map]
    refine lcL_getO _ (fun k => .tup [nD (gs k), plY ps k]) (fun k => .fz (plD (reP ps gs k))) _ (by simp; omega) fun k hk => ?_
    obtain ⟨g, bs, b1, b2, b3⟩ := h.at (List.mem_range.mp hk)
    have e1 : plY ps k = .tup [nD g, .str "draw", .lst (bs.map brD)] := by unfold plY; rw [b1]; rfl
    have e2 : plD (reP ps gs k) = .tup [nD (gs k), .str "draw", .lst (bs.map brD)] := by rw [re_eq b1]; rfl
    rw [e1, e2]
    generalize nD (gs k) = q at *
    generalize nD g = q2 at *
    generalize bs.map brD = bb at *
    generalize exD ps.length gs = ex at *
    generalize ps.map plD = gm at *
    simp -implicitDefEqProofs []
  have hz : ((List.range ps.length).map fun _ => C.fz (.bl true)).map fzD = (List.range ps.length).map fun _ => D.bl true := by rw [List.map_map]; rfl
  have hall := allD_mapE (fun _ : Nat => true) (List.range ps.length)
  have hat : (List.range ps.length).all (fun _ => true) = true := by simp
  rw [hat] at hall
  have hzip := zip_ex ps gs
  unfold w_gained runDef
  generalize ((List.range ps.length).map fun _ => C.fz (.bl true)) = tc at *
  generalize ((List.range ps.length).map fun _ => D.bl true) = td at *
  generalize ((List.range ps.length).map fun k => D.tup [nD (gs k), plY ps k]) = zd at *
  generalize ((reL ps gs).map fun p => C.fz (plD p)) = rc at *
  generalize exD ps.length gs = ex at *
  generalize ps.map plD = gm at *
  simp -implicitDefEqProofs [m_gained, l1, hz, hall, hzip, l2, truD]
end
end Lw

namespace Lw
open PySem PySem.Spec PyProof.Rows L2 Dn LA
/-! ### rolled: sizes and the call (V3) -/
theorem chS_mn' {n : Nat} {f : Nat → Rat} : ∀ {bs : List (Rat × Nat)}, (∀ b ∈ bs, b.2 < n) → sumF 0 (bs.map fun b => b.1 * f b.2) = sm (fun y => chS bs y * f y) n
  | [], _ => by rw [sm_zero fun y _ => by simp only [chS]; grind]; rfl
  | b :: bs, h => by
    have h1 := chS_mn' (f := f) (n := n) fun b m => h b (List.mem_cons_of_mem _ m)
    have h2 := h b List.mem_cons_self
    have e1 : sm (fun y => chS (b :: bs) y * f y) n = sm (fun y => if b.2 = y then b.1 * f y else 0) n + sm (fun y => chS bs y * f y) n := by
      rw [← sm_add]
      refine sm_congr fun y _ => ?_
      simp only [chS]
      split <;> grind
    rw [e1, sm_one h2 fun i _ hne => by rw [if_neg (fun z => hne z.symm)], if_pos rfl, ← h1]
    show sumF (0 + b.1 * f b.2) _ = _
    rw [sumF_shift]; grind
theorem enum_plY' (ps : List Pl) : enumD (ps.map plD) = (List.range ps.length).map fun y => .tup [.int (y : Nat), plY ps y] := by
  rw [map_plY]
  have := enumD_range (plY ps) (List.range ps.length) 0
  rw [this, List.length_range]
  refine List.map_congr_left fun k hk => ?_
  have hk := List.mem_range.mp hk
  congr 4
  rw [List.getD_eq_getElem?_getD, List.getElem?_range hk]; rfl
section
variable {ps : List Pl} {p : Nat → Rat}
theorem mn_bd (h : ChG 1 8 ps) (hp : ∀ k, k < ps.length → Inn 2 6 (p k)) {x : Nat} (hx : x < ps.length) : -6 ≤ mn ps.length (pP ps) p x ∧ mn ps.length (pP ps) p x ≤ 6 := by
  constructor
  · have := mn_le h.chain (g := fun _ => -6) (h := p) (fun y hy => (inn_le (hp y hy)).1) hx
    rwa [mn_const h.chain _ hx] at this
  · have := mn_le h.chain (g := p) (h := fun _ => 6) (fun y hy => (inn_le (hp y hy)).2) hx
    rwa [mn_const h.chain _ hx] at this
theorem rl_in (h : ChG 1 8 ps) (hp : ∀ k, k < ps.length → Inn 2 6 (p k)) {x S : Nat} (hx : x < ps.length) (hS : 0 < S) (hb : ∀ g bs, ps[x]? = some (.dr g bs) → ∀ b ∈ bs, Inn S 1 b.1) : Inn (S * 2) 20 (rlG ps p x) := by
  obtain ⟨g, bs, b1, b2, b3⟩ := h.at hx
  have eg : gP ps x = g := by unfold gP; rw [b1]; rfl
  have e : mn ps.length (pP ps) p x = sumF 0 (bs.map fun b => b.1 * p b.2) := by
    rw [chS_mn' (n := ps.length) fun b m => (b2.2.2.2 b m).2]
    exact sm_congr fun y _ => by rw [pP_eq b1]
  have h2 : 0 < S * 2 := Nat.mul_pos hS (by decide)
  have i1 := sumF_inn (M := S * 2) (B := 6) h2 (bs.map fun b => b.1 * p b.2) (fun q m => by
    obtain ⟨b, mb, rfl⟩ := List.mem_map.mp m
    have := (hb g bs b1 b mb).mul (hp b.2 (b2.2.2.2 b mb).2)
    rw [Nat.one_mul] at this
    exact this)
  rw [← e] at i1
  have w1 := whole_inn i1
  have w2 := (whole_inn (h.g_inn hx)).dvd (M := S * 2) ⟨S * 2, by omega⟩
  have w3 := (whole_inn (hp x hx)).dvd (M := S * 2) ⟨S, Nat.mul_comm _ _⟩
  have bg := inn_le (h.g_inn hx)
  have bp := inn_le (hp x hx)
  have bm := mn_bd h hp hx
  have n8 : ((8 : Nat) : Rat) = 8 := rfl
  have n6 : ((6 : Nat) : Rat) = 6 := rfl
  have n20 : ((20 : Nat) : Rat) = 20 := rfl
  rw [n8] at bg
  rw [n6] at bp
  refine inn_wholeE h2 ((w2.add w3).sub w1) ?_ ?_
  · rw [n20]; unfold rlG; grind
  · rw [n20]; unfold rlG; grind
theorem sp_rolled (h : ChG 1 8 ps) (hl : ps.length ≤ 12) (hp : ∀ k, k < ps.length → Inn 2 6 (p k)) (hs : ∀ k, k < ps.length → (rlG ps p k).num.natAbs < 1000 ∧ (rlG ps p k).den < 1000) :
    w_rolled [.fz (.lst (ps.map plD)), .fz (.lst (exD ps.length p))] = .ok (.ow ((reL ps (rlG ps p)).map fun p => .fz (plD p))) [] := by
  have hg := sp_gained (gs := rlG ps p) h hl hs
  have z1 : Sz (LL * 2) 100 := ⟨by decide, by decide⟩
  obtain ⟨ρ', e, c3, c4, c5, c6, c7, rfl⟩ := forL_sat (put := Tg.put (.tup [(.nm 3), (.tup [(.nm 4), (.nm 5), (.nm 6)])])) (x := b_rolled_1) (fun k ρ => ∃ c3 c4 c5 c6 c7, ρ = [.fz (.lst (ps.map plD)), .fz (.lst (exD ps.length p)), .ow ((List.range k).map fun x => nC (rlG ps p x)), c3, c4, c5, c6, c7, .no, .no]) ((List.range ps.length).map fun y => .tup [.int (y : Nat), plY ps y]) (fun k d ρ hd hI => by
    have hk : k < ps.length := by
      have := (List.getElem?_eq_some_iff.mp hd).1
      simpa using this
    rw [range_get _ hk] at hd
    cases hd
    obtain ⟨c3, c4, c5, c6, c7, rfl⟩ := hI
    obtain ⟨g, bs, b1, b2, b3⟩ := h.at hk
    have eg : gP ps k = g := by unfold gP; rw [b1]; rfl
    have e1 : plY ps k = .tup [nD g, .str "draw", .lst (bs.map brD)] := by unfold plY; rw [b1]; rfl
    have hpos : 0 < LL * 2 := by decide
    have l8 : ∀ x2 x3 x4 x5 x6 x7 : C, lcL [8, 9] (Tg.put (.tup [(.nm 8), (.nm 9)])) bYes e_rolled_0 (bs.map brD) [] [.fz (.lst (ps.map plD)), .fz (.lst (exD ps.length p)), x2, x3, x4, x5, x6, x7, .no, .no] = .ok (bs.map fun b => nC (b.1 * p b.2)) [.fz (.lst (ps.map plD)), .fz (.lst (exD ps.length p)), x2, x3, x4, x5, x6, x7, .no, .no] := fun x2 x3 x4 x5 x6 x7 => by
      refine lcL_getO _ brD (fun b => nC (b.1 * p b.2)) bs (by have := b2.2.2.1; omega) fun b mb => ?_
      obtain ⟨q1, q2⟩ := b2.2.2.2 b mb
      have ha : atI (exD ps.length p) (b.2 : Int) = some (nD (p b.2)) := by rw [atI_natCast]; exact range_get _ q2
      have hi := q1.mul (hp b.2 q2)
      rw [Nat.one_mul] at hi
      have t := sp_times (q1.sz ⟨by decide, by decide⟩) ((hp b.2 q2).sz ⟨by decide, by decide⟩) (hi.sz (z1.le (by decide))).2
      unfold nC at t ⊢
      unfold brD
      generalize nD (b.1 * p b.2) = q3 at *
      generalize nD (p b.2) = q4 at *
      generalize nD b.1 = q5 at *
      generalize exD ps.length p = ex at *
      generalize ps.map plD = gm at *
      generalize b.2 = t2 at *
      simp -implicitDefEqProofs [ha, t]
    have em : mn ps.length (pP ps) p k = sumF 0 (bs.map fun b => b.1 * p b.2) := by
      rw [chS_mn' (n := ps.length) fun b m => (b2.2.2.2 b m).2]
      exact sm_congr fun y _ => by rw [pP_eq b1]
    have hin : ∀ q ∈ bs.map (fun b => b.1 * p b.2), Inn (LL * 2) 6 q := fun q m => by
      obtain ⟨b, mb, rfl⟩ := List.mem_map.mp m
      have := (b2.2.2.2 b mb).1.mul (hp b.2 (b2.2.2.2 b mb).2)
      rw [Nat.one_mul] at this
      exact this
    have htot := sp_total hin hpos (z1.le (by rw [List.length_map]; have := b2.2.2.1; omega))
    have im := sumF_inn hpos _ hin
    rw [← em] at htot im
    rw [List.length_map] at im
    have hbz : (bs.map fun b => nC (b.1 * p b.2)).map fzD = (bs.map fun b => b.1 * p b.2).map nD := by rw [List.map_map, List.map_map]; rfl
    have ap : atI (exD ps.length p) (k : Int) = some (nD (p k)) := by rw [atI_natCast]; exact range_get _ hk
    have ig : Inn (LL * 2) 8 g := by rw [← eg]; exact (h.g_inn hk).dvd ⟨LL * 2, by omega⟩ hpos
    have ip : Inn (LL * 2) 6 (p k) := (hp k hk).dvd ⟨LL, Nat.mul_comm _ _⟩ hpos
    have im2 : Inn (LL * 2) 36 (mn ps.length (pP ps) p k) := im.le (by have := b2.2.2.1; omega)
    have t1 := sp_plus (ig.sz (z1.le (by decide))) (ip.sz (z1.le (by decide))) ((ig.add ip).sz (z1.le (by decide))).2
    have t2 := sp_minus ((ig.add ip).sz (z1.le (by decide))) (im2.sz (z1.le (by decide))) (((ig.add ip).sub im2).sz (z1.le (by decide))).2
    have er : g + p k - mn ps.length (pP ps) p k = rlG ps p k := by unfold rlG; rw [eg]
    rw [er] at t2
    have eR : (List.range (k + 1)).map (fun x => nC (rlG ps p x)) = (List.range k).map (fun x => nC (rlG ps p x)) ++ [nC (rlG ps p k)] := by rw [List.range_succ, List.map_append]; rfl
    have hsz : ((List.range k).map fun x => nC (rlG ps p x)).length ≤ 1000000 := by simp; omega
    have hst : fStep (Tg.put (.tup [(.nm 3), (.tup [(.nm 4), (.nm 5), (.nm 6)])])) b_rolled_1 (.tup [.int (k : Nat), plY ps k]) [.fz (.lst (ps.map plD)), .fz (.lst (exD ps.length p)), .ow ((List.range k).map fun x => nC (rlG ps p x)), c3, c4, c5, c6, c7, .no, .no] =
        .nx [.fz (.lst (ps.map plD)), .fz (.lst (exD ps.length p)), .ow ((List.range k).map (fun x => nC (rlG ps p x)) ++ [nC (rlG ps p k)]), .fz (.int (k : Nat)), nC g, .fz (.str "draw"), .fz (.lst (bs.map brD)), nC (mn ps.length (pP ps) p k), .no, .no] := by
      rw [e1]
      clear eR er hin im im2 em e1 hg
      generalize ((List.range k).map fun x => nC (rlG ps p x)) = rc at *
      generalize (bs.map fun b => nC (b.1 * p b.2)) = bc at *
      generalize ((bs.map fun b => b.1 * p b.2).map nD) = bd at *
      unfold nC at *
      generalize nD (rlG ps p k) = q1 at *
      generalize nD (mn ps.length (pP ps) p k) = q2 at *
      generalize nD (g + p k) = q3 at *
      generalize nD (p k) = q4 at *
      generalize nD g = q5 at *
      generalize bs.map brD = bb at *
      generalize exD ps.length p = ex at *
      generalize ps.map plD = gm at *
      simp -implicitDefEqProofs [l8, hbz, htot, ap, t1, t2, hsz]
    rw [hst, ← eR]
    exact ⟨_, _, _, _, _, rfl⟩) (ρ := [.fz (.lst (ps.map plD)), .fz (.lst (exD ps.length p)), .ow ((List.range 0).map fun x => nC (rlG ps p x)), .no, .no, .no, .no, .no, .no, .no]) ⟨_, _, _, _, _, rfl⟩
  rw [List.length_map, List.length_range, ← enum_plY'] at e
  have e0 : ((List.range 0).map fun x => nC (rlG ps p x)) = [] := rfl
  rw [e0] at e
  have hz : ((List.range ps.length).map fun x => nC (rlG ps p x)).map fzD = exD ps.length (rlG ps p) := by unfold exD; rw [List.map_map]; rfl
  unfold w_rolled runDef
  generalize ((List.range ps.length).map fun x => nC (rlG ps p x)) = rc at *
  generalize exD ps.length (rlG ps p) = rd at *
  generalize ((reL ps (rlG ps p)).map fun p => C.fz (plD p)) = oc at *
  generalize exD ps.length p = ex at *
  generalize ps.map plD = gm at *
  simp -implicitDefEqProofs [m_rolled, e, hz, hg]
end
end Lw

namespace Lw
open PySem PySem.Spec PyProof.Rows L2 Dn LA
/-! ### law k16 (V4) -/
theorem nD_i (a : Int) : nD (a : Rat) = .tup [.int a, .int 1] := by
  show D.tup [.int ((a : Rat).num), .int (((a : Rat).den : Nat) : Int)] = _
  rw [Rat.num_intCast, Rat.den_intCast]; rfl
theorem inn_int {B : Nat} {a : Int} (h : a.natAbs ≤ B) : Inn 1 B (a : Rat) := by
  have := Inn.of (M := 1) (k := a) (B := B) (by decide) (by omega)
  rw [Rat.divInt_eq_div] at this
  have e : ((1 : Nat) : Int) = 1 := rfl
  rw [e] at this
  have e1 : (a : Rat) / ((1 : Int) : Rat) = (a : Rat) := by rw [Rat.div_def]; show (a : Rat) * (1 : Rat)⁻¹ = _; rw [show (1 : Rat)⁻¹ = 1 by decide +kernel]; grind
  rwa [e1] at this
/-- the numerators as gains -/
def nmP : Pl → Pl
  | .dr g bs => .dr ((g.num : Int) : Rat) bs
  | p => p
section
variable {qs : List Pl}
theorem nm_ch (h : ChG 10 8 qs) (hw : ∀ p ∈ qs, walkP p) : ChG 1 8 (qs.map nmP) ∧ ∀ (x : Nat) (g : Rat) (bs : List (Rat × Nat)), (qs.map nmP)[x]? = some (Pl.dr g bs) → ∃ S : Nat, 0 < S ∧ S ≤ 24 ∧ ∀ b ∈ bs, Inn S 1 b.1 := by
  refine ⟨⟨fun p m => ?_, fun p m => ?_, fun p m => ?_⟩, fun x g bs e => ?_⟩
  · obtain ⟨p, mp, rfl⟩ := List.mem_map.mp m
    obtain ⟨g, bs, rfl⟩ := h.dr p mp
    rw [List.length_map]
    have := h.pok _ mp
    exact ⟨inn_int (hw _ mp).1, this.2⟩
  · obtain ⟨p, mp, rfl⟩ := List.mem_map.mp m
    obtain ⟨g, bs, rfl⟩ := h.dr p mp
    have := h.fair (.dr g bs) mp
    exact this
  · obtain ⟨p, mp, rfl⟩ := List.mem_map.mp m
    obtain ⟨g, bs, rfl⟩ := h.dr p mp
    exact ⟨_, _, rfl⟩
  · rw [List.getElem?_map] at e
    cases hq : qs[x]? with
    | none => rw [hq] at e; cases e
    | some p =>
      rw [hq] at e
      have mp := List.mem_of_getElem? hq
      obtain ⟨g', bs', rfl⟩ := h.dr p mp
      cases e
      exact (hw _ mp).2
end
theorem lay_ex (f : Nat → Rat) (n : Nat) : Lay 2 (.lst (exD n f)) := .lst fun d m => by
  obtain ⟨y, _, rfl⟩ := List.mem_map.mp m
  exact Lay.nD _
theorem fzR (f : Nat → Rat) (n : Nat) : ((List.range n).map fun y => nC (f y)).map fzD = exD n f := by unfold exD; rw [List.map_map]; rfl
theorem at_ex (f : Nat → Rat) {n k : Nat} (hk : k < n) : atI (exD n f) (k : Int) = some (nD (f k)) := by rw [atI_natCast]; exact range_get _ hk
theorem at_nC' (f : Nat → Rat) {n k : Nat} (hk : k < n) : atI ((List.range n).map fun y => nC (f y)) (k : Int) = some (nC (f k)) := by rw [atI_natCast]; exact range_get _ hk
abbrev B7 : Nat := 2 ^ 30 * QL ^ 8
/-- the sizes of gains and leads (gains in whole numbers) -/
theorem lK7 {ps : List Pl} (h : ChG 1 8 ps) (hl : ps.length ≤ 7) (h0 : 0 < ps.length) : ∃ K, 0 < K ∧ K ≤ 2 ^ 442 * QL ^ 21 ∧ ∀ x, x < ps.length → Inn K B7 (ldQ ps x) ∧ Inn K 8 (gnQ ps x) := by
  obtain ⟨K, k1, k2, k3⟩ := h.lK (by omega) h0 (by decide) (by decide)
  refine ⟨K, k1, Nat.le_trans k2 (Nat.mul_le_mul_left _ (Nat.pow_le_pow_right ql_pos (by omega))), fun x hx => ⟨(k3 x hx).1.le (Nat.mul_le_mul_left _ (Nat.pow_le_pow_right ql_pos (by omega))), (k3 x hx).2⟩⟩
theorem k7_sz {K : Nat} (hK : K ≤ 2 ^ 442 * QL ^ 21) : Sz (6 * K) (100 * B7) :=
  ⟨Nat.lt_of_le_of_lt (Nat.mul_le_mul_left _ hK) (by decide), Nat.lt_of_le_of_lt (Nat.mul_le_mul_left _ (Nat.mul_le_mul_left _ hK)) (by decide)⟩
theorem lead_den {ps : List Pl} {Mg Bg : Nat} (h : ChG Mg Bg ps) (hl : ps.length ≤ 7) (h0 : 0 < ps.length) (hM : Mg ≤ 2 ^ 34) (hB : Bg ≤ 2 ^ 20) : ∃ K, 0 < K ∧ K ≤ 2 ^ 442 * QL ^ 21 ∧ ∀ x, x < ps.length → Inn K Bg (gnQ ps x) := by
  obtain ⟨K, k1, k2, k3⟩ := h.lK (by omega) h0 hM hB
  exact ⟨K, k1, Nat.le_trans k2 (Nat.mul_le_mul_left _ (Nat.pow_le_pow_right ql_pos (by omega))), fun x hx => (k3 x hx).2⟩
section
variable {ps : List Pl}
/-- all calls of the law's last part -/
theorem calls (h : ChG 1 8 ps) (hl : ps.length ≤ 7) (h0 : 0 < ps.length) {gs : Nat → Rat} {M B : Nat} (hg : ∀ k, k < ps.length → Inn M B (gs k)) (hM : M ≤ 2 ^ 34) (hB : B ≤ 2 ^ 20) :
    w_long_gains [.fz (.lst ((reL ps gs).map plD))] = .ok (.ow ((List.range ps.length).map fun y => nC (gnQ (reL ps gs) y))) [] ∧ w_leads [.fz (.lst ((reL ps gs).map plD))] = .ok (.ow ((List.range ps.length).map fun y => nC (ldQ (reL ps gs) y))) [] := by
  have hQ := re_ch (gs := gs) h hg
  have hlen := re_len (ps := ps) (gs := gs)
  have a := sp_long_gains hQ (by omega) (by omega) hM hB
  have b := sp_leads hQ (by omega) (by omega) hM hB
  rw [hlen] at a b
  exact ⟨a, b⟩
end
end Lw

namespace Lw
open PySem PySem.Spec PyProof.Rows L2 Dn LA
/-! ### law k16, the law (V5) -/
theorem law_true : ∀ ns : List Int, ns.length ≤ 63 → ∃ ρ, w_law0 [.fz (.fr (ns.map D.int))] = .ok (.fz (.bl true)) ρ := by
  intro ns hns
  obtain ⟨ds, hdl, hdo, hdr⟩ := sp__law_draws ns 120 (by omega) hns
  obtain ⟨qs, h0q, hlq, hq, hw, hwk⟩ := sp__law_walk (ds := ds) (most := 7) (by omega) (by omega) (by omega) hdo
  have hdr' : w__law_draws [.fz (.fr (ns.map D.int)), .fz (.int 120)] = .ok (.ow (ds.map fun i => .fz (.int i))) [] := hdr
  have hw' : w__law_walk [.fz (.lst (ds.map .int)), .fz (.int 7)] = .ok (.ow (qs.map fun p => .fz (plD p))) [] := hw
  have hdsl : (ds.map fun i => C.fz (.int i)).map fzD = ds.map D.int := by rw [List.map_map]; rfl
  have hqf : (qs.map fun p => C.fz (plD p)).map fzD = qs.map plD := by rw [List.map_map]; rfl
  obtain ⟨h, hS⟩ := nm_ch hq hwk
  have l0 : ∀ x0 x1 : C, lcL [10, 11, 12] (Tg.put (.tup [(.nm 10), (.nm 11), (.nm 12)])) bYes e_law_0 (qs.map plD) [] [x0, x1, .no, .no, .no, .no, .no, .no, .no, .no, .no, .no, .no, .no, .no] = .ok ((qs.map nmP).map fun p => .fz (plD p)) [x0, x1, .no, .no, .no, .no, .no, .no, .no, .no, .no, .no, .no, .no, .no] := fun x0 x1 => by
    rw [List.map_map]
    refine lcL_getO _ plD (fun p => .fz (plD (nmP p))) qs (by omega) fun p mp => ?_
    obtain ⟨g, bs, rfl⟩ := hq.dr p mp
    have e1 : plD (nmP (.dr g bs)) = .tup [.tup [.int g.num, .int 1], .str "draw", .lst (bs.map brD)] := by
      show D.tup [nD ((g.num : Int) : Rat), .str "draw", .lst (bs.map brD)] = _
      rw [nD_i]
    have e2 : plD (.dr g bs) = .tup [.tup [.int g.num, .int (g.den : Nat)], .str "draw", .lst (bs.map brD)] := rfl
    rw [e1, e2]
    generalize bs.map brD = bb
    simp -implicitDefEqProofs [atI_ofNat]
  have hl7 : (qs.map nmP).length ≤ 7 := by rw [List.length_map]; exact hlq
  have h0 : 0 < (qs.map nmP).length := by rw [List.length_map]; exact h0q
  generalize qs.map nmP = ps at *
  have hpf : (ps.map fun p => C.fz (plD p)).map fzD = ps.map plD := by rw [List.map_map]; rfl
  have hl12 : ps.length ≤ 12 := by omega
  -- the numbers p
  have aD : ∀ j : Nat, j < 120 → atI (ds.map D.int) (j : Int) = some (.int (ds.getD j 0)) := fun j hj => by
    rw [atI_natCast, List.getElem?_map, List.getD_eq_getElem?_getD, List.getElem?_eq_getElem (by omega)]; rfl
  obtain ⟨s, hs⟩ : ∃ s : Nat, (s : Int) = 1 + ds.getD 107 0 % 2 := ⟨(1 + ds.getD 107 0 % 2).toNat, by omega⟩
  have hs12 : s = 1 ∨ s = 2 := by omega
  let pf : Nat → Rat := fun k => Rat.divInt (ds.getD (100 + k) 0 % 13 - 6) s
  have ip : ∀ k, k < ps.length → Inn 2 6 (pf k) := fun k _ => by
    have i1 : Inn s 6 (pf k) := Inn.of (by omega) (by omega)
    exact i1.dvd (by rcases hs12 with rfl | rfl <;> decide) (by decide)
  have a107 := aD 107 (by decide)
  have hnI := intsD0 ps.length
  have hr1 := r62_n (n := ps.length) (by omega)
  have l1 : ∀ x0 x2 : C, lcL [13] (Tg.put (.nm 13)) bYes e_law_1 (intsD 0 ps.length) [] [x0, .fz (.lst (ds.map D.int)), x2, .no, .no, .no, .no, .no, .no, .no, .no, .no, .no, .no, .no] = .ok ((List.range ps.length).map fun k => nC (pf k)) [x0, .fz (.lst (ds.map D.int)), x2, .no, .no, .no, .no, .no, .no, .no, .no, .no, .no, .no, .no] := fun x0 x2 => by
    rw [hnI]
    refine lcL_getO _ nI (fun k => nC (pf k)) (List.range ps.length) (by simp; omega) fun k hk => ?_
    have hk := List.mem_range.mp hk
    have a := aD (100 + k) (by omega)
    have ec : ((100 + k : Nat) : Int) = 100 + (k : Int) := by omega
    rw [ec] at a
    obtain ⟨s1, s2, s3⟩ := small_num (n := ds.getD (100 + k) 0 % 13 - 6) (d := (s : Int)) (by omega) (Int.lt_of_le_of_lt (b := 2) (by omega) (by decide))
    have t := sp__law_number s1 s2 s3
    have a107 : atI (ds.map D.int) 107 = some (.int (ds.getD 107 0)) := a107
    have t : w__law_number [.fz (.int (ds.getD (100 + k) 0 % 13 - 6)), .fz (.int (s : Int))] = .ok (nC (pf k)) [] := t
    unfold nC at *
    generalize nD (pf k) = q at *
    generalize ds.map D.int = dsd at *
    generalize ds.getD (100 + k) 0 = y1 at *
    generalize ds.getD 107 0 = y2 at *
    unfold nI
    simp -implicitDefEqProofs [a, a107, ← hs, t]
  have zp := fzR pf ps.length
  -- the chain
  have hlg := sp_long_gains h hl12 h0 (by decide) (by decide)
  have hld := sp_leads h hl12 h0 (by decide) (by decide)
  -- the chain with the gains p
  have l2 : ∀ x0 x1 x4 x5 : C, lcL [13] (Tg.put (.nm 13)) bYes e_law_2 (intsD 0 ps.length) [] [x0, x1, .fz (.lst (ps.map plD)), .ow ((List.range ps.length).map fun k => nC (pf k)), x4, x5, .no, .no, .no, .no, .no, .no, .no, .no, .no] = .ok ((reL ps pf).map fun p => .fz (plD p)) [x0, x1, .fz (.lst (ps.map plD)), .ow ((List.range ps.length).map fun k => nC (pf k)), x4, x5, .no, .no, .no, .no, .no, .no, .no, .no, .no] := fun x0 x1 x4 x5 => by
    unfold reL
    rw [hnI, List.map_map]
    refine lcL_getO _ nI (fun k => .fz (plD (reP ps pf k))) (List.range ps.length) (by simp; omega) fun k hk => ?_
    have hk := List.mem_range.mp hk
    obtain ⟨g, bs, b1, b2, b3⟩ := h.at hk
    have hat : atI (ps.map plD) (k : Int) = some (plD (.dr g bs)) := by rw [atI_natCast, List.getElem?_map, b1]; rfl
    simp only [plD] at hat
    have a3 := at_nC' pf hk
    have e2 : plD (reP ps pf k) = .tup [nD (pf k), .str "draw", .lst (bs.map brD)] := by rw [re_eq b1]; rfl
    rw [e2]
    clear b1
    generalize ((List.range ps.length).map fun k => nC (pf k)) = pc at *
    generalize bs.map brD = bb at *
    generalize ps.map plD = gm at *
    unfold nC at *
    generalize nD (pf k) = q at *
    generalize nD g = qg at *
    unfold nI
    simp -implicitDefEqProofs [hat, a3]
  have r2 : ((reL ps pf).map fun p => C.fz (plD p)).map fzD = (reL ps pf).map plD := by rw [List.map_map]; rfl
  obtain ⟨c2, _⟩ := calls h hl7 h0 ip (by decide) (by decide)
  have hP := re_ch (gs := pf) h ip
  -- rolled
  have irS : ∀ k, k < ps.length → ∃ S, 0 < S ∧ S ≤ 24 ∧ Inn (S * 2) 20 (rlG ps pf k) := fun k hk => by
    obtain ⟨g, bs, b1, b2, b3⟩ := h.at hk
    obtain ⟨S, S1, S2, S3⟩ := hS k g bs b1
    refine ⟨S, S1, S2, rl_in h ip hk S1 fun g' bs' e => ?_⟩
    rw [b1] at e; cases e
    exact S3
  have ir : ∀ k, k < ps.length → Inn (LL * 2) 20 (rlG ps pf k) := fun k hk => by
    obtain ⟨S, S1, S2, i⟩ := irS k hk
    have hd := dvd_LL (s := (S : Int)) (by omega) (by omega)
    rw [Int.toNat_natCast] at hd
    exact i.dvd (Nat.mul_dvd_mul_right hd 2) (by decide)
  have hsh : ∀ k, k < ps.length → (rlG ps pf k).num.natAbs < 1000 ∧ (rlG ps pf k).den < 1000 := fun k hk => by
    obtain ⟨S, S1, S2, i⟩ := irS k hk
    have a := i.num
    have b := i.den
    constructor <;> omega
  have hro := sp_rolled h hl12 ip hsh
  have r3 : ((reL ps (rlG ps pf)).map fun p => C.fz (plD p)).map fzD = (reL ps (rlG ps pf)).map plD := by rw [List.map_map]; rfl
  obtain ⟨c3, c3'⟩ := calls h hl7 h0 ir (by decide) (by decide)
  have hQ := re_ch (gs := rlG ps pf) h ir
  obtain ⟨eg, el⟩ := roll_eq h hP hQ hl12 h0 (by decide) (by decide) (by decide) (by decide) (by decide) (by decide)
  have eg' : ((List.range ps.length).map fun y => nC (gnQ (reL ps (rlG ps pf)) y)) = (List.range ps.length).map fun y => nC (gnQ ps y) := range_congr fun x hx => by rw [eg x hx]
  rw [eg'] at c3
  have zg := fzR (gnQ ps) ps.length
  have ng := neD_self (lay_ex (gnQ ps) ps.length)
  have qg := eqD_self (lay_ex (gnQ ps) ps.length)
  -- what the law says of the leads
  obtain ⟨K, k1, k2, k3⟩ := lK7 h hl7 h0
  have z := k7_sz k2
  have hK6 : 0 < 6 * K := by omega
  obtain ⟨K2, j1, j2, j3⟩ := lead_den hP (by rw [re_len]; exact hl7) (by rw [re_len]; exact h0) (by decide) (by decide)
  rw [re_len] at j3
  have zj : Sz K2 6 := ⟨Nat.lt_of_le_of_lt j2 (by decide), Nat.lt_of_le_of_lt (Nat.mul_le_mul_left _ j2) (by decide)⟩
  obtain ⟨K3, m1, m2, m3⟩ := hQ.lK (by rw [re_len]; exact hl12) (by rw [re_len]; exact h0) (by decide) (by decide)
  rw [re_len] at m3 m2
  have dl : ∀ x, x < ps.length → (ldQ (reL ps (rlG ps pf)) x).den < 2 ^ 2600 := fun x hx => by
    refine Nat.lt_of_le_of_lt (m3 x hx).1.den (Nat.lt_of_le_of_lt m2 (Nat.lt_of_le_of_lt (Nat.mul_le_mul_left _ (Nat.pow_le_pow_right ql_pos (show 3 * ps.length ≤ 21 by omega))) (by decide)))
  have l3 : ∀ x0 x1 x2 x4 x7 : C, lcL [13] (Tg.put (.nm 13)) bYes e_law_3 (intsD 0 ps.length) [] [x0, x1, x2, .fz (.lst (exD ps.length pf)), x4, .ow ((List.range ps.length).map fun y => nC (ldQ ps y)), .ow ((List.range ps.length).map fun y => nC (gnQ (reL ps pf) y)), x7, .no, .no, .no, .no, .no, .no, .no] =
      .ok ((List.range ps.length).map fun y => nC (ldQ (reL ps (rlG ps pf)) y)) [x0, x1, x2, .fz (.lst (exD ps.length pf)), x4, .ow ((List.range ps.length).map fun y => nC (ldQ ps y)), .ow ((List.range ps.length).map fun y => nC (gnQ (reL ps pf) y)), x7, .no, .no, .no, .no, .no, .no, .no] := fun x0 x1 x2 x4 x7 => by
    rw [hnI]
    refine lcL_getO _ nI (fun y => nC (ldQ (reL ps (rlG ps pf)) y)) (List.range ps.length) (by simp; omega) fun k hk => ?_
    have hk := List.mem_range.mp hk
    have a3 := at_ex pf hk
    have a5 := at_nC' (ldQ ps) hk
    have a6 := at_nC' (gnQ (reL ps pf)) hk
    have i1 := (k3 k hk).1.dvd (M' := 6 * K) ⟨6, Nat.mul_comm _ _⟩ hK6
    have i2 := (ip k hk).dvd (M' := 6 * K) ⟨3 * K, by omega⟩ hK6
    have okh := i1.sz (z.le (by omega))
    have okp := i2.sz (z.le (by decide))
    have oks := (i1.add i2).sz (z.le (show B7 + 6 ≤ 100 * B7 by decide))
    have t1 := sp__law_plus okh okp oks.2
    have t2 := sp__law_minusT oks ((j3 k hk).sz zj) (by rw [← el k hk]; exact dl k hk)
    rw [← el k hk] at t2
    clear hQ hP
    generalize ((List.range ps.length).map fun y => nC (ldQ ps y)) = lc at *
    generalize ((List.range ps.length).map fun y => nC (gnQ (reL ps pf) y)) = mc at *
    generalize exD ps.length pf = pd at *
    unfold nC at *
    generalize nD (ldQ (reL ps (rlG ps pf)) k) = q1 at *
    generalize nD (ldQ ps k + pf k) = q2 at *
    generalize nD (gnQ (reL ps pf) k) = q3 at *
    generalize nD (ldQ ps k) = q4 at *
    generalize nD (pf k) = q5 at *
    unfold nI
    simp -implicitDefEqProofs [a3, a5, a6, t1, t2]
  have zl3 := fzR (ldQ (reL ps (rlG ps pf))) ps.length
  have nl3 := neD_self (lay_ex (ldQ (reL ps (rlG ps pf))) ps.length)
  -- the number that is added, and by which is multiplied
  obtain ⟨s3, hs3⟩ : ∃ s : Nat, (s : Int) = 1 + ds.getD 109 0 % 3 := ⟨(1 + ds.getD 109 0 % 3).toNat, by omega⟩
  have hs123 : s3 = 1 ∨ s3 = 2 ∨ s3 = 3 := by omega
  have a108 := aD 108 (by decide)
  have a109 := aD 109 (by decide)
  obtain ⟨n1, n2, n3⟩ := small_num (n := ds.getD 108 0 % 9 - 4) (d := (s3 : Int)) (by omega) (Int.lt_of_le_of_lt (b := 3) (by omega) (by decide))
  have t8 := sp__law_number n1 n2 n3
  have ic : Inn 6 4 (Rat.divInt (ds.getD 108 0 % 9 - 4) s3) := by
    have i1 : Inn s3 4 (Rat.divInt (ds.getD 108 0 % 9 - 4) s3) := Inn.of (by omega) (by omega)
    exact i1.dvd (by rcases hs123 with rfl | rfl | rfl <;> decide) (by decide)
  generalize Rat.divInt (ds.getD 108 0 % 9 - 4) s3 = c at t8 ic
  have okc : Okq c := ic.sz ⟨by decide, by decide⟩
  have ig : ∀ k, k < ps.length → Inn 6 8 (gP ps k) := fun k hk => (h.g_inn hk).dvd ⟨6, rfl⟩ (by decide)
  have ia : ∀ k, k < ps.length → Inn 6 12 (gP ps k + c) := fun k hk => (ig k hk).add ic
  have im : ∀ k, k < ps.length → Inn 6 32 (gP ps k * c) := fun k hk => by
    have := (h.g_inn hk).mul ic
    exact this
  have szc : Sz 6 100 := ⟨by decide, by decide⟩
  have l4 : ∀ x0 x1 x3 x4 x5 x6 x7 x9 : C, lcL [10, 11, 12] (Tg.put (.tup [(.nm 10), (.nm 11), (.nm 12)])) bYes e_law_4 (ps.map plD) [] [x0, x1, .fz (.lst (ps.map plD)), x3, x4, x5, x6, x7, nC c, x9, .no, .no, .no, .no, .no] = .ok ((reL ps fun x => gP ps x + c).map fun p => .fz (plD p)) [x0, x1, .fz (.lst (ps.map plD)), x3, x4, x5, x6, x7, nC c, x9, .no, .no, .no, .no, .no] := fun x0 x1 x3 x4 x5 x6 x7 x9 => by
    unfold reL
    rw [List.map_map]
    have key := lcL_getO (vs := [10, 11, 12]) (put := Tg.put (.tup [(.nm 10), (.nm 11), (.nm 12)])) (t := bYes) (el := e_law_4) [x0, x1, .fz (.lst (ps.map plD)), x3, x4, x5, x6, x7, nC c, x9, .no, .no, .no, .no, .no] (plY ps) (fun k => .fz (plD (reP ps (fun x => gP ps x + c) k))) (List.range ps.length) (by simp; omega) fun k hk => by
      have hk := List.mem_range.mp hk
      obtain ⟨g, bs, b1, b2, b3⟩ := h.at hk
      have eg : gP ps k = g := by unfold gP; rw [b1]; rfl
      have e1 : plY ps k = .tup [nD g, .str "draw", .lst (bs.map brD)] := by unfold plY; rw [b1]; rfl
      have e2 : plD (reP ps (fun x => gP ps x + c) k) = .tup [nD (g + c), .str "draw", .lst (bs.map brD)] := by rw [re_eq b1, ← eg]; rfl
      have i1 := ig k hk
      have i2 := ia k hk
      rw [eg] at i1 i2
      have t := sp__law_plus (i1.sz (szc.le (by decide))) okc (i2.sz (szc.le (by decide))).2
      rw [e1, e2]
      generalize ps.map plD = gm
      generalize bs.map brD = bb
      unfold nC at *
      generalize nD (g + c) = q1 at *
      generalize nD g = q2 at *
      generalize nD c = q3 at *
      simp -implicitDefEqProofs [t]
    rw [← map_plY] at key
    exact key
  have l6 : ∀ x0 x1 x3 x4 x5 x6 x7 x9 : C, lcL [10, 11, 12] (Tg.put (.tup [(.nm 10), (.nm 11), (.nm 12)])) bYes e_law_6 (ps.map plD) [] [x0, x1, .fz (.lst (ps.map plD)), x3, x4, x5, x6, x7, nC c, x9, .no, .no, .no, .no, .no] = .ok ((reL ps fun x => gP ps x * c).map fun p => .fz (plD p)) [x0, x1, .fz (.lst (ps.map plD)), x3, x4, x5, x6, x7, nC c, x9, .no, .no, .no, .no, .no] := fun x0 x1 x3 x4 x5 x6 x7 x9 => by
    unfold reL
    rw [List.map_map]
    have key := lcL_getO (vs := [10, 11, 12]) (put := Tg.put (.tup [(.nm 10), (.nm 11), (.nm 12)])) (t := bYes) (el := e_law_6) [x0, x1, .fz (.lst (ps.map plD)), x3, x4, x5, x6, x7, nC c, x9, .no, .no, .no, .no, .no] (plY ps) (fun k => .fz (plD (reP ps (fun x => gP ps x * c) k))) (List.range ps.length) (by simp; omega) fun k hk => by
      have hk := List.mem_range.mp hk
      obtain ⟨g, bs, b1, b2, b3⟩ := h.at hk
      have eg : gP ps k = g := by unfold gP; rw [b1]; rfl
      have e1 : plY ps k = .tup [nD g, .str "draw", .lst (bs.map brD)] := by unfold plY; rw [b1]; rfl
      have e2 : plD (reP ps (fun x => gP ps x * c) k) = .tup [nD (g * c), .str "draw", .lst (bs.map brD)] := by rw [re_eq b1, ← eg]; rfl
      have i1 := ig k hk
      have i2 := im k hk
      rw [eg] at i1 i2
      have t := sp__law_times (i1.sz (szc.le (by decide))) okc (i2.sz (szc.le (by decide))).2
      rw [e1, e2]
      generalize ps.map plD = gm
      generalize bs.map brD = bb
      unfold nC at *
      generalize nD (g * c) = q1 at *
      generalize nD g = q2 at *
      generalize nD c = q3 at *
      simp -implicitDefEqProofs [t]
    rw [← map_plY] at key
    exact key
  have r4 : ((reL ps fun x => gP ps x + c).map fun p => C.fz (plD p)).map fzD = (reL ps fun x => gP ps x + c).map plD := by rw [List.map_map]; rfl
  have r6 : ((reL ps fun x => gP ps x * c).map fun p => C.fz (plD p)).map fzD = (reL ps fun x => gP ps x * c).map plD := by rw [List.map_map]; rfl
  obtain ⟨c4, c4'⟩ := calls h hl7 h0 ia (by decide) (by decide)
  obtain ⟨c6, c6'⟩ := calls h hl7 h0 im (by decide) (by decide)
  obtain ⟨ea, eal⟩ := add_eq h (re_ch (gs := fun x => gP ps x + c) h ia) hl12 h0 (by decide) (by decide) (by decide) (by decide)
  obtain ⟨em, eml⟩ := mul_eq h (re_ch (gs := fun x => gP ps x * c) h im) hl12 h0 (by decide) (by decide) (by decide) (by decide)
  have ea' : ((List.range ps.length).map fun y => nC (gnQ (reL ps fun x => gP ps x + c) y)) = (List.range ps.length).map fun y => nC (gnQ ps y + c) := range_congr fun x hx => by rw [ea x hx]
  have eal' : ((List.range ps.length).map fun y => nC (ldQ (reL ps fun x => gP ps x + c) y)) = (List.range ps.length).map fun y => nC (ldQ ps y) := range_congr fun x hx => by rw [eal x hx]
  have em' : ((List.range ps.length).map fun y => nC (gnQ (reL ps fun x => gP ps x * c) y)) = (List.range ps.length).map fun y => nC (gnQ ps y * c) := range_congr fun x hx => by rw [em x hx, Rat.mul_comm]
  have eml' : ((List.range ps.length).map fun y => nC (ldQ (reL ps fun x => gP ps x * c) y)) = (List.range ps.length).map fun y => nC (ldQ ps y * c) := range_congr fun x hx => by rw [eml x hx, Rat.mul_comm]
  rw [ea'] at c4
  rw [eal'] at c4'
  rw [em'] at c6
  rw [eml'] at c6'
  have i6 : ∀ k, k < ps.length → Inn (6 * K) 8 (gnQ ps k) ∧ Inn (6 * K) B7 (ldQ ps k) := fun k hk => ⟨(k3 k hk).2.dvd ⟨6, Nat.mul_comm _ _⟩ hK6, (k3 k hk).1.dvd ⟨6, Nat.mul_comm _ _⟩ hK6⟩
  have ic6 : Inn (6 * K) 4 c := ic.dvd ⟨K, rfl⟩ hK6
  have l5 : ∀ x0 x1 x2 x3 x4 x5 x6 x7 x9 : C, lcL [14] (Tg.put (.nm 14)) bYes e_law_5 (exD ps.length (gnQ ps)) [] [x0, x1, x2, x3, x4, x5, x6, x7, nC c, x9, .no, .no, .no, .no, .no] = .ok ((List.range ps.length).map fun y => nC (gnQ ps y + c)) [x0, x1, x2, x3, x4, x5, x6, x7, nC c, x9, .no, .no, .no, .no, .no] := fun x0 x1 x2 x3 x4 x5 x6 x7 x9 => by
    refine lcL_getO _ (fun k => nD (gnQ ps k)) (fun y => nC (gnQ ps y + c)) (List.range ps.length) (by simp; omega) fun k hk => ?_
    have hk := List.mem_range.mp hk
    have t := sp__law_plus ((i6 k hk).1.sz (z.le (by decide))) okc (((i6 k hk).1.add ic6).sz (z.le (by decide))).2
    unfold nC at *
    generalize nD (gnQ ps k + c) = q1 at *
    generalize nD (gnQ ps k) = q2 at *
    generalize nD c = q3 at *
    simp -implicitDefEqProofs [t]
  have l7 : ∀ (f : Nat → Rat) (B : Nat) (el : M C), el = e_law_7 → (∀ k, k < ps.length → Inn K B (f k)) → B * 4 ≤ 100 * B7 → ∀ x0 x1 x2 x3 x4 x5 x6 x7 x9 : C, lcL [14] (Tg.put (.nm 14)) bYes el (exD ps.length f) [] [x0, x1, x2, x3, x4, x5, x6, x7, nC c, x9, .no, .no, .no, .no, .no] = .ok ((List.range ps.length).map fun y => nC (f y * c)) [x0, x1, x2, x3, x4, x5, x6, x7, nC c, x9, .no, .no, .no, .no, .no] := fun f B el hel hf hB x0 x1 x2 x3 x4 x5 x6 x7 x9 => by
    subst hel
    refine lcL_getO _ (fun k => nD (f k)) (fun y => nC (f y * c)) (List.range ps.length) (by simp; omega) fun k hk => ?_
    have hk := List.mem_range.mp hk
    have i1 := (hf k hk).dvd (M' := 6 * K) ⟨6, Nat.mul_comm _ _⟩ hK6
    have i2 := (hf k hk).mul ic
    rw [Nat.mul_comm K 6] at i2
    have t := sp__law_times (i1.sz (z.le (by omega))) okc (i2.sz (z.le hB)).2
    unfold nC at *
    generalize nD (f k * c) = q1 at *
    generalize nD (f k) = q2 at *
    generalize nD c = q3 at *
    simp -implicitDefEqProofs [t]
  have l7g := l7 (gnQ ps) 8 e_law_8 rfl (fun k hk => (k3 k hk).2) (by decide)
  have l7l := l7 (ldQ ps) B7 e_law_7 rfl (fun k hk => (k3 k hk).1) (by decide)
  have z5 := fzR (fun y => gnQ ps y + c) ps.length
  have n5 := neD_self (lay_ex (fun y => gnQ ps y + c) ps.length)
  have zl := fzR (ldQ ps) ps.length
  have nl := neD_self (lay_ex (ldQ ps) ps.length)
  have z7 := fzR (fun y => gnQ ps y * c) ps.length
  have q7 := eqD_self (lay_ex (fun y => gnQ ps y * c) ps.length)
  have z8 := fzR (fun y => ldQ ps y * c) ps.length
  have q8 := eqD_self (lay_ex (fun y => ldQ ps y * c) ps.length)
  have hlp : (ps.map plD).length = ps.length := by simp
  have hlpc : (ps.map fun p => C.fz (plD p)).length = ps.length := by simp
  refine ⟨[], run_ok0 ?_⟩
  have a108 : atI (ds.map D.int) 108 = some (.int (ds.getD 108 0)) := a108
  have a109 : atI (ds.map D.int) 109 = some (.int (ds.getD 109 0)) := a109
  have l1 := l1 (.fz (.fr (ns.map D.int)))
  clear hdr hw aD hnI hP hQ irS ir hsh eg el eg' k3 j3 m3 dl ig ia im ea eal em eml ea' eal' em' eml' i6 ic6 l7 hwk hS ip qg
  generalize (ds.map fun i => C.fz (.int i)) = dsc at *
  generalize ds.map D.int = dsd at *
  generalize (qs.map fun p => C.fz (plD p)) = qc at *
  generalize qs.map plD = qd at *
  generalize ds.getD 108 0 = y108 at *
  generalize ds.getD 109 0 = y109 at *
  generalize (ps.map fun p => C.fz (plD p)) = pc at *
  generalize ps.map plD = pd at *
  generalize ((List.range ps.length).map fun k => nC (pf k)) = fc at *
  generalize exD ps.length pf = fd at *
  generalize ((reL ps pf).map fun p => C.fz (plD p)) = u1 at *
  generalize (reL ps pf).map plD = u2 at *
  generalize ((reL ps (rlG ps pf)).map fun p => C.fz (plD p)) = u3 at *
  generalize (reL ps (rlG ps pf)).map plD = u4 at *
  generalize ((reL ps fun x => gP ps x + c).map fun p => C.fz (plD p)) = u5 at *
  generalize (reL ps fun x => gP ps x + c).map plD = u6 at *
  generalize ((reL ps fun x => gP ps x * c).map fun p => C.fz (plD p)) = u7 at *
  generalize (reL ps fun x => gP ps x * c).map plD = u8 at *
  generalize ((List.range ps.length).map fun y => nC (gnQ ps y)) = v1 at *
  generalize exD ps.length (gnQ ps) = v2 at *
  generalize ((List.range ps.length).map fun y => nC (ldQ ps y)) = v3 at *
  generalize exD ps.length (ldQ ps) = v4 at *
  generalize ((List.range ps.length).map fun y => nC (gnQ (reL ps pf) y)) = v5 at *
  generalize ((List.range ps.length).map fun y => nC (ldQ (reL ps (rlG ps pf)) y)) = v6 at *
  generalize exD ps.length (ldQ (reL ps (rlG ps pf))) = v7 at *
  generalize ((List.range ps.length).map fun y => nC (gnQ ps y + c)) = v8 at *
  generalize (exD ps.length fun y => gnQ ps y + c) = v9 at *
  generalize ((List.range ps.length).map fun y => nC (gnQ ps y * c)) = v10 at *
  generalize (exD ps.length fun y => gnQ ps y * c) = v11 at *
  generalize ((List.range ps.length).map fun y => nC (ldQ ps y * c)) = v12 at *
  generalize (exD ps.length fun y => ldQ ps y * c) = v13 at *
  simp -implicitDefEqProofs [m_law, hdr', hdsl, hw', hqf, l0, hlpc, hr1, l1, hpf, hlg, hld, hlp, l2, r2, c2, zp, hro, r3, c3, zg, ng, c3', l3, zl3, nl3, a108, a109, ← hs3, t8, l4, r4, c4, c4', l5, z5, n5, zl, nl, l6, r6, c6, c6', l7g, z7, q7, l7l, z8, q8]
end Lw

namespace Lw
open PySem PySem.Spec PyProof.Rows L2 Dn
/-! ### the text -/
def topS (i : Nat) : Stmt := PySem.Challenge.pw_meanhold_k16_whole_rolled_chains.main.body.getD i (.Pass ⟨0, 0, 0, 0⟩)
abbrev s__law_draws : Stmt := topS 35
abbrev N__law_draws : List Str := ["_law_script", "_law_count", "_law_rests", "_law_draws_here", "_law_k", "_law_value", "_law_at", "_law_mixed", "_law_cell"]
abbrev P__law_draws : List Str := ["_law_script", "_law_count"]
theorem sc__law_draws : FnScope N__law_draws P__law_draws (defScope s__law_draws) := ⟨rfl, rfl, rfl, by decide +kernel, rfl, by decide +kernel, by decide +kernel⟩
abbrev s__law_gcd : Stmt := topS 36
abbrev N__law_gcd : List Str := ["_law_a", "_law_b", "_law_step", "_law_rest"]
abbrev P__law_gcd : List Str := ["_law_a", "_law_b"]
theorem sc__law_gcd : FnScope N__law_gcd P__law_gcd (defScope s__law_gcd) := ⟨rfl, rfl, rfl, by decide +kernel, rfl, by decide +kernel, by decide +kernel⟩
abbrev s__law_number : Stmt := topS 37
abbrev N__law_number : List Str := ["_law_n", "_law_d", "_law_common"]
abbrev P__law_number : List Str := ["_law_n", "_law_d"]
theorem sc__law_number : FnScope N__law_number P__law_number (defScope s__law_number) := ⟨rfl, rfl, rfl, by decide +kernel, rfl, by decide +kernel, by decide +kernel⟩
abbrev s__law_walk : Stmt := topS 41
abbrev N__law_walk : List Str := ["_law_draws_here", "_law_most", "_law_many", "_law_group", "_law_found", "_law_k", "_law_part", "_law_low", "_law_size", "_law_weights", "_law_branches", "_law_n"]
abbrev P__law_walk : List Str := ["_law_draws_here", "_law_most"]
theorem sc__law_walk : FnScope N__law_walk P__law_walk (defScope s__law_walk) := ⟨rfl, rfl, rfl, by decide +kernel, rfl, by decide +kernel, by decide +kernel⟩
abbrev s_targets : Stmt := topS 22
abbrev N_targets : List Str := ["game", "place", "gain", "kind", "branches", "chance", "target"]
abbrev P_targets : List Str := ["game", "place"]
theorem sc_targets : FnScope N_targets P_targets (defScope s_targets) := ⟨rfl, rfl, rfl, by decide +kernel, rfl, by decide +kernel, by decide +kernel⟩
abbrev s_reached : Stmt := topS 24
abbrev N_reached : List Str := ["chain", "place", "found", "waiting", "target"]
abbrev P_reached : List Str := ["chain", "place"]
theorem sc_reached : FnScope N_reached P_reached (defScope s_reached) := ⟨rfl, rfl, rfl, by decide +kernel, rfl, by decide +kernel, by decide +kernel⟩
abbrev s_closed_classes : Stmt := topS 25
abbrev N_closed_classes : List Str := ["chain", "ways", "found", "place", "way", "other"]
abbrev P_closed_classes : List Str := ["chain"]
theorem sc_closed_classes : FnScope N_closed_classes P_closed_classes (defScope s_closed_classes) := ⟨rfl, rfl, rfl, by decide +kernel, rfl, by decide +kernel, by decide +kernel⟩
abbrev s_number : Stmt := topS 8
abbrev N_number : List Str := ["n", "d", "common"]
abbrev P_number : List Str := ["n", "d"]
theorem sc_number : FnScope N_number P_number (defScope s_number) := ⟨rfl, rfl, rfl, by decide +kernel, rfl, by decide +kernel, by decide +kernel⟩
abbrev s_plus : Stmt := topS 9
abbrev N_plus : List Str := ["a", "b"]
abbrev P_plus : List Str := ["a", "b"]
theorem sc_plus : FnScope N_plus P_plus (defScope s_plus) := ⟨rfl, rfl, rfl, by decide +kernel, rfl, by decide +kernel, by decide +kernel⟩
abbrev s_total : Stmt := topS 13
abbrev N_total : List Str := ["numbers", "found", "one"]
abbrev P_total : List Str := ["numbers"]
theorem sc_total : FnScope N_total P_total (defScope s_total) := ⟨rfl, rfl, rfl, by decide +kernel, rfl, by decide +kernel, by decide +kernel⟩
abbrev s_times : Stmt := topS 11
abbrev N_times : List Str := ["a", "b"]
abbrev P_times : List Str := ["a", "b"]
theorem sc_times : FnScope N_times P_times (defScope s_times) := ⟨rfl, rfl, rfl, by decide +kernel, rfl, by decide +kernel, by decide +kernel⟩
abbrev s_weighed_by : Stmt := topS 27
abbrev N_weighed_by : List Str := ["shares", "numbers", "share", "one"]
abbrev P_weighed_by : List Str := ["shares", "numbers"]
theorem sc_weighed_by : FnScope N_weighed_by P_weighed_by (defScope s_weighed_by) := ⟨rfl, rfl, rfl, by decide +kernel, rfl, by decide +kernel, by decide +kernel⟩
abbrev s_minus : Stmt := topS 10
abbrev N_minus : List Str := ["a", "b"]
abbrev P_minus : List Str := ["a", "b"]
theorem sc_minus : FnScope N_minus P_minus (defScope s_minus) := ⟨rfl, rfl, rfl, by decide +kernel, rfl, by decide +kernel, by decide +kernel⟩
abbrev s_divided : Stmt := topS 12
abbrev N_divided : List Str := ["a", "b"]
abbrev P_divided : List Str := ["a", "b"]
theorem sc_divided : FnScope N_divided P_divided (defScope s_divided) := ⟨rfl, rfl, rfl, by decide +kernel, rfl, by decide +kernel, by decide +kernel⟩
abbrev s_lessened : Stmt := topS 15
abbrev N_lessened : List Str := ["row", "column", "by", "one", "two"]
abbrev P_lessened : List Str := ["row", "column", "by"]
theorem sc_lessened : FnScope N_lessened P_lessened (defScope s_lessened) := ⟨rfl, rfl, rfl, by decide +kernel, rfl, by decide +kernel, by decide +kernel⟩
abbrev s_solved : Stmt := topS 16
abbrev N_solved : List Str := ["rows", "column", "pivot", "by", "at", "one", "row"]
abbrev P_solved : List Str := ["rows"]
theorem sc_solved : FnScope N_solved P_solved (defScope s_solved) := ⟨rfl, rfl, rfl, by decide +kernel, rfl, by decide +kernel, by decide +kernel⟩
abbrev s_shares_in : Stmt := topS 26
abbrev N_shares_in : List Str := ["chain", "closed", "rows", "place", "row", "at", "other", "_", "chance", "target"]
abbrev P_shares_in : List Str := ["chain", "closed"]
theorem sc_shares_in : FnScope N_shares_in P_shares_in (defScope s_shares_in) := ⟨rfl, rfl, rfl, by decide +kernel, rfl, by decide +kernel, by decide +kernel⟩
abbrev s_met : Stmt := topS 17
abbrev N_met : List Str := ["chain", "places", "known", "extras", "rows", "place", "row", "chance", "target", "at", "other"]
abbrev P_met : List Str := ["chain", "places", "known", "extras"]
theorem sc_met : FnScope N_met P_met (defScope s_met) := ⟨rfl, rfl, rfl, by decide +kernel, rfl, by decide +kernel, by decide +kernel⟩
abbrev s_with_rest : Stmt := topS 28
abbrev N_with_rest : List Str := ["chain", "known", "extras", "others", "found", "place", "one"]
abbrev P_with_rest : List Str := ["chain", "known", "extras"]
theorem sc_with_rest : FnScope N_with_rest P_with_rest (defScope s_with_rest) := ⟨rfl, rfl, rfl, by decide +kernel, rfl, by decide +kernel, by decide +kernel⟩
abbrev s_long_gains : Stmt := topS 29
abbrev N_long_gains : List Str := ["chain", "known", "closed", "gain", "place", "_"]
abbrev P_long_gains : List Str := ["chain"]
theorem sc_long_gains : FnScope N_long_gains P_long_gains (defScope s_long_gains) := ⟨rfl, rfl, rfl, by decide +kernel, rfl, by decide +kernel, by decide +kernel⟩
abbrev s_leads : Stmt := topS 30
abbrev N_leads : List Str := ["chain", "extras", "known", "closed", "rough", "less", "place", "one", "here", "gain"]
abbrev P_leads : List Str := ["chain"]
theorem sc_leads : FnScope N_leads P_leads (defScope s_leads) := ⟨rfl, rfl, rfl, by decide +kernel, rfl, by decide +kernel, by decide +kernel⟩
abbrev s_is_whole : Stmt := topS 5
abbrev N_is_whole : List Str := ["value"]
abbrev P_is_whole : List Str := ["value"]
theorem sc_is_whole : FnScope N_is_whole P_is_whole (defScope s_is_whole) := ⟨rfl, rfl, rfl, by decide +kernel, rfl, by decide +kernel, by decide +kernel⟩
abbrev s_is_number : Stmt := topS 6
abbrev N_is_number : List Str := ["value"]
abbrev P_is_number : List Str := ["value"]
theorem sc_is_number : FnScope N_is_number P_is_number (defScope s_is_number) := ⟨rfl, rfl, rfl, by decide +kernel, rfl, by decide +kernel, by decide +kernel⟩
abbrev s_is_short : Stmt := topS 7
abbrev N_is_short : List Str := ["value"]
abbrev P_is_short : List Str := ["value"]
theorem sc_is_short : FnScope N_is_short P_is_short (defScope s_is_short) := ⟨rfl, rfl, rfl, by decide +kernel, rfl, by decide +kernel, by decide +kernel⟩
abbrev s_gained : Stmt := topS 32
abbrev N_gained : List Str := ["game", "gains", "gain", "old", "kind", "branches"]
abbrev P_gained : List Str := ["game", "gains"]
theorem sc_gained : FnScope N_gained P_gained (defScope s_gained) := ⟨rfl, rfl, rfl, by decide +kernel, rfl, by decide +kernel, by decide +kernel⟩
abbrev s_rolled : Stmt := topS 33
abbrev N_rolled : List Str := ["chain", "numbers", "gains", "place", "gain", "kind", "branches", "mean", "chance", "target"]
abbrev P_rolled : List Str := ["chain", "numbers"]
theorem sc_rolled : FnScope N_rolled P_rolled (defScope s_rolled) := ⟨rfl, rfl, rfl, by decide +kernel, rfl, by decide +kernel, by decide +kernel⟩
abbrev s__law_plus : Stmt := topS 38
abbrev N__law_plus : List Str := ["_law_a", "_law_b"]
abbrev P__law_plus : List Str := ["_law_a", "_law_b"]
theorem sc__law_plus : FnScope N__law_plus P__law_plus (defScope s__law_plus) := ⟨rfl, rfl, rfl, by decide +kernel, rfl, by decide +kernel, by decide +kernel⟩
abbrev s__law_minus : Stmt := topS 40
abbrev N__law_minus : List Str := ["_law_a", "_law_b"]
abbrev P__law_minus : List Str := ["_law_a", "_law_b"]
theorem sc__law_minus : FnScope N__law_minus P__law_minus (defScope s__law_minus) := ⟨rfl, rfl, rfl, by decide +kernel, rfl, by decide +kernel, by decide +kernel⟩
abbrev s__law_times : Stmt := topS 39
abbrev N__law_times : List Str := ["_law_a", "_law_b"]
abbrev P__law_times : List Str := ["_law_a", "_law_b"]
theorem sc__law_times : FnScope N__law_times P__law_times (defScope s__law_times) := ⟨rfl, rfl, rfl, by decide +kernel, rfl, by decide +kernel, by decide +kernel⟩
abbrev s_law : Stmt := topS 42
abbrev N_law : List Str := ["_law_script", "_law_draws_here", "_law_chain", "_law_p", "_law_g", "_law_h", "_law_mean", "_law_turned", "_law_more", "_law_other", "_law_gain", "_law_kind", "_law_branches", "_law_k", "_law_one"]
abbrev P_law : List Str := ["_law_script"]
theorem sc_law : FnScope N_law P_law (defScope s_law) := ⟨rfl, rfl, rfl, by decide +kernel, rfl, by decide +kernel, by decide +kernel⟩
abbrev i_BadNumber : Stmt := clsInit (topS 20)
theorem shx_BadNumber : PySem.ExD.ShX "BadNumber.__init__" (defArgs i_BadNumber) (defBody i_BadNumber) (defScope i_BadNumber) none := ⟨⟨_, _, _, _, _, _, _, _, _, _, rfl, rfl, fun _ _ _ _ => ⟨rfl, rfl, rfl⟩, rfl⟩, rfl, rfl, rfl, rfl, rfl, rfl, by decide +kernel, fun _ _ _ _ _ _ _ _ _ => .of_eq rfl, trivial⟩
structure Facts (P : Program) (K : PySem.W.Frag) (mg : Str → Option Value) where
  C_BadNumber : Addr
  gc_BadNumber : mg "BadNumber" = some (.ref C_BadNumber)
  cl_BadNumber : clsOf K "BadNumber" = .ref C_BadNumber
  I_BadNumber : Addr
  X_BadNumber : PySem.ExD.ExTxt P K mg "BadNumber" "BadNumber.__init__" C_BadNumber I_BadNumber (defArgs i_BadNumber) (defBody i_BadNumber) (defScope i_BadNumber)
  xf_BadNumber : XfC K C_BadNumber
  n_super : mg "super" = none
  f__law_draws : Addr
  d__law_draws : FuncData
  F__law_draws : Fun K "_law_draws" "_law_draws" s__law_draws f__law_draws d__law_draws
  g__law_draws : mg "_law_draws" = some (.ref f__law_draws)
  b__law_draws : Binds K d__law_draws P__law_draws []
  f__law_gcd : Addr
  d__law_gcd : FuncData
  F__law_gcd : Fun K "_law_gcd" "_law_gcd" s__law_gcd f__law_gcd d__law_gcd
  g__law_gcd : mg "_law_gcd" = some (.ref f__law_gcd)
  b__law_gcd : Binds K d__law_gcd P__law_gcd []
  f__law_number : Addr
  d__law_number : FuncData
  F__law_number : Fun K "_law_number" "_law_number" s__law_number f__law_number d__law_number
  g__law_number : mg "_law_number" = some (.ref f__law_number)
  b__law_number : Binds K d__law_number P__law_number []
  f__law_walk : Addr
  d__law_walk : FuncData
  F__law_walk : Fun K "_law_walk" "_law_walk" s__law_walk f__law_walk d__law_walk
  g__law_walk : mg "_law_walk" = some (.ref f__law_walk)
  b__law_walk : Binds K d__law_walk P__law_walk []
  f_targets : Addr
  d_targets : FuncData
  F_targets : Fun K "targets" "targets" s_targets f_targets d_targets
  g_targets : mg "targets" = some (.ref f_targets)
  b_targets : Binds K d_targets P_targets []
  f_reached : Addr
  d_reached : FuncData
  F_reached : Fun K "reached" "reached" s_reached f_reached d_reached
  g_reached : mg "reached" = some (.ref f_reached)
  b_reached : Binds K d_reached P_reached []
  f_closed_classes : Addr
  d_closed_classes : FuncData
  F_closed_classes : Fun K "closed_classes" "closed_classes" s_closed_classes f_closed_classes d_closed_classes
  g_closed_classes : mg "closed_classes" = some (.ref f_closed_classes)
  b_closed_classes : Binds K d_closed_classes P_closed_classes []
  f_number : Addr
  d_number : FuncData
  F_number : Fun K "number" "number" s_number f_number d_number
  g_number : mg "number" = some (.ref f_number)
  b_number : Binds K d_number P_number []
  f_plus : Addr
  d_plus : FuncData
  F_plus : Fun K "plus" "plus" s_plus f_plus d_plus
  g_plus : mg "plus" = some (.ref f_plus)
  b_plus : Binds K d_plus P_plus []
  f_total : Addr
  d_total : FuncData
  F_total : Fun K "total" "total" s_total f_total d_total
  g_total : mg "total" = some (.ref f_total)
  b_total : Binds K d_total P_total []
  f_times : Addr
  d_times : FuncData
  F_times : Fun K "times" "times" s_times f_times d_times
  g_times : mg "times" = some (.ref f_times)
  b_times : Binds K d_times P_times []
  f_weighed_by : Addr
  d_weighed_by : FuncData
  F_weighed_by : Fun K "weighed_by" "weighed_by" s_weighed_by f_weighed_by d_weighed_by
  g_weighed_by : mg "weighed_by" = some (.ref f_weighed_by)
  b_weighed_by : Binds K d_weighed_by P_weighed_by []
  f_minus : Addr
  d_minus : FuncData
  F_minus : Fun K "minus" "minus" s_minus f_minus d_minus
  g_minus : mg "minus" = some (.ref f_minus)
  b_minus : Binds K d_minus P_minus []
  f_divided : Addr
  d_divided : FuncData
  F_divided : Fun K "divided" "divided" s_divided f_divided d_divided
  g_divided : mg "divided" = some (.ref f_divided)
  b_divided : Binds K d_divided P_divided []
  f_lessened : Addr
  d_lessened : FuncData
  F_lessened : Fun K "lessened" "lessened" s_lessened f_lessened d_lessened
  g_lessened : mg "lessened" = some (.ref f_lessened)
  b_lessened : Binds K d_lessened P_lessened []
  f_solved : Addr
  d_solved : FuncData
  F_solved : Fun K "solved" "solved" s_solved f_solved d_solved
  g_solved : mg "solved" = some (.ref f_solved)
  b_solved : Binds K d_solved P_solved []
  f_shares_in : Addr
  d_shares_in : FuncData
  F_shares_in : Fun K "shares_in" "shares_in" s_shares_in f_shares_in d_shares_in
  g_shares_in : mg "shares_in" = some (.ref f_shares_in)
  b_shares_in : Binds K d_shares_in P_shares_in []
  f_met : Addr
  d_met : FuncData
  F_met : Fun K "met" "met" s_met f_met d_met
  g_met : mg "met" = some (.ref f_met)
  b_met : Binds K d_met P_met []
  f_with_rest : Addr
  d_with_rest : FuncData
  F_with_rest : Fun K "with_rest" "with_rest" s_with_rest f_with_rest d_with_rest
  g_with_rest : mg "with_rest" = some (.ref f_with_rest)
  b_with_rest : Binds K d_with_rest P_with_rest []
  f_long_gains : Addr
  d_long_gains : FuncData
  F_long_gains : Fun K "long_gains" "long_gains" s_long_gains f_long_gains d_long_gains
  g_long_gains : mg "long_gains" = some (.ref f_long_gains)
  b_long_gains : Binds K d_long_gains P_long_gains []
  f_leads : Addr
  d_leads : FuncData
  F_leads : Fun K "leads" "leads" s_leads f_leads d_leads
  g_leads : mg "leads" = some (.ref f_leads)
  b_leads : Binds K d_leads P_leads []
  f_is_whole : Addr
  d_is_whole : FuncData
  F_is_whole : Fun K "is_whole" "is_whole" s_is_whole f_is_whole d_is_whole
  g_is_whole : mg "is_whole" = some (.ref f_is_whole)
  b_is_whole : Binds K d_is_whole P_is_whole []
  f_is_number : Addr
  d_is_number : FuncData
  F_is_number : Fun K "is_number" "is_number" s_is_number f_is_number d_is_number
  g_is_number : mg "is_number" = some (.ref f_is_number)
  b_is_number : Binds K d_is_number P_is_number []
  f_is_short : Addr
  d_is_short : FuncData
  F_is_short : Fun K "is_short" "is_short" s_is_short f_is_short d_is_short
  g_is_short : mg "is_short" = some (.ref f_is_short)
  b_is_short : Binds K d_is_short P_is_short []
  f_gained : Addr
  d_gained : FuncData
  F_gained : Fun K "gained" "gained" s_gained f_gained d_gained
  g_gained : mg "gained" = some (.ref f_gained)
  b_gained : Binds K d_gained P_gained []
  f_rolled : Addr
  d_rolled : FuncData
  F_rolled : Fun K "rolled" "rolled" s_rolled f_rolled d_rolled
  g_rolled : mg "rolled" = some (.ref f_rolled)
  b_rolled : Binds K d_rolled P_rolled []
  f__law_plus : Addr
  d__law_plus : FuncData
  F__law_plus : Fun K "_law_plus" "_law_plus" s__law_plus f__law_plus d__law_plus
  g__law_plus : mg "_law_plus" = some (.ref f__law_plus)
  b__law_plus : Binds K d__law_plus P__law_plus []
  f__law_minus : Addr
  d__law_minus : FuncData
  F__law_minus : Fun K "_law_minus" "_law_minus" s__law_minus f__law_minus d__law_minus
  g__law_minus : mg "_law_minus" = some (.ref f__law_minus)
  b__law_minus : Binds K d__law_minus P__law_minus []
  f__law_times : Addr
  d__law_times : FuncData
  F__law_times : Fun K "_law_times" "_law_times" s__law_times f__law_times d__law_times
  g__law_times : mg "_law_times" = some (.ref f__law_times)
  b__law_times : Binds K d__law_times P__law_times []
  f_law : Addr
  d_law : FuncData
  F_law : Fun K "law" "law" s_law f_law d_law
  g_law : mg "law" = some (.ref f_law)
  b_law : Binds K d_law P_law []
  n_range : mg "range" = none
  n_len : mg "len" = none
  n_int : mg "int" = none
  n_abs : mg "abs" = none
  n_sum : mg "sum" = none
  n_list : mg "list" = none
  n_sorted : mg "sorted" = none
  n_enumerate : mg "enumerate" = none
  n_all : mg "all" = none
  n_gcd : mg "gcd" = some (.builtin "math.gcd")
  n_zip : mg "zip" = none
  n_dict : mg "dict" = none
  n_isinstance : mg "isinstance" = none
  n_bool : mg "bool" = none
  n_tuple : mg "tuple" = none
  a_NOUGHT : Addr
  g_NOUGHT : mg "NOUGHT" = some (.ref a_NOUGHT)
  r_NOUGHT : ∀ F H, Rep K F H (.ref a_NOUGHT) k_NOUGHT
  a_ONE : Addr
  g_ONE : mg "ONE" = some (.ref a_ONE)
  r_ONE : ∀ F H, Rep K F H (.ref a_ONE) k_ONE
  t_SHORT : Tok
  g_SHORT : mg "SHORT" = some (.int 1000 t_SHORT)
section
variable {P : Program} {w : World} {K : PySem.W.Frag} {mg : Str → Option Value} {base : Heap}
theorem Facts.c_NOUGHT {X : Cx} {W : WX} {pos : Pos} (T : Facts X.prog X.K X.mg) (hg : Gl X "NOUGHT" := by rfl) : PE X (.Name "NOUGHT" pos) (tOf X.K W (ret k_NOUGHT)) := d_glob (v := .ref T.a_NOUGHT) hg T.g_NOUGHT rfl T.r_NOUGHT
theorem Facts.c_ONE {X : Cx} {W : WX} {pos : Pos} (T : Facts X.prog X.K X.mg) (hg : Gl X "ONE" := by rfl) : PE X (.Name "ONE" pos) (tOf X.K W (ret k_ONE)) := d_glob (v := .ref T.a_ONE) hg T.g_ONE rfl T.r_ONE
theorem Facts.c_SHORT {X : Cx} {W : WX} {pos : Pos} (T : Facts X.prog X.K X.mg) (hg : Gl X "SHORT" := by rfl) : PE X (.Name "SHORT" pos) (tOf X.K W (ret k_SHORT)) := d_glob (v := .int 1000) hg T.g_SHORT ⟨_, rfl⟩ (fun _ _ => .int _)
set_option maxHeartbeats 4000000 in
theorem ok__law_draws (T : Facts P K mg) : FnG P w K mg base CX0 1 T.f__law_draws T.d__law_draws P__law_draws (spF K 2 w__law_draws) :=
  fn0 (N := N__law_draws) (ps := P__law_draws) (k := 0) 9 2 (sm := m__law_draws) T.F__law_draws sc__law_draws rfl rfl (by decide) fun cdv A outer s H E hr hgd =>
  (ds_cons (ds_setLc 2 [("_law_cell", 8)] sc__law_draws.nd (di_list (d_var 0)) (blkOk_by (N := N__law_draws) (sc := defScope s__law_draws) (by decide +kernel)) (fun _ _ _ _ _ => (dg_nm 8 sc__law_draws.nd)) (fun _ _ _ _ _ => dts_nil) (fun _ _ _ _ _ => (d_var 8)))
  (ds_cons (ds_set 3 sc__law_draws.nd (d_lst d_nil))
  (ds_cons (ds_for PassesOwn.never (di_range1 T.n_range (d_cons (d_var 1) d_nil)) (dg_nm 4 sc__law_draws.nd)
  (ds_cons (ds_set 5 sc__law_draws.nd d_int)
  (ds_cons (ds_if (dt_cmp op_gt ok_gt (d_cbV 2 call_len ok_len T.n_len) d_int)
  (ds_cons (ds_set 6 sc__law_draws.nd (d_mod (d_cbty call_int1 ok_int T.n_int (d_cons (d_var 4) d_nil)) (d_cbV 2 call_len ok_len T.n_len)))
  (ds_one (ds_if (dt_cmp op_ge ok_ge (d_ixV 2 (d_var 6)) (d_pow d_int d_int))
  (ds_cons (ds_set 5 sc__law_draws.nd (d_mod (d_cbty call_int1 ok_int T.n_int (d_cons (d_ixV 2 (d_var 6)) d_nil)) d_int))
  (ds_one (ds_setIx 2 (d_var 6) (d_div (d_ixV 2 (d_var 6)) d_int))))
  (ds_cons (ds_set 7 sc__law_draws.nd (d_mod (d_cbty call_int1 ok_int T.n_int (d_cons (d_fz (d_add (d_add (d_mul (d_ixV 2 (d_var 6)) d_int) (d_mul (d_var 4) d_int)) d_int)) d_nil)) d_int))
  (ds_cons (ds_set 7 sc__law_draws.nd (d_mod (d_cbty call_int1 ok_int T.n_int (d_cons (d_fz (d_add (d_mul (d_var 7) d_int) (d_var 6))) d_nil)) d_int))
  (ds_one (ds_set 5 sc__law_draws.nd (d_mod (d_cbty call_int1 ok_int T.n_int (d_cons (d_fz (d_div (d_var 7) d_int)) d_nil)) d_int))))))))
  ds_nil)
  (ds_one (ds_app 3 (d_var 5))))))
  (ds_one (ds_ret (d_mv 3))))))
set_option maxHeartbeats 4000000 in
theorem ok__law_gcd (T : Facts P K mg) : FnG P w K mg base CX0 1 T.f__law_gcd T.d__law_gcd P__law_gcd (spF K 2 w__law_gcd) :=
  fn0 (N := N__law_gcd) (ps := P__law_gcd) (k := 0) 4 2 (sm := m__law_gcd) T.F__law_gcd sc__law_gcd rfl rfl (by decide) fun cdv A outer s H E hr hgd =>
  (ds_cons (ds_set 0 sc__law_gcd.nd (d_cb call_abs ok_abs T.n_abs (d_cons (d_var 0) d_nil)))
  (ds_cons (ds_set 1 sc__law_gcd.nd (d_cb call_abs ok_abs T.n_abs (d_cons (d_var 1) d_nil)))
  (ds_cons (ds_for PassesOwn.never (di_range1 T.n_range (d_cons d_int d_nil)) (dg_nm 2 sc__law_gcd.nd)
  (ds_cons (ds_if (dt_cmp (op_eqAll hr.units) ok_eq (d_var 1) d_int)
  (ds_one ds_break)
  ds_nil)
  (ds_cons (ds_set 3 sc__law_gcd.nd (d_mod (d_cbty call_int1 ok_int T.n_int (d_cons (d_var 0) d_nil)) (d_var 1)))
  (ds_cons (ds_set 0 sc__law_gcd.nd (d_var 1))
  (ds_one (ds_set 1 sc__law_gcd.nd (d_var 3)))))))
  (ds_one (ds_ret (d_mv 0))))))
set_option maxHeartbeats 4000000 in
theorem ok__law_number (T : Facts P K mg) : FnG P w K mg base CX0 2 T.f__law_number T.d__law_number P__law_number (spF K 2 w__law_number) :=
  fn0 (N := N__law_number) (ps := P__law_number) (k := 1) 3 2 (sm := m__law_number) T.F__law_number sc__law_number rfl rfl (by decide) fun cdv A outer s H E hr hgd =>
  (ds_cons (ds_if (dt_cmp op_lt ok_lt (d_var 1) d_int)
  (ds_cons (ds_set 0 sc__law_number.nd (d_neg (d_var 0)))
  (ds_one (ds_set 1 sc__law_number.nd (d_neg (d_var 1)))))
  ds_nil)
  (ds_cons (ds_set 2 sc__law_number.nd (d_call (ok__law_gcd T) (hr.mono (by decide)) hgd T.g__law_gcd T.F__law_gcd.kp T.b__law_gcd (fun _ => pass0S) (d_cons (d_var 0) (d_cons (d_var 1) d_nil)) (len_cons (len_cons len_nil))))
  (ds_one (ds_ret (d_tup (d_cons (d_fz (d_div (d_var 0) (d_var 2))) (d_cons (d_fz (d_div (d_var 1) (d_var 2))) d_nil)))))))
set_option maxHeartbeats 4000000 in
theorem ok__law_walk (T : Facts P K mg) : FnG P w K mg base CX0 3 T.f__law_walk T.d__law_walk P__law_walk (spF K 2 w__law_walk) :=
  fn0 (N := N__law_walk) (ps := P__law_walk) (k := 2) 12 2 (sm := m__law_walk) T.F__law_walk sc__law_walk rfl rfl (by decide) fun cdv A outer s H E hr hgd =>
  (ds_cons (ds_set 2 sc__law_walk.nd (d_add d_int (d_mod (d_cbty call_int1 ok_int T.n_int (d_cons (d_ixV 0 d_int) d_nil)) (d_var 1))))
  (ds_cons (ds_set 3 sc__law_walk.nd (d_ix (d_lst (d_cons (d_var 2) (d_cons d_int (d_cons d_int (d_cons d_int d_nil))))) (d_mod (d_cbty call_int1 ok_int T.n_int (d_cons (d_ixV 0 d_int) d_nil)) d_int)))
  (ds_cons (ds_set 4 sc__law_walk.nd (d_lst d_nil))
  (ds_cons (ds_for PassesOwn.never (di_range1 T.n_range (d_cons (d_var 2) d_nil)) (dg_nm 5 sc__law_walk.nd)
  (ds_cons (ds_set 6 sc__law_walk.nd (d_sl (d_var 0) (d_psome (d_add d_int (d_mul d_int (d_var 5)))) (d_psome (d_add d_int (d_mul d_int (d_var 5))))))
  (ds_cons (ds_set 7 sc__law_walk.nd (d_sub (d_var 5) (d_mod (d_cbty call_int1 ok_int T.n_int (d_cons (d_var 5) d_nil)) (d_var 3))))
  (ds_cons (ds_set 8 sc__law_walk.nd (d_ix (d_lst (d_cons d_int (d_cons d_int (d_cons d_int (d_cons d_int (d_cons d_int (d_cons d_int (d_cons d_int (d_cons d_int (d_cons d_int (d_cons d_int d_nil))))))))))) (d_mod (d_cbty call_int1 ok_int T.n_int (d_cons (d_ixV 6 d_int) d_nil)) d_int)))
  (ds_cons (ds_setLc 9 [("_law_n", 11)] sc__law_walk.nd (di_range1 T.n_range (d_cons (d_var 8) d_nil)) (blkOk_by (N := N__law_walk) (sc := defScope s__law_walk) (by decide +kernel)) (fun _ _ _ _ _ => (dg_nm 11 sc__law_walk.nd)) (fun _ _ _ _ _ => dts_nil) (fun _ _ _ _ _ => (d_fz (d_add d_int (d_mod (d_cbty call_int1 ok_int T.n_int (d_cons (d_ixV 6 (d_add d_int (d_var 11))) d_nil)) d_int)))))
  (ds_cons (ds_set 10 sc__law_walk.nd (d_lst d_nil))
  (ds_cons (ds_for PassesOwn.never (di_range1 T.n_range (d_cons (d_var 8) d_nil)) (dg_nm 11 sc__law_walk.nd)
  (ds_one (ds_app 10 (d_tup (d_cons (d_fz (d_call (ok__law_number T) (hr.mono (by decide)) hgd T.g__law_number T.F__law_number.kp T.b__law_number (fun _ => pass0S) (d_cons (d_ixV 9 (d_var 11)) (d_cons (d_fz (d_cbV 9 (cr_sum rfl) ok_sum T.n_sum)) d_nil)) (len_cons (len_cons len_nil)))) (d_cons (d_fz (d_add (d_var 7) (d_mod (d_cbty call_int1 ok_int T.n_int (d_cons (d_ixV 6 (d_add d_int (d_var 11))) d_nil)) (d_sub (d_var 2) (d_var 7))))) d_nil))))))
  (ds_one (ds_app 4 (d_tup (d_cons (d_fz (d_call (ok__law_number T) (hr.mono (by decide)) hgd T.g__law_number T.F__law_number.kp T.b__law_number (fun _ => pass0S) (d_cons (d_fz (d_sub (d_mod (d_cbty call_int1 ok_int T.n_int (d_cons (d_ixV 6 d_int) d_nil)) d_int) d_int)) (d_cons (d_ix (d_lst (d_cons d_int (d_cons d_int (d_cons d_int (d_cons d_int d_nil))))) (d_mod (d_cbty call_int1 ok_int T.n_int (d_cons (d_fz (d_div (d_ixV 6 d_int) d_int)) d_nil)) d_int)) d_nil)) (len_cons (len_cons len_nil)))) (d_cons d_str (d_cons (d_var 10) d_nil)))))))))))))
  (ds_one (ds_ret (d_mv 4)))))))
set_option maxHeartbeats 4000000 in
theorem ok_targets (T : Facts P K mg) : FnG P w K mg base CX0 1 T.f_targets T.d_targets P_targets (spF K 2 w_targets) :=
  fn0 (N := N_targets) (ps := P_targets) (k := 0) 7 2 (sm := m_targets) T.F_targets sc_targets rfl rfl (by decide) fun cdv A outer s H E hr hgd =>
  (ds_cons (ds_asg (d_ixV 0 (d_var 1)) (dg_tup rfl (dg_cons (dg_nm 2 sc_targets.nd) (dg_cons (dg_nm 3 sc_targets.nd) (dg_cons (dg_nm 4 sc_targets.nd) dg_nil)))))
  (ds_cons (ds_if (dt_cmp (op_eqAll hr.units) ok_eq (d_var 3) d_str)
  (ds_one (ds_ret (d_lc [("chance", 5), ("target", 6)] sc_targets.nd (di_list (d_var 4)) (blkOk_by (N := N_targets) (sc := defScope s_targets) (by decide +kernel)) (fun _ _ _ _ _ => (dg_tup rfl (dg_cons (dg_nm 5 sc_targets.nd) (dg_cons (dg_nm 6 sc_targets.nd) dg_nil)))) (fun _ _ _ _ _ => dts_nil) (fun _ _ _ _ _ => (d_var 6)))))
  ds_nil)
  (ds_one (ds_ret (d_cbty call_list_of ok_list T.n_list (d_cons (d_var 4) d_nil))))))
set_option maxHeartbeats 4000000 in
theorem ok_reached (T : Facts P K mg) : FnG P w K mg base CX0 2 T.f_reached T.d_reached P_reached (spF K 2 w_reached) :=
  fn0 (N := N_reached) (ps := P_reached) (k := 1) 5 2 (sm := m_reached) T.F_reached sc_reached rfl rfl (by decide) fun cdv A outer s H E hr hgd =>
  (ds_cons (ds_set 2 sc_reached.nd (d_lst (d_cons (d_var 1) d_nil)))
  (ds_cons (ds_set 3 sc_reached.nd (d_lst (d_cons (d_var 1) d_nil)))
  (ds_cons (ds_while (fun _ => 1000000) PassesOwn.never (dt_var 3)
  (ds_one (ds_for PassesOwn.never (di_list (d_call (ok_targets T) (hr.mono (by decide)) hgd T.g_targets T.F_targets.kp T.b_targets (fun _ => pass0S) (d_cons (d_var 0) (d_cons (d_fz (d_pop 3)) d_nil)) (len_cons (len_cons len_nil)))) (dg_nm 4 sc_reached.nd)
  (ds_one (ds_if (dt_lend (dt_cmpV 2 op_notIn_seq ok_nin (d_var 4)))
  (ds_cons (ds_app 2 (d_var 4))
  (ds_one (ds_app 3 (d_var 4))))
  ds_nil)))))
  (ds_one (ds_ret (d_cb cr_sortedI ok_sort T.n_sorted (d_cons (d_var 2) d_nil)))))))
set_option maxHeartbeats 4000000 in
theorem ok_closed_classes (T : Facts P K mg) : FnG P w K mg base CX0 3 T.f_closed_classes T.d_closed_classes P_closed_classes (spF K 1 w_closed_classes) :=
  fn0 (N := N_closed_classes) (ps := P_closed_classes) (k := 2) 6 1 (sm := m_closed_classes) T.F_closed_classes sc_closed_classes rfl rfl (by decide) fun cdv A outer s H E hr hgd =>
  (ds_cons (ds_set 1 sc_closed_classes.nd (d_lc [("place", 3)] sc_closed_classes.nd (di_range1 T.n_range (d_cons (d_fz (d_cbV 0 call_len ok_len T.n_len)) d_nil)) (blkOk_by (N := N_closed_classes) (sc := defScope s_closed_classes) (by decide +kernel)) (fun _ _ _ _ _ => (dg_nm 3 sc_closed_classes.nd)) (fun _ _ _ _ _ => dts_nil) (fun _ _ _ _ _ => (d_fz (d_call (ok_reached T) (hr.mono (by decide)) hgd T.g_reached T.F_reached.kp T.b_reached (fun _ => pass0S) (d_cons (d_var 0) (d_cons (d_var 3) d_nil)) (len_cons (len_cons len_nil)))))))
  (ds_cons (ds_set 2 sc_closed_classes.nd (d_lst d_nil))
  (ds_cons (ds_for PassesOwn.never (di_enum T.n_enumerate (d_cons (d_var 1) d_nil)) (dg_tup rfl (dg_cons (dg_nm 3 sc_closed_classes.nd) (dg_cons (dg_nm 4 sc_closed_classes.nd) dg_nil)))
  (ds_one (ds_if (dt_w (dw_and (dt_cmp (op_eqAll hr.units) ok_eq (d_ixV 4 d_int) (d_var 3)) (dw_and1 (dt_tru (d_cb (cr_all rfl) ok_all T.n_all (d_cons (d_fz (d_lc [("other", 5)] sc_closed_classes.nd (di_list (d_var 4)) (blkOk_by (N := N_closed_classes) (sc := defScope s_closed_classes) (by decide +kernel)) (fun _ _ _ _ _ => (dg_nm 5 sc_closed_classes.nd)) (fun _ _ _ _ _ => dts_nil) (fun _ _ _ _ _ => (d_cmp op_in_seq ok_in (d_var 3) (d_ixV 1 (d_var 5)))))) d_nil))))))
  (ds_one (ds_app 2 (d_var 4)))
  ds_nil)))
  (ds_one (ds_ret (d_mv 2))))))
set_option maxHeartbeats 4000000 in
theorem ok_number (T : Facts P K mg) : FnG P w K mg base CX0 1 T.f_number T.d_number P_number (spF K 2 w_number) :=
  fn0 (N := N_number) (ps := P_number) (k := 0) 3 2 (sm := m_number) T.F_number sc_number rfl rfl (by decide) fun cdv A outer s H E hr hgd =>
  (ds_cons (ds_if (dt_cmp op_lt ok_lt (d_var 1) d_int)
  (ds_one (ds_par 0 1 sc_number.nd (d_cons (d_neg (d_var 0)) (d_cons (d_neg (d_var 1)) d_nil))))
  ds_nil)
  (ds_cons (ds_set 2 sc_number.nd (d_cbfun cr_gcd ok_gcd T.n_gcd (d_cons (d_var 0) (d_cons (d_var 1) d_nil))))
  (ds_one (ds_ret (d_tup (d_cons (d_fz (d_div (d_var 0) (d_var 2))) (d_cons (d_fz (d_div (d_var 1) (d_var 2))) d_nil)))))))
set_option maxHeartbeats 4000000 in
theorem ok_plus (T : Facts P K mg) : FnG P w K mg base CX0 2 T.f_plus T.d_plus P_plus (spF K 2 w_plus) :=
  fn0 (N := N_plus) (ps := P_plus) (k := 1) 2 2 (sm := m_plus) T.F_plus sc_plus rfl rfl (by decide) fun cdv A outer s H E hr hgd =>
  (ds_one (ds_ret (d_call (ok_number T) (hr.mono (by decide)) hgd T.g_number T.F_number.kp T.b_number (fun _ => pass0S) (d_cons (d_fz (d_add (d_mul (d_ixV 0 d_int) (d_ixV 1 d_int)) (d_mul (d_ixV 1 d_int) (d_ixV 0 d_int)))) (d_cons (d_fz (d_mul (d_ixV 0 d_int) (d_ixV 1 d_int))) d_nil)) (len_cons (len_cons len_nil)))))
set_option maxHeartbeats 4000000 in
theorem ok_total (T : Facts P K mg) : FnG P w K mg base CX0 3 T.f_total T.d_total P_total (spF K 1 w_total) :=
  fn0 (N := N_total) (ps := P_total) (k := 2) 3 1 (sm := m_total) T.F_total sc_total rfl rfl (by decide) fun cdv A outer s H E hr hgd =>
  (ds_cons (ds_set 1 sc_total.nd (T.c_NOUGHT))
  (ds_cons (ds_for PassesOwn.never (di_list (d_var 0)) (dg_nm 2 sc_total.nd)
  (ds_one (ds_set 1 sc_total.nd (d_call (ok_plus T) (hr.mono (by decide)) hgd T.g_plus T.F_plus.kp T.b_plus (fun _ => pass0S) (d_cons (d_var 1) (d_cons (d_var 2) d_nil)) (len_cons (len_cons len_nil))))))
  (ds_one (ds_ret (d_mv 1)))))
set_option maxHeartbeats 4000000 in
theorem ok_times (T : Facts P K mg) : FnG P w K mg base CX0 2 T.f_times T.d_times P_times (spF K 2 w_times) :=
  fn0 (N := N_times) (ps := P_times) (k := 1) 2 2 (sm := m_times) T.F_times sc_times rfl rfl (by decide) fun cdv A outer s H E hr hgd =>
  (ds_one (ds_ret (d_call (ok_number T) (hr.mono (by decide)) hgd T.g_number T.F_number.kp T.b_number (fun _ => pass0S) (d_cons (d_fz (d_mul (d_ixV 0 d_int) (d_ixV 1 d_int))) (d_cons (d_fz (d_mul (d_ixV 0 d_int) (d_ixV 1 d_int))) d_nil)) (len_cons (len_cons len_nil)))))
set_option maxHeartbeats 4000000 in
theorem ok_weighed_by (T : Facts P K mg) : FnG P w K mg base CX0 4 T.f_weighed_by T.d_weighed_by P_weighed_by (spF K 2 w_weighed_by) :=
  fn0 (N := N_weighed_by) (ps := P_weighed_by) (k := 3) 4 2 (sm := m_weighed_by) T.F_weighed_by sc_weighed_by rfl rfl (by decide) fun cdv A outer s H E hr hgd =>
  (ds_one (ds_ret (d_call (ok_total T) (hr.mono (by decide)) hgd T.g_total T.F_total.kp T.b_total (fun _ => pass0S) (d_cons (d_fz (d_lc [("share", 2), ("one", 3)] sc_weighed_by.nd (di_zip T.n_zip (d_cons (d_var 0) (d_cons (d_var 1) d_nil))) (blkOk_by (N := N_weighed_by) (sc := defScope s_weighed_by) (by decide +kernel)) (fun _ _ _ _ _ => (dg_tup rfl (dg_cons (dg_nm 2 sc_weighed_by.nd) (dg_cons (dg_nm 3 sc_weighed_by.nd) dg_nil)))) (fun _ _ _ _ _ => dts_nil) (fun _ _ _ _ _ => (d_fz (d_call (ok_times T) (hr.mono (by decide)) hgd T.g_times T.F_times.kp T.b_times (fun _ => pass0S) (d_cons (d_var 2) (d_cons (d_var 3) d_nil)) (len_cons (len_cons len_nil))))))) d_nil) (len_cons len_nil))))
set_option maxHeartbeats 4000000 in
theorem ok_minus (T : Facts P K mg) : FnG P w K mg base CX0 2 T.f_minus T.d_minus P_minus (spF K 2 w_minus) :=
  fn0 (N := N_minus) (ps := P_minus) (k := 1) 2 2 (sm := m_minus) T.F_minus sc_minus rfl rfl (by decide) fun cdv A outer s H E hr hgd =>
  (ds_one (ds_ret (d_call (ok_number T) (hr.mono (by decide)) hgd T.g_number T.F_number.kp T.b_number (fun _ => pass0S) (d_cons (d_fz (d_sub (d_mul (d_ixV 0 d_int) (d_ixV 1 d_int)) (d_mul (d_ixV 1 d_int) (d_ixV 0 d_int)))) (d_cons (d_fz (d_mul (d_ixV 0 d_int) (d_ixV 1 d_int))) d_nil)) (len_cons (len_cons len_nil)))))
set_option maxHeartbeats 4000000 in
theorem ok_divided (T : Facts P K mg) : FnG P w K mg base CX0 2 T.f_divided T.d_divided P_divided (spF K 2 w_divided) :=
  fn0 (N := N_divided) (ps := P_divided) (k := 1) 2 2 (sm := m_divided) T.F_divided sc_divided rfl rfl (by decide) fun cdv A outer s H E hr hgd =>
  (ds_one (ds_ret (d_call (ok_number T) (hr.mono (by decide)) hgd T.g_number T.F_number.kp T.b_number (fun _ => pass0S) (d_cons (d_fz (d_mul (d_ixV 0 d_int) (d_ixV 1 d_int))) (d_cons (d_fz (d_mul (d_ixV 0 d_int) (d_ixV 1 d_int))) d_nil)) (len_cons (len_cons len_nil)))))
set_option maxHeartbeats 4000000 in
theorem ok_lessened (T : Facts P K mg) : FnG P w K mg base CX0 3 T.f_lessened T.d_lessened P_lessened (spF K 3 w_lessened) :=
  fn0 (N := N_lessened) (ps := P_lessened) (k := 2) 5 3 (sm := m_lessened) T.F_lessened sc_lessened rfl rfl (by decide) fun cdv A outer s H E hr hgd =>
  (ds_one (ds_ret (d_lc [("one", 3), ("two", 4)] sc_lessened.nd (di_zip T.n_zip (d_cons (d_var 0) (d_cons (d_var 2) d_nil))) (blkOk_by (N := N_lessened) (sc := defScope s_lessened) (by decide +kernel)) (fun _ _ _ _ _ => (dg_tup rfl (dg_cons (dg_nm 3 sc_lessened.nd) (dg_cons (dg_nm 4 sc_lessened.nd) dg_nil)))) (fun _ _ _ _ _ => dts_nil) (fun _ _ _ _ _ => (d_fz (d_call (ok_minus T) (hr.mono (by decide)) hgd T.g_minus T.F_minus.kp T.b_minus (fun _ => pass0S) (d_cons (d_var 3) (d_cons (d_fz (d_call (ok_times T) (hr.mono (by decide)) hgd T.g_times T.F_times.kp T.b_times (fun _ => pass0S) (d_cons (d_ixV 0 (d_var 1)) (d_cons (d_var 4) d_nil)) (len_cons (len_cons len_nil)))) d_nil)) (len_cons (len_cons len_nil))))))))
set_option maxHeartbeats 4000000 in
theorem ok_solved (T : Facts P K mg) : FnG P w K mg base CX0 4 T.f_solved T.d_solved P_solved (spF K 1 w_solved) :=
  fn0 (N := N_solved) (ps := P_solved) (k := 3) 7 1 (sm := m_solved) T.F_solved sc_solved rfl rfl (by decide) fun cdv A outer s H E hr hgd =>
  (ds_cons (ds_set 0 sc_solved.nd (d_cbty call_list_of ok_list T.n_list (d_cons (d_var 0) d_nil)))
  (ds_cons (ds_for PassesOwn.never (di_range1 T.n_range (d_cons (d_fz (d_cbV 0 call_len ok_len T.n_len)) d_nil)) (dg_nm 1 sc_solved.nd)
  (ds_cons (ds_set 2 sc_solved.nd (d_ix (d_lc [("at", 4)] sc_solved.nd (di_range2 T.n_range (d_cons (d_var 1) (d_cons (d_fz (d_cbV 0 call_len ok_len T.n_len)) d_nil))) (blkOk_by (N := N_solved) (sc := defScope s_solved) (by decide +kernel)) (fun _ _ _ _ _ => (dg_nm 4 sc_solved.nd)) (fun _ _ _ _ _ => (dts_one (dt_cmp (op_neAll hr.units) ok_ne (d_ix (d_ixV 0 (d_var 4)) (d_var 1)) (T.c_NOUGHT)))) (fun _ _ _ _ _ => (d_var 4))) d_int))
  (ds_cons (ds_swp 0 (d_var 1) (d_var 2) (d_tup (d_cons (d_ixV 0 (d_var 2)) (d_cons (d_ixV 0 (d_var 1)) d_nil))))
  (ds_cons (ds_set 3 sc_solved.nd (d_call (ok_divided T) (hr.mono (by decide)) hgd T.g_divided T.F_divided.kp T.b_divided (fun _ => pass0S) (d_cons (T.c_ONE) (d_cons (d_ix (d_ixV 0 (d_var 1)) (d_var 1)) d_nil)) (len_cons (len_cons len_nil))))
  (ds_cons (ds_setIx 0 (d_var 1) (d_lc [("one", 5)] sc_solved.nd (di_list (d_ixV 0 (d_var 1))) (blkOk_by (N := N_solved) (sc := defScope s_solved) (by decide +kernel)) (fun _ _ _ _ _ => (dg_nm 5 sc_solved.nd)) (fun _ _ _ _ _ => dts_nil) (fun _ _ _ _ _ => (d_fz (d_call (ok_times T) (hr.mono (by decide)) hgd T.g_times T.F_times.kp T.b_times (fun _ => pass0S) (d_cons (d_var 3) (d_cons (d_var 5) d_nil)) (len_cons (len_cons len_nil)))))))
  (ds_one (ds_for PassesOwn.never (di_range1 T.n_range (d_cons (d_fz (d_cbV 0 call_len ok_len T.n_len)) d_nil)) (dg_nm 4 sc_solved.nd)
  (ds_one (ds_if (dt_w (dw_and (dt_cmp (op_neAll hr.units) ok_ne (d_var 4) (d_var 1)) (dw_and1 (dt_cmp (op_neAll hr.units) ok_ne (d_ix (d_ixV 0 (d_var 4)) (d_var 1)) (T.c_NOUGHT)))))
  (ds_one (ds_setIx 0 (d_var 4) (d_call (ok_lessened T) (hr.mono (by decide)) hgd T.g_lessened T.F_lessened.kp T.b_lessened (fun _ => pass0S) (d_cons (d_ixV 0 (d_var 4)) (d_cons (d_var 1) (d_cons (d_ixV 0 (d_var 1)) d_nil))) (len_cons (len_cons (len_cons len_nil))))))
  ds_nil)))))))))
  (ds_one (ds_ret (d_lc [("row", 6)] sc_solved.nd (di_list (d_var 0)) (blkOk_by (N := N_solved) (sc := defScope s_solved) (by decide +kernel)) (fun _ _ _ _ _ => (dg_nm 6 sc_solved.nd)) (fun _ _ _ _ _ => dts_nil) (fun _ _ _ _ _ => (d_ixV 6 (d_neg d_int))))))))
set_option maxHeartbeats 4000000 in
theorem ok_shares_in (T : Facts P K mg) : FnG P w K mg base CX0 5 T.f_shares_in T.d_shares_in P_shares_in (spF K 2 w_shares_in) :=
  fn0 (N := N_shares_in) (ps := P_shares_in) (k := 4) 10 2 (sm := m_shares_in) T.F_shares_in sc_shares_in rfl rfl (by decide) fun cdv A outer s H E hr hgd =>
  (ds_cons (ds_set 2 sc_shares_in.nd (d_lst (d_cons (d_fz (d_add (d_lc [("_", 7)] sc_shares_in.nd (di_list (d_var 1)) (blkOk_by (N := N_shares_in) (sc := defScope s_shares_in) (by decide +kernel)) (fun _ _ _ _ _ => (dg_nm 7 sc_shares_in.nd)) (fun _ _ _ _ _ => dts_nil) (fun _ _ _ _ _ => (T.c_ONE))) (d_lst (d_cons (T.c_ONE) d_nil)))) d_nil)))
  (ds_cons (ds_for PassesOwn.never (di_list (d_sl (d_var 1) (d_psome d_int) d_pnone)) (dg_nm 3 sc_shares_in.nd)
  (ds_cons (ds_set 4 sc_shares_in.nd (d_add (d_lc [("other", 6)] sc_shares_in.nd (di_list (d_var 1)) (blkOk_by (N := N_shares_in) (sc := defScope s_shares_in) (by decide +kernel)) (fun _ _ _ _ _ => (dg_nm 6 sc_shares_in.nd)) (fun _ _ _ _ _ => dts_nil) (fun _ _ _ _ _ => (d_fz (d_if (dt_cmp (op_eqAll hr.units) ok_eq (d_var 6) (d_var 3)) (d_call (ok_minus T) (hr.mono (by decide)) hgd T.g_minus T.F_minus.kp T.b_minus (fun _ => pass0S) (d_cons (T.c_NOUGHT) (d_cons (T.c_ONE) d_nil)) (len_cons (len_cons len_nil))) (T.c_NOUGHT))))) (d_lst (d_cons (T.c_NOUGHT) d_nil))))
  (ds_cons (ds_for PassesOwn.never (di_enum T.n_enumerate (d_cons (d_var 1) d_nil)) (dg_tup rfl (dg_cons (dg_nm 5 sc_shares_in.nd) (dg_cons (dg_nm 6 sc_shares_in.nd) dg_nil)))
  (ds_one (ds_setIx 4 (d_var 5) (d_call (ok_plus T) (hr.mono (by decide)) hgd T.g_plus T.F_plus.kp T.b_plus (fun _ => pass0S) (d_cons (d_ixV 4 (d_var 5)) (d_cons (d_fz (d_call (ok_total T) (hr.mono (by decide)) hgd T.g_total T.F_total.kp T.b_total (fun _ => pass0S) (d_cons (d_fz (d_lc [("chance", 8), ("target", 9)] sc_shares_in.nd (di_list (d_ix (d_ixV 0 (d_var 6)) d_int)) (blkOk_by (N := N_shares_in) (sc := defScope s_shares_in) (by decide +kernel)) (fun _ _ _ _ _ => (dg_tup rfl (dg_cons (dg_nm 8 sc_shares_in.nd) (dg_cons (dg_nm 9 sc_shares_in.nd) dg_nil)))) (fun _ _ _ _ _ => (dts_one (dt_cmp (op_eqAll hr.units) ok_eq (d_var 9) (d_var 3)))) (fun _ _ _ _ _ => (d_var 8)))) d_nil) (len_cons len_nil))) d_nil)) (len_cons (len_cons len_nil))))))
  (ds_one (ds_app 2 (d_var 4))))))
  (ds_one (ds_ret (d_call (ok_solved T) (hr.mono (by decide)) hgd T.g_solved T.F_solved.kp T.b_solved (fun _ => pass0S) (d_cons (d_var 2) d_nil) (len_cons len_nil))))))
set_option maxHeartbeats 4000000 in
theorem ok_met (T : Facts P K mg) : FnG P w K mg base CX0 5 T.f_met T.d_met P_met (spF K 4 w_met) :=
  fn0 (N := N_met) (ps := P_met) (k := 4) 11 4 (sm := m_met) T.F_met sc_met rfl rfl (by decide) fun cdv A outer s H E hr hgd =>
  (ds_cons (ds_set 4 sc_met.nd (d_lst d_nil))
  (ds_cons (ds_for PassesOwn.never (di_list (d_var 1)) (dg_nm 5 sc_met.nd)
  (ds_cons (ds_set 6 sc_met.nd (d_add (d_lc [("other", 10)] sc_met.nd (di_list (d_var 1)) (blkOk_by (N := N_met) (sc := defScope s_met) (by decide +kernel)) (fun _ _ _ _ _ => (dg_nm 10 sc_met.nd)) (fun _ _ _ _ _ => dts_nil) (fun _ _ _ _ _ => (d_fz (d_if (dt_cmp (op_eqAll hr.units) ok_eq (d_var 10) (d_var 5)) (T.c_ONE) (T.c_NOUGHT))))) (d_lst (d_cons (d_ixV 3 (d_var 5)) d_nil))))
  (ds_cons (ds_for PassesOwn.never (di_list (d_ix (d_ixV 0 (d_var 5)) d_int)) (dg_tup rfl (dg_cons (dg_nm 7 sc_met.nd) (dg_cons (dg_nm 8 sc_met.nd) dg_nil)))
  (ds_one (ds_if (dt_inK 2 (hu_of hr) (d_var 8))
  (ds_one (ds_setIx 6 (d_neg d_int) (d_call (ok_minus T) (hr.mono (by decide)) hgd T.g_minus T.F_minus.kp T.b_minus (fun _ => pass0S) (d_cons (d_ixV 6 (d_neg d_int)) (d_cons (d_fz (d_call (ok_times T) (hr.mono (by decide)) hgd T.g_times T.F_times.kp T.b_times (fun _ => pass0S) (d_cons (d_var 7) (d_cons (d_fz (d_call (ok_minus T) (hr.mono (by decide)) hgd T.g_minus T.F_minus.kp T.b_minus (fun _ => pass0S) (d_cons (T.c_NOUGHT) (d_cons (d_kxV 2 (hu_of hr) (d_var 8)) d_nil)) (len_cons (len_cons len_nil)))) d_nil)) (len_cons (len_cons len_nil)))) d_nil)) (len_cons (len_cons len_nil)))))
  (ds_cons (ds_set 9 sc_met.nd (d_idx (d_var 1) (d_var 8)))
  (ds_one (ds_setIx 6 (d_var 9) (d_call (ok_minus T) (hr.mono (by decide)) hgd T.g_minus T.F_minus.kp T.b_minus (fun _ => pass0S) (d_cons (d_ixV 6 (d_var 9)) (d_cons (d_var 7) d_nil)) (len_cons (len_cons len_nil)))))))))
  (ds_one (ds_app 4 (d_var 6))))))
  (ds_one (ds_ret (d_call (ok_solved T) (hr.mono (by decide)) hgd T.g_solved T.F_solved.kp T.b_solved (fun _ => pass0S) (d_cons (d_var 4) d_nil) (len_cons len_nil))))))
set_option maxHeartbeats 4000000 in
theorem ok_with_rest (T : Facts P K mg) : FnG P w K mg base CX0 6 T.f_with_rest T.d_with_rest P_with_rest (spF K 3 w_with_rest) :=
  fn0 (N := N_with_rest) (ps := P_with_rest) (k := 5) 7 3 (sm := m_with_rest) T.F_with_rest sc_with_rest rfl rfl (by decide) fun cdv A outer s H E hr hgd =>
  (ds_cons (ds_setLc 3 [("place", 5)] sc_with_rest.nd (di_range1 T.n_range (d_cons (d_fz (d_cbV 0 call_len ok_len T.n_len)) d_nil)) (blkOk_by (N := N_with_rest) (sc := defScope s_with_rest) (by decide +kernel)) (fun _ _ _ _ _ => (dg_nm 5 sc_with_rest.nd)) (fun _ _ _ _ _ => (dts_one (dt_ninK 1 (hu_of hr) (d_var 5)))) (fun _ _ _ _ _ => (d_var 5)))
  (ds_cons (ds_set 4 sc_with_rest.nd (d_dcp 1 T.n_dict))
  (ds_cons (ds_for PassesOwn.never (di_zip T.n_zip (d_cons (d_var 3) (d_cons (d_fz (d_call (ok_met T) (hr.mono (by decide)) hgd T.g_met T.F_met.kp T.b_met (fun _ => pass0S) (d_cons (d_var 0) (d_cons (d_var 3) (d_cons (d_var 1) (d_cons (d_var 2) d_nil)))) (len_cons (len_cons (len_cons (len_cons len_nil)))))) d_nil))) (dg_tup rfl (dg_cons (dg_nm 5 sc_with_rest.nd) (dg_cons (dg_nm 6 sc_with_rest.nd) dg_nil)))
  (ds_one (ds_setK 4 (hu_of hr) (d_var 5) (d_var 6))))
  (ds_one (ds_ret (d_lc [("place", 5)] sc_with_rest.nd (di_range1 T.n_range (d_cons (d_fz (d_cbV 0 call_len ok_len T.n_len)) d_nil)) (blkOk_by (N := N_with_rest) (sc := defScope s_with_rest) (by decide +kernel)) (fun _ _ _ _ _ => (dg_nm 5 sc_with_rest.nd)) (fun _ _ _ _ _ => dts_nil) (fun _ _ _ _ _ => (d_kxV 4 (hu_of hr) (d_var 5)))))))))
set_option maxHeartbeats 4000000 in
theorem ok_long_gains (T : Facts P K mg) : FnG P w K mg base CX0 7 T.f_long_gains T.d_long_gains P_long_gains (spF K 1 w_long_gains) :=
  fn0 (N := N_long_gains) (ps := P_long_gains) (k := 6) 6 1 (sm := m_long_gains) T.F_long_gains sc_long_gains rfl rfl (by decide) fun cdv A outer s H E hr hgd =>
  (ds_cons (ds_set 1 sc_long_gains.nd d_disp0)
  (ds_cons (ds_for PassesOwn.never (di_list (d_call (ok_closed_classes T) (hr.mono (by decide)) hgd T.g_closed_classes T.F_closed_classes.kp T.b_closed_classes (fun _ => pass0S) (d_cons (d_var 0) d_nil) (len_cons len_nil))) (dg_nm 2 sc_long_gains.nd)
  (ds_cons (ds_set 3 sc_long_gains.nd (d_call (ok_weighed_by T) (hr.mono (by decide)) hgd T.g_weighed_by T.F_weighed_by.kp T.b_weighed_by (fun _ => pass0S) (d_cons (d_fz (d_call (ok_shares_in T) (hr.mono (by decide)) hgd T.g_shares_in T.F_shares_in.kp T.b_shares_in (fun _ => pass0S) (d_cons (d_var 0) (d_cons (d_var 2) d_nil)) (len_cons (len_cons len_nil)))) (d_cons (d_fz (d_lc [("place", 4)] sc_long_gains.nd (di_list (d_var 2)) (blkOk_by (N := N_long_gains) (sc := defScope s_long_gains) (by decide +kernel)) (fun _ _ _ _ _ => (dg_nm 4 sc_long_gains.nd)) (fun _ _ _ _ _ => dts_nil) (fun _ _ _ _ _ => (d_ix (d_ixV 0 (d_var 4)) d_int)))) d_nil)) (len_cons (len_cons len_nil))))
  (ds_one (ds_for PassesOwn.never (di_list (d_var 2)) (dg_nm 4 sc_long_gains.nd)
  (ds_one (ds_setK 1 (hu_of hr) (d_var 4) (d_var 3)))))))
  (ds_one (ds_ret (d_call (ok_with_rest T) (hr.mono (by decide)) hgd T.g_with_rest T.F_with_rest.kp T.b_with_rest (fun _ => pass0S) (d_cons (d_var 0) (d_cons (d_var 1) (d_cons (d_fz (d_lc [("_", 5)] sc_long_gains.nd (di_list (d_var 0)) (blkOk_by (N := N_long_gains) (sc := defScope s_long_gains) (by decide +kernel)) (fun _ _ _ _ _ => (dg_nm 5 sc_long_gains.nd)) (fun _ _ _ _ _ => dts_nil) (fun _ _ _ _ _ => (T.c_NOUGHT)))) d_nil))) (len_cons (len_cons (len_cons len_nil))))))))
set_option maxHeartbeats 4000000 in
theorem ok_leads (T : Facts P K mg) : FnG P w K mg base CX0 8 T.f_leads T.d_leads P_leads (spF K 1 w_leads) :=
  fn0 (N := N_leads) (ps := P_leads) (k := 7) 10 1 (sm := m_leads) T.F_leads sc_leads rfl rfl (by decide) fun cdv A outer s H E hr hgd =>
  (ds_cons (ds_setLc 1 [("here", 8), ("gain", 9)] sc_leads.nd (di_zip T.n_zip (d_cons (d_var 0) (d_cons (d_fz (d_call (ok_long_gains T) (hr.mono (by decide)) hgd T.g_long_gains T.F_long_gains.kp T.b_long_gains (fun _ => pass0S) (d_cons (d_var 0) d_nil) (len_cons len_nil))) d_nil))) (blkOk_by (N := N_leads) (sc := defScope s_leads) (by decide +kernel)) (fun _ _ _ _ _ => (dg_tup rfl (dg_cons (dg_nm 8 sc_leads.nd) (dg_cons (dg_nm 9 sc_leads.nd) dg_nil)))) (fun _ _ _ _ _ => dts_nil) (fun _ _ _ _ _ => (d_fz (d_call (ok_minus T) (hr.mono (by decide)) hgd T.g_minus T.F_minus.kp T.b_minus (fun _ => pass0S) (d_cons (d_ixV 8 d_int) (d_cons (d_var 9) d_nil)) (len_cons (len_cons len_nil))))))
  (ds_cons (ds_set 2 sc_leads.nd d_disp0)
  (ds_cons (ds_for PassesOwn.never (di_list (d_call (ok_closed_classes T) (hr.mono (by decide)) hgd T.g_closed_classes T.F_closed_classes.kp T.b_closed_classes (fun _ => pass0S) (d_cons (d_var 0) d_nil) (len_cons len_nil))) (dg_nm 3 sc_leads.nd)
  (ds_cons (ds_set 4 sc_leads.nd (d_add (d_lst (d_cons (T.c_NOUGHT) d_nil)) (d_call (ok_met T) (hr.mono (by decide)) hgd T.g_met T.F_met.kp T.b_met (fun _ => pass0S) (d_cons (d_var 0) (d_cons (d_fz (d_sl (d_var 3) (d_psome d_int) d_pnone)) (d_cons (d_fz (d_dis1 (d_ixV 3 d_int) (T.c_NOUGHT))) (d_cons (d_var 1) d_nil)))) (len_cons (len_cons (len_cons (len_cons len_nil)))))))
  (ds_cons (ds_set 5 sc_leads.nd (d_call (ok_weighed_by T) (hr.mono (by decide)) hgd T.g_weighed_by T.F_weighed_by.kp T.b_weighed_by (fun _ => pass0S) (d_cons (d_fz (d_call (ok_shares_in T) (hr.mono (by decide)) hgd T.g_shares_in T.F_shares_in.kp T.b_shares_in (fun _ => pass0S) (d_cons (d_var 0) (d_cons (d_var 3) d_nil)) (len_cons (len_cons len_nil)))) (d_cons (d_var 4) d_nil)) (len_cons (len_cons len_nil))))
  (ds_one (ds_for PassesOwn.never (di_zip T.n_zip (d_cons (d_var 3) (d_cons (d_var 4) d_nil))) (dg_tup rfl (dg_cons (dg_nm 6 sc_leads.nd) (dg_cons (dg_nm 7 sc_leads.nd) dg_nil)))
  (ds_one (ds_setK 2 (hu_of hr) (d_var 6) (d_call (ok_minus T) (hr.mono (by decide)) hgd T.g_minus T.F_minus.kp T.b_minus (fun _ => pass0S) (d_cons (d_var 7) (d_cons (d_var 5) d_nil)) (len_cons (len_cons len_nil))))))))))
  (ds_one (ds_ret (d_call (ok_with_rest T) (hr.mono (by decide)) hgd T.g_with_rest T.F_with_rest.kp T.b_with_rest (fun _ => pass0S) (d_cons (d_var 0) (d_cons (d_var 2) (d_cons (d_var 1) d_nil))) (len_cons (len_cons (len_cons len_nil)))))))))
set_option maxHeartbeats 4000000 in
theorem ok_is_whole (T : Facts P K mg) : FnG P w K mg base CX0 1 T.f_is_whole T.d_is_whole P_is_whole (spF K 1 w_is_whole) :=
  fn0 (N := N_is_whole) (ps := P_is_whole) (k := 0) 1 1 (sm := m_is_whole) T.F_is_whole sc_is_whole rfl rfl (by decide) fun cdv A outer s H E hr hgd =>
  (ds_one (ds_ret (d_and (d_cb call_isi ok_isi T.n_isinstance (d_cons (d_var 0) (d_cons (d_bltn (v := .ty "int") (u := .type "int") T.n_int) d_nil))) (d_one (d_not (d_cb call_isi ok_isi T.n_isinstance (d_cons (d_var 0) (d_cons (d_bltn (v := .ty "bool") (u := .type "bool") T.n_bool) d_nil))))))))
set_option maxHeartbeats 4000000 in
theorem ok_is_number (T : Facts P K mg) : FnG P w K mg base CX0 2 T.f_is_number T.d_is_number P_is_number (spF K 1 w_is_number) :=
  fn0 (N := N_is_number) (ps := P_is_number) (k := 1) 1 1 (sm := m_is_number) T.F_is_number sc_is_number rfl rfl (by decide) fun cdv A outer s H E hr hgd =>
  (ds_cons (ds_if (dt_w (dw_or (dt_not (dt_tru (d_cb call_isi ok_isi T.n_isinstance (d_cons (d_var 0) (d_cons (d_bltn (v := .ty "tuple") (u := .type "tuple") T.n_tuple) d_nil))))) (dw_or1 (dt_cmp (op_neAll hr.units) ok_ne (d_cbV 0 call_len ok_len T.n_len) d_int))))
  (ds_one (ds_ret d_bl))
  ds_nil)
  (ds_cons (ds_if (dt_w (dw_or (dt_not (dt_tru (d_call (ok_is_whole T) (hr.mono (by decide)) hgd T.g_is_whole T.F_is_whole.kp T.b_is_whole (fun _ => pass0S) (d_cons (d_ixV 0 d_int) d_nil) (len_cons len_nil)))) (dw_or1 (dt_not (dt_tru (d_call (ok_is_whole T) (hr.mono (by decide)) hgd T.g_is_whole T.F_is_whole.kp T.b_is_whole (fun _ => pass0S) (d_cons (d_ixV 0 d_int) d_nil) (len_cons len_nil)))))))
  (ds_one (ds_ret d_bl))
  ds_nil)
  (ds_one (ds_ret (d_and (d_cmp op_ge ok_ge (d_ixV 0 d_int) d_int) (d_one (d_cmp (op_eqAll hr.units) ok_eq (d_cbfun cr_gcd ok_gcd T.n_gcd (d_cons (d_ixV 0 d_int) (d_cons (d_ixV 0 d_int) d_nil))) d_int)))))))
set_option maxHeartbeats 4000000 in
theorem ok_is_short (T : Facts P K mg) : FnG P w K mg base CX0 3 T.f_is_short T.d_is_short P_is_short (spF K 1 w_is_short) :=
  fn0 (N := N_is_short) (ps := P_is_short) (k := 2) 1 1 (sm := m_is_short) T.F_is_short sc_is_short rfl rfl (by decide) fun cdv A outer s H E hr hgd =>
  (ds_one (ds_ret (d_and (d_call (ok_is_number T) (hr.mono (by decide)) hgd T.g_is_number T.F_is_number.kp T.b_is_number (fun _ => pass0S) (d_cons (d_var 0) d_nil) (len_cons len_nil)) (d_and (d_chain op_lt ok_lt op_lt ok_lt (d_neg (T.c_SHORT)) (d_ixV 0 d_int) (T.c_SHORT)) (d_one (d_cmp op_lt ok_lt (d_ixV 0 d_int) (T.c_SHORT)))))))
set_option maxHeartbeats 4000000 in
theorem ok_gained (T : Facts P K mg) : FnG P w K mg base (L2.CX P w) 4 T.f_gained T.d_gained P_gained (spF K 2 w_gained) :=
  fnX (N := N_gained) (ps := P_gained) (k := 3) 6 2 (sm := m_gained) T.F_gained sc_gained rfl rfl (by decide) fun cdv A outer s H E hr hgd =>
  (ds_cons (ds_if (dt_not (dt_tru (d_cb (cr_all rfl) ok_all T.n_all (d_cons (d_fz (d_lc [("gain", 2)] sc_gained.nd (di_list (d_var 1)) (blkOk_by (N := N_gained) (sc := defScope s_gained) (by decide +kernel)) (fun _ _ _ _ _ => (dg_nm 2 sc_gained.nd)) (fun _ _ _ _ _ => dts_nil) (fun _ _ _ _ _ => (d_fz (d_call (ok_is_short T) (hr.mono (by decide)) hgd T.g_is_short T.F_is_short.kp T.b_is_short (fun _ => pass0S) (d_cons (d_var 2) d_nil) (len_cons len_nil)))))) d_nil))))
  (ds_one (ds_raise0 T.X_BadNumber shx_BadNumber T.cl_BadNumber T.n_super hr (takes_of rfl rfl rfl rfl)))
  ds_nil)
  (ds_one (ds_ret (d_lc [("gain", 2), ("old", 3), ("kind", 4), ("branches", 5)] sc_gained.nd (di_zip T.n_zip (d_cons (d_var 1) (d_cons (d_var 0) d_nil))) (blkOk_by (N := N_gained) (sc := defScope s_gained) (by decide +kernel)) (fun _ _ _ _ _ => (dg_tup rfl (dg_cons (dg_nm 2 sc_gained.nd) (dg_cons (dg_tup rfl (dg_cons (dg_nm 3 sc_gained.nd) (dg_cons (dg_nm 4 sc_gained.nd) (dg_cons (dg_nm 5 sc_gained.nd) dg_nil)))) dg_nil)))) (fun _ _ _ _ _ => dts_nil) (fun _ _ _ _ _ => (d_tup (d_cons (d_var 2) (d_cons (d_var 4) (d_cons (d_fz (d_cbty call_list_of ok_list T.n_list (d_cons (d_var 5) d_nil))) d_nil)))))))))
set_option maxHeartbeats 4000000 in
theorem ok_rolled (T : Facts P K mg) : FnG P w K mg base (L2.CX P w) 5 T.f_rolled T.d_rolled P_rolled (spF K 2 w_rolled) :=
  fnX (N := N_rolled) (ps := P_rolled) (k := 4) 10 2 (sm := m_rolled) T.F_rolled sc_rolled rfl rfl (by decide) fun cdv A outer s H E hr hgd =>
  (ds_cons (ds_set 2 sc_rolled.nd (d_lst d_nil))
  (ds_cons (ds_for (passes_of rfl) (di_enum T.n_enumerate (d_cons (d_var 0) d_nil)) (dg_tup rfl (dg_cons (dg_nm 3 sc_rolled.nd) (dg_cons (dg_tup rfl (dg_cons (dg_nm 4 sc_rolled.nd) (dg_cons (dg_nm 5 sc_rolled.nd) (dg_cons (dg_nm 6 sc_rolled.nd) dg_nil)))) dg_nil)))
  (ds_cons (ds_set 7 sc_rolled.nd (d_call (ok_total T) (hr.mono (by decide)) hgd T.g_total T.F_total.kp T.b_total (fun _ => pass0S) (d_cons (d_fz (d_lc [("chance", 8), ("target", 9)] sc_rolled.nd (di_list (d_var 6)) (blkOk_by (N := N_rolled) (sc := defScope s_rolled) (by decide +kernel)) (fun _ _ _ _ _ => (dg_tup rfl (dg_cons (dg_nm 8 sc_rolled.nd) (dg_cons (dg_nm 9 sc_rolled.nd) dg_nil)))) (fun _ _ _ _ _ => dts_nil) (fun _ _ _ _ _ => (d_fz (d_call (ok_times T) (hr.mono (by decide)) hgd T.g_times T.F_times.kp T.b_times (fun _ => pass0S) (d_cons (d_var 8) (d_cons (d_ixV 1 (d_var 9)) d_nil)) (len_cons (len_cons len_nil))))))) d_nil) (len_cons len_nil)))
  (ds_one (ds_app 2 (d_fz (d_call (ok_minus T) (hr.mono (by decide)) hgd T.g_minus T.F_minus.kp T.b_minus (fun _ => pass0S) (d_cons (d_fz (d_call (ok_plus T) (hr.mono (by decide)) hgd T.g_plus T.F_plus.kp T.b_plus (fun _ => pass0S) (d_cons (d_var 4) (d_cons (d_ixV 1 (d_var 3)) d_nil)) (len_cons (len_cons len_nil)))) (d_cons (d_var 7) d_nil)) (len_cons (len_cons len_nil))))))))
  (ds_one (ds_ret (d_call (ok_gained T) (hr.mono (by decide)) hgd T.g_gained T.F_gained.kp T.b_gained (fun σ => passAt (takes_of rfl rfl rfl rfl) σ) (d_cons (d_var 0) (d_cons (d_var 2) d_nil)) (len_cons (len_cons len_nil)))))))
set_option maxHeartbeats 4000000 in
theorem ok__law_plus (T : Facts P K mg) : FnG P w K mg base CX0 3 T.f__law_plus T.d__law_plus P__law_plus (spF K 2 w__law_plus) :=
  fn0 (N := N__law_plus) (ps := P__law_plus) (k := 2) 2 2 (sm := m__law_plus) T.F__law_plus sc__law_plus rfl rfl (by decide) fun cdv A outer s H E hr hgd =>
  (ds_one (ds_ret (d_call (ok__law_number T) (hr.mono (by decide)) hgd T.g__law_number T.F__law_number.kp T.b__law_number (fun _ => pass0S) (d_cons (d_fz (d_add (d_mul (d_ixV 0 d_int) (d_ixV 1 d_int)) (d_mul (d_ixV 1 d_int) (d_ixV 0 d_int)))) (d_cons (d_fz (d_mul (d_ixV 0 d_int) (d_ixV 1 d_int))) d_nil)) (len_cons (len_cons len_nil)))))
set_option maxHeartbeats 4000000 in
theorem ok__law_minus (T : Facts P K mg) : FnG P w K mg base CX0 4 T.f__law_minus T.d__law_minus P__law_minus (spF K 2 w__law_minus) :=
  fn0 (N := N__law_minus) (ps := P__law_minus) (k := 3) 2 2 (sm := m__law_minus) T.F__law_minus sc__law_minus rfl rfl (by decide) fun cdv A outer s H E hr hgd =>
  (ds_one (ds_ret (d_call (ok__law_plus T) (hr.mono (by decide)) hgd T.g__law_plus T.F__law_plus.kp T.b__law_plus (fun _ => pass0S) (d_cons (d_var 0) (d_cons (d_tup (d_cons (d_neg (d_ixV 1 d_int)) (d_cons (d_ixV 1 d_int) d_nil))) d_nil)) (len_cons (len_cons len_nil)))))
set_option maxHeartbeats 4000000 in
theorem ok__law_times (T : Facts P K mg) : FnG P w K mg base CX0 3 T.f__law_times T.d__law_times P__law_times (spF K 2 w__law_times) :=
  fn0 (N := N__law_times) (ps := P__law_times) (k := 2) 2 2 (sm := m__law_times) T.F__law_times sc__law_times rfl rfl (by decide) fun cdv A outer s H E hr hgd =>
  (ds_one (ds_ret (d_call (ok__law_number T) (hr.mono (by decide)) hgd T.g__law_number T.F__law_number.kp T.b__law_number (fun _ => pass0S) (d_cons (d_fz (d_mul (d_ixV 0 d_int) (d_ixV 1 d_int))) (d_cons (d_fz (d_mul (d_ixV 0 d_int) (d_ixV 1 d_int))) d_nil)) (len_cons (len_cons len_nil)))))
set_option maxHeartbeats 4000000 in
theorem ok_law (T : Facts P K mg) : FnG P w K mg base CX0 9 T.f_law T.d_law P_law (spF K 1 w_law) :=
  fn0 (N := N_law) (ps := P_law) (k := 8) 15 1 (sm := m_law) T.F_law sc_law rfl rfl (by decide) fun cdv A outer s H E hr hgd =>
  (ds_cons (ds_set 1 sc_law.nd (d_call (ok__law_draws T) (hr.mono (by decide)) hgd T.g__law_draws T.F__law_draws.kp T.b__law_draws (fun _ => pass0S) (d_cons (d_var 0) (d_cons d_int d_nil)) (len_cons (len_cons len_nil))))
  (ds_cons (ds_set 2 sc_law.nd (d_lc [("_law_gain", 10), ("_law_kind", 11), ("_law_branches", 12)] sc_law.nd (di_list (d_call (ok__law_walk T) (hr.mono (by decide)) hgd T.g__law_walk T.F__law_walk.kp T.b__law_walk (fun _ => pass0S) (d_cons (d_var 1) (d_cons d_int d_nil)) (len_cons (len_cons len_nil)))) (blkOk_by (N := N_law) (sc := defScope s_law) (by decide +kernel)) (fun _ _ _ _ _ => (dg_tup rfl (dg_cons (dg_nm 10 sc_law.nd) (dg_cons (dg_nm 11 sc_law.nd) (dg_cons (dg_nm 12 sc_law.nd) dg_nil))))) (fun _ _ _ _ _ => dts_nil) (fun _ _ _ _ _ => (d_tup (d_cons (d_tup (d_cons (d_ixV 10 d_int) (d_cons d_int d_nil))) (d_cons (d_var 11) (d_cons (d_var 12) d_nil)))))))
  (ds_cons (ds_set 3 sc_law.nd (d_lc [("_law_k", 13)] sc_law.nd (di_range1 T.n_range (d_cons (d_fz (d_cbV 2 call_len ok_len T.n_len)) d_nil)) (blkOk_by (N := N_law) (sc := defScope s_law) (by decide +kernel)) (fun _ _ _ _ _ => (dg_nm 13 sc_law.nd)) (fun _ _ _ _ _ => dts_nil) (fun _ _ _ _ _ => (d_fz (d_call (ok__law_number T) (hr.mono (by decide)) hgd T.g__law_number T.F__law_number.kp T.b__law_number (fun _ => pass0S) (d_cons (d_fz (d_sub (d_mod (d_cbty call_int1 ok_int T.n_int (d_cons (d_ixV 1 (d_add d_int (d_var 13))) d_nil)) d_int) d_int)) (d_cons (d_fz (d_add d_int (d_mod (d_cbty call_int1 ok_int T.n_int (d_cons (d_ixV 1 d_int) d_nil)) d_int))) d_nil)) (len_cons (len_cons len_nil)))))))
  (ds_cons (ds_asg (d_tupC (d_cons (d_call (ok_long_gains T) (hr.mono (by decide)) hgd T.g_long_gains T.F_long_gains.kp T.b_long_gains (fun _ => pass0S) (d_cons (d_var 2) d_nil) (len_cons len_nil)) (d_cons (d_call (ok_leads T) (hr.mono (by decide)) hgd T.g_leads T.F_leads.kp T.b_leads (fun _ => pass0S) (d_cons (d_var 2) d_nil) (len_cons len_nil)) d_nil))) (dg_tup rfl (dg_cons (dg_nm 4 sc_law.nd) (dg_cons (dg_nm 5 sc_law.nd) dg_nil))))
  (ds_cons (ds_set 6 sc_law.nd (d_call (ok_long_gains T) (hr.mono (by decide)) hgd T.g_long_gains T.F_long_gains.kp T.b_long_gains (fun _ => pass0S) (d_cons (d_fz (d_lc [("_law_k", 13)] sc_law.nd (di_range1 T.n_range (d_cons (d_fz (d_cbV 2 call_len ok_len T.n_len)) d_nil)) (blkOk_by (N := N_law) (sc := defScope s_law) (by decide +kernel)) (fun _ _ _ _ _ => (dg_nm 13 sc_law.nd)) (fun _ _ _ _ _ => dts_nil) (fun _ _ _ _ _ => (d_tup (d_cons (d_ixV 3 (d_var 13)) (d_cons d_str (d_cons (d_ix (d_ixV 2 (d_var 13)) d_int) d_nil))))))) d_nil) (len_cons len_nil)))
  (ds_cons (ds_set 7 sc_law.nd (d_call (ok_rolled T) (hr.mono (by decide)) hgd T.g_rolled T.F_rolled.kp T.b_rolled (fun σ => passAt (takes0) σ) (d_cons (d_var 2) (d_cons (d_var 3) d_nil)) (len_cons (len_cons len_nil))))
  (ds_cons (ds_if (dt_cmp (op_neAll hr.units) ok_ne (d_call (ok_long_gains T) (hr.mono (by decide)) hgd T.g_long_gains T.F_long_gains.kp T.b_long_gains (fun _ => pass0S) (d_cons (d_var 7) d_nil) (len_cons len_nil)) (d_var 4))
  (ds_one (ds_ret d_bl))
  ds_nil)
  (ds_cons (ds_if (dt_cmp (op_neAll hr.units) ok_ne (d_call (ok_leads T) (hr.mono (by decide)) hgd T.g_leads T.F_leads.kp T.b_leads (fun _ => pass0S) (d_cons (d_var 7) d_nil) (len_cons len_nil)) (d_lc [("_law_k", 13)] sc_law.nd (di_range1 T.n_range (d_cons (d_fz (d_cbV 2 call_len ok_len T.n_len)) d_nil)) (blkOk_by (N := N_law) (sc := defScope s_law) (by decide +kernel)) (fun _ _ _ _ _ => (dg_nm 13 sc_law.nd)) (fun _ _ _ _ _ => dts_nil) (fun _ _ _ _ _ => (d_fz (d_call (ok__law_minus T) (hr.mono (by decide)) hgd T.g__law_minus T.F__law_minus.kp T.b__law_minus (fun _ => pass0S) (d_cons (d_fz (d_call (ok__law_plus T) (hr.mono (by decide)) hgd T.g__law_plus T.F__law_plus.kp T.b__law_plus (fun _ => pass0S) (d_cons (d_ixV 5 (d_var 13)) (d_cons (d_ixV 3 (d_var 13)) d_nil)) (len_cons (len_cons len_nil)))) (d_cons (d_ixV 6 (d_var 13)) d_nil)) (len_cons (len_cons len_nil)))))))
  (ds_one (ds_ret d_bl))
  ds_nil)
  (ds_cons (ds_set 8 sc_law.nd (d_call (ok__law_number T) (hr.mono (by decide)) hgd T.g__law_number T.F__law_number.kp T.b__law_number (fun _ => pass0S) (d_cons (d_fz (d_sub (d_mod (d_cbty call_int1 ok_int T.n_int (d_cons (d_ixV 1 d_int) d_nil)) d_int) d_int)) (d_cons (d_fz (d_add d_int (d_mod (d_cbty call_int1 ok_int T.n_int (d_cons (d_ixV 1 d_int) d_nil)) d_int))) d_nil)) (len_cons (len_cons len_nil))))
  (ds_cons (ds_setLc 9 [("_law_gain", 10), ("_law_kind", 11), ("_law_branches", 12)] sc_law.nd (di_list (d_var 2)) (blkOk_by (N := N_law) (sc := defScope s_law) (by decide +kernel)) (fun _ _ _ _ _ => (dg_tup rfl (dg_cons (dg_nm 10 sc_law.nd) (dg_cons (dg_nm 11 sc_law.nd) (dg_cons (dg_nm 12 sc_law.nd) dg_nil))))) (fun _ _ _ _ _ => dts_nil) (fun _ _ _ _ _ => (d_tup (d_cons (d_fz (d_call (ok__law_plus T) (hr.mono (by decide)) hgd T.g__law_plus T.F__law_plus.kp T.b__law_plus (fun _ => pass0S) (d_cons (d_var 10) (d_cons (d_var 8) d_nil)) (len_cons (len_cons len_nil)))) (d_cons (d_var 11) (d_cons (d_var 12) d_nil))))))
  (ds_cons (ds_if (dt_w (dw_or (dt_cmp (op_neAll hr.units) ok_ne (d_call (ok_long_gains T) (hr.mono (by decide)) hgd T.g_long_gains T.F_long_gains.kp T.b_long_gains (fun _ => pass0S) (d_cons (d_var 9) d_nil) (len_cons len_nil)) (d_lc [("_law_one", 14)] sc_law.nd (di_list (d_var 4)) (blkOk_by (N := N_law) (sc := defScope s_law) (by decide +kernel)) (fun _ _ _ _ _ => (dg_nm 14 sc_law.nd)) (fun _ _ _ _ _ => dts_nil) (fun _ _ _ _ _ => (d_fz (d_call (ok__law_plus T) (hr.mono (by decide)) hgd T.g__law_plus T.F__law_plus.kp T.b__law_plus (fun _ => pass0S) (d_cons (d_var 14) (d_cons (d_var 8) d_nil)) (len_cons (len_cons len_nil))))))) (dw_or1 (dt_cmp (op_neAll hr.units) ok_ne (d_call (ok_leads T) (hr.mono (by decide)) hgd T.g_leads T.F_leads.kp T.b_leads (fun _ => pass0S) (d_cons (d_var 9) d_nil) (len_cons len_nil)) (d_var 5)))))
  (ds_one (ds_ret d_bl))
  ds_nil)
  (ds_cons (ds_setLc 9 [("_law_gain", 10), ("_law_kind", 11), ("_law_branches", 12)] sc_law.nd (di_list (d_var 2)) (blkOk_by (N := N_law) (sc := defScope s_law) (by decide +kernel)) (fun _ _ _ _ _ => (dg_tup rfl (dg_cons (dg_nm 10 sc_law.nd) (dg_cons (dg_nm 11 sc_law.nd) (dg_cons (dg_nm 12 sc_law.nd) dg_nil))))) (fun _ _ _ _ _ => dts_nil) (fun _ _ _ _ _ => (d_tup (d_cons (d_fz (d_call (ok__law_times T) (hr.mono (by decide)) hgd T.g__law_times T.F__law_times.kp T.b__law_times (fun _ => pass0S) (d_cons (d_var 10) (d_cons (d_var 8) d_nil)) (len_cons (len_cons len_nil)))) (d_cons (d_var 11) (d_cons (d_var 12) d_nil))))))
  (ds_one (ds_ret (d_and (d_cmp (op_eqAll hr.units) ok_eq (d_call (ok_long_gains T) (hr.mono (by decide)) hgd T.g_long_gains T.F_long_gains.kp T.b_long_gains (fun _ => pass0S) (d_cons (d_var 9) d_nil) (len_cons len_nil)) (d_lc [("_law_one", 14)] sc_law.nd (di_list (d_var 4)) (blkOk_by (N := N_law) (sc := defScope s_law) (by decide +kernel)) (fun _ _ _ _ _ => (dg_nm 14 sc_law.nd)) (fun _ _ _ _ _ => dts_nil) (fun _ _ _ _ _ => (d_fz (d_call (ok__law_times T) (hr.mono (by decide)) hgd T.g__law_times T.F__law_times.kp T.b__law_times (fun _ => pass0S) (d_cons (d_var 14) (d_cons (d_var 8) d_nil)) (len_cons (len_cons len_nil))))))) (d_one (d_cmp (op_eqAll hr.units) ok_eq (d_call (ok_leads T) (hr.mono (by decide)) hgd T.g_leads T.F_leads.kp T.b_leads (fun _ => pass0S) (d_cons (d_var 9) d_nil) (len_cons len_nil)) (d_lc [("_law_one", 14)] sc_law.nd (di_list (d_var 5)) (blkOk_by (N := N_law) (sc := defScope s_law) (by decide +kernel)) (fun _ _ _ _ _ => (dg_nm 14 sc_law.nd)) (fun _ _ _ _ _ => dts_nil) (fun _ _ _ _ _ => (d_fz (d_call (ok__law_times T) (hr.mono (by decide)) hgd T.g__law_times T.F__law_times.kp T.b__law_times (fun _ => pass0S) (d_cons (d_var 14) (d_cons (d_var 8) d_nil)) (len_cons (len_cons len_nil)))))))))))))))))))))))
end
/-! ### what the top has written -/
set_option maxHeartbeats 8000000 in
theorem all_mk {l : PySem.W.OpenLaw} {w : World} {K : PySem.W.Frag} {h : Heap} {mg : Str → Option Value} {fa f1 f2 f3 f4 f5 f6 f7 f8 f9 f10 f11 f12 f13 f14 f15 f16 f17 f18 f19 f20 f21 f22 f23 f24 f25 f26 f27 f28 f29 f30 xC0 xI0 xN0 xK0 xc0 : Addr} (X : K.In h) (G : h.Ns mainGlobals mg) (hfa : mg "law" = some (.ref fa))
    {od1 an1 od2 an2 od3 an3 od4 an4 od5 an5 od6 an6 od7 an7 od8 an8 od9 an9 od10 an10 od11 an11 od12 an12 od13 an13 od14 an14 od15 an15 od16 an16 od17 an17 od18 an18 od19 an19 od20 an20 od21 an21 od22 an22 od23 an23 od24 an24 od25 an25 od26 an26 od27 an27 od28 an28 od29 an29 od30 an30 : Option Addr} {sl1 sl2 sl3 sl4 sl5 sl6 sl7 sl8 sl9 sl10 sl11 sl12 sl13 sl14 sl15 sl16 sl17 sl18 sl19 sl20 sl21 sl22 sl23 sl24 sl25 sl26 sl27 sl28 sl29 sl30 : Array (Option Value)} {oc1 kV1 dc1 pm1 cd1 ct1 oc2 kV2 dc2 pm2 cd2 ct2 oc3 kV3 dc3 pm3 cd3 ct3 oc4 kV4 dc4 pm4 cd4 ct4 oc5 kV5 dc5 pm5 cd5 ct5 oc6 kV6 dc6 pm6 cd6 ct6 oc7 kV7 dc7 pm7 cd7 ct7 oc8 kV8 dc8 pm8 cd8 ct8 oc9 kV9 dc9 pm9 cd9 ct9 oc10 kV10 dc10 pm10 cd10 ct10 oc11 kV11 dc11 pm11 cd11 ct11 oc12 kV12 dc12 pm12 cd12 ct12 oc13 kV13 dc13 pm13 cd13 ct13 oc14 kV14 dc14 pm14 cd14 ct14 oc15 kV15 dc15 pm15 cd15 ct15 oc16 kV16 dc16 pm16 cd16 ct16 oc17 kV17 dc17 pm17 cd17 ct17 oc18 kV18 dc18 pm18 cd18 ct18 oc19 kV19 dc19 pm19 cd19 ct19 oc20 kV20 dc20 pm20 cd20 ct20 oc21 kV21 dc21 pm21 cd21 ct21 oc22 kV22 dc22 pm22 cd22 ct22 oc23 kV23 dc23 pm23 cd23 ct23 oc24 kV24 dc24 pm24 cd24 ct24 oc25 kV25 dc25 pm25 cd25 ct25 oc26 kV26 dc26 pm26 cd26 ct26 oc27 kV27 dc27 pm27 cd27 ct27 oc28 kV28 dc28 pm28 cd28 ct28 oc29 kV29 dc29 pm29 cd29 ct29 oc30 kV30 dc30 pm30 cd30 ct30 : Value} {ca0 : Addr} {cn0 : Nat} {cs0 : Array (Option Value)} {co0 : Option Addr} {tc0_0 tc0_1 : Tok} {ca1 : Addr} {cn1 : Nat} {cs1 : Array (Option Value)} {co1 : Option Addr} {tc1_0 tc1_1 : Tok} {tc2 : Tok} {xn0 xq0 : Str} {xb0 xm0 : List Value} {xs0 : List Str} {xu0 : List Value} {xa0 : Bool} {xo0 : Option Bool} {xd0 : Option Addr} {xk00 xk10 xk20 xk30 xk50 : Option Value} {xoc0 : Value} {xod0 : Option Addr} {xdo0 xpm0 : Value} {xan0 : Option Addr} {xct0 : Value} {xol0 : Array (Option Value)} {xcl0 : Value} {xcd0 : Option Addr} {xvs0 : Array Value} {xcs0 : Array (Option Value)} {xfi0 : Str} {xtf0 : Tok} {xel0 : Value} {xed0 : Option Addr} {xes0 : Array (Option Value)}
    (a1 : PySem.W.nsIn K mainGlobals "_law_draws" = some (some (.ref f1))) (l1 : K.lookup f1 = some ⟨oc1, od1, .func (PySem.W.fnOf "_law_draws" "_law_draws" (defArgs s__law_draws) (defBody s__law_draws) (defScope s__law_draws) .none kV1 dc1 pm1 an1 cd1 ct1), sl1⟩) (c1 : PySem.W.codeIn K cd1 "_law_draws" = true) (k1 : PySem.W.keepIn K (.ref f1) = true)
    (a2 : PySem.W.nsIn K mainGlobals "_law_gcd" = some (some (.ref f2))) (l2 : K.lookup f2 = some ⟨oc2, od2, .func (PySem.W.fnOf "_law_gcd" "_law_gcd" (defArgs s__law_gcd) (defBody s__law_gcd) (defScope s__law_gcd) .none kV2 dc2 pm2 an2 cd2 ct2), sl2⟩) (c2 : PySem.W.codeIn K cd2 "_law_gcd" = true) (k2 : PySem.W.keepIn K (.ref f2) = true)
    (a3 : PySem.W.nsIn K mainGlobals "_law_number" = some (some (.ref f3))) (l3 : K.lookup f3 = some ⟨oc3, od3, .func (PySem.W.fnOf "_law_number" "_law_number" (defArgs s__law_number) (defBody s__law_number) (defScope s__law_number) .none kV3 dc3 pm3 an3 cd3 ct3), sl3⟩) (c3 : PySem.W.codeIn K cd3 "_law_number" = true) (k3 : PySem.W.keepIn K (.ref f3) = true)
    (a4 : PySem.W.nsIn K mainGlobals "_law_walk" = some (some (.ref f4))) (l4 : K.lookup f4 = some ⟨oc4, od4, .func (PySem.W.fnOf "_law_walk" "_law_walk" (defArgs s__law_walk) (defBody s__law_walk) (defScope s__law_walk) .none kV4 dc4 pm4 an4 cd4 ct4), sl4⟩) (c4 : PySem.W.codeIn K cd4 "_law_walk" = true) (k4 : PySem.W.keepIn K (.ref f4) = true)
    (a5 : PySem.W.nsIn K mainGlobals "targets" = some (some (.ref f5))) (l5 : K.lookup f5 = some ⟨oc5, od5, .func (PySem.W.fnOf "targets" "targets" (defArgs s_targets) (defBody s_targets) (defScope s_targets) .none kV5 dc5 pm5 an5 cd5 ct5), sl5⟩) (c5 : PySem.W.codeIn K cd5 "targets" = true) (k5 : PySem.W.keepIn K (.ref f5) = true)
    (a6 : PySem.W.nsIn K mainGlobals "reached" = some (some (.ref f6))) (l6 : K.lookup f6 = some ⟨oc6, od6, .func (PySem.W.fnOf "reached" "reached" (defArgs s_reached) (defBody s_reached) (defScope s_reached) .none kV6 dc6 pm6 an6 cd6 ct6), sl6⟩) (c6 : PySem.W.codeIn K cd6 "reached" = true) (k6 : PySem.W.keepIn K (.ref f6) = true)
    (a7 : PySem.W.nsIn K mainGlobals "closed_classes" = some (some (.ref f7))) (l7 : K.lookup f7 = some ⟨oc7, od7, .func (PySem.W.fnOf "closed_classes" "closed_classes" (defArgs s_closed_classes) (defBody s_closed_classes) (defScope s_closed_classes) .none kV7 dc7 pm7 an7 cd7 ct7), sl7⟩) (c7 : PySem.W.codeIn K cd7 "closed_classes" = true) (k7 : PySem.W.keepIn K (.ref f7) = true)
    (a8 : PySem.W.nsIn K mainGlobals "number" = some (some (.ref f8))) (l8 : K.lookup f8 = some ⟨oc8, od8, .func (PySem.W.fnOf "number" "number" (defArgs s_number) (defBody s_number) (defScope s_number) .none kV8 dc8 pm8 an8 cd8 ct8), sl8⟩) (c8 : PySem.W.codeIn K cd8 "number" = true) (k8 : PySem.W.keepIn K (.ref f8) = true)
    (a9 : PySem.W.nsIn K mainGlobals "plus" = some (some (.ref f9))) (l9 : K.lookup f9 = some ⟨oc9, od9, .func (PySem.W.fnOf "plus" "plus" (defArgs s_plus) (defBody s_plus) (defScope s_plus) .none kV9 dc9 pm9 an9 cd9 ct9), sl9⟩) (c9 : PySem.W.codeIn K cd9 "plus" = true) (k9 : PySem.W.keepIn K (.ref f9) = true)
    (a10 : PySem.W.nsIn K mainGlobals "total" = some (some (.ref f10))) (l10 : K.lookup f10 = some ⟨oc10, od10, .func (PySem.W.fnOf "total" "total" (defArgs s_total) (defBody s_total) (defScope s_total) .none kV10 dc10 pm10 an10 cd10 ct10), sl10⟩) (c10 : PySem.W.codeIn K cd10 "total" = true) (k10 : PySem.W.keepIn K (.ref f10) = true)
    (a11 : PySem.W.nsIn K mainGlobals "times" = some (some (.ref f11))) (l11 : K.lookup f11 = some ⟨oc11, od11, .func (PySem.W.fnOf "times" "times" (defArgs s_times) (defBody s_times) (defScope s_times) .none kV11 dc11 pm11 an11 cd11 ct11), sl11⟩) (c11 : PySem.W.codeIn K cd11 "times" = true) (k11 : PySem.W.keepIn K (.ref f11) = true)
    (a12 : PySem.W.nsIn K mainGlobals "weighed_by" = some (some (.ref f12))) (l12 : K.lookup f12 = some ⟨oc12, od12, .func (PySem.W.fnOf "weighed_by" "weighed_by" (defArgs s_weighed_by) (defBody s_weighed_by) (defScope s_weighed_by) .none kV12 dc12 pm12 an12 cd12 ct12), sl12⟩) (c12 : PySem.W.codeIn K cd12 "weighed_by" = true) (k12 : PySem.W.keepIn K (.ref f12) = true)
    (a13 : PySem.W.nsIn K mainGlobals "minus" = some (some (.ref f13))) (l13 : K.lookup f13 = some ⟨oc13, od13, .func (PySem.W.fnOf "minus" "minus" (defArgs s_minus) (defBody s_minus) (defScope s_minus) .none kV13 dc13 pm13 an13 cd13 ct13), sl13⟩) (c13 : PySem.W.codeIn K cd13 "minus" = true) (k13 : PySem.W.keepIn K (.ref f13) = true)
    (a14 : PySem.W.nsIn K mainGlobals "divided" = some (some (.ref f14))) (l14 : K.lookup f14 = some ⟨oc14, od14, .func (PySem.W.fnOf "divided" "divided" (defArgs s_divided) (defBody s_divided) (defScope s_divided) .none kV14 dc14 pm14 an14 cd14 ct14), sl14⟩) (c14 : PySem.W.codeIn K cd14 "divided" = true) (k14 : PySem.W.keepIn K (.ref f14) = true)
    (a15 : PySem.W.nsIn K mainGlobals "lessened" = some (some (.ref f15))) (l15 : K.lookup f15 = some ⟨oc15, od15, .func (PySem.W.fnOf "lessened" "lessened" (defArgs s_lessened) (defBody s_lessened) (defScope s_lessened) .none kV15 dc15 pm15 an15 cd15 ct15), sl15⟩) (c15 : PySem.W.codeIn K cd15 "lessened" = true) (k15 : PySem.W.keepIn K (.ref f15) = true)
    (a16 : PySem.W.nsIn K mainGlobals "solved" = some (some (.ref f16))) (l16 : K.lookup f16 = some ⟨oc16, od16, .func (PySem.W.fnOf "solved" "solved" (defArgs s_solved) (defBody s_solved) (defScope s_solved) .none kV16 dc16 pm16 an16 cd16 ct16), sl16⟩) (c16 : PySem.W.codeIn K cd16 "solved" = true) (k16 : PySem.W.keepIn K (.ref f16) = true)
    (a17 : PySem.W.nsIn K mainGlobals "shares_in" = some (some (.ref f17))) (l17 : K.lookup f17 = some ⟨oc17, od17, .func (PySem.W.fnOf "shares_in" "shares_in" (defArgs s_shares_in) (defBody s_shares_in) (defScope s_shares_in) .none kV17 dc17 pm17 an17 cd17 ct17), sl17⟩) (c17 : PySem.W.codeIn K cd17 "shares_in" = true) (k17 : PySem.W.keepIn K (.ref f17) = true)
    (a18 : PySem.W.nsIn K mainGlobals "met" = some (some (.ref f18))) (l18 : K.lookup f18 = some ⟨oc18, od18, .func (PySem.W.fnOf "met" "met" (defArgs s_met) (defBody s_met) (defScope s_met) .none kV18 dc18 pm18 an18 cd18 ct18), sl18⟩) (c18 : PySem.W.codeIn K cd18 "met" = true) (k18 : PySem.W.keepIn K (.ref f18) = true)
    (a19 : PySem.W.nsIn K mainGlobals "with_rest" = some (some (.ref f19))) (l19 : K.lookup f19 = some ⟨oc19, od19, .func (PySem.W.fnOf "with_rest" "with_rest" (defArgs s_with_rest) (defBody s_with_rest) (defScope s_with_rest) .none kV19 dc19 pm19 an19 cd19 ct19), sl19⟩) (c19 : PySem.W.codeIn K cd19 "with_rest" = true) (k19 : PySem.W.keepIn K (.ref f19) = true)
    (a20 : PySem.W.nsIn K mainGlobals "long_gains" = some (some (.ref f20))) (l20 : K.lookup f20 = some ⟨oc20, od20, .func (PySem.W.fnOf "long_gains" "long_gains" (defArgs s_long_gains) (defBody s_long_gains) (defScope s_long_gains) .none kV20 dc20 pm20 an20 cd20 ct20), sl20⟩) (c20 : PySem.W.codeIn K cd20 "long_gains" = true) (k20 : PySem.W.keepIn K (.ref f20) = true)
    (a21 : PySem.W.nsIn K mainGlobals "leads" = some (some (.ref f21))) (l21 : K.lookup f21 = some ⟨oc21, od21, .func (PySem.W.fnOf "leads" "leads" (defArgs s_leads) (defBody s_leads) (defScope s_leads) .none kV21 dc21 pm21 an21 cd21 ct21), sl21⟩) (c21 : PySem.W.codeIn K cd21 "leads" = true) (k21 : PySem.W.keepIn K (.ref f21) = true)
    (a22 : PySem.W.nsIn K mainGlobals "is_whole" = some (some (.ref f22))) (l22 : K.lookup f22 = some ⟨oc22, od22, .func (PySem.W.fnOf "is_whole" "is_whole" (defArgs s_is_whole) (defBody s_is_whole) (defScope s_is_whole) .none kV22 dc22 pm22 an22 cd22 ct22), sl22⟩) (c22 : PySem.W.codeIn K cd22 "is_whole" = true) (k22 : PySem.W.keepIn K (.ref f22) = true)
    (a23 : PySem.W.nsIn K mainGlobals "is_number" = some (some (.ref f23))) (l23 : K.lookup f23 = some ⟨oc23, od23, .func (PySem.W.fnOf "is_number" "is_number" (defArgs s_is_number) (defBody s_is_number) (defScope s_is_number) .none kV23 dc23 pm23 an23 cd23 ct23), sl23⟩) (c23 : PySem.W.codeIn K cd23 "is_number" = true) (k23 : PySem.W.keepIn K (.ref f23) = true)
    (a24 : PySem.W.nsIn K mainGlobals "is_short" = some (some (.ref f24))) (l24 : K.lookup f24 = some ⟨oc24, od24, .func (PySem.W.fnOf "is_short" "is_short" (defArgs s_is_short) (defBody s_is_short) (defScope s_is_short) .none kV24 dc24 pm24 an24 cd24 ct24), sl24⟩) (c24 : PySem.W.codeIn K cd24 "is_short" = true) (k24 : PySem.W.keepIn K (.ref f24) = true)
    (a25 : PySem.W.nsIn K mainGlobals "gained" = some (some (.ref f25))) (l25 : K.lookup f25 = some ⟨oc25, od25, .func (PySem.W.fnOf "gained" "gained" (defArgs s_gained) (defBody s_gained) (defScope s_gained) .none kV25 dc25 pm25 an25 cd25 ct25), sl25⟩) (c25 : PySem.W.codeIn K cd25 "gained" = true) (k25 : PySem.W.keepIn K (.ref f25) = true)
    (a26 : PySem.W.nsIn K mainGlobals "rolled" = some (some (.ref f26))) (l26 : K.lookup f26 = some ⟨oc26, od26, .func (PySem.W.fnOf "rolled" "rolled" (defArgs s_rolled) (defBody s_rolled) (defScope s_rolled) .none kV26 dc26 pm26 an26 cd26 ct26), sl26⟩) (c26 : PySem.W.codeIn K cd26 "rolled" = true) (k26 : PySem.W.keepIn K (.ref f26) = true)
    (a27 : PySem.W.nsIn K mainGlobals "_law_plus" = some (some (.ref f27))) (l27 : K.lookup f27 = some ⟨oc27, od27, .func (PySem.W.fnOf "_law_plus" "_law_plus" (defArgs s__law_plus) (defBody s__law_plus) (defScope s__law_plus) .none kV27 dc27 pm27 an27 cd27 ct27), sl27⟩) (c27 : PySem.W.codeIn K cd27 "_law_plus" = true) (k27 : PySem.W.keepIn K (.ref f27) = true)
    (a28 : PySem.W.nsIn K mainGlobals "_law_minus" = some (some (.ref f28))) (l28 : K.lookup f28 = some ⟨oc28, od28, .func (PySem.W.fnOf "_law_minus" "_law_minus" (defArgs s__law_minus) (defBody s__law_minus) (defScope s__law_minus) .none kV28 dc28 pm28 an28 cd28 ct28), sl28⟩) (c28 : PySem.W.codeIn K cd28 "_law_minus" = true) (k28 : PySem.W.keepIn K (.ref f28) = true)
    (a29 : PySem.W.nsIn K mainGlobals "_law_times" = some (some (.ref f29))) (l29 : K.lookup f29 = some ⟨oc29, od29, .func (PySem.W.fnOf "_law_times" "_law_times" (defArgs s__law_times) (defBody s__law_times) (defScope s__law_times) .none kV29 dc29 pm29 an29 cd29 ct29), sl29⟩) (c29 : PySem.W.codeIn K cd29 "_law_times" = true) (k29 : PySem.W.keepIn K (.ref f29) = true)
    (a30 : PySem.W.nsIn K mainGlobals "law" = some (some (.ref f30))) (l30 : K.lookup f30 = some ⟨oc30, od30, .func (PySem.W.fnOf "law" "law" (defArgs s_law) (defBody s_law) (defScope s_law) .none kV30 dc30 pm30 an30 cd30 ct30), sl30⟩) (c30 : PySem.W.codeIn K cd30 "law" = true) (k30 : PySem.W.keepIn K (.ref f30) = true)
    (z0 : PySem.W.nsIn K mainGlobals "range" = some none)
    (z1 : PySem.W.nsIn K mainGlobals "len" = some none)
    (z2 : PySem.W.nsIn K mainGlobals "int" = some none)
    (z3 : PySem.W.nsIn K mainGlobals "abs" = some none)
    (z4 : PySem.W.nsIn K mainGlobals "sum" = some none)
    (z5 : PySem.W.nsIn K mainGlobals "list" = some none)
    (z6 : PySem.W.nsIn K mainGlobals "sorted" = some none)
    (z7 : PySem.W.nsIn K mainGlobals "enumerate" = some none)
    (z8 : PySem.W.nsIn K mainGlobals "all" = some none)
    (z9 : PySem.W.nsIn K mainGlobals "gcd" = some (some (.builtin "math.gcd")))
    (z10 : PySem.W.nsIn K mainGlobals "zip" = some none)
    (z11 : PySem.W.nsIn K mainGlobals "dict" = some none)
    (z12 : PySem.W.nsIn K mainGlobals "isinstance" = some none)
    (z13 : PySem.W.nsIn K mainGlobals "bool" = some none)
    (z14 : PySem.W.nsIn K mainGlobals "tuple" = some none)
    (q0 : PySem.W.nsIn K mainGlobals "NOUGHT" = some (some (.ref ca0))) (r0 : K.lookup ca0 = some ⟨.type "tuple", co0, .seq #[.int 0 tc0_0, .int 1 tc0_1] cn0, cs0⟩)
    (q1 : PySem.W.nsIn K mainGlobals "ONE" = some (some (.ref ca1))) (r1 : K.lookup ca1 = some ⟨.type "tuple", co1, .seq #[.int 1 tc1_0, .int 1 tc1_1] cn1, cs1⟩)
    (q2 : PySem.W.nsIn K mainGlobals "SHORT" = some (some (.int 1000 tc2)))
    (kca0 : PySem.W.nsIn K mainGlobals "BadNumber" = some (some (.ref xC0)))
    (xl0 : K.lookup xC0 = some (excClassObj xn0 xq0 xC0 xN0 xb0 xm0 true xs0 xu0 xa0 xo0 xd0 xk00 xk10 xk20 xk30 xk50 "ValueError.__new__"))
    (xr0 : PySem.HandSPX.refsVE xm0 = true)
    (xsa0 : PySem.W.findIn K (.ref xC0) "__setattr__" = some (some (.builtin "object.__setattr__")))
    (xi0 : PySem.W.findIn K (.ref xC0) "__init__" = some (some (.ref xI0)))
    (xt0 : PySem.W.typeIn K (.ref xI0) = some (.type "function"))
    (xk0 : PySem.W.keepIn K (.ref xC0) = true)
    (xe0 : PySem.W.subIn K (.ref xC0) (.type "BaseException") = some true)
    (xv0 : PySem.W.subIn K (.ref xC0) (.type "ValueError") = some true)
    (xty0 : PySem.W.typeIn K (.ref xC0) = some (.type "type"))
    (xsu0 : PySem.W.ks_superIn K xC0 xC0 "__init__" = some (some (.builtin "ValueError.__init__")))
    (xop0 : PySem.W.nsIn K cStatics "thirdparty.any" = some none)
    (xtp0 : (l.prog.main.scope.names.lookup ("super" : Str)).isSome = false)
    (xfn0 : K.lookup xI0 = some ⟨xoc0, xod0, .func (PySem.W.ksFn "__init__" "BadNumber.__init__" (defArgs i_BadNumber) (defBody i_BadNumber) (defScope i_BadNumber) .none .none xdo0 xpm0 xan0 (.ref xK0) xct0 xc0), xol0⟩)
    (xco0 : PySem.W.codeIn K (.ref xK0) "BadNumber.__init__" = true)
    (xlk0 : K.lookup xK0 = some ⟨xcl0, xcd0, .fields xvs0, xcs0⟩)
    (xfl0 : xvs0[2]? = some (.str xfi0 xtf0))
    (xfe0 : ((l.prog.main.file : Str) == xfi0) = true)
    (xce0 : K.lookup xc0 = some ⟨xel0, xed0, .cell (some (.ref xC0)), xes0⟩)
    (xga0 : PySem.W.findIn K (.ref xC0) "__getattribute__" = some (some (.builtin "BaseException.__getattribute__")))
    (xgg0 : PySem.W.findIn K (.ref xC0) "__getattr__" = some none)
    (xhd0 : PySem.W.hasDictIn K xC0 = true)
    (xsp : PySem.W.nsIn K mainGlobals "super" = some none) :
    ∃ fd : FuncData, (∀ (s : Shared) (v : Value), BindsTo s fd ⟨[v], []⟩ [("_law_script", v)]) ∧ ∀ base : Heap, K.In base → base.Ns mainGlobals mg → FnG l.prog w K mg base CX0 9 fa fd ["_law_script"] (spF K 1 w_law) := by
  have e := hfa.symm.trans (PySem.W.mg_of X G a30)
  cases e
  have F1 := fun_mk (st := s__law_draws) l1 c1 k1
  have F2 := fun_mk (st := s__law_gcd) l2 c2 k2
  have F3 := fun_mk (st := s__law_number) l3 c3 k3
  have F4 := fun_mk (st := s__law_walk) l4 c4 k4
  have F5 := fun_mk (st := s_targets) l5 c5 k5
  have F6 := fun_mk (st := s_reached) l6 c6 k6
  have F7 := fun_mk (st := s_closed_classes) l7 c7 k7
  have F8 := fun_mk (st := s_number) l8 c8 k8
  have F9 := fun_mk (st := s_plus) l9 c9 k9
  have F10 := fun_mk (st := s_total) l10 c10 k10
  have F11 := fun_mk (st := s_times) l11 c11 k11
  have F12 := fun_mk (st := s_weighed_by) l12 c12 k12
  have F13 := fun_mk (st := s_minus) l13 c13 k13
  have F14 := fun_mk (st := s_divided) l14 c14 k14
  have F15 := fun_mk (st := s_lessened) l15 c15 k15
  have F16 := fun_mk (st := s_solved) l16 c16 k16
  have F17 := fun_mk (st := s_shares_in) l17 c17 k17
  have F18 := fun_mk (st := s_met) l18 c18 k18
  have F19 := fun_mk (st := s_with_rest) l19 c19 k19
  have F20 := fun_mk (st := s_long_gains) l20 c20 k20
  have F21 := fun_mk (st := s_leads) l21 c21 k21
  have F22 := fun_mk (st := s_is_whole) l22 c22 k22
  have F23 := fun_mk (st := s_is_number) l23 c23 k23
  have F24 := fun_mk (st := s_is_short) l24 c24 k24
  have F25 := fun_mk (st := s_gained) l25 c25 k25
  have F26 := fun_mk (st := s_rolled) l26 c26 k26
  have F27 := fun_mk (st := s__law_plus) l27 c27 k27
  have F28 := fun_mk (st := s__law_minus) l28 c28 k28
  have F29 := fun_mk (st := s__law_times) l29 c29 k29
  have F30 := fun_mk (st := s_law) l30 c30 k30
  refine ⟨_, fun s v => .of_eq rfl, fun base _ _ => ok_law (T := {
    f__law_draws := f1, d__law_draws := _, F__law_draws := F1, g__law_draws := PySem.W.mg_of X G a1,
    b__law_draws := F1.binds (ps := P__law_draws) (fun _ _ _ _ _ _ us hl => match us, hl with | [_, _], _ => rfl),
    f__law_gcd := f2, d__law_gcd := _, F__law_gcd := F2, g__law_gcd := PySem.W.mg_of X G a2,
    b__law_gcd := F2.binds (ps := P__law_gcd) (fun _ _ _ _ _ _ us hl => match us, hl with | [_, _], _ => rfl),
    f__law_number := f3, d__law_number := _, F__law_number := F3, g__law_number := PySem.W.mg_of X G a3,
    b__law_number := F3.binds (ps := P__law_number) (fun _ _ _ _ _ _ us hl => match us, hl with | [_, _], _ => rfl),
    f__law_walk := f4, d__law_walk := _, F__law_walk := F4, g__law_walk := PySem.W.mg_of X G a4,
    b__law_walk := F4.binds (ps := P__law_walk) (fun _ _ _ _ _ _ us hl => match us, hl with | [_, _], _ => rfl),
    f_targets := f5, d_targets := _, F_targets := F5, g_targets := PySem.W.mg_of X G a5,
    b_targets := F5.binds (ps := P_targets) (fun _ _ _ _ _ _ us hl => match us, hl with | [_, _], _ => rfl),
    f_reached := f6, d_reached := _, F_reached := F6, g_reached := PySem.W.mg_of X G a6,
    b_reached := F6.binds (ps := P_reached) (fun _ _ _ _ _ _ us hl => match us, hl with | [_, _], _ => rfl),
    f_closed_classes := f7, d_closed_classes := _, F_closed_classes := F7, g_closed_classes := PySem.W.mg_of X G a7,
    b_closed_classes := F7.binds (ps := P_closed_classes) (fun _ _ _ _ _ _ us hl => match us, hl with | [_], _ => rfl),
    f_number := f8, d_number := _, F_number := F8, g_number := PySem.W.mg_of X G a8,
    b_number := F8.binds (ps := P_number) (fun _ _ _ _ _ _ us hl => match us, hl with | [_, _], _ => rfl),
    f_plus := f9, d_plus := _, F_plus := F9, g_plus := PySem.W.mg_of X G a9,
    b_plus := F9.binds (ps := P_plus) (fun _ _ _ _ _ _ us hl => match us, hl with | [_, _], _ => rfl),
    f_total := f10, d_total := _, F_total := F10, g_total := PySem.W.mg_of X G a10,
    b_total := F10.binds (ps := P_total) (fun _ _ _ _ _ _ us hl => match us, hl with | [_], _ => rfl),
    f_times := f11, d_times := _, F_times := F11, g_times := PySem.W.mg_of X G a11,
    b_times := F11.binds (ps := P_times) (fun _ _ _ _ _ _ us hl => match us, hl with | [_, _], _ => rfl),
    f_weighed_by := f12, d_weighed_by := _, F_weighed_by := F12, g_weighed_by := PySem.W.mg_of X G a12,
    b_weighed_by := F12.binds (ps := P_weighed_by) (fun _ _ _ _ _ _ us hl => match us, hl with | [_, _], _ => rfl),
    f_minus := f13, d_minus := _, F_minus := F13, g_minus := PySem.W.mg_of X G a13,
    b_minus := F13.binds (ps := P_minus) (fun _ _ _ _ _ _ us hl => match us, hl with | [_, _], _ => rfl),
    f_divided := f14, d_divided := _, F_divided := F14, g_divided := PySem.W.mg_of X G a14,
    b_divided := F14.binds (ps := P_divided) (fun _ _ _ _ _ _ us hl => match us, hl with | [_, _], _ => rfl),
    f_lessened := f15, d_lessened := _, F_lessened := F15, g_lessened := PySem.W.mg_of X G a15,
    b_lessened := F15.binds (ps := P_lessened) (fun _ _ _ _ _ _ us hl => match us, hl with | [_, _, _], _ => rfl),
    f_solved := f16, d_solved := _, F_solved := F16, g_solved := PySem.W.mg_of X G a16,
    b_solved := F16.binds (ps := P_solved) (fun _ _ _ _ _ _ us hl => match us, hl with | [_], _ => rfl),
    f_shares_in := f17, d_shares_in := _, F_shares_in := F17, g_shares_in := PySem.W.mg_of X G a17,
    b_shares_in := F17.binds (ps := P_shares_in) (fun _ _ _ _ _ _ us hl => match us, hl with | [_, _], _ => rfl),
    f_met := f18, d_met := _, F_met := F18, g_met := PySem.W.mg_of X G a18,
    b_met := F18.binds (ps := P_met) (fun _ _ _ _ _ _ us hl => match us, hl with | [_, _, _, _], _ => rfl),
    f_with_rest := f19, d_with_rest := _, F_with_rest := F19, g_with_rest := PySem.W.mg_of X G a19,
    b_with_rest := F19.binds (ps := P_with_rest) (fun _ _ _ _ _ _ us hl => match us, hl with | [_, _, _], _ => rfl),
    f_long_gains := f20, d_long_gains := _, F_long_gains := F20, g_long_gains := PySem.W.mg_of X G a20,
    b_long_gains := F20.binds (ps := P_long_gains) (fun _ _ _ _ _ _ us hl => match us, hl with | [_], _ => rfl),
    f_leads := f21, d_leads := _, F_leads := F21, g_leads := PySem.W.mg_of X G a21,
    b_leads := F21.binds (ps := P_leads) (fun _ _ _ _ _ _ us hl => match us, hl with | [_], _ => rfl),
    f_is_whole := f22, d_is_whole := _, F_is_whole := F22, g_is_whole := PySem.W.mg_of X G a22,
    b_is_whole := F22.binds (ps := P_is_whole) (fun _ _ _ _ _ _ us hl => match us, hl with | [_], _ => rfl),
    f_is_number := f23, d_is_number := _, F_is_number := F23, g_is_number := PySem.W.mg_of X G a23,
    b_is_number := F23.binds (ps := P_is_number) (fun _ _ _ _ _ _ us hl => match us, hl with | [_], _ => rfl),
    f_is_short := f24, d_is_short := _, F_is_short := F24, g_is_short := PySem.W.mg_of X G a24,
    b_is_short := F24.binds (ps := P_is_short) (fun _ _ _ _ _ _ us hl => match us, hl with | [_], _ => rfl),
    f_gained := f25, d_gained := _, F_gained := F25, g_gained := PySem.W.mg_of X G a25,
    b_gained := F25.binds (ps := P_gained) (fun _ _ _ _ _ _ us hl => match us, hl with | [_, _], _ => rfl),
    f_rolled := f26, d_rolled := _, F_rolled := F26, g_rolled := PySem.W.mg_of X G a26,
    b_rolled := F26.binds (ps := P_rolled) (fun _ _ _ _ _ _ us hl => match us, hl with | [_, _], _ => rfl),
    f__law_plus := f27, d__law_plus := _, F__law_plus := F27, g__law_plus := PySem.W.mg_of X G a27,
    b__law_plus := F27.binds (ps := P__law_plus) (fun _ _ _ _ _ _ us hl => match us, hl with | [_, _], _ => rfl),
    f__law_minus := f28, d__law_minus := _, F__law_minus := F28, g__law_minus := PySem.W.mg_of X G a28,
    b__law_minus := F28.binds (ps := P__law_minus) (fun _ _ _ _ _ _ us hl => match us, hl with | [_, _], _ => rfl),
    f__law_times := f29, d__law_times := _, F__law_times := F29, g__law_times := PySem.W.mg_of X G a29,
    b__law_times := F29.binds (ps := P__law_times) (fun _ _ _ _ _ _ us hl => match us, hl with | [_, _], _ => rfl),
    f_law := fa, d_law := _, F_law := F30, g_law := PySem.W.mg_of X G a30,
    b_law := F30.binds (ps := P_law) (fun _ _ _ _ _ _ us hl => match us, hl with | [_], _ => rfl),
    n_range := PySem.W.mg_none_of X G z0,
    n_len := PySem.W.mg_none_of X G z1,
    n_int := PySem.W.mg_none_of X G z2,
    n_abs := PySem.W.mg_none_of X G z3,
    n_sum := PySem.W.mg_none_of X G z4,
    n_list := PySem.W.mg_none_of X G z5,
    n_sorted := PySem.W.mg_none_of X G z6,
    n_enumerate := PySem.W.mg_none_of X G z7,
    n_all := PySem.W.mg_none_of X G z8,
    n_gcd := PySem.W.mg_of X G z9,
    n_zip := PySem.W.mg_none_of X G z10,
    n_dict := PySem.W.mg_none_of X G z11,
    n_isinstance := PySem.W.mg_none_of X G z12,
    n_bool := PySem.W.mg_none_of X G z13,
    n_tuple := PySem.W.mg_none_of X G z14,
    a_NOUGHT := ca0, g_NOUGHT := PySem.W.mg_of X G q0, r_NOUGHT := fun F H => .tup (vs := [.int 0, .int 1]) (.inr ⟨_, _, _, r0, rfl, rfl, (by show 2 ≤ sizeLine; decide), (.cons ⟨_, rfl⟩ (.cons ⟨_, rfl⟩ .nil))⟩) (.cons (.int _) (.cons (.int _) .nil)),
    a_ONE := ca1, g_ONE := PySem.W.mg_of X G q1, r_ONE := fun F H => .tup (vs := [.int 1, .int 1]) (.inr ⟨_, _, _, r1, rfl, rfl, (by show 2 ≤ sizeLine; decide), (.cons ⟨_, rfl⟩ (.cons ⟨_, rfl⟩ .nil))⟩) (.cons (.int _) (.cons (.int _) .nil)),
    t_SHORT := tc2, g_SHORT := PySem.W.mg_of X G q2,
    C_BadNumber := xC0, gc_BadNumber := PySem.W.mg_of X G kca0, cl_BadNumber := clsOf_of kca0,
    I_BadNumber := xI0, X_BadNumber := ex_txt X G kca0 xl0 xr0 xsa0 xi0 xt0 xk0 xe0 xv0 xty0 xsu0 xop0 xtp0 xfn0 xco0 xlk0 xfl0 xfe0 xce0, xf_BadNumber := ⟨xga0, xgg0, xe0, xhd0⟩,
    n_super := PySem.W.mg_none_of X G xsp })⟩
end Lw
open PySem PySem.W PyProof.Rows
set_option maxHeartbeats 0 in
theorem PySem.Challenge.cw_meanhold_k16_whole_rolled_chains_holds : PySem.Challenge.rw_meanhold_k16_whole_rolled_chains.Holds := by
  w_on; o_law; k_head; (case hw => w_witness2)
  k_fill
  refine Dn.walk_end (l := PySem.Challenge.rw_meanhold_k16_whole_rolled_chains) (n := 63) (k := 9) (x := "_law_script") (μ := Lw.w_law0) rfl (by decide) rfl ⟨rfl, by decide, by decide⟩ (fun w h Y => PySem.W.kIn_of Y) ?F Lw.law_true
  case F =>
    intro w mg fa h KX G hmg
    refine' Lw.all_mk KX G hmg ?a1 ?l1 ?c1 ?k1 ?a2 ?l2 ?c2 ?k2 ?a3 ?l3 ?c3 ?k3 ?a4 ?l4 ?c4 ?k4 ?a5 ?l5 ?c5 ?k5 ?a6 ?l6 ?c6 ?k6 ?a7 ?l7 ?c7 ?k7 ?a8 ?l8 ?c8 ?k8 ?a9 ?l9 ?c9 ?k9 ?a10 ?l10 ?c10 ?k10 ?a11 ?l11 ?c11 ?k11 ?a12 ?l12 ?c12 ?k12 ?a13 ?l13 ?c13 ?k13 ?a14 ?l14 ?c14 ?k14 ?a15 ?l15 ?c15 ?k15 ?a16 ?l16 ?c16 ?k16 ?a17 ?l17 ?c17 ?k17 ?a18 ?l18 ?c18 ?k18 ?a19 ?l19 ?c19 ?k19 ?a20 ?l20 ?c20 ?k20 ?a21 ?l21 ?c21 ?k21 ?a22 ?l22 ?c22 ?k22 ?a23 ?l23 ?c23 ?k23 ?a24 ?l24 ?c24 ?k24 ?a25 ?l25 ?c25 ?k25 ?a26 ?l26 ?c26 ?k26 ?a27 ?l27 ?c27 ?k27 ?a28 ?l28 ?c28 ?k28 ?a29 ?l29 ?c29 ?k29 ?a30 ?l30 ?c30 ?k30 ?z0 ?z1 ?z2 ?z3 ?z4 ?z5 ?z6 ?z7 ?z8 ?z9 ?z10 ?z11 ?z12 ?z13 ?z14 ?q0 ?r0 ?q1 ?r1 ?q2 ?kca0 ?xl0 ?xr0 ?xsa0 ?xi0 ?xt0 ?xk0 ?xe0 ?xv0 ?xty0 ?xsu0 ?xop0 ?xtp0 ?xfn0 ?xco0 ?xlk0 ?xfl0 ?xfe0 ?xce0 ?xga0 ?xgg0 ?xhd0 ?xsp
    (case a1 => k_is)
    (case l1 => k_is)
    (case c1 => k_is)
    (case k1 => k_is)
    (case a2 => k_is)
    (case l2 => k_is)
    (case c2 => k_is)
    (case k2 => k_is)
    (case a3 => k_is)
    (case l3 => k_is)
    (case c3 => k_is)
    (case k3 => k_is)
    (case a4 => k_is)
    (case l4 => k_is)
    (case c4 => k_is)
    (case k4 => k_is)
    (case a5 => k_is)
    (case l5 => k_is)
    (case c5 => k_is)
    (case k5 => k_is)
    (case a6 => k_is)
    (case l6 => k_is)
    (case c6 => k_is)
    (case k6 => k_is)
    (case a7 => k_is)
    (case l7 => k_is)
    (case c7 => k_is)
    (case k7 => k_is)
    (case a8 => k_is)
    (case l8 => k_is)
    (case c8 => k_is)
    (case k8 => k_is)
    (case a9 => k_is)
    (case l9 => k_is)
    (case c9 => k_is)
    (case k9 => k_is)
    (case a10 => k_is)
    (case l10 => k_is)
    (case c10 => k_is)
    (case k10 => k_is)
    (case a11 => k_is)
    (case l11 => k_is)
    (case c11 => k_is)
    (case k11 => k_is)
    (case a12 => k_is)
    (case l12 => k_is)
    (case c12 => k_is)
    (case k12 => k_is)
    (case a13 => k_is)
    (case l13 => k_is)
    (case c13 => k_is)
    (case k13 => k_is)
    (case a14 => k_is)
    (case l14 => k_is)
    (case c14 => k_is)
    (case k14 => k_is)
    (case a15 => k_is)
    (case l15 => k_is)
    (case c15 => k_is)
    (case k15 => k_is)
    (case a16 => k_is)
    (case l16 => k_is)
    (case c16 => k_is)
    (case k16 => k_is)
    (case a17 => k_is)
    (case l17 => k_is)
    (case c17 => k_is)
    (case k17 => k_is)
    (case a18 => k_is)
    (case l18 => k_is)
    (case c18 => k_is)
    (case k18 => k_is)
    (case a19 => k_is)
    (case l19 => k_is)
    (case c19 => k_is)
    (case k19 => k_is)
    (case a20 => k_is)
    (case l20 => k_is)
    (case c20 => k_is)
    (case k20 => k_is)
    (case a21 => k_is)
    (case l21 => k_is)
    (case c21 => k_is)
    (case k21 => k_is)
    (case a22 => k_is)
    (case l22 => k_is)
    (case c22 => k_is)
    (case k22 => k_is)
    (case a23 => k_is)
    (case l23 => k_is)
    (case c23 => k_is)
    (case k23 => k_is)
    (case a24 => k_is)
    (case l24 => k_is)
    (case c24 => k_is)
    (case k24 => k_is)
    (case a25 => k_is)
    (case l25 => k_is)
    (case c25 => k_is)
    (case k25 => k_is)
    (case a26 => k_is)
    (case l26 => k_is)
    (case c26 => k_is)
    (case k26 => k_is)
    (case a27 => k_is)
    (case l27 => k_is)
    (case c27 => k_is)
    (case k27 => k_is)
    (case a28 => k_is)
    (case l28 => k_is)
    (case c28 => k_is)
    (case k28 => k_is)
    (case a29 => k_is)
    (case l29 => k_is)
    (case c29 => k_is)
    (case k29 => k_is)
    (case a30 => k_is)
    (case l30 => k_is)
    (case c30 => k_is)
    (case k30 => k_is)
    (case z0 => k_is)
    (case z1 => k_is)
    (case z2 => k_is)
    (case z3 => k_is)
    (case z4 => k_is)
    (case z5 => k_is)
    (case z6 => k_is)
    (case z7 => k_is)
    (case z8 => k_is)
    (case z9 => k_is)
    (case z10 => k_is)
    (case z11 => k_is)
    (case z12 => k_is)
    (case z13 => k_is)
    (case z14 => k_is)
    (case q0 => k_is)
    (case r0 => k_is)
    (case q1 => k_is)
    (case r1 => k_is)
    (case q2 => k_is)
    (case kca0 => k_is)
    (case xl0 => k_is)
    (case xr0 => first | rfl | decide +kernel | kernel_rfl)
    (case xsa0 => k_is)
    (case xi0 => k_is)
    (case xt0 => k_is)
    (case xk0 => k_is)
    (case xe0 => k_is)
    (case xv0 => k_is)
    (case xty0 => k_is)
    (case xsu0 => ks_is)
    (case xop0 => k_is)
    (case xtp0 => first | rfl | decide +kernel | kernel_rfl)
    (case xfn0 => k_is)
    (case xco0 => k_is)
    (case xlk0 => k_is)
    (case xfl0 => first | rfl | decide +kernel | kernel_rfl)
    (case xfe0 => first | rfl | decide +kernel | kernel_rfl)
    (case xce0 => k_is)
    (case xga0 => k_is)
    (case xgg0 => k_is)
    (case xhd0 => k_is)
    (case xsp => k_is)
