import PyProof.Rows.All
import Wide.All
import OpenK.AllK
import Wide.FinOn
import HandS.ForMost
import HandS.ForExc
import HandS.More
import KE.KExcSuper
import HandS.Exc
import HandS.TryOnly
import HandS.TryMany
import HandS.ExcField
import HandS.ExcIs
import HandS.TupLe
import HandS.Style
import HandS.Wide
import HandS.Gcd
import HandS.IsInst
import HandS.TupAny
import HandS.SortInts
import HandS.CallSlots
import PyProof.ReprRoads
import PyProof.ReprLen
import PySem.Challenge.RW_meanhold_k07_whole_ways_unrolled
set_option Elab.async false
set_option linter.all false
set_option maxRecDepth 100000
/-! Den1: data as trees, what they stand for in the abstract heap, what is owned. -/
namespace Dn
open PySem PySem.Spec PyProof.Rows L2

/-- a value as a tree -/
inductive D where
  | non | bl (b : Bool) | int (i : Int) | str (s : Str) | lst (xs : List D) | fr (xs : List D) | tup (xs : List D) | dk (kvs : List (Key × D)) | ob (v : V) | gh (G : Addr → Prop) (H0 : Hp)
/-- a value of a name: frozen, an owned list, a tuple with owned parts, an owned dict, nothing known -/
inductive C where
  | fz (d : D) | ow (cs : List C) | tp (cs : List C) | od (kvs : List (Key × D)) | no | pl (a : Addr) (cs : List C) | wp (c : C) (a : Addr) (cs : List C)

section
variable (K : PySem.W.Frag)
def WrL (a : Addr) (xs : List V) : Prop :=
  ∃ (o : Obj) (its : Array Value) (n : Nat), K.lookup a = some o ∧ o.cls = .type "list" ∧ o.dict = none ∧ o.data = .seq its n ∧ its.size ≤ sizeLine ∧ Vals xs its.toList
def WrT (a : Addr) (xs : List V) : Prop :=
  ∃ (o : Obj) (its : Array Value) (n : Nat), K.lookup a = some o ∧ o.cls = .type "tuple" ∧ o.data = .seq its n ∧ its.size ≤ sizeLine ∧ Vals xs its.toList
variable (F : Addr → Prop) (H : Hp)
def AtL (a : Addr) (vs : List V) : Prop := F a ∧ H a = some (.lst vs)
def AtF (a : Addr) (vs : List V) : Prop := (F a ∧ Rd H a (.lst vs)) ∨ WrL K a vs
def AtT (a : Addr) (vs : List V) : Prop := (F a ∧ Rd H a (.tup vs)) ∨ WrT K a vs
mutual
inductive Rep : V → D → Prop
  | non : Rep .non .non
  | bl (b : Bool) : Rep (.bl b) (.bl b)
  | int (i : Int) : Rep (.int i) (.int i)
  | str (s : Str) : Rep (.str s) (.str s)
  | ob (v : V) : Rep v (.ob v)
  | gh {v : V} {G : Addr → Prop} {H0 : Hp} : (∀ a, G a → F a ∧ H a = H0 a) → Rep v (.gh G H0)
  | lst {a : Addr} {vs : List V} {ds : List D} : AtL F H a vs → Reps vs ds → Rep (.ref a) (.lst ds)
  | fr {a : Addr} {vs : List V} {ds : List D} : AtF K F H a vs → Reps vs ds → Rep (.ref a) (.fr ds)
  | tup {a : Addr} {vs : List V} {ds : List D} : AtT K F H a vs → Reps vs ds → Rep (.ref a) (.tup ds)
  | dk {a : Addr} {kvs : List (Key × V)} {kds : List (Key × D)} : F a → Rd H a (.dK kvs) → RepK kvs kds → Rep (.ref a) (.dk kds)
inductive Reps : List V → List D → Prop
  | nil : Reps [] []
  | cons {v : V} {d : D} {vs : List V} {ds : List D} : Rep v d → Reps vs ds → Reps (v :: vs) (d :: ds)
inductive RepK : List (Key × V) → List (Key × D) → Prop
  | nil : RepK [] []
  | cons {k : Key} {v : V} {d : D} {vs : List (Key × V)} {ds : List (Key × D)} : Rep v d → RepK vs ds → RepK ((k, v) :: vs) ((k, d) :: ds)
end
mutual
inductive RepC : V → C → List Addr → Prop
  | fz {v : V} {d : D} : Rep K F H v d → RepC v (.fz d) []
  | ow {a : Addr} {vs : List V} {cs : List C} {O : List Addr} : H a = some (.lst vs) → RepCs vs cs O → RepC (.ref a) (.ow cs) (a :: O)
  | tp {a : Addr} {vs : List V} {cs : List C} {O : List Addr} : H a = some (.tup vs) → RepCs vs cs O → RepC (.ref a) (.tp cs) (a :: O)
  | od {a : Addr} {kvs : List (Key × V)} {kds : List (Key × D)} : H a = some (.dK kvs) → RepK K F H kvs kds → RepC (.ref a) (.od kds) [a]
  | pl {a : Addr} {vs : List V} {cs : List C} {O : List Addr} : H a = some (.lst vs) → RepCs vs cs O → RepC (.ref a) (.pl a cs) (a :: O)
  | wp {v : V} {c : C} {a : Addr} {vs : List V} {cs : List C} {O O' : List Addr} : RepC v c O → H a = some (.lst vs) → RepCs vs cs O' → RepC v (.wp c a cs) (O ++ (a :: O'))
inductive RepCs : List V → List C → List Addr → Prop
  | nil : RepCs [] [] []
  | cons {v : V} {c : C} {vs : List V} {cs : List C} {O O' : List Addr} : RepC v c O → RepCs vs cs O' → RepCs (v :: vs) (c :: cs) (O ++ O')
end
/-- slots and what is in hand -/
abbrev Pr := Option V × C
inductive RepP : List Pr → List Addr → Prop
  | nil : RepP [] []
  | no {x : Option V} {ps : List Pr} {O : List Addr} : RepP ps O → RepP ((x, .no) :: ps) O
  | cons {v : V} {c : C} {ps : List Pr} {O O' : List Addr} : RepC K F H v c O → RepP ps O' → RepP ((some v, c) :: ps) (O ++ O')
def All (ps : List Pr) : Prop := ∃ O, RepP K F H ps O ∧ O.Nodup ∧ (∀ a ∈ O, ¬ F a) ∧ ∀ a, F a → H a ≠ none
end

/-! a cell's tree -/
mutual
def fzD : C → D
  | .fz d => d
  | .ow cs => .lst (fzDs cs)
  | .tp cs => .tup (fzDs cs)
  | .od kvs => .dk kvs
  | .no => .non
  | .pl _ cs => .lst (fzDs cs)
  | .wp c _ _ => fzD c
def fzDs : List C → List D
  | [] => []
  | c :: cs => fzD c :: fzDs cs
end
theorem fzDs_map : ∀ cs : List C, fzDs cs = cs.map fzD
  | [] => by simp [fzDs]
  | c :: cs => by simp [fzDs, fzDs_map cs]
@[simp] theorem fzD_fz (d : D) : fzD (.fz d) = d := by simp [fzD]
@[simp] theorem fzD_ow (cs : List C) : fzD (.ow cs) = .lst (cs.map fzD) := by simp [fzD, fzDs_map]
@[simp] theorem fzD_tp (cs : List C) : fzD (.tp cs) = .tup (cs.map fzD) := by simp [fzD, fzDs_map]
@[simp] theorem fzD_pl (a : Addr) (cs : List C) : fzD (.pl a cs) = .lst (cs.map fzD) := by simp [fzD, fzDs_map]
@[simp] theorem fzD_wp (c : C) (a : Addr) (cs : List C) : fzD (.wp c a cs) = fzD c := by simp [fzD]
@[simp] theorem fzD_od (kvs : List (Key × D)) : fzD (.od kvs) = .dk kvs := by simp [fzD]

section
variable {K : PySem.W.Frag} {F F' : Addr → Prop} {H H' : Hp}
theorem AtL.seq {a : Addr} {vs : List V} (h : AtL F H a vs) : SqL K H a vs := .inl (.inl h.2)
theorem AtF.seq {a : Addr} {vs : List V} (h : AtF K F H a vs) : SqL K H a vs := h.elim (fun x => .inl x.2) .inr
theorem AtT.seq {a : Addr} {vs : List V} (h : AtT K F H a vs) : SqT K H a vs := h.elim (fun x => .inl x.2) .inr
theorem Rd.same {a : Addr} {u : HO} (e : H' a = H a) (h : Rd H a u) : Rd H' a u := by
  rcases h with h | ⟨o, h⟩
  · exact .inl (e.trans h)
  · exact .inr ⟨o, e.trans h⟩
section
variable (hF : ∀ a, F a → F' a) (hH : ∀ a, F a → H' a = H a)
include hF hH
theorem AtL.mono {a : Addr} {vs : List V} (h : AtL F H a vs) : AtL F' H' a vs := ⟨hF a h.1, (hH a h.1).trans h.2⟩
theorem AtF.mono {a : Addr} {vs : List V} (h : AtF K F H a vs) : AtF K F' H' a vs := by
  rcases h with ⟨f, h⟩ | h
  · exact .inl ⟨hF a f, Rd.same (hH a f) h⟩
  · exact .inr h
theorem AtT.mono {a : Addr} {vs : List V} (h : AtT K F H a vs) : AtT K F' H' a vs := by
  rcases h with ⟨f, h⟩ | h
  · exact .inl ⟨hF a f, Rd.same (hH a f) h⟩
  · exact .inr h
mutual
theorem Rep.mono : ∀ {v : V} {d : D}, Rep K F H v d → Rep K F' H' v d
  | _, _, .non => .non
  | _, _, .bl b => .bl b
  | _, _, .int b => .int b
  | _, _, .str b => .str b
  | _, _, .ob b => .ob b
  | _, _, .gh h => .gh fun a g => ⟨hF a (h a g).1, (hH a (h a g).1).trans (h a g).2⟩
  | _, _, .lst h r => .lst (AtL.mono hF hH h) (Reps.mono r)
  | _, _, .fr h r => .fr (AtF.mono hF hH h) (Reps.mono r)
  | _, _, .tup h r => .tup (AtT.mono hF hH h) (Reps.mono r)
  | _, _, .dk f h r => .dk (hF _ f) (Rd.same (hH _ f) h) (RepK.mono r)
theorem Reps.mono : ∀ {vs : List V} {ds : List D}, Reps K F H vs ds → Reps K F' H' vs ds
  | _, _, .nil => .nil
  | _, _, .cons r rs => .cons (Rep.mono r) (Reps.mono rs)
theorem RepK.mono : ∀ {vs : List (Key × V)} {ds : List (Key × D)}, RepK K F H vs ds → RepK K F' H' vs ds
  | _, _, .nil => .nil
  | _, _, .cons r rs => .cons (Rep.mono r) (RepK.mono rs)
end
mutual
theorem RepC.mono : ∀ {v : V} {c : C} {O : List Addr}, RepC K F H v c O → (∀ a ∈ O, H' a = H a) → RepC K F' H' v c O
  | _, _, _, .fz r, _ => .fz (Rep.mono hF hH r)
  | _, _, _, .ow e r, h => .ow ((h _ List.mem_cons_self).trans e) (RepCs.mono r fun a m => h a (List.mem_cons_of_mem _ m))
  | _, _, _, .tp e r, h => .tp ((h _ List.mem_cons_self).trans e) (RepCs.mono r fun a m => h a (List.mem_cons_of_mem _ m))
  | _, _, _, .od e r, h => .od ((h _ List.mem_cons_self).trans e) (RepK.mono hF hH r)
  | _, _, _, .pl e r, h => .pl ((h _ List.mem_cons_self).trans e) (RepCs.mono r fun a m => h a (List.mem_cons_of_mem _ m))
  | _, _, _, .wp q e r, h => .wp (RepC.mono q fun a m => h a (List.mem_append_left _ m)) ((h _ (List.mem_append_right _ List.mem_cons_self)).trans e) (RepCs.mono r fun a m => h a (List.mem_append_right _ (List.mem_cons_of_mem _ m)))
theorem RepCs.mono : ∀ {v : List V} {c : List C} {O : List Addr}, RepCs K F H v c O → (∀ a ∈ O, H' a = H a) → RepCs K F' H' v c O
  | _, _, _, .nil, _ => .nil
  | _, _, _, .cons r rs, h => .cons (RepC.mono r fun a m => h a (List.mem_append_left _ m)) (RepCs.mono rs fun a m => h a (List.mem_append_right _ m))
end
theorem RepP.mono : ∀ {ps : List Pr} {O : List Addr}, RepP K F H ps O → (∀ a ∈ O, H' a = H a) → RepP K F' H' ps O
  | _, _, .nil, _ => .nil
  | _, _, .no r, h => .no (RepP.mono r h)
  | _, _, .cons r rs, h => .cons (RepC.mono hF hH r fun a m => h a (List.mem_append_left _ m)) (RepP.mono rs fun a m => h a (List.mem_append_right _ m))
end
mutual
theorem RepC.dom : ∀ {v : V} {c : C} {O : List Addr}, RepC K F H v c O → ∀ a ∈ O, H a ≠ none
  | _, _, _, .fz _, _, m => nomatch m
  | _, _, _, .ow e r, a, m => by
    rcases List.mem_cons.mp m with rfl | m
    · rw [e]; simp
    · exact RepCs.dom r a m
  | _, _, _, .tp e r, a, m => by
    rcases List.mem_cons.mp m with rfl | m
    · rw [e]; simp
    · exact RepCs.dom r a m
  | _, _, _, .od e r, a, m => by
    rcases List.mem_cons.mp m with rfl | m
    · rw [e]; simp
    · exact nomatch m
  | _, _, _, .pl e r, a, m => by
    rcases List.mem_cons.mp m with rfl | m
    · rw [e]; simp
    · exact RepCs.dom r a m
  | _, _, _, .wp q e r, a, m => by
    rcases List.mem_append.mp m with m | m
    · exact RepC.dom q a m
    · rcases List.mem_cons.mp m with rfl | m
      · rw [e]; simp
      · exact RepCs.dom r a m
theorem RepCs.dom : ∀ {v : List V} {c : List C} {O : List Addr}, RepCs K F H v c O → ∀ a ∈ O, H a ≠ none
  | _, _, _, .nil, _, m => nomatch m
  | _, _, _, .cons r rs, a, m => (List.mem_append.mp m).elim (RepC.dom r a) (RepCs.dom rs a)
end
theorem RepP.dom : ∀ {ps : List Pr} {O : List Addr}, RepP K F H ps O → ∀ a ∈ O, H a ≠ none
  | _, _, .nil, _, m => nomatch m
  | _, _, .no r, a, m => RepP.dom r a m
  | _, _, .cons r rs, a, m => (List.mem_append.mp m).elim (RepC.dom r a) (RepP.dom rs a)

/-! freezing -/
mutual
theorem RepC.froz : ∀ {v : V} {c : C} {O : List Addr}, RepC K F H v c O → (∀ a, F a → F' a) → (∀ a ∈ O, F' a) → Rep K F' H v (fzD c)
  | _, _, _, .fz r, hF, _ => by rw [fzD]; exact Rep.mono hF (fun _ _ => rfl) r
  | _, _, _, .ow e r, hF, h => by rw [fzD]; exact .lst ⟨h _ List.mem_cons_self, e⟩ (RepCs.froz r hF fun a m => h a (List.mem_cons_of_mem _ m))
  | _, _, _, .tp e r, hF, h => by rw [fzD]; exact .tup (.inl ⟨h _ List.mem_cons_self, .inl e⟩) (RepCs.froz r hF fun a m => h a (List.mem_cons_of_mem _ m))
  | _, _, _, .od e r, hF, h => by rw [fzD]; exact .dk (h _ List.mem_cons_self) (.inl e) (RepK.mono hF (fun _ _ => rfl) r)
  | _, _, _, .pl e r, hF, h => by rw [fzD]; exact .lst ⟨h _ List.mem_cons_self, e⟩ (RepCs.froz r hF fun a m => h a (List.mem_cons_of_mem _ m))
  | _, _, _, .wp q e r, hF, h => by rw [fzD]; exact RepC.froz q hF fun a m => h a (List.mem_append_left _ m)
theorem RepCs.froz : ∀ {v : List V} {c : List C} {O : List Addr}, RepCs K F H v c O → (∀ a, F a → F' a) → (∀ a ∈ O, F' a) → Reps K F' H v (fzDs c)
  | _, _, _, .nil, _, _ => by rw [fzDs]; exact .nil
  | _, _, _, .cons r rs, hF, h => by rw [fzDs]; exact .cons (RepC.froz r hF fun a m => h a (List.mem_append_left _ m)) (RepCs.froz rs hF fun a m => h a (List.mem_append_right _ m))
end

/-! what is in hand, in any order -/
theorem RepP.perm {ps qs : List Pr} (p : ps.Perm qs) : ∀ {O : List Addr}, RepP K F H ps O → ∃ O', RepP K F H qs O' ∧ O.Perm O' := by
  induction p with
  | nil => intro O r; exact ⟨O, r, .refl _⟩
  | cons x _ ih =>
    intro O r
    cases r with
    | no r => obtain ⟨O', r', q⟩ := ih r; exact ⟨O', .no r', q⟩
    | cons c r => obtain ⟨O', r', q⟩ := ih r; exact ⟨_, .cons c r', q.append_left _⟩
  | swap x y l =>
    intro O r
    cases r with
    | no r =>
      cases r with
      | no r => exact ⟨_, .no (.no r), .refl _⟩
      | cons c r => exact ⟨_, .cons c (.no r), .refl _⟩
    | cons c r =>
      cases r with
      | no r => exact ⟨_, .no (.cons c r), .refl _⟩
      | cons c' r => exact ⟨_, .cons c' (.cons c r), List.perm_append_comm_assoc _ _ _⟩
  | trans _ _ ih1 ih2 =>
    intro O r
    obtain ⟨O1, r1, q1⟩ := ih1 r
    obtain ⟨O2, r2, q2⟩ := ih2 r1
    exact ⟨O2, r2, q1.trans q2⟩
theorem All.perm {ps qs : List Pr} (h : All K F H ps) (p : ps.Perm qs) : All K F H qs := by
  obtain ⟨O, r, nd, nf, dm⟩ := h
  obtain ⟨O', r', q⟩ := RepP.perm p r
  exact ⟨O', r', q.nodup_iff.mp nd, fun a m => nf a (q.mem_iff.mpr m), dm⟩
theorem All.drop {p : Pr} {ps : List Pr} (h : All K F H (p :: ps)) : All K F H ps := by
  obtain ⟨O, r, nd, nf, dm⟩ := h
  cases r with
  | no r => exact ⟨_, r, nd, nf, dm⟩
  | cons c r => exact ⟨_, r, (List.nodup_append.mp nd).2.1, fun a m => nf a (List.mem_append_right _ m), dm⟩
theorem All.dropL : ∀ {qs ps : List Pr}, All K F H (qs ++ ps) → All K F H ps
  | [], _, h => h
  | _ :: qs, _, h => All.dropL (qs := qs) h.drop
/-- a slot whose value is given up -/
theorem All.forget {p : Pr} {ps : List Pr} {x : Option V} (h : All K F H (p :: ps)) : All K F H ((x, .no) :: ps) := by
  obtain ⟨O, r, a⟩ := h.drop
  exact ⟨O, .no r, a⟩
theorem All.nothing {x : Option V} {ps : List Pr} (h : All K F H ps) : All K F H ((x, .no) :: ps) := by
  obtain ⟨O, r, a⟩ := h
  exact ⟨O, .no r, a⟩
/-- a frozen value may be had twice -/
theorem All.dup {v : V} {d : D} {ps : List Pr} (h : All K F H ((some v, .fz d) :: ps)) : All K F H ((some v, .fz d) :: (some v, .fz d) :: ps) := by
  obtain ⟨O, r, nd, nf, dm⟩ := h
  cases r with
  | cons c r =>
    cases c with
    | fz c => exact ⟨_, .cons (.fz c) (.cons (.fz c) r), nd, nf, dm⟩
theorem All.fzOf {v : V} {d : D} {ps : List Pr} (h : All K F H ((some v, .fz d) :: ps)) : Rep K F H v d := by
  obtain ⟨O, r, nd, nf, dm⟩ := h
  cases r with
  | cons c r =>
    cases c with
    | fz c => exact c
theorem All.push {v : V} {d : D} {ps : List Pr} (h : All K F H ps) (r : Rep K F H v d) : All K F H ((some v, .fz d) :: ps) := by
  obtain ⟨O, q, a⟩ := h
  exact ⟨_, .cons (.fz r) q, a⟩
/-- to freeze a value -/
theorem All.freeze {v : V} {c : C} {ps : List Pr} (hc : c ≠ .no) (h : All K F H ((some v, c) :: ps)) : ∃ F', (∀ a, F a → F' a) ∧ All K F' H ((some v, .fz (fzD c)) :: ps) := by
  obtain ⟨O, r, nd, nf, dm⟩ := h
  cases r with
  | no r => exact absurd rfl hc
  | @cons _ _ _ O1 O2 c r =>
    obtain ⟨n1, n2, n3⟩ := List.nodup_append.mp nd
    refine ⟨fun a => F a ∨ a ∈ O1, fun a f => .inl f, O2, ?_, n2, fun a m q => ?_, fun a q => ?_⟩
    · exact .cons (.fz (RepC.froz c (fun a f => .inl f) fun a m => .inr m)) (RepP.mono (fun a f => .inl f) (fun _ _ => rfl) r fun _ _ => rfl)
    · rcases q with q | q
      · exact nf a (List.mem_append_right _ m) q
      · exact n3 a q a m rfl
    · rcases q with q | q
      · exact dm a q
      · exact RepC.dom c a q
/-- the heap may grow or change where nothing is told -/
theorem All.heap {ps : List Pr} (h : All K F H ps) (e : ∀ a, H a ≠ none → H' a = H a) : All K F H' ps := by
  obtain ⟨O, r, nd, nf, dm⟩ := h
  exact ⟨O, RepP.mono (fun a f => f) (fun a f => e a (dm a f)) r fun a m => e a (RepP.dom r a m), nd, nf, fun a f => by rw [e a (dm a f)]; exact dm a f⟩
theorem All.upd {ps : List Pr} {p : Addr} {o : HO} (h : All K F H ps) (n : H p = none) : All K F (upd H p o) ps :=
  h.heap fun a z => upd_ne fun e => z (e ▸ n)

/-- several in hand -/
def tmps (vs : List V) (cs : List C) : List Pr := (vs.map some).zip cs
theorem RepP.split : ∀ {qs ps : List Pr} {O : List Addr}, RepP K F H (qs ++ ps) O → ∃ O1 O2, RepP K F H qs O1 ∧ RepP K F H ps O2 ∧ O = O1 ++ O2
  | [], _, O, r => ⟨[], O, .nil, r, rfl⟩
  | _ :: qs, _, _, .no r => by
    obtain ⟨O1, O2, r1, r2, e⟩ := RepP.split (qs := qs) r
    exact ⟨O1, O2, .no r1, r2, e⟩
  | _ :: qs, _, _, .cons c r => by
    obtain ⟨O1, O2, r1, r2, e⟩ := RepP.split (qs := qs) r
    exact ⟨_, O2, .cons c r1, r2, by rw [e, List.append_assoc]⟩
theorem RepP.toCs : ∀ {vs : List V} {cs : List C} {O : List Addr}, vs.length = cs.length → (∀ c ∈ cs, c ≠ .no) → RepP K F H (tmps vs cs) O → RepCs K F H vs cs O
  | [], [], _, _, _, .nil => .nil
  | _ :: vs, _ :: cs, _, e, hn, .cons c r => .cons c (RepP.toCs (Nat.succ.inj e) (fun c m => hn c (List.mem_cons_of_mem _ m)) r)
  | _ :: vs, _ :: cs, _, e, hn, .no r => absurd rfl (hn _ List.mem_cons_self)
/-- a new object of what is in hand -/
theorem All.mk {vs : List V} {cs : List C} {ps : List Pr} {p : Addr} {o : HO} {c : C} (h : All K F H (tmps vs cs ++ ps)) (e : vs.length = cs.length) (hn : ∀ c ∈ cs, c ≠ .no) (n : H p = none)
    (hc : ∀ O, RepCs K F (L2.upd H p o) vs cs O → RepC K F (L2.upd H p o) (.ref p) c (p :: O)) : All K F (L2.upd H p o) ((some (.ref p), c) :: ps) := by
  obtain ⟨O, r, nd, nf, dm⟩ := h
  have hp : p ∉ O := fun m => RepP.dom r p m n
  have ne : ∀ a, F a → a ≠ p := fun a f z => dm a f (z ▸ n)
  have ne2 : ∀ a, a ∈ O → a ≠ p := fun a m z => hp (z ▸ m)
  have r2 : RepP K F (L2.upd H p o) (tmps vs cs ++ ps) O := RepP.mono (fun a f => f) (fun a f => L2.upd_ne (ne a f)) r fun a m => L2.upd_ne (ne2 a m)
  obtain ⟨O1, O2, r1, r3, rfl⟩ := r2.split
  refine ⟨(p :: O1) ++ O2, .cons (hc O1 (RepP.toCs e hn r1)) r3, List.nodup_cons.mpr ⟨hp, nd⟩, fun a m f => ?_, fun a f => ?_⟩
  · rcases List.mem_cons.mp m with rfl | m
    · exact dm a f n
    · exact nf a m f
  · rw [L2.upd_ne (ne a f)]
    exact dm a f
theorem All.mkL {vs : List V} {cs : List C} {ps : List Pr} {p : Addr} (h : All K F H (tmps vs cs ++ ps)) (e : vs.length = cs.length) (hn : ∀ c ∈ cs, c ≠ .no) (n : H p = none) : All K F (L2.upd H p (.lst vs)) ((some (.ref p), .ow cs) :: ps) :=
  h.mk e hn n fun _ r => .ow upd_same r
theorem All.mkT {vs : List V} {cs : List C} {ps : List Pr} {p : Addr} (h : All K F H (tmps vs cs ++ ps)) (e : vs.length = cs.length) (hn : ∀ c ∈ cs, c ≠ .no) (n : H p = none) : All K F (L2.upd H p (.tup vs)) ((some (.ref p), .tp cs) :: ps) :=
  h.mk e hn n fun _ r => .tp upd_same r
/-- an owned list is written -/
theorem All.write {a : Addr} {cs : List C} {qs ps : List Pr} {vs' : List V} {cs' : List C} (h : All K F H ((some (.ref a), .ow cs) :: (qs ++ ps)))
    (hw : ∀ vs O O1 , H a = some (.lst vs) → RepCs K F H vs cs O → RepP K F H qs O1 → ∃ O2, RepCs K F H vs' cs' O2 ∧ O2.Sublist (O ++ O1)) : All K F (L2.upd H a (.lst vs')) ((some (.ref a), .ow cs') :: ps) := by
  obtain ⟨O, r, nd, nf, dm⟩ := h
  cases r with
  | @cons _ _ _ _ O' c r =>
    cases c with
    | @ow _ vs _ Oc e rc =>
      obtain ⟨O1, O2, r1, r2, rfl⟩ := r.split
      obtain ⟨Ow, rw', sub⟩ := hw vs Oc O1 e rc r1
      have na : ∀ b, b ∈ Oc ++ (O1 ++ O2) → b ≠ a := fun b m z => (List.nodup_cons.mp nd).1 (z ▸ m)
      have hne : ∀ b, F b → b ≠ a := fun b f z => nf a List.mem_cons_self (z ▸ f)
      have sub2 : (Ow ++ O2).Sublist (Oc ++ (O1 ++ O2)) := by
        rw [← List.append_assoc]
        exact sub.append (List.Sublist.refl _)
      have w2 : RepCs K F (L2.upd H a (.lst vs')) vs' cs' Ow := RepCs.mono (fun _ f => f) (fun b f => upd_ne (hne b f)) rw' fun b m => upd_ne (na b (sub2.subset (List.mem_append_left _ m)))
      have r2' : RepP K F (L2.upd H a (.lst vs')) ps O2 := RepP.mono (fun _ f => f) (fun b f => upd_ne (hne b f)) r2 fun b m => upd_ne (na b (sub2.subset (List.mem_append_right _ m)))
      refine ⟨(a :: Ow) ++ O2, .cons (.ow upd_same w2) r2', ?_, fun b m f => ?_, fun b f => ?_⟩
      · exact (List.Sublist.cons₂ a sub2).nodup nd
      · exact nf b ((List.Sublist.cons₂ a sub2).subset m) f
      · rw [upd_ne (hne b f)]
        exact dm b f
end
end Dn

/-! Den2: what an expression is worth as a function of the names' trees; the judgements over it. -/
namespace Dn
open PySem PySem.Spec PyProof.Rows L2

abbrev Rho := List C
/-- the class that the top knows by this name -/
def clsOf (K : PySem.W.Frag) (n : Str) : Value := match PySem.W.nsIn K mainGlobals n with
  | some (some v) => v
  | _ => .none
/-- an error: its class, its one field -/
structure Er where
  cls : Str
  fld : Option (Str × D) := none
inductive R (α : Type) where
  | st | er (e : Er) (ρ : Rho) | ok (a : α) (ρ : Rho)
abbrev M (α : Type) := Rho → R α
def R.bind {α β : Type} (r : R α) (k : α → M β) : R β :=
  match r with
  | .st => .st
  | .er e ρ => .er e ρ
  | .ok a ρ => k a ρ
def M.bind {α β : Type} (m : M α) (k : α → M β) : M β := fun ρ => (m ρ).bind k
@[simp] theorem R.bind_ok {α β : Type} (a : α) (ρ : Rho) (k : α → M β) : (R.ok a ρ).bind k = k a ρ := rfl
@[simp] theorem R.bind_st {α β : Type} (k : α → M β) : (R.st : R α).bind k = .st := rfl
@[simp] theorem R.bind_er {α β : Type} (e : Er) (ρ : Rho) (k : α → M β) : (R.er e ρ : R α).bind k = .er e ρ := rfl
theorem M.bind_def {α β : Type} (m : M α) (k : α → M β) (ρ : Rho) : M.bind m k ρ = (m ρ).bind k := rfl
def Good {α : Type} (r : R α) (ok : α → Rho → Prop) (er : Er → Rho → Prop) : Prop :=
  match r with
  | .st => False
  | .er e ρ => er e ρ
  | .ok a ρ => ok a ρ
theorem Good.bind {α β : Type} {r : R α} {k : α → M β} {ok : β → Rho → Prop} {er : Er → Rho → Prop} : Good (r.bind k) ok er ↔ Good r (fun a ρ => Good (k a ρ) ok er) er := by
  cases r <;> exact Iff.rfl
theorem Good.imp {α : Type} {r : R α} {ok ok' : α → Rho → Prop} {er er' : Er → Rho → Prop} (h : Good r ok er) (h1 : ∀ a ρ, ok a ρ → ok' a ρ) (h2 : ∀ e ρ, er e ρ → er' e ρ) : Good r ok' er' := by
  cases r with
  | st => exact h
  | er e ρ => exact h2 e ρ h
  | ok a ρ => exact h1 a ρ h

section
variable (K : PySem.W.Frag)
/-- the names' values and what is in hand -/
def Sta (F : Addr → Prop) (H : Hp) (σ : L2.St) (ρ : Rho) (τ : List Pr) : Prop := σ.length = ρ.length ∧ All K F H (σ.zip ρ ++ τ)
/-- an error's exception -/
def ErOk (F : Addr → Prop) (H : Hp) (e : Er) (cls : Value) (d : Option Addr) : Prop :=
  cls = clsOf K e.cls ∧ match e.fld with
    | none => d = none
    | some (f, x) => ∃ dx v, d = some dx ∧ F dx ∧ H dx = some (.xd [(f, v)]) ∧ Rep K F H v x
def okP (σ : L2.St) (τ : List Pr) (Q : VK) : C → Rho → Prop := fun c ρ => ∀ v F H, c ≠ .no → Sta K F H σ ρ ((some v, c) :: τ) → Q v H
def okB (σ : L2.St) (τ : List Pr) (Q : Bool → Hp → Prop) : Bool → Rho → Prop := fun b ρ => ∀ F H, Sta K F H σ ρ τ → Q b H
def okA (σ : L2.St) (τ : List Pr) (Q : List V → Hp → Prop) : List C → Rho → Prop := fun cs ρ => ∀ vs F H, vs.length = cs.length → (∀ c ∈ cs, c ≠ .no) → Sta K F H σ ρ (tmps vs cs ++ τ) → Q vs H
def erP (W : WX) (σ : L2.St) (τ : List Pr) : Er → Rho → Prop := fun e ρ => ∀ F H cls d, ErOk K F H e cls d → Sta K F H σ ρ τ → W cls d σ H
def tOf (W : WX) (m : M C) : TE := fun σ H Q => ∃ F ρ τ, Sta K F H σ ρ τ ∧ Good (m ρ) (okP K σ τ Q) (erP K W σ τ)
def bOf (W : WX) (m : M Bool) : TT := fun σ H Q => ∃ F ρ τ, Sta K F H σ ρ τ ∧ Good (m ρ) (okB K σ τ Q) (erP K W σ τ)
def aOf (W : WX) (m : M (List C)) : TA := fun σ H Q => ∃ F ρ τ, Sta K F H σ ρ τ ∧ Good (m ρ) (okA K σ τ Q) (erP K W σ τ)
end

section
variable {K : PySem.W.Frag} {F F' : Addr → Prop} {H H' : Hp} {σ : L2.St} {ρ : Rho} {τ : List Pr}
theorem Sta.all (h : Sta K F H σ ρ τ) : All K F H (τ ++ σ.zip ρ) := h.2.perm List.perm_append_comm
theorem Sta.of (e : σ.length = ρ.length) (h : All K F H (τ ++ σ.zip ρ)) : Sta K F H σ ρ τ := ⟨e, h.perm List.perm_append_comm⟩
theorem Sta.on {τ' : List Pr} (h : Sta K F H σ ρ τ) (f : ∀ l, All K F H (τ ++ l) → All K F' H' (τ' ++ l)) : Sta K F' H' σ ρ τ' := .of h.1 (f _ h.all)
theorem Sta.drop {p : Pr} (h : Sta K F H σ ρ (p :: τ)) : Sta K F H σ ρ τ := h.on fun _ a => a.drop
theorem Sta.dropL {q : List Pr} (h : Sta K F H σ ρ (q ++ τ)) : Sta K F H σ ρ τ := h.on fun l a => by
  rw [List.append_assoc] at a
  exact a.dropL
theorem Sta.perm {τ' : List Pr} (h : Sta K F H σ ρ τ) (p : τ.Perm τ') : Sta K F H σ ρ τ' := h.on fun _ a => a.perm (p.append_right _)
theorem Sta.heap (h : Sta K F H σ ρ τ) (e : ∀ a, H a ≠ none → H' a = H a) : Sta K F H' σ ρ τ := h.on fun _ a => a.heap e
theorem Sta.upd {p : Addr} {o : HO} (h : Sta K F H σ ρ τ) (n : H p = none) : Sta K F (upd H p o) σ ρ τ := h.on fun _ a => All.upd a n
theorem Sta.fzOf {v : V} {d : D} (h : Sta K F H σ ρ ((some v, .fz d) :: τ)) : Rep K F H v d := All.fzOf (ps := τ ++ σ.zip ρ) h.all
theorem Sta.push {v : V} {d : D} (h : Sta K F H σ ρ τ) (r : Rep K F H v d) : Sta K F H σ ρ ((some v, .fz d) :: τ) := h.on fun _ a => a.push r
theorem Sta.freeze {v : V} {c : C} (h : Sta K F H σ ρ ((some v, c) :: τ)) (hc : c ≠ .no) : ∃ F', Sta K F' H σ ρ ((some v, .fz (fzD c)) :: τ) := by
  obtain ⟨F', _, a⟩ := All.freeze (ps := τ ++ σ.zip ρ) hc h.all
  exact ⟨F', .of h.1 a⟩
theorem Sta.swap {p q : Pr} (h : Sta K F H σ ρ (p :: q :: τ)) : Sta K F H σ ρ (q :: p :: τ) := h.perm (.swap _ _ _)
theorem Sta.dom (h : Sta K F H σ ρ τ) : ∀ a, F a → H a ≠ none := let ⟨_, _, _, _, d⟩ := h.2; d

theorem erP.drop {W : WX} {p : Pr} {e : Er} {ρ : Rho} (h : erP K W σ τ e ρ) : erP K W σ (p :: τ) e ρ := fun F H cls d x s => h F H cls d x s.drop
theorem erP.dropL {W : WX} {q : List Pr} {e : Er} {ρ : Rho} (h : erP K W σ τ e ρ) : erP K W σ (q ++ τ) e ρ := fun F H cls d x s => h F H cls d x s.dropL
end

/-! trees out of cells -/
def asD (m : M C) : M D := fun ρ => (m ρ).bind fun c ρ => .ok (fzD c) ρ
@[simp] theorem asD_def (m : M C) (ρ : Rho) : asD m ρ = (m ρ).bind fun c ρ => .ok (fzD c) ρ := rfl
def ret (d : D) : M C := fun ρ => .ok (.fz d) ρ
def retC (c : C) : M C := fun ρ => .ok c ρ
def stuck {α : Type} : M α := fun _ => .st
def opt {α β : Type} (o : Option α) (k : α → M β) : M β := match o with
  | some a => k a
  | none => stuck
@[simp] theorem opt_some {α β : Type} (a : α) (k : α → M β) : opt (some a) k = k a := rfl
@[simp] theorem opt_none {α β : Type} (k : α → M β) : opt (none : Option α) k = stuck := rfl
@[simp] theorem stuck_ap {α : Type} (ρ : Rho) : (stuck : M α) ρ = .st := rfl
@[simp] theorem ret_ap (d : D) (ρ : Rho) : ret d ρ = .ok (.fz d) ρ := rfl
@[simp] theorem retC_ap (c : C) (ρ : Rho) : retC c ρ = .ok c ρ := rfl

section
variable {X : Cx} {W : WX}
theorem _root_.L2.PE.imp {e : Expr} {t u : TE} (h : PE X e t) (f : ∀ σ H Q, u σ H Q → t σ H Q) : PE X e u := ⟨fun pins s σ H Q I hw => h.run pins s σ H Q I (f σ H Q hw)⟩
theorem _root_.L2.PT.imp {e : Expr} {t u : TT} (h : PT X e t) (f : ∀ σ H Q, u σ H Q → t σ H Q) : PT X e u := ⟨fun pins s σ H Q I hw => h.run pins s σ H Q I (f σ H Q hw)⟩
theorem _root_.L2.PW.imp {e : Expr} {t u : TT} (h : PW X e t) (f : ∀ σ H Q, u σ H Q → t σ H Q) : PW X e u := ⟨fun wh pins s σ H Q I hw => h.run wh pins s σ H Q I (f σ H Q hw)⟩
theorem _root_.L2.PA.imp {e : List Expr} {t u : TA} (h : PA X e t) (f : ∀ σ H Q, u σ H Q → t σ H Q) : PA X e u := ⟨fun pos pins s σ H Q I hw => h.run pos pins s σ H Q I (f σ H Q hw)⟩
theorem _root_.L2.PS.imp {e : Stmt} {t u : TS} (h : PS X e t) (f : ∀ D σ H, u D σ H → t D σ H) : PS X e u := ⟨fun pins s σ H D I hw => h.run pins s σ H D I (f D σ H hw)⟩
theorem _root_.L2.PSs.imp {e : List Stmt} {t u : TS} (h : PSs X e t) (f : ∀ D σ H, u D σ H → t D σ H) : PSs X e u := ⟨fun pins s σ H D I hw => h.run pins s σ H D I (f D σ H hw)⟩
end

/-! ### sequencing at the level of readings -/
section
variable {K : PySem.W.Frag} {W : WX} {σ : L2.St} {H : Hp} {F : Addr → Prop} {ρ : Rho} {τ : List Pr}
/-- a value in hand, frozen -/
theorem run1 {m : M C} {P : V → Hp → Prop} (s : Sta K F H σ ρ τ)
    (h : Good (m ρ) (fun c ρ1 => ∀ v F1 H1, Sta K F1 H1 σ ρ1 ((some v, .fz (fzD c)) :: τ) → P v H1) (erP K W σ τ)) : tOf K W m σ H P :=
  ⟨F, ρ, τ, s, h.imp (fun c ρ1 q v F1 H1 nc s1 => let ⟨F2, s2⟩ := s1.freeze nc; q v F2 H1 s2) fun _ _ q => q⟩
theorem runC {m : M C} {P : V → Hp → Prop} (s : Sta K F H σ ρ τ) (h : Good (m ρ) (okP K σ τ P) (erP K W σ τ)) : tOf K W m σ H P := ⟨F, ρ, τ, s, h⟩
theorem runB {m : M Bool} {P : Bool → Hp → Prop} (s : Sta K F H σ ρ τ) (h : Good (m ρ) (okB K σ τ P) (erP K W σ τ)) : bOf K W m σ H P := ⟨F, ρ, τ, s, h⟩
theorem runA {m : M (List C)} {P : List V → Hp → Prop} (s : Sta K F H σ ρ τ) (h : Good (m ρ) (okA K σ τ P) (erP K W σ τ)) : aOf K W m σ H P := ⟨F, ρ, τ, s, h⟩
end

/-! ### scalars -/
def scal : D → Option V
  | .non => some .non
  | .bl b => some (.bl b)
  | .int i => some (.int i)
  | .str s => some (.str s)
  | .ob v => some v
  | _ => none
theorem Rep.scal {K : PySem.W.Frag} {F : Addr → Prop} {H : Hp} {z : D} {v : V} (h : scal z = some v) : Rep K F H v z := by
  cases z <;> simp only [Dn.scal, Option.some.injEq, reduceCtorEq] at h <;> subst h
  · exact .non
  · exact .bl _
  · exact .int _
  · exact .str _
  · exact .ob _
theorem Rep.intv {K : PySem.W.Frag} {F : Addr → Prop} {H : Hp} {v : V} {i : Int} (r : Rep K F H v (.int i)) : v = .int i := by cases r; rfl
theorem Rep.blv {K : PySem.W.Frag} {F : Addr → Prop} {H : Hp} {v : V} {i : Bool} (r : Rep K F H v (.bl i)) : v = .bl i := by cases r; rfl
theorem Rep.strv {K : PySem.W.Frag} {F : Addr → Prop} {H : Hp} {v : V} {i : Str} (r : Rep K F H v (.str i)) : v = .str i := by cases r; rfl
theorem Rep.nonv {K : PySem.W.Frag} {F : Addr → Prop} {H : Hp} {v : V} (r : Rep K F H v .non) : v = .non := by cases r; rfl
theorem Rep.obv {K : PySem.W.Frag} {F : Addr → Prop} {H : Hp} {v w : V} (r : Rep K F H v (.ob w)) : v = w := by cases r; rfl
theorem Rep.lstv {K : PySem.W.Frag} {F : Addr → Prop} {H : Hp} {v : V} {ds : List D} (r : Rep K F H v (.lst ds)) : ∃ a vs, v = .ref a ∧ AtL F H a vs ∧ Reps K F H vs ds := by
  cases r with
  | lst h r => exact ⟨_, _, rfl, h, r⟩
theorem Rep.frv {K : PySem.W.Frag} {F : Addr → Prop} {H : Hp} {v : V} {ds : List D} (r : Rep K F H v (.fr ds)) : ∃ a vs, v = .ref a ∧ AtF K F H a vs ∧ Reps K F H vs ds := by
  cases r with
  | fr h r => exact ⟨_, _, rfl, h, r⟩
theorem Rep.tupv {K : PySem.W.Frag} {F : Addr → Prop} {H : Hp} {v : V} {ds : List D} (r : Rep K F H v (.tup ds)) : ∃ a vs, v = .ref a ∧ AtT K F H a vs ∧ Reps K F H vs ds := by
  cases r with
  | tup h r => exact ⟨_, _, rfl, h, r⟩
theorem Reps.len {K : PySem.W.Frag} {F : Addr → Prop} {H : Hp} : ∀ {vs : List V} {ds : List D}, Reps K F H vs ds → vs.length = ds.length
  | _, _, .nil => rfl
  | _, _, .cons _ r => congrArg Nat.succ r.len
theorem Reps.get {K : PySem.W.Frag} {F : Addr → Prop} {H : Hp} : ∀ {vs : List V} {ds : List D} {i : Nat} {d : D}, Reps K F H vs ds → ds[i]? = some d → ∃ v, vs[i]? = some v ∧ Rep K F H v d
  | _, _, _, _, .nil, h => by simp at h
  | _, _, 0, _, .cons r _, h => by simp at h; subst h; exact ⟨_, rfl, r⟩
  | _, _, i + 1, _, .cons _ r, h => by
    obtain ⟨v, e, q⟩ := r.get (i := i) (by simpa using h)
    exact ⟨v, by simpa using e, q⟩
theorem Reps.get' {K : PySem.W.Frag} {F : Addr → Prop} {H : Hp} : ∀ {vs : List V} {ds : List D} {i : Nat} {v : V}, Reps K F H vs ds → vs[i]? = some v → ∃ d, ds[i]? = some d ∧ Rep K F H v d
  | _, _, _, _, .nil, h => by simp at h
  | _, _, 0, _, .cons r _, h => by simp at h; subst h; exact ⟨_, rfl, r⟩
  | _, _, i + 1, _, .cons _ r, h => by
    obtain ⟨v, e, q⟩ := r.get' (i := i) (by simpa using h)
    exact ⟨v, by simpa using e, q⟩
theorem Reps.append {K : PySem.W.Frag} {F : Addr → Prop} {H : Hp} : ∀ {vs ws : List V} {ds es : List D}, Reps K F H vs ds → Reps K F H ws es → Reps K F H (vs ++ ws) (ds ++ es)
  | _, _, _, _, .nil, s => s
  | _, _, _, _, .cons r t, s => .cons r (t.append s)
theorem Reps.take {K : PySem.W.Frag} {F : Addr → Prop} {H : Hp} : ∀ {vs : List V} {ds : List D} (n : Nat), Reps K F H vs ds → Reps K F H (vs.take n) (ds.take n)
  | _, _, 0, _ => .nil
  | _, _, _ + 1, .nil => .nil
  | _, _, n + 1, .cons r t => .cons r (t.take n)
theorem Reps.drop {K : PySem.W.Frag} {F : Addr → Prop} {H : Hp} : ∀ {vs : List V} {ds : List D} (n : Nat), Reps K F H vs ds → Reps K F H (vs.drop n) (ds.drop n)
  | _, _, 0, r => r
  | _, _, _ + 1, .nil => .nil
  | _, _, n + 1, .cons _ t => t.drop n
/-- frozen items as cells -/
theorem Reps.cells {K : PySem.W.Frag} {F : Addr → Prop} {H : Hp} : ∀ {vs : List V} {ds : List D}, Reps K F H vs ds → RepCs K F H vs (ds.map C.fz) []
  | _, _, .nil => .nil
  | _, _, .cons r t => by
    have := RepCs.cons (RepC.fz r) t.cells
    simpa using this
end Dn

/-! Den3: expressions. -/
namespace Dn
open PySem PySem.Spec PyProof.Rows L2

/-! ### slots -/
theorem zip_set : ∀ (σ : L2.St) (ρ : Rho) (i : Nat) (x : Option V) (c : C), (σ.zip ρ).set i (x, c) = (σ.set i x).zip (ρ.set i c)
  | [], _, _, _, _ => by simp
  | _ :: _, [], _, _, _ => by simp
  | _ :: σ, _ :: ρ, 0, _, _ => by simp
  | _ :: σ, _ :: ρ, i + 1, x, c => by simp [zip_set σ ρ i x c]
theorem zip_at {σ : L2.St} {ρ : Rho} {i : Nat} {x : Option V} {c : C} (h1 : σ[i]? = some x) (h2 : ρ[i]? = some c) : (σ.zip ρ)[i]? = some (x, c) := by
  rw [List.getElem?_zip_eq_some]
  exact ⟨h1, h2⟩
theorem perm_at {α : Type} {l : List α} {i : Nat} {a : α} (h : l[i]? = some a) (b : α) : ∃ r, l.Perm (a :: r) ∧ (l.set i b).Perm (b :: r) := by
  obtain ⟨hi, e⟩ := List.getElem?_eq_some_iff.mp h
  refine ⟨l.take i ++ l.drop (i + 1), ?_, ?_⟩
  · have e1 : l = l.take i ++ a :: l.drop (i + 1) := by
      rw [← e]
      simp
    refine (List.Perm.of_eq e1).trans List.perm_middle
  · rw [List.set_eq_take_append_cons_drop, if_pos hi]
    exact List.perm_middle
section
variable {K : PySem.W.Frag} {F : Addr → Prop} {H : Hp} {σ : L2.St} {ρ : Rho} {τ : List Pr} {i : Nat} {c : C}
theorem All.some_of {x : Option V} {ps : List Pr} (h : All K F H ((x, c) :: ps)) (hc : c ≠ .no) : ∃ v, x = some v := by
  obtain ⟨O, r, _⟩ := h
  cases r with
  | no _ => exact absurd rfl hc
  | cons _ _ => exact ⟨_, rfl⟩
theorem Sta.get (h : Sta K F H σ ρ τ) (e : ρ[i]? = some c) (hc : c ≠ .no) : ∃ v, σ[i]? = some (some v) ∧ Sta K F H σ (ρ.set i .no) ((some v, c) :: τ) := by
  obtain ⟨hi, _⟩ := List.getElem?_eq_some_iff.mp e
  have hi' : i < σ.length := by rw [h.1]; exact hi
  have ex : σ[i]? = some σ[i] := List.getElem?_eq_getElem hi'
  obtain ⟨r, p1, p2⟩ := perm_at (zip_at ex e) (σ[i], C.no)
  have a1 : All K F H ((σ[i], c) :: (r ++ τ)) := h.2.perm (p1.append_right τ)
  obtain ⟨v, ev⟩ := a1.some_of hc
  refine ⟨v, by rw [ex, ev], by rw [List.length_set]; exact h.1, ?_⟩
  have e2 : σ.zip (ρ.set i .no) = (σ.zip ρ).set i (σ[i], C.no) := by
    rw [zip_set, List.set_getElem_self]
  rw [e2]
  rw [ev] at a1
  have a2 : All K F H ((σ[i], C.no) :: (some v, c) :: (r ++ τ)) := a1.nothing
  refine a2.perm ?_
  refine (List.Perm.trans ?_ (List.perm_middle (l₁ := (σ.zip ρ).set i (σ[i], C.no))).symm)
  refine (List.Perm.swap _ _ _).trans (.cons _ ?_)
  exact (p2.append_right τ).symm
theorem Sta.put {v : V} (h : Sta K F H σ ρ ((some v, c) :: τ)) (hi : i < σ.length) : Sta K F H (σ.set i (some v)) (ρ.set i c) τ := by
  refine ⟨by rw [List.length_set, List.length_set]; exact h.1, ?_⟩
  rw [← zip_set]
  have hz : (σ.zip ρ)[i]? = some (σ[i], ρ[i]'(by rw [← h.1]; exact hi)) := zip_at (List.getElem?_eq_getElem hi) (List.getElem?_eq_getElem _)
  obtain ⟨r, p1, p2⟩ := perm_at hz (some v, c)
  have a := h.all
  have a1 : All K F H (((σ[i], ρ[i]'(by rw [← h.1]; exact hi)) : Pr) :: (some v, c) :: (r ++ τ)) := a.perm (by
    refine (List.Perm.cons _ (List.perm_append_comm.trans (p1.append_right τ))).trans ?_
    exact .swap _ _ _)
  exact a1.drop.perm (p2.append_right τ).symm
/-- put where the very value stands -/
theorem Sta.back {v : V} (h : Sta K F H σ ρ ((some v, c) :: τ)) (e : σ[i]? = some (some v)) : Sta K F H σ (ρ.set i c) τ := by
  obtain ⟨hi, e'⟩ := List.getElem?_eq_some_iff.mp e
  have := h.put hi
  rw [← e', List.set_getElem_self] at this
  exact this
theorem Sta.setNo (h : Sta K F H σ ρ τ) (i : Nat) : Sta K F H σ (ρ.set i .no) τ := by
  by_cases hi : i < ρ.length
  · have e : ρ[i]? = some ρ[i] := List.getElem?_eq_getElem hi
    by_cases hc : ρ[i] = .no
    · rw [← hc, List.set_getElem_self]; exact h
    · obtain ⟨v, _, s⟩ := h.get e hc
      exact s.drop
  · rw [List.set_eq_of_length_le (by omega)]; exact h
theorem Sta.setX (h : Sta K F H σ ρ τ) (i : Nat) (x : Option V) : Sta K F H (σ.set i x) (ρ.set i .no) τ := by
  refine ⟨by rw [List.length_set, List.length_set]; exact h.1, ?_⟩
  rw [← zip_set]
  by_cases hi : i < σ.length
  · have hz : (σ.zip ρ)[i]? = some (σ[i], ρ[i]'(by rw [← h.1]; exact hi)) := zip_at (List.getElem?_eq_getElem hi) (List.getElem?_eq_getElem _)
    obtain ⟨r, p1, p2⟩ := perm_at hz (x, C.no)
    have a1 := h.2.perm (p1.append_right τ)
    have a2 : All K F H ((x, C.no) :: (r ++ τ)) := a1.drop.nothing
    exact a2.perm (p2.append_right τ).symm
  · rw [List.set_eq_of_length_le (by simp; omega)]; exact h.2
end

/-! ### names, constants -/
def eVar (i : Nat) : M C := fun ρ => match ρ[i]? with
  | some (.fz d) => .ok (.fz d) ρ
  | some (.ow cs) => .ok (.fz (fzD (.ow cs))) (ρ.set i (.fz (fzD (.ow cs))))
  | some (.tp cs) => .ok (.fz (fzD (.tp cs))) (ρ.set i (.fz (fzD (.tp cs))))
  | some (.od cs) => .ok (.fz (fzD (.od cs))) (ρ.set i (.fz (fzD (.od cs))))
  | _ => .st
def eMv (i : Nat) : M C := fun ρ => match ρ[i]? with
  | none => .st
  | some .no => .st
  | some c => .ok c (ρ.set i .no)
def eFz (m : M C) : M C := fun ρ => (m ρ).bind fun c ρ => .ok (.fz (fzD c)) ρ

section
variable {X : Cx} {W : WX} {pos : Pos} {e a b : Expr} {es : List Expr}
theorem var_ok {i : Nat} {σ : L2.St} {H : Hp} {Q : VK} (h : tOf X.K W (eVar i) σ H Q) : tVar i σ H Q := by
  obtain ⟨F, ρ, τ, s, g⟩ := h
  unfold eVar at g
  have own : ∀ c, ρ[i]? = some c → c ≠ .no → okP X.K σ τ Q (.fz (fzD c)) (ρ.set i (.fz (fzD c))) → tVar i σ H Q := fun c ec hc q => by
    obtain ⟨v, ev, s1⟩ := s.get ec hc
    obtain ⟨F2, s2⟩ := s1.freeze hc
    refine ⟨v, ev, q v F2 H (by simp) ?_⟩
    have s3 : Sta X.K F2 H σ (ρ.set i .no) ((some v, .fz (fzD c)) :: (some v, .fz (fzD c)) :: τ) := s2.on fun _ al => al.dup
    have s4 := s3.back ev
    rw [List.set_set] at s4
    exact s4
  split at g
  · rename_i d ed
    obtain ⟨v, ev, s1⟩ := s.get ed (by simp)
    have s3 : Sta X.K F H σ (ρ.set i .no) ((some v, .fz d) :: (some v, .fz d) :: τ) := s1.on fun _ al => al.dup
    have s4 := s3.back ev
    rw [List.set_set] at s4
    refine ⟨v, ev, g v F H (by simp) ?_⟩
    have e0 : ρ.set i (.fz d) = ρ := by
      obtain ⟨hi, e'⟩ := List.getElem?_eq_some_iff.mp ed
      rw [← e', List.set_getElem_self]
    rw [e0] at s4
    exact s4
  · rename_i d ed; exact own _ ed (by simp) g
  · rename_i d ed; exact own _ ed (by simp) g
  · rename_i d ed; exact own _ ed (by simp) g
  · exact g.elim
theorem mv_ok {i : Nat} {σ : L2.St} {H : Hp} {Q : VK} (h : tOf X.K W (eMv i) σ H Q) : tVar i σ H Q := by
  obtain ⟨F, ρ, τ, s, g⟩ := h
  unfold eMv at g
  split at g
  · exact g.elim
  · exact g.elim
  · rename_i c hc ec
    obtain ⟨v, ev, s1⟩ := s.get ec (by intro z; exact hc z)
    exact ⟨v, ev, g v F H (by intro z; exact hc z) s1⟩
theorem d_var (i : Nat) {x : Str} (hN : X.N[i]? = some x := by rfl) (hv : Vis X.env.scope x := by first | exact Or.inl rfl | exact Or.inr (Or.inl rfl) | exact Or.inr (Or.inr rfl)) (hd : (x == ("__debug__" : Str)) = false := by decide)
    (hcd : (x == ("__classdict__" : Str)) = false := by decide) : PE X (.Name x pos) (tOf X.K W (eVar i)) := (pe_var hN hv hd hcd).imp fun _ _ _ h => var_ok h
theorem d_mv (i : Nat) {x : Str} (hN : X.N[i]? = some x := by rfl) (hv : Vis X.env.scope x := by first | exact Or.inl rfl | exact Or.inr (Or.inl rfl) | exact Or.inr (Or.inr rfl)) (hd : (x == ("__debug__" : Str)) = false := by decide)
    (hcd : (x == ("__classdict__" : Str)) = false := by decide) : PE X (.Name x pos) (tOf X.K W (eMv i)) := (pe_var hN hv hd hcd).imp fun _ _ _ h => mv_ok h
theorem d_fz {m : M C} (h : PE X e (tOf X.K W m)) : PE X e (tOf X.K W (eFz m)) := h.imp fun σ H Q ⟨F, ρ, τ, s, g⟩ => by
  refine run1 s ?_
  unfold eFz at g
  rw [Good.bind] at g
  exact g.imp (fun c ρ1 q v F1 H1 s1 => q v F1 H1 (by simp) s1) fun _ _ q => q
theorem con_ok {v : V} {d : D} {σ : L2.St} {H : Hp} {Q : VK} (hr : ∀ F, Rep X.K F H v d) (h : tOf X.K W (ret d) σ H Q) : tC v σ H Q := by
  obtain ⟨F, ρ, τ, s, g⟩ := h
  exact g v F H (by simp) (s.push (hr F))
theorem d_int {i : Int} {j} : PE X (.Constant (.int i) j pos) (tOf X.K W (ret (.int i))) := pe_int.imp fun _ _ _ h => con_ok (fun _ => .int i) h
theorem d_bl {i : Bool} {j} : PE X (.Constant (.bool i) j pos) (tOf X.K W (ret (.bl i))) := pe_bl.imp fun _ _ _ h => con_ok (fun _ => .bl i) h
theorem d_str {i : Str} {j} : PE X (.Constant (.str i) j pos) (tOf X.K W (ret (.str i))) := pe_str.imp fun _ _ _ h => con_ok (fun _ => .str i) h
theorem d_non {j} : PE X (.Constant .none j pos) (tOf X.K W (ret .non)) := pe_non.imp fun _ _ _ h => con_ok (fun _ => .non) h
/-- a name of the module: d is what it stands for in any heap -/
theorem d_glob {x : Str} {v : V} {u : Value} {d : D} (hg : Gl X x) (hm : X.mg x = some u) (r : RelV v u) (hr : ∀ F H, Rep X.K F H v d) (hd : (x == ("__debug__" : Str)) = false := by decide) : PE X (.Name x pos) (tOf X.K W (ret d)) :=
  (pe_glob hg hm r hd).imp fun _ H _ h => con_ok (fun F => hr F H) h

/-! ### argument lists, displays -/
def aNil : M (List C) := fun ρ => .ok [] ρ
def aCons (m : M C) (r : M (List C)) : M (List C) := fun ρ => (m ρ).bind fun c ρ => (r ρ).bind fun cs ρ => .ok (c :: cs) ρ
theorem d_nil : PA X [] (aOf X.K W aNil) := pa_nil.imp fun σ H Q ⟨F, ρ, τ, s, g⟩ => g [] F H rfl (fun _ z => nomatch z) s
theorem d_cons {m : M C} {r : M (List C)} (h1 : PE X e (tOf X.K W m)) (h2 : PA X es (aOf X.K W r)) (hs : starEach (e :: es) X.env = (false, eval e X.env) :: starEach es X.env := by rfl) : PA X (e :: es) (aOf X.K W (aCons m r)) :=
  (pa_cons h1 h2 hs).imp fun σ H Q ⟨F, ρ, τ, s, g⟩ => by
    unfold aCons at g
    rw [Good.bind] at g
    refine runC s (g.imp (fun c ρ1 q v F1 H1 nc s1 => ?_) fun _ _ q => q)
    rw [Good.bind] at q
    refine runA s1 (q.imp (fun cs ρ2 q2 vs F2 H2 hl hn s2 => ?_) fun _ _ q => q.drop)
    refine q2 (v :: vs) F2 H2 (by simp [hl]) (fun c' hc' => ?_) (s2.perm ?_)
    · rcases List.mem_cons.mp hc' with rfl | z
      · exact nc
      · exact hn c' z
    · show (tmps vs cs ++ (some v, c) :: τ).Perm ((some v, c) :: tmps vs cs ++ τ)
      exact List.perm_middle
def small (n : Nat) : Bool := decide (n ≤ 1000000)
theorem small_le {n : Nat} (h : small n = true) : n ≤ 1000000 := of_decide_eq_true h
theorem small_line {n : Nat} (h : small n = true) : n ≤ sizeLine := by
  have := small_le h
  rw [sizeLine_eq]; omega
def eTupC (a : M (List C)) : M C := fun ρ => (a ρ).bind fun cs ρ => if small cs.length then .ok (.tp cs) ρ else .st
def eTup (a : M (List C)) : M C := eFz (eTupC a)
def eLst (a : M (List C)) : M C := fun ρ => (a ρ).bind fun cs ρ => if small cs.length then .ok (.ow cs) ρ else .st
theorem d_tupC {x1} {m : M (List C)} (h : PA X es (aOf X.K W m)) : PE X (.Tuple es x1 pos) (tOf X.K W (eTupC m)) := (pe_tup h).imp fun σ H Q ⟨F, ρ, τ, s, g⟩ => by
  unfold eTupC at g
  rw [Good.bind] at g
  refine runA s (g.imp (fun cs ρ1 q vs F1 H1 hl hn s1 => ?_) fun _ _ q => q)
  split at q
  · rename_i hs
    refine ⟨by rw [hl]; exact small_line hs, fun p np => q (.ref p) F1 _ (by simp) (s1.on fun l al => ?_)⟩
    rw [List.append_assoc] at al
    exact al.mkT hl hn np
  · exact q.elim
theorem d_tup {x1} {m : M (List C)} (h : PA X es (aOf X.K W m)) : PE X (.Tuple es x1 pos) (tOf X.K W (eTup m)) := d_fz (d_tupC h)
theorem d_lst {m : M (List C)} (h : PA X es (aOf X.K W m)) : PE X (.List es pos) (tOf X.K W (eLst m)) := (pe_lst h).imp fun σ H Q ⟨F, ρ, τ, s, g⟩ => by
  unfold eLst at g
  rw [Good.bind] at g
  refine runA s (g.imp (fun cs ρ1 q vs F1 H1 hl hn s1 => ?_) fun _ _ q => q)
  split at q
  · rename_i hs
    refine ⟨by rw [hl]; exact small_line hs, fun p np => q (.ref p) F1 _ (by simp) (s1.on fun l al => ?_)⟩
    rw [List.append_assoc] at al
    exact al.mkL hl hn np
  · exact q.elim

/-! ### two trees and a rule -/
def eOp (f : D → D → Option D) (a b : M C) : M C := fun ρ => (a ρ).bind fun c ρ => (b ρ).bind fun d ρ => match f (fzD c) (fzD d) with
  | some z => .ok (.fz z) ρ
  | none => .st
def OpOk (K : PySem.W.Frag) (r : R2) (f : D → D → Option D) : Prop := ∀ x y z F H vx vy Q, f x y = some z → Rep K F H vx x → Rep K F H vy y → (∀ v, Rep K F H v z → Q v H) → r vx vy H Q
/-- two values, frozen -/
theorem run2 {K : PySem.W.Frag} {σ : L2.St} {H : Hp} {F : Addr → Prop} {ρ : Rho} {τ : List Pr} {ma mb : M C} {γ : Type} {k : C → C → M γ} {P : V → V → Hp → Prop} {ok : γ → Rho → Prop} (s : Sta K F H σ ρ τ)
    (g : Good ((ma ρ).bind fun c ρ => (mb ρ).bind fun d ρ => k c d ρ) ok (erP K W σ τ))
    (h : ∀ c d ρ2 F2 H2 v w, Sta K F2 H2 σ ρ2 ((some w, .fz (fzD d)) :: (some v, .fz (fzD c)) :: τ) → Good (k c d ρ2) ok (erP K W σ τ) → P v w H2) :
    tOf K W ma σ H fun v H1 => tOf K W mb σ H1 fun w H2 => P v w H2 := by
  rw [Good.bind] at g
  refine run1 s (g.imp (fun c ρ1 q v F1 H1 s1 => ?_) fun _ _ q => q)
  rw [Good.bind] at q
  exact run1 s1 (q.imp (fun d ρ2 q2 w F2 H2 s2 => h c d ρ2 F2 H2 v w s2 q2) fun _ _ q => q.drop)
theorem op_ok {f : D → D → Option D} {r : R2} {ma mb : M C} (hf : OpOk X.K r f) {σ : L2.St} {H : Hp} {Q : VK} (h : tOf X.K W (eOp f ma mb) σ H Q) : tOp r (tOf X.K W ma) (tOf X.K W mb) σ H Q := by
  obtain ⟨F, ρ, τ, s, g⟩ := h
  refine run2 s g fun c d ρ2 F2 H2 v w s2 q => ?_
  split at q
  · rename_i z hz
    exact hf _ _ z F2 H2 v w Q hz s2.drop.fzOf s2.fzOf fun u ru => q u F2 H2 (by simp) (s2.drop.drop.push ru)
  · exact q.elim
theorem d_op {op : Operator} {r : R2} {f : D → D → Option D} {ma mb : M C} (ho : OpR X (binaryOp op) r) (hf : OpOk X.K r f) (ha : PE X a (tOf X.K W ma)) (hb : PE X b (tOf X.K W mb)) : PE X (.BinOp a op b pos) (tOf X.K W (eOp f ma mb)) :=
  (pe_op ho ha hb).imp fun _ _ _ h => op_ok hf h
theorem d_cmp {op : CmpOp} {r : R2} {f : D → D → Option D} {ma mb : M C} (ho : OpR X (compareOp op) r) (hf : OpOk X.K r f) (ha : PE X a (tOf X.K W ma)) (hb : PE X b (tOf X.K W mb)) (hm : behindInMarks op b = false := by first | exact nomark _ | rfl) : PE X (.Compare a [op] [b] pos) (tOf X.K W (eOp f ma mb)) :=
  (pe_cmpR ho ha hb hm).imp fun _ _ _ h => op_ok hf h
def asB (m : M C) : M Bool := fun ρ => (m ρ).bind fun c ρ => match fzD c with
  | .bl b => .ok b ρ
  | _ => .st
theorem asB_ok {m : M C} {σ : L2.St} {H : Hp} {Q : Bool → Hp → Prop} (h : bOf X.K W (asB m) σ H Q) : tOf X.K W m σ H fun x H1 => ∃ c, x = .bl c ∧ Q c H1 := by
  obtain ⟨F, ρ, τ, s, g⟩ := h
  unfold asB at g
  rw [Good.bind] at g
  refine run1 s (g.imp (fun c ρ1 q v F1 H1 s1 => ?_) fun _ _ q => q)
  split at q
  · rename_i b hb
    rw [hb] at s1
    exact ⟨b, s1.fzOf.blv, q F1 H1 s1.drop⟩
  · exact q.elim
theorem dt_cmp {op : CmpOp} {r : R2} {f : D → D → Option D} {ma mb : M C} (ho : OpR X (compareOp op) r) (hf : OpOk X.K r f) (ha : PE X a (tOf X.K W ma)) (hb : PE X b (tOf X.K W mb)) (hm : behindInMarks op b = false := by first | exact nomark _ | rfl) : PT X (.Compare a [op] [b] pos) (bOf X.K W (asB (eOp f ma mb))) :=
  (pt_cmpR ho ha hb hm).imp fun σ H Q h => by
    have h2 := asB_ok h
    exact op_ok hf h2

/-! ### one tree and a rule -/
def eUn (f : D → Option D) (a : M C) : M C := fun ρ => (a ρ).bind fun c ρ => match f (fzD c) with
  | some z => .ok (.fz z) ρ
  | none => .st
theorem un_ok {f : D → Option D} {r : V → Hp → VK → Prop} {ma : M C} (hf : ∀ x z F H vx Q, f x = some z → Rep X.K F H vx x → (∀ v, Rep X.K F H v z → Q v H) → r vx H Q) {σ : L2.St} {H : Hp} {Q : VK} (h : tOf X.K W (eUn f ma) σ H Q) : tUn r (tOf X.K W ma) σ H Q := by
  obtain ⟨F, ρ, τ, s, g⟩ := h
  unfold eUn at g
  rw [Good.bind] at g
  refine run1 s (g.imp (fun c ρ1 q v F1 H1 s1 => ?_) fun _ _ q => q)
  split at q
  · rename_i z hz
    exact hf _ z F1 H1 v Q hz s1.fzOf fun u ru => q u F1 H1 (by simp) (s1.drop.push ru)
  · exact q.elim
def negD : D → Option D
  | .int i => some (.int (-i))
  | _ => none
theorem d_neg {ma : M C} (ha : PE X a (tOf X.K W ma)) : PE X (.UnaryOp .USub a pos) (tOf X.K W (eUn negD ma)) := (pe_un un_neg ha).imp fun _ _ _ h => un_ok (fun x z F H vx Q e r q => by
  cases x <;> simp only [negD, reduceCtorEq, Option.some.injEq] at e
  subst e
  exact ⟨_, r.intv, q _ (.int _)⟩) h

/-! ### tests -/
def bTru (f : D → Option Bool) (m : M C) : M Bool := fun ρ => (m ρ).bind fun c ρ => match f (fzD c) with
  | some b => .ok b ρ
  | none => .st
def truD : D → Option Bool
  | .non => some false
  | .bl b => some b
  | .int i => some (i != 0)
  | .lst ds => some (!ds.isEmpty)
  | .tup ds => some (!ds.isEmpty)
  | _ => none
theorem Reps.isEmpty {K : PySem.W.Frag} {F : Addr → Prop} {H : Hp} {vs : List V} {ds : List D} (r : Reps K F H vs ds) : vs.isEmpty = ds.isEmpty := by
  cases r <;> rfl
theorem Rep.tru {K : PySem.W.Frag} {F : Addr → Prop} {H : Hp} {v : V} {d : D} {k : Bool} (r : Rep K F H v d) (h : truD d = some k) : TruV K v H k := by
  cases d <;> simp only [truD, reduceCtorEq, Option.some.injEq] at h
  · rw [r.nonv]; exact h.symm
  · rw [r.blv]; exact h.symm
  · rw [r.intv]; exact h.symm
  · obtain ⟨a, vs, rfl, hl, rs⟩ := r.lstv
    exact .inl ⟨vs, hl.seq, by rw [rs.isEmpty]; exact h.symm⟩
  · obtain ⟨a, vs, rfl, hl, rs⟩ := r.tupv
    exact .inr (.inl ⟨vs, hl.seq, by rw [rs.isEmpty]; exact h.symm⟩)
theorem dt_tru {m : M C} (ha : PE X a (tOf X.K W m)) (he : ∀ whole, isTrue a X.env whole = (do let v ← whole; standAt a.pos; holding [v] (truthy v)) := by intro _; rfl) : PT X a (bOf X.K W (bTru truD m)) :=
  (pt_truth ha he).imp fun σ H Q ⟨F, ρ, τ, s, g⟩ => by
    unfold bTru at g
    rw [Good.bind] at g
    refine run1 s (g.imp (fun c ρ1 q v F1 H1 s1 => ?_) fun _ _ q => q)
    split at q
    · rename_i k hk
      exact ⟨k, s1.fzOf.tru hk, q F1 H1 s1.drop⟩
    · exact q.elim
/-- a name's truth, its value left as it is -/
def bVar (i : Nat) : M Bool := fun ρ => match ρ[i]? with
  | some (.ow cs) => .ok (!cs.isEmpty) ρ
  | some (.fz d) => match truD d with
    | some b => .ok b ρ
    | none => .st
  | _ => .st
theorem RepCs.len {K : PySem.W.Frag} {F : Addr → Prop} {H : Hp} : ∀ {vs : List V} {cs : List C} {O : List Addr}, RepCs K F H vs cs O → vs.length = cs.length
  | _, _, _, .nil => rfl
  | _, _, _, .cons _ r => congrArg Nat.succ r.len
theorem Sta.owOf {K : PySem.W.Frag} {F : Addr → Prop} {H : Hp} {σ : L2.St} {ρ : Rho} {τ : List Pr} {v : V} {cs : List C} (s : Sta K F H σ ρ ((some v, .ow cs) :: τ)) : ∃ a vs O, v = .ref a ∧ H a = some (.lst vs) ∧ RepCs K F H vs cs O := by
  obtain ⟨O, r, _⟩ := s.all
  cases r with
  | cons c _ =>
    cases c with
    | ow e rc => exact ⟨_, _, _, rfl, e, rc⟩
theorem bvar_ok {i : Nat} {σ : L2.St} {H : Hp} {Q : Bool → Hp → Prop} (h : bOf X.K W (bVar i) σ H Q) : tVar i σ H fun x H' => ∃ k, TruV X.K x H' k ∧ Q k H' := by
  obtain ⟨F, ρ, τ, s, g⟩ := h
  unfold bVar at g
  split at g
  · rename_i cs ec
    obtain ⟨v, ev, s1⟩ := s.get ec (by simp)
    obtain ⟨a, vs, O, rfl, ea, rc⟩ := s1.owOf
    refine ⟨.ref a, ev, !cs.isEmpty, .inl ⟨vs, .of ea, ?_⟩, g F H s⟩
    have := rc.len
    cases vs <;> cases cs <;> simp at this ⊢
  · rename_i d ed
    split at g
    · rename_i b hb
      obtain ⟨v, ev, s1⟩ := s.get ed (by simp)
      exact ⟨v, ev, b, s1.fzOf.tru hb, g F H s⟩
    · exact g.elim
  · exact g.elim
theorem dt_var (i : Nat) {x : Str} (hN : X.N[i]? = some x := by rfl) (hv : Vis X.env.scope x := by first | exact Or.inl rfl | exact Or.inr (Or.inl rfl) | exact Or.inr (Or.inr rfl)) (hd : (x == ("__debug__" : Str)) = false := by decide)
    (hcd : (x == ("__classdict__" : Str)) = false := by decide) : PT X (.Name x pos) (bOf X.K W (bVar i)) :=
  (pt_truth (pe_var hN hv hd hcd) (fun _ => rfl)).imp fun _ _ _ h => bvar_ok h
def bNot (m : M Bool) : M Bool := fun ρ => (m ρ).bind fun b ρ => .ok (!b) ρ
def bAnd (m n : M Bool) : M Bool := fun ρ => (m ρ).bind fun b ρ => if b = true then n ρ else .ok false ρ
def bOr (m n : M Bool) : M Bool := fun ρ => (m ρ).bind fun b ρ => if b = true then .ok true ρ else n ρ
theorem dt_not {m : M Bool} (h : PT X a (bOf X.K W m)) : PT X (.UnaryOp .Not a pos) (bOf X.K W (bNot m)) := (pt_not h).imp fun σ H Q ⟨F, ρ, τ, s, g⟩ => by
  unfold bNot at g
  rw [Good.bind] at g
  exact runB s (g.imp (fun b ρ1 q F1 H1 s1 => q F1 H1 s1) fun _ _ q => q)
variable {rest : List Expr} {m n : M Bool}
theorem dw_and1 (h : PT X a (bOf X.K W m)) : PW X (.BoolOp .And [a] pos) (bOf X.K W m) := pw_and1 h
theorem dw_or1 (h : PT X a (bOf X.K W m)) : PW X (.BoolOp .Or [a] pos) (bOf X.K W m) := pw_or1 h
theorem dw_and (ha : PT X a (bOf X.K W m)) (hb : PW X (.BoolOp .And (b :: rest) pos) (bOf X.K W n)) : PW X (.BoolOp .And (a :: b :: rest) pos) (bOf X.K W (bAnd m n)) := (pw_and ha hb).imp fun σ H Q ⟨F, ρ, τ, s, g⟩ => by
  unfold bAnd at g
  rw [Good.bind] at g
  refine runB s (g.imp (fun c ρ1 q F1 H1 s1 => ?_) fun _ _ q => q)
  cases c with
  | true => exact ⟨F1, ρ1, τ, s1, q⟩
  | false => exact q F1 H1 s1
theorem dw_or (ha : PT X a (bOf X.K W m)) (hb : PW X (.BoolOp .Or (b :: rest) pos) (bOf X.K W n)) : PW X (.BoolOp .Or (a :: b :: rest) pos) (bOf X.K W (bOr m n)) := (pw_or ha hb).imp fun σ H Q ⟨F, ρ, τ, s, g⟩ => by
  unfold bOr at g
  rw [Good.bind] at g
  refine runB s (g.imp (fun c ρ1 q F1 H1 s1 => ?_) fun _ _ q => q)
  cases c with
  | false => exact ⟨F1, ρ1, τ, s1, q⟩
  | true => exact q F1 H1 s1
theorem dt_w {e : Expr} (h : PW X e (bOf X.K W m)) : PT X e (bOf X.K W m) := h.pt
/-- a test as a value -/
def ofB (m : M Bool) : M C := fun ρ => (m ρ).bind fun b ρ => .ok (.fz (.bl b)) ρ
def eNot (m : M C) : M C := ofB (bNot (asB m))
def eAnd (m : M C) (n : M C) : M C := fun ρ => (asB m ρ).bind fun b ρ => if b = true then n ρ else .ok (.fz (.bl false)) ρ
def eOr (m : M C) (n : M C) : M C := fun ρ => (asB m ρ).bind fun b ρ => if b = true then .ok (.fz (.bl true)) ρ else n ρ
theorem asB_run {ma : M C} {σ : L2.St} {H : Hp} {F : Addr → Prop} {ρ : Rho} {τ : List Pr} {P : Bool → Hp → Prop} (s : Sta X.K F H σ ρ τ) (g : Good (asB ma ρ) (okB X.K σ τ P) (erP X.K W σ τ)) : tOf X.K W ma σ H fun x H1 => ∃ c, x = .bl c ∧ P c H1 :=
  asB_ok ⟨F, ρ, τ, s, g⟩
theorem d_not {m : M C} (h : PE X a (tOf X.K W m)) : PE X (.UnaryOp .Not a pos) (tOf X.K W (eNot m)) := (pe_not h).imp fun σ H Q ⟨F, ρ, τ, s, g⟩ => by
  unfold eNot ofB bNot at g
  rw [Good.bind, Good.bind] at g
  exact asB_run (P := fun c H1 => Q (.bl !c) H1) s (g.imp (fun b ρ1 q F1 H1 s1 => q (.bl !b) F1 H1 (by simp) (s1.push (.bl _))) fun _ _ q => q)
theorem d_one {op} {m : M C} (h : PE X a (tOf X.K W m)) : PE X (.BoolOp op [a] pos) (tOf X.K W m) := pe_one h
theorem d_and {m n : M C} (ha : PE X a (tOf X.K W m)) (hb : PE X (.BoolOp .And (b :: rest) pos) (tOf X.K W n)) : PE X (.BoolOp .And (a :: b :: rest) pos) (tOf X.K W (eAnd m n)) := (pe_and ha hb).imp fun σ H Q ⟨F, ρ, τ, s, g⟩ => by
  unfold eAnd at g
  rw [Good.bind] at g
  refine asB_run (P := fun c H1 => if c = true then tOf X.K W n σ H1 Q else Q (.bl false) H1) s (g.imp (fun c ρ1 q F1 H1 s1 => ?_) fun _ _ q => q)
  cases c with
  | true => exact ⟨F1, ρ1, τ, s1, q⟩
  | false => exact q (.bl false) F1 H1 (by simp) (s1.push (.bl _))
theorem d_or {m n : M C} (ha : PE X a (tOf X.K W m)) (hb : PE X (.BoolOp .Or (b :: rest) pos) (tOf X.K W n)) : PE X (.BoolOp .Or (a :: b :: rest) pos) (tOf X.K W (eOr m n)) := (pe_or ha hb).imp fun σ H Q ⟨F, ρ, τ, s, g⟩ => by
  unfold eOr at g
  rw [Good.bind] at g
  refine asB_run (P := fun c H1 => if c = true then Q (.bl true) H1 else tOf X.K W n σ H1 Q) s (g.imp (fun c ρ1 q F1 H1 s1 => ?_) fun _ _ q => q)
  cases c with
  | false => exact ⟨F1, ρ1, τ, s1, q⟩
  | true => exact q (.bl true) F1 H1 (by simp) (s1.push (.bl _))
def eIf (t : M Bool) (a b : M C) : M C := fun ρ => (t ρ).bind fun c ρ => if c = true then a ρ else b ρ
theorem d_if {c : Expr} {t : M Bool} {ma mb : M C} (hc : PT X c (bOf X.K W t)) (ha : PE X a (tOf X.K W ma)) (hb : PE X b (tOf X.K W mb)) : PE X (.IfExp c a b pos) (tOf X.K W (eIf t ma mb)) := (pe_ifExp hc ha hb).imp fun σ H Q ⟨F, ρ, τ, s, g⟩ => by
  unfold eIf at g
  rw [Good.bind] at g
  refine runB s (g.imp (fun c ρ1 q F1 H1 s1 => ?_) fun _ _ q => q)
  cases c with
  | true => exact ⟨F1, ρ1, τ, s1, q⟩
  | false => exact ⟨F1, ρ1, τ, s1, q⟩
end
end Dn

/-! Den4: operators, items, slices, calls of built-ins. -/
namespace Dn
open PySem PySem.Spec PyProof.Rows L2

/-! ### ints -/
def ii (f : Int → Int → Option D) : D → D → Option D
  | .int i, .int j => f i j
  | _, _ => none
theorem ii_ok {K : PySem.W.Frag} {r : R2} {f : Int → Int → Option D} (h : ∀ i j z F H Q, f i j = some z → (∀ v, Rep K F H v z → Q v H) → r (.int i) (.int j) H Q) : OpOk K r (ii f) := fun x y z F H vx vy Q e rx ry q => by
  cases x <;> cases y <;> simp only [ii, reduceCtorEq] at e
  rw [rx.intv, ry.intv]
  exact h _ _ z F H Q e q
def iSub : D → D → Option D := ii fun i j => some (.int (i - j))
def iMod : D → D → Option D := ii fun i j => if 0 < j then some (.int (i % j)) else none
def iDiv : D → D → Option D := ii fun i j => if 0 < j ∧ j.natAbs.log2 < 9000 then some (.int (i / j)) else none
def iPow : D → D → Option D := ii fun i j => if 0 ≤ j ∧ j ≤ 1000 ∧ i.natAbs < 1000000 then some (.int (i ^ j.toNat)) else none
def iLt : D → D → Option D := ii fun i j => some (.bl (decide (i < j)))
def iLe : D → D → Option D := ii fun i j => some (.bl (decide (i ≤ j)))
def iGt : D → D → Option D := ii fun i j => some (.bl (decide (j < i)))
def iGe : D → D → Option D := ii fun i j => some (.bl (decide (j ≤ i)))
theorem rI0_ok {K : PySem.W.Frag} {F : Addr → Prop} {H : Hp} {Q : VK} {g : Int → Int → V} {i j : Int} (h : Q (g i j) H) : rI0 g (.int i) (.int j) H Q := ⟨i, j, rfl, rfl, h⟩
theorem ok_sub {K : PySem.W.Frag} : OpOk K (rI0 fun i j => .int (i - j)) iSub := ii_ok fun i j z F H Q e q => by cases e; exact ⟨i, j, rfl, rfl, q _ (.int _)⟩
theorem ok_lt {K : PySem.W.Frag} : OpOk K (rI0 fun i j => .bl (decide (i < j))) iLt := ii_ok fun i j z F H Q e q => by cases e; exact ⟨i, j, rfl, rfl, q _ (.bl _)⟩
theorem ok_le {K : PySem.W.Frag} : OpOk K (rI0 fun i j => .bl (decide (i ≤ j))) iLe := ii_ok fun i j z F H Q e q => by cases e; exact ⟨i, j, rfl, rfl, q _ (.bl _)⟩
theorem ok_gt {K : PySem.W.Frag} : OpOk K (rI0 fun i j => .bl (decide (j < i))) iGt := ii_ok fun i j z F H Q e q => by cases e; exact ⟨i, j, rfl, rfl, q _ (.bl _)⟩
theorem ok_ge {K : PySem.W.Frag} : OpOk K (rI0 fun i j => .bl (decide (j ≤ i))) iGe := ii_ok fun i j z F H Q e q => by cases e; exact ⟨i, j, rfl, rfl, q _ (.bl _)⟩
theorem ok_mod {K : PySem.W.Frag} : OpOk K (rI (fun _ j => 0 < j) fun i j => .int (i % j)) iMod := ii_ok fun i j z F H Q e q => by
  split at e <;> cases e
  exact ⟨i, j, rfl, rfl, by assumption, q _ (.int _)⟩
theorem ok_div {K : PySem.W.Frag} : OpOk K (rI CDivW fun i j => .int (i / j)) iDiv := ii_ok fun i j z F H Q e q => by
  split at e <;> cases e
  exact ⟨i, j, rfl, rfl, by assumption, q _ (.int _)⟩
theorem ok_pow {K : PySem.W.Frag} : OpOk K (rI CPow fun i j => .int (i ^ j.toNat)) iPow := ii_ok fun i j z F H Q e q => by
  split at e
  · rename_i h
    cases e
    exact ⟨i, j, rfl, rfl, ⟨h.1, by omega, by have := h.2.2; omega⟩, q _ (.int _)⟩
  · cases e

/-! ### a value made: + and * of any kind -/
def eOpC (f : D → D → Option C) (a b : M C) : M C := fun ρ => (a ρ).bind fun c ρ => (b ρ).bind fun d ρ => match f (fzD c) (fzD d) with
  | some z => .ok z ρ
  | none => .st
/-- what a rule must bring: the cell z, frozen or newly made of frozen things -/
def MadeOk (K : PySem.W.Frag) (F : Addr → Prop) (H : Hp) (z : C) (Q : VK) : Prop := match z with
  | .fz d => ∀ v, Rep K F H v d → Q v H
  | .ow cs => ∀ p vs, H p = none → RepCs K F H vs cs [] → Q (.ref p) (upd H p (.lst vs))
  | .tp cs => ∀ p vs, H p = none → RepCs K F H vs cs [] → Q (.ref p) (upd H p (.tup vs))
  | _ => False
theorem RepCs.ne {K : PySem.W.Frag} {F : Addr → Prop} {H : Hp} : ∀ {vs : List V} {cs : List C} {O : List Addr}, RepCs K F H vs cs O → ∀ c ∈ cs, c ≠ .no
  | _, _, _, .nil, _, m => nomatch m
  | _, _, _, .cons r rs, c, m => by
    rcases List.mem_cons.mp m with rfl | m
    · rintro rfl; cases r
    · exact rs.ne c m
theorem RepCs.toP {K : PySem.W.Frag} {F : Addr → Prop} {H : Hp} : ∀ {vs : List V} {cs : List C} {O : List Addr} {ps : List Pr} {O' : List Addr}, RepCs K F H vs cs O → RepP K F H ps O' → RepP K F H (tmps vs cs ++ ps) (O ++ O')
  | _, _, _, _, _, .nil, r => r
  | _, _, _, _, _, .cons c cs, r => by
    have := RepP.cons c (cs.toP r)
    rw [← List.append_assoc] at this
    exact this
theorem Sta.made {K : PySem.W.Frag} {F : Addr → Prop} {H : Hp} {σ : L2.St} {ρ : Rho} {τ : List Pr} {z : C} {Q : VK} (s : Sta K F H σ ρ τ) (q : okP K σ τ Q z ρ) (hz : (∃ d, z = .fz d) ∨ (∃ cs, z = .ow cs) ∨ ∃ cs, z = .tp cs) : MadeOk K F H z Q := by
  have tmp : ∀ {vs : List V} {cs : List C}, RepCs K F H vs cs [] → Sta K F H σ ρ (tmps vs cs ++ τ) := fun {vs cs} r => s.on fun l ⟨O, rp, a⟩ => by
    refine ⟨O, ?_, a⟩
    have := r.toP rp
    rw [List.append_assoc]
    exact this
  rcases hz with ⟨d, rfl⟩ | ⟨cs, rfl⟩ | ⟨cs, rfl⟩
  · exact fun v r => q v F H (by simp) (s.push r)
  · refine fun p vs np r => q (.ref p) F _ (by simp) ((tmp r).on fun l al => ?_)
    rw [List.append_assoc] at al
    exact al.mkL r.len r.ne np
  · refine fun p vs np r => q (.ref p) F _ (by simp) ((tmp r).on fun l al => ?_)
    rw [List.append_assoc] at al
    exact al.mkT r.len r.ne np
def OpCOk (K : PySem.W.Frag) (r : R2) (f : D → D → Option C) : Prop := ∀ x y z F H vx vy Q, f x y = some z → Rep K F H vx x → Rep K F H vy y → (((∃ d, z = .fz d) ∨ (∃ cs, z = .ow cs) ∨ ∃ cs, z = .tp cs) → MadeOk K F H z Q) → r vx vy H Q
section
variable {X : Cx} {W : WX} {pos : Pos} {e a b : Expr} {es : List Expr}
theorem opC_ok {f : D → D → Option C} {r : R2} {ma mb : M C} (hf : OpCOk X.K r f) {σ : L2.St} {H : Hp} {Q : VK} (h : tOf X.K W (eOpC f ma mb) σ H Q) : tOp r (tOf X.K W ma) (tOf X.K W mb) σ H Q := by
  obtain ⟨F, ρ, τ, s, g⟩ := h
  refine run2 s g fun c d ρ2 F2 H2 v w s2 q => ?_
  split at q
  · rename_i z hz
    exact hf _ _ z F2 H2 v w Q hz s2.drop.fzOf s2.fzOf fun kz => s2.drop.drop.made q kz
  · exact q.elim
def addC : D → D → Option C
  | .int i, .int j => some (.fz (.int (i + j)))
  | .str i, .str j => if small (i.length + j.length) then some (.fz (.str (i ++ j))) else none
  | .lst ds, .lst es => if small (ds.length + es.length) then some (.ow ((ds ++ es).map .fz)) else none
  | .tup ds, .tup es => if small (ds.length + es.length) && !ds.isEmpty && !es.isEmpty then some (.tp ((ds ++ es).map .fz)) else none
  | _, _ => none
def rAdd (K : PySem.W.Frag) : R2 := fun x y H Q => ((rI0 fun i j => .int (i + j)) x y H Q ∨ (∃ i j, x = .str i ∧ y = .str j ∧ i.length + j.length ≤ sizeLine ∧ Q (.str (i ++ j)) H)) ∨ (rCat x y H Q ∨ rCatA K x y H Q)
theorem op_addAll : OpR X (binaryOp .Add) (rAdd X.K) := (op_add.or op_add_str).or (op_cat.or op_catA)
theorem ok_add {K : PySem.W.Frag} : OpCOk K (rAdd K) addC := fun x y z F H vx vy Q e rx ry q => by
  cases x <;> cases y <;> simp only [addC, reduceCtorEq] at e
  · cases e
    rw [rx.intv, ry.intv]
    exact .inl (.inl ⟨_, _, rfl, rfl, q (.inl ⟨_, rfl⟩) _ (.int _)⟩)
  · split at e <;> cases e
    rename_i hs
    rw [rx.strv, ry.strv]
    exact .inl (.inr ⟨_, _, rfl, rfl, small_line hs, q (.inl ⟨_, rfl⟩) _ (.str _)⟩)
  · split at e <;> cases e
    rename_i hs
    obtain ⟨p, vs, rfl, ha, ra⟩ := rx.lstv
    obtain ⟨p2, ws, rfl, hb, rb⟩ := ry.lstv
    refine .inr (.inl ⟨p, p2, vs, ws, rfl, rfl, ha.2, hb.2, by rw [ra.len, rb.len]; exact small_line hs, fun p np => ?_⟩)
    exact q (.inr (.inl ⟨_, rfl⟩)) p _ np (ra.append rb).cells
  · split at e <;> cases e
    rename_i hs
    simp only [Bool.and_eq_true, Bool.not_eq_true'] at hs
    obtain ⟨p, vs, rfl, ha, ra⟩ := rx.tupv
    obtain ⟨p2, ws, rfl, hb, rb⟩ := ry.tupv
    refine .inr (.inr ⟨p, p2, vs, ws, rfl, rfl, ha.seq, hb.seq, by rw [ra.len, rb.len]; exact small_line hs.1.1, fun z => ?_, fun z1 z2 => ?_, fun z1 z2 p np => ?_⟩)
    · subst z; cases ra; simp at hs
    · subst z2; cases rb; simp at hs
    · exact q (.inr (.inr ⟨_, rfl⟩)) p _ np (ra.append rb).cells
theorem d_add {ma mb : M C} (ha : PE X a (tOf X.K W ma)) (hb : PE X b (tOf X.K W mb)) : PE X (.BinOp a .Add b pos) (tOf X.K W (eOpC addC ma mb)) := (pe_op op_addAll ha hb).imp fun _ _ _ h => opC_ok ok_add h
def wide (i j : Int) : Bool := decide (i.natAbs.log2 + j.natAbs.log2 < 1000000) || (decide (i.natAbs.log2 < 60) || decide (j.natAbs.log2 < 60))
theorem wide_sound {i j : Int} (h : wide i j = true) : IntMulOk i j := by
  have b : ∀ x : Int, x.natAbs.log2 < 60 → Builtin.Int.intBits x ≤ 64 := fun x hx => by
    unfold Builtin.Int.intBits
    split <;> omega
  unfold wide at h
  simp only [Bool.or_eq_true, decide_eq_true_eq] at h
  rcases h with h | h | h
  · exact CMulW.ok h
  · exact IntMulOk.of_left (b _ h)
  · exact IntMulOk.of_right (b _ h)
theorem op_mulX {X : Cx} : OpR X (binaryOp .Mult) (rI IntMulOk fun i j => .int (i * j)) := opI fun _ _ _ _ _ _ _ hc q => mul_int q hc
def mulC : D → D → Option C
  | .int i, .int j => if wide i j then some (.fz (.int (i * j))) else none
  | .lst ds, .int k => if small (ds.length * k.toNat) && decide (k.natAbs < 1000000) then some (.ow ((List.replicate k.toNat ds).flatten.map .fz)) else none
  | _, _ => none
theorem Reps.rep {K : PySem.W.Frag} {F : Addr → Prop} {H : Hp} {vs : List V} {ds : List D} (r : Reps K F H vs ds) : ∀ n, Reps K F H (List.replicate n vs).flatten (List.replicate n ds).flatten
  | 0 => .nil
  | n + 1 => by
    rw [List.replicate_succ, List.replicate_succ, List.flatten_cons, List.flatten_cons]
    exact r.append (r.rep n)
theorem ok_mul {K : PySem.W.Frag} : OpCOk K (fun x y H Q => rI IntMulOk (fun i j => .int (i * j)) x y H Q ∨ rRep x y H Q) mulC := fun x y z F H vx vy Q e rx ry q => by
  cases x <;> cases y <;> simp only [mulC, reduceCtorEq] at e
  · split at e <;> cases e
    rename_i hs
    rw [rx.intv, ry.intv]
    exact .inl ⟨_, _, rfl, rfl, wide_sound hs, q (.inl ⟨_, rfl⟩) _ (.int _)⟩
  · split at e <;> cases e
    rename_i hs
    simp only [Bool.and_eq_true, decide_eq_true_eq] at hs
    obtain ⟨p, vs, rfl, ha, ra⟩ := rx.lstv
    rw [ry.intv]
    refine .inr ⟨p, _, vs, rfl, rfl, ha.2, by omega, by omega, by rw [ra.len]; exact small_line hs.1, fun p np => ?_⟩
    exact q (.inr (.inl ⟨_, rfl⟩)) p _ np (ra.rep _).cells
theorem d_mul {ma mb : M C} (ha : PE X a (tOf X.K W ma)) (hb : PE X b (tOf X.K W mb)) : PE X (.BinOp a .Mult b pos) (tOf X.K W (eOpC mulC ma mb)) := (pe_op (op_mulX.or op_rep) ha hb).imp fun _ _ _ h => opC_ok ok_mul h
theorem d_sub {ma mb : M C} (ha : PE X a (tOf X.K W ma)) (hb : PE X b (tOf X.K W mb)) : PE X (.BinOp a .Sub b pos) (tOf X.K W (eOp iSub ma mb)) := d_op op_sub ok_sub ha hb
theorem d_mod {ma mb : M C} (ha : PE X a (tOf X.K W ma)) (hb : PE X b (tOf X.K W mb)) : PE X (.BinOp a .Mod b pos) (tOf X.K W (eOp iMod ma mb)) := d_op op_mod ok_mod ha hb
theorem d_div {ma mb : M C} (ha : PE X a (tOf X.K W ma)) (hb : PE X b (tOf X.K W mb)) : PE X (.BinOp a .FloorDiv b pos) (tOf X.K W (eOp iDiv ma mb)) := d_op op_fdivW ok_div ha hb
theorem d_pow {ma mb : M C} (ha : PE X a (tOf X.K W ma)) (hb : PE X b (tOf X.K W mb)) : PE X (.BinOp a .Pow b pos) (tOf X.K W (eOp iPow ma mb)) := d_op op_pow ok_pow ha hb

/-! ### == of data -/
mutual
def toPy : D → Option PyData
  | .non => some .none
  | .bl b => some (.bool b)
  | .int i => some (.int i)
  | .str s => some (.str s)
  | .lst ds => (toPys ds).map .list
  | .tup ds => (toPys ds).map .tuple
  | _ => none
def toPys : List D → Option (List PyData)
  | [] => some []
  | d :: ds => match toPy d, toPys ds with
    | some x, some xs => some (x :: xs)
    | _, _ => none
end
mutual
theorem Rep.dp {K : PySem.W.Frag} {F : Addr → Prop} {H : Hp} : ∀ {v : V} {d : D} {p : PyData}, Rep K F H v d → toPy d = some p → Dp K H v p
  | _, _, _, .non, e => by simp only [toPy, Option.some.injEq] at e; subst e; exact .non
  | _, _, _, .bl b, e => by simp only [toPy, Option.some.injEq] at e; subst e; exact .bl _
  | _, _, _, .int b, e => by simp only [toPy, Option.some.injEq] at e; subst e; exact .int _
  | _, _, _, .str b, e => by simp only [toPy, Option.some.injEq] at e; subst e; exact .str _
  | _, _, _, .ob b, e => by simp [toPy] at e
  | _, _, _, .dk _ _ _, e => by simp [toPy] at e
  | _, _, _, .fr _ _, e => by simp [toPy] at e
  | _, _, _, .lst h r, e => by
    simp only [toPy, Option.map_eq_some_iff] at e
    obtain ⟨ps, e1, rfl⟩ := e
    exact .lst h.seq (Reps.dps r e1)
  | _, _, _, .tup h r, e => by
    simp only [toPy, Option.map_eq_some_iff] at e
    obtain ⟨ps, e1, rfl⟩ := e
    exact .tup h.seq (Reps.dps r e1)
theorem Reps.dps {K : PySem.W.Frag} {F : Addr → Prop} {H : Hp} : ∀ {vs : List V} {ds : List D} {ps : List PyData}, Reps K F H vs ds → toPys ds = some ps → DpAll K H vs ps
  | _, _, _, .nil, e => by simp only [toPys, Option.some.injEq] at e; subst e; exact .nil
  | _, _, _, .cons r rs, e => by
    simp only [toPys] at e
    split at e
    · rename_i x xs e1 e2
      cases e
      exact .cons (Rep.dp r e1) (Reps.dps rs e2)
    · cases e
end
def eqS : D → D → Option Bool
  | .int i, .int j => some (decide (i = j))
  | .str s, .str t => some (decide (s = t))
  | .bl b, .bl c => some (decide (b = c))
  | _, _ => none
def eqQ (x y : D) : Option Bool := match toPy x, toPy y with
  | some p, some q => if SeqAt.shaped p && SeqAt.shaped q then some (PyData.eqv p q) else none
  | _, _ => none
def eqP (x y : D) : Option Bool := match eqS x y with
  | some b => some b
  | none => eqQ x y
def eqD (x y : D) : Option D := (eqP x y).map .bl
def neD (x y : D) : Option D := (eqP x y).map fun b => .bl (!b)
theorem eqQ_ok {K : PySem.W.Frag} {x y : D} {k : Bool} {F : Addr → Prop} {H : Hp} {vx vy : V} (h : eqQ x y = some k) (rx : Rep K F H vx x) (ry : Rep K F H vy y) :
    ∃ d e, Dp K H vx d ∧ Dp K H vy e ∧ SeqAt.shaped d = true ∧ SeqAt.shaped e = true ∧ PyData.eqv d e = k := by
  unfold eqQ at h
  split at h
  · rename_i p q e1 e2
    split at h
    · rename_i hs
      rw [Bool.and_eq_true] at hs
      cases h
      exact ⟨p, q, rx.dp e1, ry.dp e2, hs.1, hs.2, rfl⟩
    · cases h
  · cases h
theorem eqS_ok {K : PySem.W.Frag} {x y : D} {k : Bool} {F : Addr → Prop} {H : Hp} {vx vy : V} (h : eqS x y = some k) (rx : Rep K F H vx x) (ry : Rep K F H vy y) : L2.scal vx vy = true ∧ decide (vx = vy) = k := by
  cases x <;> cases y <;> simp only [eqS, reduceCtorEq, Option.some.injEq] at h <;> subst h
  · rw [rx.blv, ry.blv]; exact ⟨rfl, by simp⟩
  · rw [rx.intv, ry.intv]; exact ⟨rfl, by simp⟩
  · rw [rx.strv, ry.strv]; exact ⟨rfl, by simp⟩
theorem ok_eq {K : PySem.W.Frag} : OpOk K (fun x y H Q => rEq x y H Q ∨ rEqD K x y H Q) eqD := fun x y z F H vx vy Q e rx ry q => by
  simp only [eqD, eqP, Option.map_eq_some_iff] at e
  obtain ⟨k, e, rfl⟩ := e
  split at e
  · rename_i b hb
    cases e
    obtain ⟨h1, h2⟩ := eqS_ok hb rx ry
    exact .inl ⟨h1, by rw [h2]; exact q _ (.bl _)⟩
  · obtain ⟨d, e', h1, h2, h3, h4, h5⟩ := eqQ_ok e rx ry
    exact .inr ⟨d, e', h1, h2, h3, h4, by rw [h5]; exact q _ (.bl _)⟩
theorem ok_ne {K : PySem.W.Frag} : OpOk K (fun x y H Q => rNe x y H Q ∨ rNeD K x y H Q) neD := fun x y z F H vx vy Q e rx ry q => by
  simp only [neD, eqP, Option.map_eq_some_iff] at e
  obtain ⟨k, e, rfl⟩ := e
  split at e
  · rename_i b hb
    cases e
    obtain ⟨h1, h2⟩ := eqS_ok hb rx ry
    exact .inl ⟨h1, by rw [h2]; exact q _ (.bl _)⟩
  · obtain ⟨d, e', h1, h2, h3, h4, h5⟩ := eqQ_ok e rx ry
    exact .inr ⟨d, e', h1, h2, h3, h4, by rw [h5]; exact q _ (.bl _)⟩
theorem op_eqAll (hu : X.A.units + 64 < cLine) : OpR X (compareOp .Eq) (fun x y H Q => rEq x y H Q ∨ rEqD X.K x y H Q) := op_eq.or (op_eqD hu)
theorem op_neAll (hu : X.A.units + 64 < cLine) : OpR X (compareOp .NotEq) (fun x y H Q => rNe x y H Q ∨ rNeD X.K x y H Q) := op_ne.or (op_neD hu)
/-! ### is None -/
def isN : D → D → Option D
  | .non, .non => some (.bl true)
  | .ob _, .non => none
  | .gh _ _, .non => none
  | _, .non => some (.bl false)
  | _, _ => none
def isNN (x y : D) : Option D := match isN x y with
  | some (.bl b) => some (.bl (!b))
  | _ => none
theorem Rep.non_iff {K : PySem.W.Frag} {F : Addr → Prop} {H : Hp} {v : V} {d y z : D} (r : Rep K F H v d) (h : isN d y = some z) : z = .bl (decide (v = .non)) ∧ y = .non := by
  cases d <;> cases y <;> simp only [isN, reduceCtorEq, Option.some.injEq] at h <;> subst h <;> cases r <;> simp
theorem ok_isN {K : PySem.W.Frag} : OpOk K (fun x y H Q => y = .non ∧ Q (.bl (decide (x = .non))) H) isN := fun x y z F H vx vy Q e rx ry q => by
  obtain ⟨rfl, rfl⟩ := rx.non_iff e
  exact ⟨ry.nonv, q _ (.bl _)⟩
theorem ok_isNN {K : PySem.W.Frag} : OpOk K (fun x y H Q => y = .non ∧ Q (.bl (!decide (x = .non))) H) isNN := fun x y z F H vx vy Q e rx ry q => by
  unfold isNN at e
  split at e
  · rename_i b hb
    obtain ⟨h1, rfl⟩ := rx.non_iff hb
    cases h1
    cases e
    exact ⟨ry.nonv, q _ (.bl _)⟩
  · cases e
/-! ### in -/
def flatD : D → Option V
  | .non => some .non
  | .bl b => some (.bl b)
  | .int i => some (.int i)
  | .str s => some (.str s)
  | _ => none
def flatDs : List D → Option (List V)
  | [] => some []
  | d :: ds => match flatD d, flatDs ds with
    | some v, some vs => some (v :: vs)
    | _, _ => none
theorem Rep.flat {K : PySem.W.Frag} {F : Addr → Prop} {H : Hp} {v w : V} {d : D} (r : Rep K F H v d) (h : flatD d = some w) : v = w ∧ flatV v = true := by
  cases d <;> simp only [flatD, reduceCtorEq, Option.some.injEq] at h <;> subst h <;> cases r <;> exact ⟨rfl, rfl⟩
theorem Reps.flats {K : PySem.W.Frag} {F : Addr → Prop} {H : Hp} : ∀ {vs ws : List V} {ds : List D}, Reps K F H vs ds → flatDs ds = some ws → vs = ws ∧ vs.all flatV = true
  | _, _, _, .nil, h => by simp only [flatDs, Option.some.injEq] at h; exact ⟨h, rfl⟩
  | _, _, _, .cons r rs, h => by
    simp only [flatDs] at h
    split at h
    · rename_i v vs e1 e2
      cases h
      obtain ⟨a, b⟩ := r.flat e1
      obtain ⟨c, d⟩ := rs.flats e2
      exact ⟨by rw [a, c], by rw [List.all_cons, b, d]; rfl⟩
    · cases h
def seqD : D → Option (List D)
  | .lst ds => some ds
  | .tup ds => some ds
  | _ => none
def inP (x y : D) : Option Bool := (seqD y).bind fun ds => (flatD x).bind fun v => (flatDs ds).map fun ws => inV v ws
def inD (x y : D) : Option D := (inP x y).map .bl
def ninD (x y : D) : Option D := (inP x y).map fun b => .bl (!b)
theorem Rep.seq {K : PySem.W.Frag} {F : Addr → Prop} {H : Hp} {v : V} {y : D} {ds : List D} (r : Rep K F H v y) (h : seqD y = some ds) : ∃ p vs, v = .ref p ∧ (SqL K H p vs ∨ SqT K H p vs) ∧ Reps K F H vs ds := by
  cases y <;> simp only [seqD, reduceCtorEq, Option.some.injEq] at h <;> subst h
  · obtain ⟨a, vs, rfl, hl, rs⟩ := r.lstv
    exact ⟨a, vs, rfl, .inl hl.seq, rs⟩
  · obtain ⟨a, vs, rfl, hl, rs⟩ := r.tupv
    exact ⟨a, vs, rfl, .inr hl.seq, rs⟩
theorem inP_ok {K : PySem.W.Frag} {x y : D} {k : Bool} {F : Addr → Prop} {H : Hp} {vx vy : V} (h : inP x y = some k) (rx : Rep K F H vx x) (ry : Rep K F H vy y) :
    ∃ p xs, vy = .ref p ∧ (SqL K H p xs ∨ SqT K H p xs) ∧ flatV vx = true ∧ xs.all flatV = true ∧ inV vx xs = k := by
  simp only [inP, Option.bind_eq_some_iff, Option.map_eq_some_iff] at h
  obtain ⟨ds, e1, v, e2, ws, e3, rfl⟩ := h
  obtain ⟨p, vs, rfl, hs, rs⟩ := ry.seq e1
  obtain ⟨rfl, f1⟩ := rx.flat e2
  obtain ⟨rfl, f2⟩ := rs.flats e3
  exact ⟨p, _, rfl, hs, f1, f2, rfl⟩
theorem ok_in {K : PySem.W.Frag} : OpOk K (rIn K false) inD := fun x y z F H vx vy Q e rx ry q => by
  simp only [inD, Option.map_eq_some_iff] at e
  obtain ⟨k, e, rfl⟩ := e
  obtain ⟨p, xs, h1, h2, h3, h4, h5⟩ := inP_ok e rx ry
  exact ⟨p, xs, h1, h2, h3, h4, by rw [h5]; exact q _ (.bl _)⟩
theorem ok_nin {K : PySem.W.Frag} : OpOk K (rIn K true) ninD := fun x y z F H vx vy Q e rx ry q => by
  simp only [ninD, Option.map_eq_some_iff] at e
  obtain ⟨k, e, rfl⟩ := e
  obtain ⟨p, xs, h1, h2, h3, h4, h5⟩ := inP_ok e rx ry
  exact ⟨p, xs, h1, h2, h3, h4, by rw [h5]; exact q _ (.bl _)⟩

/-! ### items -/
def ixD : D → D → Option D
  | .lst ds, .int i => atI ds i
  | .fr ds, .int i => atI ds i
  | .tup ds, .int i => atI ds i
  | .str s, .int i => if small s.length then (atI s.cps.toList i).map fun c => .str ⟨#[c]⟩ else none
  | _, _ => none
theorem Reps.atI {K : PySem.W.Frag} {F : Addr → Prop} {H : Hp} {vs : List V} {ds : List D} {i : Int} {d : D} (r : Reps K F H vs ds) (h : atI ds i = some d) : ∃ v, L2.atI vs i = some v ∧ Rep K F H v d := by
  unfold L2.atI at h ⊢
  rw [r.len]
  cases e : ixN ds.length i with
  | none => rw [e] at h; cases h
  | some j =>
    rw [e] at h
    exact r.get h
theorem ok_ix {K : PySem.W.Frag} : OpOk K (rIx K) ixD := fun x y z F H vx vy Q e rx ry q => by
  cases x <;> cases y <;> simp only [ixD, reduceCtorEq] at e
  · split at e
    · rename_i hs
      simp only [Option.map_eq_some_iff] at e
      obtain ⟨c, e, rfl⟩ := e
      rw [rx.strv, ry.intv]
      exact .inr (.inr ⟨_, _, c, rfl, rfl, small_line hs, e, q _ (.str _)⟩)
    · cases e
  · obtain ⟨p, vs, rfl, ha, ra⟩ := rx.lstv
    obtain ⟨v, ev, rv⟩ := ra.atI e
    rw [ry.intv]
    exact .inl ⟨p, vs, _, v, rfl, rfl, ha.seq, ev, q v rv⟩
  · obtain ⟨p, vs, rfl, ha, ra⟩ := rx.frv
    obtain ⟨v, ev, rv⟩ := ra.atI e
    rw [ry.intv]
    exact .inl ⟨p, vs, _, v, rfl, rfl, ha.seq, ev, q v rv⟩
  · obtain ⟨p, vs, rfl, ha, ra⟩ := rx.tupv
    obtain ⟨v, ev, rv⟩ := ra.atI e
    rw [ry.intv]
    exact .inr (.inl ⟨p, vs, _, v, rfl, rfl, ha.seq, ev, q v rv⟩)
theorem d_ix {ma mb : M C} (ha : PE X a (tOf X.K W ma)) (hb : PE X b (tOf X.K W mb)) (hs : PlainIx b := by exact fun _ _ => rfl) : PE X (.Subscript a b pos) (tOf X.K W (eOp ixD ma mb)) :=
  (pe_ix ix_seq ha hb hs).imp fun _ _ _ h => op_ok ok_ix h
/-- an item of what a name holds, the name left as it is -/
def hasN (c : Option C) : Bool := match c with
  | none => false
  | some .no => false
  | _ => true
def itemV (i : Nat) (d : C) : M C := fun ρ => match ρ[i]? with
  | some (.fz x) => match ixD x (fzD d) with
    | some z => .ok (.fz z) ρ
    | none => .st
  | some (.ow cs) => match fzD d with
    | .int j => match atI cs j with
      | some (.fz z) => .ok (.fz z) ρ
      | _ => .st
    | _ => .st
  | some (.tp cs) => match fzD d with
    | .int j => match atI cs j with
      | some (.fz z) => .ok (.fz z) ρ
      | _ => .st
    | _ => .st
  | _ => .st
def eIxV (i : Nat) (mb : M C) : M C := fun ρ => if hasN ρ[i]? then (mb ρ).bind fun d ρ => itemV i d ρ else .st
theorem RepCs.get {K : PySem.W.Frag} {F : Addr → Prop} {H : Hp} : ∀ {vs : List V} {cs : List C} {O : List Addr} {i : Nat} {c : C}, RepCs K F H vs cs O → cs[i]? = some c → ∃ v O', vs[i]? = some v ∧ RepC K F H v c O'
  | _, _, _, _, _, .nil, h => by simp at h
  | _, _, _, 0, _, .cons r _, h => by simp at h; subst h; exact ⟨_, _, rfl, r⟩
  | _, _, _, i + 1, _, .cons _ r, h => by
    obtain ⟨v, O', e, q⟩ := r.get (i := i) (by simpa using h)
    exact ⟨v, O', by simpa using e, q⟩
theorem RepCs.atI {K : PySem.W.Frag} {F : Addr → Prop} {H : Hp} {vs : List V} {cs : List C} {O : List Addr} {i : Int} {d : D} (r : RepCs K F H vs cs O) (h : L2.atI cs i = some (.fz d)) : ∃ v, L2.atI vs i = some v ∧ Rep K F H v d := by
  unfold L2.atI at h ⊢
  rw [r.len]
  cases e : ixN cs.length i with
  | none => rw [e] at h; cases h
  | some j =>
    rw [e] at h
    obtain ⟨v, O', e2, q⟩ := r.get h
    cases q with
    | fz q => exact ⟨v, e2, q⟩
theorem Sta.tpOf {K : PySem.W.Frag} {F : Addr → Prop} {H : Hp} {σ : L2.St} {ρ : Rho} {τ : List Pr} {v : V} {cs : List C} (s : Sta K F H σ ρ ((some v, .tp cs) :: τ)) : ∃ a vs O, v = .ref a ∧ H a = some (.tup vs) ∧ RepCs K F H vs cs O := by
  obtain ⟨O, r, _⟩ := s.all
  cases r with
  | cons c _ =>
    cases c with
    | tp e rc => exact ⟨_, _, _, rfl, e, rc⟩
theorem Sta.has {K : PySem.W.Frag} {F : Addr → Prop} {H : Hp} {σ : L2.St} {ρ : Rho} {τ : List Pr} {i : Nat} (s : Sta K F H σ ρ τ) (h : hasN ρ[i]? = true) : ∃ v, σ[i]? = some (some v) := by
  cases e : ρ[i]? with
  | none => rw [e] at h; cases h
  | some c =>
    rw [e] at h
    obtain ⟨v, ev, _⟩ := s.get e (by rintro rfl; cases h)
    exact ⟨v, ev⟩
theorem ixV_ok {i : Nat} {mb : M C} {σ : L2.St} {H : Hp} {Q : VK} (h : tOf X.K W (eIxV i mb) σ H Q) : tOp (rIx X.K) (tVar i) (tOf X.K W mb) σ H Q := by
  obtain ⟨F, ρ, τ, s, g⟩ := h
  unfold eIxV at g
  split at g
  · rename_i hn
    obtain ⟨v, ev⟩ := s.has hn
    refine ⟨v, ev, ?_⟩
    rw [Good.bind] at g
    refine run1 s (g.imp (fun c ρ1 q w F1 H1 s1 => ?_) fun _ _ q => q)
    unfold itemV at q
    have fin : ∀ {z : D}, okP X.K σ τ Q (.fz z) ρ1 → ∀ u, Rep X.K F1 H1 u z → Q u H1 := fun q u ru => q u F1 H1 (by simp) (s1.drop.push ru)
    split at q
    · rename_i x ex
      obtain ⟨v', ev', s2⟩ := s1.get ex (by simp)
      rw [ev] at ev'
      cases ev'
      split at q
      · rename_i z hz
        exact ok_ix _ _ z F1 H1 v w Q hz s2.fzOf s1.fzOf (fin q)
      · exact q.elim
    · rename_i cs ex
      obtain ⟨v', ev', s2⟩ := s1.get ex (by simp)
      rw [ev] at ev'
      cases ev'
      obtain ⟨a, vs, O, rfl, ea, rc⟩ := s2.owOf
      split at q
      · rename_i j hj
        rw [hj] at s1
        split at q
        · rename_i z hz
          obtain ⟨u, eu, ru⟩ := rc.atI hz
          rw [s1.fzOf.intv]
          exact .inl ⟨a, vs, j, u, rfl, rfl, .of ea, eu, q u F1 H1 (by simp) (s1.drop.push ru)⟩
        · exact q.elim
      · exact q.elim
    · rename_i cs ex
      obtain ⟨v', ev', s2⟩ := s1.get ex (by simp)
      rw [ev] at ev'
      cases ev'
      obtain ⟨a, vs, O, rfl, ea, rc⟩ := s2.tpOf
      split at q
      · rename_i j hj
        rw [hj] at s1
        split at q
        · rename_i z hz
          obtain ⟨u, eu, ru⟩ := rc.atI hz
          rw [s1.fzOf.intv]
          exact .inr (.inl ⟨a, vs, j, u, rfl, rfl, .of ea, eu, q u F1 H1 (by simp) (s1.drop.push ru)⟩)
        · exact q.elim
      · exact q.elim
    · exact q.elim
  · exact g.elim
theorem d_ixV (i : Nat) {x : Str} {p : Pos} {mb : M C} (hb : PE X b (tOf X.K W mb)) (hN : X.N[i]? = some x := by rfl) (hv : Vis X.env.scope x := by first | exact Or.inl rfl | exact Or.inr (Or.inl rfl) | exact Or.inr (Or.inr rfl)) (hs : PlainIx b := by exact fun _ _ => rfl)
    (hd : (x == ("__debug__" : Str)) = false := by decide) (hcd : (x == ("__classdict__" : Str)) = false := by decide) : PE X (.Subscript (.Name x p) b pos) (tOf X.K W (eIxV i mb)) :=
  (pe_ix ix_seq (pe_var hN hv hd hcd) hb hs).imp fun _ _ _ h => ixV_ok h

/-! ### slices -/
def pNone : M (Option Int) := fun ρ => .ok none ρ
def pSome (m : M C) : M (Option Int) := fun ρ => (m ρ).bind fun c ρ => match fzD c with
  | .int i => .ok (some i) ρ
  | _ => .st
def okO (K : PySem.W.Frag) (σ : L2.St) (τ : List Pr) (Q : Option Int → Hp → Prop) : Option Int → Rho → Prop := fun o ρ => ∀ F H, Sta K F H σ ρ τ → Q o H
def oOf (K : PySem.W.Frag) (W : WX) (m : M (Option Int)) : TO := fun σ H Q => ∃ F ρ τ, Sta K F H σ ρ τ ∧ Good (m ρ) (okO K σ τ Q) (erP K W σ τ)
theorem _root_.L2.PO.imp {e : Option Expr} {t u : TO} (h : PO X e t) (f : ∀ σ H Q, u σ H Q → t σ H Q) : PO X e u := ⟨fun pins s σ H Q I hw => h.run pins s σ H Q I (f σ H Q hw)⟩
theorem d_pnone : PO X none (oOf X.K W pNone) := po_none.imp fun σ H Q ⟨F, ρ, τ, s, g⟩ => g F H s
theorem d_psome {m : M C} (h : PE X e (tOf X.K W m)) : PO X (some e) (oOf X.K W (pSome m)) := (po_some h).imp fun σ H Q ⟨F, ρ, τ, s, g⟩ => by
  unfold pSome at g
  rw [Good.bind] at g
  refine run1 s (g.imp (fun c ρ1 q v F1 H1 s1 => ?_) fun _ _ q => q)
  split at q
  · rename_i i hi
    rw [hi] at s1
    exact ⟨i, s1.fzOf.intv, q F1 H1 s1.drop⟩
  · exact q.elim
def cutL {α : Type} (xs : List α) (lo hi : Option Int) : List α := (xs.drop (HT.sIx xs.length 0 lo)).take (HT.sIx xs.length xs.length hi - HT.sIx xs.length 0 lo)
def slC (d : D) (lo hi : Option Int) : Option C := match d with
  | .lst ds => some (.ow ((cutL ds lo hi).map .fz))
  | .str s => if small s.length then some (.fz (.str (cutS s lo hi))) else none
  | .tup ds => if HT.sIx ds.length 0 lo = 0 ∧ HT.sIx ds.length ds.length hi = ds.length then some (.fz (.tup ds)) else some (.tp ((cutL ds lo hi).map .fz))
  | _ => none
def eSl (a : M C) (lo hi : M (Option Int)) : M C := fun ρ => (a ρ).bind fun c ρ => (lo ρ).bind fun l ρ => (hi ρ).bind fun h ρ => match slC (fzD c) l h with
  | some z => .ok z ρ
  | none => .st
theorem Reps.cut {K : PySem.W.Frag} {F : Addr → Prop} {H : Hp} {vs : List V} {ds : List D} (r : Reps K F H vs ds) (lo hi : Option Int) : Reps K F H (cutV vs lo hi) (cutL ds lo hi) := by
  unfold cutV cutL
  rw [r.len]
  exact (r.drop _).take _
theorem d_sl {lo hi : Option Expr} {p2 : Pos} {m : M C} {ml mh : M (Option Int)} (h : PE X e (tOf X.K W m)) (hl : PO X lo (oOf X.K W ml)) (hh : PO X hi (oOf X.K W mh)) : PE X (.Subscript e (.Slice lo hi none p2) pos) (tOf X.K W (eSl m ml mh)) :=
  (pe_slice ((sl_list (X := X)).or (sl_str.or sl_tupA)) h hl hh).imp fun σ H Q ⟨F, ρ, τ, s, g⟩ => by
    unfold eSl at g
    rw [Good.bind] at g
    refine run1 s (g.imp (fun c ρ1 q v F1 H1 s1 => ?_) fun _ _ q => q)
    rw [Good.bind] at q
    refine ⟨F1, ρ1, _, s1, q.imp (fun l ρ2 q F2 H2 s2 => ?_) fun _ _ q => q.drop⟩
    rw [Good.bind] at q
    refine ⟨F2, ρ2, _, s2, q.imp (fun u ρ3 q F3 H3 s3 => ?_) fun _ _ q => q.drop⟩
    split at q
    · rename_i z hz
      have r := s3.fzOf
      cases hd : fzD c <;> rw [hd] at hz r <;> simp only [slC, reduceCtorEq, Option.some.injEq] at hz
      · split at hz <;> cases hz
        rename_i hs
        rw [r.strv]
        exact .inr (.inl ⟨_, rfl, small_line hs, s3.drop.made q (.inl ⟨_, rfl⟩) _ (.str _)⟩)
      · subst hz
        obtain ⟨p, vs, rfl, ha, ra⟩ := r.lstv
        exact .inl ⟨p, vs, rfl, ha.seq, fun p' np => s3.drop.made q (.inr (.inl ⟨_, rfl⟩)) p' _ np (ra.cut l u).cells⟩
      · obtain ⟨p, vs, rfl, ha, ra⟩ := r.tupv
        have el := ra.len
        refine .inr (.inr ⟨p, vs, rfl, ha.seq, fun w => ?_, fun w p' np => ?_⟩)
        · rw [el] at w
          rw [if_pos w] at hz
          cases hz
          exact s3.drop.made q (.inl ⟨_, rfl⟩) _ (.tup ha ra)
        · rw [el] at w
          rw [if_neg w] at hz
          cases hz
          exact s3.drop.made q (.inr (.inr ⟨_, rfl⟩)) p' _ np (ra.cut l u).cells
    · exact q.elim

/-! ### calls of built-ins -/
def eCB (f : List D → Option C) (a : M (List C)) : M C := fun ρ => (a ρ).bind fun cs ρ => match f (cs.map fzD) with
  | some z => .ok z ρ
  | none => .st
def CbOk (K : PySem.W.Frag) (r : List V → Hp → VK → Prop) (f : List D → Option C) : Prop := ∀ ds z F H vs Q, f ds = some z → Reps K F H vs ds → (((∃ d, z = .fz d) ∨ (∃ cs, z = .ow cs) ∨ ∃ cs, z = .tp cs) → MadeOk K F H z Q) → r vs H Q
theorem Sta.freezes {K : PySem.W.Frag} {H : Hp} {σ : L2.St} {ρ : Rho} {τ : List Pr} : ∀ {vs : List V} {cs : List C} {F : Addr → Prop}, vs.length = cs.length → (∀ c ∈ cs, c ≠ .no) → Sta K F H σ ρ (tmps vs cs ++ τ) → ∃ F', Sta K F' H σ ρ τ ∧ Reps K F' H vs (cs.map fzD)
  | [], [], F, _, _, s => ⟨F, s, .nil⟩
  | v :: vs, c :: cs, F, e, hn, s => by
    have s' : Sta K F H σ ρ ((some v, c) :: (tmps vs cs ++ τ)) := s
    obtain ⟨F1, s1⟩ := s'.freeze (hn c List.mem_cons_self)
    have s2 : Sta K F1 H σ ρ (tmps vs cs ++ ((some v, .fz (fzD c)) :: τ)) := s1.perm List.perm_middle.symm
    obtain ⟨F2, s3, r3⟩ := Sta.freezes (Nat.succ.inj e) (fun c' m => hn c' (List.mem_cons_of_mem _ m)) s2
    exact ⟨F2, s3.drop, .cons s3.fzOf r3⟩
theorem cb_ok {f : List D → Option C} {r : List V → Hp → VK → Prop} {ma : M (List C)} (hf : CbOk X.K r f) {σ : L2.St} {H : Hp} {Q : VK} (h : tOf X.K W (eCB f ma) σ H Q) : tCB r (aOf X.K W ma) σ H Q := by
  obtain ⟨F, ρ, τ, s, g⟩ := h
  unfold eCB at g
  rw [Good.bind] at g
  refine runA s (g.imp (fun cs ρ1 q vs F1 H1 hl hn s1 => ?_) fun _ _ q => q)
  split at q
  · rename_i z hz
    obtain ⟨F2, s2, r2⟩ := s1.freezes hl hn
    exact hf _ z F2 H1 vs Q hz r2 fun kz => s2.made q kz
  · exact q.elim
end
end Dn

/-! Den5: the built-ins by their answers; borrowed names. -/
namespace Dn
open PySem PySem.Spec PyProof.Rows L2

theorem Reps.one {K : PySem.W.Frag} {F : Addr → Prop} {H : Hp} {vs : List V} {d : D} (r : Reps K F H vs [d]) : ∃ v, vs = [v] ∧ Rep K F H v d := by
  cases r with
  | cons a b => cases b; exact ⟨_, rfl, a⟩
theorem Reps.two {K : PySem.W.Frag} {F : Addr → Prop} {H : Hp} {vs : List V} {d e : D} (r : Reps K F H vs [d, e]) : ∃ v w, vs = [v, w] ∧ Rep K F H v d ∧ Rep K F H w e := by
  cases r with
  | cons a b =>
    obtain ⟨w, rfl, q⟩ := b.one
    exact ⟨_, w, rfl, a, q⟩
def intsOf : List D → Option (List Int)
  | [] => some []
  | .int i :: r => (intsOf r).map (i :: ·)
  | _ => none
def boolsOf : List D → Option (List Bool)
  | [] => some []
  | .bl i :: r => (boolsOf r).map (i :: ·)
  | _ => none
theorem Reps.ints {K : PySem.W.Frag} {F : Addr → Prop} {H : Hp} : ∀ {vs : List V} {ds : List D} {ns : List Int}, Reps K F H vs ds → intsOf ds = some ns → vs = ns.map V.int
  | _, _, _, .nil, h => by cases h; rfl
  | _, d :: ds, ns, .cons r rs, h => by
    cases d <;> simp only [intsOf, reduceCtorEq, Option.map_eq_some_iff] at h
    obtain ⟨ms, e, rfl⟩ := h
    rw [r.intv, rs.ints e]; rfl
theorem Reps.bools {K : PySem.W.Frag} {F : Addr → Prop} {H : Hp} : ∀ {vs : List V} {ds : List D} {ns : List Bool}, Reps K F H vs ds → boolsOf ds = some ns → vs = ns.map V.bl
  | _, _, _, .nil, h => by cases h; rfl
  | _, d :: ds, ns, .cons r rs, h => by
    cases d <;> simp only [boolsOf, reduceCtorEq, Option.map_eq_some_iff] at h
    obtain ⟨ms, e, rfl⟩ := h
    rw [r.blv, rs.bools e]; rfl
/-- a scalar answer -/
def sc1 (f : D → Option D) : List D → Option C
  | [d] => (f d).map .fz
  | _ => none
def sc2 (f : D → D → Option D) : List D → Option C
  | [d, e] => (f d e).map .fz
  | _ => none
def isScal : D → Bool
  | .non | .bl _ | .int _ | .str _ => true
  | _ => false
theorem Rep.ofScal {K : PySem.W.Frag} {F : Addr → Prop} {H : Hp} {d : D} (h : isScal d = true) : ∃ v, ∀ F H, Rep K F H v d := by
  cases d <;> simp only [isScal, Bool.false_eq_true] at h
  · exact ⟨_, fun _ _ => .non⟩
  · exact ⟨_, fun _ _ => .bl _⟩
  · exact ⟨_, fun _ _ => .int _⟩
  · exact ⟨_, fun _ _ => .str _⟩
theorem sc1_ok {K : PySem.W.Frag} {r : List V → Hp → VK → Prop} {f : D → Option D} (h : ∀ d z F H v Q, f d = some z → Rep K F H v d → (∀ u, Rep K F H u z → Q u H) → r [v] H Q) : CbOk K r (sc1 f) := fun ds z F H vs Q e rs q => by
  match ds, e with
  | [d], e =>
    simp only [sc1, Option.map_eq_some_iff] at e
    obtain ⟨z', e2, rfl⟩ := e
    obtain ⟨v, rfl, rv⟩ := rs.one
    exact h d z' F H v Q e2 rv (q (.inl ⟨_, rfl⟩))
theorem sc2_ok {K : PySem.W.Frag} {r : List V → Hp → VK → Prop} {f : D → D → Option D} (h : ∀ d d' z F H v v' Q, f d d' = some z → Rep K F H v d → Rep K F H v' d' → (∀ u, Rep K F H u z → Q u H) → r [v, v'] H Q) : CbOk K r (sc2 f) := fun ds z F H vs Q e rs q => by
  match ds, e with
  | [d, d'], e =>
    simp only [sc2, Option.map_eq_some_iff] at e
    obtain ⟨z', e2, rfl⟩ := e
    obtain ⟨v, v', rfl, rv, rv'⟩ := rs.two
    exact h d d' z' F H v v' Q e2 rv rv' (q (.inl ⟨_, rfl⟩))
/-! len, abs, int, min, max, sum, all, any, gcd -/
def lenD : D → Option D
  | .lst ds => some (.int ds.length)
  | .fr ds => some (.int ds.length)
  | .tup ds => some (.int ds.length)
  | .str s => if small s.length then some (.int s.length) else none
  | _ => none
def absD : D → Option D
  | .int i => some (.int i.natAbs)
  | _ => none
def intD : D → Option D
  | .int i => some (.int i)
  | .bl b => some (.int (if b then 1 else 0))
  | _ => none
def minD : D → Option D
  | .lst ds => (intsOf ds).bind fun ns => ns.min?.map .int
  | _ => none
def maxD : D → Option D
  | .lst ds => (intsOf ds).bind fun ns => ns.max?.map .int
  | _ => none
def min2D : D → D → Option D
  | .int i, .int j => some (.int (min i j))
  | _, _ => none
def max2D : D → D → Option D
  | .int i, .int j => some (.int (max i j))
  | _, _ => none
def sumD : D → Option D
  | .lst ds => (intsOf ds).map fun ns => .int ns.sum
  | _ => none
def allD : D → Option D
  | .lst ds => (boolsOf ds).map fun ns => .bl (ns.all id)
  | _ => none
def anyD : D → Option D
  | .lst ds => (boolsOf ds).map fun ns => .bl (ns.any id)
  | _ => none
def gcdD : D → D → Option D
  | .int i, .int j => some (.int (Nat.gcd i.natAbs j.natAbs : Nat))
  | _, _ => none
section
variable {K : PySem.W.Frag}
theorem ok_len : CbOk K (fun xs H Q => ∃ x n, xs = [x] ∧ LenV K x H n ∧ Q (.int n) H) (sc1 lenD) := sc1_ok fun d z F H v Q e r q => by
  cases d <;> simp only [lenD, reduceCtorEq, Option.some.injEq] at e
  · split at e <;> cases e
    rename_i hs
    exact ⟨v, _, rfl, by rw [r.strv]; exact ⟨small_line hs, rfl⟩, q _ (.int _)⟩
  · subst e
    obtain ⟨a, vs, rfl, hl, rs⟩ := r.lstv
    exact ⟨_, vs.length, rfl, .inl ⟨vs, hl.seq, rfl⟩, by rw [rs.len]; exact q _ (.int _)⟩
  · subst e
    obtain ⟨a, vs, rfl, hl, rs⟩ := r.frv
    exact ⟨_, vs.length, rfl, .inl ⟨vs, hl.seq, rfl⟩, by rw [rs.len]; exact q _ (.int _)⟩
  · subst e
    obtain ⟨a, vs, rfl, hl, rs⟩ := r.tupv
    exact ⟨_, vs.length, rfl, .inr ⟨vs, hl.seq, rfl⟩, by rw [rs.len]; exact q _ (.int _)⟩
theorem ok_abs : CbOk K (fun xs H Q => ∃ i, xs = [.int i] ∧ Q (.int (if i < 0 then -i else i)) H) (sc1 absD) := sc1_ok fun d z F H v Q e r q => by
  cases d <;> simp only [absD, reduceCtorEq, Option.some.injEq] at e
  subst e
  rename_i i
  refine ⟨i, by rw [r.intv], ?_⟩
  have e : (if i < 0 then -i else i) = (i.natAbs : Int) := by split <;> omega
  rw [e]
  exact q _ (.int _)
theorem ok_int : CbOk K (fun xs H Q => (∃ i, xs = [.int i] ∧ Q (.int i) H) ∨ ∃ k, xs = [.bl k] ∧ Q (.int (if k then 1 else 0)) H) (sc1 intD) := sc1_ok fun d z F H v Q e r q => by
  cases d <;> simp only [intD, reduceCtorEq, Option.some.injEq] at e <;> subst e
  · exact .inr ⟨_, by rw [r.blv], q _ (.int _)⟩
  · exact .inl ⟨_, by rw [r.intv], q _ (.int _)⟩
theorem ok_min : CbOk K (rMin K) (sc1 minD) := sc1_ok fun d z F H v Q e r q => by
  cases d <;> simp only [minD, reduceCtorEq, Option.bind_eq_some_iff, Option.map_eq_some_iff] at e
  obtain ⟨ns, e1, m, e2, rfl⟩ := e
  obtain ⟨a, vs, rfl, hl, rs⟩ := r.lstv
  rw [rs.ints e1] at hl
  obtain ⟨h1, h2⟩ := List.min?_eq_some_iff.mp e2
  refine ⟨a, ns, rfl, hl.seq, List.length_pos_of_mem h1, fun m' k1 k2 => ?_⟩
  have : m' = m := Int.le_antisymm (k2 m h1) (h2 m' k1)
  subst this
  exact q _ (.int _)
theorem ok_max : CbOk K (rMax K) (sc1 maxD) := sc1_ok fun d z F H v Q e r q => by
  cases d <;> simp only [maxD, reduceCtorEq, Option.bind_eq_some_iff, Option.map_eq_some_iff] at e
  obtain ⟨ns, e1, m, e2, rfl⟩ := e
  obtain ⟨a, vs, rfl, hl, rs⟩ := r.lstv
  rw [rs.ints e1] at hl
  obtain ⟨h1, h2⟩ := List.max?_eq_some_iff.mp e2
  refine ⟨a, ns, rfl, hl.seq, List.length_pos_of_mem h1, fun m' k1 k2 => ?_⟩
  have : m' = m := Int.le_antisymm (h2 m' k1) (k2 m h1)
  subst this
  exact q _ (.int _)
theorem ok_min2 : CbOk K (fun xs H Q => ∃ i j, xs = [.int i, .int j] ∧ Q (.int (if j < i then j else i)) H) (sc2 min2D) := sc2_ok fun d d' z F H v v' Q e r r' q => by
  cases d <;> cases d' <;> simp only [min2D, reduceCtorEq, Option.some.injEq] at e
  subst e
  rename_i i j
  refine ⟨i, j, by rw [r.intv, r'.intv], ?_⟩
  have e : (if j < i then j else i) = min i j := by omega
  rw [e]
  exact q _ (.int _)
theorem ok_max2 : CbOk K (fun xs H Q => ∃ i j, xs = [.int i, .int j] ∧ Q (.int (if j > i then j else i)) H) (sc2 max2D) := sc2_ok fun d d' z F H v v' Q e r r' q => by
  cases d <;> cases d' <;> simp only [max2D, reduceCtorEq, Option.some.injEq] at e
  subst e
  rename_i i j
  refine ⟨i, j, by rw [r.intv, r'.intv], ?_⟩
  have e : (if j > i then j else i) = max i j := by omega
  rw [e]
  exact q _ (.int _)
theorem ok_sum : CbOk K (rSum K) (sc1 sumD) := sc1_ok fun d z F H v Q e r q => by
  cases d <;> simp only [sumD, reduceCtorEq, Option.map_eq_some_iff] at e
  obtain ⟨ns, e1, rfl⟩ := e
  obtain ⟨a, vs, rfl, hl, rs⟩ := r.lstv
  rw [rs.ints e1] at hl
  exact ⟨a, ns, rfl, hl.seq, q _ (.int _)⟩
theorem ok_all : CbOk K (rAll K) (sc1 allD) := sc1_ok fun d z F H v Q e r q => by
  cases d <;> simp only [allD, reduceCtorEq, Option.map_eq_some_iff] at e
  obtain ⟨ns, e1, rfl⟩ := e
  obtain ⟨a, vs, rfl, hl, rs⟩ := r.lstv
  rw [rs.bools e1] at hl
  exact ⟨a, ns, rfl, hl.seq, q _ (.bl _)⟩
theorem ok_any : CbOk K (rAny K) (sc1 anyD) := sc1_ok fun d z F H v Q e r q => by
  cases d <;> simp only [anyD, reduceCtorEq, Option.map_eq_some_iff] at e
  obtain ⟨ns, e1, rfl⟩ := e
  obtain ⟨a, vs, rfl, hl, rs⟩ := r.lstv
  rw [rs.bools e1] at hl
  exact ⟨a, ns, rfl, hl.seq, q _ (.bl _)⟩
theorem ok_gcd : CbOk K rGcd (sc2 gcdD) := sc2_ok fun d d' z F H v v' Q e r r' q => by
  cases d <;> cases d' <;> simp only [gcdD, reduceCtorEq, Option.some.injEq] at e
  subst e
  exact ⟨_, _, by rw [r.intv, r'.intv], q _ (.int _)⟩
/-! isinstance -/
inductive Ty where
  | int | bool | list | tuple | str
def Ty.nm : Ty → String
  | .int => "int"
  | .bool => "bool"
  | .list => "list"
  | .tuple => "tuple"
  | .str => "str"
def isTy (t : Ty) : D → Option D
  | .non => some (.bl false)
  | .bl _ => match t with | .bool | .int => some (.bl true) | _ => some (.bl false)
  | .int _ => match t with | .int => some (.bl true) | _ => some (.bl false)
  | .str _ => match t with | .str => some (.bl true) | _ => some (.bl false)
  | .lst _ => match t with | .list => some (.bl true) | _ => some (.bl false)
  | .tup _ => match t with | .tuple => some (.bl true) | _ => some (.bl false)
  | _ => none
def ofTy (n : String) : Option Ty := if n = "int" then some .int else if n = "bool" then some .bool else if n = "list" then some .list else if n = "tuple" then some .tuple else if n = "str" then some .str else none
def isiD : D → D → Option D
  | d, .ob (.ty n) => (ofTy n).bind fun t => isTy t d
  | _, _ => none
theorem ofTy_nm {n : String} {t : Ty} (h : ofTy n = some t) : n = t.nm := by
  unfold ofTy at h
  repeat (split at h; (rename_i e; cases h; exact e))
  cases h
theorem kitAll (t : Ty) : kitB "NoneType" t.nm = some false ∧ kitB "bool" t.nm = some (match t with | .bool | .int => true | _ => false) ∧ kitB "int" t.nm = some (match t with | .int => true | _ => false)
    ∧ kitB "str" t.nm = some (match t with | .str => true | _ => false) ∧ kitB "list" t.nm = some (match t with | .list => true | _ => false) ∧ kitB "tuple" t.nm = some (match t with | .tuple => true | _ => false) := by
  cases t <;> decide +kernel
theorem Rep.tyx {F : Addr → Prop} {H : Hp} {v : V} {d : D} {t : Ty} {z : D} (r : Rep K F H v d) (h : isTy t d = some z) : ∃ n b, TyX K H v (.type n) ∧ kitB n t.nm = some b ∧ z = .bl b := by
  obtain ⟨k1, k2, k3, k4, k5, k6⟩ := kitAll t
  cases d <;> simp only [isTy, reduceCtorEq] at h
  · cases r; cases h; exact ⟨_, _, .base .non, k1, rfl⟩
  · cases r; exact ⟨_, _, .base (.bl _), k2, by cases t <;> cases h <;> rfl⟩
  · cases r; exact ⟨_, _, .base (.int _), k3, by cases t <;> cases h <;> rfl⟩
  · cases r; exact ⟨_, _, .base (.str _), k4, by cases t <;> cases h <;> rfl⟩
  · obtain ⟨a, vs, rfl, hl, rs⟩ := r.lstv
    exact ⟨_, _, .base (.lst hl.2), k5, by cases t <;> cases h <;> rfl⟩
  · obtain ⟨a, vs, rfl, hl, rs⟩ := r.tupv
    refine ⟨_, _, ?_, k6, by cases t <;> cases h <;> rfl⟩
    rcases hl with ⟨_, hl | ⟨o, hl⟩⟩ | ⟨o, its, n, e, c, _⟩
    · exact .base (.tup hl)
    · exact .fTuple hl
    · exact .kTuple e c
theorem ok_isi : CbOk K (rIsi K) (sc2 isiD) := sc2_ok fun d d' z F H v v' Q e r r' q => by
  cases d' <;> simp only [isiD, reduceCtorEq] at e
  rename_i w
  cases w <;> simp only [reduceCtorEq, Option.bind_eq_some_iff] at e
  rename_i n
  obtain ⟨t, e1, e2⟩ := e
  obtain ⟨m, b, h1, h2, rfl⟩ := r.tyx e2
  refine ⟨v, .ty n, .type m, .type n, b, by rw [r'.obv], .ty n, h1, kit_ty ?_, q _ (.bl _)⟩
  rw [ofTy_nm e1]
  exact h2
/-! list, tuple, sorted -/
def nw1 (f : D → Option C) : List D → Option C
  | [d] => f d
  | _ => none
def listC : D → Option C
  | .lst ds => some (.ow (ds.map .fz))
  | .tup ds => some (.ow (ds.map .fz))
  | _ => none
def tupleC : D → Option C
  | .lst ds => some (.tp (ds.map .fz))
  | .tup ds => some (.fz (.tup ds))
  | _ => none
theorem nw1_ok {r : List V → Hp → VK → Prop} {f : D → Option C} (h : ∀ d z F H v Q, f d = some z → Rep K F H v d → (((∃ d, z = .fz d) ∨ (∃ cs, z = .ow cs) ∨ ∃ cs, z = .tp cs) → MadeOk K F H z Q) → r [v] H Q) : CbOk K r (nw1 f) := fun ds z F H vs Q e rs q => by
  match ds, e with
  | [d], e =>
    obtain ⟨v, rfl, rv⟩ := rs.one
    exact h d z F H v Q e rv q
theorem ok_list : CbOk K (fun xs H Q => ∃ p ys, xs = [.ref p] ∧ (SqL K H p ys ∨ SqT K H p ys) ∧ ∀ l, H l = none → Q (.ref l) (upd H l (.lst ys))) (nw1 listC) := nw1_ok fun d z F H v Q e r q => by
  cases d <;> simp only [listC, reduceCtorEq, Option.some.injEq] at e <;> subst e
  · obtain ⟨a, vs, rfl, hl, rs⟩ := r.lstv
    exact ⟨a, vs, rfl, .inl hl.seq, fun l nl => q (.inr (.inl ⟨_, rfl⟩)) l _ nl rs.cells⟩
  · obtain ⟨a, vs, rfl, hl, rs⟩ := r.tupv
    exact ⟨a, vs, rfl, .inr hl.seq, fun l nl => q (.inr (.inl ⟨_, rfl⟩)) l _ nl rs.cells⟩
theorem ok_tuple : CbOk K (fun xs H Q => ∃ p ys, xs = [.ref p] ∧ ((SqL K H p ys ∧ ∀ l, H l = none → Q (.ref l) (upd H l (.tup ys))) ∨ (SqT K H p ys ∧ Q (.ref p) H))) (nw1 tupleC) := nw1_ok fun d z F H v Q e r q => by
  cases d <;> simp only [tupleC, reduceCtorEq, Option.some.injEq] at e <;> subst e
  · obtain ⟨a, vs, rfl, hl, rs⟩ := r.lstv
    exact ⟨a, vs, rfl, .inl ⟨hl.seq, fun l nl => q (.inr (.inr ⟨_, rfl⟩)) l _ nl rs.cells⟩⟩
  · obtain ⟨a, vs, rfl, hl, rs⟩ := r.tupv
    exact ⟨a, vs, rfl, .inr ⟨hl.seq, q (.inl ⟨_, rfl⟩) _ (.tup hl rs)⟩⟩
def sortC : D → Option C
  | .lst ds => (intsOf ds).map fun ns => .ow ((ns.mergeSort (· ≤ ·)).map fun i => .fz (.int i))
  | _ => none
theorem Reps.ofInts {F : Addr → Prop} {H : Hp} : ∀ ns : List Int, RepCs K F H (ns.map V.int) (ns.map fun i => C.fz (.int i)) []
  | [] => .nil
  | i :: ns => by
    have := RepCs.cons (RepC.fz (K := K) (F := F) (H := H) (.int i)) (Reps.ofInts ns)
    simpa using this
theorem perm_sorted_eq : ∀ {l m : List Int}, l.Perm m → l.Pairwise (· ≤ ·) → m.Pairwise (· ≤ ·) → l = m := by
  intro l m p h1 h2
  exact List.Perm.eq_of_pairwise (fun a b _ _ => Int.le_antisymm) h1 h2 p
theorem ok_sort : CbOk K (rSortedI K) (nw1 sortC) := nw1_ok fun d z F H v Q e r q => by
  cases d <;> simp only [sortC, reduceCtorEq, Option.map_eq_some_iff] at e
  obtain ⟨ns, e1, rfl⟩ := e
  obtain ⟨a, vs, rfl, hl, rs⟩ := r.lstv
  rw [rs.ints e1] at hl
  refine ⟨a, ns, rfl, hl.seq, fun ns' p hp hs np => ?_⟩
  have e2 : ns' = ns.mergeSort (· ≤ ·) := perm_sorted_eq (hp.trans (List.mergeSort_perm ns _).symm) hs (by
    have := List.pairwise_mergeSort (le := fun a b : Int => decide (a ≤ b)) (fun a b c h1 h2 => by simp at *; omega) (fun a b => by simp; omega) ns
    simpa using this)
  rw [e2]
  exact q (.inr (.inl ⟨_, rfl⟩)) p _ np (Reps.ofInts _)
end

/-! ### the rules -/
section
variable {X : Cx} {W : WX} {pos p : Pos} {e a b : Expr} {es : List Expr} {x : Str} {id T : String} {r : List V → Hp → VK → Prop} {f : List D → Option C} {m : M (List C)}
theorem d_cb (hc : CallR X (.builtin id) r) (hf : CbOk X.K r f) (hm : X.mg x = none) (ha : PA X (e :: es) (aOf X.K W m)) (hg : Gl X x := by rfl) (hv : bootBuiltins x = some (.builtin id) := by decide +kernel) (hn : x ≠ "__name__" := by decide) (hdb : (x == ("__debug__" : Str)) = false := by decide)
    (he : starEach (e :: es) X.env = (false, eval e X.env) :: starEach es X.env := by rfl) (hpl : (backTo pos (starEach es X.env)).any (·.1) = false := by rfl) : PE X (.Call (.Name x p) (e :: es) [] pos) (tOf X.K W (eCB f m)) :=
  (pe_callB hc hg hm hv ha hn hdb he hpl).imp fun _ _ _ h => cb_ok hf h
theorem d_cbty (hc : CallR X (.type T) r) (hf : CbOk X.K r f) (hm : X.mg x = none) (ha : PA X (e :: es) (aOf X.K W m)) (hg : Gl X x := by rfl) (hv : bootBuiltins x = some (.type T) := by decide +kernel) (hn : x ≠ "__name__" := by decide) (hdb : (x == ("__debug__" : Str)) = false := by decide)
    (he : starEach (e :: es) X.env = (false, eval e X.env) :: starEach es X.env := by rfl) (hpl : (backTo pos (starEach es X.env)).any (·.1) = false := by rfl) : PE X (.Call (.Name x p) (e :: es) [] pos) (tOf X.K W (eCB f m)) :=
  (pe_callTy hc hg hm hv ha hn hdb he hpl).imp fun _ _ _ h => cb_ok hf h
theorem d_cbfun (hc : CallR X (.builtin id) r) (hf : CbOk X.K r f) (hm : X.mg x = some (.builtin id)) (ha : PA X (e :: es) (aOf X.K W m)) (hg : Gl X x := by rfl) (hdb : (x == ("__debug__" : Str)) = false := by decide)
    (he : starEach (e :: es) X.env = (false, eval e X.env) :: starEach es X.env := by rfl) (hpl : (backTo pos (starEach es X.env)).any (·.1) = false := by rfl) : PE X (.Call (.Name x p) (e :: es) [] pos) (tOf X.K W (eCB f m)) :=
  (pe_callBfun hc hg hm ha hdb he hpl).imp fun _ _ _ h => cb_ok hf h
/-- a built-in's name as a value -/
theorem d_bltn {v : V} {u : Value} (hm : X.mg x = none) (hv : bootBuiltins x = some u := by decide +kernel) (rr : RelV v u := by rfl) (hg : Gl X x := by rfl) (hn : x ≠ "__name__" := by decide) (hd : (x == ("__debug__" : Str)) = false := by decide) : PE X (.Name x pos) (tOf X.K W (ret (.ob v))) :=
  (pe_bltn hg hm hv rr hn hd).imp fun _ H _ h => con_ok (fun F => .ob v) h
/-- one argument, a name whose value stays as it is; the answer a scalar -/
def eCBV (f : List D → Option C) (i : Nat) : M C := fun ρ => match ρ[i]? with
  | none => .st
  | some .no => .st
  | some c => match f [fzD c] with
    | some (.fz z) => if isScal z then .ok (.fz z) ρ else .st
    | _ => .st
/-- what a name holds, seen frozen for a moment -/
theorem Sta.peek {K : PySem.W.Frag} {F : Addr → Prop} {H : Hp} {σ : L2.St} {ρ : Rho} {τ : List Pr} {i : Nat} {c : C} (s : Sta K F H σ ρ τ) (e : ρ[i]? = some c) (hc : c ≠ .no) : ∃ v F', σ[i]? = some (some v) ∧ Rep K F' H v (fzD c) := by
  obtain ⟨v, ev, s1⟩ := s.get e hc
  obtain ⟨F', s2⟩ := s1.freeze hc
  exact ⟨v, F', ev, s2.fzOf⟩
theorem cbv_ok {i : Nat} (hf : CbOk X.K r f) {σ : L2.St} {H : Hp} {Q : VK} (h : tOf X.K W (eCBV f i) σ H Q) : tCB r (tCons (tVar i) tNil) σ H Q := by
  obtain ⟨F, ρ, τ, s, g⟩ := h
  unfold eCBV at g
  split at g
  · exact g.elim
  · exact g.elim
  · rename_i c hc ec
    obtain ⟨v, F', ev, rv⟩ := s.peek ec (by rintro rfl; exact hc rfl)
    split at g
    · rename_i z hz
      split at g
      · rename_i hs
        refine ⟨v, ev, hf _ _ F' H [v] Q hz (.cons rv .nil) fun _ u ru => ?_⟩
        obtain ⟨w, hw⟩ := Rep.ofScal (K := X.K) (F := F) (H := H) hs
        have : u = w := by
          have h1 := hw F' H
          cases z <;> simp only [isScal, Bool.false_eq_true] at hs <;> cases h1 <;> cases ru <;> rfl
        subst this
        exact g _ F H (by simp) (s.push (hw F H))
      · exact g.elim
    · exact g.elim
theorem d_cbV (i : Nat) {y : Str} {p2 : Pos} (hc : CallR X (.builtin id) r) (hf : CbOk X.K r f) (hm : X.mg x = none) (hN : X.N[i]? = some y := by rfl) (hy : Vis X.env.scope y := by first | exact Or.inl rfl | exact Or.inr (Or.inl rfl) | exact Or.inr (Or.inr rfl))
    (hg : Gl X x := by rfl) (hv : bootBuiltins x = some (.builtin id) := by decide +kernel) (hn : x ≠ "__name__" := by decide) (hdb : (x == ("__debug__" : Str)) = false := by decide) (hd2 : (y == ("__debug__" : Str)) = false := by decide) (hcd : (y == ("__classdict__" : Str)) = false := by decide)
    (he : starEach [Expr.Name y p2] X.env = (false, eval (Expr.Name y p2) X.env) :: starEach [] X.env := by rfl) : PE X (.Call (.Name x p) [.Name y p2] [] pos) (tOf X.K W (eCBV f i)) :=
  (pe_callB hc hg hm hv (pa_cons (pe_var hN hy hd2 hcd) pa_nil he) hn hdb he rfl).imp fun _ _ _ h => cbv_ok hf h
/-- t in x, x a name whose value stays as it is -/
def eOpV (f : D → D → Option D) (a : M C) (i : Nat) : M C := fun ρ => (a ρ).bind fun c ρ => match ρ[i]? with
  | none => .st
  | some .no => .st
  | some d => match f (fzD c) (fzD d) with
    | some z => if isScal z then .ok (.fz z) ρ else .st
    | none => .st
theorem opV_ok {f : D → D → Option D} {r : R2} {ma : M C} {i : Nat} (hf : OpOk X.K r f) {σ : L2.St} {H : Hp} {Q : VK} (h : tOf X.K W (eOpV f ma i) σ H Q) : tOp r (tOf X.K W ma) (tVar i) σ H Q := by
  obtain ⟨F, ρ, τ, s, g⟩ := h
  unfold eOpV at g
  rw [Good.bind] at g
  refine run1 s (g.imp (fun c ρ1 q v F1 H1 s1 => ?_) fun _ _ q => q)
  split at q
  · exact q.elim
  · exact q.elim
  · rename_i d hd ed
    have nd : d ≠ .no := by rintro rfl; exact hd rfl
    -- the two frozen together
    obtain ⟨w, ew, s2⟩ := s1.get ed nd
    obtain ⟨F2, s3⟩ := s2.freeze nd
    split at q
    · rename_i z hz
      split at q
      · rename_i hs
        refine ⟨w, ew, hf _ _ z F2 H1 v w Q hz s3.drop.fzOf s3.fzOf fun u ru => ?_⟩
        obtain ⟨w', hw⟩ := Rep.ofScal (K := X.K) (F := F1) (H := H1) hs
        have : u = w' := by
          have h1 := hw F2 H1
          cases z <;> simp only [isScal, Bool.false_eq_true] at hs <;> cases h1 <;> cases ru <;> rfl
        subst this
        exact q _ F1 H1 (by simp) (s1.drop.push (hw F1 H1))
      · exact q.elim
    · exact q.elim
theorem d_cmpV (i : Nat) {op : CmpOp} {r : R2} {f : D → D → Option D} {y : Str} {p2 : Pos} {ma : M C} (ho : OpR X (compareOp op) r) (hf : OpOk X.K r f) (ha : PE X a (tOf X.K W ma)) (hN : X.N[i]? = some y := by rfl)
    (hy : Vis X.env.scope y := by first | exact Or.inl rfl | exact Or.inr (Or.inl rfl) | exact Or.inr (Or.inr rfl)) (hm : behindInMarks op (.Name y p2) = false := by first | exact nomark _ | rfl)
    (hd2 : (y == ("__debug__" : Str)) = false := by decide) (hcd : (y == ("__classdict__" : Str)) = false := by decide) : PE X (.Compare a [op] [.Name y p2] pos) (tOf X.K W (eOpV f ma i)) :=
  (pe_cmpR ho ha (pe_var hN hy hd2 hcd) hm).imp fun _ _ _ h => opV_ok hf h
theorem dt_cmpV (i : Nat) {op : CmpOp} {r : R2} {f : D → D → Option D} {y : Str} {p2 : Pos} {ma : M C} (ho : OpR X (compareOp op) r) (hf : OpOk X.K r f) (ha : PE X a (tOf X.K W ma)) (hN : X.N[i]? = some y := by rfl)
    (hy : Vis X.env.scope y := by first | exact Or.inl rfl | exact Or.inr (Or.inl rfl) | exact Or.inr (Or.inr rfl)) (hm : behindInMarks op (.Name y p2) = false := by first | exact nomark _ | rfl)
    (hd2 : (y == ("__debug__" : Str)) = false := by decide) (hcd : (y == ("__classdict__" : Str)) = false := by decide) : PT X (.Compare a [op] [.Name y p2] pos) (bOf X.K W (asB (eOpV f ma i))) :=
  (pt_cmpR ho ha (pe_var hN hy hd2 hcd) hm).imp fun σ H Q h => opV_ok hf (asB_ok h)
end
end Dn

/-! Den6: statements, targets, loops, comprehensions. -/
namespace Dn
open PySem PySem.Spec PyProof.Rows L2

inductive SR where
  | st | er (e : Er) (ρ : Rho) | nx (ρ : Rho) | rt (c : C) | bk (ρ : Rho) | ct (ρ : Rho)
abbrev SM := Rho → SR
def R.thn {α : Type} (r : R α) (k : α → Rho → SR) : SR := match r with
  | .st => .st
  | .er e ρ => .er e ρ
  | .ok a ρ => k a ρ
@[simp] theorem R.thn_ok {α : Type} (a : α) (ρ : Rho) (k : α → Rho → SR) : (R.ok a ρ).thn k = k a ρ := rfl
@[simp] theorem R.thn_st {α : Type} (k : α → Rho → SR) : (R.st : R α).thn k = .st := rfl
@[simp] theorem R.thn_er {α : Type} (e : Er) (ρ : Rho) (k : α → Rho → SR) : (R.er e ρ : R α).thn k = .er e ρ := rfl
section
variable (K : PySem.W.Frag)
def serP (W : WX) (τ : List Pr) : Er → Rho → Prop := fun e ρ => ∀ σ F H cls d, ErOk K F H e cls d → Sta K F H σ ρ τ → W cls d σ H
def GoodS (W : WX) (τ : List Pr) (r : SR) (D : Ends) : Prop := match r with
  | .st => False
  | .er e ρ => serP K W τ e ρ
  | .nx ρ => ∀ σ F H, Sta K F H σ ρ τ → D.nx σ H
  | .bk ρ => ∀ σ F H, Sta K F H σ ρ τ → D.bk σ H
  | .ct ρ => ∀ σ F H, Sta K F H σ ρ τ → D.ct σ H
  | .rt c => ∀ v F H, c ≠ .no → All K F H ((some v, c) :: τ) → D.rt v H
def sOf (W : WX) (m : SM) : TS := fun D σ H => ∃ F ρ τ, Sta K F H σ ρ τ ∧ GoodS K W τ (m ρ) D
end
theorem serP.er {K : PySem.W.Frag} {W : WX} {τ : List Pr} {σ : L2.St} {e : Er} {ρ : Rho} (h : serP K W τ e ρ) : erP K W σ τ e ρ := fun F H cls d x s => h σ F H cls d x s
theorem serP.dropL {K : PySem.W.Frag} {W : WX} {q τ : List Pr} {e : Er} {ρ : Rho} (h : serP K W τ e ρ) : serP K W (q ++ τ) e ρ := fun σ F H cls d x s => h σ F H cls d x s.dropL
/-- an expression at the head of a statement -/
theorem GoodS.thn {α : Type} {K : PySem.W.Frag} {W : WX} {τ : List Pr} {σ : L2.St} {D : Ends} {r : R α} {k : α → Rho → SR} (h : GoodS K W τ (r.thn k) D) : Good r (fun a ρ => GoodS K W τ (k a ρ) D) (erP K W σ τ) := by
  cases r with
  | st => exact h
  | er e ρ => exact serP.er h
  | ok a ρ => exact h

def sNext : SM := fun ρ => .nx ρ
def sSeq (a b : SM) : SM := fun ρ => match a ρ with
  | .nx ρ' => b ρ'
  | r => r
def sBrk : SM := fun ρ => .bk ρ
def sCnt : SM := fun ρ => .ct ρ
def sExpr (m : M C) : SM := fun ρ => (m ρ).thn fun _ ρ => .nx ρ
def sRet (m : M C) : SM := fun ρ => (m ρ).thn fun c _ => .rt c
def sIf (t : M Bool) (a b : SM) : SM := fun ρ => (t ρ).thn fun c ρ => if c = true then a ρ else b ρ
def put (i : Nat) (c : C) (ρ : Rho) : Option Rho := if i < ρ.length then some (ρ.set i c) else none
def sSet (i : Nat) (m : M C) : SM := fun ρ => (m ρ).thn fun c ρ => if i < ρ.length then .nx (ρ.set i c) else .st
section
variable {X : Cx} {W : WX} {pos : Pos} {e a b : Expr} {es : List Expr} {st : Stmt} {rest : List Stmt} {m n : SM}
theorem ds_nil : PSs X [] (sOf X.K W sNext) := pss_nil.imp fun D σ H ⟨F, ρ, τ, s, g⟩ => g σ F H s
theorem ds_cons (h1 : PS X st (sOf X.K W m)) (h2 : PSs X rest (sOf X.K W n)) : PSs X (st :: rest) (sOf X.K W (sSeq m n)) := (pss_cons h1 h2).imp fun D σ H ⟨F, ρ, τ, s, g⟩ => by
  refine ⟨F, ρ, τ, s, ?_⟩
  unfold sSeq at g
  cases hm : m ρ with
  | nx ρ' => rw [hm] at g; exact fun σ' F' H' s' => ⟨F', ρ', τ, s', g⟩
  | st => rw [hm] at g; exact g
  | er e ρ' => rw [hm] at g; exact g
  | rt c => rw [hm] at g; exact g
  | bk ρ' => rw [hm] at g; exact g
  | ct ρ' => rw [hm] at g; exact g
theorem ds_one (h1 : PS X st (sOf X.K W m)) : PSs X [st] (sOf X.K W m) := pss_one h1
theorem ds_pass : PS X (.Pass pos) (sOf X.K W sNext) := ps_pass.imp fun D σ H ⟨F, ρ, τ, s, g⟩ => g σ F H s
theorem ds_break : PS X (.Break pos) (sOf X.K W sBrk) := ps_break.imp fun D σ H ⟨F, ρ, τ, s, g⟩ => g σ F H s
theorem ds_continue : PS X (.Continue pos) (sOf X.K W sCnt) := ps_continue.imp fun D σ H ⟨F, ρ, τ, s, g⟩ => g σ F H s
theorem ds_doc {x j pos'} : PS X (.Expr (.Constant (.str x) j pos) pos') (sOf X.K W sNext) := ps_doc.imp fun D σ H ⟨F, ρ, τ, s, g⟩ => g σ F H s
theorem ds_expr {m : M C} (h : PE X e (tOf X.K W m)) (hs : swapsWith e none pos.line X.env = pure false := by rfl) : PS X (.Expr e pos) (sOf X.K W (sExpr m)) := (ps_expr h hs).imp fun D σ H ⟨F, ρ, τ, s, g⟩ =>
  run1 s ((GoodS.thn g).imp (fun c ρ1 q v F1 H1 s1 => q σ F1 H1 s1.drop) fun _ _ q => q)
theorem ds_ret {m : M C} (h : PE X e (tOf X.K W m)) : PS X (.Return (some e) pos) (sOf X.K W (sRet m)) := (ps_ret h).imp fun D σ H ⟨F, ρ, τ, s, g⟩ =>
  runC s ((GoodS.thn g).imp (fun c ρ1 q v F1 H1 nc s1 => q v F1 H1 nc (by
    have al := s1.2.perm List.perm_append_comm
    have al2 : All X.K F1 H1 (((some v, c) :: τ) ++ σ.zip ρ1) := al
    exact (al2.perm List.perm_append_comm).dropL)) fun _ _ q => q)
theorem ds_retN : PS X (.Return none pos) (sOf X.K W (sRet (ret .non))) := ps_retN.imp fun D σ H ⟨F, ρ, τ, s, g⟩ => g .non F H (by simp) (by
  have al : All X.K F H (τ ++ σ.zip ρ) := s.all
  exact ((s.2.dropL).push .non))
theorem ds_if {t : M Bool} {sa sb : List Stmt} (h : PT X e (bOf X.K W t)) (ha : PSs X sa (sOf X.K W m)) (hb : PSs X sb (sOf X.K W n)) : PS X (.If e sa sb pos) (sOf X.K W (sIf t m n)) := (ps_if h ha hb).imp fun D σ H ⟨F, ρ, τ, s, g⟩ =>
  runB s ((GoodS.thn g).imp (fun c ρ1 q F1 H1 s1 => by
    cases c with
    | true => exact ⟨F1, ρ1, τ, s1, q⟩
    | false => exact ⟨F1, ρ1, τ, s1, q⟩) fun _ _ q => q)
theorem ds_set (i : Nat) {x : Str} {pos' : Pos} {m : M C} (hN : X.N.Nodup) (he : PE X e (tOf X.K W m)) (hi : X.N[i]? = some x := by rfl) (hx : Loc X.env.scope x := by first | exact Or.inl rfl | exact Or.inr rfl)
    (hs : swapsWith e (some (.Name x pos')) pos.line X.env = pure false := by rfl) (hf : X.fn x = true ∨ X.env.scope.names.lookup x = some .local := by first | exact .inl rfl | exact .inr rfl) :
    PS X (.Assign [.Name x pos'] e pos) (sOf X.K W (sSet i m)) := (ps_set hN hi hx he hs hf).imp fun D σ H ⟨F, ρ, τ, s, g⟩ =>
  runC s ((GoodS.thn g).imp (fun c ρ1 q v F1 H1 nc s1 => by
    split at q
    · rename_i hl
      exact q _ F1 H1 (s1.put (by rw [s1.1]; exact hl))
    · exact q.elim) fun _ _ q => q)
end

/-! ### targets -/
inductive Tg where
  | nm (i : Nat) | tup (ts : List Tg)
mutual
def Tg.slots : Tg → List Nat
  | .nm i => [i]
  | .tup ts => slotsL ts
def slotsL : List Tg → List Nat
  | [] => []
  | t :: ts => t.slots ++ slotsL ts
end
mutual
def Tg.put : Tg → C → Rho → Option Rho
  | .nm i, c, ρ => if i < ρ.length then some (ρ.set i c) else none
  | .tup ts, c, ρ => match c with
    | .fz (.tup ds) => putL ts (ds.map .fz) ρ
    | .tp cs => putL ts cs ρ
    | _ => none
def putL : List Tg → List C → Rho → Option Rho
  | [], [], ρ => some ρ
  | t :: ts, c :: cs, ρ => (t.put c ρ).bind (putL ts cs)
  | _, _, _ => none
end
/-- the slots but these stand -/
def Keeps (l : List Nat) (σ σ' : L2.St) : Prop := σ'.length = σ.length ∧ ∀ j, j ∉ l → σ'[j]? = σ[j]?
theorem Keeps.refl (l : List Nat) (σ : L2.St) : Keeps l σ σ := ⟨rfl, fun _ _ => rfl⟩
theorem Keeps.trans {l l' : List Nat} {σ σ' σ'' : L2.St} (a : Keeps l σ σ') (b : Keeps l' σ' σ'') : Keeps (l ++ l') σ σ'' := ⟨b.1.trans a.1, fun j h => by
  rw [List.mem_append, not_or] at h
  exact (b.2 j h.2).trans (a.2 j h.1)⟩
section
variable (K : PySem.W.Frag)
def gOf (l : List Nat) (put : C → Rho → Option Rho) : TG := fun v σ H Q => ∃ F ρ τ c ρ', c ≠ .no ∧ Sta K F H σ ρ ((some v, c) :: τ) ∧ put c ρ = some ρ' ∧ ∀ σ' F' H', Keeps l σ σ' → Sta K F' H' σ' ρ' τ → Q σ' H'
def gsOf (l : List Nat) (put : List C → Rho → Option Rho) : TGs := fun vs σ H Q => ∃ F ρ τ cs ρ', vs.length = cs.length ∧ (∀ c ∈ cs, c ≠ .no) ∧ Sta K F H σ ρ (tmps vs cs ++ τ) ∧ put cs ρ = some ρ' ∧ ∀ σ' F' H', Keeps l σ σ' → Sta K F' H' σ' ρ' τ → Q σ' H'
end
theorem _root_.L2.PG.imp {X : Cx} {e : Expr} {t u : TG} (h : PG X e t) (f : ∀ v σ H Q, u v σ H Q → t v σ H Q) : PG X e u := ⟨fun pins s σ H v w Q I r hw => h.run pins s σ H v w Q I r (f v σ H Q hw)⟩
theorem _root_.L2.PGs.imp {X : Cx} {e : List Expr} {t u : TGs} (h : PGs X e t) (f : ∀ v σ H Q, u v σ H Q → t v σ H Q) : PGs X e u := ⟨fun pins s σ H v w Q I r hw => h.run pins s σ H v w Q I r (f v σ H Q hw)⟩
theorem keeps_set (i : Nat) (σ : L2.St) (x : Option V) : Keeps [i] σ (σ.set i x) := ⟨List.length_set, fun j h => by
  rw [List.getElem?_set_ne]
  intro e; exact h (by simp [e])⟩
section
variable {X : Cx} {pos : Pos} {e : Expr} {es : List Expr}
theorem dg_nm (i : Nat) {x : Str} (hN : X.N.Nodup) (hi : X.N[i]? = some x := by rfl) (hx : Loc X.env.scope x := by first | exact Or.inl rfl | exact Or.inr rfl) (hf : X.fn x = true ∨ X.env.scope.names.lookup x = some .local := by first | exact .inl rfl | exact .inr rfl) :
    PG X (.Name x pos) (gOf X.K [i] (Tg.put (.nm i))) := (pg_name hN hi hx hf).imp fun v σ H Q ⟨F, ρ, τ, c, ρ', nc, s, hp, q⟩ => by
  simp only [Tg.put] at hp
  split at hp
  · rename_i hl
    cases hp
    exact q _ F H (keeps_set i σ _) (s.put (by rw [s.1]; exact hl))
  · cases hp
theorem dg_nil : PGs X [] (gsOf X.K [] (putL [])) := pgs_nil.imp fun vs σ H Q ⟨F, ρ, τ, cs, ρ', hl, hn, s, hp, q⟩ => by
  cases cs with
  | nil =>
    simp only [putL, Option.some.injEq] at hp
    subst hp
    cases vs with
    | nil => exact ⟨rfl, q σ F H (Keeps.refl _ _) s⟩
    | cons _ _ => cases hl
  | cons _ _ => simp [putL] at hp
theorem dg_cons {t : Tg} {ts : List Tg} {l l' : List Nat} (h1 : PG X e (gOf X.K l (Tg.put t))) (h2 : PGs X es (gsOf X.K l' (putL ts))) (hs : (assignEach (e :: es) X.env).map (·.2) = assign e X.env :: (assignEach es X.env).map (·.2) := by rfl) :
    PGs X (e :: es) (gsOf X.K (l ++ l') (putL (t :: ts))) := (pgs_cons h1 h2 hs).imp fun vs σ H Q ⟨F, ρ, τ, cs, ρ', hl, hn, s, hp, q⟩ => by
  cases cs with
  | nil => simp [putL] at hp
  | cons c cs =>
    cases vs with
    | nil => cases hl
    | cons v vs =>
      simp only [putL, Option.bind_eq_some_iff] at hp
      obtain ⟨ρ1, p1, p2⟩ := hp
      refine ⟨v, vs, rfl, F, ρ, tmps vs cs ++ τ, c, ρ1, hn c List.mem_cons_self, s, p1, fun σ1 F1 H1 k1 s1 => ?_⟩
      exact ⟨F1, ρ1, τ, cs, ρ', Nat.succ.inj hl, fun c' m => hn c' (List.mem_cons_of_mem _ m), s1, p2, fun σ2 F2 H2 k2 s2 => q σ2 F2 H2 (k1.trans k2) s2⟩
theorem dg_tup {k : Nat} {ts : List Tg} {l : List Nat} {n : Nat} (hc : X.calm = true) (h : PGs X es (gsOf X.K l (putL ts))) (hn : (assignEach es X.env).length = n := by rfl) (hk : ts.length = n := by rfl) (hst : (assignEach es X.env).findIdx? (·.1) = none := by rfl) :
    PG X (.Tuple es k pos) (gOf X.K l (Tg.put (.tup ts))) := (pg_tup hc h hn hst).imp fun v σ H Q ⟨F, ρ, τ, c, ρ', nc, s, hp, q⟩ => by
  have len : ∀ {ts : List Tg} {cs : List C} {ρ ρ' : Rho}, putL ts cs ρ = some ρ' → cs.length = ts.length := by
    intro ts
    induction ts with
    | nil => intro cs ρ ρ' h; cases cs <;> simp [putL] at h ⊢
    | cons t ts ih =>
      intro cs ρ ρ' h
      cases cs with
      | nil => simp [putL] at h
      | cons c cs =>
        simp only [putL, Option.bind_eq_some_iff] at h
        obtain ⟨ρ1, _, h2⟩ := h
        simp [ih h2]
  simp only [Tg.put] at hp
  split at hp
  · rename_i ds
    obtain ⟨a, vs, rfl, hl, rs⟩ := s.fzOf.tupv
    have l1 := len hp
    rw [List.length_map] at l1
    refine ⟨a, vs, rfl, hl.seq, by rw [rs.len, l1, hk], F, ρ, τ, ds.map .fz, ρ', by rw [rs.len, List.length_map], fun c m => ?_, ?_, hp, q⟩
    · obtain ⟨d, _, rfl⟩ := List.mem_map.mp m
      simp
    · exact s.drop.on fun l ⟨O, rp, al⟩ => ⟨O, by
        have := rs.cells.toP rp
        rw [List.append_assoc]
        exact this, al⟩
  · rename_i cs
    obtain ⟨a, vs, O, rfl, ha, rc⟩ := s.tpOf
    have l1 := len hp
    refine ⟨a, vs, rfl, .of ha, by rw [rc.len, l1, hk], F, ρ, τ, cs, ρ', rc.len, rc.ne, ?_, hp, q⟩
    refine s.on fun l ⟨O, rp, nd, nf, dm⟩ => ?_
    cases rp with
    | cons c rp =>
      cases c with
      | tp e2 rc2 =>
        rw [ha] at e2
        cases e2
        refine ⟨_, ?_, (List.nodup_cons.mp nd).2, fun a m => nf a (List.mem_cons_of_mem _ m), dm⟩
        have := rc2.toP rp
        rw [List.append_assoc]
        exact this
  · cases hp

/-- target = e -/
def sAsg (put : C → Rho → Option Rho) (m : M C) : SM := fun ρ => (m ρ).thn fun c ρ => match put c ρ with
  | some ρ' => .nx ρ'
  | none => .st
theorem ds_asg {W : WX} {tg : Expr} {m : M C} {l : List Nat} {put : C → Rho → Option Rho} (he : PE X e (tOf X.K W m)) (hg : PG X tg (gOf X.K l put)) (hs : swapsWithSole [tg] e pos.line X.env = pure false := by rfl) (hw : swappedStores [tg] e X.env = pure none := by rfl)
    (h1 : (assignEach [tg] X.env).map (·.2) = [assign tg X.env] := by rfl) : PS X (.Assign [tg] e pos) (sOf X.K W (sAsg put m)) := (ps_asg he hg hs hw h1).imp fun D σ H ⟨F, ρ, τ, s, g⟩ =>
  runC s ((GoodS.thn g).imp (fun c ρ1 q v F1 H1 nc s1 => by
    split at q
    · rename_i ρ' hp
      exact ⟨F1, ρ1, τ, c, ρ', nc, s1, hp, fun σ' F' H' _ s' => q σ' F' H' s'⟩
    · exact q.elim) fun _ _ q => q)
/-- a, b = x, y -/
def sPar (i j : Nat) (m : M (List C)) : SM := fun ρ => (m ρ).thn fun cs ρ => match cs with
  | [c, d] => if i < ρ.length ∧ j < ρ.length then .nx ((ρ.set i c).set j d) else .st
  | _ => .st
theorem ds_par {W : WX} (i j : Nat) {x y : Str} {a b : Expr} {m : M (List C)} {px py pt : Pos} {kt k2 pt2} (hN : X.N.Nodup) (ha : PA X [a, b] (aOf X.K W m)) (hc : X.calm = true := by rfl) (hi : X.N[i]? = some x := by rfl) (hj : X.N[j]? = some y := by rfl) (hij : i ≠ j := by decide)
    (hx : X.env.scope.names.lookup x = some .local := by rfl) (hy : X.env.scope.names.lookup y = some .local := by rfl)
    (hw : swappedStores [.Tuple [.Name x px, .Name y py] kt pt] (.Tuple [a, b] k2 pt2) X.env = pure (some [x, y]) := by rfl)
    (hs : swapsWithSole [.Tuple [.Name x px, .Name y py] kt pt] (.Tuple [a, b] k2 pt2) pos.line X.env = pure false := by rfl) :
    PS X (.Assign [.Tuple [.Name x px, .Name y py] kt pt] (.Tuple [a, b] k2 pt2) pos) (sOf X.K W (sPar i j m)) := (ps_par hc hN hi hj hij hx hy ha hw hs).imp fun D σ H ⟨F, ρ, τ, s, g⟩ =>
  runA s ((GoodS.thn g).imp (fun cs ρ1 q vs F1 H1 hl hn s1 => by
    split at q
    · rename_i c d
      split at q
      · rename_i hij
        match vs, hl, s1 with
        | [v, w], _, s1 =>
          have s2 : Sta X.K F1 H1 σ ρ1 ((some v, c) :: (some w, d) :: τ) := s1
          have s3 := s2.put (i := i) (by rw [s2.1]; exact hij.1)
          have s4 := s3.put (i := j) (by rw [s3.1, List.length_set]; exact hij.2)
          exact ⟨v, w, rfl, q _ F1 H1 s4⟩
      · exact q.elim
    · exact q.elim) fun _ _ q => q)
end
end Dn

/-! Den7: what is walked; for, while, comprehensions. -/
namespace Dn
open PySem PySem.Spec PyProof.Rows L2

/-- the iterator J yields the trees ds, while the temps π stand -/
structure ItOk (K : PySem.W.Frag) (J : It) (π : List Pr) (ds : List D) : Prop where
  step : ∀ i d F H σ ρ τ, Sta K F H σ ρ (π ++ τ) → ds[i]? = some d → J.go i H ∧ ∀ x H', J.yld i H x H' → ∃ F', Sta K F' H' σ ρ ((some x, .fz d) :: (π ++ τ))
  stop : ∀ F H σ ρ τ, Sta K F H σ ρ (π ++ τ) → J.stop ds.length H
def iOf (K : PySem.W.Frag) (W : WX) (m : M (List D)) : TI := fun σ H R => ∃ F ρ τ, Sta K F H σ ρ τ ∧ Good (m ρ) (fun ds ρ' => ∀ J π F' H', ItOk K J π ds → Sta K F' H' σ ρ' (π ++ τ) → R J H') (erP K W σ τ)
theorem _root_.L2.PI.imp {X : Cx} {tg e : Expr} {t u : TI} (h : PI X tg e t) (f : ∀ σ H R, u σ H R → t σ H R) : PI X tg e u := ⟨fun pins s σ H R I hw => h.run pins s σ H R I (f σ H R hw)⟩

def iLst (m : M C) : M (List D) := fun ρ => (m ρ).bind fun c ρ => match fzD c with
  | .lst ds => .ok ds ρ
  | .fr ds => .ok ds ρ
  | _ => .st
def iTupM (m : M C) : M (List D) := fun ρ => (m ρ).bind fun c ρ => match fzD c with
  | .tup ds => .ok ds ρ
  | _ => .st
def intsD (lo : Int) (n : Nat) : List D := (List.range n).map fun (k : Nat) => D.int (lo + (k : Int))
/-- fit for range; the kernel is not to compute it -/
noncomputable def r62X : {f : Int → Bool // ∀ i, f i = decide (-(2 ^ 62) ≤ i ∧ i < 2 ^ 62)} := Classical.choice ⟨⟨fun i => decide (-(2 ^ 62) ≤ i ∧ i < 2 ^ 62), fun _ => rfl⟩⟩
noncomputable def r62 (i : Int) : Bool := r62X.1 i
theorem r62_eq (i : Int) : r62 i = decide (-(2 ^ 62) ≤ i ∧ i < 2 ^ 62) := r62X.2 i
noncomputable def iRg1 (a : M (List C)) : M (List D) := fun ρ => (a ρ).bind fun cs ρ => match cs.map fzD with
  | [.int j] => if r62 j then .ok (intsD 0 j.toNat) ρ else .st
  | _ => .st
noncomputable def iRg2 (a : M (List C)) : M (List D) := fun ρ => (a ρ).bind fun cs ρ => match cs.map fzD with
  | [.int i, .int j] => if r62 i && r62 j then .ok (intsD i (j - i).toNat) ρ else .st
  | _ => .st
def enumD (ds : List D) : List D := ds.zipIdx.map fun p => .tup [.int (p.2 : Nat), p.1]
def zipD (ds es : List D) : List D := List.zipWith (fun a b => D.tup [a, b]) ds es
def iEnm (a : M (List C)) : M (List D) := fun ρ => (a ρ).bind fun cs ρ => match cs.map fzD with
  | [.lst ds] => .ok (enumD ds) ρ
  | _ => .st
def iZp (a : M (List C)) : M (List D) := fun ρ => (a ρ).bind fun cs ρ => match cs.map fzD with
  | [.lst ds, .lst es] => .ok (zipD ds es) ρ
  | _ => .st

section
variable {K : PySem.W.Frag}
theorem Sta.mid {F : Addr → Prop} {H : Hp} {σ : L2.St} {ρ : Rho} {π τ : List Pr} {p : Pr} (s : Sta K F H σ ρ (p :: π ++ τ)) : Sta K F H σ ρ (π ++ τ) := Sta.drop (p := p) s
theorem it_list {a : Addr} {ds : List D} (h : ∀ {F H}, Rep K F H (.ref a) (.lst ds) ∨ Rep K F H (.ref a) (.fr ds) → ∃ vs, SqL K H a vs ∧ Reps K F H vs ds) (d0 : D) (hd : d0 = .lst ds ∨ d0 = .fr ds) : ItOk K (Itl K a) [(some (.ref a), .fz d0)] ds where
  step := fun i d F H σ ρ τ s e => by
    have s' : Sta K F H σ ρ ((some (.ref a), .fz d0) :: τ) := s
    obtain ⟨vs, hs, rs⟩ := h (by rcases hd with rfl | rfl; exact .inl s'.fzOf; exact .inr s'.fzOf)
    obtain ⟨v, ev, rv⟩ := rs.get e
    refine ⟨⟨vs, v, hs, ev⟩, fun x H' y => ?_⟩
    obtain ⟨rfl, y⟩ := y
    have := y vs hs
    rw [ev] at this
    cases this
    exact ⟨F, s.push rv⟩
  stop := fun F H σ ρ τ s => by
    have s' : Sta K F H σ ρ ((some (.ref a), .fz d0) :: τ) := s
    obtain ⟨vs, hs, rs⟩ := h (by rcases hd with rfl | rfl; exact .inl s'.fzOf; exact .inr s'.fzOf)
    exact ⟨vs, hs, by rw [rs.len]; exact Nat.le_refl _⟩
theorem lst_or {F : Addr → Prop} {H : Hp} {a : Addr} {ds : List D} (r : Rep K F H (.ref a) (.lst ds) ∨ Rep K F H (.ref a) (.fr ds)) : ∃ vs, SqL K H a vs ∧ Reps K F H vs ds := by
  rcases r with r | r
  · cases r with
    | lst h r => exact ⟨_, h.seq, r⟩
  · cases r with
    | fr h r => exact ⟨_, h.seq, r⟩
theorem it_tup {a : Addr} {ds : List D} : ItOk K (Itt K a) [(some (.ref a), .fz (.tup ds))] ds where
  step := fun i d F H σ ρ τ s e => by
    have s' : Sta K F H σ ρ ((some (.ref a), .fz (.tup ds)) :: τ) := s
    have r := s'.fzOf
    cases r with
    | tup h rs =>
      obtain ⟨v, ev, rv⟩ := rs.get e
      refine ⟨⟨_, v, h.seq, ev⟩, fun x H' y => ?_⟩
      obtain ⟨rfl, y⟩ := y
      have := y _ h.seq
      rw [ev] at this
      cases this
      exact ⟨F, s.push rv⟩
  stop := fun F H σ ρ τ s => by
    have s' : Sta K F H σ ρ ((some (.ref a), .fz (.tup ds)) :: τ) := s
    have r := s'.fzOf
    cases r with
    | tup h rs => exact ⟨_, h.seq, by rw [rs.len]; exact Nat.le_refl _⟩
theorem it_range {lo : Int} {n : Nat} : ItOk K (Itr lo n) [] (intsD lo n) where
  step := fun i d F H σ ρ τ s e => by
    unfold intsD at e
    rw [List.getElem?_map, Option.map_eq_some_iff] at e
    obtain ⟨k, e, rfl⟩ := e
    have hi : i < n := by
      have := List.getElem?_eq_some_iff.mp e
      simpa using this.1
    have hk : k = i := by
      rw [List.getElem?_range hi] at e
      exact (Option.some.inj e).symm
    subst hk
    refine ⟨hi, fun x H' y => ?_⟩
    obtain ⟨rfl, rfl⟩ := y
    exact ⟨F, s.push (.int _)⟩
  stop := fun F H σ ρ τ s => by
    show n ≤ (intsD lo n).length
    unfold intsD
    rw [List.length_map, List.length_range]
    exact Nat.le_refl _
/-- a new tuple of two things of ours -/
theorem Sta.pair {F : Addr → Prop} {H : Hp} {σ : L2.St} {ρ : Rho} {τ : List Pr} {T : Addr} {x y : V} {d e : D} (s : Sta K F H σ ρ τ) (n : H T = none) (rx : Rep K F H x d) (ry : Rep K F H y e) : ∃ F', Sta K F' (L2.upd H T (.tup [x, y])) σ ρ ((some (.ref T), .fz (.tup [d, e])) :: τ) := by
  have s1 : Sta K F H σ ρ (tmps [x, y] [.fz d, .fz e] ++ τ) := (s.push ry).push rx
  have s2 : Sta K F (L2.upd H T (.tup [x, y])) σ ρ ((some (.ref T), .tp [.fz d, .fz e]) :: τ) := s1.on fun l al => by
    rw [List.append_assoc] at al
    exact al.mkT rfl (by simp) n
  obtain ⟨F', s3⟩ := s2.freeze (by simp)
  exact ⟨F', by simpa using s3⟩
theorem it_enum {a : Addr} {ds : List D} : ItOk K (Ite K a) [(some (.ref a), .fz (.lst ds))] (enumD ds) where
  step := fun i d F H σ ρ τ s e => by
    have s' : Sta K F H σ ρ ((some (.ref a), .fz (.lst ds)) :: τ) := s
    obtain ⟨vs, hs, rs⟩ := lst_or (.inl s'.fzOf)
    unfold enumD at e
    rw [List.getElem?_map, Option.map_eq_some_iff] at e
    obtain ⟨p, e, rfl⟩ := e
    rw [List.getElem?_zipIdx, Option.map_eq_some_iff] at e
    obtain ⟨d', e, rfl⟩ := e
    obtain ⟨v, ev, rv⟩ := rs.get e
    refine ⟨⟨vs, v, hs, ev⟩, fun x H' y => ?_⟩
    obtain ⟨T, z, rfl, nT, rfl, y⟩ := y
    have := y vs hs
    rw [ev] at this
    cases this
    obtain ⟨F', s2⟩ := s.pair nT (.int (i : Nat)) rv
    exact ⟨F', by simpa using s2⟩
  stop := fun F H σ ρ τ s => by
    have s' : Sta K F H σ ρ ((some (.ref a), .fz (.lst ds)) :: τ) := s
    obtain ⟨vs, hs, rs⟩ := lst_or (.inl s'.fzOf)
    exact ⟨vs, hs, by rw [rs.len]; simp [enumD]⟩
theorem it_zip {a b : Addr} {ds es : List D} : ItOk K (Itz K a b) [(some (.ref a), .fz (.lst ds)), (some (.ref b), .fz (.lst es))] (zipD ds es) where
  step := fun i d F H σ ρ τ s e => by
    have s' : Sta K F H σ ρ ((some (.ref a), .fz (.lst ds)) :: (some (.ref b), .fz (.lst es)) :: τ) := s
    obtain ⟨vs, hs, rs⟩ := lst_or (.inl s'.fzOf)
    obtain ⟨ws, hs2, rs2⟩ := lst_or (.inl s'.drop.fzOf)
    unfold zipD at e
    rw [List.getElem?_zipWith] at e
    cases e1 : ds[i]? with
    | none => rw [e1] at e; simp at e
    | some d1 =>
      cases e2 : es[i]? with
      | none => rw [e1, e2] at e; simp at e
      | some d2 =>
        rw [e1, e2] at e
        simp at e
        subst e
        obtain ⟨v, ev, rv⟩ := rs.get e1
        obtain ⟨w, ew, rw'⟩ := rs2.get e2
        refine ⟨⟨vs, ws, v, w, hs, hs2, ev, ew⟩, fun x H' y => ?_⟩
        obtain ⟨T, z, z2, rfl, nT, rfl, y1, y2⟩ := y
        have h1 := y1 vs hs
        have h2 := y2 ws hs2
        rw [ev] at h1
        rw [ew] at h2
        cases h1
        cases h2
        exact s.pair nT rv rw'
  stop := fun F H σ ρ τ s => by
    have s' : Sta K F H σ ρ ((some (.ref a), .fz (.lst ds)) :: (some (.ref b), .fz (.lst es)) :: τ) := s
    obtain ⟨vs, hs, rs⟩ := lst_or (.inl s'.fzOf)
    obtain ⟨ws, hs2, rs2⟩ := lst_or (.inl s'.drop.fzOf)
    refine ⟨vs, ws, hs, hs2, ?_⟩
    rw [rs.len, rs2.len]
    unfold zipD
    rw [List.length_zipWith]
    omega
end

section
variable {X : Cx} {W : WX} {tg e e2 : Expr} {m : M C} {ma : M (List C)} {p pos tpos : Pos} {elts : List Expr} {kk : Nat}
theorem di_list (h : PE X e (tOf X.K W m)) : PI X tg e (iOf X.K W (iLst m)) := (pi_list h).imp fun σ H R ⟨F, ρ, τ, s, g⟩ => by
  unfold iLst at g
  rw [Good.bind] at g
  refine run1 s (g.imp (fun c ρ1 q v F1 H1 s1 => ?_) fun _ _ q => q)
  split at q
  · rename_i ds hd
    rw [hd] at s1
    have r := s1.fzOf
    cases r with
    | lst hl rs => exact ⟨_, rfl, ⟨_, hl.seq⟩, q _ _ F1 H1 (it_list lst_or _ (.inl rfl)) s1⟩
  · rename_i ds hd
    rw [hd] at s1
    have r := s1.fzOf
    cases r with
    | fr hl rs => exact ⟨_, rfl, ⟨_, hl.seq⟩, q _ _ F1 H1 (it_list lst_or _ (.inr rfl)) s1⟩
  · exact q.elim
theorem di_tup (h : PE X e (tOf X.K W m)) : PI X tg e (iOf X.K W (iTupM m)) := (pi_tup h).imp fun σ H R ⟨F, ρ, τ, s, g⟩ => by
  unfold iTupM at g
  rw [Good.bind] at g
  refine run1 s (g.imp (fun c ρ1 q v F1 H1 s1 => ?_) fun _ _ q => q)
  split at q
  · rename_i ds hd
    rw [hd] at s1
    have r := s1.fzOf
    cases r with
    | tup hl rs => exact ⟨_, rfl, ⟨_, hl.seq⟩, q _ _ F1 H1 it_tup s1⟩
  · exact q.elim
theorem r62_of {i : Int} (h : r62 i = true) : -(2 ^ 62) ≤ i ∧ i < 2 ^ 62 := of_decide_eq_true ((r62_eq i).symm.trans h)
theorem di_range1 (hm : X.mg "range" = none) (ha : PA X [e] (aOf X.K W ma)) (hg : Gl X "range" := by rfl) (hs : starEach [e] X.env = [(false, eval e X.env)] := by rfl) : PI X tg (.Call (.Name "range" p) [e] [] pos) (iOf X.K W (iRg1 ma)) := (pi_range1 hg hm ha hs).imp fun σ H R ⟨F, ρ, τ, s, g⟩ => by
  unfold iRg1 at g
  rw [Good.bind] at g
  refine runA s (g.imp (fun cs ρ1 q vs F1 H1 hl hn s1 => ?_) fun _ _ q => q)
  obtain ⟨F2, s2, r2⟩ := s1.freezes hl hn
  split at q
  · rename_i j hj
    rw [hj] at r2
    obtain ⟨v, rfl, rv⟩ := r2.one
    split at q
    · rename_i hr
      obtain ⟨h1, h2⟩ := r62_of hr
      exact ⟨j, by rw [rv.intv], h1, h2, q _ [] F2 H1 it_range s2⟩
    · exact q.elim
  · exact q.elim
theorem di_range2 (hm : X.mg "range" = none) (ha : PA X [e, e2] (aOf X.K W ma)) (hg : Gl X "range" := by rfl) (hs : starEach [e, e2] X.env = [(false, eval e X.env), (false, eval e2 X.env)] := by rfl) (hs2 : starEach [e2] X.env = [(false, eval e2 X.env)] := by rfl) : PI X tg (.Call (.Name "range" p) [e, e2] [] pos) (iOf X.K W (iRg2 ma)) := (pi_range2 hg hm ha hs hs2).imp fun σ H R ⟨F, ρ, τ, s, g⟩ => by
  unfold iRg2 at g
  rw [Good.bind] at g
  refine runA s (g.imp (fun cs ρ1 q vs F1 H1 hl hn s1 => ?_) fun _ _ q => q)
  obtain ⟨F2, s2, r2⟩ := s1.freezes hl hn
  split at q
  · rename_i i j hj
    rw [hj] at r2
    obtain ⟨v, w, rfl, rv, rw'⟩ := r2.two
    split at q
    · rename_i hr
      rw [Bool.and_eq_true] at hr
      obtain ⟨h1, h2⟩ := r62_of hr.1
      obtain ⟨h3, h4⟩ := r62_of hr.2
      exact ⟨i, j, by rw [rv.intv, rw'.intv], ⟨h1, h2, h3, h4⟩, q _ [] F2 H1 it_range s2⟩
    · exact q.elim
  · exact q.elim
theorem di_enum (hm : X.mg "enumerate" = none) (ha : PA X [e] (aOf X.K W ma)) (hg : Gl X "enumerate" := by rfl) (hs : starEach [e] X.env = [(false, eval e X.env)] := by rfl) : PI X (.Tuple elts kk tpos) (.Call (.Name "enumerate" p) [e] [] pos) (iOf X.K W (iEnm ma)) := (pi_enum hg hm ha hs).imp fun σ H R ⟨F, ρ, τ, s, g⟩ => by
  unfold iEnm at g
  rw [Good.bind] at g
  refine runA s (g.imp (fun cs ρ1 q vs F1 H1 hl hn s1 => ?_) fun _ _ q => q)
  obtain ⟨F2, s2, r2⟩ := s1.freezes hl hn
  split at q
  · rename_i ds hj
    rw [hj] at r2
    obtain ⟨v, rfl, rv⟩ := r2.one
    have s3 := s2.push rv
    cases rv with
    | lst hl2 rs => exact ⟨_, _, rfl, hl2.seq, q _ _ F2 H1 it_enum s3⟩
  · exact q.elim
theorem di_zip (hm : X.mg "zip" = none) (ha : PA X [e, e2] (aOf X.K W ma)) (hg : Gl X "zip" := by rfl) (hs : starEach [e, e2] X.env = (false, eval e X.env) :: starEach [e2] X.env := by rfl) (hpl : (backTo pos (starEach [e2] X.env)).any (·.1) = false := by rfl) : PI X (.Tuple elts kk tpos) (.Call (.Name "zip" p) [e, e2] [] pos) (iOf X.K W (iZp ma)) := (pi_zip hg hm ha hs hpl).imp fun σ H R ⟨F, ρ, τ, s, g⟩ => by
  unfold iZp at g
  rw [Good.bind] at g
  refine runA s (g.imp (fun cs ρ1 q vs F1 H1 hl hn s1 => ?_) fun _ _ q => q)
  obtain ⟨F2, s2, r2⟩ := s1.freezes hl hn
  split at q
  · rename_i ds es hj
    rw [hj] at r2
    obtain ⟨v, w, rfl, rv, rw'⟩ := r2.two
    have s3 := (s2.push rw').push rv
    cases rv with
    | lst hl3 rs =>
      cases rw' with
      | lst hl2 rs2 => exact ⟨_, _, _, _, rfl, hl3.seq, hl2.seq, q _ _ F2 H1 it_zip s3⟩
  · exact q.elim
end

/-! ### for -/
def forL (put : C → Rho → Option Rho) (body : SM) : List D → SM
  | [], ρ => .nx ρ
  | d :: ds, ρ => match put (.fz d) ρ with
    | none => .st
    | some ρ1 => match body ρ1 with
      | .nx ρ2 => forL put body ds ρ2
      | .ct ρ2 => forL put body ds ρ2
      | .bk ρ2 => .nx ρ2
      | r => r
def sFor (mi : M (List D)) (put : C → Rho → Option Rho) (body : SM) : SM := fun ρ => (mi ρ).thn fun ds ρ => forL put body ds ρ
section
variable {X : Cx} {W : WX} {tg iter : Expr} {body : List Stmt} {pos : Pos} {mi : M (List D)} {l : List Nat} {put : C → Rho → Option Rho} {m : SM}
theorem ds_for (hp : PassesOwn (model X.prog X.w) X.A X.env X.xe) (hi : PI X tg iter (iOf X.K W mi)) (hg : PG X tg (gOf X.K l put)) (hb : PSs X body (sOf X.K W m)) (hc : X.calm = true := by rfl)
    (hs : ∀ x, foldedSetIterable iter X.env x = pure x := by intro _; rfl) : PS X (.For tg iter body [] pos) (sOf X.K W (sFor mi put m)) := (ps_for hp hc hi hg hb hs).imp fun D σ H ⟨F, ρ, τ, s, g⟩ => by
  refine ⟨F, ρ, τ, s, (GoodS.thn g).imp (fun ds ρ1 q J π F1 H1 ok s1 => ?_) fun _ _ q => q⟩
  refine ⟨fun i n σ H => n = ds.length - i ∧ i ≤ ds.length ∧ ∃ F ρ, Sta X.K F H σ ρ (π ++ τ) ∧ GoodS X.K W τ (forL put m (ds.drop i) ρ) D, ⟨_, rfl, Nat.zero_le _, F1, ρ1, s1, q⟩, ?_⟩
  rintro i n σ H ⟨rfl, hi, F, ρ, s, q⟩
  by_cases hlt : i < ds.length
  · have e : ds[i]? = some ds[i] := List.getElem?_eq_getElem hlt
    obtain ⟨go, yl⟩ := ok.step i ds[i] F H σ ρ τ s e
    refine .inr ⟨go, fun σ' H' => ∃ F ρ, Sta X.K F H' σ' ρ (π ++ τ) ∧ GoodS X.K W τ (forL put m (ds.drop (i + 1)) ρ) D, fun σ' H' h => ⟨_, by omega, rfl, hlt, h⟩, fun x H' y => ?_⟩
    obtain ⟨F2, s2⟩ := yl x H' y
    rw [List.drop_eq_getElem_cons hlt] at q
    unfold forL at q
    split at q
    · exact q.elim
    · rename_i ρ1 hp1
      refine ⟨F2, ρ, _, _, ρ1, by simp, s2, hp1, fun σ3 F3 H3 _ s3 => ⟨F3, ρ1, _, s3, ?_⟩⟩
      split at q
      · rename_i ρ2 hm; rw [hm]; exact fun σ4 F4 H4 s4 => ⟨F4, ρ2, s4, q⟩
      · rename_i ρ2 hm; rw [hm]; exact fun σ4 F4 H4 s4 => ⟨F4, ρ2, s4, q⟩
      · rename_i ρ2 hm; rw [hm]; exact fun σ4 F4 H4 s4 => q σ4 F4 H4 s4.dropL
      · rename_i r h1 h2 h3
        cases hr : m ρ1 with
        | nx ρ2 => exact absurd hr (h1 ρ2)
        | ct ρ2 => exact absurd hr (h2 ρ2)
        | bk ρ2 => exact absurd hr (h3 ρ2)
        | st => rw [hr] at q; exact q
        | er e ρ2 => rw [hr] at q; exact serP.dropL q
        | rt c =>
          rw [hr] at q
          exact fun v F4 H4 nc al => q v F4 H4 nc (by
            have a2 : All X.K F4 H4 (((some v, c) :: (π ++ τ))) := al
            have a3 := a2.perm (show ((some v, c) :: (π ++ τ)).Perm (π ++ ((some v, c) :: τ)) from List.perm_middle.symm)
            exact a3.dropL)
  · have e : i = ds.length := by omega
    subst e
    rw [List.drop_length] at q
    exact .inl ⟨ok.stop F H σ ρ τ s, q σ F H s.dropL⟩
end

/-! ### while -/
def whileL (t : M Bool) (body : SM) : Nat → SM
  | 0, _ => .st
  | n + 1, ρ => match t ρ with
    | .st => .st
    | .er e ρ => .er e ρ
    | .ok false ρ1 => .nx ρ1
    | .ok true ρ1 => match body ρ1 with
      | .nx ρ2 => whileL t body n ρ2
      | .ct ρ2 => whileL t body n ρ2
      | .bk ρ2 => .nx ρ2
      | r => r
section
variable {X : Cx} {W : WX} {c : Expr} {body : List Stmt} {pos : Pos} {t : M Bool} {m : SM}
theorem ds_while (fu : Rho → Nat) (hp : PassesOwn (model X.prog X.w) X.A X.env X.xe) (hc : PT X c (bOf X.K W t)) (hb : PSs X body (sOf X.K W m)) : PS X (.While c body [] pos) (sOf X.K W (fun ρ => whileL t m (fu ρ) ρ)) := (ps_while hp hc hb).imp fun D σ H ⟨F, ρ, τ, s, g⟩ => by
  refine ⟨fun n σ H => ∃ F ρ, Sta X.K F H σ ρ τ ∧ GoodS X.K W τ (whileL t m n ρ) D, ⟨fu ρ, F, ρ, s, g⟩, ?_⟩
  rintro n σ H ⟨F, ρ, s, q⟩
  cases n with
  | zero => exact q.elim
  | succ n =>
    unfold whileL at q
    refine ⟨F, ρ, τ, s, ?_⟩
    split at q
    · exact q.elim
    · rename_i e ρ1 ht; rw [ht]; exact serP.er q
    · rename_i ρ1 ht
      rw [ht]
      intro F1 H1 s1
      show if false = true then _ else _
      rw [if_neg Bool.false_ne_true]
      exact q σ F1 H1 s1
    · rename_i ρ1 ht
      rw [ht]
      intro F1 H1 s1
      show if true = true then _ else _
      rw [if_pos rfl]
      refine ⟨fun σ' H' => ∃ F ρ, Sta X.K F H' σ' ρ τ ∧ GoodS X.K W τ (whileL t m n ρ) D, fun σ' H' h => ⟨n, Nat.lt_succ_self _, h⟩, F1, ρ1, τ, s1, ?_⟩
      split at q
      · rename_i ρ2 hm; rw [hm]; exact fun σ4 F4 H4 s4 => ⟨F4, ρ2, s4, q⟩
      · rename_i ρ2 hm; rw [hm]; exact fun σ4 F4 H4 s4 => ⟨F4, ρ2, s4, q⟩
      · rename_i ρ2 hm; rw [hm]; exact fun σ4 F4 H4 s4 => q σ4 F4 H4 s4
      · rename_i r h1 h2 h3
        cases hr : m ρ1 with
        | nx ρ2 => exact absurd hr (h1 ρ2)
        | ct ρ2 => exact absurd hr (h2 ρ2)
        | bk ρ2 => exact absurd hr (h3 ρ2)
        | st => rw [hr] at q; exact q
        | er e ρ2 => rw [hr] at q; exact q
        | rt c => rw [hr] at q; exact q
end
end Dn

/-! Den8: comprehensions; lists changed. -/
namespace Dn
open PySem PySem.Spec PyProof.Rows L2

abbrev noW : WX := fun _ _ _ _ => False
def wipeR (ρ : Rho) : List Nat → Rho
  | [] => ρ
  | v :: vs => (wipeR ρ vs).set v .no
def restR (ρ0 : Rho) : List Nat → Rho → Rho
  | [], ρ => ρ
  | v :: vs, ρ => restR ρ0 vs (ρ.set v ((wipeR ρ0 vs)[v]?.getD .no))
def saved (σ : L2.St) (ρ : Rho) : List Nat → List Pr
  | [] => []
  | v :: vs => ((wipe σ vs)[v]?.getD none, (wipeR ρ vs)[v]?.getD .no) :: saved σ ρ vs
section
variable {K : PySem.W.Frag} {F : Addr → Prop} {H : Hp} {σ : L2.St} {ρ : Rho} {τ : List Pr}
theorem Sta.take (s : Sta K F H σ ρ τ) (v : Nat) : Sta K F H (σ.set v none) (ρ.set v .no) ((σ[v]?.getD none, ρ[v]?.getD .no) :: τ) := by
  refine ⟨by rw [List.length_set, List.length_set]; exact s.1, ?_⟩
  rw [← zip_set]
  by_cases hi : v < σ.length
  · have hr : v < ρ.length := by rw [← s.1]; exact hi
    have h1 : σ[v]? = some σ[v] := List.getElem?_eq_getElem hi
    have h2 : ρ[v]? = some ρ[v] := List.getElem?_eq_getElem hr
    rw [h1, h2]
    obtain ⟨r, p1, p2⟩ := perm_at (zip_at h1 h2) ((none : Option V), C.no)
    have a1 : All K F H ((σ[v], ρ[v]) :: (r ++ τ)) := s.2.perm (p1.append_right τ)
    have a2 : All K F H ((none, C.no) :: (σ[v], ρ[v]) :: (r ++ τ)) := a1.nothing
    refine a2.perm ?_
    show ((none, C.no) :: (σ[v], ρ[v]) :: (r ++ τ)).Perm ((σ.zip ρ).set v (none, C.no) ++ (σ[v], ρ[v]) :: τ)
    refine (List.Perm.swap _ _ _).trans ?_
    refine List.Perm.trans ?_ (List.perm_middle (l₁ := (σ.zip ρ).set v (none, C.no))).symm
    exact .cons _ ((p2.append_right τ).symm)
  · have hr : ¬ v < ρ.length := by rw [← s.1]; exact hi
    rw [List.getElem?_eq_none (by omega), List.getElem?_eq_none (by omega), List.set_eq_of_length_le (by simp; omega)]
    have a : All K F H (((none : Option V), C.no) :: (σ.zip ρ ++ τ)) := s.2.nothing
    exact a.perm (List.perm_middle.symm)
theorem Sta.give {v : Nat} {x : Option V} {c : C} (s : Sta K F H (σ.set v none) ρ ((x, c) :: τ)) (e : x = σ[v]?.getD none) : Sta K F H σ (ρ.set v c) τ := by
  have hl : σ.length = ρ.length := by have := s.1; rw [List.length_set] at this; exact this
  by_cases hi : v < σ.length
  · have h1 : σ[v]? = some σ[v] := List.getElem?_eq_getElem hi
    rw [h1] at e
    have hz : ((σ.set v none).zip ρ)[v]? = some ((none : Option V), ρ[v]'(by omega)) := zip_at (by simp [hi]) (List.getElem?_eq_getElem _)
    refine ⟨by rw [List.length_set]; exact hl, ?_⟩
    obtain ⟨r, p1, p2⟩ := perm_at hz (x, c)
    have a := s.all
    have a1 : All K F H (((none, ρ[v]'(by omega)) : Pr) :: (x, c) :: (r ++ τ)) := a.perm (by
      refine (List.Perm.cons _ (List.perm_append_comm.trans (p1.append_right τ))).trans ?_
      exact .swap _ _ _)
    have a2 := a1.drop.perm (p2.append_right τ).symm
    rw [zip_set, List.set_set] at a2
    have e2 : σ.set v x = σ := by rw [e]; simp
    rw [e2] at a2
    exact a2
  · have e1 : σ.set v none = σ := List.set_eq_of_length_le (by omega)
    have e2 : ρ.set v c = ρ := List.set_eq_of_length_le (by omega)
    rw [e1] at s
    rw [e2]
    exact s.drop
theorem Sta.wipeS (s : Sta K F H σ ρ τ) : ∀ vs, Sta K F H (wipe σ vs) (wipeR ρ vs) (saved σ ρ vs ++ τ)
  | [] => s
  | v :: vs => (s.wipeS vs).take v
theorem Sta.wipeT (s : Sta K F H σ ρ τ) : ∀ vs, Sta K F H (wipe σ vs) (wipeR ρ vs) τ
  | [] => s
  | v :: vs => (s.wipeT vs).setX v none
theorem Sta.rest {ρ0 : Rho} : ∀ {vs : List Nat} {ρ : Rho}, Sta K F H (wipe σ vs) ρ (saved σ ρ0 vs ++ τ) → Sta K F H σ (restR ρ0 vs ρ) τ
  | [], _, s => s
  | v :: vs, ρ, s => Sta.rest (vs := vs) (Sta.give (σ := wipe σ vs) (v := v) s rfl)
end
theorem RepCs.snoc {K : PySem.W.Frag} {F : Addr → Prop} {H : Hp} : ∀ {vs : List V} {cs : List C} {O O' : List Addr} {v : V} {c : C}, RepCs K F H vs cs O → RepC K F H v c O' → RepCs K F H (vs ++ [v]) (cs ++ [c]) (O ++ O')
  | _, _, _, _, _, _, .nil, r => by
    have := RepCs.cons r .nil
    simpa using this
  | _, _, _, _, _, _, .cons a b, r => by
    have := RepCs.cons a (b.snoc r)
    rw [List.append_assoc]
    exact this
def bYes : M Bool := fun ρ => .ok true ρ
def lcL (vs : List Nat) (put : C → Rho → Option Rho) (t : M Bool) (el : M C) : List D → List C → Rho → R (List C)
  | [], acc, ρ => .ok acc ρ
  | d :: ds, acc, ρ => match put (.fz d) ρ with
    | none => .st
    | some ρ1 => match t ρ1 with
      | .ok true ρ2 => match el ρ2 with
        | .ok c ρ3 => if small acc.length then lcL vs put t el ds (acc ++ [c]) (wipeR ρ3 vs) else .st
        | _ => .st
      | .ok false ρ2 => lcL vs put t el ds acc (wipeR ρ2 vs)
      | _ => .st
def eLc (vs : List Nat) (mi : M (List D)) (put : C → Rho → Option Rho) (t : M Bool) (el : M C) : M C := fun ρ => (mi ρ).bind fun ds ρ1 => (lcL vs put t el ds [] (wipeR ρ1 vs)).bind fun acc ρ2 => .ok (.ow acc) (restR ρ1 vs ρ2)
theorem lcL_noer {vs : List Nat} {put : C → Rho → Option Rho} {t : M Bool} {el : M C} : ∀ {ds : List D} {acc : List C} {ρ : Rho} {e : Er} {ρ' : Rho}, lcL vs put t el ds acc ρ ≠ .er e ρ'
  | [], acc, ρ, e, ρ' => by simp [lcL]
  | d :: ds, acc, ρ, e, ρ' => by
    unfold lcL
    split
    · simp
    · split
      · split
        · split
          · exact lcL_noer
          · simp
        · simp
      · exact lcL_noer
      · simp
theorem wipe_keeps {σ σ' : L2.St} : ∀ {vs : List Nat}, σ'.length = σ.length → (∀ j, j ∉ vs → σ'[j]? = σ[j]?) → wipe σ' vs = wipe σ vs := by
  intro vs hl h
  apply List.ext_getElem?
  intro j
  have key : ∀ (σ : L2.St) (vs : List Nat), (wipe σ vs)[j]? = if j ∈ vs then (if j < σ.length then some none else none) else σ[j]? := by
    intro σ vs
    induction vs with
    | nil => simp [wipe]
    | cons v vs ih =>
      unfold wipe
      by_cases e : v = j
      · subst e
        simp only [List.mem_cons, true_or, if_true]
        by_cases hv : v < σ.length
        · rw [List.getElem?_set_self (by rw [wipe_length]; exact hv), if_pos hv]
        · rw [List.getElem?_eq_none (by rw [List.length_set, wipe_length]; omega), if_neg hv]
      · rw [List.getElem?_set_ne e, ih]
        have : j ≠ v := fun z => e z.symm
        simp [this]
  rw [key, key, hl]
  split
  · rfl
  · rename_i hj; exact h j hj
section
variable {X : Cx} {W : WX} {tg iter elt : Expr} {ifs : List Expr} {scope : Scope} {own : List (Str × Nat)} {pos : Pos} {mi : M (List D)} {l : List Nat} {put : C → Rho → Option Rho} {t : M Bool} {el : M C}
theorem lc_ok {vs : List Nat} (hsub : ∀ j ∈ l, j ∈ vs) {σ : L2.St} {H : Hp} {Q : VK} (h : tOf X.K W (eLc vs mi put t el) σ H Q) : tLc (iOf X.K W mi) (gOf X.K l put) (bOf X.K noW t) (tOf X.K noW el) vs σ H Q := by
  obtain ⟨F, ρ, τ, s, g⟩ := h
  unfold eLc at g
  rw [Good.bind] at g
  refine ⟨F, ρ, τ, s, g.imp (fun ds ρ1 q J π F1 H1 ok s1 => ?_) fun _ _ q => q⟩
  intro P hP
  have s0 : Sta X.K F1 (upd H1 P (.lst [])) σ ρ1 ((some (.ref P), .ow []) :: (π ++ τ)) := s1.on fun l al => by
    have := All.mkL (vs := []) (cs := []) (ps := (π ++ τ) ++ l) (p := P) al rfl (by simp) hP
    exact this
  -- the block's state: π, the new list, what is kept of the own slots, τ
  have s2 : Sta X.K F1 (upd H1 P (.lst [])) (wipe σ vs) (wipeR ρ1 vs) (π ++ ((some (.ref P), .ow []) :: (saved σ ρ1 vs ++ τ))) := by
    refine (s0.wipeS vs).perm ?_
    refine List.Perm.trans ?_ List.perm_middle.symm
    refine List.perm_middle.trans (.cons _ ?_)
    rw [← List.append_assoc, ← List.append_assoc]
    exact List.perm_append_comm.append_right τ
  refine ⟨fun i n H => n = ds.length - i ∧ i ≤ ds.length ∧ ∃ F ρ acc, Sta X.K F H (wipe σ vs) ρ (π ++ ((some (.ref P), .ow acc) :: (saved σ ρ1 vs ++ τ))) ∧
    Good ((lcL vs put t el (ds.drop i) acc ρ).bind fun acc ρ2 => (R.ok (C.ow acc) (restR ρ1 vs ρ2) : R C)) (okP X.K σ τ Q) (erP X.K W σ τ), ⟨_, rfl, Nat.zero_le _, F1, _, [], s2, q⟩, ?_⟩
  rintro i n H ⟨rfl, hi, F, ρ, acc, s, q⟩
  by_cases hlt : i < ds.length
  · have e : ds[i]? = some ds[i] := List.getElem?_eq_getElem hlt
    obtain ⟨go, yl⟩ := ok.step i ds[i] F H _ ρ _ s e
    refine .inr ⟨go, fun H' => ∃ F ρ acc, Sta X.K F H' (wipe σ vs) ρ (π ++ ((some (.ref P), .ow acc) :: (saved σ ρ1 vs ++ τ))) ∧
      Good ((lcL vs put t el (ds.drop (i + 1)) acc ρ).bind fun acc ρ2 => (R.ok (C.ow acc) (restR ρ1 vs ρ2) : R C)) (okP X.K σ τ Q) (erP X.K W σ τ), fun H' h => ⟨_, by omega, rfl, hlt, h⟩, fun x H' y => ?_⟩
    obtain ⟨F2, s2⟩ := yl x H' y
    rw [List.drop_eq_getElem_cons hlt] at q
    unfold lcL at q
    split at q
    · exact q.elim
    · rename_i ρa hp
      refine ⟨F2, ρ, _, _, ρa, by simp, s2, hp, fun σ3 F3 H3 kp s3 => ⟨?_, F3, ρa, _, s3, ?_⟩⟩
      · have h1 := wipe_keeps (vs := vs) (σ := wipe σ vs) (σ' := σ3) kp.1 (fun j hj => kp.2 j fun m => hj (hsub j m))
        rw [h1]
        exact wipe_keeps (vs := vs) (wipe_length _ _) fun j hj => wipe_out hj
      · have hw : wipe σ3 vs = wipe σ vs := by
          have h1 := wipe_keeps (vs := vs) (σ := wipe σ vs) (σ' := σ3) kp.1 (fun j hj => kp.2 j fun m => hj (hsub j m))
          rw [h1]
          exact wipe_keeps (vs := vs) (wipe_length _ _) fun j hj => wipe_out hj
        split at q
        · rename_i ρb ht
          rw [ht]
          intro F4 H4 s4
          rw [if_pos rfl]
          split at q
          · rename_i c ρc hc
            refine ⟨F4, ρb, _, s4, ?_⟩
            rw [hc]
            intro y F5 H5 nc s5
            split at q
            · rename_i hsm
              -- the new list grows
              have s6 : Sta X.K F5 H5 (wipe σ vs) (wipeR ρc vs) ((some y, c) :: (π ++ ((some (.ref P), .ow acc) :: (saved σ ρ1 vs ++ τ)))) := by
                have := s5.wipeT vs
                rw [hw] at this
                exact this
              have s7 : Sta X.K F5 H5 (wipe σ vs) (wipeR ρc vs) ((some (.ref P), .ow acc) :: ([(some y, c)] ++ (π ++ (saved σ ρ1 vs ++ τ)))) := s6.perm (by
                refine (List.Perm.cons _ List.perm_middle).trans (.swap _ _ _))
              obtain ⟨a, accV, Oa, ea, hacc, rca⟩ := s7.owOf
              cases ea
              refine ⟨accV, hacc, ?_, F5, wipeR ρc vs, acc ++ [c], ?_, q⟩
              · rw [rca.len, sizeLine_eq]
                have := small_le hsm
                omega
              · have s8 : Sta X.K F5 (upd H5 P (.lst (accV ++ [y]))) (wipe σ vs) (wipeR ρc vs) ((some (.ref P), .ow (acc ++ [c])) :: (π ++ (saved σ ρ1 vs ++ τ))) := s7.on fun l al => by
                  have al2 : All X.K F5 H5 ((some (.ref P), .ow acc) :: ([(some y, c)] ++ ((π ++ (saved σ ρ1 vs ++ τ)) ++ l))) := by
                    rw [← List.append_assoc [(some y, c)]]
                    exact al
                  refine All.write al2 fun ws O O1 hws rcs rp => ?_
                  rw [hacc] at hws
                  cases hws
                  cases rp with
                  | no r => exact absurd rfl nc
                  | cons r r2 =>
                    cases r2
                    refine ⟨O ++ _, RepCs.snoc rcs r, ?_⟩
                    simp
                exact s8.perm List.perm_middle.symm
            · exact q.elim
          · exact q.elim
        · rename_i ρb ht
          rw [ht]
          intro F4 H4 s4
          rw [if_neg Bool.false_ne_true]
          refine ⟨F4, wipeR ρb vs, acc, ?_, q⟩
          have := s4.wipeT vs
          rw [hw] at this
          exact this
        · exact q.elim
  · have e : i = ds.length := by omega
    subst e
    rw [List.drop_length] at q
    refine .inl ⟨ok.stop F H _ ρ _ s, ?_⟩
    refine q (.ref P) F H (by simp) ?_
    have s3 : Sta X.K F H (wipe σ vs) ρ (saved σ ρ1 vs ++ ((some (.ref P), .ow acc) :: τ)) := (s.dropL).perm List.perm_middle.symm
    exact s3.rest
theorem dts_nil : PTs X [] (bOf X.K W bYes) := ⟨fun pins s σ H Q I ⟨F, ρ, τ, st, g⟩ => pts_nil.run pins s σ H Q I (g F H st)⟩
theorem dts_one {c : Expr} (h : PT X c (bOf X.K W t)) : PTs X [c] (bOf X.K W t) := pts_one h
def subB (l vs : List Nat) : Bool := l.all fun j => vs.contains j
theorem subB_ok {l vs : List Nat} (h : subB l vs = true) : ∀ j ∈ l, j ∈ vs := fun j m => by
  have := List.all_eq_true.mp h j m
  simpa using this
theorem d_lc (own : List (Str × Nat)) (hN : X.N.Nodup) (hi : PI X tg iter (iOf X.K W mi)) (ok : BlkOk X.N X.env.scope scope own)
    (hg : ∀ (s : Shared) (H : Hp) (C : Addr) (cl : List (Str × Addr)) (fp : List Addr), PG (X.blk s H scope (compEnvC scope cl C X.env) fp) tg (gOf X.K l put))
    (ht : ∀ (s : Shared) (H : Hp) (C : Addr) (cl : List (Str × Addr)) (fp : List Addr), PTs (X.blk s H scope (compEnvC scope cl C X.env) fp) ifs (bOf X.K noW t))
    (he : ∀ (s : Shared) (H : Hp) (C : Addr) (cl : List (Str × Addr)) (fp : List Addr), PE (X.blk s H scope (compEnvC scope cl C X.env) fp) elt (tOf X.K noW el))
    (hc : X.calm = true := by rfl) (hsub : subB l (own.map (·.2)) = true := by rfl) (hs : ∀ x, foldedSetIterable iter X.env x = pure x := by intro _; rfl) :
    PE X (.ListComp elt [⟨tg, iter, ifs, 0⟩] scope pos) (tOf X.K W (eLc (own.map (·.2)) mi put t el)) :=
  (pe_lc hc hN hi ok hg ht he hs).imp fun _ _ _ h => lc_ok (subB_ok hsub) h
theorem ds_setLc (i : Nat) {y : Str} {py spos : Pos} (own : List (Str × Nat)) (hN : X.N.Nodup) (hi : PI X tg iter (iOf X.K W mi)) (ok : BlkOk X.N X.env.scope scope own)
    (hg : ∀ (s : Shared) (H : Hp) (C : Addr) (cl : List (Str × Addr)) (fp : List Addr), PG (X.blk s H scope (compEnvC scope cl C X.env) fp) tg (gOf X.K l put))
    (ht : ∀ (s : Shared) (H : Hp) (C : Addr) (cl : List (Str × Addr)) (fp : List Addr), PTs (X.blk s H scope (compEnvC scope cl C X.env) fp) ifs (bOf X.K noW t))
    (he : ∀ (s : Shared) (H : Hp) (C : Addr) (cl : List (Str × Addr)) (fp : List Addr), PE (X.blk s H scope (compEnvC scope cl C X.env) fp) elt (tOf X.K noW el))
    (hc : X.calm = true := by rfl) (hy : X.N[i]? = some y := by rfl) (hyl : X.env.scope.names.lookup y = some .local := by rfl)
    (hsw : swapsWith (.ListComp elt [⟨tg, iter, ifs, 0⟩] scope pos) (some (.Name y py)) spos.line X.env = pure true := by exact sw_true rfl rfl rfl (by decide +kernel))
    (hsub : subB l (own.map (·.2)) = true := by rfl) (hs : ∀ x, foldedSetIterable iter X.env x = pure x := by intro _; rfl) :
    PS X (.Assign [.Name y py] (.ListComp elt [⟨tg, iter, ifs, 0⟩] scope pos) spos) (sOf X.K W (sSet i (eLc (own.map (·.2)) mi put t el))) :=
  (ps_setLc hc hN hy hyl hsw hi ok hg ht he hs).imp fun D σ H ⟨F, ρ, τ, s, g⟩ =>
    lc_ok (W := W) (subB_ok hsub) (runC s ((GoodS.thn g).imp (fun c ρ1 q v F1 H1 nc s1 => by
      split at q
      · rename_i hl
        exact q _ F1 H1 (s1.put (by rw [s1.1]; exact hl))
      · exact q.elim) fun _ _ q => q))
end

/-! ### lists changed -/
def isOw (c : Option C) : Bool := match c with
  | some (.ow _) => true
  | _ => false
/-- the name's list by what f makes of it (after an argument's value) -/
def sOw (i : Nat) (m : M C) (f : List C → C → Option (List C)) : SM := fun ρ => if isOw ρ[i]? then (m ρ).thn fun c ρ => match ρ[i]? with
  | some (.ow cs) => match f cs c with
    | some cs' => .nx (ρ.set i (.ow cs'))
    | none => .st
  | _ => .st
  else .st
def appF (cs : List C) (c : C) : Option (List C) := if small cs.length then some (cs ++ [c]) else none
section
variable {X : Cx} {W : WX} {e : Expr} {pos apos cpos p : Pos} {m : M C}
theorem Sta.ow {K : PySem.W.Frag} {F : Addr → Prop} {H : Hp} {σ : L2.St} {ρ : Rho} {τ : List Pr} {i : Nat} (s : Sta K F H σ ρ τ) (h : isOw ρ[i]? = true) : ∃ a vs, σ[i]? = some (some (.ref a)) ∧ H a = some (.lst vs) := by
  cases e : ρ[i]? with
  | none => rw [e] at h; cases h
  | some c =>
    rw [e] at h
    cases c <;> simp only [isOw, Bool.false_eq_true] at h
    obtain ⟨v, ev, s1⟩ := s.get e (by simp)
    obtain ⟨a, vs, O, rfl, ha, _⟩ := s1.owOf
    exact ⟨a, vs, ev, ha⟩
/-- x.append(e) -/
theorem ds_app (i : Nat) {x : Str} (he : PE X e (tOf X.K W m)) (hN : X.N[i]? = some x := by rfl) (hv : Vis X.env.scope x := by first | exact Or.inl rfl | exact Or.inr (Or.inl rfl) | exact Or.inr (Or.inr rfl)) (hd : (x == ("__debug__" : Str)) = false := by decide)
    (hcd : (x == ("__classdict__" : Str)) = false := by decide) (hs : swapsWith (.Call (.Attribute (.Name x p) "append" apos) [e] [] cpos) none pos.line X.env = pure false := by rfl)
    (hbase : attributeBase (.Name x p) "append" X.env (eval (.Name x p) X.env) = eval (.Name x p) X.env := by rfl)
    (hfew : ((backTo cpos (starEach [e] X.env)).all (fun x => !x.1) && (backToKw cpos (keywordEach [] X.env)).all (fun x => x.1.isSome) && decide ([e].length + ([] : List Keyword).length + (if ([] : List Keyword).isEmpty then 0 else 1) < 30)) = true := by rfl)
    (hline : (apos.endLine == cpos.line) = true := by rfl) (hst : starEach [e] X.env = (false, eval e X.env) :: starEach [] X.env := by rfl) (hplain : (backTo cpos (starEach [] X.env)).any (·.1) = false := by rfl) :
    PS X (.Expr (.Call (.Attribute (.Name x p) "append" apos) [e] [] cpos) pos) (sOf X.K W (sOw i m appF)) :=
  (ps_expr (pe_bm PySem.F.plainAttrs_list PySem.F.slot_list_append PySem.F.type_list_append mt_append (pe_var hN hv hd hcd) (pa_cons he pa_nil hst) hbase hfew hline hst hplain) hs).imp fun D σ H ⟨F, ρ, τ, s, g⟩ => by
    unfold sOw at g
    split at g
    · rename_i ho
      obtain ⟨a, vs, ev, ha⟩ := s.ow ho
      refine ⟨.ref a, ev, .inl ⟨rfl, vs, .of ha⟩, runC s ((GoodS.thn g).imp (fun c ρ1 q y F1 H1 nc s1 => ?_) fun _ _ q => q)⟩
      split at q
      · rename_i cs ec
        split at q
        · rename_i cs' hf
          obtain ⟨v', ev', s2⟩ := s1.get ec (by simp)
          rw [ev] at ev'
          cases ev'
          obtain ⟨a', ws, O, e1, hw, rc⟩ := s2.owOf
          cases e1
          unfold appF at hf
          split at hf <;> cases hf
          rename_i hsm
          refine ⟨a, ws, y, rfl, rfl, hw, ?_, ?_⟩
          · rw [rc.len, sizeLine_eq]
            have := small_le hsm
            omega
          · have s3 : Sta X.K F1 (upd H1 a (.lst (ws ++ [y]))) σ (ρ1.set i .no) ((some (.ref a), .ow (cs ++ [c])) :: τ) := s2.on fun l al => by
              refine All.write (qs := [(some y, c)]) al fun ws' O O1 hws rcs rp => ?_
              rw [hw] at hws
              cases hws
              cases rp with
              | no r => exact absurd rfl nc
              | cons r r2 =>
                cases r2
                exact ⟨_, rcs.snoc r, by simp⟩
            have s4 := s3.back ev
            rw [List.set_set] at s4
            exact q σ F1 _ s4
        · exact q.elim
      · exact q.elim
    · exact g.elim
/-- x.clear() -/
def sClr (i : Nat) : SM := fun ρ => match ρ[i]? with
  | some (.ow _) => .nx (ρ.set i (.ow []))
  | _ => .st
theorem ds_clr (i : Nat) {x : Str} (hN : X.N[i]? = some x := by rfl) (hv : Vis X.env.scope x := by first | exact Or.inl rfl | exact Or.inr (Or.inl rfl) | exact Or.inr (Or.inr rfl)) (hd : (x == ("__debug__" : Str)) = false := by decide)
    (hcd : (x == ("__classdict__" : Str)) = false := by decide) (hs : swapsWith (.Call (.Attribute (.Name x p) "clear" apos) [] [] cpos) none pos.line X.env = pure false := by rfl)
    (hbase : attributeBase (.Name x p) "clear" X.env (eval (.Name x p) X.env) = eval (.Name x p) X.env := by rfl) (hline : (apos.endLine == cpos.line) = true := by rfl) :
    PS X (.Expr (.Call (.Attribute (.Name x p) "clear" apos) [] [] cpos) pos) (sOf X.K W (sClr i)) :=
  (ps_expr (pe_bm0 PySem.F.plainAttrs_list PySem.F.slot_list_clear PySem.F.type_list_clear mt_clear (pe_var hN hv hd hcd) hbase hline) hs).imp fun D σ H ⟨F, ρ, τ, s, g⟩ => by
    unfold sClr at g
    split at g
    · rename_i cs ec
      obtain ⟨v, ev, s2⟩ := s.get ec (by simp)
      obtain ⟨a, ws, O, rfl, hw, rc⟩ := s2.owOf
      refine ⟨.ref a, ev, .inl ⟨rfl, ws, .of hw⟩, a, ws, rfl, rfl, hw, ?_⟩
      have s3 : Sta X.K F (upd H a (.lst [])) σ (ρ.set i .no) ((some (.ref a), .ow []) :: τ) := s2.on fun l al => by
        refine All.write (qs := []) al fun ws' O O1 hws rcs rp => ?_
        exact ⟨[], .nil, by simp⟩
      have s4 := s3.back ev
      rw [List.set_set] at s4
      exact g σ F _ s4
    · exact g.elim
/-- x.pop() -/
def ePop (i : Nat) : M C := fun ρ => match ρ[i]? with
  | some (.ow cs) => match cs[cs.length - 1]? with
    | some (.fz d) => .ok (.fz d) (ρ.set i (.ow cs.dropLast))
    | _ => .st
  | _ => .st
theorem RepCs.take {K : PySem.W.Frag} {F : Addr → Prop} {H : Hp} : ∀ {vs : List V} {cs : List C} {O : List Addr} (n : Nat), RepCs K F H vs cs O → ∃ O', RepCs K F H (vs.take n) (cs.take n) O' ∧ O'.Sublist O
  | _, _, _, 0, _ => ⟨[], by simpa using RepCs.nil, by simp⟩
  | _, _, _, n + 1, .nil => ⟨[], by simpa using RepCs.nil, by simp⟩
  | _, _, _, n + 1, .cons r rs => by
    obtain ⟨O', q, h⟩ := rs.take n
    exact ⟨_, by simpa using RepCs.cons r q, (List.Sublist.refl _).append h⟩
theorem d_pop (i : Nat) {x : Str} (hN : X.N[i]? = some x := by rfl) (hv : Vis X.env.scope x := by first | exact Or.inl rfl | exact Or.inr (Or.inl rfl) | exact Or.inr (Or.inr rfl)) (hd : (x == ("__debug__" : Str)) = false := by decide)
    (hcd : (x == ("__classdict__" : Str)) = false := by decide)
    (hbase : attributeBase (.Name x p) "pop" X.env (eval (.Name x p) X.env) = eval (.Name x p) X.env := by rfl) (hline : (apos.endLine == cpos.line) = true := by rfl) :
    PE X (.Call (.Attribute (.Name x p) "pop" apos) [] [] cpos) (tOf X.K W (ePop i)) :=
  (pe_bm0 PySem.F.plainAttrs_list PySem.F.slot_list_pop PySem.F.type_list_pop mt_pop (pe_var hN hv hd hcd) hbase hline).imp fun σ H Q ⟨F, ρ, τ, s, g⟩ => by
    unfold ePop at g
    split at g
    · rename_i cs ec
      split at g
      · rename_i d hl
        obtain ⟨v, ev, s2⟩ := s.get ec (by simp)
        obtain ⟨a, ws, O, rfl, hw, rc⟩ := s2.owOf
        obtain ⟨y, O', ey, ry⟩ := rc.get hl
        cases ry with
        | fz ry =>
          refine ⟨.ref a, ev, .inl ⟨rfl, ws, .of hw⟩, a, ws, y, rfl, rfl, hw, by rw [rc.len]; exact ey, ?_⟩
          have s2' := (s2.push ry).swap
          have s3 : Sta X.K F (upd H a (.lst ws.dropLast)) σ (ρ.set i .no) ((some (.ref a), .ow cs.dropLast) :: (some y, .fz d) :: τ) := s2'.on fun l al => by
            refine All.write (qs := []) al fun ws' O O1 hws rcs rp => ?_
            rw [hw] at hws
            cases hws
            cases rp
            obtain ⟨O2, q2, h2⟩ := rcs.take (ws.length - 1)
            refine ⟨O2, ?_, by simpa using h2⟩
            rw [List.dropLast_eq_take, List.dropLast_eq_take, ← rcs.len]
            exact q2
          have s4 := s3.back ev
          rw [List.set_set] at s4
          exact g y F _ (by simp) s4
      · exact g.elim
    · exact g.elim
/-- x[k] = e -/
def setF (j : Int) (cs : List C) (c : C) : Option (List C) := (ixN cs.length j).map fun k => cs.set k (.fz (fzD c))
def sSetIx (i : Nat) (mk me : M C) : SM := fun ρ => (me ρ).thn fun c ρ => if isOw ρ[i]? then (mk ρ).thn fun d ρ => match ρ[i]?, fzD d with
  | some (.ow cs), .int j => match setF j cs c with
    | some cs' => .nx (ρ.set i (.ow cs'))
    | none => .st
  | _, _ => .st
  else .st
theorem RepCs.set {K : PySem.W.Frag} {F : Addr → Prop} {H : Hp} {v : V} {d : D} (r : Rep K F H v d) : ∀ {vs : List V} {cs : List C} {O : List Addr} (n : Nat), RepCs K F H vs cs O → ∃ O', RepCs K F H (vs.set n v) (cs.set n (.fz d)) O' ∧ O'.Sublist O
  | _, _, _, _, .nil => ⟨[], by simpa using RepCs.nil, by simp⟩
  | _, _, _, 0, .cons _ rs => ⟨_, by simpa using RepCs.cons (.fz r) rs, by simp⟩
  | _, _, _, n + 1, .cons r' rs => by
    obtain ⟨O', q, h⟩ := RepCs.set r n rs
    exact ⟨_, by simpa using RepCs.cons r' q, (List.Sublist.refl _).append h⟩
theorem ds_setIx (i : Nat) {x : Str} {k : Expr} {mk : M C} (hk : PE X k (tOf X.K W mk)) (he : PE X e (tOf X.K W m)) (hN : X.N[i]? = some x := by rfl) (hv : Vis X.env.scope x := by first | exact Or.inl rfl | exact Or.inr (Or.inl rfl) | exact Or.inr (Or.inr rfl)) (hd : (x == ("__debug__" : Str)) = false := by decide)
    (hcd : (x == ("__classdict__" : Str)) = false := by decide)
    (hs : swapsWithSole [.Subscript (.Name x p) k apos] e pos.line X.env = pure false := by rfl) (hw : swappedStores [.Subscript (.Name x p) k apos] e X.env = pure none := by rfl)
    (h1 : (assignEach [.Subscript (.Name x p) k apos] X.env).map (·.2) = [assign (.Subscript (.Name x p) k apos) X.env] := by rfl)
    (ha : ∀ v, assign (.Subscript (.Name x p) k apos) X.env v = (do let ov ← holding [v] (eval (.Name x p) X.env); let iv ← holding [v, ov] (eval k X.env); standAt apos; holding [v, ov, iv] (setItem ov iv v); release [v, ov, iv] []) := by intro _; rfl) :
    PS X (.Assign [.Subscript (.Name x p) k apos] e pos) (sOf X.K W (sSetIx i mk m)) :=
  (ps_asg he (pg_sub (pe_var hN hv hd hcd) hk set_list ha) hs hw h1).imp fun D σ H ⟨F, ρ, τ, s, g⟩ => by
    refine run1 s ((GoodS.thn g).imp (fun c ρ1 q v F1 H1 s1 => ?_) fun _ _ q => q)
    split at q
    · rename_i ho
      obtain ⟨a, vs, ev, hav⟩ := s1.ow ho
      refine ⟨.ref a, ev, run1 s1 ((GoodS.thn q).imp (fun d ρ2 q w F2 H2 s2 => ?_) fun _ _ q => q.drop)⟩
      split at q
      · rename_i cs j ec ej
        split at q
        · rename_i cs' hf
          rw [ej] at s2
          unfold setF at hf
          rw [Option.map_eq_some_iff] at hf
          obtain ⟨kk, hkk, rfl⟩ := hf
          obtain ⟨v', ev', s3⟩ := s2.get ec (by simp)
          rw [ev] at ev'
          cases ev'
          obtain ⟨a', ws, O, e1, hw', rc⟩ := s3.owOf
          cases e1
          refine ⟨a, ws, j, kk, rfl, s2.fzOf.intv, hw', by rw [rc.len]; exact hkk, ?_⟩
          have s4 : Sta X.K F2 H2 σ (ρ2.set i .no) ((some (.ref a), .ow cs) :: (some v, .fz (fzD c)) :: τ) := s3.swap.drop
          have rv : Rep X.K F2 H2 v (fzD c) := s4.drop.fzOf
          have s5 : Sta X.K F2 (upd H2 a (.lst (ws.set kk v))) σ (ρ2.set i .no) ((some (.ref a), .ow (cs.set kk (.fz (fzD c)))) :: τ) := s4.on fun l al => by
            refine All.write (qs := [(some v, .fz (fzD c))]) al fun ws' O O1 hws rcs rp => ?_
            rw [hw'] at hws
            cases hws
            obtain ⟨O2, q2, h2⟩ := RepCs.set rv kk rcs
            exact ⟨O2, q2, h2.trans (by simp)⟩
          have s6 := s5.back ev
          rw [List.set_set] at s6
          exact q σ F2 _ s6
        · exact q.elim
      · exact q.elim
    · exact q.elim
/-- xs.index(y) -/
def idxD : D → D → Option D
  | .lst ds, y => (flatD y).bind fun v => (flatDs ds).bind fun ws => (ws.findIdx? fun z => eqV z v).map fun j => .int (j : Nat)
  | _, _ => none
def eIdx (m my : M C) : M C := fun ρ => (m ρ).bind fun c ρ => match fzD c with
  | .lst ds => (my ρ).bind fun d ρ => match idxD (.lst ds) (fzD d) with
    | some z => .ok (.fz z) ρ
    | none => .st
  | _ => .st
theorem d_idx {o : Expr} {mo : M C} (ho : PE X o (tOf X.K W mo)) (he : PE X e (tOf X.K W m)) (hbase : attributeBase o "index" X.env (eval o X.env) = eval o X.env := by rfl)
    (hfew : ((backTo cpos (starEach [e] X.env)).all (fun x => !x.1) && (backToKw cpos (keywordEach [] X.env)).all (fun x => x.1.isSome) && decide ([e].length + ([] : List Keyword).length + (if ([] : List Keyword).isEmpty then 0 else 1) < 30)) = true := by rfl)
    (hline : (apos.endLine == cpos.line) = true := by rfl) (hst : starEach [e] X.env = (false, eval e X.env) :: starEach [] X.env := by rfl) (hplain : (backTo cpos (starEach [] X.env)).any (·.1) = false := by rfl) :
    PE X (.Call (.Attribute o "index" apos) [e] [] cpos) (tOf X.K W (eIdx mo m)) :=
  (pe_bm PySem.F.plainAttrs_list PySem.F.slot_list_index PySem.F.type_list_index mt_index ho (pa_cons he pa_nil hst) hbase hfew hline hst hplain).imp fun σ H Q ⟨F, ρ, τ, s, g⟩ => by
    unfold eIdx at g
    rw [Good.bind] at g
    refine run1 s (g.imp (fun c ρ1 q v F1 H1 s1 => ?_) fun _ _ q => q)
    split at q
    · rename_i ds hds
      rw [hds] at s1
      rw [Good.bind] at q
      obtain ⟨a, vs, rfl, hla, _⟩ := s1.fzOf.lstv
      refine ⟨.inl ⟨rfl, vs, hla.seq⟩, run1 s1 (q.imp (fun d ρ2 q w F2 H2 s2 => ?_) fun _ _ q => q.drop)⟩
      split at q
      · rename_i z hz
        simp only [idxD, Option.bind_eq_some_iff, Option.map_eq_some_iff] at hz
        obtain ⟨y, hy, ws, hws, j, hj, rfl⟩ := hz
        obtain ⟨a', vs', e1, hla', rs⟩ := s2.drop.fzOf.lstv
        cases e1
        obtain ⟨rfl, f1⟩ := s2.fzOf.flat hy
        obtain ⟨rfl, f2⟩ := rs.flats hws
        obtain ⟨hlt, hj1, hj2⟩ := List.findIdx?_eq_some_iff_getElem.mp hj
        refine ⟨a, _, w, j, _, rfl, rfl, hla'.seq, f1, f2, List.getElem?_eq_getElem hlt, hj1, fun m' z' hm hz' => ?_, q _ F2 H2 (by simp) (s2.drop.drop.push (.int _))⟩
        obtain ⟨hm2, ez⟩ := List.getElem?_eq_some_iff.mp hz'
        rw [← ez]
        have := hj2 m' hm
        simpa using this
      · exact q.elim
    · exact q.elim
end
end Dn

/-! Den9: defs: what they are worth, calls, the end of a law. -/
namespace Dn
open PySem PySem.Spec PyProof.Rows L2

/-- a def's promise, kept wherever no text is being shown -/
structure FnG (P : Program) (w : World) (K : PySem.W.Frag) (mg : Str → Option Value) (base : Heap) (cx : CXT) (k : Nat) (f : Addr) (fd : FuncData) (ps : List Str) (sp : Sp) : Prop where
  ar : ∀ vs H Q E, sp vs H Q E → vs.length = ps.length
  go : ∀ (A : Around) (outer : List Env) (s : Shared) (H : Hp) (args : Args) (us : List Value) (vs : List V) (Q : VK) (E : XK), Room k A → A.guards = some [] → Env0 P w K mg base A outer s H →
    BindsTo s fd args (ps.zip us) → Vals vs us → sp vs H Q E → codeAny (model P w) A (.call (.ref f) args) (CR cx outer P w H s Q E) s
theorem FnG.mono {P : Program} {w : World} {K : PySem.W.Frag} {mg : Str → Option Value} {base : Heap} {cx : CXT} {j k : Nat} {f : Addr} {fd : FuncData} {ps : List Str} {sp : Sp} (G : FnG P w K mg base cx j f fd ps sp) (h : j ≤ k) : FnG P w K mg base cx k f fd ps sp :=
  ⟨G.ar, fun A outer s H args us vs Q E hr => G.go A outer s H args us vs Q E (hr.mono h)⟩
theorem FnG.weak {P : Program} {w : World} {K : PySem.W.Frag} {mg : Str → Option Value} {base : Heap} {cx : CXT} {k : Nat} {f : Addr} {fd : FuncData} {ps : List Str} {sp sp' : Sp} (G : FnG P w K mg base cx k f fd ps sp) (h : ∀ vs H Q E, sp' vs H Q E → sp vs H Q E) : FnG P w K mg base cx k f fd ps sp' :=
  ⟨fun vs H Q E z => G.ar vs H Q E (h _ _ _ _ z), fun A outer s H args us vs Q E hr hg he hb hv z => G.go A outer s H args us vs Q E hr hg he hb hv (h _ _ _ _ z)⟩

section
variable {X : Cx} {cx : CXT} {k : Nat} {f : Addr} {fd : FuncData} {ps : List Str} {sp : Sp} {x : Str} {p pos : Pos} {e : Expr} {es : List Expr} {t : TA}
/-- what the callee's end is to the caller -/
theorem back_of {pins : List (Addr × Obj)} {σ : L2.St} {H : Hp} {s : Shared} {Q : VK} {E : XK} (I : Inv X pins σ H s) (hx : ∀ u s', cx X.stack H s E u s' → X.xe u s') {r : Result} {s' : Shared} (h : CR cx X.stack X.prog X.w H s Q E r s') :
    match r with | .ok (.ret u) => EP X pins σ Q u s' | .ok _ => False | .error u => X.xe u s' := by
  match r, h with
  | .ok (.ret u), h => exact I.after h
  | .ok .next, h => exact h
  | .ok .brk, h => exact h
  | .ok .cont, h => exact h
  | .error u, h => exact hx u s' h
theorem enter_fn {pins : List (Addr × Obj)} {σ : L2.St} {H : Hp} {s : Shared} {Q : VK} {E : XK} {us : List Value} {vs : List V} (G : FnG X.prog X.w X.K X.mg X.base cx k f fd ps sp) (hr : Room k X.A) (hgd : X.A.guards = some []) (hb : Binds X.K fd ps [])
    (hx : ∀ u s', cx X.stack H s E u s' → X.xe u s') (I : Inv X pins σ H s) (r : Vals vs us) (z : sp vs H Q E) : wpAny (model X.prog X.w) X.A (call (.ref f) us) (EP X pins σ Q) X.xe s := by
  have hl : (us ++ []).length = ps.length := by rw [List.append_nil, ← r.length]; exact G.ar _ _ _ _ z
  have hB := hb s us I.kIn hl
  rw [List.append_nil] at hB
  refine wpAny_call (codeAny_mono (G.go X.A X.stack s H ⟨us, []⟩ us vs Q E hr hgd I.env0 hB r z) fun r s' hq => ?_)
  have h := back_of I hx hq
  cases r with
  | error u => exact h
  | ok fl =>
    cases fl with
    | ret u => exact h
    | next => exact h.elim
    | brk => exact h.elim
    | cont => exact h.elim
/-- a call's reading, the wish at the caller's slots -/
def tGo (sp : Sp) (E : L2.St → XK) (t : TA) : TE := fun σ H Q => t σ H fun vs H1 => sp vs H1 Q (E σ)
theorem pe_go {E : L2.St → XK} (G : FnG X.prog X.w X.K X.mg X.base cx k f fd ps sp) (hr : Room k X.A) (hgd : X.A.guards = some []) (hg : Gl X x) (hm : X.mg x = some (.ref f)) (hk : PySem.W.keepIn X.K (.ref f) = true) (hb : Binds X.K fd ps [])
    (hx : ∀ σ, PassesAt cx X σ (E σ)) (ha : PA X (e :: es) t) (hdb : (x == ("__debug__" : Str)) = false := by decide) (he : starEach (e :: es) X.env = (false, eval e X.env) :: starEach es X.env := by rfl)
    (hpl : (backTo pos (starEach es X.env)).any (·.1) = false := by rfl) : PE X (.Call (.Name x p) (e :: es) [] pos) (tGo sp E t) := ⟨fun pins s σ H Q I h =>
  wpAny_Call_Name_kw (ld_glob I hg hm (PySem.W.callWith_K (h₀ := X.base) I.ok.mod.kin hk (thn (ha.run pos pins s σ H _ I h) fun _ s1 ⟨_, _, I1, r, z⟩ =>
    ⟨I1.kIn, enter_fn G hr hgd hb (fun u s' c => hx σ pins _ s1 u s' I1 c) I1 r z⟩) he hpl) hdb)⟩
theorem pe_go0 {E : L2.St → XK} (G : FnG X.prog X.w X.K X.mg X.base cx k f fd ps sp) (hr : Room k X.A) (hgd : X.A.guards = some []) (hg : Gl X x) (hm : X.mg x = some (.ref f)) (hk : PySem.W.keepIn X.K (.ref f) = true) (hb : Binds X.K fd ps [])
    (hx : ∀ σ, PassesAt cx X σ (E σ)) (hdb : (x == ("__debug__" : Str)) = false := by decide) : PE X (.Call (.Name x p) [] [] pos) (tGo sp E tNil) := ⟨fun pins s σ H Q I h =>
  wpAny_Call_Name_kw (ld_glob I hg hm (PySem.W.callWith_K0 I.kIn hk (enter_fn (us := []) G hr hgd hb (fun u s' c => hx σ pins _ s u s' I c) I .nil h)) hdb)⟩
/-- how keywords bind: behind the positional arguments, in the parameters' order -/
def KwB (K : PySem.W.Frag) (fd : FuncData) (ps ks : List Str) : Prop := ∀ (s : Shared) (us ws : List Value), K.In s.heap → ws.length = ks.length → (us ++ ws).length = ps.length → BindsTo s fd ⟨us, ks.zip ws⟩ (ps.zip (us ++ ws))
theorem pe_goK {E : L2.St → XK} {ks : List Str} {kws : List Keyword} {tk : TA} (G : FnG X.prog X.w X.K X.mg X.base cx k f fd ps sp) (hr : Room k X.A) (hgd : X.A.guards = some []) (hg : Gl X x) (hm : X.mg x = some (.ref f)) (hk : PySem.W.keepIn X.K (.ref f) = true) (hb : KwB X.K fd ps ks)
    (hx : ∀ σ, PassesAt cx X σ (E σ)) (ha : PA X (e :: es) t) (hkw : PK X kws tk) (hlen : ∀ σ H Q, tk σ H Q → tk σ H fun ws H' => ws.length = ks.length ∧ Q ws H') (hall : (backToKw pos (keywordEach kws X.env)).all (·.1.isSome) = true := by rfl)
    (hks : (backToKw pos (keywordEach kws X.env)).filterMap (·.1) = ks := by rfl) (hdb : (x == ("__debug__" : Str)) = false := by decide) (he : starEach (e :: es) X.env = (false, eval e X.env) :: starEach es X.env := by rfl)
    (hpl : ((backTo pos (starEach (e :: es) X.env)).any (·.1) || (backToKw pos (keywordEach kws X.env)).any (·.1.isNone)) = false := by rfl) :
    PE X (.Call (.Name x p) (e :: es) kws pos) (fun σ H Q => t σ H fun vs H1 => tk σ H1 fun zs H2 => sp (vs ++ zs) H2 Q (E σ)) := ⟨fun pins s σ H Q I h => by
  refine wpAny_Call_Name_kw (ld_glob I hg hm (PySem.W.callWith_KW (h₀ := X.base) I.ok.mod.kin hk hall (thn (ha.run pos pins s σ H _ I h) fun us s1 ⟨vs, H1, I1, r, z⟩ => ?_) hpl he) hdb)
  refine thn (hkw.run pos pins s1 σ H1 _ I1 (hlen _ _ _ z)) fun ws s2 ⟨zs, H2, I2, rz, hz, z2⟩ => ⟨I2.kIn, ?_⟩
  rw [hks]
  have rr := r.append rz
  have hB := hb s2 us ws I2.kIn (by rw [← rz.length]; exact hz) (by rw [← rr.length]; exact G.ar _ _ _ _ z2)
  refine wpAny_call (codeAny_mono (G.go X.A X.stack s2 H2 ⟨us, ks.zip ws⟩ (us ++ ws) (vs ++ zs) Q (E σ) hr hgd I2.env0 hB rr z2) fun r s' hq => ?_)
  have h := back_of I2 (fun u s' c => hx σ pins _ s2 u s' I2 c) hq
  cases r with
  | error u => exact h
  | ok fl =>
    cases fl with
    | ret u => exact h
    | next => exact h.elim
    | brk => exact h.elim
    | cont => exact h.elim⟩
end

/-- a def by its body -/
theorem fn_body {cx : CXT} {P : Program} {w : World} {K : PySem.W.Frag} {mg : Str → Option Value} {base : Heap} {x qual : Str} {st : Stmt} {f : Addr} {fd : FuncData} {N ps : List Str} {k : Nat} {sp : Sp} (F : Fun K x qual st f fd) (S : FnScope N ps (defScope st))
    (ar : ∀ vs H Q E, sp vs H Q E → vs.length = ps.length)
    (body : ∀ (cdv : Value) (A : Around) (outer : List Env) (s : Shared) (H : Hp) (vs : List V) (Q : VK) (E : XK), Room k (A.deeper (envOfC qual (defScope st) s.heap.objs.size f cdv)) → (A.deeper (envOfC qual (defScope st) s.heap.objs.size f cdv)).guards = some [] → sp vs H Q E →
      ∃ t, PSs (cxOf cx P w K mg base N qual (defScope st) f cdv A outer s H E) (defBody st) t ∧ t { nx := fun _ H' => Q .non H', rt := Q } (L2.start N vs) H) : FnG P w K mg base cx (k + 1) f fd ps sp := by
  obtain ⟨oc, od, kV, doc, pm, an, cdv, ct, osl, rfl, lk, hcd⟩ := F.ex
  constructor
  · exact ar
  intro A outer s H args us vs Q E hr hgd e0 hb rv z
  have har := ar _ _ _ _ z
  have stay : ∀ b o, base.get? b = some o → s.heap.get? b = some o := fun b o q => (e0.bs b o q).1
  have hK : K.In s.heap := e0.mod.kin.keeps stay
  have hN : s.heap.NoLimit := e0.mod.nolimit.keeps stay
  have kinds : ∀ y ∈ ps.zip us, (defScope st).names.lookup y.1 = some .local ∨ ((defScope st).names.lookup y.1 = some .cell ∧ ((cellsFrom (s.heap.objs.size + 1) (defScope st).names []).lookup y.1).isSome = true) := by
    rintro ⟨n, v⟩ hy
    exact (S.par n (List.of_mem_zip hy).1).imp id fun q => ⟨q, PySem.W.cellsFrom_some _ _ _ (.inl q)⟩
  refine codeAny_call_function hr.depth (hK _ _ lk) rfl S.co S.gen rfl (PySem.W.codeRec_of hK hcd) (hb _ _ _ _ (wpAny_newFunctionEnv_cells S.kind kinds ?_))
  intro env he s1 inC
  subst he
  refine ⟨hN.keeps inC.toInCall.keep, codeAny_func ?_⟩
  obtain ⟨t, ht, hq⟩ := body cdv A outer s H vs Q E (hr.deeper _) (by show A.guards = some []; exact hgd) z
  have I0 : Inv (cxOf cx P w K mg base N qual (defScope st) f cdv A outer s H E) [] (L2.start N vs) H s1 := inv_start S hr.hd e0 har rv inC
  refine wpAny_mono (ht.run [] s1 (L2.start N vs) H _ I0 hq) ?_ (fun _ _ q => q)
  intro fl s' hs
  match fl, hs with
  | .ret u, ⟨v, σ', H', J, rv', q⟩ => exact ⟨v, H', J.os, J.bare, J.base, J.hok, rv', q⟩
  | .next, ⟨σ', H', J, q⟩ => exact ⟨.non, H', J.os, J.bare, J.base, J.hok, rfl, q⟩
  | .brk, ⟨_, _, _, q⟩ => exact q.elim
  | .cont, ⟨_, _, _, q⟩ => exact q.elim

/-! ### what a def is worth -/
/-- the promise of a def that is worth μ -/
def spF (K : PySem.W.Frag) (n : Nat) (μ : M C) : Sp := fun vs H Q E => vs.length = n ∧ ∃ F τ cs, vs.length = cs.length ∧ (∀ c ∈ cs, c ≠ .no) ∧ All K F H (tmps vs cs ++ τ) ∧
  Good (μ cs) (fun c _ => ∀ v F' H', c ≠ .no → All K F' H' ((some v, c) :: τ) → Q v H') (fun e _ => ∀ F' H' cls d, ErOk K F' H' e cls d → All K F' H' τ → E cls d H')
def runDef (N n : Nat) (m : SM) : M C := fun cs => match m (cs ++ List.replicate (N - n) .no) with
  | .nx _ => .ok (.fz .non) []
  | .rt c => .ok c []
  | .er e _ => .er e []
  | _ => .st
def eCall (μ : M C) (a : M (List C)) : M C := fun ρ => (a ρ).bind fun cs ρ => match μ cs with
  | .ok c _ => .ok c ρ
  | .er e _ => .er e ρ
  | .st => .st
section
variable {X : Cx} {W : WX} {cx : CXT} {k n : Nat} {f : Addr} {fd : FuncData} {ps : List Str} {μ : M C} {x : Str} {p pos : Pos} {e : Expr} {es : List Expr} {m : M (List C)}
theorem sp_of {σ : L2.St} {H : Hp} {Q : VK} {cs : List C} {vs : List V} {F : Addr → Prop} {ρ : Rho} {τ : List Pr} (hn : vs.length = n) (hl : vs.length = cs.length) (hc : ∀ c ∈ cs, c ≠ .no) (s : Sta X.K F H σ ρ (tmps vs cs ++ τ))
    (g : Good (match μ cs with | .ok c _ => (.ok c ρ : R C) | .er e _ => .er e ρ | .st => .st) (okP X.K σ τ Q) (erP X.K W σ τ)) : spF X.K n μ vs H Q (WE W σ) := by
  have al : All X.K F H (tmps vs cs ++ (τ ++ σ.zip ρ)) := by
    have := s.all
    rw [List.append_assoc] at this
    exact this
  refine ⟨hn, F, τ ++ σ.zip ρ, cs, hl, hc, al, ?_⟩
  cases hm : μ cs with
  | st => rw [hm] at g; exact g
  | er e ρ' => rw [hm] at g; exact fun F' H' cls d x a => g F' H' cls d x (.of s.1 a)
  | ok c ρ' => rw [hm] at g; exact fun v F' H' nc a => g v F' H' nc (.of s.1 a)
def lenIs (n : Nat) (a : M (List C)) : Prop := ∀ ρ cs ρ', a ρ = .ok cs ρ' → cs.length = n
theorem len_nil : lenIs 0 aNil := fun ρ cs ρ' h => by cases h; rfl
theorem len_cons {m : M C} {r : M (List C)} {n : Nat} (h : lenIs n r) : lenIs (n + 1) (aCons m r) := fun ρ cs ρ' e => by
  unfold aCons at e
  cases h1 : m ρ with
  | st => rw [h1] at e; cases e
  | er _ _ => rw [h1] at e; cases e
  | ok c ρ1 =>
    rw [h1] at e
    dsimp only [R.bind] at e
    cases h2 : r ρ1 with
    | st => rw [h2] at e; cases e
    | er _ _ => rw [h2] at e; cases e
    | ok cs2 ρ2 =>
      rw [h2] at e
      cases e
      exact congrArg Nat.succ (h _ _ _ h2)
theorem Good.len {m : M (List C)} {ρ : Rho} {ok : List C → Rho → Prop} {er : Er → Rho → Prop} (h : lenIs n m) (g : Good (m ρ) ok er) : Good (m ρ) (fun cs ρ' => cs.length = n ∧ ok cs ρ') er := by
  cases hm : m ρ with
  | st => rw [hm] at g; exact g
  | er _ _ => rw [hm] at g; exact g
  | ok cs ρ' => rw [hm] at g; exact ⟨h _ _ _ hm, g⟩
theorem d_call (G : FnG X.prog X.w X.K X.mg X.base cx k f fd ps (spF X.K n μ)) (hr : Room k X.A) (hgd : X.A.guards = some []) (hm : X.mg x = some (.ref f)) (hk : PySem.W.keepIn X.K (.ref f) = true) (hb : Binds X.K fd ps []) (hx : ∀ σ, PassesAt cx X σ (WE W σ))
    (ha : PA X (e :: es) (aOf X.K W m)) (hl : lenIs n m) (hg : Gl X x := by rfl) (hdb : (x == ("__debug__" : Str)) = false := by decide) (he : starEach (e :: es) X.env = (false, eval e X.env) :: starEach es X.env := by rfl)
    (hpl : (backTo pos (starEach es X.env)).any (·.1) = false := by rfl) : PE X (.Call (.Name x p) (e :: es) [] pos) (tOf X.K W (eCall μ m)) := (pe_go G hr hgd hg hm hk hb hx ha hdb he hpl).imp fun σ H Q ⟨F, ρ, τ, s, g⟩ => by
  unfold eCall at g
  rw [Good.bind] at g
  exact runA s ((Good.len hl g).imp (fun cs ρ1 q vs F1 H1 h1 h2 s1 => sp_of (by rw [h1]; exact q.1) h1 h2 s1 q.2) fun _ _ q => q)
theorem pass0S {σ : L2.St} {E : XK} : PassesAt CX0 X σ E := fun _ _ _ _ _ _ h => h.elim

theorem start_zip {N : List Str} {vs : List V} {cs : List C} (h : vs.length = cs.length) : (L2.start N vs).zip (cs ++ List.replicate (N.length - cs.length) .no) = tmps vs cs ++ (List.replicate (N.length - cs.length) ((none : Option V), C.no)) := by
  unfold L2.start tmps
  rw [List.zip_append (by rw [List.length_map, h]), h, List.zip_replicate, Nat.min_self]
theorem All.nos {K : PySem.W.Frag} {F : Addr → Prop} {H : Hp} : ∀ {n : Nat} {ps : List Pr}, All K F H ps → All K F H (ps ++ List.replicate n ((none : Option V), C.no))
  | 0, ps, a => by simpa using a
  | n + 1, ps, a => by
    rw [List.replicate_succ]
    have := (All.nos (n := n) a).nothing (x := none)
    exact this.perm List.perm_middle.symm
theorem body_of {K : PySem.W.Frag} {N : List Str} {vs : List V} {H : Hp} {Q : VK} {E : XK} {sm : SM} {W : WX} (hW : ∀ cls d σ H, E cls d H → W cls d σ H) (hn : n ≤ N.length) (h : spF K n (runDef N.length n sm) vs H Q E) :
    sOf K W sm { nx := fun _ H' => Q .non H', rt := Q } (L2.start N vs) H := by
  obtain ⟨h1, F, τ, cs, h2, h3, al, g⟩ := h
  have e0 : N.length - cs.length = N.length - n := by omega
  refine ⟨F, cs ++ List.replicate (N.length - n) .no, τ, ⟨?_, ?_⟩, ?_⟩
  · unfold L2.start
    simp
    omega
  · rw [← e0, start_zip h2]
    refine (All.nos (n := N.length - cs.length) al).perm ?_
    rw [List.append_assoc, List.append_assoc]
    exact (List.perm_append_comm).append_left _
  · unfold runDef at g
    cases hm : sm (cs ++ List.replicate (N.length - n) .no) with
    | st => rw [hm] at g; exact g
    | bk _ => rw [hm] at g; exact (show False from g).elim
    | ct _ => rw [hm] at g; exact (show False from g).elim
    | er e ρ =>
      rw [hm] at g
      exact fun σ F' H' cls d x s => hW _ _ _ _ (g F' H' cls d x s.2.dropL)
    | nx ρ =>
      rw [hm] at g
      exact fun σ F' H' s => g .non F' H' (by simp) (s.2.dropL.push .non)
    | rt c =>
      rw [hm] at g
      exact fun v F' H' nc a => g v F' H' nc a
end
def noEr (μ : M C) : M C := fun cs => match μ cs with
  | .ok c _ => .ok c []
  | _ => .st
/-- THE RULE for a def that lets nothing out -/
theorem fn0 {P : Program} {w : World} {K : PySem.W.Frag} {mg : Str → Option Value} {base : Heap} {x qual : Str} {st : Stmt} {f : Addr} {fd : FuncData} {N ps : List Str} {k : Nat} (nn n : Nat) {sm : SM} (F : Fun K x qual st f fd) (S : FnScope N ps (defScope st))
    (hN : N.length = nn) (hp : ps.length = n) (hn : n ≤ nn)
    (body : ∀ (cdv : Value) (A : Around) (outer : List Env) (s : Shared) (H : Hp) (E : XK), Room k (A.deeper (envOfC qual (defScope st) s.heap.objs.size f cdv)) → (A.deeper (envOfC qual (defScope st) s.heap.objs.size f cdv)).guards = some [] →
      PSs (cxOf CX0 P w K mg base N qual (defScope st) f cdv A outer s H E).nox (defBody st) (sOf K noW sm)) : FnG P w K mg base CX0 (k + 1) f fd ps (spF K n (noEr (runDef nn n sm))) := by
  subst hN hp
  exact fn_body F S (fun vs H Q E h => h.1) fun cdv A outer s H vs Q E hr hgd z => by
    refine ⟨_, (body cdv A outer s H E hr hgd).nox, ?_⟩
    obtain ⟨h1, F, τ, cs, h2, h3, al, g⟩ := z
    refine body_of (E := fun _ _ _ => False) (fun _ _ _ _ z => z) hn ⟨h1, F, τ, cs, h2, h3, al, ?_⟩
    unfold noEr at g
    cases hm : runDef N.length ps.length sm cs with
    | st => rw [hm] at g; exact g
    | er e ρ => rw [hm] at g; exact (show False from g).elim
    | ok c ρ => rw [hm] at g; exact g
/-- .. and of one that may raise -/
theorem fnX {P : Program} {w : World} {K : PySem.W.Frag} {mg : Str → Option Value} {base : Heap} {x qual : Str} {st : Stmt} {f : Addr} {fd : FuncData} {N ps : List Str} {k : Nat} (nn n : Nat) {sm : SM} (F : Fun K x qual st f fd) (S : FnScope N ps (defScope st))
    (hN : N.length = nn) (hp : ps.length = n) (hn : n ≤ nn)
    (body : ∀ (cdv : Value) (A : Around) (outer : List Env) (s : Shared) (H : Hp) (E : XK), Room k (A.deeper (envOfC qual (defScope st) s.heap.objs.size f cdv)) → (A.deeper (envOfC qual (defScope st) s.heap.objs.size f cdv)).guards = some [] →
      PSs (cxOf (L2.CX P w) P w K mg base N qual (defScope st) f cdv A outer s H E) (defBody st) (sOf K (fun cls d _ H => E cls d H) sm)) : FnG P w K mg base (L2.CX P w) (k + 1) f fd ps (spF K n (runDef nn n sm)) := by
  subst hN hp
  exact fn_body F S (fun vs H Q E h => h.1) fun cdv A outer s H vs Q E hr hgd z => ⟨_, body cdv A outer s H E hr hgd, body_of (fun _ _ _ _ z => z) hn z⟩

/-! ### the end of a law -/
theorem law_ends {P : Program} {w : World} {K : PySem.W.Frag} {mg mb : Str → Option Value} {cx : CXT} {k : Nat} {fa a : Addr} {fd : FuncData} {x : Str} {sp : Sp} {s₁ : Shared} {vs : List Value} {ns : List Int}
    (hK : K.In s₁.heap) (hns : s₁.heap.Ns mainGlobals mg) (hb : s₁.heap.Ns builtinsNs mb) (hbb : ∀ x : Str, x ≠ "__name__" → mb x = bootBuiltins x) (hlim : s₁.heap.NoLimit) (hg : s₁.gens = #[])
    (ha : s₁.heap.get? a = some { cls := .type "list", data := .seq vs.toArray }) (hi : IntsAre vs ns) (hl : ns.length ≤ sizeLine) (hr : Room k callerA)
    (G : ∀ base : Heap, K.In base → base.Ns mainGlobals mg → FnG P w K mg base cx k fa fd [x] sp) (hbind : ∀ (s : Shared) (u : Value), BindsTo s fd ⟨[u], []⟩ [(x, u)])
    (hsp : ∀ H : Hp, Only H → SqL K H a (ns.map V.int) → sp [.ref a] H (fun v _ => v = .bl true) fun _ _ _ => False)
    (hcx : ∀ H e s', cx [] H s₁ (fun _ _ _ => False) e s' → False) :
    codeAny (model P w) callerA (.call (.ref fa) ⟨[.ref a], []⟩) (fun r s' => r = .ok (.ret (.bool true)) ∧ OldK s₁.heap s'.heap ∧ s'.os = s₁.os ∧ AllBare s'.gens) s₁ := by
  have rv := vals_ints hi
  -- whatever is tracked at the entry is the script
  have main : ∀ T : Hp, Only T → SqL K T a (ns.map V.int) → HOk P w T s₁.heap → (∀ b u, T b = some u → b = a ∧ K.lookup a = none) →
      codeAny (model P w) callerA (.call (.ref fa) ⟨[.ref a], []⟩) (fun r s' => r = .ok (.ret (.bool true)) ∧ OldK s₁.heap s'.heap ∧ s'.os = s₁.os ∧ AllBare s'.gens) s₁ := by
    intro T only seq ok tr
    have out : ∀ {b o}, s₁.heap.get? b = some o → (b ≠ a ∨ K.lookup a ≠ none) → (hidT s₁.heap T).get? b = some o := by
      intro b o q hne
      refine hidT_get q ?_
      cases z : T b with
      | none => rfl
      | some u =>
        obtain ⟨z1, z2⟩ := tr b u z
        exact (hne.elim (fun n => n z1) fun n => n z2).elim
    have names : ∀ {b m}, s₁.heap.Ns b m → (hidT s₁.heap T).Ns b m := by
      rintro b m ⟨o, es, ep, q, d, more⟩
      refine ⟨o, es, ep, out q (.inl ?_), d, more⟩
      rintro rfl
      rw [ha] at q
      cases q
      cases d
    have inB : K.In (hidT s₁.heap T) := fun b o q => out (hK b o q) (by
      by_cases z : b = a
      · subst z
        exact .inr (by rw [q]; simp)
      · exact .inl z)
    have modB : Mod K mg (hidT s₁.heap T) := by
      obtain ⟨mc, l1, l2⟩ := hlim
      exact ⟨inB, names hns, ⟨mb, names hb, hbb⟩, mc, names l1, l2⟩
    have entry : Env0 P w K mg (hidT s₁.heap T) callerA [] s₁ T :=
      { frames := rfl, mod := modB, bs := fun b o q => of_hidT q, bsz := Nat.le_of_eq (hidT_size _ _), funs := trivial, frf := (by intro b z; cases z), hok := ok, bare := .of_eq hg }
    have ran := (G _ inB (names hns)).go callerA [] s₁ T ⟨[.ref a], []⟩ [.ref a] [.ref a] _ _ hr rfl entry (hbind s₁ (.ref a)) (.cons rfl .nil) (hsp T only seq)
    refine codeAny_mono ran ?_
    intro r s' h
    match r, h with
    | .error e, h => exact (hcx T e s' h).elim
    | .ok .next, h => exact False.elim h
    | .ok .brk, h => exact False.elim h
    | .ok .cont, h => exact False.elim h
    | .ok (.ret u), ⟨v, T', os, bare, un, ok', ru, q⟩ =>
      have hv : v = .bl true := q
      subst hv
      have hu : u = Value.bool true := ru
      subst hu
      refine ⟨rfl, OldK.of_keep ?_, os, bare⟩
      intro b o q
      cases z : T b with
      | none => exact un.keep b o q z (by intro c; cases c) (by intro c; cases c)
      | some u =>
        rcases only b with z' | ⟨ob, xs, z'⟩
        · rw [z] at z'; cases z'
        · have d1 := (ok b _ z').1
          have d2 := (ok' b _ (un.frzs b ob _ z')).1
          rw [q] at d1
          cases d1
          exact d2
  have size : (ns.map V.int).length ≤ sizeLine := by rw [List.length_map]; exact hl
  cases hk : K.lookup a with
  | some o =>
    have q := hK a o hk
    rw [ha] at q
    cases q
    refine main (fun _ => none) (fun _ => .inl rfl) (.inr ⟨_, vs.toArray, _, hk, rfl, rfl, rfl, ?_, by simpa using rv⟩) (fun _ _ z => nomatch z) (fun _ _ z => nomatch z)
    rw [List.size_toArray, ← rv.length]
    exact size
  | none =>
    let obj : Obj := { cls := .type "list", data := .seq vs.toArray }
    let T : Hp := fun b => if b = a then some (.frz obj (.lst (ns.map V.int))) else none
    have at' : ∀ b u, T b = some u → b = a ∧ u = .frz obj (.lst (ns.map V.int)) := by
      intro b u z
      by_cases e : b = a
      · rw [show T b = _ from if_pos e] at z
        exact ⟨e, (Option.some.inj z).symm⟩
      · rw [show T b = _ from if_neg e] at z
        cases z
    refine main T (fun b => ?_) (.inl (.inr ⟨obj, if_pos rfl⟩)) (fun b u z => ?_) (fun b u z => ⟨(at' b u z).1, hk⟩)
    · cases z : T b with
      | none => exact .inl rfl
      | some u => exact .inr ⟨_, _, by rw [(at' b u z).2]⟩
    · obtain ⟨rfl, rfl⟩ := at' b u z
      exact ⟨ha, size, vs, _, rv, ha⟩
/-- the end of a law row, from its def's worth -/
theorem walk_end {l : PySem.W.OpenLaw} {n k : Nat} {q : Program} {loose : List Str} {XP : (Str → Option Value) → Heap → Prop} {YP : World → Heap → Prop} {d : DefRec} {K : Params → PySem.W.Frag} {x : Str} {μ : M C}
    (hn : l.most = some n) (hn2 : n ≤ sizeLine) (hdf : d.params.defaults = []) (hr : Room k callerA) (hY : ∀ (w : World) (h : Heap), YP w h → (K w.params).In h)
    (F : ∀ (w : World) (mg : Str → Option Value) (fa : Addr) (h : Heap), (K w.params).In h → h.Ns mainGlobals mg → mg d.name = some (.ref fa) →
      ∃ fd : FuncData, (∀ (s : Shared) (u : Value), BindsTo s fd ⟨[u], []⟩ [(x, u)]) ∧ ∀ base : Heap, (K w.params).In base → base.Ns mainGlobals mg → FnG l.prog w (K w.params) mg base CX0 k fa fd [x] (spF (K w.params) 1 (noEr μ)))
    (law : ∀ ns : List Int, ns.length ≤ n → ∃ ρ, μ [.fz (.fr (ns.map D.int))] = .ok (.fz (.bl true)) ρ) :
    PySem.W.WalkO q loose XP YP l.row.toRowW d [] (fun f vs => PySem.call f vs) := by
  refine Att.attach_call hn hdf ?_
  intro w s₀ s₁ mg mb fa o pm cd doc a vs ns g Y _ _ _ hmg hobj hints hlen hgen
  have hK := hY w _ Y
  obtain ⟨fd, hb, hG⟩ := F w mg fa _ hK g.T.g hmg
  refine law_ends hK g.T.g g.T.b g.T.builtins g.T.nolimit hgen hobj hints (Nat.le_trans hlen hn2) hr hG hb ?_ (fun _ _ _ z => z)
  intro H only seq
  obtain ⟨ρ, hμ⟩ := law ns hlen
  have allInt : ∀ {F : Addr → Prop} {H : Hp} (ms : List Int), Reps (K w.params) F H (ms.map V.int) (ms.map D.int) := by
    intro F H ms
    induction ms with
    | nil => exact .nil
    | cons m ms ih => exact .cons (.int m) ih
  refine ⟨rfl, fun b => b = a ∧ H a ≠ none, [], [.fz (.fr (ns.map D.int))], rfl, by simp, ?_, ?_⟩
  · refine ⟨[], .cons (O := []) (.fz (.fr ?_ (allInt ns))) .nil, .nil, by simp, ?_⟩
    · rcases seq with seq | seq
      · refine .inl ⟨⟨rfl, ?_⟩, seq⟩
        rcases seq with z | ⟨_, z⟩ <;> (rw [z]; simp)
      · exact .inr seq
    · rintro b ⟨rfl, z⟩
      exact z
  · unfold noEr
    rw [hμ]
    intro v F' H' _ al
    exact al.fzOf.blv
end Dn

/-! Den10: repr, chains, keywords. -/
namespace Dn
open PySem PySem.Spec PyProof.Rows L2

/-! ### repr -/
/-- small enough to be shown -/
def shw (p : PyData) : Bool := p.showable && !p.hasDict && decide (p.depth ≤ 40) && decide (p.shown.length ≤ sizeLine)
def reprD : D → Option D
  | .lst ds => (toPy (.lst ds)).bind fun p => if shw p then some (.str p.shown) else none
  | .tup ds => (toPy (.tup ds)).bind fun p => if shw p then some (.str p.shown) else none
  | _ => none
def rShow (K : PySem.W.Frag) : List V → Hp → VK → Prop := fun vs H Q => ∃ a p, vs = [.ref a] ∧ Dp K H (.ref a) p ∧ shw p = true ∧ Q (.str p.shown) H
theorem call_show {X : Cx} (hgd : X.A.guards = some []) (hu : X.A.units + 64 < cLine) : CallR X (.builtin "repr") (rShow X.K) := by
  intro pins s σ H vs us Q I r h
  obtain ⟨a, p, rfl, hd, hs, q⟩ := h
  obtain ⟨u, rfl, ru⟩ := r.one
  obtain ⟨as, rd⟩ := Dp.reads I p _ _ hd ru
  cases ru
  unfold shw at hs
  simp only [Bool.and_eq_true, Bool.not_eq_true', decide_eq_true_eq] at hs
  obtain ⟨⟨⟨h1, h2⟩, h3⟩, h4⟩ := hs
  refine repr_of_reads' rd h1 (fun z => by rw [h2] at z; cases z) hgd (by omega) (fun b o e => e) (fun h' t tk kp => ?_) h4
  exact ⟨.str p.shown, H, I.kept kp, ⟨t, rfl⟩, q⟩
theorem ok_show {K : PySem.W.Frag} : CbOk K (rShow K) (sc1 reprD) := sc1_ok fun d z F H v Q e r q => by
  have fin : ∀ {p : PyData} {a : Addr}, toPy d = some p → shw p = true → v = .ref a → z = .str p.shown → rShow K [v] H Q := fun {p a} h1 h2 h3 h4 => by
    subst h3 h4
    exact ⟨a, p, rfl, r.dp h1, h2, q _ (.str _)⟩
  cases d <;> simp only [reprD, reduceCtorEq, Option.bind_eq_some_iff] at e
  · obtain ⟨p, e1, e2⟩ := e
    split at e2 <;> cases e2
    obtain ⟨a, vs, rfl, _⟩ := r.lstv
    exact fin e1 (by assumption) rfl rfl
  · obtain ⟨p, e1, e2⟩ := e
    split at e2 <;> cases e2
    obtain ⟨a, vs, rfl, _⟩ := r.tupv
    exact fin e1 (by assumption) rfl rfl

/-! ### a < b < c -/
def eChain (f g : D → D → Option D) (a b c : M C) : M C := fun ρ => (a ρ).bind fun x ρ => (b ρ).bind fun y ρ => match f (fzD x) (fzD y) with
  | some (.bl true) => (c ρ).bind fun z ρ => match g (fzD y) (fzD z) with
    | some (.bl k) => .ok (.fz (.bl k)) ρ
    | _ => .st
  | some (.bl false) => .ok (.fz (.bl false)) ρ
  | _ => .st
section
variable {X : Cx} {W : WX} {pos : Pos} {a b c : Expr} {ma mb mc : M C} {op op' : CmpOp} {r r' : R2} {f g : D → D → Option D}
theorem chain_ok (hf : OpOk X.K r f) (hg : OpOk X.K r' g) {σ : L2.St} {H : Hp} {Q : VK} (h : tOf X.K W (eChain f g ma mb mc) σ H Q) : tChain r r' (tOf X.K W ma) (tOf X.K W mb) (tOf X.K W mc) σ H Q := by
  obtain ⟨F, ρ, τ, s, gg⟩ := h
  unfold eChain at gg
  refine run2 s gg fun c d ρ2 F2 H2 v w s2 q => ?_
  split at q
  · rename_i hz
    refine hf _ _ _ F2 H2 v w _ hz s2.drop.fzOf s2.fzOf fun u ru => ⟨true, ru.blv, ?_⟩
    rw [if_pos rfl]
    rw [Good.bind] at q
    refine run1 s2 (q.imp (fun z ρ3 q v3 F3 H3 s3 => ?_) fun _ _ q => q.drop.drop)
    split at q
    · rename_i k hk
      exact hg _ _ _ F3 H3 w v3 Q hk s3.drop.fzOf s3.fzOf fun u ru => q u F3 H3 (by simp) (s3.drop.drop.drop.push ru)
    · exact q.elim
  · rename_i hz
    refine hf _ _ _ F2 H2 v w _ hz s2.drop.fzOf s2.fzOf fun u ru => ⟨false, ru.blv, ?_⟩
    rw [if_neg Bool.false_ne_true]
    exact q _ F2 H2 (by simp) (s2.drop.drop.push (.bl _))
  · exact q.elim
theorem d_chain (ho : OpR X (compareOp op) r) (hf : OpOk X.K r f) (ho' : OpR X (compareOp op') r') (hg : OpOk X.K r' g) (ha : PE X a (tOf X.K W ma)) (hb : PE X b (tOf X.K W mb)) (hc : PE X c (tOf X.K W mc))
    (hm : lastMarks [op, op'] [b, c] = false := by with_unfolding_all rfl) : PE X (.Compare a [op, op'] [b, c] pos) (tOf X.K W (eChain f g ma mb mc)) := (pe_chain ho ho' ha hb hc hm).imp fun _ _ _ h => chain_ok hf hg h
theorem dt_chain (ho : OpR X (compareOp op) r) (hf : OpOk X.K r f) (ho' : OpR X (compareOp op') r') (hg : OpOk X.K r' g) (ha : PE X a (tOf X.K W ma)) (hb : PE X b (tOf X.K W mb)) (hc : PE X c (tOf X.K W mc))
    (hm : lastMarks [op, op'] [b, c] = false := by with_unfolding_all rfl) : PT X (.Compare a [op, op'] [b, c] pos) (bOf X.K W (asB (eChain f g ma mb mc))) := (pt_chain ho ho' ha hb hc hm).imp fun _ _ _ h => chain_ok hf hg (asB_ok h)
end

/-! ### keywords -/
section
variable {X : Cx} {W : WX} {pos p kpos : Pos} {e : Expr} {es : List Expr} {kws : List Keyword} {nm : Option Str} {m : M C} {r mk ma : M (List C)} {k n nk : Nat} {f : Addr} {fd : FuncData} {ps ks : List Str} {μ : M C} {x : Str} {cx : CXT}
theorem _root_.L2.PK.imp {e : List Keyword} {t u : TA} (h : PK X e t) (f : ∀ σ H Q, u σ H Q → t σ H Q) : PK X e u := ⟨fun pos pins s σ H Q I hw => h.run pos pins s σ H Q I (f σ H Q hw)⟩
theorem dk_nil : PK X [] (aOf X.K W aNil) := pk_nil.imp fun σ H Q ⟨F, ρ, τ, s, g⟩ => g [] F H rfl (fun _ z => nomatch z) s
theorem dk_cons (h1 : PE X e (tOf X.K W m)) (h2 : PK X kws (aOf X.K W r)) : PK X (⟨nm, e, kpos⟩ :: kws) (aOf X.K W (aCons m r)) := (pk_cons h1 h2).imp fun σ H Q ⟨F, ρ, τ, s, g⟩ => by
  unfold aCons at g
  rw [Good.bind] at g
  refine runC s (g.imp (fun c ρ1 q v F1 H1 nc s1 => ?_) fun _ _ q => q)
  rw [Good.bind] at q
  refine runA s1 (q.imp (fun cs ρ2 q2 vs F2 H2 hl hn s2 => ?_) fun _ _ q => q.drop)
  refine q2 (v :: vs) F2 H2 (by simp [hl]) (fun c' hc' => ?_) (s2.perm ?_)
  · rcases List.mem_cons.mp hc' with rfl | z
    · exact nc
    · exact hn c' z
  · show (tmps vs cs ++ (some v, c) :: τ).Perm ((some v, c) :: tmps vs cs ++ τ)
    exact List.perm_middle
def eCallK (μ : M C) (a b : M (List C)) : M C := fun ρ => (a ρ).bind fun cs ρ => (b ρ).bind fun ds ρ => match μ (cs ++ ds) with
  | .ok c _ => .ok c ρ
  | .er e _ => .er e ρ
  | .st => .st
theorem tmps_append {vs ws : List V} {cs ds : List C} (h : vs.length = cs.length) : tmps (vs ++ ws) (cs ++ ds) = tmps vs cs ++ tmps ws ds := by
  unfold tmps
  rw [List.map_append, List.zip_append (by rw [List.length_map, h])]
theorem d_callK (G : FnG X.prog X.w X.K X.mg X.base cx k f fd ps (spF X.K (n + nk) μ)) (hr : Room k X.A) (hgd : X.A.guards = some []) (hm : X.mg x = some (.ref f)) (hk : PySem.W.keepIn X.K (.ref f) = true) (hb : KwB X.K fd ps ks) (hx : ∀ σ, PassesAt cx X σ (WE W σ))
    (ha : PA X (e :: es) (aOf X.K W ma)) (hl : lenIs n ma) (hkw : PK X kws (aOf X.K W mk)) (hlk : lenIs nk mk) (hnk : ks.length = nk := by rfl) (hg : Gl X x := by rfl) (hall : (backToKw pos (keywordEach kws X.env)).all (·.1.isSome) = true := by rfl)
    (hks : (backToKw pos (keywordEach kws X.env)).filterMap (·.1) = ks := by rfl) (hdb : (x == ("__debug__" : Str)) = false := by decide) (he : starEach (e :: es) X.env = (false, eval e X.env) :: starEach es X.env := by rfl)
    (hpl : ((backTo pos (starEach (e :: es) X.env)).any (·.1) || (backToKw pos (keywordEach kws X.env)).any (·.1.isNone)) = false := by rfl) : PE X (.Call (.Name x p) (e :: es) kws pos) (tOf X.K W (eCallK μ ma mk)) :=
  (pe_goK G hr hgd hg hm hk hb hx ha hkw (fun σ H Q ⟨F, ρ, τ, s, g⟩ => ⟨F, ρ, τ, s, (Good.len hlk g).imp (fun cs ρ1 q vs F1 H1 h1 h2 s1 => ⟨by rw [h1, q.1, hnk], q.2 vs F1 H1 h1 h2 s1⟩) fun _ _ q => q⟩) hall hks hdb he hpl).imp fun σ H Q ⟨F, ρ, τ, s, g⟩ => by
    unfold eCallK at g
    rw [Good.bind] at g
    refine runA s ((Good.len hl g).imp (fun cs ρ1 q vs F1 H1 h1 h2 s1 => ?_) fun _ _ q => q)
    obtain ⟨q0, q⟩ := q
    rw [Good.bind] at q
    refine runA s1 ((Good.len hlk q).imp (fun ds ρ2 q ws F2 H2 h3 h4 s2 => ?_) fun _ _ q => q.dropL)
    have s3 : Sta X.K F2 H2 σ ρ2 (tmps (vs ++ ws) (cs ++ ds) ++ τ) := by
      rw [tmps_append h1]
      refine s2.perm ?_
      rw [List.append_assoc, ← List.append_assoc, ← List.append_assoc]
      exact List.perm_append_comm.append_right τ
    refine sp_of (cs := cs ++ ds) (by rw [List.length_append, h1, h3, q0, q.1]) (by rw [List.length_append, List.length_append, h1, h3]) (fun c m => (List.mem_append.mp m).elim (h2 c) (h4 c)) s3 q.2
/-- no keyword but for keyword-only parameters, or by name: how it binds, by computation -/
theorem kwb_of {K : PySem.W.Frag} {fd : FuncData} {ps ks : List Str} (h : ∀ us ws : List Value, ws.length = ks.length → (us ++ ws).length = ps.length → bindArgs fd ⟨us, ks.zip ws⟩ = pure (ps.zip (us ++ ws))) : KwB K fd ps ks := fun s us ws _ h1 h2 => .of_eq (h us ws h1 h2)
end
end Dn

/-! Den11: what the words are worth, for simp. -/
namespace Dn
open PySem PySem.Spec PyProof.Rows L2

section
variable (ρ : Rho) (i j k : Nat) (m n a b c : M C) (t u : M Bool) (f : D → D → Option D) (g : D → D → Option C) (x y : SM)
@[simp] theorem eVar_ap : eVar i ρ = match ρ[i]? with
  | some (.fz d) => .ok (.fz d) ρ
  | some (.ow cs) => .ok (.fz (fzD (.ow cs))) (ρ.set i (.fz (fzD (.ow cs))))
  | some (.tp cs) => .ok (.fz (fzD (.tp cs))) (ρ.set i (.fz (fzD (.tp cs))))
  | some (.od cs) => .ok (.fz (fzD (.od cs))) (ρ.set i (.fz (fzD (.od cs))))
  | _ => .st := rfl
@[simp] theorem eMv_ap : eMv i ρ = match ρ[i]? with
  | none => .st
  | some .no => .st
  | some c => .ok c (ρ.set i .no) := rfl
@[simp] theorem eFz_ap : eFz m ρ = (m ρ).bind fun c ρ => .ok (.fz (fzD c)) ρ := rfl
@[simp] theorem aNil_ap : aNil ρ = .ok [] ρ := rfl
@[simp] theorem aCons_ap (r : M (List C)) : aCons m r ρ = (m ρ).bind fun c ρ => (r ρ).bind fun cs ρ => .ok (c :: cs) ρ := rfl
@[simp] theorem small_lit : small n' = decide (n' ≤ 1000000) := rfl
@[simp] theorem eTupC_ap (r : M (List C)) : eTupC r ρ = (r ρ).bind fun cs ρ => if small cs.length then .ok (.tp cs) ρ else .st := rfl
@[simp] theorem eTup_ap (r : M (List C)) : eTup r ρ = (r ρ).bind fun cs ρ => if small cs.length then .ok (.fz (.tup (cs.map fzD))) ρ else .st := by
  show ((r ρ).bind fun cs ρ => if small cs.length then (R.ok (C.tp cs) ρ : R C) else .st).bind _ = _
  cases r ρ with
  | st => rfl
  | er _ _ => rfl
  | ok cs ρ' =>
    simp only [R.bind_ok]
    split
    · simp
    · rfl
@[simp] theorem eLst_ap (r : M (List C)) : eLst r ρ = (r ρ).bind fun cs ρ => if small cs.length then .ok (.ow cs) ρ else .st := rfl
@[simp] theorem eOp_ap : eOp f a b ρ = (a ρ).bind fun c ρ => (b ρ).bind fun d ρ => match f (fzD c) (fzD d) with
  | some z => .ok (.fz z) ρ
  | none => .st := rfl
@[simp] theorem eOpC_ap : eOpC g a b ρ = (a ρ).bind fun c ρ => (b ρ).bind fun d ρ => match g (fzD c) (fzD d) with
  | some z => .ok z ρ
  | none => .st := rfl
@[simp] theorem asB_ap : asB m ρ = (m ρ).bind fun c ρ => match fzD c with
  | .bl b => .ok b ρ
  | _ => .st := rfl
@[simp] theorem eUn_ap (f : D → Option D) : eUn f a ρ = (a ρ).bind fun c ρ => match f (fzD c) with
  | some z => .ok (.fz z) ρ
  | none => .st := rfl
@[simp] theorem bTru_ap (f : D → Option Bool) : bTru f m ρ = (m ρ).bind fun c ρ => match f (fzD c) with
  | some b => .ok b ρ
  | none => .st := rfl
@[simp] theorem bVar_ap : bVar i ρ = match ρ[i]? with
  | some (.ow cs) => .ok (!cs.isEmpty) ρ
  | some (.fz d) => match truD d with
    | some b => .ok b ρ
    | none => .st
  | _ => .st := rfl
@[simp] theorem bNot_ap : bNot t ρ = (t ρ).bind fun b ρ => .ok (!b) ρ := rfl
@[simp] theorem bAnd_ap : bAnd t u ρ = (t ρ).bind fun b ρ => if b = true then u ρ else .ok false ρ := rfl
@[simp] theorem bOr_ap : bOr t u ρ = (t ρ).bind fun b ρ => if b = true then .ok true ρ else u ρ := rfl
@[simp] theorem ofB_ap : ofB t ρ = (t ρ).bind fun b ρ => .ok (.fz (.bl b)) ρ := rfl
@[simp] theorem eNot_ap : eNot m ρ = (asB m ρ).bind fun b ρ => .ok (.fz (.bl !b)) ρ := by
  show ((asB m ρ).bind fun b ρ => R.ok (!b) ρ).bind _ = _
  cases asB m ρ <;> rfl
@[simp] theorem eAnd_ap : eAnd m n ρ = (asB m ρ).bind fun b ρ => if b = true then n ρ else .ok (.fz (.bl false)) ρ := rfl
@[simp] theorem eOr_ap : eOr m n ρ = (asB m ρ).bind fun b ρ => if b = true then .ok (.fz (.bl true)) ρ else n ρ := rfl
@[simp] theorem eIf_ap : eIf t a b ρ = (t ρ).bind fun c ρ => if c = true then a ρ else b ρ := rfl
@[simp] theorem itemV_ap (d : C) : itemV i d ρ = match ρ[i]? with
  | some (.fz x) => match ixD x (fzD d) with
    | some z => .ok (.fz z) ρ
    | none => .st
  | some (.ow cs) => match fzD d with
    | .int j => match atI cs j with
      | some (.fz z) => .ok (.fz z) ρ
      | _ => .st
    | _ => .st
  | some (.tp cs) => match fzD d with
    | .int j => match atI cs j with
      | some (.fz z) => .ok (.fz z) ρ
      | _ => .st
    | _ => .st
  | _ => .st := rfl
@[simp] theorem eIxV_ap : eIxV i m ρ = if hasN ρ[i]? then (m ρ).bind fun d ρ => itemV i d ρ else .st := rfl
@[simp] theorem pNone_ap : pNone ρ = .ok none ρ := rfl
@[simp] theorem pSome_ap : pSome m ρ = (m ρ).bind fun c ρ => match fzD c with
  | .int i => .ok (some i) ρ
  | _ => .st := rfl
@[simp] theorem eSl_ap (lo hi : M (Option Int)) : eSl a lo hi ρ = (a ρ).bind fun c ρ => (lo ρ).bind fun l ρ => (hi ρ).bind fun h ρ => match slC (fzD c) l h with
  | some z => .ok z ρ
  | none => .st := rfl
@[simp] theorem eCB_ap (f : List D → Option C) (r : M (List C)) : eCB f r ρ = (r ρ).bind fun cs ρ => match f (cs.map fzD) with
  | some z => .ok z ρ
  | none => .st := rfl
@[simp] theorem eCBV_ap (f : List D → Option C) : eCBV f i ρ = match ρ[i]? with
  | none => .st
  | some .no => .st
  | some c => match f [fzD c] with
    | some (.fz z) => if isScal z then .ok (.fz z) ρ else .st
    | _ => .st := rfl
@[simp] theorem eOpV_ap : eOpV f a i ρ = (a ρ).bind fun c ρ => match ρ[i]? with
  | none => .st
  | some .no => .st
  | some d => match f (fzD c) (fzD d) with
    | some z => if isScal z then .ok (.fz z) ρ else .st
    | none => .st := rfl
@[simp] theorem sNext_ap : sNext ρ = .nx ρ := rfl
def SR.seq (r : SR) (b : SM) : SR := match r with
  | .nx ρ' => b ρ'
  | r => r
@[simp] theorem seq_nx : (SR.nx ρ).seq x = x ρ := rfl
@[simp] theorem seq_rt : (SR.rt d).seq x = .rt d := rfl
@[simp] theorem seq_bk : (SR.bk ρ).seq x = .bk ρ := rfl
@[simp] theorem seq_ct : (SR.ct ρ).seq x = .ct ρ := rfl
@[simp] theorem seq_st : (SR.st).seq x = .st := rfl
@[simp] theorem seq_er (e : Er) : (SR.er e ρ).seq x = .er e ρ := rfl
@[simp] theorem sSeq_ap : sSeq x y ρ = (x ρ).seq y := rfl
@[simp] theorem sBrk_ap : sBrk ρ = .bk ρ := rfl
@[simp] theorem sCnt_ap : sCnt ρ = .ct ρ := rfl
@[simp] theorem sExpr_ap : sExpr m ρ = (m ρ).thn fun _ ρ => .nx ρ := rfl
@[simp] theorem sRet_ap : sRet m ρ = (m ρ).thn fun c _ => .rt c := rfl
@[simp] theorem sIf_ap : sIf t x y ρ = (t ρ).thn fun c ρ => if c = true then x ρ else y ρ := rfl
@[simp] theorem sSet_ap : sSet i m ρ = (m ρ).thn fun c ρ => if i < ρ.length then .nx (ρ.set i c) else .st := rfl
@[simp] theorem sAsg_ap (put : C → Rho → Option Rho) : sAsg put m ρ = (m ρ).thn fun c ρ => match put c ρ with
  | some ρ' => .nx ρ'
  | none => .st := rfl
@[simp] theorem sPar_ap (r : M (List C)) : sPar i j r ρ = (r ρ).thn fun cs ρ => match cs with
  | [c, d] => if i < ρ.length ∧ j < ρ.length then .nx ((ρ.set i c).set j d) else .st
  | _ => .st := rfl
@[simp] theorem sFor_ap (mi : M (List D)) (put : C → Rho → Option Rho) : sFor mi put x ρ = (mi ρ).thn fun ds ρ => forL put x ds ρ := rfl
@[simp] theorem sOw_ap (f : List C → C → Option (List C)) : sOw i m f ρ = if isOw ρ[i]? then (m ρ).thn fun c ρ => match ρ[i]? with
  | some (.ow cs) => match f cs c with
    | some cs' => .nx (ρ.set i (.ow cs'))
    | none => .st
  | _ => .st
  else .st := rfl
@[simp] theorem sClr_ap : sClr i ρ = match ρ[i]? with
  | some (.ow _) => .nx (ρ.set i (.ow []))
  | _ => .st := rfl
@[simp] theorem sSetIx_ap : sSetIx i m n ρ = (n ρ).thn fun c ρ => if isOw ρ[i]? then (m ρ).thn fun d ρ => match ρ[i]?, fzD d with
  | some (.ow cs), .int j => match setF j cs c with
    | some cs' => .nx (ρ.set i (.ow cs'))
    | none => .st
  | _, _ => .st
  else .st := rfl
@[simp] theorem ePop_ap : ePop i ρ = match ρ[i]? with
  | some (.ow cs) => match cs[cs.length - 1]? with
    | some (.fz d) => .ok (.fz d) (ρ.set i (.ow cs.dropLast))
    | _ => .st
  | _ => .st := rfl
@[simp] theorem eCall_ap (μ : M C) (r : M (List C)) : eCall μ r ρ = (r ρ).bind fun cs ρ => match μ cs with
  | .ok c _ => .ok c ρ
  | .er e _ => .er e ρ
  | .st => .st := rfl
@[simp] theorem eCallK_ap (μ : M C) (r s : M (List C)) : eCallK μ r s ρ = (r ρ).bind fun cs ρ => (s ρ).bind fun ds ρ => match μ (cs ++ ds) with
  | .ok c _ => .ok c ρ
  | .er e _ => .er e ρ
  | .st => .st := rfl
@[simp] theorem iLst_ap : iLst m ρ = (m ρ).bind fun c ρ => match fzD c with
  | .lst ds => .ok ds ρ
  | .fr ds => .ok ds ρ
  | _ => .st := rfl
@[simp] theorem iTupM_ap : iTupM m ρ = (m ρ).bind fun c ρ => match fzD c with
  | .tup ds => .ok ds ρ
  | _ => .st := rfl
@[simp] theorem iRg1_ap (r : M (List C)) : iRg1 r ρ = (r ρ).bind fun cs ρ => match cs.map fzD with
  | [.int j] => if r62 j then .ok (intsD 0 j.toNat) ρ else .st
  | _ => .st := rfl
@[simp] theorem iRg2_ap (r : M (List C)) : iRg2 r ρ = (r ρ).bind fun cs ρ => match cs.map fzD with
  | [.int i, .int j] => if r62 i && r62 j then .ok (intsD i (j - i).toNat) ρ else .st
  | _ => .st := rfl
@[simp] theorem iEnm_ap (r : M (List C)) : iEnm r ρ = (r ρ).bind fun cs ρ => match cs.map fzD with
  | [.lst ds] => .ok (enumD ds) ρ
  | _ => .st := rfl
@[simp] theorem iZp_ap (r : M (List C)) : iZp r ρ = (r ρ).bind fun cs ρ => match cs.map fzD with
  | [.lst ds, .lst es] => .ok (zipD ds es) ρ
  | _ => .st := rfl
@[simp] theorem forL_nil (put : C → Rho → Option Rho) : forL put x [] ρ = .nx ρ := rfl
theorem forL_cons (put : C → Rho → Option Rho) (d : D) (ds : List D) : forL put x (d :: ds) ρ = match put (.fz d) ρ with
  | none => .st
  | some ρ1 => match x ρ1 with
    | .nx ρ2 => forL put x ds ρ2
    | .ct ρ2 => forL put x ds ρ2
    | .bk ρ2 => .nx ρ2
    | r => r := rfl
@[simp] theorem bYes_ap : bYes ρ = .ok true ρ := rfl
@[simp] theorem put_nm (c : C) : Tg.put (.nm i) c ρ = if i < ρ.length then some (ρ.set i c) else none := by simp [Tg.put]
@[simp] theorem put_tup (ts : List Tg) (ds : List D) : Tg.put (.tup ts) (.fz (.tup ds)) ρ = putL ts (ds.map .fz) ρ := by simp [Tg.put]
@[simp] theorem put_tp (ts : List Tg) (ds : List C) : Tg.put (.tup ts) (.tp ds) ρ = putL ts ds ρ := by simp [Tg.put]
@[simp] theorem putL_nil : putL [] [] ρ = some ρ := by simp [putL]
@[simp] theorem putL_cons (t : Tg) (ts : List Tg) (c : C) (cs : List C) : putL (t :: ts) (c :: cs) ρ = (t.put c ρ).bind (putL ts cs) := by simp [putL]
@[simp] theorem eLc_ap (vs : List Nat) (mi : M (List D)) (put : C → Rho → Option Rho) (el : M C) : eLc vs mi put t el ρ = (mi ρ).bind fun ds ρ1 => (lcL vs put t el ds [] (wipeR ρ1 vs)).bind fun acc ρ2 => .ok (.ow acc) (restR ρ1 vs ρ2) := rfl
@[simp] theorem wipeR_nil : wipeR ρ [] = ρ := rfl
@[simp] theorem wipeR_cons (v : Nat) (vs : List Nat) : wipeR ρ (v :: vs) = (wipeR ρ vs).set v .no := rfl
@[simp] theorem restR_nil (ρ0 : Rho) : restR ρ0 [] ρ = ρ := rfl
@[simp] theorem restR_cons (ρ0 : Rho) (v : Nat) (vs : List Nat) : restR ρ0 (v :: vs) ρ = restR ρ0 vs (ρ.set v ((wipeR ρ0 vs)[v]?.getD .no)) := rfl
@[simp] theorem hasN_none : hasN none = false := rfl
@[simp] theorem hasN_no : hasN (some .no) = false := rfl
@[simp] theorem hasN_fz (d : D) : hasN (some (.fz d)) = true := rfl
@[simp] theorem hasN_ow (d : List C) : hasN (some (.ow d)) = true := rfl
@[simp] theorem hasN_tp (d : List C) : hasN (some (.tp d)) = true := rfl
@[simp] theorem isOw_ow (d : List C) : isOw (some (.ow d)) = true := rfl
@[simp] theorem isOw_fz (d : D) : isOw (some (.fz d)) = false := rfl
@[simp] theorem appF_ap (cs : List C) (c : C) : appF cs c = if small cs.length then some (cs ++ [c]) else none := rfl
@[simp] theorem sc1_one (f : D → Option D) (d : D) : sc1 f [d] = (f d).map .fz := rfl
@[simp] theorem sc2_two (f : D → D → Option D) (d e : D) : sc2 f [d, e] = (f d e).map .fz := rfl
@[simp] theorem nw1_one (f : D → Option C) (d : D) : nw1 f [d] = f d := rfl
@[simp] theorem isScal_int (i : Int) : isScal (.int i) = true := rfl
@[simp] theorem isScal_bl (i : Bool) : isScal (.bl i) = true := rfl
@[simp] theorem isScal_str (i : Str) : isScal (.str i) = true := rfl
@[simp] theorem isScal_non : isScal .non = true := rfl
end
/-! operators -/
section
variable (i j : Int) (b c : Bool) (s t : Str) (ds es : List D)
@[simp] theorem iSub_i : iSub (.int i) (.int j) = some (.int (i - j)) := rfl
@[simp] theorem iMod_i : iMod (.int i) (.int j) = if 0 < j then some (.int (i % j)) else none := rfl
@[simp] theorem iDiv_i : iDiv (.int i) (.int j) = if 0 < j ∧ j.natAbs.log2 < 9000 then some (.int (i / j)) else none := rfl
@[simp] theorem iPow_i : iPow (.int i) (.int j) = if 0 ≤ j ∧ j ≤ 1000 ∧ i.natAbs < 1000000 then some (.int (i ^ j.toNat)) else none := rfl
@[simp] theorem iLt_i : iLt (.int i) (.int j) = some (.bl (decide (i < j))) := rfl
@[simp] theorem iLe_i : iLe (.int i) (.int j) = some (.bl (decide (i ≤ j))) := rfl
@[simp] theorem iGt_i : iGt (.int i) (.int j) = some (.bl (decide (j < i))) := rfl
@[simp] theorem iGe_i : iGe (.int i) (.int j) = some (.bl (decide (j ≤ i))) := rfl
@[simp] theorem negD_i : negD (.int i) = some (.int (-i)) := rfl
@[simp] theorem addC_i : addC (.int i) (.int j) = some (.fz (.int (i + j))) := rfl
@[simp] theorem addC_l : addC (.lst ds) (.lst es) = if small (ds.length + es.length) then some (.ow ((ds ++ es).map .fz)) else none := rfl
@[simp] theorem mulC_i : mulC (.int i) (.int j) = if wide i j then some (.fz (.int (i * j))) else none := rfl
@[simp] theorem lenD_l : lenD (.lst ds) = some (.int ds.length) := rfl
@[simp] theorem lenD_f : lenD (.fr ds) = some (.int ds.length) := rfl
@[simp] theorem lenD_t : lenD (.tup ds) = some (.int ds.length) := rfl
@[simp] theorem absD_i : absD (.int i) = some (.int i.natAbs) := rfl
@[simp] theorem intD_i : intD (.int i) = some (.int i) := rfl
@[simp] theorem intD_b : intD (.bl b) = some (.int (if b then 1 else 0)) := rfl
@[simp] theorem gcdD_i : gcdD (.int i) (.int j) = some (.int (Nat.gcd i.natAbs j.natAbs : Nat)) := rfl
@[simp] theorem min2D_i : min2D (.int i) (.int j) = some (.int (min i j)) := rfl
@[simp] theorem max2D_i : max2D (.int i) (.int j) = some (.int (max i j)) := rfl
@[simp] theorem eqD_i : eqD (.int i) (.int j) = some (.bl (decide (i = j))) := rfl
@[simp] theorem eqD_s : eqD (.str s) (.str t) = some (.bl (decide (s = t))) := rfl
@[simp] theorem eqD_b : eqD (.bl b) (.bl c) = some (.bl (decide (b = c))) := rfl
@[simp] theorem neD_i : neD (.int i) (.int j) = some (.bl (!decide (i = j))) := rfl
@[simp] theorem neD_s : neD (.str s) (.str t) = some (.bl (!decide (s = t))) := rfl
@[simp] theorem truD_b : truD (.bl b) = some b := rfl
@[simp] theorem truD_i : truD (.int i) = some (i != 0) := rfl
@[simp] theorem truD_l : truD (.lst ds) = some (!ds.isEmpty) := rfl
@[simp] theorem ixD_l : ixD (.lst ds) (.int i) = atI ds i := rfl
@[simp] theorem ixD_f : ixD (.fr ds) (.int i) = atI ds i := rfl
@[simp] theorem ixD_t : ixD (.tup ds) (.int i) = atI ds i := rfl
@[simp] theorem listC_l : listC (.lst ds) = some (.ow (ds.map .fz)) := rfl
@[simp] theorem slC_l (lo hi : Option Int) : slC (.lst ds) lo hi = some (.ow ((cutL ds lo hi).map .fz)) := rfl
@[simp] theorem isN_i : isN (.int i) .non = some (.bl false) := rfl
@[simp] theorem isN_n : isN .non .non = some (.bl true) := rfl
@[simp] theorem isNN_i : isNN (.int i) .non = some (.bl true) := rfl
@[simp] theorem isNN_n : isNN .non .non = some (.bl false) := rfl
@[simp] theorem allD_l : allD (.lst ds) = (boolsOf ds).map fun ns => .bl (ns.all id) := rfl
@[simp] theorem anyD_l : anyD (.lst ds) = (boolsOf ds).map fun ns => .bl (ns.any id) := rfl
@[simp] theorem sumD_l : sumD (.lst ds) = (intsOf ds).map fun ns => .int ns.sum := rfl
@[simp] theorem fzD_comp_fz : (fzD ∘ C.fz) = id := by funext d; simp
@[simp] theorem map_fzD_fz : (ds.map C.fz).map fzD = ds := by simp
end
/-- an item at a place -/
@[simp] theorem atI_cons_zero {α : Type} (a : α) (l : List α) : atI (a :: l) 0 = some a := by simp [L2.atI, L2.ixN]
theorem atI_natCast {α : Type} (l : List α) (n : Nat) : atI l (n : Int) = l[n]? := by
  unfold L2.atI L2.ixN
  by_cases h : n < l.length
  · rw [if_pos (by omega), if_pos (by omega)]; simp
  · rw [if_pos (by omega), if_neg (by omega), List.getElem?_eq_none (by omega)]; rfl
@[simp] theorem atI_cons_one {α : Type} (a b : α) (l : List α) : atI (a :: b :: l) 1 = some b := by
  have := atI_natCast (a :: b :: l) 1
  simpa using this
@[simp] theorem atI_cons_two {α : Type} (a b c : α) (l : List α) : atI (a :: b :: c :: l) 2 = some c := by
  have := atI_natCast (a :: b :: c :: l) 2
  simpa using this
@[simp] theorem atI_cons_three {α : Type} (a b c d : α) (l : List α) : atI (a :: b :: c :: d :: l) 3 = some d := by
  have := atI_natCast (a :: b :: c :: d :: l) 3
  simpa using this
@[simp] theorem atI_cons_four {α : Type} (a b c d e : α) (l : List α) : atI (a :: b :: c :: d :: e :: l) 4 = some e := by
  have := atI_natCast (a :: b :: c :: d :: e :: l) 4
  simpa using this
@[simp] theorem atI_cons_five {α : Type} (a b c d e f : α) (l : List α) : atI (a :: b :: c :: d :: e :: f :: l) 5 = some f := by
  have := atI_natCast (a :: b :: c :: d :: e :: f :: l) 5
  simpa using this
theorem atI_ofNat {α : Type} (l : List α) (n : Nat) : atI l (OfNat.ofNat n : Int) = l[(OfNat.ofNat n : Nat)]? := atI_natCast l n
theorem atI_toNat {α : Type} (l : List α) (i : Int) (h : 0 ≤ i) : atI l i = l[i.toNat]? := by
  have := atI_natCast l i.toNat
  rwa [Int.toNat_of_nonneg h] at this
@[simp] theorem atI_m1 {α : Type} (l : List α) : atI l (-1) = l.getLast? := by
  unfold L2.atI L2.ixN
  rw [if_neg (by omega)]
  by_cases h : l = []
  · subst h; simp
  · have : 0 < l.length := List.length_pos_iff.mpr h
    rw [if_pos (by omega), List.getLast?_eq_getElem?]
    show l[(-1 + (l.length : Int)).toNat]? = _
    congr 1
    omega
/-- a loop whose state is what F says -/
theorem forL_inv {put : C → Rho → Option Rho} {x : SM} (I : Nat → Rho → Prop) (ds : List D) (step : ∀ i d ρ, ds[i]? = some d → I i ρ → ∃ ρ1 ρ2, put (.fz d) ρ = some ρ1 ∧ (x ρ1 = .nx ρ2 ∨ x ρ1 = .ct ρ2) ∧ I (i + 1) ρ2) {ρ : Rho} (h : I 0 ρ) :
    ∃ ρ', forL put x ds ρ = .nx ρ' ∧ I ds.length ρ' := by
  have key : ∀ (n i : Nat) (ρ : Rho), n + i = ds.length → I i ρ → ∃ ρ', forL put x (ds.drop i) ρ = .nx ρ' ∧ I ds.length ρ' := by
    intro n
    induction n with
    | zero =>
      intro i ρ e h
      have : i = ds.length := by omega
      subst this
      rw [List.drop_length]
      exact ⟨ρ, rfl, h⟩
    | succ n ih =>
      intro i ρ e h
      have hi : i < ds.length := by omega
      rw [List.drop_eq_getElem_cons hi, forL_cons]
      obtain ⟨ρ1, ρ2, h1, h2, h3⟩ := step i ds[i] ρ (List.getElem?_eq_getElem hi) h
      obtain ⟨ρ', h4, h5⟩ := ih (i + 1) ρ2 (by omega) h3
      refine ⟨ρ', ?_, h5⟩
      rw [h1]
      rcases h2 with h2 | h2 <;> (simp only [h2]; exact h4)
  exact key ds.length 0 ρ (by omega) h
/-- a comprehension without a test, its state the names' cells at each turn the same -/
theorem lcL_map {vs : List Nat} {put : C → Rho → Option Rho} {t : M Bool} {el : M C} (ρ0 : Rho) (F : D → C) : ∀ (ds : List D) (acc : List C), acc.length + ds.length ≤ 1000000 →
    (∀ d ∈ ds, ∃ ρ1 ρ2 ρ3, put (.fz d) ρ0 = some ρ1 ∧ t ρ1 = .ok true ρ2 ∧ el ρ2 = .ok (F d) ρ3 ∧ wipeR ρ3 vs = ρ0) → lcL vs put t el ds acc ρ0 = .ok (acc ++ ds.map F) ρ0
  | [], acc, _, _ => by simp [lcL]
  | d :: ds, acc, hl, h => by
    obtain ⟨ρ1, ρ2, ρ3, h1, h2, h3, h4⟩ := h d List.mem_cons_self
    simp only [List.length_cons] at hl
    unfold lcL
    simp only [h1, h2, h3]
    rw [if_pos (by simp; omega), h4, lcL_map ρ0 F ds (acc ++ [F d]) (by simp; omega) fun d m => h d (List.mem_cons_of_mem _ m)]
    simp
/-- .. whose items come by their places -/
theorem lcL_get {vs : List Nat} {put : C → Rho → Option Rho} {t : M Bool} {el : M C} (ρ0 : Rho) {ds : List D} {cs : List C} (hl : ds.length = cs.length) (hs : ds.length ≤ 1000000)
    (h : ∀ (i : Nat) (d : D) (c : C), ds[i]? = some d → cs[i]? = some c → ∃ ρ1 ρ2 ρ3, put (.fz d) ρ0 = some ρ1 ∧ t ρ1 = .ok true ρ2 ∧ el ρ2 = .ok c ρ3 ∧ wipeR ρ3 vs = ρ0) : lcL vs put t el ds [] ρ0 = .ok cs ρ0 := by
  have key : ∀ (ds : List D) (cs acc : List C), ds.length = cs.length → acc.length + ds.length ≤ 1000000 → (∀ (i : Nat) (d : D) (c : C), ds[i]? = some d → cs[i]? = some c → ∃ ρ1 ρ2 ρ3, put (.fz d) ρ0 = some ρ1 ∧ t ρ1 = .ok true ρ2 ∧ el ρ2 = .ok c ρ3 ∧ wipeR ρ3 vs = ρ0) →
      lcL vs put t el ds acc ρ0 = .ok (acc ++ cs) ρ0 := by
    intro ds
    induction ds with
    | nil => intro cs acc e _ _; cases cs with | nil => simp [lcL] | cons _ _ => cases e
    | cons d ds ih =>
      intro cs acc e hl h
      cases cs with
      | nil => cases e
      | cons c cs =>
        obtain ⟨ρ1, ρ2, ρ3, h1, h2, h3, h4⟩ := h 0 d c rfl rfl
        simp only [List.length_cons] at hl
        unfold lcL
        simp only [h1, h2, h3]
        rw [if_pos (by simp; omega), h4, ih cs (acc ++ [c]) (Nat.succ.inj e) (by simp; omega) fun i d c e1 e2 => h (i + 1) d c e1 e2]
        simp
  simpa using key ds cs [] hl (by simpa using hs) h
@[simp] theorem intsD_len (lo : Int) (n : Nat) : (intsD lo n).length = n := by simp [intsD]
theorem intsD_get {lo : Int} {n i : Nat} {d : D} (h : (intsD lo n)[i]? = some d) : i < n ∧ d = .int (lo + i) := by
  unfold intsD at h
  rw [List.getElem?_map, Option.map_eq_some_iff] at h
  obtain ⟨k, e, rfl⟩ := h
  have hi : i < n := by have := List.getElem?_eq_some_iff.mp e; simpa using this.1
  rw [List.getElem?_range hi] at e
  cases e
  exact ⟨hi, rfl⟩
theorem len0_of {α : Type} {n : List α} (h : n.length = 0) : n = [] := List.length_eq_zero_iff.mp h
theorem len1_of {α : Type} {n : List α} (h : n.length = 1) : ∃ a, n = [a] := by
  match n, h with | [a], _ => exact ⟨a, rfl⟩
theorem len2_of {α : Type} {n : List α} (h : n.length = 2) : ∃ a b, n = [a, b] := by
  match n, h with | [a, b], _ => exact ⟨a, b, rfl⟩
theorem len3_of {α : Type} {n : List α} (h : n.length = 3) : ∃ a b c, n = [a, b, c] := by
  match n, h with | [a, b, c], _ => exact ⟨a, b, c, rfl⟩
/-! turns of a loop -/
def fStep (put : C → Rho → Option Rho) (x : SM) (d : D) (ρ : Rho) : SR := match put (.fz d) ρ with
  | none => .st
  | some ρ1 => x ρ1
@[simp] theorem fStep_ap (put : C → Rho → Option Rho) (x : SM) (d : D) (ρ : Rho) : fStep put x d ρ = match put (.fz d) ρ with
  | none => .st
  | some ρ1 => x ρ1 := rfl
def SR.sat (r : SR) (P : Rho → Prop) : Prop := match r with
  | .nx ρ => P ρ
  | .ct ρ => P ρ
  | _ => False
@[simp] theorem sat_nx (ρ : Rho) (P : Rho → Prop) : (SR.nx ρ).sat P = P ρ := rfl
@[simp] theorem sat_ct (ρ : Rho) (P : Rho → Prop) : (SR.ct ρ).sat P = P ρ := rfl
theorem forL_sat {put : C → Rho → Option Rho} {x : SM} (I : Nat → Rho → Prop) (ds : List D) (step : ∀ i d ρ, ds[i]? = some d → I i ρ → (fStep put x d ρ).sat (I (i + 1))) {ρ : Rho} (h : I 0 ρ) :
    ∃ ρ', forL put x ds ρ = .nx ρ' ∧ I ds.length ρ' := by
  refine forL_inv I ds (fun i d ρ e hi => ?_) h
  have := step i d ρ e hi
  unfold fStep at this
  split at this
  · exact this.elim
  · rename_i ρ1 e1
    generalize hx : x ρ1 = r at this
    cases r <;> try exact this.elim
    · exact ⟨ρ1, _, e1, .inl hx, this⟩
    · exact ⟨ρ1, _, e1, .inr hx, this⟩
def lcOne (vs : List Nat) (put : C → Rho → Option Rho) (t : M Bool) (el : M C) (d : D) (ρ : Rho) : R C := match put (.fz d) ρ with
  | none => .st
  | some ρ1 => (t ρ1).bind fun b ρ2 => if b then (el ρ2).bind fun c ρ3 => .ok c (wipeR ρ3 vs) else .st
@[simp] theorem lcOne_ap (vs : List Nat) (put : C → Rho → Option Rho) (t : M Bool) (el : M C) (d : D) (ρ : Rho) : lcOne vs put t el d ρ = match put (.fz d) ρ with
  | none => .st
  | some ρ1 => (t ρ1).bind fun b ρ2 => if b then (el ρ2).bind fun c ρ3 => .ok c (wipeR ρ3 vs) else .st := rfl
theorem lcOne_ok {vs : List Nat} {put : C → Rho → Option Rho} {t : M Bool} {el : M C} {d : D} {ρ ρ' : Rho} {c : C} (h : lcOne vs put t el d ρ = .ok c ρ') : ∃ ρ1 ρ2 ρ3, put (.fz d) ρ = some ρ1 ∧ t ρ1 = .ok true ρ2 ∧ el ρ2 = .ok c ρ3 ∧ wipeR ρ3 vs = ρ' := by
  unfold lcOne at h
  split at h
  · cases h
  · rename_i ρ1 e1
    generalize ht : t ρ1 = r at h
    cases r with
    | st => cases h
    | er _ _ => cases h
    | ok b ρ2 =>
      simp only [R.bind_ok] at h
      split at h
      · rename_i hb
        subst hb
        generalize he : el ρ2 = r at h
        cases r with
        | st => cases h
        | er _ _ => cases h
        | ok c' ρ3 =>
          cases h
          exact ⟨ρ1, ρ2, ρ3, e1, ht, he, rfl⟩
      · cases h
theorem lcL_mapO {vs : List Nat} {put : C → Rho → Option Rho} {t : M Bool} {el : M C} (ρ0 : Rho) (F : D → C) (ds : List D) (hl : ds.length ≤ 1000000) (h : ∀ d ∈ ds, lcOne vs put t el d ρ0 = .ok (F d) ρ0) : lcL vs put t el ds [] ρ0 = .ok (ds.map F) ρ0 := by
  simpa using lcL_map ρ0 F ds [] (by simpa using hl) fun d m => lcOne_ok (h d m)
/-- .. of what stands at its place -/
theorem lcL_getO {α : Type} {vs : List Nat} {put : C → Rho → Option Rho} {t : M Bool} {el : M C} (ρ0 : Rho) (G : α → D) (F : α → C) (xs : List α) (hl : xs.length ≤ 1000000) (h : ∀ a ∈ xs, lcOne vs put t el (G a) ρ0 = .ok (F a) ρ0) : lcL vs put t el (xs.map G) [] ρ0 = .ok (xs.map F) ρ0 := by
  refine lcL_get ρ0 (by simp) (by simpa using hl) fun i d c e1 e2 => ?_
  rw [List.getElem?_map, Option.map_eq_some_iff] at e1 e2
  obtain ⟨a, ha, rfl⟩ := e1
  obtain ⟨b, hb, rfl⟩ := e2
  rw [ha] at hb; cases hb
  exact lcOne_ok (h a (List.mem_of_getElem? ha))
/-- .. over a range -/
theorem lcL_rng {vs : List Nat} {put : C → Rho → Option Rho} {t : M Bool} {el : M C} (ρ0 : Rho) (n : Nat) (F : Nat → C) (hl : n ≤ 1000000) (h : ∀ i, i < n → lcOne vs put t el (.int (i : Nat)) ρ0 = .ok (F i) ρ0) : lcL vs put t el (intsD 0 n) [] ρ0 = .ok ((List.range n).map F) ρ0 := by
  have e : intsD 0 n = (List.range n).map fun i => D.int (i : Nat) := by simp [intsD]
  rw [e]
  exact lcL_getO ρ0 _ F (List.range n) (by simpa using hl) fun a m => h a (List.mem_range.mp m)
theorem atI_in {α : Type} {l : List α} {i : Int} (h0 : 0 ≤ i) (h : i < l.length) : ∃ a, atI l i = some a ∧ l[i.toNat]? = some a ∧ a ∈ l := by
  have e := atI_toNat l i h0
  have hi : i.toNat < l.length := by omega
  exact ⟨l[i.toNat], by rw [e, List.getElem?_eq_getElem hi], List.getElem?_eq_getElem hi, List.getElem_mem hi⟩
theorem atI_map {α β : Type} (f : α → β) (l : List α) (i : Int) : atI (l.map f) i = (atI l i).map f := by
  unfold L2.atI
  rw [List.length_map]
  cases ixN l.length i with
  | none => rfl
  | some k => simp
theorem setF_in {cs : List C} {i : Int} {c : C} (h0 : 0 ≤ i) (h : i < cs.length) : setF i cs c = some (cs.set i.toNat (.fz (fzD c))) := by
  unfold setF ixN
  rw [if_pos h0, if_pos (by omega)]; rfl
/-! ### to lend all for a moment -/
def frzC : C → C
  | .no => .no
  | c => .fz (fzD c)
abbrev frzR (ρ : Rho) : Rho := ρ.map frzC
@[simp] theorem frzC_no : frzC .no = .no := rfl
@[simp] theorem frzC_fz (d : D) : frzC (.fz d) = .fz d := by simp [frzC]
@[simp] theorem frzC_ow (cs : List C) : frzC (.ow cs) = .fz (.lst (cs.map fzD)) := by simp [frzC]
@[simp] theorem frzC_tp (cs : List C) : frzC (.tp cs) = .fz (.tup (cs.map fzD)) := by simp [frzC]
@[simp] theorem frzC_od (cs : List (Key × D)) : frzC (.od cs) = .fz (.dk cs) := by simp [frzC]
def eLend (m : M C) : M C := fun ρ => match m (frzR ρ) with
  | .ok (.fz z) _ => if isScal z then .ok (.fz z) ρ else .st
  | _ => .st
def bLend (m : M Bool) : M Bool := fun ρ => match m (frzR ρ) with
  | .ok b _ => .ok b ρ
  | _ => .st
@[simp] theorem eLend_ap (m : M C) (ρ : Rho) : eLend m ρ = match m (frzR ρ) with
  | .ok (.fz z) _ => if isScal z then .ok (.fz z) ρ else .st
  | _ => .st := rfl
@[simp] theorem bLend_ap (m : M Bool) (ρ : Rho) : bLend m ρ = match m (frzR ρ) with
  | .ok b _ => .ok b ρ
  | _ => .st := rfl
section
variable {K : PySem.W.Frag} {F F' : Addr → Prop} {H H' : Hp}
theorem RepP.frz (hF : ∀ a, F a → F' a) (hd : ∀ a, H a ≠ none → F' a) : ∀ {σ : L2.St} {ρ : Rho} {τ : List Pr} {O : List Addr}, RepP K F H (σ.zip ρ ++ τ) O → RepP K F' H (σ.zip (frzR ρ)) []
  | [], _, _, _, _ => by simpa using RepP.nil
  | _ :: _, [], _, _, _ => by simpa using RepP.nil
  | x :: σ, c :: ρ, τ, _, r => by
    simp only [List.zip_cons_cons, List.cons_append, List.map_cons] at r ⊢
    cases r with
    | no r => exact .no (RepP.frz hF hd r)
    | cons q r =>
      have h1 : frzC c = .fz (fzD c) := by cases c <;> first | rfl | cases q
      rw [h1]
      exact .cons (.fz (RepC.froz q hF fun a m => hd a (RepC.dom q a m))) (RepP.frz hF hd r)
theorem Sta.lend {σ : L2.St} {ρ : Rho} {τ : List Pr} (s : Sta K F H σ ρ τ) : Sta K (fun a => H a ≠ none) H σ (frzR ρ) [(some .non, .fz (.gh (fun a => H a ≠ none) H))] := by
  obtain ⟨e, O, r, nd, nf, dm⟩ := s
  refine ⟨by simpa using e, [], ?_, List.nodup_nil, nofun, fun a h => h⟩
  have h1 := RepP.frz dm (fun a h => h) r
  have h2 : RepP K (fun a => H a ≠ none) H [(some V.non, C.fz (.gh (fun a => H a ≠ none) H))] [] := .cons (.fz (.gh fun a g => ⟨g, rfl⟩)) .nil
  have app : ∀ (ps : List Pr), RepP K (fun a => H a ≠ none) H ps [] → RepP K (fun a => H a ≠ none) H (ps ++ [(some V.non, C.fz (.gh (fun a => H a ≠ none) H))]) [] := by
    intro ps
    induction ps with
    | nil => intro _; exact h2
    | cons p ps ih =>
      intro r
      generalize hO : ([] : List Addr) = O at r
      cases r with
      | no r => subst hO; exact .no (ih r)
      | @cons _ _ _ O1 O2 q r =>
        have := List.append_eq_nil_iff.mp hO.symm
        obtain ⟨rfl, rfl⟩ := this
        exact .cons (O := []) (O' := []) q (ih r)
  exact app _ h1
theorem Sta.unlend {σ : L2.St} {ρ ρ2 : Rho} {τ τ2 : List Pr} {G : Addr → Prop} (s : Sta K F H σ ρ τ) (s2 : Sta K F' H' σ ρ2 τ2) (m : ∃ l, (τ2.Perm ((some .non, .fz (.gh (fun a => H a ≠ none) H)) :: l))) : Sta K F H' σ ρ τ := by
  obtain ⟨l, p⟩ := m
  have r := (s2.perm p).fzOf
  cases r with
  | gh h => exact s.heap fun a g => (h a g).2
variable {X : Cx} {W : WX}
theorem lend_ok {m : M C} {σ : L2.St} {Q : VK} (h : tOf K W (eLend m) σ H Q) : tOf K W m σ H Q := by
  obtain ⟨F, ρ, τ, s, g⟩ := h
  refine ⟨_, _, _, s.lend, ?_⟩
  simp only [eLend_ap] at g
  generalize hm : m (frzR ρ) = r at g
  unfold frzR at hm
  cases r with
  | st => exact g.elim
  | er e _ => exact g.elim
  | ok c ρ2 =>
    cases c with
    | fz z =>
      simp only at g
      split at g
      · rename_i hz
        intro v F2 H2 _ s2
        have s3 : Sta K F H2 σ ρ τ := s.unlend (G := F) s2 ⟨[(some v, .fz z)], .swap _ _ _⟩
        have rv := s2.fzOf
        have e : ∀ F0, Rep K F0 H2 v z := fun F0 => by
          cases z <;> simp only [isScal, Bool.false_eq_true] at hz <;> cases rv <;> constructor
        exact g v F H2 nofun (s3.push (e F))
      · exact g.elim
    | _ => exact g.elim
theorem lendB_ok {m : M Bool} {σ : L2.St} {Q : Bool → Hp → Prop} (h : bOf K W (bLend m) σ H Q) : bOf K W m σ H Q := by
  obtain ⟨F, ρ, τ, s, g⟩ := h
  refine ⟨_, _, _, s.lend, ?_⟩
  simp only [bLend_ap] at g
  generalize hm : m (frzR ρ) = r at g
  unfold frzR at hm
  cases r with
  | st => exact g.elim
  | er e _ => exact g.elim
  | ok b ρ2 =>
    intro F2 H2 s2
    have s3 : Sta K F H2 σ ρ τ := s.unlend (G := F) s2 ⟨[], .refl _⟩
    exact g F H2 s3
end
section
variable {X : Cx} {W : WX} {e : Expr} {m : M C} {t : M Bool}
theorem d_lend (h : PE X e (tOf X.K W m)) : PE X e (tOf X.K W (eLend m)) := h.imp fun _ _ _ q => lend_ok q
theorem dt_lend (h : PT X e (bOf X.K W t)) : PT X e (bOf X.K W (bLend t)) := h.imp fun _ _ _ q => lendB_ok q
theorem dw_lend (h : PW X e (bOf X.K W t)) : PW X e (bOf X.K W (bLend t)) := h.imp fun _ _ _ q => lendB_ok q
end
end Dn

/-! Den12: defs that call themselves; lists within tuples that are changed. -/
namespace Dn
open PySem PySem.Spec PyProof.Rows L2
/-- nothing is promised -/
theorem fnSt {P : Program} {w : World} {K : PySem.W.Frag} {mg : Str → Option Value} {base : Heap} {cx : CXT} {k n : Nat} {f : Addr} {fd : FuncData} {ps : List Str} (h : ps.length = n) : FnG P w K mg base cx k f fd ps (spF K n stuck) :=
  ⟨fun vs H Q E z => z.1.trans h.symm, fun A outer s H args us vs Q E hr hg he hb hv z => by
    obtain ⟨_, _, _, _, _, _, _, g⟩ := z
    exact g.elim⟩
/-! a comprehension with a test -/
def lcF (vs : List Nat) (put : C → Rho → Option Rho) (t : M Bool) (el : M C) (d : D) (ρ : Rho) : R (Option C) := match put (.fz d) ρ with
  | none => .st
  | some ρ1 => (t ρ1).bind fun b ρ2 => if b then (el ρ2).bind fun c ρ3 => .ok (some c) (wipeR ρ3 vs) else .ok none (wipeR ρ2 vs)
@[simp] theorem lcF_ap (vs : List Nat) (put : C → Rho → Option Rho) (t : M Bool) (el : M C) (d : D) (ρ : Rho) : lcF vs put t el d ρ = match put (.fz d) ρ with
  | none => .st
  | some ρ1 => (t ρ1).bind fun b ρ2 => if b then (el ρ2).bind fun c ρ3 => .ok (some c) (wipeR ρ3 vs) else .ok none (wipeR ρ2 vs) := rfl
theorem lcF_cons {vs : List Nat} {put : C → Rho → Option Rho} {t : M Bool} {el : M C} {d : D} {ρ ρ' : Rho} {c : Option C} (h : lcF vs put t el d ρ = .ok c ρ') (ds : List D) (acc : List C) (hs : acc.length ≤ 1000000) :
    lcL vs put t el (d :: ds) acc ρ = lcL vs put t el ds (acc ++ c.toList) ρ' := by
  have e0 : lcL vs put t el (d :: ds) acc ρ = match put (.fz d) ρ with
    | none => .st
    | some ρ1 => match t ρ1 with
      | .ok true ρ2 => match el ρ2 with
        | .ok c ρ3 => if small acc.length then lcL vs put t el ds (acc ++ [c]) (wipeR ρ3 vs) else .st
        | _ => .st
      | .ok false ρ2 => lcL vs put t el ds acc (wipeR ρ2 vs)
      | _ => .st := rfl
  rw [e0]
  unfold lcF at h
  split at h
  · cases h
  · rename_i ρ1 e1
    generalize ht : t ρ1 = r at h
    cases r with
    | st => cases h
    | er _ _ => cases h
    | ok b ρ2 =>
      simp only [R.bind_ok] at h
      cases b with
      | true =>
        simp only [if_true] at h
        simp only
        generalize he : el ρ2 = r at h
        cases r with
        | st => cases h
        | er _ _ => cases h
        | ok c' ρ3 =>
          cases h
          simp only
          rw [if_pos (by simpa using hs)]
          rfl
      | false =>
        simp only [Bool.false_eq_true, if_false] at h
        cases h
        simp
theorem lcL_filtO {α : Type} {vs : List Nat} {put : C → Rho → Option Rho} {t : M Bool} {el : M C} (ρ0 : Rho) (G : α → D) (P : α → Bool) (F : α → C) (L : List α) (hl : L.length ≤ 1000000)
    (h : ∀ a ∈ L, lcF vs put t el (G a) ρ0 = .ok (if P a = true then some (F a) else none) ρ0) : lcL vs put t el (L.map G) [] ρ0 = .ok ((L.filter P).map F) ρ0 := by
  have key : ∀ (L : List α) (acc : List C), acc.length + L.length ≤ 1000000 → (∀ a ∈ L, lcF vs put t el (G a) ρ0 = .ok (if P a = true then some (F a) else none) ρ0) → lcL vs put t el (L.map G) acc ρ0 = .ok (acc ++ (L.filter P).map F) ρ0 := by
    intro L
    induction L with
    | nil => intro acc _ _; simp [lcL]
    | cons a L ih =>
      intro acc hl h
      simp only [List.length_cons] at hl
      rw [List.map_cons, lcF_cons (h a List.mem_cons_self) _ _ (by omega), ih _ (by split <;> simp <;> omega) fun x m => h x (List.mem_cons_of_mem _ m)]
      cases hP : P a <;> simp [List.filter_cons, hP]
  simpa using key L [] (by simpa using hl) h
end Dn

/-! Den13: dicts whose keys are ints and texts. -/
namespace Dn
open PySem PySem.Spec PyProof.Rows L2
/-! ### a displayed dict of constants -/
def scalV (d : D) : V := (scal d).getD .non
theorem tPairs_const : ∀ (kvs : List (Key × V)) (σ : L2.St) (H : Hp) (Q : List (V × V) → Hp → Prop), Q (kvs.map fun kv => (kV kv.1, kv.2)) H → tPairs (kvs.map fun kv => (tC (kV kv.1), tC kv.2)) σ H Q
  | [], _, _, _, q => q
  | kv :: kvs, σ, H, Q, q => tPairs_const kvs σ H (fun ps H3 => Q ((kV kv.1, kv.2) :: ps) H3) q
theorem upd_upd {H : Hp} {p : Addr} {a b : HO} : L2.upd (L2.upd H p a) p b = L2.upd H p b := by
  funext q
  by_cases h : q = p
  · subst h; rw [upd_same, upd_same]
  · rw [upd_ne h, upd_ne h, upd_ne h]
def kvV (kvs : List (Key × D)) : List (Key × V) := kvs.map fun kv => (kv.1, scalV kv.2)
theorem RepK.const {K : PySem.W.Frag} {F : Addr → Prop} {H : Hp} : ∀ {kvs : List (Key × D)}, (kvs.all fun kv => (scal kv.2).isSome) = true → RepK K F H (kvV kvs) kvs
  | [], _ => .nil
  | (k, d) :: kvs, h => by
    simp only [List.all_cons, Bool.and_eq_true] at h
    obtain ⟨v, hv⟩ := Option.isSome_iff_exists.mp h.1
    refine .cons (Rep.scal ?_) (RepK.const h.2)
    simp [scalV, hv]
section
variable {X : Cx} {W : WX} {pos : Pos} {keys : List (Option Expr)} {values : List Expr}
theorem Sta.mkD {K : PySem.W.Frag} {F : Addr → Prop} {H : Hp} {σ : L2.St} {ρ : Rho} {τ : List Pr} {p : Addr} {vs : List (Key × V)} {kvs : List (Key × D)} (s : Sta K F H σ ρ τ) (n : H p = none) (r : RepK K F H vs kvs) :
    Sta K F (L2.upd H p (.dK vs)) σ ρ ((some (.ref p), .od kvs) :: τ) := by
  have s1 : Sta K F (L2.upd H p (.dK vs)) σ ρ τ := s.upd n
  refine s.on fun l al => ?_
  refine All.mk (vs := []) (cs := []) (ps := τ ++ l) al rfl (by simp) n fun O rr => ?_
  cases rr
  refine .od upd_same (RepK.mono (fun a f => f) (fun a f => upd_ne fun e => ?_) r)
  exact s.dom a f (e ▸ n)
theorem d_disp (kvs : List (Key × D)) (h : PPs X pos keys values ((kvV kvs).map fun kv => (tC (kV kv.1), tC kv.2))) (hs : (kvs.all fun kv => (scal kv.2).isSome) = true := by rfl) (hm : mergeK [] (kvV kvs) = kvV kvs := by rfl)
    (hall : keys.all (·.isSome) = true := by rfl) (hl : keys.length = values.length := by rfl) (h0 : keys ≠ [] := by simp) (h15 : keys.length ≤ 15 := by decide) (hk : kvs.length ≤ 15 := by decide) :
    PE X (.Dict keys values pos) (tOf X.K W (retC (.od kvs))) := (pe_disp h hall hl h0 h15).imp fun σ H Q ⟨F, ρ, τ, s, g⟩ => by
  intro p hp
  refine tPairs_const _ _ _ _ ⟨upd_same, kvV kvs, rfl, by simpa [kvV] using hk, ?_⟩
  rw [upd_upd, hm]
  exact g _ F _ (by simp) (s.mkD hp (RepK.const hs))
theorem d_disp0 : PE X (.Dict [] [] pos) (tOf X.K W (retC (.od []))) := pe_dnewK.imp fun σ H Q ⟨F, ρ, τ, s, g⟩ => by
  intro p hp
  exact g _ F _ (by simp) (s.mkD hp .nil)

/-! ### what a dict holds -/
def keyD : D → Option Key
  | .int i => some (.inl i)
  | .str s => some (.inr s)
  | _ => none
theorem Rep.key {K : PySem.W.Frag} {F : Addr → Prop} {H : Hp} {v : V} {d : D} {k : Key} (r : Rep K F H v d) (h : keyD d = some k) : v = kV k := by
  cases d <;> simp only [keyD, Option.some.injEq, reduceCtorEq] at h <;> subst h
  · exact r.intv
  · exact r.strv
def valD (kvs : List (Key × D)) (k : Key) : Option D := (kvs.find? fun kv => decide (kv.1 = k)).map (·.2)
theorem RepK.val {K : PySem.W.Frag} {F : Addr → Prop} {H : Hp} {k : Key} : ∀ {vs : List (Key × V)} {kvs : List (Key × D)}, RepK K F H vs kvs → (∀ d, valD kvs k = some d → ∃ v, valV vs k = some v ∧ Rep K F H v d) ∧ (valD kvs k).isSome = (valV vs k).isSome
  | _, _, .nil => ⟨fun d h => by simp [valD] at h, rfl⟩
  | _, _, .cons (k := k') r rs => by
    obtain ⟨h1, h2⟩ := RepK.val (k := k) rs
    by_cases e : k' = k
    · simp only [valD, valV, List.find?_cons, e, decide_true] at *
      exact ⟨fun d h => ⟨_, rfl, by cases h; exact r⟩, rfl⟩
    · simp only [valD, valV, List.find?_cons, e, decide_false] at *
      exact ⟨h1, h2⟩
def odOf (c : Option C) : Option (List (Key × D)) := match c with
  | some (.od kvs) => some kvs
  | some (.fz (.dk kvs)) => some kvs
  | _ => none
theorem Sta.dict {K : PySem.W.Frag} {F : Addr → Prop} {H : Hp} {σ : L2.St} {ρ : Rho} {τ : List Pr} {i : Nat} {kvs : List (Key × D)} (s : Sta K F H σ ρ τ) (h : odOf ρ[i]? = some kvs) : ∃ a vs, σ[i]? = some (some (.ref a)) ∧ Rd H a (.dK vs) ∧ RepK K F H vs kvs := by
  cases e : ρ[i]? with
  | none => rw [e] at h; cases h
  | some c =>
    rw [e] at h
    cases c with
    | od ks =>
      cases h
      obtain ⟨v, ev, s2⟩ := s.get e (by simp)
      obtain ⟨O, r, _⟩ := s2.all
      cases r with
      | cons c _ =>
        cases c with
        | od e r => exact ⟨_, _, ev, .inl e, r⟩
    | fz d =>
      cases d <;> try cases h
      obtain ⟨v, ev, s2⟩ := s.get e (by simp)
      have r := s2.fzOf
      cases r with
      | dk _ e r => exact ⟨_, _, ev, e, r⟩
    | ow _ => cases h
    | tp _ => cases h
    | no => cases h
    | pl _ _ => cases h
    | wp _ _ _ => cases h
/-- d[k], the dict a name's -/
def eKxV (i : Nat) (m : M C) : M C := fun ρ => if (odOf ρ[i]?).isSome then (m ρ).bind fun c ρ => match odOf ρ[i]?, keyD (fzD c) with
  | some kvs, some k => match valD kvs k with
    | some d => .ok (.fz d) ρ
    | none => .st
  | _, _ => .st
  else .st
theorem d_kxV (i : Nat) {x : Str} {p : Pos} {b : Expr} {m : M C} (hu : X.A.units + 1 < cLine) (hb : PE X b (tOf X.K W m)) (hN : X.N[i]? = some x := by rfl) (hv : Vis X.env.scope x := by first | exact Or.inl rfl | exact Or.inr (Or.inl rfl) | exact Or.inr (Or.inr rfl)) (hd : (x == ("__debug__" : Str)) = false := by decide)
    (hcd : (x == ("__classdict__" : Str)) = false := by decide) (hs : NoSl b := by exact fun _ _ => rfl) : PE X (.Subscript (.Name x p) b pos) (tOf X.K W (eKxV i m)) :=
  (pe_dget hu (pe_var hN hv hd hcd) hb hs).imp fun σ H Q ⟨F, ρ, τ, s, g⟩ => by
    unfold eKxV at g
    split at g
    · rename_i ho
      obtain ⟨ks, hks⟩ := Option.isSome_iff_exists.mp ho
      obtain ⟨a, vs, ev, hv, hr⟩ := s.dict hks
      rw [Good.bind] at g
      refine ⟨.ref a, ev, run1 s (g.imp (fun c ρ1 q w F1 H1 s1 => ?_) fun _ _ q => q)⟩
      split at q
      · rename_i kvs k hkv hk
        obtain ⟨a', vs', ev', hv', hr'⟩ := s1.dict hkv
        rw [ev] at ev'
        cases ev'
        split at q
        · rename_i d hd
          obtain ⟨v, e1, e2⟩ := hr'.val.1 d hd
          refine ⟨a, v, rfl, .inl ⟨vs', k, hv', s1.fzOf.key hk, e1.symm⟩, q v F1 H1 (by simp) (s1.drop.push e2)⟩
        · exact q.elim
      · exact q.elim
    · exact g.elim
end
@[simp] theorem eKxV_ap (i : Nat) (m : M C) (ρ : Rho) : eKxV i m ρ = if (odOf ρ[i]?).isSome then (m ρ).bind fun c ρ => match odOf ρ[i]?, keyD (fzD c) with
  | some kvs, some k => match valD kvs k with
    | some d => .ok (.fz d) ρ
    | none => .st
  | _, _ => .st
  else .st := rfl
@[simp] theorem odOf_od (kvs : List (Key × D)) : odOf (some (.od kvs)) = some kvs := rfl
@[simp] theorem odOf_dk (kvs : List (Key × D)) : odOf (some (.fz (.dk kvs))) = some kvs := rfl
@[simp] theorem keyD_i (i : Int) : keyD (.int i) = some (.inl i) := rfl
@[simp] theorem keyD_s (i : Str) : keyD (.str i) = some (.inr i) := rfl
end Dn

/-! Den14: lists within lists and tuples, changed by a path. -/
namespace Dn
open PySem PySem.Spec PyProof.Rows L2
/-! ### the cell's side -/
def upC (f : List C → Option (List C)) : List Int → C → Option C
  | [], .ow cs => (f cs).map .ow
  | j :: js, .ow cs => (ixN cs.length j).bind fun k => (cs[k]?).bind fun c => (upC f js c).map fun c' => .ow (cs.set k c')
  | j :: js, .tp cs => (ixN cs.length j).bind fun k => (cs[k]?).bind fun c => (upC f js c).map fun c' => .tp (cs.set k c')
  | _, _ => none
/-- what f does to the cells, fV does to the values -/
structure MutOk (f : List C → Option (List C)) (fV : List V → List V) : Prop where
  go : ∀ {K : PySem.W.Frag} {F : Addr → Prop} {H : Hp} {vs : List V} {cs cs' : List C} {O : List Addr}, RepCs K F H vs cs O → f cs = some cs' → ∃ O', RepCs K F H (fV vs) cs' O' ∧ O'.Sublist O
  sz : ∀ {cs cs' : List C}, f cs = some cs' → cs.length ≤ 1000000
def pushF (d : D) (cs : List C) : Option (List C) := if small cs.length then some (cs ++ [.fz d]) else none
def clrF (cs : List C) : Option (List C) := if small cs.length then some [] else none
theorem mut_push {d : D} {v : V} (h : scal d = some v) : MutOk (pushF d) (fun vs => vs ++ [v]) where
  go := fun r e => by
    unfold pushF at e
    split at e <;> cases e
    exact ⟨_, r.snoc (.fz (Rep.scal h)), by simp⟩
  sz := fun e => by
    unfold pushF at e
    split at e
    · rename_i hs; simpa using small_le hs
    · cases e
theorem mut_clr : MutOk clrF (fun _ => []) where
  go := fun r e => by
    unfold clrF at e
    split at e <;> cases e
    exact ⟨[], .nil, by simp⟩
  sz := fun e => by
    unfold clrF at e
    split at e
    · rename_i hs; simpa using small_le hs
    · cases e
/-! ### the value's side -/
def Item (K : PySem.W.Frag) (H : Hp) (v : V) (j : Int) (u : V) : Prop := ∃ p vs, v = .ref p ∧ (SqL K H p vs ∨ SqT K H p vs) ∧ L2.atI vs j = some u
def NavV (K : PySem.W.Frag) (H : Hp) : V → List Int → V → Prop
  | v, [], u => v = u
  | v, j :: js, u => ∃ w, Item K H v j w ∧ NavV K H w js u
section
variable {K : PySem.W.Frag} {F : Addr → Prop} {H : Hp}
theorem RepCs.focus : ∀ {vs : List V} {cs : List C} {O : List Addr} {k : Nat} {c : C}, RepCs K F H vs cs O → cs[k]? = some c →
    ∃ v A Ok B, vs[k]? = some v ∧ O = A ++ (Ok ++ B) ∧ RepC K F H v c Ok ∧ ∀ (H' : Hp) (c' : C) (Ok' : List Addr), (∀ a, F a → H' a = H a) → (∀ a ∈ A, H' a = H a) → (∀ a ∈ B, H' a = H a) → RepC K F H' v c' Ok' → RepCs K F H' vs (cs.set k c') (A ++ (Ok' ++ B))
  | _, _, _, _, _, .nil, h => by simp at h
  | _, _, _, 0, _, .cons (O := O1) (O' := O2) r rs, h => by
    simp at h; subst h
    exact ⟨_, [], O1, O2, rfl, rfl, r, fun H' c' Ok' h0 _ h2 r' => by
      simpa using RepCs.cons r' (RepCs.mono (fun _ f => f) h0 rs h2)⟩
  | _, _, _, k + 1, _, .cons (O := O1) (O' := O2) r rs, h => by
    obtain ⟨v, A, Ok, B, e1, e2, e3, e4⟩ := rs.focus (k := k) (by simpa using h)
    refine ⟨v, O1 ++ A, Ok, B, by simpa using e1, by rw [e2, List.append_assoc], e3, fun H' c' Ok' h0 h1 h2 r' => ?_⟩
    rw [List.append_assoc]
    exact RepCs.cons (RepC.mono (fun _ f => f) h0 r fun a m => h1 a (List.mem_append_left _ m)) (e4 H' c' Ok' h0 (fun a m => h1 a (List.mem_append_right _ m)) h2 r')
theorem ixN_atI {α : Type} {l : List α} {j : Int} {k : Nat} {a : α} {n : Nat} (hn : n = l.length) (h : ixN n j = some k) (e : l[k]? = some a) : L2.atI l j = some a := by
  subst hn
  unfold L2.atI; rw [h]; exact e
theorem upC_ok {f : List C → Option (List C)} {fV : List V → List V} (M : MutOk f fV) : ∀ {js : List Int} {v : V} {c c' : C} {O : List Addr}, RepC K F H v c O → O.Nodup → (∀ a ∈ O, ¬ F a) → upC f js c = some c' →
    ∃ a ws, NavV K H v js (.ref a) ∧ H a = some (.lst ws) ∧ a ∈ O ∧ ws.length ≤ 1000000 ∧ ∃ O', RepC K F (L2.upd H a (.lst (fV ws))) v c' O' ∧ O'.Sublist O
  | [], v, c, c', O, r, nd, nf, e => by
    cases r with
    | @ow a ws cs O1 ea rc =>
      simp only [upC, Option.map_eq_some_iff] at e
      obtain ⟨cs', e1, rfl⟩ := e
      obtain ⟨O', r', sub⟩ := M.go rc e1
      have hsz := M.sz e1
      obtain ⟨nd1, nd2⟩ := List.nodup_cons.mp nd
      have hF : ∀ b, F b → L2.upd H a (.lst (fV ws)) b = H b := fun b fb => upd_ne fun z => nf a List.mem_cons_self (z ▸ fb)
      refine ⟨a, ws, rfl, ea, List.mem_cons_self, by rw [rc.len]; exact hsz, a :: O', .ow upd_same (RepCs.mono (fun _ f => f) hF r' fun b m => upd_ne fun z => nd1 (z ▸ sub.subset m)), List.Sublist.cons₂ a sub⟩
    | _ => simp [upC] at e
  | j :: js, v, c, c', O, r, nd, nf, e => by
    have core : ∀ {p : Addr} {vs : List V} {cs : List C} {O1 : List Addr} {k : Nat} {c1 c1' : C}, RepCs K F H vs cs O1 → (p :: O1).Nodup → (∀ a ∈ p :: O1, ¬ F a) → ixN cs.length j = some k → cs[k]? = some c1 → upC f js c1 = some c1' → (SqL K H p vs ∨ SqT K H p vs) →
        ∃ a ws, NavV K H (.ref p) (j :: js) (.ref a) ∧ H a = some (.lst ws) ∧ a ∈ O1 ∧ a ≠ p ∧ ws.length ≤ 1000000 ∧ ∃ O', RepCs K F (L2.upd H a (.lst (fV ws))) vs (cs.set k c1') O' ∧ O'.Sublist O1 := by
      intro p vs cs O1 k c1 c1' rc nd nf hk hc hu hs
      obtain ⟨nd1, nd2⟩ := List.nodup_cons.mp nd
      obtain ⟨v1, A, Ok, B, e1, e2, e3, e4⟩ := rc.focus hc
      subst e2
      obtain ⟨na, nkb, dis⟩ := List.nodup_append.mp nd2
      obtain ⟨nk, nb, dis2⟩ := List.nodup_append.mp nkb
      obtain ⟨a, ws, nav, ha, ma, hz, O', r', sub⟩ := upC_ok M e3 nk (fun b m => nf b (List.mem_cons_of_mem _ (List.mem_append_right _ (List.mem_append_left _ m)))) hu
      have mem : a ∈ A ++ (Ok ++ B) := List.mem_append_right _ (List.mem_append_left _ ma)
      refine ⟨a, ws, ⟨v1, ⟨p, vs, rfl, hs, ixN_atI rc.len.symm hk e1⟩, nav⟩, ha, mem, fun z => nd1 (z ▸ mem), hz, A ++ (O' ++ B), e4 _ c1' O' (fun b fb => upd_ne fun z => nf a (List.mem_cons_of_mem _ mem) (z ▸ fb)) (fun b m => upd_ne fun z => ?_) (fun b m => upd_ne fun z => ?_) r', (List.Sublist.refl _).append (sub.append (List.Sublist.refl _))⟩
      · exact dis b m a (List.mem_append_left _ ma) z
      · exact dis2 a ma b m z.symm
    cases r with
    | @ow p vs cs O1 ep rc =>
      simp only [upC, Option.bind_eq_some_iff, Option.map_eq_some_iff] at e
      obtain ⟨k, hk, c1, hc, c1', hu, rfl⟩ := e
      obtain ⟨a, ws, nav, ha, ma, ne, hz, O', r', sub⟩ := core rc nd nf hk hc hu (.inl (.of ep))
      exact ⟨a, ws, nav, ha, List.mem_cons_of_mem _ ma, hz, p :: O', .ow ((upd_ne (Ne.symm ne)).trans ep) r', List.Sublist.cons₂ p sub⟩
    | @tp p vs cs O1 ep rc =>
      simp only [upC, Option.bind_eq_some_iff, Option.map_eq_some_iff] at e
      obtain ⟨k, hk, c1, hc, c1', hu, rfl⟩ := e
      obtain ⟨a, ws, nav, ha, ma, ne, hz, O', r', sub⟩ := core rc nd nf hk hc hu (.inr (.of ep))
      exact ⟨a, ws, nav, ha, List.mem_cons_of_mem _ ma, hz, p :: O', .tp ((upd_ne (Ne.symm ne)).trans ep) r', List.Sublist.cons₂ p sub⟩
    | _ => simp [upC] at e
/-- in hand -/
theorem All.up {f : List C → Option (List C)} {fV : List V → List V} (M : MutOk f fV) {js : List Int} {v : V} {c c' : C} {ps : List Pr} (al : All K F H ((some v, c) :: ps)) (e : upC f js c = some c') :
    ∃ a ws, NavV K H v js (.ref a) ∧ H a = some (.lst ws) ∧ ws.length ≤ 1000000 ∧ All K F (L2.upd H a (.lst (fV ws))) ((some v, c') :: ps) := by
  obtain ⟨O, r, nd, nf, dm⟩ := al
  cases r with
  | no r => cases js <;> simp [upC] at e
  | @cons _ _ _ O1 O2 rc r =>
    obtain ⟨n1, n2, n3⟩ := List.nodup_append.mp nd
    obtain ⟨a, ws, nav, ha, ma, hz, O', r', sub⟩ := upC_ok M rc n1 (fun b m => nf b (List.mem_append_left _ m)) e
    have hF : ∀ b, F b → L2.upd H a (.lst (fV ws)) b = H b := fun b fb => upd_ne fun z => nf a (List.mem_append_left _ ma) (z ▸ fb)
    refine ⟨a, ws, nav, ha, hz, O' ++ O2, .cons r' (RepP.mono (fun _ f => f) hF r fun b m => upd_ne fun z => n3 a ma b m z.symm), (sub.append (List.Sublist.refl _)).nodup nd, fun b m => nf b ((sub.append (List.Sublist.refl _)).subset m), fun b fb => by rw [hF b fb]; exact dm b fb⟩
theorem Sta.up {f : List C → Option (List C)} {fV : List V → List V} (M : MutOk f fV) {js : List Int} {σ : L2.St} {ρ : Rho} {τ : List Pr} {i : Nat} {c c' : C} (s : Sta K F H σ ρ τ) (hi : ρ[i]? = some c) (e : upC f js c = some c') :
    ∃ v a ws, σ[i]? = some (some v) ∧ NavV K H v js (.ref a) ∧ H a = some (.lst ws) ∧ ws.length ≤ 1000000 ∧ Sta K F (L2.upd H a (.lst (fV ws))) σ (ρ.set i c') τ := by
  have hc : c ≠ .no := by rintro rfl; cases js <;> simp [upC] at e
  obtain ⟨v, ev, s2⟩ := s.get hi hc
  obtain ⟨a, ws, nav, ha, hz, al⟩ := All.up M (ps := τ ++ σ.zip (ρ.set i .no)) s2.all e
  refine ⟨v, a, ws, ev, nav, ha, hz, ?_⟩
  have s3 : Sta K F (L2.upd H a (.lst (fV ws))) σ (ρ.set i .no) ((some v, c') :: τ) := .of s2.1 al
  have s4 := s3.back ev
  rwa [List.set_set] at s4
end
/-! ### where a path leads, in the text -/
/-- the steps of a path: a number, or a name's number -/
inductive Stp where
  | c (j : Int) | v (k : Nat)
def stpS (σ : L2.St) : Stp → Option Int
  | .c j => some j
  | .v k => match σ[k]? with
    | some (some (.int j)) => some j
    | _ => none
def stpR (ρ : Rho) : Stp → Option Int
  | .c j => some j
  | .v k => match ρ[k]? with
    | some (.fz (.int j)) => some j
    | _ => none
def stpsR (ρ : Rho) : List Stp → Option (List Int)
  | [] => some []
  | s :: ss => (stpR ρ s).bind fun j => (stpsR ρ ss).map (j :: ·)
def stpsS (σ : L2.St) : List Stp → Option (List Int)
  | [] => some []
  | s :: ss => (stpS σ s).bind fun j => (stpsS σ ss).map (j :: ·)
theorem stpR_S {K : PySem.W.Frag} {F : Addr → Prop} {H : Hp} {σ : L2.St} {ρ : Rho} {τ : List Pr} (s : Sta K F H σ ρ τ) : ∀ {st : Stp} {j : Int}, stpR ρ st = some j → stpS σ st = some j
  | .c j', j, h => h
  | .v k, j, h => by
    simp only [stpR] at h
    split at h
    · rename_i j' hk
      cases h
      obtain ⟨v, ev, s2⟩ := s.get hk (by simp)
      have := s2.fzOf.intv
      subst this
      simp only [stpS]; rw [ev]
    · cases h
theorem stpsR_S {K : PySem.W.Frag} {F : Addr → Prop} {H : Hp} {σ : L2.St} {ρ : Rho} {τ : List Pr} (s : Sta K F H σ ρ τ) : ∀ {ss : List Stp} {js : List Int}, stpsR ρ ss = some js → stpsS σ ss = some js
  | [], js, h => h
  | st :: ss, js, h => by
    simp only [stpsR, Option.bind_eq_some_iff, Option.map_eq_some_iff] at h
    obtain ⟨j, h1, js', h2, rfl⟩ := h
    simp [stpsS, stpR_S s h1, stpsR_S s h2]
/-- the expression e leads from slot i along ss -/
structure PathE (X : Cx) (e : Expr) (i : Nat) (ss : List Stp) : Prop where
  ex : ∃ te, PE X e te ∧ ∀ σ H Q v js u, σ[i]? = some (some v) → stpsS σ ss = some js → NavV X.K H v js u → Q u H → te σ H Q
section
variable {X : Cx} {W : WX} {e : Expr} {pos apos cpos p : Pos} {i : Nat} {ss : List Stp}
theorem path_var (i : Nat) {x : Str} (hN : X.N[i]? = some x := by rfl) (hv : Vis X.env.scope x := by first | exact Or.inl rfl | exact Or.inr (Or.inl rfl) | exact Or.inr (Or.inr rfl)) (hd : (x == ("__debug__" : Str)) = false := by decide)
    (hcd : (x == ("__classdict__" : Str)) = false := by decide) : PathE X (.Name x p) i [] :=
  ⟨_, pe_var hN hv hd hcd, fun σ H Q v js u ev hj nav q => by cases hj; cases nav; exact ⟨v, ev, q⟩⟩
theorem NavV.snoc {K : PySem.W.Frag} {H : Hp} : ∀ {js : List Int} {v u : V} {j : Int}, NavV K H v (js ++ [j]) u → ∃ w, NavV K H v js w ∧ Item K H w j u
  | [], v, u, j, ⟨w, h, e⟩ => by
    cases (show w = u from e)
    exact ⟨v, rfl, h⟩
  | j' :: js, v, u, j, ⟨w, h, h2⟩ => by
    obtain ⟨w', h3, h4⟩ := NavV.snoc h2
    exact ⟨w', ⟨w, h, h3⟩, h4⟩
theorem stpsS_snoc {σ : L2.St} {st : Stp} : ∀ {ss : List Stp} {js : List Int}, stpsS σ (ss ++ [st]) = some js → ∃ js' j, stpsS σ ss = some js' ∧ stpS σ st = some j ∧ js = js' ++ [j]
  | [], js, h => by
    simp only [List.nil_append, stpsS, Option.bind_eq_some_iff, Option.map_eq_some_iff] at h
    obtain ⟨j, h1, js', h2, rfl⟩ := h
    cases h2
    exact ⟨[], j, rfl, h1, rfl⟩
  | s :: ss, js, h => by
    simp only [List.cons_append, stpsS, Option.bind_eq_some_iff, Option.map_eq_some_iff] at h
    obtain ⟨j, h1, js', h2, rfl⟩ := h
    obtain ⟨js2, j2, k1, k2, rfl⟩ := stpsS_snoc h2
    exact ⟨j :: js2, j2, by simp [stpsS, h1, k1], k2, rfl⟩
theorem item_ix {K : PySem.W.Frag} {H : Hp} {w u : V} {j : Int} {Q : VK} (h : Item K H w j u) (q : Q u H) : rIx K w (.int j) H Q := by
  obtain ⟨p, vs, rfl, hs | hs, ha⟩ := h
  · exact .inl ⟨p, vs, j, u, rfl, rfl, hs, ha, q⟩
  · exact .inr (.inl ⟨p, vs, j, u, rfl, rfl, hs, ha, q⟩)
theorem path_c {j : Int} {jj} {kp : Pos} (h : PathE X e i ss) : PathE X (.Subscript e (.Constant (.int j) jj kp) pos) i (ss ++ [.c j]) := by
  obtain ⟨te, he, hq⟩ := h.ex
  refine ⟨_, pe_ix ix_seq he pe_int (fun _ _ => rfl), fun σ H Q v js u ev hj nav q => ?_⟩
  obtain ⟨js', j', h1, h2, rfl⟩ := stpsS_snoc hj
  cases h2
  obtain ⟨w, n1, n2⟩ := NavV.snoc nav
  exact hq σ H _ v js' w ev h1 n1 (item_ix n2 q)
theorem path_n (k : Nat) {x : Str} {kp : Pos} (h : PathE X e i ss) (hN : X.N[k]? = some x := by rfl) (hv : Vis X.env.scope x := by first | exact Or.inl rfl | exact Or.inr (Or.inl rfl) | exact Or.inr (Or.inr rfl)) (hd : (x == ("__debug__" : Str)) = false := by decide)
    (hcd : (x == ("__classdict__" : Str)) = false := by decide) : PathE X (.Subscript e (.Name x kp) pos) i (ss ++ [.v k]) := by
  obtain ⟨te, he, hq⟩ := h.ex
  refine ⟨_, pe_ix ix_seq he (pe_var hN hv hd hcd) (fun _ _ => rfl), fun σ H Q v js u ev hj nav q => ?_⟩
  obtain ⟨js', j', h1, h2, rfl⟩ := stpsS_snoc hj
  obtain ⟨w, n1, n2⟩ := NavV.snoc nav
  refine hq σ H _ v js' w ev h1 n1 ?_
  simp only [stpS] at h2
  split at h2
  · rename_i j2 hk
    cases h2
    exact ⟨_, hk, item_ix n2 q⟩
  · cases h2
/-- the statement at the values' side -/
def tMutV (K : PySem.W.Frag) (i : Nat) (ss : List Stp) (fV : List V → List V) : TS := fun D σ H => ∃ v js a ws, σ[i]? = some (some v) ∧ stpsS σ ss = some js ∧ NavV K H v js (.ref a) ∧ H a = some (.lst ws) ∧ ws.length ≤ 1000000 ∧ D.nx σ (L2.upd H a (.lst (fV ws)))
theorem ps_push {x : Expr} {v : V} (h : PathE X e i ss) (hx : PE X x (tC v)) (hs : swapsWith (.Call (.Attribute e "append" apos) [x] [] cpos) none pos.line X.env = pure false := by rfl)
    (hbase : attributeBase e "append" X.env (eval e X.env) = eval e X.env := by rfl)
    (hfew : ((backTo cpos (starEach [x] X.env)).all (fun x => !x.1) && (backToKw cpos (keywordEach [] X.env)).all (fun x => x.1.isSome) && decide ([x].length + ([] : List Keyword).length + (if ([] : List Keyword).isEmpty then 0 else 1) < 30)) = true := by rfl)
    (hline : (apos.endLine == cpos.line) = true := by rfl) (hst : starEach [x] X.env = (false, eval x X.env) :: starEach [] X.env := by rfl) (hplain : (backTo cpos (starEach [] X.env)).any (·.1) = false := by rfl) :
    PS X (.Expr (.Call (.Attribute e "append" apos) [x] [] cpos) pos) (tMutV X.K i ss fun vs => vs ++ [v]) := by
  obtain ⟨te, he, hq⟩ := h.ex
  refine (ps_expr (pe_bm PySem.F.plainAttrs_list PySem.F.slot_list_append PySem.F.type_list_append mt_append he (pa_cons hx pa_nil hst) hbase hfew hline hst hplain) hs).imp fun D σ H ⟨v0, js, a, ws, ev, hj, nav, ha, hz, q⟩ => ?_
  refine hq σ H _ v0 js (.ref a) ev hj nav ⟨.inl ⟨rfl, ws, .of ha⟩, ?_⟩
  exact ⟨a, ws, v, rfl, rfl, ha, by rw [sizeLine_eq]; omega, q⟩
theorem ps_clear (h : PathE X e i ss) (hs : swapsWith (.Call (.Attribute e "clear" apos) [] [] cpos) none pos.line X.env = pure false := by rfl)
    (hbase : attributeBase e "clear" X.env (eval e X.env) = eval e X.env := by rfl) (hline : (apos.endLine == cpos.line) = true := by rfl) :
    PS X (.Expr (.Call (.Attribute e "clear" apos) [] [] cpos) pos) (tMutV X.K i ss fun _ => []) := by
  obtain ⟨te, he, hq⟩ := h.ex
  refine (ps_expr (pe_bm0 PySem.F.plainAttrs_list PySem.F.slot_list_clear PySem.F.type_list_clear mt_clear he hbase hline) hs).imp fun D σ H ⟨v0, js, a, ws, ev, hj, nav, ha, hz, q⟩ => ?_
  exact hq σ H _ v0 js (.ref a) ev hj nav ⟨.inl ⟨rfl, ws, .of ha⟩, a, ws, rfl, rfl, ha, q⟩
/-- .. and at the cells' -/
def sMut (i : Nat) (ss : List Stp) (f : List C → Option (List C)) : SM := fun ρ => match ρ[i]?, stpsR ρ ss with
  | some c, some js => match upC f js c with
    | some c' => .nx (ρ.set i c')
    | none => .st
  | _, _ => .st
theorem ds_mut {st : Stmt} {f : List C → Option (List C)} {fV : List V → List V} (M : MutOk f fV) (h : PS X st (tMutV X.K i ss fV)) : PS X st (sOf X.K W (sMut i ss f)) := h.imp fun D σ H ⟨F, ρ, τ, s, g⟩ => by
  unfold sMut at g
  split at g
  · rename_i c js hc hj
    split at g
    · rename_i c' hu
      obtain ⟨v, a, ws, ev, nav, ha, hz, s2⟩ := s.up M hc hu
      exact ⟨v, js, a, ws, ev, stpsR_S s hj, nav, ha, hz, g σ F _ s2⟩
    · exact g.elim
  · exact g.elim
end
end Dn

/-! Den15: for p in xs: p[..].append(..), the lists within all items changed. -/
namespace Dn
open PySem PySem.Spec PyProof.Rows L2
def upAll (f : List C → Option (List C)) (js : List Int) : List C → Option (List C)
  | [] => some []
  | c :: cs => (upC f js c).bind fun c' => (upAll f js cs).map (c' :: ·)
theorem upAll_get {f : List C → Option (List C)} {js : List Int} : ∀ {cs cs' : List C}, upAll f js cs = some cs' → cs'.length = cs.length ∧ ∀ (n : Nat) (c : C), cs[n]? = some c → ∃ c', cs'[n]? = some c' ∧ upC f js c = some c'
  | [], cs', h => by cases h; exact ⟨rfl, by simp⟩
  | c :: cs, cs', h => by
    simp only [upAll, Option.bind_eq_some_iff, Option.map_eq_some_iff] at h
    obtain ⟨c', h1, cs2, h2, rfl⟩ := h
    obtain ⟨k1, k2⟩ := upAll_get h2
    refine ⟨by simp [k1], fun n d e => ?_⟩
    cases n with
    | zero => simp at e; subst e; exact ⟨c', rfl, h1⟩
    | succ n => exact k2 n d (by simpa using e)
section
variable {K : PySem.W.Frag} {F : Addr → Prop} {H : Hp}
theorem RepP.memOw : ∀ {ps : List Pr} {O : List Addr} {p : Addr} {cs : List C}, RepP K F H ps O → (some (.ref p), .ow cs) ∈ ps → p ∈ O
  | _, _, _, _, .nil, m => nomatch m
  | _, _, _, _, .no r, m => by
    rcases List.mem_cons.mp m with h | h
    · cases h
    · exact RepP.memOw r h
  | _, _, _, _, .cons c r, m => by
    rcases List.mem_cons.mp m with h | h
    · cases h
      cases c with
      | ow _ _ => exact List.mem_append_left _ List.mem_cons_self
    · exact List.mem_append_right _ (RepP.memOw r h)
theorem Sta.upAt {f : List C → Option (List C)} {fV : List V → List V} (M : MutOk f fV) {js : List Int} {σ : L2.St} {ρ : Rho} {τ : List Pr} {i n : Nat} {cs : List C} {c c' : C} (s : Sta K F H σ ρ τ) (hi : ρ[i]? = some (.ow cs)) (hn : cs[n]? = some c) (e : upC f js c = some c') :
    ∃ p vs v a ws, σ[i]? = some (some (.ref p)) ∧ H p = some (.lst vs) ∧ vs[n]? = some v ∧ NavV K H v js (.ref a) ∧ H a = some (.lst ws) ∧ ws.length ≤ 1000000 ∧ a ≠ p ∧ (∀ q cs2, (some (.ref q), .ow cs2) ∈ τ ++ σ.zip (ρ.set i .no) → a ≠ q) ∧ Sta K F (L2.upd H a (.lst (fV ws))) σ (ρ.set i (.ow (cs.set n c'))) τ := by
  obtain ⟨v0, ev, s2⟩ := s.get hi (by simp)
  obtain ⟨O, r, nd, nf, dm⟩ := s2.all
  cases r with
  | @cons _ _ _ O1 O2 rc r =>
    cases rc with
    | @ow p vs _ Oc ep rcs =>
      obtain ⟨n1, n2, n3⟩ := List.nodup_append.mp nd
      obtain ⟨nd1, nd2⟩ := List.nodup_cons.mp n1
      obtain ⟨v1, A, Ok, B, e1, e2, e3, e4⟩ := rcs.focus hn
      subst e2
      obtain ⟨na, nkb, dis⟩ := List.nodup_append.mp nd2
      obtain ⟨nk, nb, dis2⟩ := List.nodup_append.mp nkb
      have inO : ∀ b, b ∈ Ok → b ∈ (p :: (A ++ (Ok ++ B))) ++ O2 := fun b m => List.mem_append_left _ (List.mem_cons_of_mem _ (List.mem_append_right _ (List.mem_append_left _ m)))
      obtain ⟨a, ws, nav, ha, ma, hz, O', r', sub⟩ := upC_ok M e3 nk (fun b m => nf b (inO b m)) e
      have mem : a ∈ A ++ (Ok ++ B) := List.mem_append_right _ (List.mem_append_left _ ma)
      have hap : a ≠ p := fun z => nd1 (z ▸ mem)
      have hF : ∀ b, F b → L2.upd H a (.lst (fV ws)) b = H b := fun b fb => upd_ne fun z => nf a (inO a ma) (z ▸ fb)
      have rcs' := e4 (L2.upd H a (.lst (fV ws))) c' O' hF (fun b m => upd_ne fun z => dis b m a (List.mem_append_left _ ma) z) (fun b m => upd_ne fun z => dis2 a ma b m z.symm) r'
      have sub2 : (p :: (A ++ (O' ++ B)) ++ O2).Sublist (p :: (A ++ (Ok ++ B)) ++ O2) := (List.Sublist.cons₂ p ((List.Sublist.refl _).append (sub.append (List.Sublist.refl _)))).append (List.Sublist.refl _)
      have al : All K F (L2.upd H a (.lst (fV ws))) ((some (.ref p), .ow (cs.set n c')) :: (τ ++ σ.zip (ρ.set i .no))) := by
        refine ⟨_, .cons (.ow ((upd_ne (Ne.symm hap)).trans ep) rcs') (RepP.mono (fun _ f => f) hF r fun b m => upd_ne fun z => n3 a (List.mem_cons_of_mem _ mem) b m z.symm), sub2.nodup nd, fun b m => nf b (sub2.subset m), fun b fb => by rw [hF b fb]; exact dm b fb⟩
      refine ⟨p, vs, v1, a, ws, ev, ep, e1, nav, ha, hz, hap, fun q cs2 hm z => n3 a (List.mem_cons_of_mem _ mem) q (RepP.memOw r hm) z, ?_⟩
      have s3 : Sta K F (L2.upd H a (.lst (fV ws))) σ (ρ.set i .no) ((some (.ref p), .ow (cs.set n c')) :: τ) := .of s2.1 al
      have s4 := s3.back ev
      rwa [List.set_set] at s4
end
theorem stpsS_c (σ : L2.St) : ∀ js : List Int, stpsS σ (js.map .c) = some js
  | [] => rfl
  | j :: js => by simp [stpsS, stpS, stpsS_c σ js]
/-- for p in xs: the path's list of p changed -/
def sSpo (i j : Nat) (js : List Int) (f : List C → Option (List C)) : SM := fun ρ => match ρ[i]? with
  | some (.ow cs) => match upAll f js cs with
    | some cs' => if i ≠ j ∧ j < ρ.length then .nx ((ρ.set i (.ow cs')).set j .no) else .st
    | none => .st
  | _ => .st
section
variable {X : Cx} {W : WX} {p pos tpos : Pos} {i j : Nat} {js : List Int} {st : Stmt} {f : List C → Option (List C)} {fV : List V → List V}
theorem mix_set {cs cs' : List C} (hl : cs'.length = cs.length) {n : Nat} {c' : C} (h : cs'[n]? = some c') : (cs'.take n ++ cs.drop n).set n c' = cs'.take (n + 1) ++ cs.drop (n + 1) := by
  have hn : n < cs'.length := (List.getElem?_eq_some_iff.mp h).1
  apply List.ext_getElem?
  intro k
  by_cases hk : k = n
  · subst hk
    rw [List.getElem?_set_self (by simp; omega), List.getElem?_append_left (by simp; omega), List.getElem?_take, if_pos (by omega), h]
  · rw [List.getElem?_set_ne (by omega)]
    by_cases h2 : k < n
    · rw [List.getElem?_append_left (by simp; omega), List.getElem?_append_left (by simp; omega), List.getElem?_take, List.getElem?_take, if_pos h2, if_pos (by omega)]
    · rw [List.getElem?_append_right (by simp; omega), List.getElem?_append_right (by simp; omega), List.getElem?_drop, List.getElem?_drop]
      congr 1
      simp; omega
theorem ds_spo (M : MutOk f fV) (i j : Nat) (js : List Int) {x y : Str} (hb : PS X st (tMutV X.K j (js.map .c) fV)) (hN : X.N.Nodup) (hi : X.N[i]? = some x := by rfl) (hv : Vis X.env.scope x := by first | exact Or.inl rfl | exact Or.inr (Or.inl rfl) | exact Or.inr (Or.inr rfl)) (hd : (x == ("__debug__" : Str)) = false := by decide)
    (hcd : (x == ("__classdict__" : Str)) = false := by decide) (hj : X.N[j]? = some y := by rfl) (hy : Loc X.env.scope y := by first | exact Or.inl rfl | exact Or.inr rfl) (hf : X.fn y = true ∨ X.env.scope.names.lookup y = some .local := by first | exact .inl rfl | exact .inr rfl)
    (hp : PassesOwn (model X.prog X.w) X.A X.env X.xe := by exact PassesOwn.never) (hc : X.calm = true := by rfl) (hs : ∀ z, foldedSetIterable (.Name x p) X.env z = pure z := by intro _; rfl) :
    PS X (.For (.Name y tpos) (.Name x p) [st] [] pos) (sOf X.K W (sSpo i j js f)) :=
  (ps_for hp hc (pi_list (pe_var hi hv hd hcd)) (pg_name hN hj hy hf) (pss_one hb) hs).imp fun D σ H ⟨F, ρ, τ, s, g⟩ => by
    unfold sSpo at g
    split at g
    · rename_i cs ec
      split at g
      · rename_i cs' hu
        split at g
        · rename_i hij
          obtain ⟨hne, hlt⟩ := hij
          obtain ⟨hl, hget⟩ := upAll_get hu
          obtain ⟨v, ev, s1⟩ := s.get ec (by simp)
          obtain ⟨a, vs, O, rfl, ha, rc⟩ := s1.owOf
          have hvl : vs.length = cs.length := rc.len
          refine ⟨.ref a, ev, a, rfl, ⟨vs, .of ha⟩, fun n m σ H => m = cs.length - n ∧ n ≤ cs.length ∧ σ[i]? = some (some (.ref a)) ∧ H a = some (.lst vs) ∧ ∃ F, Sta X.K F H σ ((ρ.set i (.ow (cs'.take n ++ cs.drop n))).set j .no) τ,
            ⟨_, rfl, Nat.zero_le _, ?_⟩, ?_⟩
          · refine ⟨ev, ha, F, ?_⟩
            have e0 : ρ.set i (.ow (cs'.take 0 ++ cs.drop 0)) = ρ := by
              obtain ⟨h1, h2⟩ := List.getElem?_eq_some_iff.mp ec
              simp [← h2]
            rw [e0]
            exact s.setNo j
          · rintro n m σ H ⟨rfl, hn, ei, ea, F, s⟩
            by_cases hlt2 : n < cs.length
            · obtain ⟨c', hc', huc⟩ := hget n _ (List.getElem?_eq_getElem hlt2)
              have hvn : vs[n]? = some vs[n] := List.getElem?_eq_getElem (by omega)
              refine .inr ⟨⟨vs, vs[n], .of ea, hvn⟩, fun σ' H' => n + 1 ≤ cs.length ∧ σ'[i]? = some (some (.ref a)) ∧ H' a = some (.lst vs) ∧ ∃ F, Sta X.K F H' σ' ((ρ.set i (.ow (cs'.take (n + 1) ++ cs.drop (n + 1)))).set j .no) τ, fun σ' H' h => ⟨_, by omega, rfl, h⟩, fun x' H' y' => ?_⟩
              obtain ⟨rfl, y'⟩ := y'
              have := y' vs (.of ea)
              rw [hvn] at this
              cases this
              have s2 := s.setX j (some vs[n])
              rw [List.set_set] at s2
              have hri : ((ρ.set i (.ow (cs'.take n ++ cs.drop n))).set j .no)[i]? = some (.ow (cs'.take n ++ cs.drop n)) := by
                have : i < ρ.length := (List.getElem?_eq_some_iff.mp ec).1
                rw [List.getElem?_set_ne (Ne.symm hne), List.getElem?_set_self this]
              have hmid : (cs'.take n ++ cs.drop n)[n]? = some cs[n] := by
                rw [List.getElem?_append_right (by simp; omega), List.getElem?_drop]
                have : n + (n - (cs'.take n).length) = n := by simp; omega
                rw [this]
                exact List.getElem?_eq_getElem hlt2
              obtain ⟨p', vs', v', b, ws, ep, hp', hvn', nav, hb', hz, hbp, _, s3⟩ := s2.upAt M hri hmid huc
              have hlen : σ.length = ρ.length := by have := s.1; simpa using this
              have ej : (σ.set j (some vs[n]))[j]? = some (some vs[n]) := List.getElem?_set_self (by omega)
              have ei2 : (σ.set j (some vs[n]))[i]? = some (some (.ref a)) := by rw [List.getElem?_set_ne (Ne.symm hne)]; exact ei
              rw [ei2] at ep
              cases ep
              rw [ea] at hp'
              cases hp'
              rw [hvn] at hvn'
              cases hvn'
              refine ⟨vs[n], js, b, ws, ej, stpsS_c _ js, nav, hb', hz, hlt2, ei2, (upd_ne (Ne.symm hbp)).trans ea, F, ?_⟩
              rw [List.set_comm _ _ (Ne.symm hne), List.set_set, mix_set hl hc'] at s3
              exact s3
            · have e : n = cs.length := by omega
              subst e
              refine .inl ⟨⟨vs, .of ea, by omega⟩, ?_⟩
              have : cs'.take cs.length ++ cs.drop cs.length = cs' := by rw [List.drop_length, List.append_nil, ← hl, List.take_length]
              rw [this] at s
              exact g σ F H s
        · exact g.elim
      · exact g.elim
    · exact g.elim
end
end Dn

/-! Den16: for p in xs + ys: p[..].append(..). -/
namespace Dn
open PySem PySem.Spec PyProof.Rows L2
def sSpo2 (i k j : Nat) (js : List Int) (f : List C → Option (List C)) : SM := fun ρ => match ρ[i]?, ρ[k]? with
  | some (.ow cs), some (.ow ds) => match upAll f js cs, upAll f js ds with
    | some cs', some ds' => if (i ≠ j ∧ k ≠ j ∧ i ≠ k) ∧ j < ρ.length ∧ cs.length + ds.length ≤ 1000000 then .nx (((ρ.set i (.ow cs')).set k (.ow ds')).set j .no) else .st
    | _, _ => .st
  | _, _ => .st
def obs (vs : List V) : List C := vs.map fun v => .fz (.ob v)
section
variable {K : PySem.W.Frag} {F : Addr → Prop} {H : Hp} {σ : L2.St} {ρ : Rho} {τ : List Pr}
theorem RepCs.obs : ∀ {vs ws : List V} {O : List Addr}, RepCs K F H ws (Dn.obs vs) O → ws = vs
  | [], _, _, .nil => rfl
  | v :: vs, _, _, .cons r rs => by
    have := rs.obs
    cases r with
    | fz r => rw [r.obv, this]
theorem Sta.obs {L : Addr} {vs : List V} (s : Sta K F H σ ρ ((some (.ref L), .ow (Dn.obs vs)) :: τ)) : H L = some (.lst vs) := by
  obtain ⟨a, ws, O, e, ha, rc⟩ := s.owOf
  cases e
  rw [ha, rc.obs]
theorem Sta.mkObs {L : Addr} {vs : List V} (s : Sta K F H σ ρ τ) (n : H L = none) : Sta K F (L2.upd H L (.lst vs)) σ ρ ((some (.ref L), .ow (Dn.obs vs)) :: τ) := by
  have go : ∀ vs : List V, Sta K F H σ ρ (tmps vs (Dn.obs vs) ++ τ) := by
    intro vs
    induction vs with
    | nil => exact s
    | cons v vs ih => exact ih.push (.ob v)
  refine (go vs).on fun l al => ?_
  rw [List.append_assoc] at al
  exact al.mkL (by simp [Dn.obs]) (by simp [Dn.obs]) n
end
section
variable {X : Cx} {W : WX} {p q pos tpos bpos : Pos} {st : Stmt} {f : List C → Option (List C)} {fV : List V → List V}
theorem ds_spo2 (M : MutOk f fV) (i k j : Nat) (js : List Int) {x z y : Str} (hb : PS X st (tMutV X.K j (js.map .c) fV)) (hN : X.N.Nodup) (hi : X.N[i]? = some x := by rfl) (hk : X.N[k]? = some z := by rfl) (hv : Vis X.env.scope x := by first | exact Or.inl rfl | exact Or.inr (Or.inl rfl) | exact Or.inr (Or.inr rfl))
    (hv2 : Vis X.env.scope z := by first | exact Or.inl rfl | exact Or.inr (Or.inl rfl) | exact Or.inr (Or.inr rfl)) (hd : (x == ("__debug__" : Str)) = false := by decide) (hcd : (x == ("__classdict__" : Str)) = false := by decide) (hd2 : (z == ("__debug__" : Str)) = false := by decide) (hcd2 : (z == ("__classdict__" : Str)) = false := by decide)
    (hj : X.N[j]? = some y := by rfl) (hy : Loc X.env.scope y := by first | exact Or.inl rfl | exact Or.inr rfl) (hf : X.fn y = true ∨ X.env.scope.names.lookup y = some .local := by first | exact .inl rfl | exact .inr rfl)
    (hp : PassesOwn (model X.prog X.w) X.A X.env X.xe := by exact PassesOwn.never) (hc : X.calm = true := by rfl) (hs : ∀ u, foldedSetIterable (.BinOp (.Name x p) .Add (.Name z q) bpos) X.env u = pure u := by intro _; rfl) :
    PS X (.For (.Name y tpos) (.BinOp (.Name x p) .Add (.Name z q) bpos) [st] [] pos) (sOf X.K W (sSpo2 i k j js f)) :=
  (ps_for hp hc (pi_list (pe_op op_addAll (pe_var hi hv hd hcd) (pe_var hk hv2 hd2 hcd2))) (pg_name hN hj hy hf) (pss_one hb) hs).imp fun D σ H ⟨F, ρ, τ, s, g⟩ => by
    unfold sSpo2 at g
    split at g
    · rename_i cs ds ec ed
      split at g
      · rename_i cs' ds' hu hu2
        split at g
        · rename_i hij
          obtain ⟨⟨n1, n2, n3⟩, hlt, hsz⟩ := hij
          obtain ⟨hl, hget⟩ := upAll_get hu
          obtain ⟨hl2, hget2⟩ := upAll_get hu2
          obtain ⟨v, ev, s1⟩ := s.get ec (by simp)
          obtain ⟨a, vs, O, rfl, ha, rc⟩ := s1.owOf
          obtain ⟨v2, ev2, s12⟩ := s.get ed (by simp)
          obtain ⟨b, ws, O2, rfl, hb', rc2⟩ := s12.owOf
          have hvl : vs.length = cs.length := rc.len
          have hwl : ws.length = ds.length := rc2.len
          refine ⟨.ref a, ev, .ref b, ev2, .inr (.inl ⟨a, b, vs, ws, rfl, rfl, ha, hb', by rw [sizeLine_eq]; omega, fun L hL => ?_⟩)⟩
          have s2 := s.mkObs (vs := vs ++ ws) hL
          have haL : a ≠ L := fun e => by rw [e, hL] at ha; cases ha
          have hbL : b ≠ L := fun e => by rw [e, hL] at hb'; cases hb'
          let R : Nat → Rho := fun n => ((ρ.set i (.ow (cs'.take n ++ cs.drop n))).set k (.ow (ds'.take (n - cs.length) ++ ds.drop (n - cs.length)))).set j .no
          refine ⟨L, rfl, ⟨_, .of upd_same⟩, fun n m σ H => m = cs.length + ds.length - n ∧ n ≤ cs.length + ds.length ∧ σ[i]? = some (some (.ref a)) ∧ σ[k]? = some (some (.ref b)) ∧ H a = some (.lst vs) ∧ H b = some (.lst ws) ∧ ∃ F, Sta X.K F H σ (R n) ((some (.ref L), .ow (Dn.obs (vs ++ ws))) :: τ),
            ⟨_, rfl, Nat.zero_le _, ev, ev2, (upd_ne haL).trans ha, (upd_ne hbL).trans hb', F, ?_⟩, ?_⟩
          · have e0 : ρ.set i (.ow (cs'.take 0 ++ cs.drop 0)) = ρ := by
              obtain ⟨h1, h2⟩ := List.getElem?_eq_some_iff.mp ec
              simp [← h2]
            have e1 : ρ.set k (.ow (ds'.take (0 - cs.length) ++ ds.drop (0 - cs.length))) = ρ := by
              obtain ⟨h1, h2⟩ := List.getElem?_eq_some_iff.mp ed
              simp [← h2]
            show Sta X.K F _ σ (R 0) _
            simp only [R]
            rw [e0, e1]
            exact s2.setNo j
          · rintro n m σ H ⟨rfl, hn, ei, ek, ea, eb, F, s⟩
            have eL := s.obs
            have hlen : σ.length = ρ.length := by have := s.1; simpa [R] using this
            have hil : i < ρ.length := (List.getElem?_eq_some_iff.mp ec).1
            have hkl : k < ρ.length := (List.getElem?_eq_some_iff.mp ed).1
            by_cases hlt2 : n < cs.length + ds.length
            · have hvn : (vs ++ ws)[n]? = some ((vs ++ ws)[n]'(by simp; omega)) := List.getElem?_eq_getElem _
              generalize (vs ++ ws)[n]'(by simp; omega) = u at hvn
              refine .inr ⟨⟨vs ++ ws, u, .of eL, hvn⟩, fun σ' H' => n + 1 ≤ cs.length + ds.length ∧ σ'[i]? = some (some (.ref a)) ∧ σ'[k]? = some (some (.ref b)) ∧ H' a = some (.lst vs) ∧ H' b = some (.lst ws) ∧ ∃ F, Sta X.K F H' σ' (R (n + 1)) ((some (.ref L), .ow (Dn.obs (vs ++ ws))) :: τ), fun σ' H' h => ⟨_, by omega, rfl, h⟩, fun x' H' y' => ?_⟩
              obtain ⟨rfl, y'⟩ := y'
              have hy := y' (vs ++ ws) (.of eL)
              rw [hvn] at hy
              cases hy
              have s3 := s.setX j (some u)
              have eR : (R n).set j .no = R n := by simp only [R]; rw [List.set_set]
              rw [eR] at s3
              have ej : (σ.set j (some u))[j]? = some (some u) := List.getElem?_set_self (by omega)
              have ei2 : (σ.set j (some u))[i]? = some (some (.ref a)) := by rw [List.getElem?_set_ne (Ne.symm n1)]; exact ei
              have ek2 : (σ.set j (some u))[k]? = some (some (.ref b)) := by rw [List.getElem?_set_ne (Ne.symm n2)]; exact ek
              have hri : (R n)[i]? = some (.ow (cs'.take n ++ cs.drop n)) := by simp only [R]; rw [List.getElem?_set_ne (Ne.symm n1), List.getElem?_set_ne (Ne.symm n3), List.getElem?_set_self hil]
              have hrk : (R n)[k]? = some (.ow (ds'.take (n - cs.length) ++ ds.drop (n - cs.length))) := by simp only [R]; rw [List.getElem?_set_ne (Ne.symm n2), List.getElem?_set_self (by simpa using hkl)]
              have mL : ∀ l : List Pr, (some (.ref L), C.ow (Dn.obs (vs ++ ws))) ∈ ((some (.ref L), C.ow (Dn.obs (vs ++ ws))) :: τ) ++ l := fun l => List.mem_cons_self
              by_cases hc1 : n < cs.length
              · obtain ⟨c', hc', huc⟩ := hget n _ (List.getElem?_eq_getElem hc1)
                have hmid : (cs'.take n ++ cs.drop n)[n]? = some cs[n] := by
                  rw [List.getElem?_append_right (by simp; omega), List.getElem?_drop]
                  have : n + (n - (cs'.take n).length) = n := by simp; omega
                  rw [this]
                  exact List.getElem?_eq_getElem hc1
                obtain ⟨p', vs', v', d, xs, ep, hp', hvn', nav, hd', hz, hdp, hall, s4⟩ := s3.upAt M hri hmid huc
                rw [ei2] at ep
                cases ep
                rw [ea] at hp'
                cases hp'
                rw [List.getElem?_append_left (by omega), hvn'] at hvn
                cases hvn
                have hdb : d ≠ b := hall b _ (List.mem_append_right _ (List.mem_of_getElem? (i := k) (zip_at ek2 (by rw [List.getElem?_set_ne n3]; exact hrk))))
                refine ⟨u, js, d, xs, ej, stpsS_c _ js, nav, hd', hz, hlt2, ei2, ek2, (upd_ne (Ne.symm hdp)).trans ea, (upd_ne (Ne.symm hdb)).trans eb, F, ?_⟩
                have : (R n).set i (.ow ((cs'.take n ++ cs.drop n).set n c')) = R (n + 1) := by
                  simp only [R]
                  rw [List.set_comm _ _ (Ne.symm n1), List.set_comm _ _ (Ne.symm n3), List.set_set, mix_set hl hc', show n - cs.length = 0 by omega, show n + 1 - cs.length = 0 by omega]
                rw [this] at s4
                exact s4
              · obtain ⟨c', hc', huc⟩ := hget2 (n - cs.length) _ (List.getElem?_eq_getElem (by omega))
                have hmid : (ds'.take (n - cs.length) ++ ds.drop (n - cs.length))[n - cs.length]? = some (ds[n - cs.length]'(by omega)) := by
                  rw [List.getElem?_append_right (by simp; omega), List.getElem?_drop]
                  have : (n - cs.length) + ((n - cs.length) - (ds'.take (n - cs.length)).length) = n - cs.length := by simp; omega
                  rw [this]
                  exact List.getElem?_eq_getElem _
                obtain ⟨p', vs', v', d, xs, ep, hp', hvn', nav, hd', hz, hdp, hall, s4⟩ := s3.upAt M hrk hmid huc
                rw [ek2] at ep
                cases ep
                rw [eb] at hp'
                cases hp'
                rw [List.getElem?_append_right (by omega), hvl, hvn'] at hvn
                cases hvn
                have hda : d ≠ a := hall a _ (List.mem_append_right _ (List.mem_of_getElem? (i := i) (zip_at ei2 (by rw [List.getElem?_set_ne (Ne.symm n3)]; exact hri))))
                refine ⟨u, js, d, xs, ej, stpsS_c _ js, nav, hd', hz, hlt2, ei2, ek2, (upd_ne (Ne.symm hda)).trans ea, (upd_ne (Ne.symm hdp)).trans eb, F, ?_⟩
                have : (R n).set k (.ow ((ds'.take (n - cs.length) ++ ds.drop (n - cs.length)).set (n - cs.length) c')) = R (n + 1) := by
                  simp only [R]
                  rw [List.set_comm _ _ (Ne.symm n2), List.set_set, mix_set hl2 hc', show n + 1 - cs.length = n - cs.length + 1 by omega]
                  rw [show cs'.take n ++ cs.drop n = cs'.take (n + 1) ++ cs.drop (n + 1) by
                    rw [List.drop_of_length_le (by omega), List.drop_of_length_le (by omega), List.take_of_length_le (by omega), List.take_of_length_le (by omega)]]
                rw [this] at s4
                exact s4
            · have e : n = cs.length + ds.length := by omega
              subst e
              refine .inl ⟨⟨vs ++ ws, .of eL, by simp; omega⟩, ?_⟩
              have : R (cs.length + ds.length) = ((ρ.set i (.ow cs')).set k (.ow ds')).set j .no := by
                simp only [R]
                rw [List.drop_of_length_le (by omega), List.append_nil, List.take_of_length_le (by omega), List.drop_of_length_le (by omega), List.append_nil, List.take_of_length_le (by omega)]
              rw [this] at s
              exact g σ F H s.drop
        · exact g.elim
      · exact g.elim
    · exact g.elim
end
@[simp] theorem neD_b (b c : Bool) : neD (.bl b) (.bl c) = some (.bl (!decide (b = c))) := rfl
end Dn

/-! Den17: an own error over ValueError (by own classes between), whose __init__ says super().__init__(text) and perhaps self.f = f: made, raised. -/
namespace PySem
namespace ExD
open PySem.W PySem.Calls PyProof.Rows PySem.HandSPX
def xA0 (p1 : Pos) : Arguments := { posonlyargs := [], args := [{ arg := "self", annotation := none, pos := p1 }], vararg := none, kwonlyargs := [], kw_defaults := [], kwarg := none, defaults := [] }
def xA1 (f : Str) (p1 p2 : Pos) : Arguments := { posonlyargs := [], args := [{ arg := "self", annotation := none, pos := p1 }, { arg := f, annotation := none, pos := p2 }], vararg := none, kwonlyargs := [], kw_defaults := [], kwarg := none, defaults := [] }
def xSup (txt : Str) (j : Nat) (q1 q2 q3 q4 q5 q6 : Pos) : Stmt := .Expr (.Call (.Attribute (.Call (.Name "super" q1) [] [] q2) "__init__" q3) [.Constant (.str txt) j q4] [] q5) q6
def xSt (f : Str) (q1 q2 q3 q4 : Pos) : Stmt := .Assign [.Attribute (.Name "self" q1) f q2] (.Name f q3) q4
def xS0 : Scope := { kind := .function, names := [(PySem.Str.ofString "self", .local), (PySem.Str.ofString "__class__", .free), (PySem.Str.ofString "super", .globalImplicit)], isGenerator := false, isCoroutine := false, more := [] }
def xS1 (f : Str) : Scope := { kind := .function, names := [(PySem.Str.ofString "self", .local), (f, .local), (PySem.Str.ofString "__class__", .free), (PySem.Str.ofString "super", .globalImplicit)], isGenerator := false, isCoroutine := false, more := [] }
/-- what the written part says of such a class, at C, its __init__ at fI -/
structure ExTxt (prog : Program) (K : Frag) (mg : Str → Option Value) (cn qn : Str) (C fI : Addr) (args : Arguments) (body : List Stmt) (sc : Scope) : Prop where
  gC : mg cn = some (.ref C)
  cls : ∃ nm q N bs bm sn sub ab col dd k0 k1 k2 k3 k5, K.lookup C = some (excClassObj nm q C N bs bm true sn sub ab col dd k0 k1 k2 k3 k5 "ValueError.__new__") ∧ refsVE bm = true
  sa : findIn K (.ref C) "__setattr__" = some (some (.builtin "object.__setattr__"))
  iC : findIn K (.ref C) "__init__" = some (some (.ref fI))
  tC : typeIn K (.ref fI) = some (.type "function")
  kC : keepIn K (.ref C) = true
  exC : subIn K (.ref C) (.type "BaseException") = some true
  exV : subIn K (.ref C) (.type "ValueError") = some true
  tyC : typeIn K (.ref C) = some (.type "type")
  sup : ks_superIn K C C "__init__" = some (some (.builtin "ValueError.__init__"))
  opq : nsIn K cStatics "thirdparty.any" = some none
  top : (prog.main.scope.names.lookup ("super" : Str)).isSome = false
  fn : ∃ (oc : Value) (od : Option Addr) (doc pm : Value) (an : Option Addr) (cda : Addr) (ct : Value) (osl : Array (Option Value)) (cc : Addr), K.lookup fI = some ⟨oc, od, .func (ksFn "__init__" qn args body sc .none .none doc pm an (.ref cda) ct cc), osl⟩ ∧ codeIn K (.ref cda) qn = true ∧
    (∃ (ccl : Value) (cdd : Option Addr) (vs : Array Value) (ccs : Array (Option Value)) (file : Str) (tf : Tok), K.lookup cda = some ⟨ccl, cdd, .fields vs, ccs⟩ ∧ vs[2]? = some (.str file tf) ∧ ((prog.main.file : Str) == file) = true) ∧
    ∃ (cl : Value) (cld : Option Addr) (csl : Array (Option Value)), K.lookup cc = some ⟨cl, cld, .cell (some (.ref C)), csl⟩
theorem one_size (v : Value) : [v].length ≤ sizeLine := by
  rw [sizeLine_eq]
  exact (by decide : 1 ≤ 16777216)
section
variable {prog : Program} {w : World} {A : Around} {E : Value → Shared → Prop} {R : Result → Shared → Prop} {s : Shared} {K : Frag} {mg mb : Str → Option Value} {cn qn : Str} {C fI : Addr} {args : Arguments} {body : List Stmt} {sc : Scope}
/-- ValueError.__init__ bound to an instance, called -/
theorem call_mw {h : Heap} {g : Array GenState} {d : Drawn} {t : Nat} {os : OsState} {nm q : Str} {N : Addr} {bs bm : List Value} {hdct : Bool} {sn : List Str} {sub : List Value} {ab : Bool} {col : Option Bool} {dd : Option Addr} {k0 k1 k2 k3 k5 : Option Value} {u e t0 : Addr} {rest : List Value} {Q : Value → Shared → Prop}
    (hC : h.get? C = some (excClassObj nm q C N bs bm hdct sn sub ab col dd k0 k1 k2 k3 k5 "ValueError.__new__")) (he : h.get? e = some (excO C t0)) (hu : h.get? u = some (kxs_mw "ValueError.__init__" e)) (hrest : rest.length ≤ sizeLine)
    (hq : ∀ h' t1, (∀ b o, b ≠ e → h.get? b = some o → h'.get? b = some o) → h'.get? e = some (excO C t1) → Q .none ⟨h', g, d, t, os⟩) :
    wpAny (model prog w) A (call (.ref u) rest) Q E ⟨h, g, d, t, os⟩ := by
  refine wpAny_call (codeAny_of_tree ?_)
  show wpAny _ A.in1 (callAny (.ref u) ⟨rest, []⟩) _ _ _
  simp only [callAny]
  refine wpAny_bind (wpAny_load hu ?_)
  simp only [kxs_mw, show (Value.type "method-wrapper" == Value.type "method" || Value.type "method-wrapper" == Value.type "builtin_function_or_method" || Value.type "method-wrapper" == Value.type "method-wrapper") = true by decide, if_true]
  refine KFB.if_so (by decide) ?_
  refine wpAny_bind (check_bound_init F.excBase_ValueError.toExcCallFacts hC he rfl ?_)
  refine wpAny_bind (wpAny_pure (wpAny_pure ?_))
  refine ⟨Code.quiet_builtin _ (by decide +kernel), codeAny_builtin F.excBase_ValueError.initEntry ?_⟩
  rw [Around.under_plainId F.excBase_ValueError.init.plain _]
  wp_walk
  refine hq _ h.objs.size (fun b o hb ho => ?_) ?_
  · rw [Heap.get?_update_other _ _ (Ne.symm hb)]
    exact Heap.get?_push_of_some _ ho
  · rw [Heap.get?_update_self _ (Heap.get?_push_of_some _ he) rfl]
    rfl
/-- super().__init__(text) -/
theorem sup_walk (T : ExTxt prog K mg cn qn C fI args body sc) {h : Heap} {g : Array GenState} {d : Drawn} {t : Nat} {os : OsState} {L x t0 : Addr} {cda cc : Addr} {oc : Value} {od : Option Addr} {doc pm ct : Value} {an : Option Addr} {osl : Array (Option Value)} {m : Str → Option Value} {txt : Str} {j : Nat} {q1 q2 q3 q4 q5 q6 : Pos} {Q : Flow → Shared → Prop} {bd : List Stmt}
    (hfn : K.lookup fI = some ⟨oc, od, .func (ksFn "__init__" qn args body sc .none .none doc pm an (.ref cda) ct cc), osl⟩)
    (hcode : ∃ (ccl : Value) (cdd : Option Addr) (vs : Array Value) (ccs : Array (Option Value)) (file : Str) (tf : Tok), K.lookup cda = some ⟨ccl, cdd, .fields vs, ccs⟩ ∧ vs[2]? = some (.str file tf) ∧ ((prog.main.file : Str) == file) = true)
    (hcell : ∃ (cl : Value) (cld : Option Addr) (csl : Array (Option Value)), K.lookup cc = some ⟨cl, cld, .cell (some (.ref C)), csl⟩)
    (X : K.In h) (hg : h.Ns mainGlobals mg) (hb : h.Ns builtinsNs mb) (hsup : mg "super" = none) (hbs : mb "super" = some (.type "super")) (hn : h.Ns L m) (hv : m "self" = some (.ref x)) (hx : h.get? x = some (excO C t0))
    (hp : (args.posonlyargs ++ args.args).head? = some { arg := "self", annotation := none, pos := (args.args.head?.map (·.pos)).getD q1 })
    (hi : interactive (ksEnv qn sc L fI (.ref cda) cc) = false) (hsw : swapsWith (.Call (.Attribute (.Call (.Name "super" q1) [] [] q2) "__init__" q3) [.Constant (.str txt) j q4] [] q5) none q6.line (ksEnv qn sc L fI (.ref cda) cc) = pure false)
    {pl : Sem Bool} (he : eval (.Call (.Attribute (.Call (.Name "super" q1) [] [] q2) "__init__" q3) [.Constant (.str txt) j q4] [] q5) (ksEnv qn sc L fI (.ref cda) cc) = (do
      let ov ← attributeBase (.Call (.Name "super" q1) [] [] q2) "__init__" (ksEnv qn sc L fI (.ref cda) cc) (eval (.Call (.Name "super" q1) [] [] q2) (ksEnv qn sc L fI (.ref cda) cc))
      standAt q3.atName
      let (f, first) ← holding [ov] (getMethod ov "__init__" pl)
      callWith q5 f first (backTo q5 (starEach [.Constant (.str txt) j q4] (ksEnv qn sc L fI (.ref cda) cc))) []))
    (hks : sc.names.lookup ("super" : Str) = some .globalImplicit) (hkc : sc.names.lookup ("__class__" : Str) = some .free) (hka : sc.names.lookup ("self" : Str) = some .local) (hk : sc.kind = .function)
    (hq : ∀ h' t' t1, (∀ b o, b ≠ x → h.get? b = some o → h'.get? b = some o) → h'.get? x = some (excO C t1) → Q .next ⟨h', g, d, t', os⟩) :
    _root_.PySem.wpAt (model prog w) A (.func bd (ksEnv qn sc L fI (.ref cda) cc)) (exec (xSup txt j q1 q2 q3 q4 q5 q6) (ksEnv qn sc L fI (.ref cda) cc)) Q E ⟨h, g, d, t, os⟩ := by
  obtain ⟨nm, q, N, bs, bm, sn, sub, ab, col, dd, k0, k1, k2, k3, k5, hC, hbm⟩ := T.cls
  have hcl : clsIn K C = some { name := nm, bases := bs, mro := .ref C :: bm, ns := N, qualname := q, hasDict := true, slotNames := sn, subclasses := sub, abstract := ab, collection := col, hasDel := false } := by unfold clsIn; rw [hC] <;> rfl
  obtain ⟨ccl, cdd, vs, ccs, file, tf, hc1, hc2, hc3⟩ := hcode
  obtain ⟨cl, cld, csl, hcc⟩ := hcell
  have hCg := X _ _ hC
  refine ks_wpAt_Expr_any (ks_wpAt_MethodCall ?_ he) hi hsw
  refine ks_wpAt_super_base (env := ksEnv qn sc L fI (.ref cda) cc) hks hkc (by decide) rfl (X _ _ hfn) rfl hp rfl (X _ _ hc1) rfl hc2 hc3 T.top ?_
  refine ks_loadName_global hk hks (loadGlobal_builtin (env := ksEnv qn sc L fI (.ref cda) cc) hg hsup hb hbs ⟨rfl, ?_⟩)
  refine wpAny_loadName_free hk hkc rfl ⟨_, X _ _ hcc, rfl⟩ ?_
  refine wpAny_loadName_local hk hka hn hv ?_
  refine ks_wpAny_isType_cls hCg rfl ⟨rfl, ?_⟩
  have hsubC : mroIn K C (.ref C) = some true := by
    unfold mroIn
    rw [hcl, Option.bind_some]
    simp
  refine ks_wpAny_call_super hCg rfl hx rfl (fun c e => by cases e) (looks_mroIn X hsubC) (fun h1 e1 k1' => ?_)
  have X1 := X.keeps k1'
  have hx1 := k1' _ _ hx
  have I1 : InstAt h1 x (excO C t0) C none := ⟨hx1, rfl, rfl, trivial⟩
  have hI : Looks (model prog w) h1 (isInstance (.ref x) (.type "ValueError")) true := I1.type.andThen (looks_subIn X1 T.exV)
  have hs := T.sup
  unfold ks_superIn at hs
  rw [hcl] at hs
  refine kxs_getMethod kxs_ValueError e1 (looks_opaque X1 T.opq) (l₀ := .ref C :: bm) ?_ rfl X1 hs hI (ks_ne X1 I1 hcl) (by decide) ?_
  · exact fun A Q E s k q => wpAny_bind ((looks_clsIn X1 hcl) A _ E s k (wpAny_pure q))
  · have k2' : ∀ b o, h1.get? b = some o → (h1.push (kxs_mw "ValueError.__init__" x)).get? b = some o := fun b o e => Heap.get?_push_of_some _ e
    have hu : (h1.push (kxs_mw "ValueError.__init__" x)).get? h1.objs.size = some (kxs_mw "ValueError.__init__" x) := Heap.get?_push_at rfl rfl
    show wpAny _ _ (callWith q5 (.ref h1.objs.size) [] ((false, eval (.Constant (.str txt) j q4) (ksEnv qn sc L fI (.ref cda) cc)) :: []) []) _ _ _
    refine kxs_callWith (i := "ValueError.__init__") (x := x) rfl ?_
    refine evalArgs_plain (spliced_cons (wpAny_Constant_str (spliced_nil ?_)))
    refine ⟨hu, ?_⟩
    refine call_mw (k2' _ _ (k1' _ _ hCg)) (k2' _ _ hx1) hu (one_size _) fun h' t1 kk hx' => ?_
    exact hq h' _ t1 (fun b o hb' ho => kk b o hb' (k2' _ _ (k1' _ _ ho))) hx'
end
/-- the shape of such an __init__ -/
structure ShX (qn : Str) (args : Arguments) (body : List Stmt) (sc : Scope) (fo : Option Str) : Prop where
  ex : ∃ (txt : Str) (j : Nat) (q1 q2 q3 q4 q5 q6 : Pos) (rest : List Stmt) (pl : Sem Bool), body = xSup txt j q1 q2 q3 q4 q5 q6 :: rest ∧
    (args.posonlyargs ++ args.args).head? = some { arg := "self", annotation := none, pos := (args.args.head?.map (·.pos)).getD q1 } ∧
    (∀ L fI cda cc, interactive (ksEnv qn sc L fI (.ref cda) cc) = false ∧ swapsWith (.Call (.Attribute (.Call (.Name "super" q1) [] [] q2) "__init__" q3) [.Constant (.str txt) j q4] [] q5) none q6.line (ksEnv qn sc L fI (.ref cda) cc) = pure false ∧
      eval (.Call (.Attribute (.Call (.Name "super" q1) [] [] q2) "__init__" q3) [.Constant (.str txt) j q4] [] q5) (ksEnv qn sc L fI (.ref cda) cc) = (do
        let ov ← attributeBase (.Call (.Name "super" q1) [] [] q2) "__init__" (ksEnv qn sc L fI (.ref cda) cc) (eval (.Call (.Name "super" q1) [] [] q2) (ksEnv qn sc L fI (.ref cda) cc))
        standAt q3.atName
        let (f, first) ← holding [ov] (getMethod ov "__init__" pl)
        callWith q5 f first (backTo q5 (starEach [.Constant (.str txt) j q4] (ksEnv qn sc L fI (.ref cda) cc))) [])) ∧
    match fo with
    | none => rest = []
    | some f => ∃ r1 r2 r3 r4, rest = [xSt f r1 r2 r3 r4] ∧ ∀ L fI cda cc, swapsWith (.Name f r3) (some (.Attribute (.Name "self" r1) f r2)) r4.line (ksEnv qn sc L fI (.ref cda) cc) = pure false
  hks : sc.names.lookup ("super" : Str) = some .globalImplicit
  hkc : sc.names.lookup ("__class__" : Str) = some .free
  hka : sc.names.lookup ("self" : Str) = some .local
  hk : sc.kind = .function
  hco : sc.isCoroutine = false
  hge : sc.isGenerator = false
  ncell : ∀ x ∈ sc.names, x.2 ≠ .cell
  bind : ∀ (s : Shared) (doc pm ct : Value) (an : Option Addr) (cda cc : Addr) (x v : Value), match fo with
    | none => BindsTo s (ksFn "__init__" qn args body sc .none .none doc pm an (.ref cda) ct cc) ⟨[x], []⟩ [("self", x)]
    | some f => BindsTo s (ksFn "__init__" qn args body sc .none .none doc pm an (.ref cda) ct cc) ⟨[x, v], []⟩ [("self", x), (f, v)]
  fd : match fo with
    | none => True
    | some f => sc.names.lookup f = some .local ∧ (f == ("__debug__" : Str)) = false ∧ f ≠ "self"
section
variable {prog : Program} {w : World} {A : Around} {E : Value → Shared → Prop} {R : Result → Shared → Prop} {s : Shared} {K : Frag} {mg mb : Str → Option Value} {cn qn : Str} {C fI : Addr} {args : Arguments} {body : List Stmt} {sc : Scope}
theorem ex_init0 (T : ExTxt prog K mg cn qn C fI args body sc) (S : ShX qn args body sc none) {x t0 : Addr} (X : K.In s.heap) (hg : s.heap.Ns mainGlobals mg) (hb : s.heap.Ns builtinsNs mb) (hsup : mg "super" = none) (hbs : mb "super" = some (.type "super")) (hlim : s.heap.NoLimit)
    (hx : s.heap.get? x = some (excO C t0)) (hroom : A.depth < recursionLimit)
    (hq : ∀ h' tk t1, (∀ b o, b ≠ x → s.heap.get? b = some o → h'.get? b = some o) → h'.get? x = some (excO C t1) → R (.ok (.ret .none)) { s with heap := h', toks := tk }) :
    codeAny (model prog w) A (.call (.ref fI) ⟨[.ref x], []⟩) R s := by
  obtain ⟨oc, od, doc, pm, an, cda, ct, osl, cc, hfn, hcd, hcode, hcell⟩ := T.fn
  obtain ⟨txt, j, q1, q2, q3, q4, q5, q6, rest, pl, hbody, hp, hev, hrest⟩ := S.ex
  have hrest : rest = [] := hrest
  subst hrest
  refine ks_codeAny_call_defAt (body := body) (binds := [("self", .ref x)]) hroom (X _ _ hfn) rfl hlim (codeRec_of X hcd) rfl (S.bind s doc pm ct an cda cc (.ref x) .none) S.ncell (fun y hy => by simp at hy; subst hy; exact S.hka) (fun h₀ hns k => ?_) S.hco S.hge S.hk
  show _root_.PySem.wpAt (model prog w) (A.deeper (ksEnv qn sc s.heap.objs.size fI (.ref cda) cc)) (.func body (ksEnv qn sc s.heap.objs.size fI (.ref cda) cc)) (execs body (ksEnv qn sc s.heap.objs.size fI (.ref cda) cc)) _ _ _
  obtain ⟨e1, e2, e3⟩ := hev s.heap.objs.size fI cda cc
  have eb : execs body (ksEnv qn sc s.heap.objs.size fI (.ref cda) cc) = execs [xSup txt j q1 q2 q3 q4 q5 q6] (ksEnv qn sc s.heap.objs.size fI (.ref cda) cc) := by rw [hbody]
  rw [eb]
  refine ks_wpAt_execs_cons (sup_walk T hfn hcode hcell (X.keeps k) (hg.keeps k) (hb.keeps k) hsup hbs hns (by first | rfl | with_unfolding_all rfl) (k _ _ hx) hp e1 e2 e3 S.hks S.hkc S.hka S.hk fun h' t' t1 kk hx' => ?_)
  show _root_.PySem.wpAt _ _ _ (execs [] _) _ _ _
  refine wpAt_of_wpAny (wpAny_execs_nil ?_)
  exact hq h' t' t1 (fun b o hb' ho => kk b o hb' (k b o ho)) hx'
theorem ex_init1 {f : Str} (T : ExTxt prog K mg cn qn C fI args body sc) (S : ShX qn args body sc (some f)) (hno : findIn K (.ref C) f = some none) {x t0 : Addr} {v : Value} (X : K.In s.heap) (hg : s.heap.Ns mainGlobals mg) (hb : s.heap.Ns builtinsNs mb) (hsup : mg "super" = none) (hbs : mb "super" = some (.type "super")) (hlim : s.heap.NoLimit)
    (hx : s.heap.get? x = some (excO C t0)) (hnx : K.lookup x = none) (hroom : A.depth < recursionLimit)
    (hq : ∀ h' tk dx t1, (∀ b o, b ≠ x → s.heap.get? b = some o → h'.get? b = some o) → s.heap.objs.size ≤ dx → dx ≠ x → h'.get? x = some { cls := .ref C, dict := some dx, data := .fields #[.ref t1, .none, .none, .none, .bool false, .none] } →
      h'.Ns1 dx (fun y => if y = f then some v else none) → R (.ok (.ret .none)) { s with heap := h', toks := tk }) :
    codeAny (model prog w) A (.call (.ref fI) ⟨[.ref x, v], []⟩) R s := by
  obtain ⟨oc, od, doc, pm, an, cda, ct, osl, cc, hfn, hcd, hcode, hcell⟩ := T.fn
  obtain ⟨nm, q, N, bs, bm, sn, sub, ab, col, dd, k0, k1, k2, k3, k5, hC, hbm⟩ := T.cls
  have hcl : clsIn K C = some { name := nm, bases := bs, mro := .ref C :: bm, ns := N, qualname := q, hasDict := true, slotNames := sn, subclasses := sub, abstract := ab, collection := col, hasDel := false } := by unfold clsIn; rw [hC] <;> rfl
  obtain ⟨txt, j, q1, q2, q3, q4, q5, q6, rest, pl, hbody, hp, hev, hrest⟩ := S.ex
  obtain ⟨r1, r2, r3, r4, rfl, hsw⟩ : ∃ r1 r2 r3 r4, rest = [xSt f r1 r2 r3 r4] ∧ ∀ L fI cda cc, swapsWith (.Name f r3) (some (.Attribute (.Name "self" r1) f r2)) r4.line (ksEnv qn sc L fI (.ref cda) cc) = pure false := hrest
  obtain ⟨hfl, hfd, hfs⟩ : sc.names.lookup f = some .local ∧ (f == ("__debug__" : Str)) = false ∧ f ≠ "self" := S.fd
  refine ks_codeAny_call_defAt (body := body) (binds := [("self", .ref x), (f, v)]) hroom (X _ _ hfn) rfl hlim (codeRec_of X hcd) rfl (S.bind s doc pm ct an cda cc (.ref x) v) S.ncell (fun y hy => by
    simp only [List.mem_cons, List.not_mem_nil, or_false] at hy
    rcases hy with rfl | rfl
    · exact S.hka
    · exact hfl) (fun h₀ hns k => ?_) S.hco S.hge S.hk
  show _root_.PySem.wpAt (model prog w) (A.deeper (ksEnv qn sc s.heap.objs.size fI (.ref cda) cc)) (.func body (ksEnv qn sc s.heap.objs.size fI (.ref cda) cc)) (execs body (ksEnv qn sc s.heap.objs.size fI (.ref cda) cc)) _ _ _
  obtain ⟨e1, e2, e3⟩ := hev s.heap.objs.size fI cda cc
  have eb : execs body (ksEnv qn sc s.heap.objs.size fI (.ref cda) cc) = execs [xSup txt j q1 q2 q3 q4 q5 q6, xSt f r1 r2 r3 r4] (ksEnv qn sc s.heap.objs.size fI (.ref cda) cc) := by rw [hbody]
  rw [eb]
  have hself : (fun y => List.lookup y [(("self" : Str), Value.ref x), (f, v)].reverse) "self" = some (.ref x) := by
    have e : (("self" : Str) == f) = false := by simpa using Ne.symm hfs
    simp [List.lookup, e]
  have hfv : (fun y => List.lookup y [(("self" : Str), Value.ref x), (f, v)].reverse) f = some v := by simp [List.lookup]
  have zL : s.heap.objs.size < h₀.objs.size := hns.lt
  refine ks_wpAt_execs_cons (sup_walk T hfn hcode hcell (X.keeps k) (hg.keeps k) (hb.keeps k) hsup hbs hns hself (k _ _ hx) hp e1 e2 e3 S.hks S.hkc S.hka S.hk fun h1 t1' t1 kk hx1 => ?_)
  have hxL : s.heap.objs.size ≠ x := Nat.ne_of_gt (Heap.lt_size hx)
  have hns1 : h1.Ns s.heap.objs.size (fun y => List.lookup y [(("self" : Str), Value.ref x), (f, v)].reverse) := hns.at fun o q => kk _ _ hxL q
  have X1 : K.In h1 := fun a o e => kk a o (fun z => by rw [z, hnx] at e; cases e) (k _ _ (X a o e))
  show _root_.PySem.wpAt _ _ _ (execs [xSt f r1 r2 r3 r4] _) _ _ _
  refine wpAt_of_wpAny (wpAny_execs_cons (plainObj_wpAny_Assign_Attribute ?_ (hsw _ _ _ _)))
  refine wpAny_Name (wpAny_loadName_local S.hk hfl hns1 hfv ?_) hfd
  refine wpAny_Name (wpAny_loadName_local S.hk S.hka hns1 hself ?_) (by decide)
  refine set_plain X1 (ox := excO C t1) (od := none) ⟨hx1, rfl, rfl, trivial⟩ T.sa ?_
  refine exc_osa X1 hx1 hcl (show refsVE (.ref C :: bm) = true from hbm) rfl hno (fun h₃ tk₃ dx k₃ dn dne hx₃ hn₃ => ?_)
  show wpAny _ _ (execs _ _) _ _ _
  refine wpAny_execs_nil (hq h₃ tk₃ dx t1 (fun b o hb' e => k₃ b o hb' (kk b o hb' (k b o e))) ?_ dne hx₃ hn₃)
  have hge : h₀.objs.size ≤ h1.objs.size ∨ True := .inr trivial
  exact Nat.le_of_lt (Nat.lt_of_lt_of_le (show s.heap.objs.size < h1.objs.size from hns1.lt) dn)
end
end ExD
end PySem

/-! Den18: own errors made and raised, over trees. -/
namespace PySem
namespace ExD
open PySem.W PySem.Calls PyProof.Rows PySem.HandSPX
section
variable {prog : Program} {w : World} {A : Around} {E : Value → Shared → Prop} {R : Result → Shared → Prop} {s : Shared} {K : Frag} {mg mb : Str → Option Value} {cn qn : Str} {C fI : Addr} {args : Arguments} {body : List Stmt} {sc : Scope}
theorem ex_made0 (T : ExTxt prog K mg cn qn C fI args body sc) (S : ShX qn args body sc none) (X : K.In s.heap) (hg : s.heap.Ns mainGlobals mg) (hb : s.heap.Ns builtinsNs mb) (hsup : mg "super" = none) (hbs : mb "super" = some (.type "super")) (hlim : s.heap.NoLimit) (hroom : A.depth + 1 < recursionLimit)
    (hq : ∀ h' tk t1, (∀ b o, s.heap.get? b = some o → h'.get? b = some o) → h'.get? (s.heap.objs.size + 1) = some (excO C t1) → R (.ok (.ret (.ref (s.heap.objs.size + 1)))) { s with heap := h', toks := tk }) :
    codeAny (model prog w) A (.call (.ref C) ⟨[], []⟩) R s := by
  obtain ⟨nm, q, N, bs, bm, sn, sub, ab, col, dd, k0, k1, k2, k3, k5, hC, hbm⟩ := T.cls
  obtain ⟨hp, g, dr, tk, os⟩ := s
  have k : ∀ b o, hp.get? b = some o → ((hp.push (kdv_tup [])).push (excO C hp.objs.size)).get? b = some o := fun b o e => Heap.get?_push_of_some _ (Heap.get?_push_of_some _ e)
  have hget : ((hp.push (kdv_tup [])).push (excO C hp.objs.size)).get? (hp.objs.size + 1) = some (excO C hp.objs.size) := by heap_get
  refine call_own F.excBase_ValueError (fun X => refsVE_contains X bm hbm) (X _ _ hC) (looks_findIn X T.iC) (fun self => bind_fn X self T.tC) (Nat.zero_le _) ?_
  refine ex_init0 (mb := mb) (s := ⟨(hp.push (kdv_tup [])).push (excO C hp.objs.size), g, dr, tk, os⟩) T S (X.keeps k) (hg.keeps k) (hb.keeps k) hsup hbs (hlim.keeps k) hget ?_ fun h' tk' t1 k' hx => ?_
  · show A.depth + 1 < recursionLimit
    exact hroom
  · exact ⟨rfl, hq h' tk' t1 (fun b o e => k' b o (Nat.ne_of_lt (Nat.lt_succ_of_lt (Heap.lt_size e))) (k b o e)) hx⟩
theorem ex_made1 {f : Str} (T : ExTxt prog K mg cn qn C fI args body sc) (S : ShX qn args body sc (some f)) (hno : findIn K (.ref C) f = some none) {v : Value} (X : K.In s.heap) (hg : s.heap.Ns mainGlobals mg) (hb : s.heap.Ns builtinsNs mb) (hsup : mg "super" = none) (hbs : mb "super" = some (.type "super")) (hlim : s.heap.NoLimit) (hroom : A.depth + 1 < recursionLimit)
    (hq : ∀ h' tk dx t1, (∀ b o, s.heap.get? b = some o → h'.get? b = some o) → h'.get? (s.heap.objs.size + 1) = some { cls := .ref C, dict := some dx, data := .fields #[.ref t1, .none, .none, .none, .bool false, .none] } → s.heap.objs.size ≤ dx → dx ≠ s.heap.objs.size + 1 →
      h'.Ns1 dx (fun y => if y = f then some v else none) → R (.ok (.ret (.ref (s.heap.objs.size + 1)))) { s with heap := h', toks := tk }) :
    codeAny (model prog w) A (.call (.ref C) ⟨[v], []⟩) R s := by
  obtain ⟨nm, q, N, bs, bm, sn, sub, ab, col, dd, k0, k1, k2, k3, k5, hC, hbm⟩ := T.cls
  obtain ⟨hp, g, dr, tk, os⟩ := s
  have k : ∀ b o, hp.get? b = some o → ((hp.push (kdv_tup [v])).push (excO C hp.objs.size)).get? b = some o := fun b o e => Heap.get?_push_of_some _ (Heap.get?_push_of_some _ e)
  have hget : ((hp.push (kdv_tup [v])).push (excO C hp.objs.size)).get? (hp.objs.size + 1) = some (excO C hp.objs.size) := by heap_get
  have hnx : K.lookup (hp.objs.size + 1) = none := by
    cases e : K.lookup (hp.objs.size + 1) with
    | none => rfl
    | some o =>
      have z : hp.get? (hp.objs.size + 1) = some o := X _ _ e
      exact absurd (Nat.lt_of_succ_lt (Heap.lt_size z)) (Nat.lt_irrefl _)
  refine call_own F.excBase_ValueError (fun X => refsVE_contains X bm hbm) (X _ _ hC) (looks_findIn X T.iC) (fun self => bind_fn X self T.tC) (one_size v) ?_
  refine ex_init1 (mb := mb) (s := ⟨(hp.push (kdv_tup [v])).push (excO C hp.objs.size), g, dr, tk, os⟩) T S hno (X.keeps k) (hg.keeps k) (hb.keeps k) hsup hbs (hlim.keeps k) hget hnx ?_ fun h' tk' dx t1 k' dn dne hx hns => ?_
  · show A.depth + 1 < recursionLimit
    exact hroom
  · have z : hp.objs.size + 1 + 1 ≤ dx := by
      have q := dn
      rw [Heap.size_push, Heap.size_push] at q
      exact q
    exact ⟨rfl, hq h' tk' dx t1 (fun b o e => k' b o (Nat.ne_of_lt (Nat.lt_succ_of_lt (Heap.lt_size e))) (k b o e)) hx (Nat.le_trans (Nat.le_trans (Nat.le_succ _) (Nat.le_succ _)) z) dne hns⟩
end
end ExD
end PySem
namespace L2
open PySem PySem.Spec PyProof.Rows PySem.ExD
theorem relO_fld {f0 : Str} {v : V} {v' : Value} (r : RelV v v') (f : Str) : RelO (List.lookup f [(f0, v)]) (if f = f0 then some v' else none) := by
  by_cases hw : f = f0
  · subst hw
    rw [if_pos rfl]
    have q : List.lookup f [(f, v)] = some v := by simp [List.lookup]
    rw [q]
    exact r
  · rw [if_neg hw]
    have qw : (f == f0) = false := by simpa using hw
    have q2 : List.lookup f [(f0, v)] = none := by simp [List.lookup, qw]
    rw [q2]
    trivial
section
variable {X : Cx} {cn qn : Str} {C fI : Addr} {args : Arguments} {body : List Stmt} {sc : Scope} {p pos : Pos} {k : Nat}
/-- C() -/
theorem pmk_ex0 (T : ExTxt X.prog X.K X.mg cn qn C fI args body sc) (S : ShX qn args body sc none) (hsup : X.mg "super" = none) (hr : Room k X.A) (hg : Gl X cn) (hdb : (cn == ("__debug__" : Str)) = false := by decide) :
    PMk X (.Call (.Name cn p) [] [] pos) (fun _ H Q => Q (.ref C) none H) := by
  intro pins s σ H Q I h
  refine wpAny_Call_Name_kw (ld_glob I hg T.gC (PySem.W.callWith_K0 I.kIn T.kC ?_) hdb)
  obtain ⟨mb, hmb, hbb⟩ := I.ok.mod.blt
  have hlim := I.nolimit
  have hK := I.kIn
  have hG := I.ok.mod.glob.keeps I.bk
  have hB := hmb.keeps I.bk
  have e := hbb "super" (by decide)
  obtain ⟨hp, g, dr, tk, os⟩ := s
  refine wpAny_call (ex_made0 (mb := mb) T S hK hG hB hsup (e.trans (by decide +kernel)) hlim (by have := hr.dp; omega) fun h' tk' t1 old hx => ?_)
  show MkP X pins σ Q (.ref (hp.objs.size + 1)) ⟨h', g, dr, tk', os⟩
  refine ⟨hp.objs.size + 1, _, _, ⟨hp, g, dr, tk, os⟩, H, .ref C, none, rfl, I, old, ?_, hx, ⟨rfl, rfl⟩, rfl, rfl, I.hok.fresh (Nat.le_succ _), rfl, I.bare, raises_own T.exC T.tyC, h⟩
  cases z : hp.get? (hp.objs.size + 1) with
  | none => rfl
  | some o => exact absurd (Nat.lt_of_succ_lt (Heap.lt_size z)) (Nat.lt_irrefl _)
/-- C(e) -/
theorem pmk_ex1 {f : Str} {a : Expr} {ta : TA} (T : ExTxt X.prog X.K X.mg cn qn C fI args body sc) (S : ShX qn args body sc (some f)) (hno : PySem.W.findIn X.K (.ref C) f = some none) (hsup : X.mg "super" = none) (hr : Room k X.A) (ha : PA X [a] ta) (hg : Gl X cn) (hdb : (cn == ("__debug__" : Str)) = false := by decide)
    (he : starEach (a :: []) X.env = (false, eval a X.env) :: starEach [] X.env := by rfl) (hpl : (backTo pos (starEach [] X.env)).any (·.1) = false := by rfl) :
    PMk X (.Call (.Name cn p) [a] [] pos) (fun σ H Q => ta σ H fun vs H1 => ∃ v, vs = [v] ∧ ∀ d, H1 d = none → Q (.ref C) (some d) (upd H1 d (.xd [(f, v)]))) := by
  intro pins s σ H Q I h
  refine wpAny_Call_Name_kw (ld_glob I hg T.gC ?_ hdb)
  refine PySem.W.callWith_K (h₀ := X.base) I.ok.mod.kin T.kC (thn (ha.run pos pins s σ H _ I h) fun us s1 hh => ?_) he hpl
  obtain ⟨vs, H1, I1, r1, v, ev, q1⟩ := hh
  subst ev
  refine ⟨I1.kIn, ?_⟩
  cases r1 with
  | cons rv rn =>
    rename_i v' us'
    cases rn
    show wpAny _ _ (call (.ref C) [v']) _ _ _
    obtain ⟨mb, hmb, hbb⟩ := I1.ok.mod.blt
    have hlim := I1.nolimit
    have hK := I1.kIn
    have hG := I1.ok.mod.glob.keeps I1.bk
    have hB := hmb.keeps I1.bk
    have e := hbb "super" (by decide)
    obtain ⟨hp, g, dr, tk, os⟩ := s1
    refine wpAny_call (ex_made1 (mb := mb) T S hno hK hG hB hsup (e.trans (by decide +kernel)) hlim (by have := hr.dp; omega) fun h' tk' d t1 old hx dn dne hns => ?_)
    show MkP X pins σ Q (.ref (hp.objs.size + 1)) ⟨h', g, dr, tk', os⟩
    obtain ⟨G', g1, g2⟩ := restrict h' fun b => decide (b ≠ hp.objs.size + 1)
    have gk : ∀ b, b ≠ hp.objs.size + 1 → G'.get? b = h'.get? b := fun b hb => g1 b (decide_eq_true hb)
    have ge : G'.get? (hp.objs.size + 1) = none := g2 _ (by simp)
    have old2 : ∀ b o, hp.get? b = some o → G'.get? b = some o := fun b o q => (gk b (Nat.ne_of_lt (Nat.lt_succ_of_lt (Heap.lt_size q)))).trans (old b o q)
    have ob : ObjOk X.prog X.w (upd H1 d (.xd [(f, v)])) G' d (.xd [(f, v)]) :=
      ⟨_, hns.at (fun o q => (gk d dne).trans q), fun y => relO_fld rv y⟩
    have J : Inv X pins σ (upd H1 d (.xd [(f, v)])) ⟨G', g, dr, tk', os⟩ := I1.laid (t' := tk') old2 dn ob
    refine ⟨hp.objs.size + 1, _, _, ⟨G', g, dr, tk', os⟩, _, .ref C, some d, rfl, J, fun b o q => ?_, ge, hx, ⟨rfl, rfl⟩, rfl, rfl, ?_, rfl, I1.bare, raises_own T.exC T.tyC, q1 d (I1.hok.fresh dn)⟩
    · by_cases hb : b = hp.objs.size + 1
      · have q' : G'.get? b = some o := q
        rw [hb, ge] at q'; cases q'
      · exact (gk b hb).symm.trans q
    · rw [upd_ne (Ne.symm dne)]
      exact I1.hok.fresh (Nat.le_succ _)
end
end L2
namespace Dn
open PySem PySem.Spec PyProof.Rows L2 PySem.ExD
section
variable {K : PySem.W.Frag} {F : Addr → Prop} {H : Hp} {σ : L2.St} {ρ : Rho} {τ : List Pr}
/-- a new thing, frozen -/
theorem Sta.lay {d : Addr} {o : HO} (s : Sta K F H σ ρ τ) (n : H d = none) : Sta K (fun a => F a ∨ a = d) (L2.upd H d o) σ ρ τ := by
  refine s.on fun l al => ?_
  obtain ⟨O, r, nd, nf, dm⟩ := al
  have ne : ∀ a, a ∈ O → a ≠ d := fun a m z => RepP.dom r a m (by rw [z]; exact n)
  refine ⟨O, RepP.mono (fun a f => .inl f) (fun a f => upd_ne fun z => dm a f (by rw [z]; exact n)) r fun a m => upd_ne (ne a m), nd, fun a m f => ?_, fun a f => ?_⟩
  · rcases f with f | f
    · exact nf a m f
    · exact ne a m f
  · rcases f with f | f
    · rw [upd_ne fun z => dm a f (by rw [z]; exact n)]; exact dm a f
    · rw [f, upd_same]; simp
end
def sRaise0 (cn : Str) : SM := fun ρ => .er ⟨cn, none⟩ ρ
def sRaise1 (cn f : Str) (m : M C) : SM := fun ρ => (m ρ).thn fun c ρ => .er ⟨cn, some (f, fzD c)⟩ ρ
section
variable {X : Cx} {W : WX} {cn qn : Str} {C fI : Addr} {args : Arguments} {body : List Stmt} {sc : Scope} {p pos pos2 : Pos} {k : Nat}
theorem ds_raise0 (T : ExTxt X.prog X.K X.mg cn qn C fI args body sc) (S : ShX qn args body sc none) (hcl : clsOf X.K cn = .ref C) (hsup : X.mg "super" = none) (hr : Room k X.A) (tk : Takes X W) (hc : X.calm = true := by rfl) (hg : Gl X cn := by rfl) (hdb : (cn == ("__debug__" : Str)) = false := by decide) :
    PS X (.Raise (some (.Call (.Name cn p) [] [] pos)) none pos2) (sOf X.K W (sRaise0 cn)) := (ps_raise hc tk (pmk_ex0 T S hsup hr hg hdb)).imp fun D σ H ⟨F, ρ, τ, s, g⟩ => g σ F H (.ref C) none ⟨hcl.symm, rfl⟩ s
theorem ds_raise1 {f : Str} {a : Expr} {m : M Dn.C} (T : ExTxt X.prog X.K X.mg cn qn C fI args body sc) (S : ShX qn args body sc (some f)) (hno : PySem.W.findIn X.K (.ref C) f = some none) (hcl : clsOf X.K cn = .ref C) (hsup : X.mg "super" = none) (hr : Room k X.A) (tk : Takes X W) (ha : PE X a (tOf X.K W m)) (hc : X.calm = true := by rfl) (hg : Gl X cn := by rfl) (hdb : (cn == ("__debug__" : Str)) = false := by decide)
    (he : starEach (a :: []) X.env = (false, eval a X.env) :: starEach [] X.env := by rfl) (hpl : (backTo pos (starEach [] X.env)).any (·.1) = false := by rfl) :
    PS X (.Raise (some (.Call (.Name cn p) [a] [] pos)) none pos2) (sOf X.K W (sRaise1 cn f m)) := (ps_raise hc tk (pmk_ex1 T S hno hsup hr (pa_cons ha pa_nil he) hg hdb he hpl)).imp fun D σ H ⟨F, ρ, τ, s, g⟩ => by
  refine run1 s ((GoodS.thn g).imp (fun c ρ1 q v F1 H1 s1 => ?_) fun _ _ q => q)
  refine ⟨v, rfl, fun d hd => ?_⟩
  have s2 := s1.lay (o := .xd [(f, v)]) hd
  exact q σ _ _ (.ref C) (some d) ⟨hcl.symm, d, v, rfl, .inr rfl, upd_same, s2.fzOf⟩ s2.drop
end
@[simp] theorem sRaise0_ap (cn : Str) (ρ : Rho) : sRaise0 cn ρ = .er ⟨cn, none⟩ ρ := rfl
@[simp] theorem sRaise1_ap (cn f : Str) (m : M C) (ρ : Rho) : sRaise1 cn f m ρ = (m ρ).thn fun c ρ => .er ⟨cn, some (f, fzD c)⟩ ρ := rfl
end Dn

/-! Den19: try: .. except C as n: a suite that returns. -/
namespace Dn
open PySem PySem.Spec PyProof.Rows L2 PySem.ExD
/-- what a suite is asked: n's slot i, the error e that it is, the value that it returns -/
def tsOf (K : PySem.W.Frag) (i : Nat) (isc : Str → Option Bool) (su : Er → Option D) : Addr → Value → Option Addr → TS := fun a cls d D σ H =>
  ∃ e F ρ τ z, ErOk K F H e cls d ∧ Sta K F H σ ρ τ ∧ σ[i]? = some (some (.ref a)) ∧ isc e.cls = some true ∧ su e = some z ∧ ∀ v F' H', All K F' H' ((some v, .fz z) :: τ) → D.rt v H'
/-- try: m except (what isc takes) as (slot i): return su -/
def sTry (i : Nat) (m : SM) (isc : Str → Option Bool) (su : Er → Option D) : SM := fun ρ => match m ρ with
  | .er e ρ' => match isc e.cls with
    | some true => match su e with
      | some z => if i < ρ'.length then .rt (.fz z) else .st
      | none => .st
    | some false => .er e ρ'
    | none => .st
  | r => r
section
variable {X : Cx} {W : WX} {x n : Str} {c : Value} {i : Nat} {body suite : List Stmt} {b₀ : Stmt} {np pos pos' : Pos} {m : SM} {isc : Str → Option Bool} {su : Er → Option D}
theorem ds_try (i : Nat) (hc : Names X x c) (tk : Takes X W) (hx : ∀ k b, isc k = some b → PySem.W.exmOne X.K (clsOf X.K k) c = some b)
    (hb : ∀ (W : WX) (pn : List (Addr × Obj)) (xe : Value → Shared → Prop), Takes (X.tr pn xe) W → PassesOwn (model X.prog X.w) X.A X.env xe → PSs (X.tr pn xe) body (sOf X.K W m))
    (hsu : ∀ (a : Addr) (oe : Obj) (cls : Value) (d : Option Addr) (pn : List (Addr × Obj)), Zc cls d oe → (∃ vs, oe.data = .fields vs) → PSs (X.suite a ((a, oe) :: pn)) (b₀ :: suite) (tsOf X.K i isc su a cls d))
    (hN : X.N.Nodup) (hs : X.stack = X.env :: X.outer := by rfl) (hf : X.env.frame = some X.env.locals := by rfl) (hi : X.N[i]? = some n := by rfl) (hln : X.env.kindOf n = some .local := by rfl) :
    PS X (.Try body [.ExceptHandler (some (.Name x np)) (some n) (b₀ :: suite) pos'] [] [] pos) (sOf X.K W (sTry i m isc su)) :=
  (ps_try_as (tb := fun W => sOf X.K W m) hs hf hN hi hln hc tk hb hsu).imp fun D σ H ⟨F, ρ, τ, s, g⟩ => by
    refine ⟨F, ρ, τ, s, ?_⟩
    unfold sTry at g
    cases hm : m ρ with
    | er e ρ' =>
      rw [hm] at g
      intro σ' F' H' cls d ho s'
      dsimp only at g
      have hcl : cls = clsOf X.K e.cls := ho.1
      split at g
      · rename_i hk
        split at g
        · rename_i z hz
          split at g
          · rename_i hlt
            refine ⟨true, by rw [hcl]; exact hx _ _ hk, fun _ a ha => ?_, fun h => Bool.noConfusion h⟩
            refine ⟨e, F', ρ'.set i .no, τ, z, ho, s'.setX i _, List.getElem?_set_self (by rw [s'.1]; exact hlt), hk, hz, fun v F2 H2 al => g v F2 H2 (by simp) al⟩
          · exact g.elim
        · exact g.elim
      · rename_i hk
        exact ⟨false, by rw [hcl]; exact hx _ _ hk, fun h => Bool.noConfusion h, fun _ => g σ' F' H' cls d ho s'⟩
      · exact g.elim
    | st => rw [hm] at g; exact g
    | nx ρ' => rw [hm] at g; exact g
    | bk ρ' => rw [hm] at g; exact g
    | ct ρ' => rw [hm] at g; exact g
    | rt c' => rw [hm] at g; exact g
/-! ### suites -/
/-- the field f of the error -/
def fldOf (f : Str) (e : Er) : Option D := match e.fld with
  | some (g, x) => if g = f then some x else none
  | none => none
/-- return n.f -/
theorem su_fld {a : Addr} {oe : Obj} {cls : Value} {d : Option Addr} {pn : List (Addr × Obj)} {f : Str} {rp p2 p3 : Pos} (i : Nat) (hcl : ∀ k, isc k = some true → ∃ C : Addr, clsOf X.K k = .ref C ∧ XfC X.K C ∧ PySem.W.findIn X.K (.ref C) f = some none) (hz : Zc cls d oe) (hf : ∃ vs, oe.data = .fields vs)
    (hN : X.N[i]? = some n := by rfl) (hv : Vis X.env.scope n := by first | exact Or.inl rfl | exact Or.inr (Or.inl rfl) | exact Or.inr (Or.inr rfl)) (hd : (n == ("__debug__" : Str)) = false := by decide) (hcd : (n == ("__classdict__" : Str)) = false := by decide) (hb : attributeBase (.Name n p2) f X.env (eval (.Name n p2) X.env) = eval (.Name n p2) X.env := by rfl) :
    PSs (X.suite a ((a, oe) :: pn)) [.Return (some (.Attribute (.Name n p2) f p3)) rp] (tsOf X.K i isc (fldOf f) a cls d) := ⟨fun pins s σ H D I h => by
  obtain ⟨e, F, ρ, τ, z, ho, st, hi, hk, hz2, q⟩ := h
  obtain ⟨C, hC, hxf, hno⟩ := hcl _ hk
  have hpv : PE (X.suite a ((a, oe) :: pn)) (.Name n p2) (tVar i) := pe_var (X := X.suite a ((a, oe) :: pn)) hN hv hd hcd
  refine (pss_one (ps_ret (pe_xf (X := X) hxf hno hz hf hpv hb))).run pins s σ H D I ?_
  obtain ⟨h1, h2⟩ := ho
  unfold fldOf at hz2
  split at hz2
  · rename_i g x hfl
    split at hz2
    · rename_i hg
      cases hz2
      subst hg
      rw [hfl] at h2
      obtain ⟨dx, v, rfl, fx, hx, rv⟩ := h2
      refine ⟨.ref a, hi, rfl, h1.trans hC, dx, _, v, rfl, hx, by simp [List.lookup], ?_⟩
      exact q v F H (st.2.dropL.push rv)
    · cases hz2
  · cases hz2⟩
end
@[simp] theorem sTry_ap (i : Nat) (m : SM) (isc : Str → Option Bool) (su : Er → Option D) (ρ : Rho) : sTry i m isc su ρ = match m ρ with
  | .er e ρ' => match isc e.cls with
    | some true => match su e with
      | some z => if i < ρ'.length then .rt (.fz z) else .st
      | none => .st
    | some false => .er e ρ'
    | none => .st
  | r => r := rfl
end Dn

/-! Den20: what the top says of an own error class; statements never reached; which classes a clause takes. -/
namespace Dn
open PySem PySem.Spec PyProof.Rows L2 PySem.ExD PySem.HandSPX
def clsInit (st : Stmt) : Stmt := match st with
  | .ClassDef _ _ _ (b :: _) _ _ _ _ _ _ _ => b
  | _ => .Pass ⟨0, 0, 0, 0⟩
theorem ds_any {X : Cx} {W : WX} {st : Stmt} : PS X st (sOf X.K W fun _ => .st) := ⟨fun pins s σ H D I h => let ⟨_, _, _, _, g⟩ := h; g.elim⟩
theorem d_any {X : Cx} {W : WX} {e : Expr} : PE X e (tOf X.K W stuck) := ⟨fun pins s σ H Q I h => let ⟨_, _, _, _, g⟩ := h; g.elim⟩
def isnB (x y : D) : Option D := match x, y with
  | .bl a, .bl b => some (.bl (!decide (a = b)))
  | _, _ => none
@[simp] theorem isnB_b (a b : Bool) : isnB (.bl a) (.bl b) = some (.bl (!decide (a = b))) := rfl
theorem ok_isnB {K : PySem.W.Frag} : OpOk K (fun x y H Q => ∃ a b, x = .bl a ∧ y = .bl b ∧ Q (.bl (!decide (a = b))) H) isnB := fun x y z F H vx vy Q e rx ry q => by
  cases x <;> cases y <;> simp only [isnB, reduceCtorEq, Option.some.injEq] at e
  subst e
  exact ⟨_, _, rx.blv, ry.blv, q _ (.bl _)⟩
/-- which errors a clause takes -/
def iscL (l : List (Str × Bool)) : Str → Option Bool := fun k => l.lookup k
theorem iscL_ok {K : PySem.W.Frag} {c : Value} : ∀ {l : List (Str × Bool)}, (∀ p ∈ l, PySem.W.exmOne K (clsOf K p.1) c = some p.2) → ∀ k b, iscL l k = some b → PySem.W.exmOne K (clsOf K k) c = some b
  | [], _, k, b, h => by cases h
  | (k0, b0) :: l, h, k, b, e => by
    unfold iscL at e
    rw [List.lookup_cons] at e
    cases hk : (k == k0) with
    | true =>
      rw [hk] at e
      cases e
      rw [beq_iff_eq] at hk
      subst hk
      exact h (k, _) List.mem_cons_self
    | false =>
      rw [hk] at e
      exact iscL_ok (l := l) (fun p hp => h p (by simp [hp])) k b e
theorem iscL_true {l : List (Str × Bool)} {P : Str → Prop} (h : ∀ p ∈ l, p.2 = true → P p.1) : ∀ k, iscL l k = some true → P k := fun k e => by
  induction l with
  | nil => cases e
  | cons a l ih =>
    unfold iscL at e
    rw [List.lookup_cons] at e
    cases hk : (k == a.1) with
    | true =>
      rw [hk] at e
      injection e with e
      rw [beq_iff_eq] at hk
      rw [hk]
      exact h a (by simp) e
    | false =>
      rw [hk] at e
      exact ih (fun p hp => h p (by simp [hp])) e
section
variable {P : Program} {K : PySem.W.Frag} {h : Heap} {mg : Str → Option Value}
theorem clsOf_of {n : Str} {C : Addr} (e : PySem.W.nsIn K mainGlobals n = some (some (.ref C))) : clsOf K n = .ref C := by
  unfold clsOf
  rw [e]
/-- the facts of the written part, one by one -/
theorem ex_txt {cn qn : Str} {C fI : Addr} {args : Arguments} {body : List Stmt} {sc : Scope} {nm q : Str} {N : Addr} {bs bm : List Value} {sn : List Str} {sub : List Value} {ab : Bool} {col : Option Bool} {dd : Option Addr} {k0 k1 k2 k3 k5 : Option Value}
    {oc : Value} {od : Option Addr} {doc pm : Value} {an : Option Addr} {cda : Addr} {ct : Value} {osl : Array (Option Value)} {cc : Addr} {ccl : Value} {cdd : Option Addr} {vs : Array Value} {ccs : Array (Option Value)} {file : Str} {tf : Tok} {cl : Value} {cld : Option Addr} {csl : Array (Option Value)}
    (X : K.In h) (G : h.Ns mainGlobals mg)
    (a1 : PySem.W.nsIn K mainGlobals cn = some (some (.ref C))) (a2 : K.lookup C = some (excClassObj nm q C N bs bm true sn sub ab col dd k0 k1 k2 k3 k5 "ValueError.__new__")) (a3 : refsVE bm = true)
    (a4 : PySem.W.findIn K (.ref C) "__setattr__" = some (some (.builtin "object.__setattr__"))) (a5 : PySem.W.findIn K (.ref C) "__init__" = some (some (.ref fI))) (a6 : PySem.W.typeIn K (.ref fI) = some (.type "function")) (a7 : PySem.W.keepIn K (.ref C) = true)
    (a8 : PySem.W.subIn K (.ref C) (.type "BaseException") = some true) (a9 : PySem.W.subIn K (.ref C) (.type "ValueError") = some true) (a10 : PySem.W.typeIn K (.ref C) = some (.type "type"))
    (a11 : PySem.W.ks_superIn K C C "__init__" = some (some (.builtin "ValueError.__init__"))) (a12 : PySem.W.nsIn K cStatics "thirdparty.any" = some none) (a13 : (P.main.scope.names.lookup ("super" : Str)).isSome = false)
    (a14 : K.lookup fI = some ⟨oc, od, .func (PySem.W.ksFn "__init__" qn args body sc .none .none doc pm an (.ref cda) ct cc), osl⟩) (a15 : PySem.W.codeIn K (.ref cda) qn = true) (a16 : K.lookup cda = some ⟨ccl, cdd, .fields vs, ccs⟩) (a17 : vs[2]? = some (.str file tf))
    (a18 : ((P.main.file : Str) == file) = true) (a19 : K.lookup cc = some ⟨cl, cld, .cell (some (.ref C)), csl⟩) : ExTxt P K mg cn qn C fI args body sc where
  gC := PySem.W.mg_of X G a1
  cls := ⟨nm, q, N, bs, bm, sn, sub, ab, col, dd, k0, k1, k2, k3, k5, a2, a3⟩
  sa := a4
  iC := a5
  tC := a6
  kC := a7
  exC := a8
  exV := a9
  tyC := a10
  sup := a11
  opq := a12
  top := a13
  fn := ⟨oc, od, doc, pm, an, cda, ct, osl, cc, a14, a15, ⟨ccl, cdd, vs, ccs, file, tf, a16, a17, a18⟩, ⟨cl, cld, csl, a19⟩⟩
end
end Dn

/-! Den21: a conditional expression as a test. -/
namespace L2
open PySem PySem.Spec PyProof.Rows
section
variable {X : Cx} {c a b : Expr} {pos : Pos} {tc ta tb : TT}
theorem pt_ifx (hc : PT X c tc) (ha : PT X a ta) (hb : PT X b tb) : PT X (.IfExp c a b pos) (fun σ H Q => tc σ H fun k H1 => if k = true then ta σ H1 Q else tb σ H1 Q) := ⟨fun pins s σ H Q I h =>
  isTrue_IfExp (thn (hc.run pins s σ H _ I h) fun d s1 hh => by
    obtain ⟨H1, I1, q1⟩ := hh
    cases d with
    | true => exact ha.run pins s1 σ H1 Q I1 q1
    | false => exact hb.run pins s1 σ H1 Q I1 q1)⟩
end
end L2
namespace Dn
open PySem PySem.Spec PyProof.Rows L2
def bIf (t m n : M Bool) : M Bool := fun ρ => (t ρ).bind fun k ρ => if k = true then m ρ else n ρ
@[simp] theorem bIf_ap (t m n : M Bool) (ρ : Rho) : bIf t m n ρ = (t ρ).bind fun k ρ => if k = true then m ρ else n ρ := rfl
section
variable {X : Cx} {W : WX} {c a b : Expr} {pos : Pos} {t m n : M Bool}
theorem dt_ifx (hc : PT X c (bOf X.K W t)) (ha : PT X a (bOf X.K W m)) (hb : PT X b (bOf X.K W n)) : PT X (.IfExp c a b pos) (bOf X.K W (bIf t m n)) := (pt_ifx hc ha hb).imp fun σ H Q ⟨F, ρ, τ, s, g⟩ => by
  unfold bIf at g
  rw [Good.bind] at g
  refine runB s (g.imp (fun k ρ1 q F1 H1 s1 => ?_) fun _ _ q => q)
  cases k with
  | true => exact ⟨F1, ρ1, τ, s1, q⟩
  | false => exact ⟨F1, ρ1, τ, s1, q⟩
end
end Dn

/-! Den22: a suite that asks isinstance(e, C) and returns. -/
namespace Dn
open PySem PySem.Spec PyProof.Rows L2 PySem.ExD
/-- an error without field: z -/
def plainOf (z : D) (e : Er) : Option D := match e.fld with
  | none => some z
  | some _ => none
section
variable {X : Cx} {n cn : Str} {b1 rest : List Stmt} {isc : Str → Option Bool} {p p2 p3 p4 p5 : Pos} {m1 : SM} {z : D} {t2 : TS}
theorem su_is {a : Addr} {oe : Obj} {cls : Value} {d : Option Addr} {pn : List (Addr × Obj)} {Cg : Addr} (i : Nat)
    (hcl : ∀ k, isc k = some true → ∃ D : Addr, clsOf X.K k = .ref D ∧ ExcC X.K D ∧ PySem.W.kitOne X.K (.ref D) (.ref Cg) = some true) (hz : Zc cls d oe) (hf : ∃ vs, oe.data = .fields vs) (gC : X.mg cn = some (.ref Cg)) (nI : X.mg "isinstance" = none)
    (hb1 : PSs (X.suite a ((a, oe) :: pn)) b1 (sOf X.K noW m1)) (hm1 : ∀ ρ, m1 ρ = .rt (.fz z)) (hrest : PSs (X.suite a ((a, oe) :: pn)) rest t2)
    (hN : X.N[i]? = some n := by rfl) (hv : Vis X.env.scope n := by first | exact Or.inl rfl | exact Or.inr (Or.inl rfl) | exact Or.inr (Or.inr rfl)) (hd : (n == ("__debug__" : Str)) = false := by decide) (hcd : (n == ("__classdict__" : Str)) = false := by decide)
    (hg : Gl X cn := by rfl) (hdb : (cn == ("__debug__" : Str)) = false := by decide) (hgI : Gl X "isinstance" := by rfl)
    (hs1 : starEach [.Name n p2, .Name cn p3] X.env = (false, eval (.Name n p2) X.env) :: starEach [.Name cn p3] X.env := by rfl) (hs2 : starEach [.Name cn p3] X.env = (false, eval (.Name cn p3) X.env) :: starEach [] X.env := by rfl)
    (hpl : (backTo p4 (starEach [.Name cn p3] X.env)).any (·.1) = false := by rfl)
    (htr : ∀ whole, isTrue (.Call (.Name "isinstance" p) [.Name n p2, .Name cn p3] [] p4) X.env whole = (do let v ← whole; standAt (Expr.pos (.Call (.Name "isinstance" p) [.Name n p2, .Name cn p3] [] p4)); holding [v] (truthy v)) := by intro _; rfl) :
    PSs (X.suite a ((a, oe) :: pn)) (.If (.Call (.Name "isinstance" p) [.Name n p2, .Name cn p3] [] p4) b1 [] p5 :: rest) (tsOf X.K i isc (plainOf z) a cls d) := ⟨fun pins s σ H DD I h => by
  obtain ⟨e, F, ρ, τ, z0, ho, st, hi, hk, hz2, q⟩ := h
  obtain ⟨D, hD, hC, hkit⟩ := hcl _ hk
  obtain ⟨h1, h2⟩ := ho
  unfold plainOf at hz2
  split at hz2
  · rename_i hfl
    cases hz2
    rw [hfl] at h2
    have h2' : d = none := h2
    subst h2'
    have hc : cls = .ref D := h1.trans hD
    subst hc
    have P1 : PE (X.suite a ((a, oe) :: pn)) (.Call (.Name "isinstance" p) [.Name n p2, .Name cn p3] [] p4) (tCB (rIsE X.K D a) (tCons (tVar i) (tCons (tC (.ref Cg)) tNil))) :=
      pe_callB (X := X.suite a ((a, oe) :: pn)) (call_isE (X := X) hC hz hf) hgI nI (by decide +kernel) (pa_cons (pe_var (X := X.suite a ((a, oe) :: pn)) hN hv hd hcd) (pa_cons (pe_glob (X := X.suite a ((a, oe) :: pn)) hg gC rfl hdb) pa_nil hs2) hs1) (by decide) (by decide) hs1 hpl
    have P2 := pt_truth P1 htr
    refine (pss_cons (ps_if P2 hb1 pss_nil) hrest).run pins s σ H DD I ?_
    refine ⟨.ref a, hi, .ref Cg, .ref Cg, true, rfl, fun u r => r, hkit, true, (Rep.bl (K := X.K) (F := F) (H := H) true).tru rfl, ?_⟩
    refine ⟨F, ρ, τ, st, ?_⟩
    rw [hm1]
    exact fun v F' H' nc al => q v F' H' al
  · cases hz2⟩
end
end Dn

/-! Den23: for t in x[..]: the items handed out with what they own; the list is given up. -/
namespace Dn
open PySem PySem.Spec PyProof.Rows L2
/-- the cell at the end of a path -/
def takeC : List Int → C → Option C
  | [], c => some c
  | j :: js, .ow cs => (ixN cs.length j).bind fun k => (cs[k]?).bind fun c => takeC js c
  | j :: js, .tp cs => (ixN cs.length j).bind fun k => (cs[k]?).bind fun c => takeC js c
  | _, _ => none
section
variable {K : PySem.W.Frag} {F : Addr → Prop} {H : Hp}
theorem RepCs.getS : ∀ {vs : List V} {cs : List C} {O : List Addr} {i : Nat} {c : C}, RepCs K F H vs cs O → cs[i]? = some c → ∃ v O', vs[i]? = some v ∧ RepC K F H v c O' ∧ O'.Sublist O
  | _, _, _, _, _, .nil, h => by simp at h
  | _, _, _, 0, _, .cons r _, h => by simp at h; subst h; exact ⟨_, _, rfl, r, List.sublist_append_left _ _⟩
  | _, _, _, i + 1, _, .cons _ r, h => by
    obtain ⟨v, O', e, q, s⟩ := r.getS (i := i) (by simpa using h)
    exact ⟨v, O', by simpa using e, q, s.trans (List.sublist_append_right _ _)⟩
theorem takeC_ok : ∀ {js : List Int} {v : V} {c c' : C} {O : List Addr}, RepC K F H v c O → takeC js c = some c' → ∃ u O', NavV K H v js u ∧ RepC K F H u c' O' ∧ O'.Sublist O
  | [], v, c, c', O, r, e => by
    cases e
    exact ⟨v, O, rfl, r, List.Sublist.refl _⟩
  | j :: js, v, c, c', O, r, e => by
    cases r with
    | @ow p vs cs O1 ep rc =>
      simp only [takeC, Option.bind_eq_some_iff] at e
      obtain ⟨k, hk, c1, hc, hu⟩ := e
      obtain ⟨v1, O2, e1, r1, s1⟩ := rc.getS hc
      obtain ⟨u, O3, nav, r2, s2⟩ := takeC_ok r1 hu
      exact ⟨u, O3, ⟨v1, ⟨p, vs, rfl, .inl (.of ep), ixN_atI rc.len.symm hk e1⟩, nav⟩, r2, (s2.trans s1).trans (List.sublist_cons_self _ _)⟩
    | @tp p vs cs O1 ep rc =>
      simp only [takeC, Option.bind_eq_some_iff] at e
      obtain ⟨k, hk, c1, hc, hu⟩ := e
      obtain ⟨v1, O2, e1, r1, s1⟩ := rc.getS hc
      obtain ⟨u, O3, nav, r2, s2⟩ := takeC_ok r1 hu
      exact ⟨u, O3, ⟨v1, ⟨p, vs, rfl, .inr (.of ep), ixN_atI rc.len.symm hk e1⟩, nav⟩, r2, (s2.trans s1).trans (List.sublist_cons_self _ _)⟩
    | _ => simp [takeC] at e
theorem takeC_ne : ∀ {js : List Int} {c : C} {cs : List C}, takeC js c = some (.ow cs) → c ≠ .no
  | [], _, _, h => by cases h; simp
  | _ :: _, .ow _, _, _ => by simp
  | _ :: _, .tp _, _, _ => by simp
  | _ :: _, .no, _, h => by simp [takeC] at h
  | _ :: _, .fz _, _, _ => by simp
  | _ :: _, .od _, _, _ => by simp
/-- the list at the end of a path is taken apart: the list with its items' values, the items -/
theorem All.apart {js : List Int} {v : V} {c : C} {cs : List C} {ps : List Pr} (al : All K F H ((some v, c) :: ps)) (e : takeC js c = some (.ow cs)) :
    ∃ a vs, NavV K H v js (.ref a) ∧ H a = some (.lst vs) ∧ vs.length = cs.length ∧ (∀ c ∈ cs, c ≠ .no) ∧ All K F H ((some (.ref a), .ow (Dn.obs vs)) :: (tmps vs cs ++ ps)) := by
  obtain ⟨O, r, nd, nf, dm⟩ := al
  cases r with
  | no r => exact absurd rfl (takeC_ne e)
  | @cons _ _ _ O1 O2 rc r =>
    obtain ⟨u, O3, nav, r2, sub⟩ := takeC_ok rc e
    cases r2 with
    | @ow a vs _ O4 ha rcs =>
      have hob : ∀ vs : List V, RepCs K F H vs (Dn.obs vs) [] := by
        intro vs
        induction vs with
        | nil => exact .nil
        | cons v vs ih => exact RepCs.cons (O := []) (.fz (.ob v)) ih
      have sub2 : ((a :: O4) ++ O2).Sublist (O1 ++ O2) := sub.append (List.Sublist.refl _)
      refine ⟨a, vs, nav, ha, rcs.len, rcs.ne, (a :: O4) ++ O2, ?_, sub2.nodup nd, fun b m => nf b (sub2.subset m), dm⟩
      have h1 : RepP K F H ((some (.ref a), .ow (Dn.obs vs)) :: (tmps vs cs ++ ps)) ([a] ++ (O4 ++ O2)) := .cons (.ow ha (hob vs)) (rcs.toP r)
      simpa using h1
end
/-- the loop over cells -/
def forC (put : C → Rho → Option Rho) (body : SM) : List C → SM
  | [], ρ => .nx ρ
  | c :: cs, ρ => match put c ρ with
    | none => .st
    | some ρ1 => match body ρ1 with
      | .nx ρ2 => forC put body cs ρ2
      | .ct ρ2 => forC put body cs ρ2
      | .bk ρ2 => .nx ρ2
      | r => r
def sForO (i : Nat) (js : List Int) (put : C → Rho → Option Rho) (body : SM) : SM := fun ρ => match ρ[i]? with
  | some c => match takeC js c with
    | some (.ow cs) => forC put body cs (ρ.set i .no)
    | _ => .st
  | none => .st
section
variable {X : Cx} {W : WX} {tg iter : Expr} {body : List Stmt} {pos : Pos} {l : List Nat} {put : C → Rho → Option Rho} {m : SM} {i : Nat}
theorem ds_forO (js : List Int) (hp : PassesOwn (model X.prog X.w) X.A X.env X.xe) (hi : PathE X iter i (js.map .c)) (hg : PG X tg (gOf X.K l put)) (hb : PSs X body (sOf X.K W m)) (hc : X.calm = true := by rfl)
    (hs : ∀ x, foldedSetIterable iter X.env x = pure x := by intro _; rfl) : PS X (.For tg iter body [] pos) (sOf X.K W (sForO i js put m)) := by
  obtain ⟨te, he, hq⟩ := hi.ex
  refine (ps_for hp hc (pi_list he) hg hb hs).imp fun D σ H ⟨F, ρ, τ, s, g⟩ => ?_
  unfold sForO at g
  split at g
  · rename_i c ec
    split at g
    · rename_i cs hcs
      obtain ⟨v, ev, s1⟩ := s.get ec (takeC_ne hcs)
      obtain ⟨a, vs, nav, ha, hl, hne, al⟩ := All.apart (ps := τ ++ σ.zip (ρ.set i .no)) s1.all hcs
      refine hq σ H _ v js (.ref a) ev (stpsS_c _ js) nav ⟨a, rfl, ⟨vs, .of ha⟩, ?_⟩
      refine ⟨fun n k σ H => k = cs.length - n ∧ n ≤ cs.length ∧ ∃ F ρ, Sta X.K F H σ ρ ((some (.ref a), .ow (Dn.obs vs)) :: (tmps (vs.drop n) (cs.drop n) ++ τ)) ∧ GoodS X.K W τ (forC put m (cs.drop n) ρ) D, ⟨_, rfl, Nat.zero_le _, F, _, .of s1.1 ?_, g⟩, ?_⟩
      · refine al.perm ?_
        simp only [List.drop_zero, List.cons_append, List.append_assoc]
        exact List.Perm.refl _
      · rintro n k σ H ⟨rfl, hn, F, ρ, s, q⟩
        have hH := s.obs
        by_cases hlt : n < cs.length
        · have hv : vs[n]? = some vs[n] := List.getElem?_eq_getElem (by omega)
          refine .inr ⟨⟨vs, vs[n], .of hH, hv⟩, fun σ' H' => ∃ F ρ, Sta X.K F H' σ' ρ ((some (.ref a), .ow (Dn.obs vs)) :: (tmps (vs.drop (n + 1)) (cs.drop (n + 1)) ++ τ)) ∧ GoodS X.K W τ (forC put m (cs.drop (n + 1)) ρ) D, fun σ' H' h => ⟨_, by omega, rfl, hlt, h⟩, fun x H' y => ?_⟩
          obtain ⟨rfl, y⟩ := y
          have := y vs (.of hH)
          rw [hv] at this
          cases this
          have e1 : tmps (vs.drop n) (cs.drop n) = (some vs[n], cs[n]) :: tmps (vs.drop (n + 1)) (cs.drop (n + 1)) := by
            rw [List.drop_eq_getElem_cons hlt, List.drop_eq_getElem_cons (show n < vs.length by omega)]
            rfl
          rw [e1] at s
          rw [List.drop_eq_getElem_cons hlt] at q
          unfold forC at q
          split at q
          · exact q.elim
          · rename_i ρ1 hp1
            refine ⟨F, ρ, _, _, ρ1, hne _ (List.getElem_mem hlt), s.swap, hp1, fun σ3 F3 H3 _ s3 => ⟨F3, ρ1, _, s3, ?_⟩⟩
            have dropRt : ∀ {v : V} {c : C} {F4 H4}, All X.K F4 H4 ((some v, c) :: ((some (.ref a), .ow (Dn.obs vs)) :: (tmps (vs.drop (n + 1)) (cs.drop (n + 1)) ++ τ))) → All X.K F4 H4 ((some v, c) :: τ) := by
              intro v c F4 H4 al
              have a3 := al.perm (show ((some v, c) :: ((some (.ref a), .ow (Dn.obs vs)) :: (tmps (vs.drop (n + 1)) (cs.drop (n + 1)) ++ τ))).Perm (((some (.ref a), .ow (Dn.obs vs)) :: tmps (vs.drop (n + 1)) (cs.drop (n + 1))) ++ ((some v, c) :: τ)) from List.perm_middle (l₁ := (some (.ref a), .ow (Dn.obs vs)) :: tmps (vs.drop (n + 1)) (cs.drop (n + 1)))|>.symm)
              exact a3.dropL
            split at q
            · rename_i ρ2 hm; rw [hm]; exact fun σ4 F4 H4 s4 => ⟨F4, ρ2, s4, q⟩
            · rename_i ρ2 hm; rw [hm]; exact fun σ4 F4 H4 s4 => ⟨F4, ρ2, s4, q⟩
            · rename_i ρ2 hm; rw [hm]; exact fun σ4 F4 H4 s4 => q σ4 F4 H4 s4.drop.dropL
            · rename_i r h1 h2 h3
              cases hr : m ρ1 with
              | nx ρ2 => exact absurd hr (h1 ρ2)
              | ct ρ2 => exact absurd hr (h2 ρ2)
              | bk ρ2 => exact absurd hr (h3 ρ2)
              | st => rw [hr] at q; exact q
              | er e ρ2 => rw [hr] at q; exact serP.dropL (q := (some (.ref a), .ow (Dn.obs vs)) :: tmps (vs.drop (n + 1)) (cs.drop (n + 1))) q
              | rt c =>
                rw [hr] at q
                exact fun v F4 H4 nc al => q v F4 H4 nc (dropRt al)
        · have e : n = cs.length := by omega
          subst e
          rw [List.drop_length] at q
          exact .inl ⟨⟨vs, .of hH, by omega⟩, q σ F H s.drop.dropL⟩
    · exact g.elim
  · exact g.elim
end
theorem forC_nil (put : C → Rho → Option Rho) (x : SM) (ρ : Rho) : forC put x [] ρ = .nx ρ := rfl
theorem forC_cons (put : C → Rho → Option Rho) (x : SM) (c : C) (cs : List C) (ρ : Rho) : forC put x (c :: cs) ρ = match put c ρ with
  | none => .st
  | some ρ1 => match x ρ1 with
    | .nx ρ2 => forC put x cs ρ2
    | .ct ρ2 => forC put x cs ρ2
    | .bk ρ2 => .nx ρ2
    | r => r := rfl
/-- a loop over cells whose state is what I says -/
theorem forC_inv {put : C → Rho → Option Rho} {x : SM} (I : Rho → Prop) (cs : List C) (step : ∀ c ρ, c ∈ cs → I ρ → ∃ ρ1 ρ2, put c ρ = some ρ1 ∧ (x ρ1 = .nx ρ2 ∨ x ρ1 = .ct ρ2) ∧ I ρ2) {ρ : Rho} (h : I ρ) : ∃ ρ', forC put x cs ρ = .nx ρ' ∧ I ρ' := by
  induction cs generalizing ρ with
  | nil => exact ⟨ρ, rfl, h⟩
  | cons c cs ih =>
    obtain ⟨ρ1, ρ2, h1, h2, h3⟩ := step c ρ List.mem_cons_self h
    obtain ⟨ρ', h4, h5⟩ := ih (fun c ρ m => step c ρ (List.mem_cons_of_mem _ m)) h3
    refine ⟨ρ', ?_, h5⟩
    rw [forC_cons, h1]
    rcases h2 with h2 | h2 <;> (simp only [h2]; exact h4)
end Dn

/-! Den24: a list handed to a def that writes into it. -/
namespace Dn
open PySem PySem.Spec PyProof.Rows L2
section
variable {K : PySem.W.Frag} {F : Addr → Prop} {H : Hp}
theorem All.plow {a : Addr} {cs : List C} {v : V} {ps : List Pr} (al : All K F H ((some v, .pl a cs) :: ps)) : v = .ref a ∧ All K F H ((some (.ref a), .ow cs) :: ps) := by
  obtain ⟨O, r, q⟩ := al
  cases r with
  | cons c r =>
    cases c with
    | pl e rc => exact ⟨rfl, _, .cons (.ow e rc) r, q⟩
theorem All.owpl {a : Addr} {cs : List C} {ps : List Pr} (al : All K F H ((some (.ref a), .ow cs) :: ps)) : All K F H ((some (.ref a), .pl a cs) :: ps) := by
  obtain ⟨O, r, q⟩ := al
  cases r with
  | cons c r =>
    cases c with
    | ow e rc => exact ⟨_, .cons (.pl e rc) r, q⟩
theorem All.wpGet {a : Addr} {cs : List C} {v : V} {c : C} {ps : List Pr} (al : All K F H ((some v, .wp c a cs) :: ps)) : c ≠ .no ∧ All K F H ((some v, c) :: (some (.ref a), .pl a cs) :: ps) := by
  obtain ⟨O, r, q⟩ := al
  cases r with
  | cons cc r =>
    cases cc with
    | wp rq e rc =>
      refine ⟨(by rintro rfl; cases rq), _, .cons rq (.cons (.pl e rc) r), ?_⟩
      rw [← List.append_assoc]
      exact q
theorem All.wpMk {a : Addr} {cs : List C} {v : V} {c : C} {ps : List Pr} (nc : c ≠ .no) (al : All K F H ((some v, c) :: (some (.ref a), .pl a cs) :: ps)) : All K F H ((some v, .wp c a cs) :: ps) := by
  obtain ⟨O, r, q⟩ := al
  cases r with
  | no r => exact absurd rfl nc
  | cons rq r =>
    cases r with
    | cons rp r =>
      cases rp with
      | pl e rc =>
        refine ⟨_, .cons (.wp rq e rc) r, ?_⟩
        rw [List.append_assoc]
        exact q
variable {σ : L2.St} {ρ : Rho} {τ : List Pr} {i : Nat}
theorem Sta.plow {a : Addr} {cs : List C} (s : Sta K F H σ ρ τ) (e : ρ[i]? = some (.pl a cs)) : σ[i]? = some (some (.ref a)) ∧ Sta K F H σ (ρ.set i (.ow cs)) τ := by
  obtain ⟨v, ev, s1⟩ := s.get e (by simp)
  obtain ⟨rfl, al⟩ := All.plow (ps := τ ++ σ.zip (ρ.set i .no)) s1.all
  refine ⟨ev, ?_⟩
  have s3 := (Sta.of (τ := (some (.ref a), .ow cs) :: τ) s1.1 al).back ev
  rwa [List.set_set] at s3
theorem Sta.owpl {a : Addr} {cs : List C} (s : Sta K F H σ ρ τ) (e : ρ[i]? = some (.ow cs)) (ea : σ[i]? = some (some (.ref a))) : Sta K F H σ (ρ.set i (.pl a cs)) τ := by
  obtain ⟨v, ev, s1⟩ := s.get e (by simp)
  rw [ea] at ev
  cases ev
  have al := All.owpl (ps := τ ++ σ.zip (ρ.set i .no)) s1.all
  have s3 := (Sta.of (τ := (some (.ref a), .pl a cs) :: τ) s1.1 al).back ea
  rwa [List.set_set] at s3
end
/-- an expression that looks at the pool as at a list of ours -/
def ePl (i : Nat) (m : M C) : M C := fun ρ => match ρ[i]? with
  | some (.pl a cs) => match m (ρ.set i (.ow cs)) with
    | .ok c ρ1 => match ρ1[i]? with
      | some (.ow cs') => .ok c (ρ1.set i (.pl a cs'))
      | _ => .st
    | _ => .st
  | _ => .st
/-- return, with the pool -/
def sRetP (i : Nat) (m : M C) : SM := fun ρ => (m ρ).thn fun c ρ => match ρ[i]? with
  | some (.pl a cs) => .rt (.wp c a cs)
  | _ => .st
/-- pool[k] = e -/
def sSetIxP (i : Nat) (mk me : M C) : SM := fun ρ => (me ρ).thn fun c ρ => if hasN ρ[i]? then (mk ρ).thn fun d ρ => match ρ[i]?, fzD d with
  | some (.pl a cs), .int j => match setF j cs c with
    | some cs' => .nx (ρ.set i (.pl a cs'))
    | none => .st
  | _, _ => .st
  else .st
open Classical in
/-- a call whose list is anywhere -/
noncomputable def callOw (μ : M C) (p : List C) (cs : List C) : Option (C × List C) :=
  if h : ∃ r : C × List C, ∀ a, ∃ ρ', μ (.pl a p :: cs) = .ok (.wp r.1 a r.2) ρ' then some (Classical.choose h) else none
theorem callOw_eq {μ : M C} {p cs : List C} {c : C} {p' : List C} (h : ∀ a, ∃ ρ', μ (.pl a p :: cs) = .ok (.wp c a p') ρ') : callOw μ p cs = some (c, p') := by
  have hx : ∃ r : C × List C, ∀ a, ∃ ρ', μ (.pl a p :: cs) = .ok (.wp r.1 a r.2) ρ' := ⟨(c, p'), h⟩
  unfold callOw
  rw [dif_pos hx]
  obtain ⟨ρ1, e1⟩ := Classical.choose_spec hx 0
  obtain ⟨ρ2, e2⟩ := h 0
  rw [e1] at e2
  cases e2
  rfl
theorem callOw_sp {μ : M C} {p cs : List C} {c : C} {p' : List C} (h : callOw μ p cs = some (c, p')) (a : Addr) : ∃ ρ', μ (.pl a p :: cs) = .ok (.wp c a p') ρ' := by
  unfold callOw at h
  split at h
  · rename_i hx
    have := Classical.choose_spec hx a
    have e := Option.some.inj h
    rw [e] at this
    exact this
  · cases h
noncomputable def eCallP (μ : M C) (i : Nat) (m : M (List C)) : M C := fun ρ => if hasN ρ[i]? then (m ρ).bind fun cs ρ => match ρ[i]? with
  | some (.pl a p) => match μ (.pl a p :: cs) with
    | .ok (.wp c a' p') _ => if a' = a then .ok c (ρ.set i (.pl a p')) else .st
    | _ => .st
  | some (.ow p) => match callOw μ p cs with
    | some (c, p') => .ok c (ρ.set i (.ow p'))
    | none => .st
  | _ => .st
  else .st
section
variable {X : Cx} {W : WX} {cx : CXT} {k n : Nat} {f : Addr} {fd : FuncData} {ps : List Str} {μ : M C} {x y : Str} {p q pos apos : Pos} {e : Expr} {es : List Expr} {m : M C} {ma : M (List C)} {i : Nat}
theorem d_pl (i : Nat) (h : PE X e (tOf X.K W m)) : PE X e (tOf X.K W (ePl i m)) := h.imp fun σ H Q ⟨F, ρ, τ, s, g⟩ => by
  unfold ePl at g
  split at g
  · rename_i a cs ec
    obtain ⟨ev, s1⟩ := s.plow ec
    refine ⟨F, _, τ, s1, ?_⟩
    split at g
    · rename_i c ρ1 hm
      rw [hm]
      split at g
      · rename_i cs' ec'
        exact fun v F' H' nc s2 => g v F' H' nc (s2.owpl ec' ev)
      · exact g.elim
    · exact g.elim
  · exact g.elim
theorem ds_retP (i : Nat) (h : PE X e (tOf X.K W m)) : PS X (.Return (some e) pos) (sOf X.K W (sRetP i m)) := (ps_ret h).imp fun D σ H ⟨F, ρ, τ, s, g⟩ =>
  runC s ((GoodS.thn g).imp (fun c ρ1 q v F1 H1 nc s1 => by
    split at q
    · rename_i a cs ec
      obtain ⟨v', ev, s2⟩ := s1.get ec (by simp)
      have al2 : All X.K F1 H1 ((some v', .pl a cs) :: (((some v, c) :: τ) ++ σ.zip (ρ1.set i .no))) := s2.all
      obtain ⟨rfl, al3⟩ := al2.plow
      have al4 := al3.owpl
      have al5 : All X.K F1 H1 ((some v, c) :: (some (.ref a), .pl a cs) :: (τ ++ σ.zip (ρ1.set i .no))) := al4.perm (.swap _ _ _)
      have al6 := al5.wpMk nc
      refine q v F1 H1 (by simp) ?_
      have al7 : All X.K F1 H1 (((some v, .wp c a cs) :: τ) ++ σ.zip (ρ1.set i .no)) := al6
      exact (al7.perm List.perm_append_comm).dropL
    · exact q.elim) fun _ _ q => q)
theorem ds_setIxP (i : Nat) {x : Str} {k : Expr} {mk : M C} (hk : PE X k (tOf X.K W mk)) (he : PE X e (tOf X.K W m)) (hN : X.N[i]? = some x := by rfl) (hv : Vis X.env.scope x := by first | exact Or.inl rfl | exact Or.inr (Or.inl rfl) | exact Or.inr (Or.inr rfl)) (hd : (x == ("__debug__" : Str)) = false := by decide)
    (hcd : (x == ("__classdict__" : Str)) = false := by decide)
    (hs : swapsWithSole [.Subscript (.Name x p) k apos] e pos.line X.env = pure false := by rfl) (hw : swappedStores [.Subscript (.Name x p) k apos] e X.env = pure none := by rfl)
    (h1 : (assignEach [.Subscript (.Name x p) k apos] X.env).map (·.2) = [assign (.Subscript (.Name x p) k apos) X.env] := by rfl)
    (ha : ∀ v, assign (.Subscript (.Name x p) k apos) X.env v = (do let ov ← holding [v] (eval (.Name x p) X.env); let iv ← holding [v, ov] (eval k X.env); standAt apos; holding [v, ov, iv] (setItem ov iv v); release [v, ov, iv] []) := by intro _; rfl) :
    PS X (.Assign [.Subscript (.Name x p) k apos] e pos) (sOf X.K W (sSetIxP i mk m)) :=
  (ps_asg he (pg_sub (pe_var hN hv hd hcd) hk set_list ha) hs hw h1).imp fun D σ H ⟨F, ρ, τ, s, g⟩ => by
    refine run1 s ((GoodS.thn g).imp (fun c ρ1 q v F1 H1 s1 => ?_) fun _ _ q => q)
    split at q
    · rename_i ho
      obtain ⟨av, ev⟩ := s1.has ho
      refine ⟨av, ev, run1 s1 ((GoodS.thn q).imp (fun d ρ2 q w F2 H2 s2 => ?_) fun _ _ q => q.drop)⟩
      split at q
      · rename_i a cs j ec ej
        split at q
        · rename_i cs' hf
          rw [ej] at s2
          unfold setF at hf
          rw [Option.map_eq_some_iff] at hf
          obtain ⟨kk, hkk, rfl⟩ := hf
          obtain ⟨ev', s2'⟩ := s2.plow ec
          rw [ev] at ev'
          cases ev'
          have hlt : i < ρ2.length := (List.getElem?_eq_some_iff.mp ec).1
          obtain ⟨v'', ev'', s3⟩ := s2'.get (i := i) (c := .ow cs) (List.getElem?_set_self hlt) (by simp)
          rw [ev] at ev''
          cases ev''
          rw [List.set_set] at s3
          obtain ⟨a', ws, O, e1, hw', rc⟩ := s3.owOf
          cases e1
          refine ⟨a, ws, j, kk, rfl, s2.fzOf.intv, hw', by rw [rc.len]; exact hkk, ?_⟩
          have s4 : Sta X.K F2 H2 σ (ρ2.set i .no) ((some (.ref a), .ow cs) :: (some v, .fz (fzD c)) :: τ) := s3.swap.drop
          have rv : Rep X.K F2 H2 v (fzD c) := s4.drop.fzOf
          have s5 : Sta X.K F2 (upd H2 a (.lst (ws.set kk v))) σ (ρ2.set i .no) ((some (.ref a), .ow (cs.set kk (.fz (fzD c)))) :: τ) := s4.on fun l al => by
            refine All.write (qs := [(some v, .fz (fzD c))]) al fun ws' O O1 hws rcs rp => ?_
            rw [hw'] at hws
            cases hws
            obtain ⟨O2, q2, h2⟩ := RepCs.set rv kk rcs
            exact ⟨O2, q2, h2.trans (by simp)⟩
          have s6 := s5.back ev
          rw [List.set_set] at s6
          have s7 := s6.owpl (i := i) (List.getElem?_set_self hlt) ev
          rw [List.set_set] at s7
          exact q σ F2 _ s7
        · exact q.elim
      · exact q.elim
    · exact q.elim
theorem d_callP (i : Nat) (G : FnG X.prog X.w X.K X.mg X.base cx k f fd ps (spF X.K (n + 1) μ)) (hr : Room k X.A) (hgd : X.A.guards = some []) (hm : X.mg x = some (.ref f)) (hk : PySem.W.keepIn X.K (.ref f) = true) (hb : Binds X.K fd ps []) (hx : ∀ σ, PassesAt cx X σ (WE W σ))
    (ha : PA X es (aOf X.K W ma)) (hl : lenIs n ma) (hN : X.N[i]? = some y := by rfl) (hv : Vis X.env.scope y := by first | exact Or.inl rfl | exact Or.inr (Or.inl rfl) | exact Or.inr (Or.inr rfl)) (hd : (y == ("__debug__" : Str)) = false := by decide)
    (hcd : (y == ("__classdict__" : Str)) = false := by decide) (hg : Gl X x := by rfl) (hdb : (x == ("__debug__" : Str)) = false := by decide) (he : starEach (.Name y q :: es) X.env = (false, eval (.Name y q) X.env) :: starEach es X.env := by rfl)
    (hpl : (backTo pos (starEach es X.env)).any (·.1) = false := by rfl) : PE X (.Call (.Name x p) (.Name y q :: es) [] pos) (tOf X.K W (eCallP μ i ma)) := (pe_go G hr hgd hg hm hk hb hx (pa_cons (pe_var hN hv hd hcd) ha he) hdb he hpl).imp fun σ H Q ⟨F, ρ, τ, s, g⟩ => by
  unfold eCallP at g
  split at g
  · rename_i hn
    obtain ⟨v, ev⟩ := s.has hn
    refine ⟨v, ev, ?_⟩
    rw [Good.bind] at g
    refine runA s ((Good.len hl g).imp (fun cs ρ1 q vs F1 H1 h1 h2 s1 => ?_) fun _ _ q => q)
    obtain ⟨q0, q⟩ := q
    have fin : ∀ {a : Addr} {pp : List C}, (∃ z, ρ1[i]? = some z) → σ[i]? = some (some (.ref a)) → Sta X.K F1 H1 σ (ρ1.set i .no) ((some (.ref a), .pl a pp) :: (tmps vs cs ++ τ)) → (∃ c p' ρ', μ (.pl a pp :: cs) = .ok (.wp c a p') ρ' ∧
        ∀ v' F' H', c ≠ .no → Sta X.K F' H' σ (ρ1.set i (.pl a p')) ((some v', c) :: τ) → Q v' H') → spF X.K (n + 1) μ (.ref a :: vs) H1 Q (WE W σ) := by
      rintro a pp ⟨z, hz⟩ ea s2 ⟨c, p', ρ', hμ, hq⟩
      refine ⟨by simp [h1, q0], F1, τ ++ σ.zip (ρ1.set i .no), .pl a pp :: cs, by simp [h1], fun c m => ?_, ?_, ?_⟩
      · rcases List.mem_cons.mp m with rfl | m
        · simp
        · exact h2 c m
      · have := s2.all
        rw [List.cons_append, List.append_assoc] at this
        exact this
      · rw [hμ]
        intro v' F' H' _ al
        obtain ⟨nc, al2⟩ := al.wpGet
        refine hq v' F' H' nc ?_
        have s3 : Sta X.K F' H' σ (ρ1.set i .no) ((some (.ref a), .pl a p') :: (some v', c) :: τ) := .of s2.1 (al2.perm (.swap _ _ _))
        have s4 := s3.back ea
        rwa [List.set_set] at s4
    split at q
    · rename_i a pp ec
      split at q
      · rename_i c a' p' ρ' hμ
        split at q
        · rename_i haa
          subst haa
          obtain ⟨v2, ev2, s2⟩ := s1.get ec (by simp)
          rw [ev] at ev2
          cases ev2
          obtain ⟨rfl, _⟩ := All.plow (ps := (tmps vs cs ++ τ) ++ σ.zip (ρ1.set i .no)) s2.all
          exact fin ⟨_, ec⟩ ev s2 ⟨c, p', ρ', hμ, fun v' F' H' nc s3 => q v' F' H' nc s3⟩
        · exact q.elim
      · exact q.elim
    · rename_i pp ec
      split at q
      · rename_i c p' hc
        obtain ⟨v2, ev2, s2⟩ := s1.get ec (by simp)
        rw [ev] at ev2
        cases ev2
        obtain ⟨a, ws, O, rfl, _, _⟩ := s2.owOf
        obtain ⟨ρ', hμ⟩ := callOw_sp hc a
        have s3 : Sta X.K F1 H1 σ (ρ1.set i .no) ((some (.ref a), .pl a pp) :: (tmps vs cs ++ τ)) := .of s2.1 (All.owpl (ps := (tmps vs cs ++ τ) ++ σ.zip (ρ1.set i .no)) s2.all)
        refine fin ⟨_, ec⟩ ev s3 ⟨c, p', ρ', hμ, fun v' F' H' nc s4 => ?_⟩
        have hlt : i < ρ1.length := (List.getElem?_eq_some_iff.mp ec).1
        have s5 := (s4.plow (i := i) (List.getElem?_set_self hlt)).2
        rw [List.set_set] at s5
        exact q v' F' H' nc s5
      · exact q.elim
    · exact q.elim
  · exact g.elim
end
section
variable (ρ : Rho) (i : Nat) (m n : M C)
@[simp] theorem ePl_ap : ePl i m ρ = match ρ[i]? with
  | some (.pl a cs) => match m (ρ.set i (.ow cs)) with
    | .ok c ρ1 => match ρ1[i]? with
      | some (.ow cs') => .ok c (ρ1.set i (.pl a cs'))
      | _ => .st
    | _ => .st
  | _ => .st := rfl
@[simp] theorem sRetP_ap : sRetP i m ρ = (m ρ).thn fun c ρ => match ρ[i]? with
  | some (.pl a cs) => .rt (.wp c a cs)
  | _ => .st := rfl
@[simp] theorem sSetIxP_ap : sSetIxP i m n ρ = (n ρ).thn fun c ρ => if hasN ρ[i]? then (m ρ).thn fun d ρ => match ρ[i]?, fzD d with
  | some (.pl a cs), .int j => match setF j cs c with
    | some cs' => .nx (ρ.set i (.pl a cs'))
    | none => .st
  | _, _ => .st
  else .st := rfl
@[simp] theorem eCallP_ap (μ : M C) (r : M (List C)) : eCallP μ i r ρ = if hasN ρ[i]? then (r ρ).bind fun cs ρ => match ρ[i]? with
  | some (.pl a p) => match μ (.pl a p :: cs) with
    | .ok (.wp c a' p') _ => if a' = a then .ok c (ρ.set i (.pl a p')) else .st
    | _ => .st
  | some (.ow p) => match callOw μ p cs with
    | some (c, p') => .ok c (ρ.set i (.ow p'))
    | none => .st
  | _ => .st
  else .st := rfl
@[simp] theorem sForO_ap (js : List Int) (put : C → Rho → Option Rho) (b : SM) : sForO i js put b ρ = match ρ[i]? with
  | some c => match takeC js c with
    | some (.ow cs) => forC put b cs (ρ.set i .no)
    | _ => .st
  | none => .st := rfl
@[simp] theorem takeC_nil (c : C) : takeC [] c = some c := by simp [takeC]
@[simp] theorem hasN_pl (a : Addr) (d : List C) : hasN (some (.pl a d)) = true := rfl
@[simp] theorem isOw_pl (a : Addr) (d : List C) : isOw (some (.pl a d)) = false := rfl
end
end Dn

/-! Den25: d[k] = e, an own dict. -/
namespace Dn
open PySem PySem.Spec PyProof.Rows L2
section
variable {X : Cx} {W : WX} {pos apos p : Pos} {e : Expr} {m : M C}
def isOd (c : Option C) : Bool := match c with
  | some (.od _) => true
  | _ => false
def putD (kvs : List (Key × D)) (k : Key) (v : D) : List (Key × D) :=
  if (kvs.any fun kv => decide (kv.1 = k)) = true then kvs.map (fun kv => if kv.1 = k then (kv.1, v) else kv) else kvs ++ [(k, v)]
def sSetK (i : Nat) (mk me : M C) : SM := fun ρ => (me ρ).thn fun c ρ => if isOd ρ[i]? then (mk ρ).thn fun d ρ => match ρ[i]?, keyD (fzD d) with
  | some (.od kvs), some k => if kvs.length ≤ 1000 then .nx (ρ.set i (.od (putD kvs k (fzD c)))) else .st
  | _, _ => .st
  else .st
theorem RepK.len {K : PySem.W.Frag} {F : Addr → Prop} {H : Hp} : ∀ {vs : List (Key × V)} {kvs : List (Key × D)}, RepK K F H vs kvs → vs.length = kvs.length
  | _, _, .nil => rfl
  | _, _, .cons _ rs => by simp [RepK.len rs]
theorem RepK.any {K : PySem.W.Frag} {F : Addr → Prop} {H : Hp} {k : Key} : ∀ {vs : List (Key × V)} {kvs : List (Key × D)}, RepK K F H vs kvs → (vs.any fun kv => decide (kv.1 = k)) = kvs.any fun kv => decide (kv.1 = k)
  | _, _, .nil => rfl
  | _, _, .cons _ rs => by simp [RepK.any (k := k) rs]
theorem RepK.app {K : PySem.W.Frag} {F : Addr → Prop} {H : Hp} : ∀ {vs ws : List (Key × V)} {kvs kws : List (Key × D)}, RepK K F H vs kvs → RepK K F H ws kws → RepK K F H (vs ++ ws) (kvs ++ kws)
  | _, _, _, _, .nil, q => q
  | _, _, _, _, .cons r rs, q => .cons r (RepK.app rs q)
theorem RepK.upd1 {K : PySem.W.Frag} {F : Addr → Prop} {H : Hp} {k : Key} {v : V} {d : D} (rv : Rep K F H v d) : ∀ {vs : List (Key × V)} {kvs : List (Key × D)}, RepK K F H vs kvs → RepK K F H (vs.map fun kv => if kv.1 = k then (kv.1, v) else kv) (kvs.map fun kv => if kv.1 = k then (kv.1, d) else kv)
  | _, _, .nil => .nil
  | _, _, .cons (k := k') r rs => by
    simp only [List.map_cons]
    by_cases e : k' = k
    · rw [if_pos e, if_pos e]; exact .cons rv (RepK.upd1 rv rs)
    · rw [if_neg e, if_neg e]; exact .cons r (RepK.upd1 rv rs)
theorem RepK.put {K : PySem.W.Frag} {F : Addr → Prop} {H : Hp} {k : Key} {v : V} {d : D} (rv : Rep K F H v d) {vs : List (Key × V)} {kvs : List (Key × D)} (r : RepK K F H vs kvs) : RepK K F H (putK vs k v) (putD kvs k d) := by
  unfold putK putD
  rw [r.any]
  split
  · exact RepK.upd1 rv r
  · exact r.app (.cons rv .nil)
theorem Sta.odGet {K : PySem.W.Frag} {F : Addr → Prop} {H : Hp} {σ : L2.St} {ρ : Rho} {τ : List Pr} {v : V} {kvs : List (Key × D)} (s : Sta K F H σ ρ ((some v, .od kvs) :: τ)) : ∃ a vs, v = .ref a ∧ H a = some (.dK vs) ∧ RepK K F H vs kvs := by
  obtain ⟨O, r, _⟩ := s.all
  cases r with
  | cons c _ =>
    cases c with
    | od e r => exact ⟨_, _, rfl, e, r⟩
theorem Sta.isOd {K : PySem.W.Frag} {F : Addr → Prop} {H : Hp} {σ : L2.St} {ρ : Rho} {τ : List Pr} {i : Nat} (s : Sta K F H σ ρ τ) (h : isOd ρ[i]? = true) : ∃ a, σ[i]? = some (some (.ref a)) := by
  cases e : ρ[i]? with
  | none => rw [e] at h; cases h
  | some c =>
    rw [e] at h
    cases c <;> simp only [Dn.isOd, Bool.false_eq_true] at h
    obtain ⟨v, ev, s2⟩ := s.get e (by simp)
    obtain ⟨a, vs, rfl, _⟩ := s2.odGet
    exact ⟨a, ev⟩
theorem Sta.odPut {K : PySem.W.Frag} {F : Addr → Prop} {H : Hp} {σ : L2.St} {ρ : Rho} {τ : List Pr} {a : Addr} {vs : List (Key × V)} {kvs : List (Key × D)} {k : Key} {v : V} {d : D} (s : Sta K F H σ ρ ((some (.ref a), .od kvs) :: (some v, .fz d) :: τ)) (e : H a = some (.dK vs)) :
    Sta K F (L2.upd H a (.dK (putK vs k v))) σ ρ ((some (.ref a), .od (putD kvs k d)) :: τ) := by
  refine s.on fun l ⟨O, r, nd, nf, dm⟩ => ?_
  cases r with
  | cons c r =>
    cases c with
    | od e' rk =>
      rw [e] at e'
      cases e'
      cases r with
      | cons c2 r =>
        cases c2 with
        | fz rv =>
          simp only [List.nil_append] at nd nf
          have hne : ∀ b, F b → b ≠ a := fun b f z => nf a List.mem_cons_self (z ▸ f)
          have nd' := List.nodup_cons.mp nd
          refine ⟨_, .cons (.od upd_same (RepK.mono (fun _ f => f) (fun b f => upd_ne (hne b f)) (RepK.put (k := k) rv rk))) (RepP.mono (fun _ f => f) (fun b f => upd_ne (hne b f)) r fun b m => upd_ne fun z => nd'.1 (z ▸ m)), nd, nf, fun b f => ?_⟩
          rw [upd_ne (hne b f)]
          exact dm b f
theorem ds_setK (i : Nat) {x : Str} {k : Expr} {mk : M C} (hu : X.A.units + 1 < cLine) (hk : PE X k (tOf X.K W mk)) (he : PE X e (tOf X.K W m)) (hN : X.N[i]? = some x := by rfl) (hv : Vis X.env.scope x := by first | exact Or.inl rfl | exact Or.inr (Or.inl rfl) | exact Or.inr (Or.inr rfl)) (hd : (x == ("__debug__" : Str)) = false := by decide)
    (hcd : (x == ("__classdict__" : Str)) = false := by decide)
    (hs : swapsWith e (some (.Subscript (.Name x p) k apos)) pos.line X.env = pure false := by rfl) :
    PS X (.Assign [.Subscript (.Name x p) k apos] e pos) (sOf X.K W (sSetK i mk m)) :=
  (ps_dput hu (pe_var hN hv hd hcd) hk he hs).imp fun D σ H ⟨F, ρ, τ, s, g⟩ => by
    refine run1 s ((GoodS.thn g).imp (fun c ρ1 q v F1 H1 s1 => ?_) fun _ _ q => q)
    split at q
    · rename_i ho
      obtain ⟨a, ev⟩ := s1.isOd ho
      refine ⟨.ref a, ev, run1 s1 ((GoodS.thn q).imp (fun d ρ2 q w F2 H2 s2 => ?_) fun _ _ q => q.drop)⟩
      split at q
      · rename_i kvs k' ec ek
        split at q
        · rename_i hl
          obtain ⟨v', ev', s3⟩ := s2.get ec (by simp)
          rw [ev] at ev'
          cases ev'
          obtain ⟨a', ws, e1, hw', rk⟩ := s3.odGet
          cases e1
          have hkey := s2.fzOf.key ek
          have s4 : Sta X.K F2 H2 σ (ρ2.set i .no) ((some (.ref a), .od kvs) :: (some v, .fz (fzD c)) :: τ) := s3.swap.drop
          subst hkey
          refine ⟨a, _, rfl, DPut.k hw' (Nat.lt_of_le_of_lt (by rw [rk.len]; exact hl) (by decide)), ?_⟩
          have s5 := s4.odPut (k := k') hw'
          have s6 := s5.back ev
          rw [List.set_set] at s6
          exact q σ F2 _ s6
        · exact q.elim
      · exact q.elim
    · exact q.elim
end
@[simp] theorem isOd_od (kvs : List (Key × D)) : isOd (some (.od kvs)) = true := rfl
@[simp] theorem sSetK_ap (i : Nat) (mk me : M C) (ρ : Rho) : sSetK i mk me ρ = (me ρ).thn fun c ρ => if isOd ρ[i]? then (mk ρ).thn fun d ρ => match ρ[i]?, keyD (fzD d) with
  | some (.od kvs), some k => if kvs.length ≤ 1000 then .nx (ρ.set i (.od (putD kvs k (fzD c)))) else .st
  | _, _ => .st
  else .st := rfl
end Dn

/-! Den26: try: .. except A as n: .. except B: .. -/
namespace Dn
open PySem PySem.Spec PyProof.Rows L2 PySem.ExD
section
variable {X : Cx} {x y n : Str} {cA cB : Value} {i : Nat} {bd r1 r2 : List Stmt} {h1 h2 : Stmt} {xp yp q1 q2 tp : Pos} {tb : WX → TS} {tA tB : Addr → Value → Option Addr → TS} {Wo : WX}
/-- the wishes of both clauses -/
def wTwo (K : PySem.W.Frag) (cA : Value) (i : Nat) (tA : Addr → Value → Option Addr → TS) (cB : Value) (tB : Addr → Value → Option Addr → TS) (Wo : WX) (D : Ends) : WX :=
  wAs K cA i tA (wMany K Wo D [(cB, tB)]) D
theorem ps_two (stk : X.stack = X.env :: X.outer) (frm : X.env.frame = some X.env.locals) (nod : X.N.Nodup) (slot : X.N[i]? = some n) (loc : X.env.kindOf n = some .local) (nA : Names X x cA) (nB : Names X y cB) (tk : Takes X Wo)
    (body : ∀ (W : WX) (pn : List (Addr × Obj)) (xe : Value → Shared → Prop), Takes (X.tr pn xe) W → PassesOwn (model X.prog X.w) X.A X.env xe → PSs (X.tr pn xe) bd (tb W))
    (suA : ∀ (a : Addr) (ob : Obj) (k : Value) (d : Option Addr) (pn : List (Addr × Obj)), Zc k d ob → (∃ vs, ob.data = .fields vs) → PSs (X.suite a ((a, ob) :: pn)) (h1 :: r1) (tA a k d))
    (suB : ∀ (a : Addr) (ob : Obj) (k : Value) (d : Option Addr) (pn : List (Addr × Obj)), Zc k d ob → (∃ vs, ob.data = .fields vs) → PSs (X.suite a ((a, ob) :: pn)) (h2 :: r2) (tB a k d)) :
    PS X (.Try bd [.ExceptHandler (some (.Name x xp)) (some n) (h1 :: r1) q1, .ExceptHandler (some (.Name y yp)) none (h2 :: r2) q2] [] [] tp) (fun D σ H => tb (wTwo X.K cA i tA cB tB Wo D) D σ H) := by
  refine ⟨fun pins s σ H D inv run => ?_⟩
  have okk := inv.ok
  have frs' : X.A.frames = some (X.env :: X.outer) := by
    rw [okk.frames, stk]
  refine wpAny_Try_except ?_
  refine wpAny_mono ((body (wTwo X.K cA i tA cB tB Wo D) (X.pn ++ pins) _ (fun u s' caught => ?_) PassesOwn.looking).run [] s σ H D (inv.toTry _) run) (fun f sf qf => ?_) (fun e se he => he)
  · obtain ⟨a, B, sI, pins', τ, G, k, d, rfl, inner, nb, up, sk, nap, os, ag, wish⟩ := caught
    have invT : Inv X pins τ G sI := inner.ofTry okk
    rw [stk] at sk
    show wpAny (model X.prog X.w) X.A (noteFrame (.ref a) X.env) _ _ _
    refine Sky.land Zc.steady frs' frm sk fun g3 fl up3 => ?_
    have inv3 : Inv X pins τ G { s' with heap := g3 } := invT.landed nb fl.1 (up.trans up3) os ag
    obtain ⟨ob, vs, get, zc, fields⟩ := fl.there
    have away : a ∉ frs (X.env :: X.outer) := fun hm => by
      obtain ⟨_, o', e', no⟩ := fl.2.2.1.mem hm
      rw [get] at e'
      cases e'
      exact no _ fields
    have aLoc : a ≠ X.env.locals := fun z => away (List.mem_filterMap.mpr ⟨X.env, .head _, by rw [frm, z]⟩)
    have aFs : a ∉ X.fs := fun hm => by
      obtain ⟨e, me, qe⟩ := List.mem_filterMap.mp hm
      exact away (List.mem_filterMap.mpr ⟨e, .tail _ me, qe⟩)
    have invS := inv3.suite get fields nap aLoc aFs
    have looks : PySem.W.Looks (model X.prog X.w) g3 (typeOf (.ref a)) k := fun A Q E s kk q => wpAny_typeOf_ref (kk _ _ get) (by
      rw [zc.1]
      exact q)
    have nameOf : ∀ {z : Str} {zp : Pos} {c : Value} {Q E : Value → Shared → Prop}, Names X z c → Q c { s' with heap := g3 } → wpAny (model X.prog X.w) (X.A.mark (some (.ref a))) (eval (.Name z zp) X.env) Q E { s' with heap := g3 } := fun {z zp c Q E} nz q => by
      obtain ⟨gl, dbg, own | ⟨free, blt, other⟩⟩ := nz
      · exact ld_glob (X := X.suite a ((a, ob) :: (X.pn ++ pins))) invS gl own q dbg
      · exact ld_blt (X := X.suite a ((a, ob) :: (X.pn ++ pins))) invS gl free blt q other dbg
    obtain ⟨b, isA, yesA, noA⟩ := wish
    refine wpAny_handleBy_cons (codeAny_handlers_test ?_) (by intro q; cases q)
    refine nameOf nA ((PySem.W.exm_one (M := model X.prog X.w) inv3.kIn looks isA).here ?_)
    cases b with
    | true =>
      refine codeAny_handlers_suite_as ?_
      refine HandSPX.lands_againZ fl fun g4 fl4 up4 => ?_
      have inv4 : Inv X pins τ G { s' with heap := g4 } := invT.landed nb fl4.1 ((up.trans up3).trans up4) os ag
      obtain ⟨ob4, vs4, get4, zc4, fields4⟩ := fl4.there
      have invS4 := inv4.suite get4 fields4 nap aLoc aFs
      refine store_ok (X := X.suite a ((a, ob4) :: (X.pn ++ pins))) (v := .ref a) invS4 nod slot (.inl loc) rfl (fun s5 inv5 => ?_) (.inr loc)
      refine wpAny_mono ((suA a ob4 k d (X.pn ++ pins) zc4 ⟨_, fields4⟩).run [] s5 _ G _ inv5 (yesA rfl a nap)) (fun f s6 end6 => ?_) (fun _ _ z => False.elim z)
      have gone : ∀ {σ6 : L2.St} {H6 : Hp} {Q : Shared → Prop}, Inv (X.suite a ((a, ob4) :: (X.pn ++ pins))) [] σ6 H6 s6 → (∀ s7, Inv X pins (σ6.set i none) H6 s7 → Q s7) →
          wpAny (model X.prog X.w) X.A (do bindName X.env n .none; unbindBehindTheSuite X.env n q1) (fun _ s7 => Q s7) X.xe s6 := fun inv6 goal => gone_ok (inv6.unsuite okk) nod slot loc goal
      cases f with
      | ret u =>
        obtain ⟨v, σ6, H6, inv6, rv, qv⟩ := end6
        exact gone inv6 fun s7 inv7 => ⟨v, _, H6, inv7, rv, qv⟩
      | next =>
        obtain ⟨σ6, H6, inv6, qn⟩ := end6
        exact gone inv6 fun s7 inv7 => ⟨_, H6, inv7, qn⟩
      | brk =>
        obtain ⟨σ6, H6, inv6, qn⟩ := end6
        exact gone inv6 fun s7 inv7 => ⟨_, H6, inv7, qn⟩
      | cont =>
        obtain ⟨σ6, H6, inv6, qn⟩ := end6
        exact gone inv6 fun s7 inv7 => ⟨_, H6, inv7, qn⟩
    | false =>
      obtain ⟨b2, isB, yesB, noB⟩ := noA rfl
      show wpAny _ X.A (handleBy (.ref a) X.env [_]) _ _ _
      refine wpAny_handleBy_cons (codeAny_handlers_test ?_) (by intro q; cases q)
      refine nameOf nB ((PySem.W.exm_one (M := model X.prog X.w) inv3.kIn looks isB).here ?_)
      cases b2 with
      | true =>
        refine codeAny_handlers_suite ?_
        refine HandSPX.lands_againZ fl fun g4 fl4 up4 => ?_
        have inv4 : Inv X pins τ G { s' with heap := g4 } := invT.landed nb fl4.1 ((up.trans up3).trans up4) os ag
        obtain ⟨ob4, vs4, get4, zc4, fields4⟩ := fl4.there
        refine wpAny_mono ((suB a ob4 k d (X.pn ++ pins) zc4 ⟨_, fields4⟩).run [] _ _ G _ (inv4.suite get4 fields4 nap aLoc aFs) (yesB rfl a nap)) (fun f s6 end6 => ?_) (fun _ _ z => False.elim z)
        cases f with
        | ret u =>
          obtain ⟨v, σ6, H6, inv6, rv, qv⟩ := end6
          exact ⟨v, σ6, H6, inv6.unsuite okk, rv, qv⟩
        | next =>
          obtain ⟨σ6, H6, inv6, qn⟩ := end6
          exact ⟨σ6, H6, inv6.unsuite okk, qn⟩
        | brk =>
          obtain ⟨σ6, H6, inv6, qn⟩ := end6
          exact ⟨σ6, H6, inv6.unsuite okk, qn⟩
        | cont =>
          obtain ⟨σ6, H6, inv6, qn⟩ := end6
          exact ⟨σ6, H6, inv6.unsuite okk, qn⟩
      | false =>
        show wpAny _ X.A (handleBy (.ref a) X.env []) _ _ _
        refine wpAny_handleBy_nil ?_
        have fl' := fl
        obtain ⟨_, _, _, oe, us, T, oT, ts, get', _, flds, hT, _⟩ := fl'
        unfold PySem.passOn
        refine wpAny_bind (wpAny_field get' flds hT ?_)
        rw [if_neg (show ¬ ((Value.ref T == Value.none) = true) by simp)]
        have up2 : wpAny (model X.prog X.w) X.A (setFlight (.ref a) X.env.frame) (fun _ s4 => wpAny (model X.prog X.w) X.A (throw (.ref a) : Sem Flow) (SP X pins D) X.xe s4) X.xe { s' with heap := g3 } := by
          rw [frm]
          refine HandSPX.setFlight_upZ fl fun g4 sky4 up4 => wpAny_throw (tk _ _ ?_)
          exact ⟨a, B, sI, pins, τ, G, k, d, rfl, invT, nb, (up.trans up3).trans up4, .inr (.inr (by rw [stk]; exact sky4)), nap, os, ag, noB rfl⟩
        first
          | exact wpAny_bind (wpAny_pure (wpAny_bind up2))
          | exact wpAny_bind up2
  · cases f with
    | next =>
      obtain ⟨τ, G, invE, q⟩ := qf
      exact wpAny_execs_nil ⟨τ, G, invE.ofTry okk, q⟩
    | ret u =>
      obtain ⟨v, τ, G, invE, rv, q⟩ := qf
      exact ⟨v, τ, G, invE.ofTry okk, rv, q⟩
    | brk =>
      obtain ⟨τ, G, invE, q⟩ := qf
      exact ⟨τ, G, invE.ofTry okk, q⟩
    | cont =>
      obtain ⟨τ, G, invE, q⟩ := qf
      exact ⟨τ, G, invE.ofTry okk, q⟩
end
end Dn

/-! Den27: two except clauses in our layer; a suite that returns a tuple with a field of the error. -/
namespace Dn
open PySem PySem.Spec PyProof.Rows L2 PySem.ExD
/-- what a suite without a name is asked -/
def tsC (K : PySem.W.Frag) (isc : Str → Option Bool) (su : Er → Option D) : Addr → Value → Option Addr → TS := fun a cls d D σ H =>
  ∃ e F ρ τ z, ErOk K F H e cls d ∧ Sta K F H σ ρ τ ∧ isc e.cls = some true ∧ su e = some z ∧ ∀ v F' H', All K F' H' ((some v, .fz z) :: τ) → D.rt v H'
def sTry2 (i : Nat) (m : SM) (isc : Str → Option Bool) (su : Er → Option D) (isc2 : Str → Option Bool) (su2 : Er → Option D) : SM := fun ρ => match m ρ with
  | .er e ρ' => match isc e.cls with
    | some true => match su e with
      | some z => if i < ρ'.length then .rt (.fz z) else .st
      | none => .st
    | some false => match isc2 e.cls with
      | some true => match su2 e with
        | some z => .rt (.fz z)
        | none => .st
      | some false => .er e ρ'
      | none => .st
    | none => .st
  | r => r
section
variable {X : Cx} {W : WX} {x y n : Str} {c c2 : Value} {i : Nat} {body r1 r2 : List Stmt} {b1 b2 : Stmt} {np yp pos q1 q2 : Pos} {m : SM} {isc isc2 : Str → Option Bool} {su su2 : Er → Option D}
theorem ds_try2 (i : Nat) (hc : Names X x c) (hc2 : Names X y c2) (tk : Takes X W) (hx : ∀ k b, isc k = some b → PySem.W.exmOne X.K (clsOf X.K k) c = some b) (hx2 : ∀ k b, isc2 k = some b → PySem.W.exmOne X.K (clsOf X.K k) c2 = some b)
    (hb : ∀ (W : WX) (pn : List (Addr × Obj)) (xe : Value → Shared → Prop), Takes (X.tr pn xe) W → PassesOwn (model X.prog X.w) X.A X.env xe → PSs (X.tr pn xe) body (sOf X.K W m))
    (hsu : ∀ (a : Addr) (oe : Obj) (cls : Value) (d : Option Addr) (pn : List (Addr × Obj)), Zc cls d oe → (∃ vs, oe.data = .fields vs) → PSs (X.suite a ((a, oe) :: pn)) (b1 :: r1) (tsOf X.K i isc su a cls d))
    (hsu2 : ∀ (a : Addr) (oe : Obj) (cls : Value) (d : Option Addr) (pn : List (Addr × Obj)), Zc cls d oe → (∃ vs, oe.data = .fields vs) → PSs (X.suite a ((a, oe) :: pn)) (b2 :: r2) (tsC X.K isc2 su2 a cls d))
    (hN : X.N.Nodup) (hs : X.stack = X.env :: X.outer := by rfl) (hf : X.env.frame = some X.env.locals := by rfl) (hi : X.N[i]? = some n := by rfl) (hln : X.env.kindOf n = some .local := by rfl) :
    PS X (.Try body [.ExceptHandler (some (.Name x np)) (some n) (b1 :: r1) q1, .ExceptHandler (some (.Name y yp)) none (b2 :: r2) q2] [] [] pos) (sOf X.K W (sTry2 i m isc su isc2 su2)) :=
  (ps_two (tb := fun W => sOf X.K W m) hs hf hN hi hln hc hc2 tk hb hsu hsu2).imp fun D σ H ⟨F, ρ, τ, s, g⟩ => by
    refine ⟨F, ρ, τ, s, ?_⟩
    unfold sTry2 at g
    cases hm : m ρ with
    | er e ρ' =>
      rw [hm] at g
      intro σ' F' H' cls d ho s'
      dsimp only at g
      have hcl : cls = clsOf X.K e.cls := ho.1
      split at g
      · rename_i hk
        split at g
        · rename_i z hz
          split at g
          · rename_i hlt
            refine ⟨true, by rw [hcl]; exact hx _ _ hk, fun _ a ha => ?_, fun h => Bool.noConfusion h⟩
            exact ⟨e, F', ρ'.set i .no, τ, z, ho, s'.setX i _, List.getElem?_set_self (by rw [s'.1]; exact hlt), hk, hz, fun v F2 H2 al => g v F2 H2 (by simp) al⟩
          · exact g.elim
        · exact g.elim
      · rename_i hk
        refine ⟨false, by rw [hcl]; exact hx _ _ hk, fun h => Bool.noConfusion h, fun _ => ?_⟩
        split at g
        · rename_i hk2
          split at g
          · rename_i z hz
            exact ⟨true, by rw [hcl]; exact hx2 _ _ hk2, fun _ a ha => ⟨e, F', ρ', τ, z, ho, s', hk2, hz, fun v F2 H2 al => g v F2 H2 (by simp) al⟩, fun h => Bool.noConfusion h⟩
          · exact g.elim
        · rename_i hk2
          exact ⟨false, by rw [hcl]; exact hx2 _ _ hk2, fun h => Bool.noConfusion h, fun _ => g σ' F' H' cls d ho s'⟩
        · exact g.elim
      · exact g.elim
    | st => rw [hm] at g; exact g
    | nx ρ' => rw [hm] at g; exact g
    | bk ρ' => rw [hm] at g; exact g
    | ct ρ' => rw [hm] at g; exact g
    | rt c' => rw [hm] at g; exact g
/-- a suite that returns z -/
theorem su_cst {a : Addr} {oe : Obj} {cls : Value} {d : Option Addr} {pn : List (Addr × Obj)} {bs : List Stmt} {m1 : SM} {z : D} (hb : PSs (X.suite a ((a, oe) :: pn)) bs (sOf X.K noW m1)) (hm : ∀ ρ, m1 ρ = .rt (.fz z)) :
    PSs (X.suite a ((a, oe) :: pn)) bs (tsC X.K isc (fun _ => some z) a cls d) := ⟨fun pins s σ H D I h => by
  obtain ⟨e, F, ρ, τ, z0, ho, st, hk, hz, q⟩ := h
  cases hz
  refine hb.run pins s σ H D I ⟨F, ρ, τ, st, ?_⟩
  rw [hm]
  exact fun v F' H' nc al => q v F' H' al⟩
/-- (s1, s2, n.f) -/
def fldTag (s1 s2 f : Str) (e : Er) : Option D := (fldOf f e).map fun x => .tup [.str s1, .str s2, x]
theorem su_tag {a : Addr} {oe : Obj} {cls : Value} {d : Option Addr} {pn : List (Addr × Obj)} {f s1 s2 : Str} {rp p2 p3 p4 p5 p6 : Pos} {j1 j2 : Nat} {tx : Nat} (i : Nat) (hcl : ∀ k, isc k = some true → ∃ C : Addr, clsOf X.K k = .ref C ∧ XfC X.K C ∧ PySem.W.findIn X.K (.ref C) f = some none) (hz : Zc cls d oe) (hf : ∃ vs, oe.data = .fields vs)
    (hN : X.N[i]? = some n := by rfl) (hv : Vis X.env.scope n := by first | exact Or.inl rfl | exact Or.inr (Or.inl rfl) | exact Or.inr (Or.inr rfl)) (hd : (n == ("__debug__" : Str)) = false := by decide) (hcd : (n == ("__classdict__" : Str)) = false := by decide) (hb : attributeBase (.Name n p2) f X.env (eval (.Name n p2) X.env) = eval (.Name n p2) X.env := by rfl)
    (e1 : starEach [.Constant (.str s1) j1 p4, .Constant (.str s2) j2 p5, .Attribute (.Name n p2) f p3] X.env = (false, eval (.Constant (.str s1) j1 p4) X.env) :: starEach [.Constant (.str s2) j2 p5, .Attribute (.Name n p2) f p3] X.env := by rfl)
    (e2 : starEach [.Constant (.str s2) j2 p5, .Attribute (.Name n p2) f p3] X.env = (false, eval (.Constant (.str s2) j2 p5) X.env) :: starEach [.Attribute (.Name n p2) f p3] X.env := by rfl)
    (e3 : starEach [.Attribute (.Name n p2) f p3] X.env = (false, eval (.Attribute (.Name n p2) f p3) X.env) :: starEach [] X.env := by rfl) :
    PSs (X.suite a ((a, oe) :: pn)) [.Return (some (.Tuple [.Constant (.str s1) j1 p4, .Constant (.str s2) j2 p5, .Attribute (.Name n p2) f p3] tx p6)) rp] (tsOf X.K i isc (fldTag s1 s2 f) a cls d) := ⟨fun pins s σ H D I h => by
  obtain ⟨e, F, ρ, τ, z, ho, st, hi, hk, hz2, q⟩ := h
  obtain ⟨C, hC, hxf, hno⟩ := hcl _ hk
  have hpv : PE (X.suite a ((a, oe) :: pn)) (.Name n p2) (tVar i) := pe_var (X := X.suite a ((a, oe) :: pn)) hN hv hd hcd
  refine (pss_one (ps_ret (pe_tup (pa_cons pe_str (pa_cons pe_str (pa_cons (pe_xf (X := X) hxf hno hz hf hpv hb) pa_nil e3) e2) e1)))).run pins s σ H D I ?_
  obtain ⟨h1, h2⟩ := ho
  unfold fldTag fldOf at hz2
  rw [Option.map_eq_some_iff] at hz2
  obtain ⟨x, hz2, rfl⟩ := hz2
  split at hz2
  · rename_i g y hfl
    split at hz2
    · rename_i hg
      cases hz2
      subst hg
      rw [hfl] at h2
      obtain ⟨dx, v, rfl, fx, hx, rv⟩ := h2
      refine ⟨.ref a, hi, rfl, h1.trans hC, dx, _, v, rfl, hx, by simp [List.lookup], ?_⟩
      refine ⟨show 3 ≤ sizeLine by decide, fun p np => ?_⟩
      have al : All X.K F H (tmps [V.str s1, V.str s2, v] [.fz (.str s1), .fz (.str s2), .fz x] ++ τ) := (((st.2.dropL).push rv).push (.str s2)).push (.str s1)
      obtain ⟨F', _, al'⟩ := (al.mkT (p := p) rfl (by simp) np).freeze (by simp)
      exact q _ F' _ (by simpa [fzD, fzDs] using al')
    · cases hz2
  · cases hz2⟩
end
@[simp] theorem sTry2_ap (i : Nat) (m : SM) (isc : Str → Option Bool) (su : Er → Option D) (isc2 : Str → Option Bool) (su2 : Er → Option D) (ρ : Rho) : sTry2 i m isc su isc2 su2 ρ = match m ρ with
  | .er e ρ' => match isc e.cls with
    | some true => match su e with
      | some z => if i < ρ'.length then .rt (.fz z) else .st
      | none => .st
    | some false => match isc2 e.cls with
      | some true => match su2 e with
        | some z => .rt (.fz z)
        | none => .st
      | some false => .er e ρ'
      | none => .st
    | none => .st
  | r => r := rfl
end Dn

/-! Den28: suites in our layer: the error stands in its slot as an object, isinstance(e, C) is known. -/
namespace Dn
open PySem PySem.Spec PyProof.Rows L2 PySem.ExD
def eIsE (i : Nat) (a : Addr) (b : Bool) : M C := fun ρ => match ρ[i]? with
  | some (.fz (.ob (.ref x))) => if x = a then .ok (.fz (.bl b)) ρ else .st
  | _ => .st
@[simp] theorem eIsE_ap (i : Nat) (a : Addr) (b : Bool) (ρ : Rho) : eIsE i a b ρ = match ρ[i]? with
  | some (.fz (.ob (.ref x))) => if x = a then .ok (.fz (.bl b)) ρ else .st
  | _ => .st := rfl
section
variable {X : Cx} {W : WX} {n cn : Str} {body : List Stmt} {isc : Str → Option Bool} {p p2 p3 p4 p5 : Pos} {a Dg : Addr} {oe : Obj} {pn : List (Addr × Obj)}
theorem d_isE {cv : V} {cw : Value} {b : Bool} (i : Nat) (hC : ExcC X.K Dg) (hz : Zc (.ref Dg) none oe) (hf : ∃ vs, oe.data = .fields vs) (hcn : PE (X.suite a ((a, oe) :: pn)) (.Name cn p3) (tC cv)) (hcw : ∀ u, RelV cv u → u = cw) (hkit : PySem.W.kitOne X.K (.ref Dg) cw = some b) (nI : X.mg "isinstance" = none)
    (hN : X.N[i]? = some n := by rfl) (hv : Vis X.env.scope n := by first | exact Or.inl rfl | exact Or.inr (Or.inl rfl) | exact Or.inr (Or.inr rfl)) (hd : (n == ("__debug__" : Str)) = false := by decide) (hcd : (n == ("__classdict__" : Str)) = false := by decide)
    (hgI : Gl X "isinstance" := by rfl)
    (hs1 : starEach [.Name n p2, .Name cn p3] X.env = (false, eval (.Name n p2) X.env) :: starEach [.Name cn p3] X.env := by rfl) (hs2 : starEach [.Name cn p3] X.env = (false, eval (.Name cn p3) X.env) :: starEach [] X.env := by rfl)
    (hpl : (backTo p4 (starEach [.Name cn p3] X.env)).any (·.1) = false := by rfl) :
    PE (X.suite a ((a, oe) :: pn)) (.Call (.Name "isinstance" p) [.Name n p2, .Name cn p3] [] p4) (tOf X.K W (eIsE i a b)) :=
  (pe_callB (X := X.suite a ((a, oe) :: pn)) (call_isE (X := X) hC hz hf) hgI nI (by decide +kernel) (pa_cons (pe_var (X := X.suite a ((a, oe) :: pn)) hN hv hd hcd) (pa_cons hcn pa_nil hs2) hs1) (by decide) (by decide) hs1 hpl).imp fun σ H Q ⟨F, ρ, τ, st, g⟩ => by
    unfold eIsE at g
    split at g
    · rename_i x hx
      split at g
      · rename_i e
        subst e
        obtain ⟨v, ev, s2⟩ := st.get hx (by simp)
        have hv := s2.fzOf.obv
        subst hv
        exact ⟨_, ev, cv, cw, b, rfl, hcw, hkit, g (.bl b) F H (by simp) (st.push (.bl b))⟩
      · exact g.elim
    · exact g.elim
/-- what a suite by our layer is asked -/
def tsG (K : PySem.W.Frag) (i : Nat) (isc : Str → Option Bool) (mS : Str → Addr → SM) : Addr → Value → Option Addr → TS := fun a cls d E σ H =>
  ∃ (e : Er) (F : Addr → Prop) (ρ : Rho) (τ : List Pr) (z : D), ErOk K F H e cls d ∧ e.fld = none ∧ Sta K F H σ (ρ.set i .no) τ ∧ σ[i]? = some (some (.ref a)) ∧ isc e.cls = some true ∧ mS e.cls a (ρ.set i (.fz (.ob (.ref a)))) = .rt (.fz z) ∧ ∀ v F' H', All K F' H' ((some v, .fz z) :: τ) → E.rt v H'
/-- try: m except (what isc takes) as (slot i): a suite that returns the same whatever the error's address is -/
noncomputable def sTryG (i : Nat) (m : SM) (isc : Str → Option Bool) (mS : Str → Addr → SM) : SM := fun ρ => match m ρ with
  | .er e ρ' => match isc e.cls, e.fld with
    | some true, none => open Classical in if h : i < ρ'.length ∧ ∃ z, ∀ a, mS e.cls a (ρ'.set i (.fz (.ob (.ref a)))) = .rt (.fz z) then .rt (.fz h.2.choose) else .st
    | some false, _ => .er e ρ'
    | _, _ => .st
  | r => r
theorem su_gen {cls : Value} {d : Option Addr} {mS : Str → Addr → SM} (i : Nat) (hz : Zc cls d oe)
    (hsu : ∀ k, isc k = some true → ∃ D0 : Addr, clsOf X.K k = .ref D0 ∧ (Zc (.ref D0) none oe → PSs (X.suite a ((a, oe) :: pn)) body (sOf X.K noW (mS k a)))) :
    PSs (X.suite a ((a, oe) :: pn)) body (tsG X.K i isc mS a cls d) := ⟨fun pins s σ H E I h => by
  obtain ⟨e, F, ρ, τ, z, ho, hfl, st, hi, hk, hm, q⟩ := h
  obtain ⟨D0, hD, hb⟩ := hsu _ hk
  obtain ⟨h1, h2⟩ := ho
  rw [hfl] at h2
  have h2' : d = none := h2
  subst h2'
  have hc : cls = .ref D0 := h1.trans hD
  subst hc
  have st2 := (st.push (.ob (.ref a))).back hi
  rw [List.set_set] at st2
  refine (hb hz).run pins s σ H E I ⟨F, _, τ, st2, ?_⟩
  rw [hm]
  exact fun v F' H' nc al => q v F' H' al⟩
variable {x : Str} {c : Value} {b1 : Stmt} {r1 bd : List Stmt} {np pos pos' : Pos} {m : SM}
theorem ds_tryG {mS : Str → Addr → SM} (i : Nat) (hc : Names X x c) (tk : Takes X W) (hx : ∀ k b, isc k = some b → PySem.W.exmOne X.K (clsOf X.K k) c = some b)
    (hb : ∀ (W : WX) (pn : List (Addr × Obj)) (xe : Value → Shared → Prop), Takes (X.tr pn xe) W → PassesOwn (model X.prog X.w) X.A X.env xe → PSs (X.tr pn xe) bd (sOf X.K W m))
    (hsu : ∀ (a : Addr) (oe : Obj) (cls : Value) (d : Option Addr) (pn : List (Addr × Obj)), Zc cls d oe → (∃ vs, oe.data = .fields vs) → PSs (X.suite a ((a, oe) :: pn)) (b1 :: r1) (tsG X.K i isc mS a cls d))
    (hN : X.N.Nodup) (hs : X.stack = X.env :: X.outer := by rfl) (hf : X.env.frame = some X.env.locals := by rfl) (hi : X.N[i]? = some n := by rfl) (hln : X.env.kindOf n = some .local := by rfl) :
    PS X (.Try bd [.ExceptHandler (some (.Name x np)) (some n) (b1 :: r1) pos'] [] [] pos) (sOf X.K W (sTryG i m isc mS)) :=
  (ps_try_as (tb := fun W => sOf X.K W m) hs hf hN hi hln hc tk hb hsu).imp fun E σ H ⟨F, ρ, τ, s, g⟩ => by
    refine ⟨F, ρ, τ, s, ?_⟩
    unfold sTryG at g
    cases hm : m ρ with
    | er e ρ' =>
      rw [hm] at g
      intro σ' F' H' cls d ho s'
      dsimp only at g
      have hcl : cls = clsOf X.K e.cls := ho.1
      split at g
      · rename_i hk hfl
        split at g
        · rename_i hex
          refine ⟨true, by rw [hcl]; exact hx _ _ hk, fun _ a ha => ?_, fun h => Bool.noConfusion h⟩
          exact ⟨e, F', ρ', τ, hex.2.choose, ho, hfl, s'.setX i _, List.getElem?_set_self (by rw [s'.1]; exact hex.1), hk, hex.2.choose_spec a, fun v F2 H2 al => g v F2 H2 (by simp) al⟩
        · exact g.elim
      · rename_i hk
        exact ⟨false, by rw [hcl]; exact hx _ _ hk, fun h => Bool.noConfusion h, fun _ => g σ' F' H' cls d ho s'⟩
      · exact g.elim
    | st => rw [hm] at g; exact g
    | nx ρ' => rw [hm] at g; exact g
    | bk ρ' => rw [hm] at g; exact g
    | ct ρ' => rw [hm] at g; exact g
    | rt c' => rw [hm] at g; exact g
end
/-- the use of it -/
theorem sTryG_rt {i : Nat} {m : SM} {isc : Str → Option Bool} {mS : Str → Addr → SM} {ρ ρ' : Rho} {e : Er} {z : D} (hm : m ρ = .er e ρ') (hk : isc e.cls = some true) (hf : e.fld = none) (hi : i < ρ'.length) (h : ∀ a, mS e.cls a (ρ'.set i (.fz (.ob (.ref a)))) = .rt (.fz z)) : sTryG i m isc mS ρ = .rt (.fz z) := by
  have hex : i < ρ'.length ∧ ∃ z, ∀ a, mS e.cls a (ρ'.set i (.fz (.ob (.ref a)))) = .rt (.fz z) := ⟨hi, z, h⟩
  unfold sTryG
  rw [hm]
  dsimp only
  rw [hk, hf]
  dsimp only
  rw [dif_pos hex]
  have e1 := hex.2.choose_spec 0
  rw [h 0] at e1
  exact e1.symm
theorem sTryG_no {i : Nat} {m : SM} {isc : Str → Option Bool} {mS : Str → Addr → SM} {ρ : Rho} (h : ∀ e ρ', m ρ ≠ .er e ρ') : sTryG i m isc mS ρ = m ρ := by
  unfold sTryG
  cases hm : m ρ with
  | er e ρ' => exact absurd hm (h e ρ')
  | _ => rfl
end Dn

/-! Den29: a, b, c = x, y, z. -/
namespace Dn
open PySem PySem.Spec PyProof.Rows L2
section
variable {X : Cx} {pos : Pos}
def sPar3 (i j l : Nat) (m : M (List C)) : SM := fun ρ => (m ρ).thn fun cs ρ => match cs with
  | [c, d, e] => if i < ρ.length ∧ j < ρ.length ∧ l < ρ.length then .nx (((ρ.set i c).set j d).set l e) else .st
  | _ => .st
@[simp] theorem sPar3_ap (i j l : Nat) (m : M (List C)) (ρ : Rho) : sPar3 i j l m ρ = (m ρ).thn fun cs ρ => match cs with
  | [c, d, e] => if i < ρ.length ∧ j < ρ.length ∧ l < ρ.length then .nx (((ρ.set i c).set j d).set l e) else .st
  | _ => .st := rfl
theorem ds_par3 {W : WX} (i j l : Nat) {x y z : Str} {a b c : Expr} {m : M (List C)} {px py pz pt : Pos} {kt k2 pt2} (hN : X.N.Nodup) (ha : PA X [a, b, c] (aOf X.K W m)) (hc : X.calm = true := by rfl) (hi : X.N[i]? = some x := by rfl) (hj : X.N[j]? = some y := by rfl) (hl : X.N[l]? = some z := by rfl)
    (hij : i ≠ j := by decide) (hil : i ≠ l := by decide) (hjl : j ≠ l := by decide)
    (hx : X.env.scope.names.lookup x = some .local := by rfl) (hy : X.env.scope.names.lookup y = some .local := by rfl) (hz : X.env.scope.names.lookup z = some .local := by rfl)
    (hw : swappedStores [.Tuple [.Name x px, .Name y py, .Name z pz] kt pt] (.Tuple [a, b, c] k2 pt2) X.env = pure (some [x, y, z]) := by rfl)
    (hs : swapsWithSole [.Tuple [.Name x px, .Name y py, .Name z pz] kt pt] (.Tuple [a, b, c] k2 pt2) pos.line X.env = pure false := by rfl) :
    PS X (.Assign [.Tuple [.Name x px, .Name y py, .Name z pz] kt pt] (.Tuple [a, b, c] k2 pt2) pos) (sOf X.K W (sPar3 i j l m)) := (ps_par3 hc hN hi hj hl hij hil hjl hx hy hz ha hw hs).imp fun D σ H ⟨F, ρ, τ, s, g⟩ =>
  runA s ((GoodS.thn g).imp (fun cs ρ1 q vs F1 H1 hlen hn s1 => by
    split at q
    · rename_i c d e
      split at q
      · rename_i hb
        match vs, hlen, s1 with
        | [v, w, u], _, s1 =>
          have s2 : Sta X.K F1 H1 σ ρ1 ((some v, c) :: (some w, d) :: (some u, e) :: τ) := s1
          have s3 := s2.put (i := i) (by rw [s2.1]; exact hb.1)
          have s4 := s3.put (i := j) (by rw [s3.1, List.length_set]; exact hb.2.1)
          have s5 := s4.put (i := l) (by rw [s4.1, List.length_set, List.length_set]; exact hb.2.2)
          exact ⟨v, w, u, rfl, q _ F1 H1 s5⟩
      · exact q.elim
    · exact q.elim) fun _ _ q => q)
end
end Dn

/-! Den30: for t in list(x[..]): the items handed out with what they own; the list stays, of its items nothing is known. -/
namespace Dn
open PySem PySem.Spec PyProof.Rows L2
/-- a value of which nothing is known -/
def qD : D := .gh (fun _ => False) (fun _ => none)
/-- the list at the end of a path loses its items -/
def ghC : List Int → C → Option C
  | [], .ow cs => some (.ow (cs.map fun _ => .fz qD))
  | j :: js, .ow cs => (ixN cs.length j).bind fun k => (cs[k]?).bind fun c => (ghC js c).map fun c' => .ow (cs.set k c')
  | j :: js, .tp cs => (ixN cs.length j).bind fun k => (cs[k]?).bind fun c => (ghC js c).map fun c' => .tp (cs.set k c')
  | _, _ => none
section
variable {K : PySem.W.Frag} {F : Addr → Prop} {H : Hp}
theorem RepCs.q : ∀ {vs : List V} {cs : List C}, vs.length = cs.length → RepCs K F H vs (cs.map fun _ => .fz qD) []
  | [], [], _ => .nil
  | v :: vs, c :: cs, h => by
    have := RepCs.cons (O := []) (O' := []) (RepC.fz (K := K) (F := F) (H := H) (v := v) (d := qD) (.gh fun a g => g.elim)) (RepCs.q (vs := vs) (cs := cs) (by simpa using h))
    simpa using this
theorem ghC_ok : ∀ {js : List Int} {v : V} {c : C} {cs : List C} {O : List Addr}, RepC K F H v c O → takeC js c = some (.ow cs) → ∃ c', ghC js c = some c' ∧ ∃ a vs O1 O2, NavV K H v js (.ref a) ∧ H a = some (.lst vs) ∧ RepCs K F H vs cs O2 ∧ RepC K F H v c' O1 ∧ (O1 ++ O2).Perm O
  | [], v, c, cs, O, r, e => by
    cases e
    cases r with
    | @ow a vs _ O1 ea rc => exact ⟨_, rfl, a, vs, [a], O1, rfl, ea, rc, .ow ea (RepCs.q rc.len), List.Perm.refl _⟩
  | j :: js, v, c, cs, O, r, e => by
    have core : ∀ {p : Addr} {vs : List V} {ds : List C} {O1 : List Addr} {k : Nat} {c1 : C}, RepCs K F H vs ds O1 → ixN ds.length j = some k → ds[k]? = some c1 → takeC js c1 = some (.ow cs) → (SqL K H p vs ∨ SqT K H p vs) →
        ∃ c1', ghC js c1 = some c1' ∧ ∃ a ws O3 O2, NavV K H (.ref p) (j :: js) (.ref a) ∧ H a = some (.lst ws) ∧ RepCs K F H ws cs O2 ∧ RepCs K F H vs (ds.set k c1') O3 ∧ (O3 ++ O2).Perm O1 := by
      intro p vs ds O1 k c1 rc hk hc hu hs
      obtain ⟨v1, A, Ok, B, e1, e2, e3, e4⟩ := rc.focus hc
      subst e2
      obtain ⟨c1', g1, a, ws, O3, O2, nav, ha, r2, r1, pm⟩ := ghC_ok e3 hu
      refine ⟨c1', g1, a, ws, A ++ (O3 ++ B), O2, ⟨v1, ⟨p, vs, rfl, hs, ixN_atI rc.len.symm hk e1⟩, nav⟩, ha, r2, e4 H c1' O3 (fun _ _ => rfl) (fun _ _ => rfl) (fun _ _ => rfl) r1, ?_⟩
      rw [List.append_assoc, List.append_assoc]
      refine List.Perm.append_left A ?_
      refine (List.Perm.append_left O3 List.perm_append_comm).trans ?_
      rw [← List.append_assoc]
      exact pm.append_right B
    cases r with
    | @ow p vs ds O1 ep rc =>
      simp only [takeC, Option.bind_eq_some_iff] at e
      obtain ⟨k, hk, c1, hc, hu⟩ := e
      obtain ⟨c1', g1, a, ws, O3, O2, nav, ha, r2, r1, pm⟩ := core rc hk hc hu (.inl (.of ep))
      exact ⟨.ow (ds.set k c1'), by simp [ghC, hk, hc, g1], a, ws, p :: O3, O2, nav, ha, r2, .ow ep r1, by simpa using pm.cons p⟩
    | @tp p vs ds O1 ep rc =>
      simp only [takeC, Option.bind_eq_some_iff] at e
      obtain ⟨k, hk, c1, hc, hu⟩ := e
      obtain ⟨c1', g1, a, ws, O3, O2, nav, ha, r2, r1, pm⟩ := core rc hk hc hu (.inr (.of ep))
      exact ⟨.tp (ds.set k c1'), by simp [ghC, hk, hc, g1], a, ws, p :: O3, O2, nav, ha, r2, .tp ep r1, by simpa using pm.cons p⟩
    | _ => simp [takeC] at e
theorem All.apartG {js : List Int} {v : V} {c : C} {cs : List C} {ps : List Pr} (al : All K F H ((some v, c) :: ps)) (e : takeC js c = some (.ow cs)) :
    ∃ c', ghC js c = some c' ∧ ∃ a vs, NavV K H v js (.ref a) ∧ H a = some (.lst vs) ∧ vs.length = cs.length ∧ (∀ c ∈ cs, c ≠ .no) ∧ All K F H ((some v, c') :: (tmps vs cs ++ ps)) := by
  obtain ⟨O, r, nd, nf, dm⟩ := al
  cases r with
  | no r => exact absurd rfl (takeC_ne e)
  | @cons _ _ _ O1 O2 rc r =>
    obtain ⟨c', g, a, vs, O3, O4, nav, ha, r2, r1, pm⟩ := ghC_ok rc e
    have pm2 : (O3 ++ (O4 ++ O2)).Perm (O1 ++ O2) := by rw [← List.append_assoc]; exact pm.append_right O2
    exact ⟨c', g, a, vs, nav, ha, r2.len, r2.ne, O3 ++ (O4 ++ O2), .cons r1 (r2.toP r), pm2.nodup_iff.mpr nd, fun b m => nf b (pm2.mem_iff.mp m), dm⟩
end
def sForL (i : Nat) (js : List Int) (put : C → Rho → Option Rho) (body : SM) : SM := fun ρ => match ρ[i]? with
  | some c => match takeC js c, ghC js c with
    | some (.ow cs), some c' => forC put body cs (ρ.set i c')
    | _, _ => .st
  | none => .st
section
variable {X : Cx} {W : WX} {tg e : Expr} {body : List Stmt} {pos p cpos : Pos} {l : List Nat} {put : C → Rho → Option Rho} {m : SM} {i : Nat}
theorem ds_forL (js : List Int) (hm : X.mg "list" = none) (hp : PassesOwn (model X.prog X.w) X.A X.env X.xe) (hi : PathE X e i (js.map .c)) (hg : PG X tg (gOf X.K l put)) (hb : PSs X body (sOf X.K W m)) (hc : X.calm = true := by rfl)
    (he : starEach [e] X.env = (false, eval e X.env) :: starEach [] X.env := by rfl) (hgl : Gl X "list" := by rfl)
    (hs : ∀ x, foldedSetIterable (.Call (.Name "list" p) [e] [] cpos) X.env x = pure x := by intro _; rfl) : PS X (.For tg (.Call (.Name "list" p) [e] [] cpos) body [] pos) (sOf X.K W (sForL i js put m)) := by
  obtain ⟨te, hte, hq⟩ := hi.ex
  refine (ps_for hp hc (pi_list (pe_callTy call_list_of hgl hm (by decide +kernel) (pa_cons hte pa_nil he) (by decide) (by decide) he rfl)) hg hb hs).imp fun D σ H ⟨F, ρ, τ, s, g⟩ => ?_
  unfold sForL at g
  split at g
  · rename_i c ec
    split at g
    · rename_i cs c' hcs hgc
      obtain ⟨v, ev, s1⟩ := s.get ec (takeC_ne hcs)
      obtain ⟨c2, g2, a, vs, nav, ha, hl, hne, al⟩ := All.apartG (ps := τ ++ σ.zip (ρ.set i .no)) s1.all hcs
      rw [hgc] at g2
      cases g2
      refine hq σ H _ v js (.ref a) ev (stpsS_c _ js) nav ⟨a, vs, rfl, .inl (.of ha), fun L hL => ?_⟩
      have s2 : Sta X.K F H σ (ρ.set i .no) ((some v, c') :: (tmps vs cs ++ τ)) := .of s1.1 (by simpa using al)
      have s3 := s2.back ev
      rw [List.set_set] at s3
      have s4 := s3.mkObs (vs := vs) hL
      refine ⟨L, rfl, ⟨vs, .of upd_same⟩, fun n k σ H => k = cs.length - n ∧ n ≤ cs.length ∧ ∃ F ρ, Sta X.K F H σ ρ ((some (.ref L), .ow (Dn.obs vs)) :: (tmps (vs.drop n) (cs.drop n) ++ τ)) ∧ GoodS X.K W τ (forC put m (cs.drop n) ρ) D, ⟨_, rfl, Nat.zero_le _, F, _, by simpa using s4, g⟩, ?_⟩
      · rintro n k σ H ⟨rfl, hn, F, ρ, s, q⟩
        have hH := s.obs
        by_cases hlt : n < cs.length
        · have hv : vs[n]? = some vs[n] := List.getElem?_eq_getElem (by omega)
          refine .inr ⟨⟨vs, vs[n], .of hH, hv⟩, fun σ' H' => ∃ F ρ, Sta X.K F H' σ' ρ ((some (.ref L), .ow (Dn.obs vs)) :: (tmps (vs.drop (n + 1)) (cs.drop (n + 1)) ++ τ)) ∧ GoodS X.K W τ (forC put m (cs.drop (n + 1)) ρ) D, fun σ' H' h => ⟨_, by omega, rfl, hlt, h⟩, fun x H' y => ?_⟩
          obtain ⟨rfl, y⟩ := y
          have := y vs (.of hH)
          rw [hv] at this
          cases this
          have e1 : tmps (vs.drop n) (cs.drop n) = (some vs[n], cs[n]) :: tmps (vs.drop (n + 1)) (cs.drop (n + 1)) := by
            rw [List.drop_eq_getElem_cons hlt, List.drop_eq_getElem_cons (show n < vs.length by omega)]
            rfl
          rw [e1] at s
          rw [List.drop_eq_getElem_cons hlt] at q
          unfold forC at q
          split at q
          · exact q.elim
          · rename_i ρ1 hp1
            refine ⟨F, ρ, _, _, ρ1, hne _ (List.getElem_mem hlt), s.swap, hp1, fun σ3 F3 H3 _ s3 => ⟨F3, ρ1, _, s3, ?_⟩⟩
            have dropRt : ∀ {v : V} {c : C} {F4 H4}, All X.K F4 H4 ((some v, c) :: ((some (.ref L), .ow (Dn.obs vs)) :: (tmps (vs.drop (n + 1)) (cs.drop (n + 1)) ++ τ))) → All X.K F4 H4 ((some v, c) :: τ) := by
              intro v c F4 H4 al
              have a3 := al.perm (show ((some v, c) :: ((some (.ref L), .ow (Dn.obs vs)) :: (tmps (vs.drop (n + 1)) (cs.drop (n + 1)) ++ τ))).Perm (((some (.ref L), .ow (Dn.obs vs)) :: tmps (vs.drop (n + 1)) (cs.drop (n + 1))) ++ ((some v, c) :: τ)) from List.perm_middle (l₁ := (some (.ref L), .ow (Dn.obs vs)) :: tmps (vs.drop (n + 1)) (cs.drop (n + 1)))|>.symm)
              exact a3.dropL
            split at q
            · rename_i ρ2 hm; rw [hm]; exact fun σ4 F4 H4 s4 => ⟨F4, ρ2, s4, q⟩
            · rename_i ρ2 hm; rw [hm]; exact fun σ4 F4 H4 s4 => ⟨F4, ρ2, s4, q⟩
            · rename_i ρ2 hm; rw [hm]; exact fun σ4 F4 H4 s4 => q σ4 F4 H4 s4.drop.dropL
            · rename_i r h1 h2 h3
              cases hr : m ρ1 with
              | nx ρ2 => exact absurd hr (h1 ρ2)
              | ct ρ2 => exact absurd hr (h2 ρ2)
              | bk ρ2 => exact absurd hr (h3 ρ2)
              | st => rw [hr] at q; exact q
              | er e ρ2 => rw [hr] at q; exact serP.dropL (q := (some (.ref L), .ow (Dn.obs vs)) :: tmps (vs.drop (n + 1)) (cs.drop (n + 1))) q
              | rt c =>
                rw [hr] at q
                exact fun v F4 H4 nc al => q v F4 H4 nc (dropRt al)
        · have e : n = cs.length := by omega
          subst e
          rw [List.drop_length] at q
          exact .inl ⟨⟨vs, .of hH, by omega⟩, q σ F H s.drop.dropL⟩
    · exact g.elim
  · exact g.elim
end
end Dn

/-! Num: rational numbers as pairs. -/
namespace Dn
open PySem PySem.Spec PyProof.Rows L2

abbrev nD (q : Rat) : D := .tup [.int q.num, .int q.den]
abbrev nC (q : Rat) : C := .fz (nD q)
def Okq (q : Rat) : Prop := q.num.natAbs < 2 ^ 2600 ∧ q.den < 2 ^ 2600
theorem log2_lt {n k : Nat} (h0 : 0 < k) (h : n < 2 ^ k) : n.log2 < k := by
  by_cases hn : n = 0
  · subst hn; simpa using h0
  · exact (Nat.log2_lt hn).mpr h
theorem wide_of {i j : Int} {a b : Nat} (h1 : i.natAbs < 2 ^ a) (h2 : j.natAbs < 2 ^ b) (h : a + b ≤ 900000) (ha : 0 < a) (hb : 0 < b) : wide i j = true := by
  unfold wide
  have := log2_lt ha h1
  have := log2_lt hb h2
  simp only [Bool.or_eq_true, decide_eq_true_eq]
  omega
/-- a small factor -/
theorem wide_r {i j : Int} (h : j.natAbs < 2 ^ 60) : wide i j = true := by
  unfold wide
  have := log2_lt (by decide) h
  simp only [Bool.or_eq_true, decide_eq_true_eq]
  omega
/-! Euclid's steps -/
def kf : Nat → Nat
  | 0 => 1
  | 1 => 2
  | n + 2 => kf (n + 1) + kf n
theorem kf_mono : ∀ n, kf n ≤ kf (n + 1)
  | 0 => by decide
  | n + 1 => by show kf (n + 1) ≤ kf (n + 1) + kf n; omega
theorem kf_pos : ∀ n, 0 < kf n
  | 0 => by decide
  | n + 1 => Nat.lt_of_lt_of_le (kf_pos n) (kf_mono n)
theorem kf36 (n : Nat) : 2 ^ 24 * kf n ≤ kf (n + 36) := by
  have h := kf_mono n
  have e0 : kf (n + 2) = kf (n + 1) + kf (n) := rfl
  have e1 : kf (n + 3) = kf (n + 2) + kf (n + 1) := rfl
  have e2 : kf (n + 4) = kf (n + 3) + kf (n + 2) := rfl
  have e3 : kf (n + 5) = kf (n + 4) + kf (n + 3) := rfl
  have e4 : kf (n + 6) = kf (n + 5) + kf (n + 4) := rfl
  have e5 : kf (n + 7) = kf (n + 6) + kf (n + 5) := rfl
  have e6 : kf (n + 8) = kf (n + 7) + kf (n + 6) := rfl
  have e7 : kf (n + 9) = kf (n + 8) + kf (n + 7) := rfl
  have e8 : kf (n + 10) = kf (n + 9) + kf (n + 8) := rfl
  have e9 : kf (n + 11) = kf (n + 10) + kf (n + 9) := rfl
  have e10 : kf (n + 12) = kf (n + 11) + kf (n + 10) := rfl
  have e11 : kf (n + 13) = kf (n + 12) + kf (n + 11) := rfl
  have e12 : kf (n + 14) = kf (n + 13) + kf (n + 12) := rfl
  have e13 : kf (n + 15) = kf (n + 14) + kf (n + 13) := rfl
  have e14 : kf (n + 16) = kf (n + 15) + kf (n + 14) := rfl
  have e15 : kf (n + 17) = kf (n + 16) + kf (n + 15) := rfl
  have e16 : kf (n + 18) = kf (n + 17) + kf (n + 16) := rfl
  have e17 : kf (n + 19) = kf (n + 18) + kf (n + 17) := rfl
  have e18 : kf (n + 20) = kf (n + 19) + kf (n + 18) := rfl
  have e19 : kf (n + 21) = kf (n + 20) + kf (n + 19) := rfl
  have e20 : kf (n + 22) = kf (n + 21) + kf (n + 20) := rfl
  have e21 : kf (n + 23) = kf (n + 22) + kf (n + 21) := rfl
  have e22 : kf (n + 24) = kf (n + 23) + kf (n + 22) := rfl
  have e23 : kf (n + 25) = kf (n + 24) + kf (n + 23) := rfl
  have e24 : kf (n + 26) = kf (n + 25) + kf (n + 24) := rfl
  have e25 : kf (n + 27) = kf (n + 26) + kf (n + 25) := rfl
  have e26 : kf (n + 28) = kf (n + 27) + kf (n + 26) := rfl
  have e27 : kf (n + 29) = kf (n + 28) + kf (n + 27) := rfl
  have e28 : kf (n + 30) = kf (n + 29) + kf (n + 28) := rfl
  have e29 : kf (n + 31) = kf (n + 30) + kf (n + 29) := rfl
  have e30 : kf (n + 32) = kf (n + 31) + kf (n + 30) := rfl
  have e31 : kf (n + 33) = kf (n + 32) + kf (n + 31) := rfl
  have e32 : kf (n + 34) = kf (n + 33) + kf (n + 32) := rfl
  have e33 : kf (n + 35) = kf (n + 34) + kf (n + 33) := rfl
  have e34 : kf (n + 36) = kf (n + 35) + kf (n + 34) := rfl
  have e99 : (2 : Nat) ^ 24 = 16777216 := by decide
  rw [e99]
  omega
theorem kf_big : ∀ k, 2 ^ (24 * k) ≤ kf (36 * k)
  | 0 => by decide
  | k + 1 => by
    have h := kf36 (36 * k)
    have ih := kf_big k
    have e1 : 36 * (k + 1) = 36 * k + 36 := by omega
    have e2 : 24 * (k + 1) = 24 + 24 * k := by omega
    rw [e1, e2, Nat.pow_add]
    exact Nat.le_trans (Nat.mul_le_mul_left _ ih) h
theorem kf_le {m n : Nat} (h : m ≤ n) : kf m ≤ kf n := by
  induction h with
  | refl => exact Nat.le_refl _
  | step _ ih => exact Nat.le_trans ih (kf_mono _)
theorem kf4000 : 2 ^ 2600 ≤ kf 4000 := by
  have h := kf_big 111
  have h2 : kf (36 * 111) ≤ kf 4000 := kf_le (by decide)
  have h3 : (2 : Nat) ^ 2600 ≤ 2 ^ (24 * 111) := Nat.pow_le_pow_right (by decide) (by decide)
  exact Nat.le_trans h3 (Nat.le_trans h h2)
/-- Euclid's steps on what is left of the list -/
def eu : Nat → Int → Int → Int × Int
  | 0, a, b => (a, b)
  | n + 1, a, b => if b = 0 then (a, b) else eu n b (a % b)
theorem eu_gcd : ∀ (n : Nat) (a b : Nat), b < kf n * Nat.gcd a b → (eu n a b).1 = (Nat.gcd a b : Nat)
  | 0, a, b, h => by
    have hb : b = 0 := by
      cases b with
      | zero => rfl
      | succ b =>
        exfalso
        have h2 : Nat.gcd a (b + 1) ≤ b + 1 := Nat.gcd_le_right a (Nat.succ_pos b)
        have h3 : b + 1 < 1 * Nat.gcd a (b + 1) := h
        omega
    subst hb
    simp [eu]
  | n + 1, a, b, h => by
    unfold eu
    by_cases hb : b = 0
    · subst hb; simp
    · have hb' : ¬ ((b : Nat) : Int) = 0 := by omega
      rw [if_neg hb']
      have e : ((a : Nat) : Int) % ((b : Nat) : Int) = ((a % b : Nat) : Int) := by simp
      rw [e]
      have hg : Nat.gcd b (a % b) = Nat.gcd a b := by rw [Nat.gcd_comm, ← Nat.gcd_rec, Nat.gcd_comm]
      by_cases hr : a % b < kf n * Nat.gcd b (a % b)
      · rw [eu_gcd n b (a % b) hr, hg]
      · -- the next rest is small
        rw [hg] at hr
        cases n with
        | zero =>
          exfalso
          have h1 : b < 2 * Nat.gcd a b := by simpa [kf] using h
          obtain ⟨q, hq⟩ := Nat.gcd_dvd_right a b
          have hq1 : q = 1 := by
            have hg0 : 0 < Nat.gcd a b := Nat.gcd_pos_of_pos_right a (by omega)
            have : Nat.gcd a b * q < Nat.gcd a b * 2 := by omega
            have := Nat.lt_of_mul_lt_mul_left this
            cases q with
            | zero => simp at hq; omega
            | succ q => omega
          subst hq1
          have hba : b ∣ a := by
            have := Nat.gcd_dvd_left a b
            rw [Nat.mul_one] at hq
            rw [← hq] at this
            exact this
          have : a % b = 0 := Nat.mod_eq_zero_of_dvd hba
          have hg0 : 0 < Nat.gcd a b := Nat.gcd_pos_of_pos_right a (by omega)
          simp [kf, this] at hr
          omega
        | succ n =>
          have hr' : kf (n + 1) * Nat.gcd a b ≤ a % b := by omega
          have hk : kf (n + 1 + 1) * Nat.gcd a b = kf (n + 1) * Nat.gcd a b + kf n * Nat.gcd a b := by
            show (kf (n + 1) + kf n) * _ = _
            rw [Nat.add_mul]
          have hr0 : 0 < a % b := by
            have hg0 : 0 < Nat.gcd a b := Nat.gcd_pos_of_pos_right a (by omega)
            have := Nat.mul_pos (kf_pos (n + 1)) hg0
            omega
          have hlt : a % b < b := Nat.mod_lt _ (by omega)
          unfold eu
          have hr0' : ¬ ((a % b : Nat) : Int) = 0 := by omega
          rw [if_neg hr0']
          have e2 : ((b : Nat) : Int) % ((a % b : Nat) : Int) = ((b % (a % b) : Nat) : Int) := by simp
          rw [e2]
          have hg2 : Nat.gcd (a % b) (b % (a % b)) = Nat.gcd a b := by rw [Nat.gcd_comm, ← Nat.gcd_rec, Nat.gcd_comm, hg]
          have hs : b % (a % b) ≤ b - a % b := by
            rw [Nat.mod_eq_sub_mod (by omega)]
            exact Nat.mod_le _ _
          rw [eu_gcd n (a % b) (b % (a % b)) (by rw [hg2]; omega), hg2]
/-! rational numbers -/
theorem nD_inj {a b : Rat} (h : a.num = b.num) (h2 : a.den = b.den) : a = b := Rat.ext h h2
theorem toPy_nD (q : Rat) : toPy (nD q) = some (.tuple [.int q.num, .int q.den]) := by simp [toPy, toPys]
theorem eqP_nD (a b : Rat) : eqP (nD a) (nD b) = some (decide (a = b)) := by
  unfold eqP eqS eqQ
  simp only [toPy_nD]
  have hs : ∀ q : Rat, SeqAt.shaped (.tuple [.int q.num, .int (q.den : Int)]) = true := fun q => by
    simp [SeqAt.shaped, PyData.canLay0, PyData.canLayAll0, PyData.depth, PyData.depthAll]
  simp only [hs, Bool.and_self, if_true]
  congr 1
  simp only [PyData.eqv, PyData.eqvAll, Bool.and_true]
  by_cases h : a = b
  · subst h; simp
  · rw [decide_eq_false h]
    by_cases h1 : a.num = b.num
    · have : ¬ a.den = b.den := fun z => h (Rat.ext h1 z)
      have h2 : ¬ ((a.den : Nat) : Int) = ((b.den : Nat) : Int) := by omega
      simp [h1, h2]
    · simp [h1]
@[simp] theorem eqD_nD (a b : Rat) : eqD (nD a) (nD b) = some (.bl (decide (a = b))) := by simp [eqD, eqP_nD]
@[simp] theorem neD_nD (a b : Rat) : neD (nD a) (nD b) = some (.bl (!decide (a = b))) := by simp [neD, eqP_nD]
/-- n over d in lowest terms -/
theorem div_num {n d : Int} (h : 0 < d) : n / ((Nat.gcd n.natAbs d.natAbs : Nat) : Int) = (Rat.divInt n d).num := by
  rw [Rat.num_divInt, Int.sign_eq_one_of_pos h, Int.one_mul]
  congr 2
  rw [Int.gcd_comm]; rfl
theorem div_den {n d : Int} (h : 0 < d) : d / ((Nat.gcd n.natAbs d.natAbs : Nat) : Int) = ((Rat.divInt n d).den : Int) := by
  rw [Rat.den_divInt, if_neg (by omega)]
  have e : d.gcd n = Nat.gcd n.natAbs d.natAbs := by rw [Int.gcd_comm]; rfl
  rw [e]
  obtain ⟨m, rfl⟩ : ∃ m : Nat, d = m := ⟨d.toNat, by omega⟩
  simp
theorem neg_divInt (n d : Int) : Rat.divInt (-n) (-d) = Rat.divInt n d := by
  exact Rat.neg_divInt_neg n d
end Dn

/-! Shp: which data may be shown, and compared with itself. -/
namespace Dn
open PySem PySem.Spec PyProof.Rows L2

mutual
theorem eqv_self : ∀ p : PyData, p.canLay0 = true → PyData.eqv p p = true
  | .none, _ => by simp only [PyData.eqv]
  | .bool b, _ => by simp [PyData.eqv]
  | .int b, _ => by simp [PyData.eqv]
  | .str b, _ => by simp [PyData.eqv]
  | .list xs, h => by
    simp only [PyData.eqv]
    exact eqvAll_self xs (by simpa only [PyData.canLay0] using h)
  | .tuple xs, h => by
    simp only [PyData.eqv]
    exact eqvAll_self xs (by simpa only [PyData.canLay0] using h)
  | .dict _, h => by simp [PyData.canLay0] at h
theorem eqvAll_self : ∀ ps : List PyData, PyData.canLayAll0 ps = true → PyData.eqvAll ps ps = true
  | [], _ => by simp only [PyData.eqvAll]
  | p :: ps, h => by
    have h' : p.canLay0 = true ∧ PyData.canLayAll0 ps = true := by simpa only [PyData.canLayAll0, Bool.and_eq_true] using h
    simp only [PyData.eqvAll, eqv_self p h'.1, eqvAll_self ps h'.2, Bool.and_self]
end
mutual
theorem noDict0 : ∀ p : PyData, p.canLay0 = true → p.hasDict = false
  | .none, _ => by simp only [PyData.hasDict]
  | .bool b, _ => by simp only [PyData.hasDict]
  | .int b, _ => by simp only [PyData.hasDict]
  | .str b, _ => by simp only [PyData.hasDict]
  | .list xs, h => by
    simp only [PyData.hasDict]
    exact noDictA xs (by simpa only [PyData.canLay0] using h)
  | .tuple xs, h => by
    simp only [PyData.hasDict]
    exact noDictA xs (by simpa only [PyData.canLay0] using h)
  | .dict _, h => by simp [PyData.canLay0] at h
theorem noDictA : ∀ ps : List PyData, PyData.canLayAll0 ps = true → PyData.hasDictAll ps = false
  | [], _ => by simp only [PyData.hasDictAll]
  | p :: ps, h => by
    have h' : p.canLay0 = true ∧ PyData.canLayAll0 ps = true := by simpa only [PyData.canLayAll0, Bool.and_eq_true] using h
    simp only [PyData.hasDictAll, noDict0 p h'.1, noDictA ps h'.2, Bool.or_self]
end
/-- laid out, at most n deep -/
def Lay (n : Nat) (d : D) : Prop := ∃ p, toPy d = some p ∧ p.canLay0 = true ∧ p.depth ≤ n
/-- .. and short -/
def Shw (n w : Nat) (d : D) : Prop := ∃ p, toPy d = some p ∧ p.canLay0 = true ∧ p.depth ≤ n ∧ p.showable = true ∧ p.leavesShort 20 = true ∧ p.weight ≤ w
theorem Shw.lay {n w : Nat} {d : D} (h : Shw n w d) : Lay n d := let ⟨p, a, b, c, _⟩ := h; ⟨p, a, b, c⟩
theorem Lay.le {n n' : Nat} {d : D} (h : Lay n d) (e : n ≤ n') : Lay n' d := let ⟨p, a, b, c⟩ := h; ⟨p, a, b, Nat.le_trans c e⟩
theorem Shw.le {n n' w w' : Nat} {d : D} (h : Shw n w d) (e : n ≤ n') (e2 : w ≤ w') : Shw n' w' d := let ⟨p, a, b, c, d, e3, f⟩ := h; ⟨p, a, b, Nat.le_trans c e, d, e3, Nat.le_trans f e2⟩
theorem Lay.int (i : Int) : Lay 0 (.int i) := ⟨.int i, by simp [toPy], by simp [PyData.canLay0], by simp [PyData.depth]⟩
theorem Lay.bl (b : Bool) : Lay 0 (.bl b) := ⟨.bool b, by simp [toPy], by simp [PyData.canLay0], by simp [PyData.depth]⟩
theorem Lay.non : Lay 0 .non := ⟨.none, by simp [toPy], by simp [PyData.canLay0], by simp [PyData.depth]⟩
theorem Lay.str {s : Str} (h : s.cps.all (· < 0x110000) = true) : Lay 0 (.str s) := ⟨.str s, by simp [toPy], by simpa [PyData.canLay0, PyData.strOk] using h, by simp [PyData.depth]⟩
theorem Lay.all {n : Nat} : ∀ {ds : List D}, (∀ d ∈ ds, Lay n d) → ∃ ps, toPys ds = some ps ∧ PyData.canLayAll0 ps = true ∧ PyData.depthAll ps ≤ n
  | [], _ => ⟨[], by simp [toPys], by simp [PyData.canLayAll0], by simp [PyData.depthAll]⟩
  | d :: ds, h => by
    obtain ⟨p, h1, h2, h3⟩ := h d List.mem_cons_self
    obtain ⟨ps, k1, k2, k3⟩ := Lay.all fun d m => h d (List.mem_cons_of_mem _ m)
    exact ⟨p :: ps, by simp [toPys, h1, k1], by simp [PyData.canLayAll0, h2, k2], by simp [PyData.depthAll]; omega⟩
theorem Lay.lst {n : Nat} {ds : List D} (h : ∀ d ∈ ds, Lay n d) : Lay (n + 1) (.lst ds) := by
  obtain ⟨ps, k1, k2, k3⟩ := Lay.all h
  exact ⟨.list ps, by simp [toPy, k1], by simpa [PyData.canLay0] using k2, by simp [PyData.depth]; omega⟩
theorem Lay.tup {n : Nat} {ds : List D} (h : ∀ d ∈ ds, Lay n d) : Lay (n + 1) (.tup ds) := by
  obtain ⟨ps, k1, k2, k3⟩ := Lay.all h
  exact ⟨.tuple ps, by simp [toPy, k1], by simpa [PyData.canLay0] using k2, by simp [PyData.depth]; omega⟩
theorem Lay.nD (q : Rat) : Lay 1 (nD q) := .tup fun d m => by
  simp at m
  rcases m with rfl | rfl <;> exact .int _
theorem eqQ_self {n : Nat} {d : D} (h : Lay n d) (hn : n ≤ 60) : eqQ d d = some true := by
  obtain ⟨p, h1, h2, h3⟩ := h
  unfold eqQ
  rw [h1]
  have : SeqAt.shaped p = true := by unfold SeqAt.shaped; simp [h2]; omega
  simp [this, eqv_self p h2]
theorem eqP_self {n : Nat} {d : D} (h : Lay n d) (hn : n ≤ 60) : eqP d d = some true := by
  unfold eqP
  cases d <;> simp [eqS, eqQ_self h hn]
theorem eqD_self {n : Nat} {d : D} (h : Lay n d) (hn : n ≤ 60 := by decide) : eqD d d = some (.bl true) := by simp [eqD, eqP_self h hn]
theorem neD_self {n : Nat} {d : D} (h : Lay n d) (hn : n ≤ 60 := by decide) : neD d d = some (.bl false) := by simp [neD, eqP_self h hn]
theorem Shw.int {i : Int} (h : i.natAbs < 10 ^ 19) : Shw 0 64 (.int i) := by
  have hl : i.natAbs.log2 < 64 := log2_lt (by decide) (Nat.lt_of_lt_of_le h (by decide))
  refine ⟨.int i, by simp [toPy], by simp [PyData.canLay0], by simp [PyData.depth], ?_, ?_, ?_⟩
  · simp [PyData.showable]; omega
  · simp only [PyData.leavesShort, decide_eq_true_eq]
    have e := int_text_length_le10 (k := 19) (by decide) h
    show (Str.ofString (toString i)).length ≤ 20
    rw [PySem.ofString_length]; exact e
  · simp only [PyData.weight]
    split <;> omega
theorem Shw.bl (b : Bool) : Shw 0 64 (.bl b) := ⟨.bool b, by simp [toPy], by simp [PyData.canLay0], by simp [PyData.depth], by simp [PyData.showable], by simp [PyData.leavesShort], by simp [PyData.weight]⟩
theorem Shw.non : Shw 0 64 .non := ⟨.none, by simp [toPy], by simp [PyData.canLay0], by simp [PyData.depth], by simp [PyData.showable], by simp [PyData.leavesShort], by simp [PyData.weight]⟩
theorem Shw.str {s : Str} (h : s.cps.all (· < 0x110000) = true) (h2 : s.cps.size ≤ 64) : Shw 0 64 (.str s) := by
  refine ⟨.str s, by simp [toPy], by simpa [PyData.canLay0, PyData.strOk] using h, by simp [PyData.depth], by simp [PyData.showable], ?_, by simpa [PyData.weight] using h2⟩
  refine PyData.leavesShort_of_canLay0 20 (.str s) (by simpa [PyData.canLay0, PyData.strOk] using h) (by simp [PyData.intsShort])
theorem Shw.all {n w : Nat} : ∀ {ds : List D}, (∀ d ∈ ds, Shw n w d) → ∃ ps, toPys ds = some ps ∧ PyData.canLayAll0 ps = true ∧ PyData.depthAll ps ≤ n ∧ PyData.showableAll ps = true ∧ PyData.leavesShortAll 20 ps = true ∧ PyData.weightAll ps ≤ ds.length * (w + 1)
  | [], _ => ⟨[], by simp [toPys], by simp [PyData.canLayAll0], by simp [PyData.depthAll], by simp [PyData.showableAll], by simp [PyData.leavesShortAll], by simp [PyData.weightAll]⟩
  | d :: ds, h => by
    obtain ⟨p, h1, h2, h3, h4, h5, h6⟩ := h d List.mem_cons_self
    obtain ⟨ps, k1, k2, k3, k4, k5, k6⟩ := Shw.all fun d m => h d (List.mem_cons_of_mem _ m)
    refine ⟨p :: ps, by simp [toPys, h1, k1], by simp [PyData.canLayAll0, h2, k2], by simp [PyData.depthAll]; omega, by simp [PyData.showableAll, h4, k4], by simp [PyData.leavesShortAll, h5, k5], ?_⟩
    simp only [PyData.weightAll, List.length_cons, Nat.succ_mul]
    omega
theorem Shw.lst {n w l : Nat} {ds : List D} (h : ∀ d ∈ ds, Shw n w d) (hl : ds.length ≤ l) : Shw (n + 1) (l * (w + 1)) (.lst ds) := by
  obtain ⟨ps, k1, k2, k3, k4, k5, k6⟩ := Shw.all h
  exact ⟨.list ps, by simp [toPy, k1], by simpa [PyData.canLay0] using k2, by simp [PyData.depth]; omega, by simpa [PyData.showable] using k4, by simpa [PyData.leavesShort] using k5, by simp only [PyData.weight]; exact Nat.le_trans k6 (Nat.mul_le_mul_right _ hl)⟩
theorem Shw.tup {n w l : Nat} {ds : List D} (h : ∀ d ∈ ds, Shw n w d) (hl : ds.length ≤ l) : Shw (n + 1) (l * (w + 1)) (.tup ds) := by
  obtain ⟨ps, k1, k2, k3, k4, k5, k6⟩ := Shw.all h
  exact ⟨.tuple ps, by simp [toPy, k1], by simpa [PyData.canLay0] using k2, by simp [PyData.depth]; omega, by simpa [PyData.showable] using k4, by simpa [PyData.leavesShort] using k5, by simp only [PyData.weight]; exact Nat.le_trans k6 (Nat.mul_le_mul_right _ hl)⟩
theorem Shw.okS {n w : Nat} {d : D} (h : Shw n w d) (hn : n ≤ 40) (hw : w ≤ 700000) : ∃ p, toPy d = some p ∧ Dn.shw p = true := by
  obtain ⟨p, h1, h2, h3, h4, h5, h6⟩ := h
  refine ⟨p, h1, ?_⟩
  have e := PyData.shown_le 20 (by decide) p h5
  have e3 : p.shown.length ≤ sizeLine := by rw [sizeLine_eq]; omega
  unfold Dn.shw
  simp [h4, noDict0 p h2, e3]
  omega
theorem reprD_lst {n w : Nat} {ds : List D} (h : Shw n w (.lst ds)) (hn : n ≤ 40 := by decide) (hw : w ≤ 700000 := by decide) : ∃ s, reprD (.lst ds) = some (.str s) := by
  obtain ⟨p, h1, h2⟩ := h.okS hn hw
  exact ⟨p.shown, by simp [reprD, h1, h2]⟩
theorem reprD_tup {n w : Nat} {ds : List D} (h : Shw n w (.tup ds)) (hn : n ≤ 40 := by decide) (hw : w ≤ 700000 := by decide) : ∃ s, reprD (.tup ds) = some (.str s) := by
  obtain ⟨p, h1, h2⟩ := h.okS hn hw
  exact ⟨p.shown, by simp [reprD, h1, h2]⟩
theorem Shw.nD {q : Rat} (h1 : q.num.natAbs < 10 ^ 19) (h2 : q.den < 10 ^ 19) : Shw 1 130 (nD q) := (Shw.tup (l := 2) (n := 0) (w := 64) (fun d m => by
  simp at m
  rcases m with rfl | rfl
  · exact .int h1
  · exact .int (by simpa using h2)) (by simp)).le (by decide) (by decide)
end Dn

namespace Lw
open PySem PySem.Spec PyProof.Rows L2 Dn
/-! ### what the defs are worth -/
noncomputable section
abbrev k_NOUGHT : D := (D.tup [(D.int 0), (D.int 1)])
abbrev b__law_draws_0 : SM :=
  (sSeq (sSet 5 (ret (.int 0)))
  (sSeq (sIf (asB (eOp iGt (eCBV (sc1 lenD) 2) (ret (.int 0))))
  (sSeq (sSet 6 (eOp iMod (eCB (sc1 intD) (aCons (eVar 4) aNil)) (eCBV (sc1 lenD) 2)))
  (sIf (asB (eOp iGe (eIxV 2 (eVar 6)) (eOp iPow (ret (.int 10)) (ret (.int 18)))))
  (sSeq (sSet 5 (eOp iMod (eCB (sc1 intD) (aCons (eIxV 2 (eVar 6)) aNil)) (ret (.int 1000))))
  (sSetIx 2 (eVar 6) (eOp iDiv (eIxV 2 (eVar 6)) (ret (.int 1000)))))
  (sSeq (sSet 7 (eOp iMod (eCB (sc1 intD) (aCons (eFz (eOpC addC (eOpC addC (eOpC mulC (eIxV 2 (eVar 6)) (ret (.int 48271))) (eOpC mulC (eVar 4) (ret (.int 69621)))) (ret (.int 11)))) aNil)) (ret (.int 2147483647))))
  (sSeq (sSet 7 (eOp iMod (eCB (sc1 intD) (aCons (eFz (eOpC addC (eOpC mulC (eVar 7) (ret (.int 16807))) (eVar 6))) aNil)) (ret (.int 2147483629))))
  (sSet 5 (eOp iMod (eCB (sc1 intD) (aCons (eFz (eOp iDiv (eVar 7) (ret (.int 7)))) aNil)) (ret (.int 1000))))))))
  sNext)
  (sOw 3 (eVar 5) appF)))
def m__law_draws : SM :=
  (sSeq (sSet 2 (eLc [8] (iLst (eVar 0)) (Tg.put (.nm 8)) bYes (eVar 8)))
  (sSeq (sSet 3 (eLst aNil))
  (sSeq (sFor (iRg1 (aCons (eVar 1) aNil)) (Tg.put (.nm 4))
  b__law_draws_0)
  (sRet (eMv 3)))))
def w__law_draws : M C := noEr (runDef 9 2 m__law_draws)
abbrev b__law_gcd_0 : SM :=
  (sSeq (sIf (asB (eOp eqD (eVar 1) (ret (.int 0))))
  sBrk
  sNext)
  (sSeq (sSet 3 (eOp iMod (eCB (sc1 intD) (aCons (eVar 0) aNil)) (eVar 1)))
  (sSeq (sSet 0 (eVar 1))
  (sSet 1 (eVar 3)))))
def m__law_gcd : SM :=
  (sSeq (sSet 0 (eCB (sc1 absD) (aCons (eVar 0) aNil)))
  (sSeq (sSet 1 (eCB (sc1 absD) (aCons (eVar 1) aNil)))
  (sSeq (sFor (iRg1 (aCons (ret (.int 4000)) aNil)) (Tg.put (.nm 2))
  b__law_gcd_0)
  (sRet (eMv 0)))))
def w__law_gcd : M C := noEr (runDef 4 2 m__law_gcd)
def m__law_number : SM :=
  (sSeq (sIf (asB (eOp iLt (eVar 1) (ret (.int 0))))
  (sSeq (sSet 0 (eUn negD (eVar 0)))
  (sSet 1 (eUn negD (eVar 1))))
  sNext)
  (sSeq (sSet 2 (eCall w__law_gcd (aCons (eVar 0) (aCons (eVar 1) aNil))))
  (sRet (eTup (aCons (eFz (eOp iDiv (eVar 0) (eVar 2))) (aCons (eFz (eOp iDiv (eVar 1) (eVar 2))) aNil))))))
def w__law_number : M C := noEr (runDef 3 2 m__law_number)
abbrev e__law_place_0 : M C :=
  (eFz (eOp iMod (eCB (sc1 intD) (aCons (eIxV 0 (eOpC addC (ret (.int 3)) (eVar 7))) aNil)) (eVar 1)))
abbrev e__law_place_1 : M C :=
  (eFz (eOpC addC (ret (.int 1)) (eOp iMod (eCB (sc1 intD) (aCons (eIxV 0 (eOpC addC (ret (.int 9)) (eOp iMod (eVar 7) (ret (.int 5))))) aNil)) (ret (.int 5)))))
abbrev e__law_place_2 : M C :=
  (eTup (aCons (eFz (eCall w__law_number (aCons (eIxV 6 (eVar 7)) (aCons (eFz (eCBV (sc1 sumD) 6)) aNil)))) (aCons (eIxV 5 (eVar 7)) aNil)))
def m__law_place : SM :=
  (sSeq (sSet 2 (eOp iMod (eCB (sc1 intD) (aCons (eIxV 0 (ret (.int 0))) aNil)) (ret (.int 7))))
  (sSeq (sSet 3 (eCall w__law_number (aCons (eFz (eOp iSub (eOp iMod (eCB (sc1 intD) (aCons (eIxV 0 (ret (.int 1))) aNil)) (ret (.int 15))) (ret (.int 5)))) (aCons (eOp ixD (eLst (aCons (ret (.int 1)) (aCons (ret (.int 1)) (aCons (ret (.int 2)) (aCons (ret (.int 3)) aNil))))) (eOp iMod (eCB (sc1 intD) (aCons (eIxV 0 (ret (.int 14))) aNil)) (ret (.int 4)))) aNil))))
  (sSeq (sIf (asB (eOp eqD (eOp iMod (eOp iDiv (eCB (sc1 intD) (aCons (eIxV 0 (ret (.int 14))) aNil)) (ret (.int 4))) (ret (.int 8))) (ret (.int 7))))
  (sSet 3 (eCall w__law_number (aCons (eFz (eOp iSub (eCB (sc1 intD) (aCons (eIxV 0 (ret (.int 1))) aNil)) (ret (.int 500)))) (aCons (eFz (eOpC addC (ret (.int 1)) (eOp iMod (eCB (sc1 intD) (aCons (eIxV 0 (ret (.int 14))) aNil)) (ret (.int 7))))) aNil))))
  sNext)
  (sSeq (sSet 4 (eOp ixD (eLst (aCons (ret (.int 1)) (aCons (ret (.int 2)) (aCons (ret (.int 3)) (aCons (ret (.int 1)) (aCons (ret (.int 2)) (aCons (ret (.int 3)) (aCons (ret (.int 4)) (aCons (ret (.int 5)) (aCons (ret (.int 6)) aNil)))))))))) (eOp iMod (eCB (sc1 intD) (aCons (eIxV 0 (ret (.int 2))) aNil)) (ret (.int 9)))))
  (sSeq (sSet 5 (eLc [7] (iRg1 (aCons (eVar 4) aNil)) (Tg.put (.nm 7)) bYes e__law_place_0))
  (sSeq (sIf (asB (eOp iLt (eVar 2) (ret (.int 3))))
  (sSeq (sSet 6 (eLc [7] (iRg1 (aCons (eVar 4) aNil)) (Tg.put (.nm 7)) bYes e__law_place_1))
  (sRet (eTup (aCons (eVar 3) (aCons (ret (.str "draw")) (aCons (eFz (eLc [7] (iRg1 (aCons (eVar 4) aNil)) (Tg.put (.nm 7)) bYes e__law_place_2)) aNil))))))
  sNext)
  (sRet (eTup (aCons (eVar 3) (aCons (eOp ixD (eLst (aCons (ret (.str "ours")) (aCons (ret (.str "theirs")) aNil))) (eOp iMod (eVar 2) (ret (.int 2)))) (aCons (eVar 5) aNil)))))))))))
def w__law_place : M C := noEr (runDef 8 2 m__law_place)
abbrev e__law_game_0 : M C :=
  (eFz (eCall w__law_place (aCons (eFz (eSl (eVar 0) (pSome (eOpC addC (ret (.int 1)) (eOpC mulC (ret (.int 15)) (eVar 3)))) (pSome (eOpC addC (ret (.int 16)) (eOpC mulC (ret (.int 15)) (eVar 3)))))) (aCons (eVar 2) aNil))))
def m__law_game : SM :=
  (sSeq (sSet 2 (eOpC addC (ret (.int 1)) (eOp iMod (eCB (sc1 intD) (aCons (eIxV 0 (ret (.int 0))) aNil)) (eVar 1))))
  (sRet (eLc [3] (iRg1 (aCons (eVar 2) aNil)) (Tg.put (.nm 3)) bYes e__law_game_0)))
def w__law_game : M C := noEr (runDef 4 2 m__law_game)
def m__law_targets : SM :=
  (sSeq (sIf (asB (eOp eqD (eIxV 0 (ret (.int 1))) (ret (.str "draw"))))
  (sRet (eLc [1, 2] (iLst (eIxV 0 (ret (.int 2)))) (Tg.put (.tup [(.nm 1), (.nm 2)])) bYes (eVar 2)))
  sNext)
  (sRet (eCB (nw1 listC) (aCons (eIxV 0 (ret (.int 2))) aNil))))
def w__law_targets : M C := noEr (runDef 3 1 m__law_targets)
abbrev b__law_way_0 : SM :=
  (sSeq (sSet 6 (eCall w__law_targets (aCons (eIxV 0 (eVar 4)) aNil)))
  (sSeq (sOw 3 (eFz (eOp iMod (eCB (sc1 intD) (aCons (eVar 5) aNil)) (eCBV (sc1 lenD) 6))) appF)
  (sSet 4 (eIxV 6 (eIxV 3 (eUn negD (ret (.int 1))))))))
def m__law_way : SM :=
  (sSeq (sPar 3 4 (aCons (eLst aNil) (aCons (eVar 1) aNil)))
  (sSeq (sFor (iLst (eVar 2)) (Tg.put (.nm 5))
  b__law_way_0)
  (sRet (eMv 3))))
def w__law_way : M C := noEr (runDef 7 3 m__law_way)
abbrev e__law_unrolled_0 : M C :=
  (eIxV 8 (ret (.int 1)))
abbrev b__law_unrolled_1 : SM :=
  (sIf (asB (eOp eqD (eOp ixD (eIxV 3 (eVar 7)) (ret (.int 0))) (eVar 4)))
  (sSeq (sOw 5 (eTup (aCons (eVar 4) (aCons (eFz (eLc [8] (iLst (eSl (eVar 3) (pSome (eVar 7)) pNone)) (Tg.put (.nm 8)) bYes e__law_unrolled_0)) aNil))) appF)
  (sSeq (sSet 3 (eSl (eVar 3) pNone (pSome (eVar 7))))
  sBrk))
  sNext)
abbrev b__law_unrolled_2 : SM :=
  (sSeq (sOw 3 (eTup (aCons (eVar 4) (aCons (eVar 6) aNil))) appF)
  (sSeq (sSet 4 (eOp ixD (eCall w__law_targets (aCons (eIxV 0 (eVar 4)) aNil)) (eVar 6)))
  (sFor (iRg1 (aCons (eFz (eCBV (sc1 lenD) 3)) aNil)) (Tg.put (.nm 7))
  b__law_unrolled_1)))
abbrev e__law_unrolled_3 : M C :=
  (eIxV 8 (ret (.int 1)))
def m__law_unrolled : SM :=
  (sSeq (sPar3 3 4 5 (aCons (eLst aNil) (aCons (eVar 1) (aCons (eLst aNil) aNil))))
  (sSeq (sFor (iLst (eVar 2)) (Tg.put (.nm 6))
  b__law_unrolled_2)
  (sRet (eTup (aCons (eFz (eLc [8] (iLst (eVar 3)) (Tg.put (.nm 8)) bYes e__law_unrolled_3)) (aCons (eVar 5) aNil))))))
def w__law_unrolled : M C := noEr (runDef 9 3 m__law_unrolled)
def m_targets : SM :=
  (sSeq (sAsg (Tg.put (.tup [(.nm 2), (.nm 3), (.nm 4)])) (eIxV 0 (eVar 1)))
  (sSeq (sIf (asB (eOp eqD (eVar 3) (ret (.str "draw"))))
  (sRet (eLc [5, 6] (iLst (eVar 4)) (Tg.put (.tup [(.nm 5), (.nm 6)])) bYes (eVar 6)))
  sNext)
  (sRet (eCB (nw1 listC) (aCons (eVar 4) aNil)))))
def w_targets : M C := noEr (runDef 7 2 m_targets)
abbrev b_walk_0 : SM :=
  (sSeq (sSet 7 (eCall w_targets (aCons (eVar 0) (aCons (eIxV 4 (eUn negD (ret (.int 1)))) aNil))))
  (sSeq (sIf (bNot (asB (eChain iLe iLt (ret (.int 0)) (eVar 6) (eCBV (sc1 lenD) 7))))
  (sRaise1 "NoBranch" "at" (eOpC addC (eVar 3) (eVar 5)))
  sNext)
  (sOw 4 (eIxV 7 (eVar 6)) appF)))
def m_walk : SM :=
  (sSeq (sSet 4 (eLst (aCons (eVar 1) aNil)))
  (sSeq (sFor (iEnm (aCons (eVar 2) aNil)) (Tg.put (.tup [(.nm 5), (.nm 6)]))
  b_walk_0)
  (sRet (eMv 4))))
def w_walk : M C := runDef 8 4 m_walk
def m_places_on : SM :=
  (sRet (eCall w_walk (aCons (eVar 0) (aCons (eVar 1) (aCons (eVar 2) (aCons (ret (.int 0)) aNil))))))
def w_places_on : M C := runDef 3 3 m_places_on
abbrev b_unrolled_0 : SM :=
  (sSeq (sOw 4 (eVar 7) appF)
  (sIf (bLend (asB (eOpV inD (eVar 6) 3)))
  (sSeq (sSet 8 (eIdx (eVar 3) (eVar 6)))
  (sSeq (sOw 5 (eTupC (aCons (eVar 6) (aCons (eSl (eVar 4) (pSome (eVar 8)) pNone) aNil))) appF)
  (sSeq (sSet 4 (eSl (eVar 4) pNone (pSome (eVar 8))))
  (sSet 3 (eSl (eVar 3) pNone (pSome (eOpC addC (eVar 8) (ret (.int 1)))))))))
  (sOw 3 (eVar 6) appF)))
def m_unrolled : SM :=
  (sSeq (sSet 3 (eLst (aCons (eVar 1) aNil)))
  (sSeq (sSet 4 (eLst aNil))
  (sSeq (sSet 5 (eLst aNil))
  (sSeq (sFor (iZp (aCons (eFz (eSl (eCall w_places_on (aCons (eVar 0) (aCons (eVar 1) (aCons (eVar 2) aNil)))) (pSome (ret (.int 1))) pNone)) (aCons (eVar 2) aNil))) (Tg.put (.tup [(.nm 6), (.nm 7)]))
  b_unrolled_0)
  (sRet (eTupC (aCons (eMv 4) (aCons (eMv 5) aNil))))))))
def w_unrolled : M C := runDef 9 3 m_unrolled
abbrev e__law_same_0 (self : M C) : M C :=
  (eFz (eCall self (aCons (eIxV 0 (eVar 2)) (aCons (eIxV 1 (eVar 2)) aNil))))
def m__law_same (self : M C) : SM :=
  (sSeq (sIf (bOr (asB (eOp isN (eVar 1) (ret .non))) (asB (eOp isN (eVar 0) (ret .non))))
  (sRet (eAnd (eOp isN (eVar 1) (ret .non)) (eOp isN (eVar 0) (ret .non))))
  sNext)
  (sSeq (sIf (bOr (bTru truD (eCB (sc2 isiD) (aCons (eVar 1) (aCons (ret (.ob (.ty "list"))) aNil)))) (bTru truD (eCB (sc2 isiD) (aCons (eVar 1) (aCons (ret (.ob (.ty "tuple"))) aNil)))))
  (sSeq (sIf (bOr (asB (eOp neD (eCB (sc2 isiD) (aCons (eVar 1) (aCons (ret (.ob (.ty "list"))) aNil))) (eCB (sc2 isiD) (aCons (eVar 0) (aCons (ret (.ob (.ty "list"))) aNil))))) (asB (eOp neD (eCB (sc2 isiD) (aCons (eVar 1) (aCons (ret (.ob (.ty "tuple"))) aNil))) (eCB (sc2 isiD) (aCons (eVar 0) (aCons (ret (.ob (.ty "tuple"))) aNil))))))
  (sRet (ret (.bl false)))
  sNext)
  (sSeq (sIf (asB (eOp neD (eCBV (sc1 lenD) 0) (eCBV (sc1 lenD) 1)))
  (sRet (ret (.bl false)))
  sNext)
  (sRet (eCB (sc1 allD) (aCons (eFz (eLc [2] (iRg1 (aCons (eFz (eCBV (sc1 lenD) 1)) aNil)) (Tg.put (.nm 2)) bYes (e__law_same_0 self))) aNil)))))
  sNext)
  (sSeq (sIf (bOr (bTru truD (eCB (sc2 isiD) (aCons (eVar 1) (aCons (ret (.ob (.ty "bool"))) aNil)))) (bTru truD (eCB (sc2 isiD) (aCons (eVar 0) (aCons (ret (.ob (.ty "bool"))) aNil)))))
  (sRet (eAnd (eCB (sc2 isiD) (aCons (eVar 1) (aCons (ret (.ob (.ty "bool"))) aNil))) (eAnd (eCB (sc2 isiD) (aCons (eVar 0) (aCons (ret (.ob (.ty "bool"))) aNil))) (eOp eqD (eVar 0) (eVar 1)))))
  sNext)
  (sSeq (sIf (bTru truD (eCB (sc2 isiD) (aCons (eVar 1) (aCons (ret (.ob (.ty "int"))) aNil))))
  (sRet (eAnd (eCB (sc2 isiD) (aCons (eVar 0) (aCons (ret (.ob (.ty "int"))) aNil))) (eOp eqD (eVar 0) (eVar 1))))
  sNext)
  (sRet (eAnd (eCB (sc2 isiD) (aCons (eVar 1) (aCons (ret (.ob (.ty "str"))) aNil))) (eAnd (eCB (sc2 isiD) (aCons (eVar 0) (aCons (ret (.ob (.ty "str"))) aNil))) (eOp eqD (eVar 0) (eVar 1)))))))))
def wn__law_same : Nat → M C
  | 0 => stuck
  | n + 1 => noEr (runDef 3 2 (m__law_same (wn__law_same n)))
def w__law_same : M C := wn__law_same 6
abbrev y__law_refused_0 : SM :=
  (sExpr (eCall w_unrolled (aCons (eVar 0) (aCons (eVar 1) (aCons (eVar 2) aNil)))))
def m__law_refused : SM :=
  (sSeq (sTry 3 y__law_refused_0 (iscL [("NoBranch", true)]) (fldOf "at"))
  (sRet (ret .non)))
def w__law_refused : M C := noEr (runDef 4 3 m__law_refused)
abbrev b__law_places_0 : SM :=
  (sOw 3 (eOp ixD (eCall w__law_targets (aCons (eIxV 0 (eIxV 3 (eUn negD (ret (.int 1))))) aNil)) (eVar 4)) appF)
def m__law_places : SM :=
  (sSeq (sSet 3 (eLst (aCons (eVar 1) aNil)))
  (sSeq (sFor (iLst (eVar 2)) (Tg.put (.nm 4))
  b__law_places_0)
  (sRet (eMv 3))))
def w__law_places : M C := noEr (runDef 5 3 m__law_places)
def m_number : SM :=
  (sSeq (sIf (asB (eOp iLt (eVar 1) (ret (.int 0))))
  (sPar 0 1 (aCons (eUn negD (eVar 0)) (aCons (eUn negD (eVar 1)) aNil)))
  sNext)
  (sSeq (sSet 2 (eCB (sc2 gcdD) (aCons (eVar 0) (aCons (eVar 1) aNil))))
  (sRet (eTup (aCons (eFz (eOp iDiv (eVar 0) (eVar 2))) (aCons (eFz (eOp iDiv (eVar 1) (eVar 2))) aNil))))))
def w_number : M C := noEr (runDef 3 2 m_number)
def m_plus : SM :=
  (sRet (eCall w_number (aCons (eFz (eOpC addC (eOpC mulC (eIxV 0 (ret (.int 0))) (eIxV 1 (ret (.int 1)))) (eOpC mulC (eIxV 1 (ret (.int 0))) (eIxV 0 (ret (.int 1)))))) (aCons (eFz (eOpC mulC (eIxV 0 (ret (.int 1))) (eIxV 1 (ret (.int 1))))) aNil))))
def w_plus : M C := noEr (runDef 2 2 m_plus)
abbrev b_total_0 : SM :=
  (sSet 1 (eCall w_plus (aCons (eVar 1) (aCons (eVar 2) aNil))))
def m_total : SM :=
  (sSeq (sSet 1 (ret k_NOUGHT))
  (sSeq (sFor (iLst (eVar 0)) (Tg.put (.nm 2))
  b_total_0)
  (sRet (eMv 1))))
def w_total : M C := noEr (runDef 3 1 m_total)
abbrev e_sum_of_0 : M C :=
  (eOp ixD (eIxV 0 (eVar 3)) (ret (.int 0)))
def m_sum_of : SM :=
  (sRet (eCall w_total (aCons (eFz (eLc [3] (iLst (eSl (eCall w_places_on (aCons (eVar 0) (aCons (eVar 1) (aCons (eVar 2) aNil)))) pNone (pSome (eUn negD (ret (.int 1)))))) (Tg.put (.nm 3)) bYes e_sum_of_0)) aNil)))
def w_sum_of : M C := runDef 4 3 m_sum_of
def m__law_plus : SM :=
  (sRet (eCall w__law_number (aCons (eFz (eOpC addC (eOpC mulC (eIxV 0 (ret (.int 0))) (eIxV 1 (ret (.int 1)))) (eOpC mulC (eIxV 1 (ret (.int 0))) (eIxV 0 (ret (.int 1)))))) (aCons (eFz (eOpC mulC (eIxV 0 (ret (.int 1))) (eIxV 1 (ret (.int 1))))) aNil))))
def w__law_plus : M C := noEr (runDef 2 2 m__law_plus)
abbrev e_law_0 : M C :=
  (eTup (aCons (eTup (aCons (eVar 17) (aCons (ret (.int 1)) aNil))) (aCons (ret (.str "theirs")) (aCons (eFz (eLst (aCons (eFz (eOp iMod (eCB (sc1 intD) (aCons (eFz (eOpC addC (eVar 17) (ret (.int 1)))) aNil)) (ret (.int 12)))) (aCons (eFz (eOp iMod (eCB (sc1 intD) (aCons (eFz (eOpC addC (eVar 17) (ret (.int 1)))) aNil)) (ret (.int 12)))) (aCons (eFz (eOp iMod (eCB (sc1 intD) (aCons (eFz (eOpC addC (eVar 17) (ret (.int 1)))) aNil)) (ret (.int 12)))) (aCons (ret (.int 0)) aNil)))))) aNil))))
abbrev b_law_1 : SM :=
  (sOw 10 (ret (.int 0)) appF)
abbrev b_law_2 : SM :=
  (sSeq (sSet 8 (eCall w_unrolled (aCons (eVar 2) (aCons (eVar 3) (aCons (eVar 4) aNil)))))
  (sSeq (sIf (bLend (bNot (bTru truD (eCall w__law_same (aCons (eVar 8) (aCons (eVar 6) aNil))))))
  (sRet (ret (.bl false)))
  sNext)
  (sSeq (sForL 8 [1] (Tg.put (.tup [(.nm 9), (.nm 10)]))
  b_law_1)
  (sSeq (sMut 8 [.c 0] (pushF (.int 0)))
  (sMut 8 [.c 1] (pushF .non))))))
abbrev e_law_3 : M C :=
  (eOp inD (eIxV 16 (eVar 17)) (eSl (eVar 16) pNone (pSome (eVar 17))))
abbrev b_law_4 : SM :=
  (sSeq (sSet 16 (eCall w__law_places (aCons (eVar 2) (aCons (eVar 9) (aCons (eVar 10) aNil)))))
  (sSeq (sIf (bOr (asB (eOp neD (eIxV 16 (eUn negD (ret (.int 1)))) (eVar 9))) (bTru truD (eCB (sc1 anyD) (aCons (eFz (eLc [17] (iRg1 (aCons (eFz (eCBV (sc1 lenD) 10)) aNil)) (Tg.put (.nm 17)) bYes e_law_3)) aNil))))
  (sRet (ret (.bl false)))
  sNext)
  (sSeq (sSet 14 (eCall w__law_plus (aCons (eVar 14) (aCons (eFz (eCall w_sum_of (aCons (eVar 2) (aCons (eVar 9) (aCons (eVar 10) aNil))))) aNil))))
  (sSet 15 (eOpC addC (eVar 15) (eCBV (sc1 lenD) 10))))))
def m_law : SM :=
  (sSeq (sSet 1 (eCall w__law_draws (aCons (eVar 0) (aCons (ret (.int 140)) aNil))))
  (sSeq (sSet 2 (eCall w__law_game (aCons (eVar 1) (aCons (ret (.int 7)) aNil))))
  (sSeq (sIf (asB (eOp eqD (eOp iMod (eCB (sc1 intD) (aCons (eIxV 1 (ret (.int 132))) aNil)) (ret (.int 4))) (ret (.int 0))))
  (sSet 2 (eLc [17] (iRg1 (aCons (ret (.int 12)) aNil)) (Tg.put (.nm 17)) bYes e_law_0))
  sNext)
  (sSeq (sSet 3 (eOp iMod (eCB (sc1 intD) (aCons (eIxV 1 (ret (.int 106))) aNil)) (eCBV (sc1 lenD) 2)))
  (sSeq (sSet 4 (eCall w__law_way (aCons (eVar 2) (aCons (eVar 3) (aCons (eFz (eSl (eVar 1) (pSome (ret (.int 107))) (pSome (eOpC addC (ret (.int 107)) (eOp iMod (eCB (sc1 intD) (aCons (eIxV 1 (ret (.int 131))) aNil)) (ret (.int 25))))))) aNil)))))
  (sSeq (sSet 5 (eCB (sc1 reprD) (aCons (eTup (aCons (eVar 2) (aCons (eVar 4) aNil))) aNil)))
  (sSeq (sSet 6 (eCall w__law_unrolled (aCons (eVar 2) (aCons (eVar 3) (aCons (eVar 4) aNil)))))
  (sSeq (sFor (iRg1 (aCons (ret (.int 2)) aNil)) (Tg.put (.nm 7))
  b_law_2)
  (sSeq (sIf (asB (eOp neD (eCall w__law_refused (aCons (eVar 2) (aCons (eVar 3) (aCons (eFz (eOpC addC (eVar 4) (eLst (aCons (ret (.int 99)) (aCons (eUn negD (ret (.int 1))) aNil))))) aNil)))) (eCBV (sc1 lenD) 4)))
  (sRet (ret (.bl false)))
  sNext)
  (sSeq (sAsg (Tg.put (.tup [(.nm 11), (.nm 12)])) (eVar 6))
  (sSeq (sSet 13 (eCall w__law_places (aCons (eVar 2) (aCons (eVar 3) (aCons (eVar 11) aNil)))))
  (sSeq (sIf (asB (eOp neD (eCBV (sc1 lenD) 13) (eCB (sc1 lenD) (aCons (eFz (eLc [17] (iRg1 (aCons (eFz (eCBV (sc1 lenD) 13)) aNil)) (Tg.put (.nm 17)) (asB (eOp ninD (eIxV 13 (eVar 17)) (eSl (eVar 13) pNone (pSome (eVar 17))))) (eVar 17))) aNil))))
  (sRet (ret (.bl false)))
  sNext)
  (sSeq (sSet 14 (eCall w_sum_of (aCons (eVar 2) (aCons (eVar 3) (aCons (eVar 11) aNil)))))
  (sSeq (sSet 15 (eCBV (sc1 lenD) 11))
  (sSeq (sFor (iLst (eVar 12)) (Tg.put (.tup [(.nm 9), (.nm 10)]))
  b_law_4)
  (sRet (eAnd (eOp eqD (eVar 15) (eCBV (sc1 lenD) 4)) (eAnd (eCall w__law_same (aCons (eFz (eCall w_sum_of (aCons (eVar 2) (aCons (eVar 3) (aCons (eVar 4) aNil))))) (aCons (eVar 14) aNil))) (eOp eqD (eCB (sc1 reprD) (aCons (eTup (aCons (eVar 2) (aCons (eVar 4) aNil))) aNil)) (eVar 5))))))))))))))))))))
def w_law0 : M C := runDef 18 1 m_law
def w_law : M C := noEr w_law0
end
end Lw
namespace Lw
open PySem PySem.Spec PyProof.Rows L2 Dn
theorem gcd_loop : ∀ (ds : List D) (a b : Nat) (s r : C), ∃ b' s' r', forL (Tg.put (.nm 2)) b__law_gcd_0 ds [.fz (.int a), .fz (.int b), s, r] = .nx [.fz (.int (eu ds.length a b).1), b', s', r']
  | [], a, b, s, r => ⟨_, _, _, rfl⟩
  | d :: ds, a, b, s, r => by
    rw [forL_cons]
    by_cases hb : b = 0
    · subst hb
      refine ⟨.fz (.int 0), .fz d, r, ?_⟩
      simp [eu]
    · obtain ⟨b', s', r', h⟩ := gcd_loop ds b (a % b) (.fz d) (.fz (.int (a % b : Nat)))
      refine ⟨b', s', r', ?_⟩
      have h0 : ¬ ((b : Nat) : Int) = 0 := by omega
      have h1 : 0 < ((b : Nat) : Int) := by omega
      have e : eu (d :: ds).length a b = eu ds.length b (a % b : Nat) := by
        show (if (b : Int) = 0 then _ else _) = _
        rw [if_neg h0]; rfl
      rw [e, ← h]
      simp [h0, hb, Nat.pos_of_ne_zero hb]
theorem sp_gcd {a b : Int} (h : b.natAbs < 2 ^ 2600 * Nat.gcd a.natAbs b.natAbs) : w__law_gcd [.fz (.int a), .fz (.int b)] = .ok (.fz (.int (Nat.gcd a.natAbs b.natAbs : Nat))) [] := by
  obtain ⟨b', s', r', e⟩ := gcd_loop (intsD 0 4000) a.natAbs b.natAbs .no .no
  have hk : b.natAbs < kf 4000 * Nat.gcd a.natAbs b.natAbs := Nat.lt_of_lt_of_le h (Nat.mul_le_mul_right _ kf4000)
  rw [intsD_len, eu_gcd _ _ _ hk] at e
  simp [w__law_gcd, runDef, noEr, m__law_gcd, r62_eq, e]
theorem den_gcd {n d : Int} (hd : d ≠ 0) (h : (Rat.divInt n d).den < 2 ^ 2600) : d.natAbs < 2 ^ 2600 * Nat.gcd n.natAbs d.natAbs := by
  rw [Rat.den_divInt, if_neg hd] at h
  have e : d.gcd n = Nat.gcd n.natAbs d.natAbs := by rw [Int.gcd_comm]; rfl
  rw [e] at h
  exact (Nat.div_lt_iff_lt_mul (Nat.gcd_pos_of_pos_right _ (by omega))).mp h
theorem div_numN {n d : Int} (h : d < 0) : (-n) / ((Nat.gcd n.natAbs d.natAbs : Nat) : Int) = (Rat.divInt n d).num := by
  have := div_num (n := -n) (d := -d) (by omega)
  simpa [neg_divInt] using this
theorem div_denN {n d : Int} (h : d < 0) : (-d) / ((Nat.gcd n.natAbs d.natAbs : Nat) : Int) = ((Rat.divInt n d).den : Int) := by
  have := div_den (n := -n) (d := -d) (by omega)
  simpa [neg_divInt] using this
theorem sp__law_number {n d : Int} (hd : d ≠ 0) (h : d.natAbs < 2 ^ 5200) (h2 : (Rat.divInt n d).den < 2 ^ 2600) : w__law_number [.fz (.int n), .fz (.int d)] = .ok (nC (Rat.divInt n d)) [] := by
  have hl : (Nat.gcd n.natAbs d.natAbs).log2 < 9000 := log2_lt (by decide) (Nat.lt_of_le_of_lt (Nat.gcd_le_right _ (by omega)) (Nat.lt_of_lt_of_le h (Nat.pow_le_pow_right (by decide) (by decide))))
  have hp : 0 < Nat.gcd n.natAbs d.natAbs := Nat.gcd_pos_of_pos_right _ (by omega)
  have hb := den_gcd hd h2
  rcases Int.lt_or_gt_of_ne hd with h1 | h1
  · have hg := sp_gcd (a := -n) (b := -d) (by simpa using hb)
    simp [w__law_number, runDef, noEr, m__law_number, h1, hd, hg, hl, hp, div_numN h1, div_denN h1]
  · have hg := sp_gcd (a := n) hb
    have h2 : ¬ d < 0 := by omega
    simp [w__law_number, runDef, noEr, m__law_number, h2, hd, hg, hl, hp, div_num h1, div_den h1]
theorem sp_number {n d : Int} (hd : d ≠ 0) (h : d.natAbs < 2 ^ 5200) (h2 : (Rat.divInt n d).den < 2 ^ 2600) : w_number [.fz (.int n), .fz (.int d)] = .ok (nC (Rat.divInt n d)) [] := by
  have hl : (Nat.gcd n.natAbs d.natAbs).log2 < 9000 := log2_lt (by decide) (Nat.lt_of_le_of_lt (Nat.gcd_le_right _ (by omega)) (Nat.lt_of_lt_of_le h (Nat.pow_le_pow_right (by decide) (by decide))))
  have hp : 0 < Nat.gcd n.natAbs d.natAbs := Nat.gcd_pos_of_pos_right _ (by omega)
  have hb := den_gcd hd h2
  rcases Int.lt_or_gt_of_ne hd with h1 | h1
  · skip
    simp [w_number, runDef, noEr, m_number, h1, hd, hl, hp, div_numN h1, div_denN h1]
  · skip
    have h2 : ¬ d < 0 := by omega
    simp [w_number, runDef, noEr, m_number, h2, hd, hl, hp, div_num h1, div_den h1]
theorem Okq.d0 {q : Rat} : (q.den : Int) ≠ 0 := by have := q.den_nz; omega
theorem wide_ok {i j : Int} (h1 : i.natAbs < 2 ^ 2600) (h2 : j.natAbs < 2 ^ 2600) : wide i j = true := wide_of h1 h2 (by decide) (by decide) (by decide)
theorem add_divInt (a b : Rat) : Rat.divInt (a.num * b.den + b.num * a.den) (a.den * b.den) = a + b := by
  rw [← Rat.divInt_add_divInt _ _ (by have := a.den_nz; omega) (by have := b.den_nz; omega), Rat.num_divInt_den, Rat.num_divInt_den]
theorem mul_divInt (a b : Rat) : Rat.divInt (a.num * b.num) (a.den * b.den) = a * b := by
  rw [← Rat.divInt_mul_divInt, Rat.num_divInt_den, Rat.num_divInt_den]
theorem den_mul {a b : Rat} (h1 : Okq a) (h2 : Okq b) : ((a.den : Int) * (b.den : Int)).natAbs < 2 ^ 5200 := by
  rw [Int.natAbs_mul]
  exact Nat.lt_of_lt_of_le (Nat.mul_lt_mul'' h1.2 h2.2) (by rw [← Nat.pow_add]; exact Nat.le_refl _)
theorem den_ne {a b : Rat} : ((a.den : Int) * (b.den : Int)) ≠ 0 := Int.mul_ne_zero (by have := a.den_nz; omega) (by have := b.den_nz; omega)
theorem sp__law_plus {a b : Rat} (h1 : Okq a) (h2 : Okq b) (h3 : (a + b).den < 2 ^ 2600) : w__law_plus [nC a, nC b] = .ok (nC (a + b)) [] := by
  have w1 : wide a.num b.den = true := wide_ok h1.1 (by simpa using h2.2)
  have w2 : wide b.num a.den = true := wide_ok h2.1 (by simpa using h1.2)
  have w3 : wide a.den b.den = true := wide_ok (by simpa using h1.2) (by simpa using h2.2)
  have hn := sp__law_number (n := a.num * b.den + b.num * a.den) den_ne (den_mul h1 h2) (by rw [add_divInt]; exact h3)
  rw [add_divInt] at hn
  simp [w__law_plus, runDef, noEr, m__law_plus, w1, w2, w3, atI_ofNat, hn]
theorem sp_plus {a b : Rat} (h1 : Okq a) (h2 : Okq b) (h3 : (a + b).den < 2 ^ 2600) : w_plus [nC a, nC b] = .ok (nC (a + b)) [] := by
  have w1 : wide a.num b.den = true := wide_ok h1.1 (by simpa using h2.2)
  have w2 : wide b.num a.den = true := wide_ok h2.1 (by simpa using h1.2)
  have w3 : wide a.den b.den = true := wide_ok (by simpa using h1.2) (by simpa using h2.2)
  have hn := sp_number (n := a.num * b.den + b.num * a.den) den_ne (den_mul h1 h2) (by rw [add_divInt]; exact h3)
  rw [add_divInt] at hn
  simp [w_plus, runDef, noEr, m_plus, w1, w2, w3, atI_ofNat, hn]
theorem lt_num (a b : Rat) : (a.num * b.den < b.num * a.den) ↔ a < b := by
  rw [Rat.lt_iff]
end Lw

namespace Dn
open PySem PySem.Spec PyProof.Rows L2
/-! ### numbers over a common divisor -/
def Inn (M B : Nat) (q : Rat) : Prop := 0 < M ∧ ∃ k : Int, q = Rat.divInt k M ∧ k.natAbs ≤ B * M
theorem Inn.add {M B B' : Nat} {a b : Rat} (h : Inn M B a) (h' : Inn M B' b) : Inn M (B + B') (a + b) := by
  obtain ⟨p, k, rfl, hk⟩ := h
  obtain ⟨_, j, rfl, hj⟩ := h'
  have hm : (M : Int) ≠ 0 := by omega
  refine ⟨p, k + j, ?_, ?_⟩
  · rw [Rat.divInt_add_divInt _ _ hm hm, ← Int.add_mul, Rat.divInt_mul_right hm]
  · rw [Nat.add_mul]; omega
theorem Inn.mul {M M' B B' : Nat} {a b : Rat} (h : Inn M B a) (h' : Inn M' B' b) : Inn (M * M') (B * B') (a * b) := by
  obtain ⟨p, k, rfl, hk⟩ := h
  obtain ⟨p', j, rfl, hj⟩ := h'
  refine ⟨Nat.mul_pos p p', k * j, ?_, ?_⟩
  · rw [Rat.divInt_mul_divInt]; simp
  · rw [Int.natAbs_mul, show B * B' * (M * M') = (B * M) * (B' * M') by ac_rfl]
    exact Nat.mul_le_mul hk hj
theorem Inn.lift {M B : Nat} {a : Rat} (h : Inn M B a) {c : Nat} (hc : 0 < c) : Inn (M * c) B a := by
  obtain ⟨p, k, rfl, hk⟩ := h
  have hm : (c : Int) ≠ 0 := by omega
  refine ⟨Nat.mul_pos p hc, k * c, ?_, ?_⟩
  · rw [Int.natCast_mul, Rat.divInt_mul_right hm]
  · rw [Int.natAbs_mul, ← Nat.mul_assoc]; simpa using Nat.mul_le_mul_right c hk
theorem Inn.dvd {M M' B : Nat} {a : Rat} (h : Inn M B a) (hd : M ∣ M') (hp : 0 < M') : Inn M' B a := by
  obtain ⟨c, rfl⟩ := hd
  exact h.lift (Nat.pos_of_mul_pos_left hp)
theorem Inn.le {M B B' : Nat} {a : Rat} (h : Inn M B a) (hb : B ≤ B') : Inn M B' a := by
  obtain ⟨p, k, rfl, hk⟩ := h
  exact ⟨p, k, rfl, Nat.le_trans hk (Nat.mul_le_mul_right _ hb)⟩
theorem Inn.neg {M B : Nat} {a : Rat} (h : Inn M B a) : Inn M B (-a) := by
  obtain ⟨p, k, rfl, hk⟩ := h
  exact ⟨p, -k, by rw [Rat.neg_divInt], by simpa using hk⟩
theorem Inn.sub {M B B' : Nat} {a b : Rat} (h : Inn M B a) (h' : Inn M B' b) : Inn M (B + B') (a - b) := by
  rw [Rat.sub_eq_add_neg]; exact h.add h'.neg
theorem Inn.zero {M : Nat} (h : 0 < M) : Inn M 0 0 := ⟨h, 0, by simp, by simp⟩
theorem Inn.of {M : Nat} {k : Int} {B : Nat} (h : 0 < M) (hk : k.natAbs ≤ B * M) : Inn M B (Rat.divInt k M) := ⟨h, k, rfl, hk⟩
theorem Inn.den {M B : Nat} {a : Rat} (h : Inn M B a) : a.den ≤ M := by
  obtain ⟨p, k, rfl, hk⟩ := h
  rw [Rat.den_divInt, if_neg (by omega)]
  simpa using Nat.div_le_self _ _
theorem Inn.num {M B : Nat} {a : Rat} (h : Inn M B a) : a.num.natAbs ≤ B * M := by
  obtain ⟨p, k, rfl, hk⟩ := h
  refine Nat.le_trans ?_ hk
  rw [← div_num (by omega), Int.natAbs_ediv_of_dvd (Int.ofNat_dvd_left.mpr (Nat.gcd_dvd_left _ _))]
  exact Nat.div_le_self _ _
theorem Inn.okq {M B : Nat} {a : Rat} (h : Inn M B a) (h1 : B * M < 2 ^ 2600) (h2 : M < 2 ^ 2600) : Okq a := ⟨Nat.lt_of_le_of_lt h.num h1, Nat.lt_of_le_of_lt h.den h2⟩
theorem forall₂_get {ds : List D} {d : D} {i : Nat} : ds[i]? = some d → d ∈ ds := fun h => List.mem_of_getElem? h
end Dn
namespace Lw
open PySem PySem.Spec PyProof.Rows L2 Dn
/-! ### draws -/
def DrawOk (i : Int) : Prop := 0 ≤ i ∧ i < 1000
def DrI (ns : List Int) (n : Nat) : Nat → Rho → Prop := fun k ρ => ∃ (rs ds : List Int) (a b c d : C), rs.length = ns.length ∧ ds.length = k ∧ (∀ i ∈ ds, DrawOk i) ∧
    ρ = [.fz (.fr (ns.map D.int)), .fz (.int n), .ow (rs.map fun i => .fz (.int i)), .ow (ds.map fun i => .fz (.int i)), a, b, c, d, .no]
theorem dr_hr (ns : List Int) (n : Nat) (hl : ns.length ≤ 63) : lcL [8] (Tg.put (.nm 8)) bYes (eVar 8) (ns.map D.int) [] [.fz (.fr (ns.map D.int)), .fz (.int n), .no, .no, .no, .no, .no, .no, .no] = .ok (ns.map fun i => .fz (.int i)) [.fz (.fr (ns.map D.int)), .fz (.int n), .no, .no, .no, .no, .no, .no, .no] :=
    lcL_getO _ D.int (fun i => .fz (.int i)) ns (by omega) fun d m => by simp
theorem dr_fin (ns : List Int) (n : Nat) : ∀ (k : Nat) (rs ds : List Int) (v : Int) (a b c d : C), rs.length = ns.length → ds.length = k → (∀ i ∈ ds, DrawOk i) → DrawOk v → DrI ns n (k + 1) [.fz (.fr (ns.map D.int)), .fz (.int n), .ow (rs.map fun i => .fz (.int i)), .ow ((ds.map fun i => C.fz (.int i)) ++ [.fz (.int v)]), a, b, c, d, .no] := by
    intro k rs ds v a b c d h1 h2 h3 h4
    refine ⟨rs, ds ++ [v], a, b, c, d, h1, by simp [h2], fun i m => ?_, by simp⟩
    rcases List.mem_append.mp m with m | m
    · exact h3 i m
    · rw [List.mem_singleton.mp m]; exact h4
theorem dr_step (ns : List Int) (n : Nat) (hn : n ≤ 1000) : ∀ (i : Nat) (d : D) (ρ : Rho), (intsD 0 n)[i]? = some d → DrI ns n i ρ → (fStep (Tg.put (.nm 4)) b__law_draws_0 d ρ).sat (DrI ns n (i + 1)) := by
    intro i d ρ hd hI
    obtain ⟨hi, rfl⟩ := intsD_get hd
    obtain ⟨rs, ds, a, b, c, e, h1, h2, h3, rfl⟩ := hI
    have hds : ds.length ≤ 1000000 := by omega
    by_cases h0 : rs = []
    · subst h0
      have := dr_fin ns n i [] ds 0 (.fz (.int i)) (.fz (.int 0)) c e h1 h2 h3 ⟨by decide, by decide⟩
      simpa [hds] using this
    · have hp : 0 < rs.length := List.length_pos_iff.mpr h0
      have hk0 : (0 : Int) ≤ (i : Int) % (rs.length : Int) := Int.emod_nonneg _ (by omega)
      have hk1 : (i : Int) % (rs.length : Int) < rs.length := Int.emod_lt_of_pos _ (by omega)
      obtain ⟨r, hr1, hr2, hr3⟩ := atI_in hk0 hk1
      have hat : atI (rs.map fun i => C.fz (.int i)) ((i : Int) % (rs.length : Int)) = some (.fz (.int r)) := by rw [atI_map, hr1]; rfl
      by_cases hbig : (10 : Int) ^ 18 ≤ r
      · have hset : setF ((i : Int) % (rs.length : Int)) (rs.map fun i => C.fz (.int i)) (.fz (.int (r / 1000))) = some ((rs.set ((i : Int) % (rs.length : Int)).toNat (r / 1000)).map fun i => C.fz (.int i)) := by
          rw [setF_in hk0 (by simpa using hk1), List.map_set]; simp
        have := dr_fin ns n i (rs.set ((i : Int) % (rs.length : Int)).toNat (r / 1000)) ds (r % 1000) (.fz (.int i)) (.fz (.int (r % 1000))) (.fz (.int ((i : Int) % (rs.length : Int)))) e (by simpa using h1) h2 h3 ⟨Int.emod_nonneg _ (by decide), Int.emod_lt_of_pos _ (by decide)⟩
        have hl : Nat.log2 1000 < 9000 := by decide
        simp at hbig
        simpa [hds, hp, hat, hset, hbig, hl] using this
      · have w1 : wide r 48271 = true := wide_r (by decide)
        have w2 : wide (i : Int) 69621 = true := wide_r (by decide)
        have w3 : ∀ z : Int, wide z 16807 = true := fun z => wide_r (by decide)
        have hl : Nat.log2 7 < 9000 := by decide
        have hbig' : ¬ (1000000000000000000 ≤ r) := by simpa using hbig
        simp [hds, hp, hat, hbig', hl, w1, w2, w3]
        exact dr_fin ns n i rs ds _ _ _ _ _ h1 h2 h3 ⟨Int.emod_nonneg _ (by decide), Int.emod_lt_of_pos _ (by decide)⟩
theorem sp__law_draws (ns : List Int) (n : Nat) (hn : n ≤ 1000) (hl : ns.length ≤ 63) : ∃ ds : List Int, ds.length = n ∧ (∀ i ∈ ds, DrawOk i) ∧ w__law_draws [.fz (.fr (ns.map D.int)), .fz (.int n)] = .ok (.ow (ds.map fun i => .fz (.int i))) [] := by
  have hr := dr_hr ns n hl
  have step := dr_step ns n hn
  obtain ⟨ρ', e, rs, ds, a, b, c, d, h1, h2, h3, rfl⟩ := forL_sat (DrI ns n) (intsD 0 n) step (ρ := [.fz (.fr (ns.map D.int)), .fz (.int n), .ow (ns.map fun i => .fz (.int i)), .ow [], .no, .no, .no, .no, .no]) ⟨ns, [], .no, .no, .no, .no, rfl, rfl, by simp, rfl⟩
  rw [intsD_len] at h2
  refine ⟨ds, h2, h3, ?_⟩
  have hn' : r62 (n : Int) = true := by rw [r62_eq]; simp; omega
  simp -implicitDefEqProofs [w__law_draws, runDef, noEr, m__law_draws, hr, hn', e]
end Lw

namespace Lw
open PySem PySem.Spec PyProof.Rows L2 Dn
/-! ### games -/
inductive Pl where
  | dr (g : Rat) (bs : List (Rat × Nat))
  | ch (g : Rat) (ours : Bool) (ts : List Nat)
def brD (b : Rat × Nat) : D := .tup [nD b.1, .int b.2]
def sideS (b : Bool) : Str := if b then "ours" else "theirs"
def plD : Pl → D
  | .dr g bs => .tup [nD g, .str "draw", .lst (bs.map brD)]
  | .ch g o ts => .tup [nD g, .str (sideS o), .lst (ts.map fun t => .int (t : Nat))]
abbrev LL : Nat := 2329089562800
def plOkG (Mg Bg m : Nat) : Pl → Prop
  | .dr g bs => Inn Mg Bg g ∧ bs ≠ [] ∧ bs.length ≤ 6 ∧ ∀ b ∈ bs, Inn LL 1 b.1 ∧ b.2 < m
  | .ch g _ ts => Inn Mg Bg g ∧ ts ≠ [] ∧ ts.length ≤ 6 ∧ ∀ t ∈ ts, t < m
abbrev plOk (m : Nat) (p : Pl) : Prop := plOkG 6 9 m p
/-- chances: not less than 0, 1 in all -/
def plFair : Pl → Prop
  | .dr _ bs => (∀ b ∈ bs, 0 ≤ b.1) ∧ (bs.map (·.1)).foldl (· + ·) 0 = (1 : Rat)
  | .ch _ _ _ => True
theorem atI_ds {ds : List Int} (h : ∀ i ∈ ds, DrawOk i) {j : Int} (h0 : 0 ≤ j) (h1 : j < ds.length) : atI (ds.map D.int) j = some (.int (ds.getD j.toNat 0)) ∧ DrawOk (ds.getD j.toNat 0) := by
  obtain ⟨a, e1, e2, e3⟩ := atI_in h0 h1
  rw [atI_map, e1]
  have : ds.getD j.toNat 0 = a := by rw [List.getD_eq_getElem?_getD, e2]; rfl
  rw [this]
  exact ⟨rfl, h a e3⟩
theorem dvd_LL {s : Int} (h : 1 ≤ s) (h2 : s ≤ 30) : s.toNat ∣ LL := by
  have : s = 1 ∨ s = 2 ∨ s = 3 ∨ s = 4 ∨ s = 5 ∨ s = 6 ∨ s = 7 ∨ s = 8 ∨ s = 9 ∨ s = 10 ∨ s = 11 ∨ s = 12 ∨ s = 13 ∨ s = 14 ∨ s = 15 ∨ s = 16 ∨ s = 17 ∨ s = 18 ∨ s = 19 ∨ s = 20 ∨ s = 21 ∨ s = 22 ∨ s = 23 ∨ s = 24 ∨ s = 25 ∨ s = 26 ∨ s = 27 ∨ s = 28 ∨ s = 29 ∨ s = 30 := by omega
  rcases this with rfl | rfl | rfl | rfl | rfl | rfl | rfl | rfl | rfl | rfl | rfl | rfl | rfl | rfl | rfl | rfl | rfl | rfl | rfl | rfl | rfl | rfl | rfl | rfl | rfl | rfl | rfl | rfl | rfl | rfl <;> decide
theorem small_num {n d : Int} (h : 0 < d) (h2 : d < 2 ^ 1000) : d ≠ 0 ∧ d.natAbs < 2 ^ 5200 ∧ (Rat.divInt n d).den < 2 ^ 2600 := by
  have h3 : d.natAbs < 2 ^ 1000 := by omega
  have p1 : (2 : Nat) ^ 1000 ≤ 2 ^ 5200 := Nat.pow_le_pow_right (by decide) (by decide)
  have p2 : (2 : Nat) ^ 1000 ≤ 2 ^ 2600 := Nat.pow_le_pow_right (by decide) (by decide)
  refine ⟨by omega, Nat.lt_of_lt_of_le h3 p1, ?_⟩
  rw [Rat.den_divInt, if_neg (by omega)]
  exact Nat.lt_of_le_of_lt (Nat.div_le_self _ _) (Nat.lt_of_lt_of_le h3 p2)
theorem divs4 {j : Int} (h0 : 0 ≤ j) (h1 : j < 4) : ∃ g : Nat, atI [D.int 1, .int 1, .int 2, .int 3] j = some (.int g) ∧ 0 < g ∧ g ∣ 6 ∧ g ≤ 3 := by
  have : j = 0 ∨ j = 1 ∨ j = 2 ∨ j = 3 := by omega
  rcases this with rfl | rfl | rfl | rfl
  · exact ⟨1, rfl, by decide, by decide, by decide⟩
  · exact ⟨1, rfl, by decide, by decide, by decide⟩
  · exact ⟨2, rfl, by decide, by decide, by decide⟩
  · exact ⟨3, rfl, by decide, by decide, by decide⟩
theorem sizes9 {j : Int} (h0 : 0 ≤ j) (h1 : j < 9) : ∃ g : Nat, atI [D.int 1, .int 2, .int 3, .int 1, .int 2, .int 3, .int 4, .int 5, .int 6] j = some (.int g) ∧ 0 < g ∧ g ≤ 6 := by
  have : j = 0 ∨ j = 1 ∨ j = 2 ∨ j = 3 ∨ j = 4 ∨ j = 5 ∨ j = 6 ∨ j = 7 ∨ j = 8 := by omega
  rcases this with rfl | rfl | rfl | rfl | rfl | rfl | rfl | rfl | rfl
  · exact ⟨1, rfl, by decide, by decide⟩
  · exact ⟨2, rfl, by decide, by decide⟩
  · exact ⟨3, rfl, by decide, by decide⟩
  · exact ⟨1, rfl, by decide, by decide⟩
  · exact ⟨2, rfl, by decide, by decide⟩
  · exact ⟨3, rfl, by decide, by decide⟩
  · exact ⟨4, rfl, by decide, by decide⟩
  · exact ⟨5, rfl, by decide, by decide⟩
  · exact ⟨6, rfl, by decide, by decide⟩
theorem gain_in {x : Int} {g : Nat} (hx : DrawOk x) (h : 0 < g) (h6 : g ∣ 6) (h3 : g ≤ 3) : Inn 6 9 (Rat.divInt (x % 15 - 5) g) := by
  refine (Inn.of (B := 9) h ?_).dvd h6 (by decide)
  have := Int.emod_nonneg x (b := 15) (by decide)
  have := Int.emod_lt_of_pos x (b := 15) (by decide)
  omega
def wts (ds : List Int) (k : Nat) : Int := 1 + ds.getD (9 + k % 5) 0 % 5
theorem wts_in {ds : List Int} (k : Nat) : 1 ≤ wts ds k ∧ wts ds k ≤ 5 := by
  unfold wts
  have := Int.emod_nonneg (ds.getD (9 + k % 5) 0) (b := 5) (by decide)
  have := Int.emod_lt_of_pos (ds.getD (9 + k % 5) 0) (b := 5) (by decide)
  omega
def wsum (ds : List Int) (n : Nat) : Int := ((List.range n).map (wts ds)).sum
theorem wsum_in (ds : List Int) : ∀ n : Nat, (n : Int) ≤ wsum ds n ∧ wsum ds n ≤ 5 * n ∧ ∀ k, k < n → wts ds k ≤ wsum ds n
  | 0 => by simp [wsum]
  | n + 1 => by
    obtain ⟨h1, h2, h3⟩ := wsum_in ds n
    have e : wsum ds (n + 1) = wsum ds n + wts ds n := by
      unfold wsum
      rw [List.range_succ, List.map_append, List.sum_append]; simp
    have hw := wts_in (ds := ds) n
    rw [e]
    refine ⟨by omega, by omega, fun k hk => ?_⟩
    rcases Nat.lt_succ_iff_lt_or_eq.mp hk with hk | rfl
    · have := h3 k hk; omega
    · omega
theorem intsOf_map (l : List Int) : intsOf (l.map D.int) = some l := by
  induction l with
  | nil => rfl
  | cons a l ih => simp [intsOf, ih]
theorem wts_fair (ds : List Int) {S : Int} (hS : S ≠ 0) : ∀ n : Nat, ((List.range n).map fun k => Rat.divInt (wts ds k) S).foldl (· + ·) 0 = Rat.divInt (wsum ds n) S
  | 0 => by simp [wsum]
  | n + 1 => by
    have e : wsum ds (n + 1) = wsum ds n + wts ds n := by
      unfold wsum
      rw [List.range_succ, List.map_append, List.sum_append]; simp
    rw [List.range_succ, List.map_append, List.foldl_append, wts_fair ds hS n, e]
    show Rat.divInt (wsum ds n) S + Rat.divInt (wts ds n) S = _
    rw [Rat.divInt_add_divInt _ _ hS hS, ← Int.add_mul, Rat.divInt_mul_right hS]
theorem wide_gain {x y : Int} (h : DrawOk x) (h2 : DrawOk y) : ∃ q, w__law_number [.fz (.int (x - 500)), .fz (.int (1 + y % 7))] = .ok (nC q) [] ∧ Inn 420 500 q := by
  obtain ⟨h0, h1⟩ := h
  obtain ⟨s1, s2, s3⟩ := small_num (n := x - 500) (d := 1 + y % 7) (by omega) (Int.lt_of_le_of_lt (b := 30) (by omega) (by decide))
  refine ⟨_, sp__law_number s1 s2 s3, ?_⟩
  have hd : 1 + y % 7 = 1 ∨ 1 + y % 7 = 2 ∨ 1 + y % 7 = 3 ∨ 1 + y % 7 = 4 ∨ 1 + y % 7 = 5 ∨ 1 + y % 7 = 6 ∨ 1 + y % 7 = 7 := by omega
  rcases hd with h | h | h | h | h | h | h <;> rw [h]
  · exact (Inn.of (M := 1) (B := 500) (by decide) (by omega)).dvd (by decide) (by decide)
  · exact (Inn.of (M := 2) (B := 500) (by decide) (by omega)).dvd (by decide) (by decide)
  · exact (Inn.of (M := 3) (B := 500) (by decide) (by omega)).dvd (by decide) (by decide)
  · exact (Inn.of (M := 4) (B := 500) (by decide) (by omega)).dvd (by decide) (by decide)
  · exact (Inn.of (M := 5) (B := 500) (by decide) (by omega)).dvd (by decide) (by decide)
  · exact (Inn.of (M := 6) (B := 500) (by decide) (by omega)).dvd (by decide) (by decide)
  · exact (Inn.of (M := 7) (B := 500) (by decide) (by omega)).dvd (by decide) (by decide)
theorem sp__law_placeF {ds : List Int} (hl : ds.length = 15) (h : ∀ i ∈ ds, DrawOk i) {m : Nat} (hm : 0 < m) : ∃ p, plOkG 420 500 m p ∧ plFair p ∧ w__law_place [.fz (.lst (ds.map .int)), .fz (.int m)] = .ok (.fz (plD p)) [] := by
  have A : ∀ j : Int, 0 ≤ j → j < 15 → atI (ds.map D.int) j = some (.int (ds.getD j.toNat 0)) ∧ DrawOk (ds.getD j.toNat 0) := fun j h0 h1 => atI_ds h h0 (by omega)
  have a0 := (A 0 (by decide) (by decide)).1
  have a1 := (A 1 (by decide) (by decide)).1
  have a2 := (A 2 (by decide) (by decide)).1
  have a14 := (A 14 (by decide) (by decide)).1
  have hd1 := (A 1 (by decide) (by decide)).2
  have hd14 := (A 14 (by decide) (by decide)).2
  generalize ds.getD (Int.toNat 0) 0 = x0 at a0
  generalize ds.getD (Int.toNat 1) 0 = x1 at a1 hd1
  generalize ds.getD (Int.toNat 2) 0 = x2 at a2
  generalize ds.getD (Int.toNat 14) 0 = x14 at a14 hd14
  obtain ⟨g, eg, g0, g6, g3⟩ := divs4 (j := x14 % 4) (Int.emod_nonneg _ (by decide)) (Int.emod_lt_of_pos _ (by decide))
  obtain ⟨n, en, n0, n6⟩ := sizes9 (j := x2 % 9) (Int.emod_nonneg _ (by decide)) (Int.emod_lt_of_pos _ (by decide))
  have hg : (g : Int) < 2 ^ 1000 := Int.lt_of_le_of_lt (b := 3) (by omega) (by decide)
  obtain ⟨s1, s2, s3⟩ := small_num (n := x1 % 15 - 5) (d := g) (by omega) hg
  have hgain := sp__law_number s1 s2 s3
  have hin := gain_in hd1 g0 g6 g3
  generalize Rat.divInt (x1 % 15 - 5) g = gn at hgain hin
  obtain ⟨gw, hgw, hinw⟩ := wide_gain hd1 hd14
  have hl4 : Nat.log2 4 < 9000 := by decide
  obtain ⟨gq, hinq, hc1, hc2⟩ : ∃ gq : Rat, Inn 420 500 gq ∧ (x14 / 4 % 8 = 7 → gq = gw) ∧ (¬ x14 / 4 % 8 = 7 → gq = gn) := by
    by_cases hw : x14 / 4 % 8 = 7
    · exact ⟨gw, hinw, fun _ => rfl, fun h => absurd hw h⟩
    · exact ⟨gn, (hin.dvd (by decide) (by decide)).le (by decide), fun h => absurd h hw, fun _ => rfl⟩
  have hr : r62 (n : Int) = true := by rw [r62_eq]; simp; omega
  have hmp : (0 : Int) < m := by omega
  let T : Nat → Nat := fun k => (ds.getD (3 + k) 0 % (m : Int)).toNat
  have hT : ∀ k, ((T k : Nat) : Int) = ds.getD (3 + k) 0 % (m : Int) := fun k => Int.toNat_of_nonneg (Int.emod_nonneg _ (by omega))
  have hTm : ∀ k, T k < m := fun k => by
    have := Int.emod_lt_of_pos (ds.getD (3 + k) 0) hmp
    have := hT k
    omega
  have l5 : ∀ c6 : C, lcL [7] (Tg.put (.nm 7)) bYes e__law_place_0 (intsD 0 n) [] [.fz (.lst (ds.map .int)), .fz (.int m), .fz (.int (x0 % 7)), nC gq, .fz (.int n), .no, c6, .no] = .ok ((List.range n).map fun k => .fz (.int (T k))) [.fz (.lst (ds.map .int)), .fz (.int m), .fz (.int (x0 % 7)), nC gq, .fz (.int n), .no, c6, .no] := fun c6 => by
    refine lcL_rng _ n _ (by omega) fun k hk => ?_
    have := (A (3 + k) (by omega) (by omega)).1
    have e3 : (3 + (k : Int)).toNat = 3 + k := by omega
    rw [e3] at this
    simp [this, hm, hT]
  have hsm : small n = true := by simp; omega
  by_cases hk : x0 % 7 < 3
  · have hW := wsum_in ds n
    have l6 : lcL [7] (Tg.put (.nm 7)) bYes e__law_place_1 (intsD 0 n) [] [.fz (.lst (ds.map .int)), .fz (.int m), .fz (.int (x0 % 7)), nC gq, .fz (.int n), .ow ((List.range n).map fun k => .fz (.int (T k))), .no, .no] = .ok ((List.range n).map fun k => .fz (.int (wts ds k))) [.fz (.lst (ds.map .int)), .fz (.int m), .fz (.int (x0 % 7)), nC gq, .fz (.int n), .ow ((List.range n).map fun k => .fz (.int (T k))), .no, .no] := by
      refine lcL_rng _ n _ (by omega) fun k hk => ?_
      have := (A (9 + (k % 5 : Nat)) (by omega) (by omega)).1
      have e3 : (9 + ((k % 5 : Nat) : Int)).toNat = 9 + k % 5 := by omega
      rw [e3] at this
      rw [Int.natCast_emod] at this
      simp at this
      simp [this, wts]
    have hsum : intsOf ((List.range n).map fun k => D.int (wts ds k)) = some ((List.range n).map (wts ds)) := by
      have := intsOf_map ((List.range n).map (wts ds))
      rwa [List.map_map] at this
    have hS1 : 0 < wsum ds n := by omega
    have hS2 : wsum ds n < 2 ^ 1000 := Int.lt_of_le_of_lt (b := 30) (by omega) (by decide)
    let P : Nat → Rat × Nat := fun k => (Rat.divInt (wts ds k) (wsum ds n), T k)
    have l7 : lcL [7] (Tg.put (.nm 7)) bYes e__law_place_2 (intsD 0 n) [] [.fz (.lst (ds.map .int)), .fz (.int m), .fz (.int (x0 % 7)), nC gq, .fz (.int n), .ow ((List.range n).map fun k => .fz (.int (T k))), .ow ((List.range n).map fun k => .fz (.int (wts ds k))), .no] = .ok ((List.range n).map fun k => .fz (brD (P k))) [.fz (.lst (ds.map .int)), .fz (.int m), .fz (.int (x0 % 7)), nC gq, .fz (.int n), .ow ((List.range n).map fun k => .fz (.int (T k))), .ow ((List.range n).map fun k => .fz (.int (wts ds k))), .no] := by
      refine lcL_rng _ n _ (by omega) fun k hk => ?_
      obtain ⟨s1, s2, s3⟩ := small_num (n := wts ds k) hS1 hS2
      have hc := sp__law_number s1 s2 s3
      have t1 : ∀ f : Nat → C, ((List.range n).map f)[k]? = some (f k) := fun f => by simp [hk]
      have hsum' := hsum
      unfold wsum at hc
      simp [atI_natCast, hk, hsum, Function.comp_def, hc, brD, P, wsum]
    refine ⟨.dr gq ((List.range n).map P), ⟨hinq, by simp; omega, by simpa using n6, fun b hb => ?_⟩, ⟨fun b hb => ?_, ?_⟩, ?_⟩
    · obtain ⟨k, hk, rfl⟩ := List.mem_map.mp hb
      have hk := List.mem_range.mp hk
      refine ⟨?_, hTm k⟩
      have e : wsum ds n = ((wsum ds n).toNat : Nat) := by omega
      show Inn LL 1 (Rat.divInt (wts ds k) (wsum ds n))
      rw [e]
      refine (Inn.of (B := 1) (by omega) ?_).dvd (dvd_LL (by omega) (by omega)) (by decide)
      have := hW.2.2 k hk
      have := wts_in (ds := ds) k
      omega
    · obtain ⟨k, hk, rfl⟩ := List.mem_map.mp hb
      have := wts_in (ds := ds) k
      exact (Rat.divInt_nonneg_iff_of_pos_right hS1).mpr (by omega)
    · rw [List.map_map]
      show ((List.range n).map fun k => Rat.divInt (wts ds k) (wsum ds n)).foldl (· + ·) 0 = (1 : Rat)
      rw [wts_fair ds (by omega) n, Rat.divInt_self' (by omega)]
    · by_cases hw : x14 / 4 % 8 = 7
      · have := hc1 hw
        subst this
        simp -implicitDefEqProofs [w__law_place, runDef, noEr, m__law_place, a0, a1, a2, a14, eg, en, hgain, hl4, hw, hgw, hr, l5, l6, l7, hk, plD, Function.comp_def]
      · have := hc2 hw
        subst this
        simp -implicitDefEqProofs [w__law_place, runDef, noEr, m__law_place, a0, a1, a2, a14, eg, en, hgain, hl4, hw, hr, l5, l6, l7, hk, plD, Function.comp_def]
  · have hk2 : ∃ o, atI [D.str "ours", .str "theirs"] (x0 % 7 % 2) = some (.str (sideS o)) := by
      have : x0 % 7 % 2 = 0 ∨ x0 % 7 % 2 = 1 := by omega
      rcases this with e | e <;> rw [e]
      · exact ⟨true, rfl⟩
      · exact ⟨false, rfl⟩
    obtain ⟨o, ho⟩ := hk2
    refine ⟨.ch gq o ((List.range n).map T), ⟨hinq, by simp; omega, by simpa using n6, fun b hb => ?_⟩, trivial, ?_⟩
    · obtain ⟨k, hk, rfl⟩ := List.mem_map.mp hb
      exact hTm k
    · by_cases hw : x14 / 4 % 8 = 7
      · have := hc1 hw
        subst this
        simp -implicitDefEqProofs [w__law_place, runDef, noEr, m__law_place, a0, a1, a2, a14, eg, en, hgain, hl4, hw, hgw, hr, l5, hk, ho, plD, Function.comp_def]
      · have := hc2 hw
        subst this
        simp -implicitDefEqProofs [w__law_place, runDef, noEr, m__law_place, a0, a1, a2, a14, eg, en, hgain, hl4, hw, hr, l5, hk, ho, plD, Function.comp_def]
theorem sp__law_place {ds : List Int} (hl : ds.length = 15) (h : ∀ i ∈ ds, DrawOk i) {m : Nat} (hm : 0 < m) : ∃ p, plOkG 420 500 m p ∧ w__law_place [.fz (.lst (ds.map .int)), .fz (.int m)] = .ok (.fz (plD p)) [] :=
  let ⟨p, h1, _, h3⟩ := sp__law_placeF hl h hm
  ⟨p, h1, h3⟩
/-- fifteen at a place -/
theorem cutL_eq {α : Type} (l : List α) (a b : Nat) (hb : b ≤ l.length) (h : a ≤ b) : cutL l (some (a : Int)) (some (b : Int)) = (l.drop a).take (b - a) := by
  unfold cutL
  rw [HT.sIx_nat, HT.sIx_nat, Nat.min_eq_left hb, Nat.min_eq_left (Nat.le_trans h hb)]
theorem sp__law_gameF {ds : List Int} {most : Nat} (hm : 0 < most) (hm2 : most ≤ 60) (hl : 15 * most + 1 ≤ ds.length) (h : ∀ i ∈ ds, DrawOk i) : ∃ ps : List Pl, 0 < ps.length ∧ ps.length ≤ most ∧ (∀ p ∈ ps, plOkG 420 500 ps.length p ∧ plFair p) ∧ w__law_game [.fz (.lst (ds.map .int)), .fz (.int most)] = .ok (.ow (ps.map fun p => .fz (plD p))) [] := by
  have a0 := (atI_ds h (j := 0) (by decide) (by omega)).1
  generalize ds.getD (Int.toNat 0) 0 = x0 at a0
  have hmp : (0 : Int) < most := by omega
  have b0 := Int.emod_nonneg x0 (b := most) (by omega)
  have b1 := Int.emod_lt_of_pos x0 hmp
  obtain ⟨n, hn⟩ : ∃ n : Nat, (n : Int) = 1 + x0 % (most : Int) := ⟨(1 + x0 % (most : Int)).toNat, by omega⟩
  have hn0 : 0 < n := by omega
  have hn1 : n ≤ most := by omega
  have hr : r62 (n : Int) = true := by rw [r62_eq]; simp; omega
  have key : ∀ k : Nat, ∃ p : Pl, k < n → (plOkG 420 500 n p ∧ plFair p) ∧ w__law_place [.fz (.lst (((ds.drop (1 + 15 * k)).take 15).map .int)), .fz (.int n)] = .ok (.fz (plD p)) [] := by
    intro k
    by_cases hk : k < n
    · obtain ⟨p, h1, h1', h2⟩ := sp__law_placeF (ds := (ds.drop (1 + 15 * k)).take 15) (by rw [List.length_take, List.length_drop]; omega) (fun i m => h i (List.mem_of_mem_drop (List.mem_of_mem_take m))) hn0
      exact ⟨p, fun _ => ⟨⟨h1, h1'⟩, h2⟩⟩
    · exact ⟨.ch 0 true [], fun z => absurd z hk⟩
  obtain ⟨P, hP⟩ := Classical.axiomOfChoice key
  have l1 : lcL [3] (Tg.put (.nm 3)) bYes e__law_game_0 (intsD 0 n) [] [.fz (.lst (ds.map .int)), .fz (.int most), .fz (.int n), .no] = .ok ((List.range n).map fun k => .fz (plD (P k))) [.fz (.lst (ds.map .int)), .fz (.int most), .fz (.int n), .no] := by
    refine lcL_rng _ n _ (by omega) fun k hk => ?_
    have hc := cutL_eq (ds.map D.int) (1 + 15 * k) (16 + 15 * k) (by rw [List.length_map]; omega) (by omega)
    rw [show 16 + 15 * k - (1 + 15 * k) = 15 by omega, ← List.map_drop, ← List.map_take] at hc
    simp only [Int.natCast_add, Int.natCast_mul, Int.cast_ofNat_Int] at hc
    have hp := (hP k hk).2
    have w1 : wide 15 (k : Int) = true := by
      unfold wide
      have : Nat.log2 15 < 60 := by decide
      simp [this]
    simp only [List.map_take, List.map_drop] at hp hc
    simp [w1, hc, hp, Function.comp_def]
  refine ⟨(List.range n).map P, by simpa using hn0, by simpa using hn1, ?_, ?_⟩
  · intro p m
    obtain ⟨k, hk, rfl⟩ := List.mem_map.mp m
    simpa using (hP k (List.mem_range.mp hk)).1
  · simp -implicitDefEqProofs [w__law_game, runDef, noEr, m__law_game, a0, hm, ← hn, hr, l1, Function.comp_def]
theorem sp__law_game {ds : List Int} {most : Nat} (hm : 0 < most) (hm2 : most ≤ 60) (hl : 15 * most + 1 ≤ ds.length) (h : ∀ i ∈ ds, DrawOk i) : ∃ ps : List Pl, 0 < ps.length ∧ ps.length ≤ most ∧ (∀ p ∈ ps, plOkG 420 500 ps.length p) ∧ w__law_game [.fz (.lst (ds.map .int)), .fz (.int most)] = .ok (.ow (ps.map fun p => .fz (plD p))) [] :=
  let ⟨ps, h1, h2, h3, h4⟩ := sp__law_gameF hm hm2 hl h
  ⟨ps, h1, h2, fun p m => (h3 p m).1, h4⟩
end Lw

namespace Dn
open PySem PySem.Spec PyProof.Rows L2
def Sz (M B : Nat) : Prop := M < 2 ^ 2600 ∧ B * M < 2 ^ 2600
theorem Inn.sz {M B : Nat} {a : Rat} (h : Inn M B a) (z : Sz M B) : Okq a := h.okq z.2 z.1
theorem Sz.le {M B B' : Nat} (z : Sz M B) (h : B' ≤ B) : Sz M B' := ⟨z.1, Nat.lt_of_le_of_lt (Nat.mul_le_mul_right _ h) z.2⟩
theorem Sz.dvd {M M' B : Nat} (z : Sz M B) (h : M' ∣ M) (hp : 0 < M) : Sz M' B := by
  have := Nat.le_of_dvd hp h
  exact ⟨Nat.lt_of_le_of_lt this z.1, Nat.lt_of_le_of_lt (Nat.mul_le_mul_left _ this) z.2⟩
theorem enumD_get {ds : List D} {i : Nat} {e : D} (h : (enumD ds)[i]? = some e) : ∃ d, ds[i]? = some d ∧ e = .tup [.int i, d] := by
  unfold enumD at h
  rw [List.getElem?_map, Option.map_eq_some_iff] at h
  obtain ⟨⟨d, n⟩, h1, rfl⟩ := h
  rw [List.getElem?_zipIdx, Option.map_eq_some_iff] at h1
  obtain ⟨d', h2, h3⟩ := h1
  cases h3
  exact ⟨_, h2, by simp⟩
@[simp] theorem enumD_len (ds : List D) : (enumD ds).length = ds.length := by
  simp [enumD]
end Dn
namespace Lw
open PySem PySem.Spec PyProof.Rows L2 Dn
/-! ### sums and choices -/
def sumF (a : Rat) (qs : List Rat) : Rat := qs.foldl (· + ·) a
theorem sumF_in {M B : Nat} : ∀ (qs : List Rat) (a : Rat) (B0 : Nat), (∀ q ∈ qs, Inn M B q) → Inn M B0 a → Inn M (B0 + qs.length * B) (sumF a qs)
  | [], a, B0, _, h => by simpa [sumF] using h
  | q :: qs, a, B0, h, h0 => by
    have := sumF_in qs (a + q) (B0 + B) (fun x m => h x (List.mem_cons_of_mem _ m)) (h0.add (h q List.mem_cons_self))
    simpa [sumF, Nat.succ_mul, Nat.add_assoc, Nat.add_comm, Nat.add_left_comm] using this
theorem total_loop {M B : Nat} (x : C) : ∀ (qs : List Rat) (a : Rat) (B0 : Nat) (o : C), (∀ q ∈ qs, Inn M B q) → Inn M B0 a → Sz M (B0 + qs.length * B) →
    ∃ o', forL (Tg.put (.nm 2)) b_total_0 (qs.map nD) [x, nC a, o] = .nx [x, nC (sumF a qs), o']
  | [], a, B0, o, _, _, _ => ⟨o, rfl⟩
  | q :: qs, a, B0, o, h, h0, z => by
    have hq := h q List.mem_cons_self
    have hs := h0.add hq
    have zz : Sz M (B0 + B) := z.le (by simp [Nat.succ_mul] <;> omega)
    have hp := sp_plus (h0.sz (zz.le (by omega))) (hq.sz (zz.le (by omega))) (hs.sz zz).2
    obtain ⟨o', e⟩ := total_loop x qs (a + q) (B0 + B) (.fz (nD q)) (fun x m => h x (List.mem_cons_of_mem _ m)) hs (z.le (by simp [Nat.succ_mul] <;> omega))
    refine ⟨o', ?_⟩
    rw [List.map_cons, forL_cons]
    have e' : sumF a (q :: qs) = sumF (a + q) qs := rfl
    rw [e', ← e]
    simp [hp]
theorem nC_zero : (.fz (.tup [.int 0, .int 1]) : C) = nC 0 := by simp
theorem sp_total {M B : Nat} {qs : List Rat} (h : ∀ q ∈ qs, Inn M B q) (hM : 0 < M) (z : Sz M (qs.length * B)) : w_total [.fz (.lst (qs.map nD))] = .ok (nC (sumF 0 qs)) [] := by
  obtain ⟨o', e⟩ := total_loop (.fz (.lst (qs.map nD))) qs 0 0 .no h (Inn.zero hM) (by simpa using z)
  rw [← nC_zero] at e
  simp -implicitDefEqProofs [w_total, runDef, noEr, m_total, e]
/-- the better of two -/
def btr (o : Bool) (a b : Rat) : Bool := if o then decide (a < b) else decide (b < a)
def pickS (o : Bool) (a b : Rat) : Rat := if btr o a b then b else a
def pickF (o : Bool) (a : Rat) (qs : List Rat) : Rat := qs.foldl (pickS o) a
theorem pickF_mem (o : Bool) : ∀ (qs : List Rat) (a : Rat), pickF o a qs = a ∨ pickF o a qs ∈ qs
  | [], a => .inl rfl
  | q :: qs, a => by
    have e : pickF o a (q :: qs) = pickF o (pickS o a q) qs := rfl
    rw [e]
    rcases pickF_mem o qs (pickS o a q) with h | h
    · rw [h]
      unfold pickS
      split
      · exact .inr List.mem_cons_self
      · exact .inl rfl
    · exact .inr (List.mem_cons_of_mem _ h)
end Lw

namespace Lw
open PySem PySem.Spec PyProof.Rows L2 Dn
/-! ### a step -/
def wAt (W : List Rat) (t : Nat) : Rat := W.getD t 0
def pick0 (o : Bool) : List Rat → Rat
  | [] => 0
  | q :: qs => pickF o q (q :: qs)
def drL (W : List Rat) (bs : List (Rat × Nat)) : List Rat := bs.map fun b => b.1 * wAt W b.2
def chL (W : List Rat) (ts : List Nat) : List Rat := ts.map (wAt W)
def restF (W : List Rat) : Pl → Rat
  | .dr _ bs => sumF 0 (drL W bs)
  | .ch _ o ts => pick0 o (chL W ts)
def gainF : Pl → Rat
  | .dr g _ => g
  | .ch g _ _ => g
def stepF (q : Rat) (W : List Rat) (p : Pl) : Rat := gainF p + q * restF W p
theorem wAt_mem {W : List Rat} {t : Nat} (h : t < W.length) : wAt W t ∈ W ∧ atI (W.map nD) (t : Int) = some (nD (wAt W t)) := by
  have e : wAt W t = W[t] := by unfold wAt; rw [List.getD_eq_getElem?_getD, List.getElem?_eq_getElem h]; rfl
  rw [e]
  refine ⟨List.getElem_mem h, ?_⟩
  rw [atI_natCast, List.getElem?_map, List.getElem?_eq_getElem h]; rfl
theorem pos_LL : 0 < LL := by decide
section
variable {m M B Mq : Nat} {q : Rat} {W : List Rat}
theorem drL_in (hW : ∀ w ∈ W, Inn M B w) {g : Rat} {bs : List (Rat × Nat)} (hp : plOk W.length (.dr g bs)) : ∀ x ∈ drL W bs, Inn (LL * M) B x := by
  intro x hx
  obtain ⟨b, hb, rfl⟩ := List.mem_map.mp hx
  obtain ⟨h1, h2⟩ := hp.2.2.2 b hb
  have := h1.mul (hW _ (wAt_mem h2).1)
  rwa [Nat.one_mul] at this
theorem chL_in (hW : ∀ w ∈ W, Inn M B w) {g : Rat} {o : Bool} {ts : List Nat} (hp : plOk W.length (.ch g o ts)) : ∀ x ∈ chL W ts, Inn M B x := by
  intro x hx
  obtain ⟨b, hb, rfl⟩ := List.mem_map.mp hx
  exact hW _ (wAt_mem (hp.2.2.2 b hb)).1
theorem rest_in (hW : ∀ w ∈ W, Inn M B w) (hM : 0 < M) {p : Pl} (hp : plOk W.length p) : Inn (LL * M) (6 * B) (restF W p) := by
  have hLM : 0 < LL * M := Nat.mul_pos pos_LL hM
  cases p with
  | dr g bs =>
    have := sumF_in (drL W bs) 0 0 (drL_in hW hp) (Inn.zero hLM)
    refine this.le ?_
    have := Nat.mul_le_mul_right B hp.2.2.1
    simpa [drL] using this
  | ch g o ts =>
    have hne := hp.2.1
    cases ts with
    | nil => exact absurd rfl hne
    | cons t ts =>
      have hh := chL_in hW hp
      have : pickF o (wAt W t) (chL W (t :: ts)) ∈ chL W (t :: ts) := by
        rcases pickF_mem o (chL W (t :: ts)) (wAt W t) with h | h
        · rw [h]; exact List.mem_cons_self
        · exact h
      exact ((hh _ this).dvd (Nat.dvd_mul_left M LL) hLM).le (by omega)
theorem gain_ok {m : Nat} {p : Pl} (hp : plOk m p) : Inn 6 9 (gainF p) := by cases p <;> exact hp.1
theorem step_in (hW : ∀ w ∈ W, Inn M B w) (hM : 0 < M) (hq : Inn Mq 1 q) {p : Pl} (hp : plOk W.length p) : Inn (Mq * (LL * M)) (6 * B) (q * restF W p) ∧ Inn (Mq * (LL * M)) (9 + 6 * B) (stepF q W p) := by
  have hr := rest_in hW hM hp
  have hqr := hq.mul hr
  rw [Nat.one_mul] at hqr
  have hg : Inn (Mq * (LL * M)) 9 (gainF p) := (gain_ok hp).dvd (Nat.dvd_mul_left_of_dvd (Nat.dvd_mul_right_of_dvd (by decide) M) Mq) hqr.1
  exact ⟨hqr, hg.add hqr⟩
/-- all that a step asks -/
structure StepOk (q : Rat) (W : List Rat) (M B Mq : Nat) : Prop where
  hW : ∀ w ∈ W, Inn M B w
  hM : 0 < M
  hq : Inn Mq 1 q
  z : Sz (Mq * (LL * M)) (9 + 6 * B)
theorem StepOk.z1 (s : StepOk q W M B Mq) : Sz (LL * M) (6 * B) := (s.z.dvd (Nat.dvd_mul_left _ _) (Nat.mul_pos s.hq.1 (Nat.mul_pos pos_LL s.hM))).le (by omega)
theorem StepOk.z0 (s : StepOk q W M B Mq) : Sz M B := (s.z1.dvd (Nat.dvd_mul_left _ _) (Nat.mul_pos pos_LL s.hM)).le (by omega)
theorem StepOk.okq (s : StepOk q W M B Mq) : Okq q := s.hq.sz ((s.z.dvd (Nat.dvd_mul_right _ _) (Nat.mul_pos s.hq.1 (Nat.mul_pos pos_LL s.hM))).le (by omega))
theorem n_draw_ours : (Str.ofString "ours" = Str.ofString "draw") = False := by decide
theorem n_draw_theirs : (Str.ofString "theirs" = Str.ofString "draw") = False := by decide
theorem n_draw (o : Bool) : (sideS o = Str.ofString "draw") = False := by cases o; exact n_draw_theirs; exact n_draw_ours
theorem mulL {s : StepOk q W M B Mq} {g : Rat} {bs : List (Rat × Nat)} (hp : plOk W.length (.dr g bs)) {b : Rat × Nat} (hb : b ∈ bs) : Okq b.1 ∧ Okq (wAt W b.2) ∧ (b.1 * wAt W b.2).den < 2 ^ 2600 := by
  obtain ⟨h1, h2⟩ := hp.2.2.2 b hb
  have hw := s.hW _ (wAt_mem h2).1
  have hpLM : 0 < LL * M := Nat.mul_pos pos_LL s.hM
  have zB : Sz (LL * M) B := s.z1.le (by omega)
  have zone : Sz LL 1 := ((s.z.dvd (Nat.dvd_mul_left_of_dvd (Nat.dvd_mul_right _ _) Mq) (Nat.mul_pos s.hq.1 hpLM)).le (by omega))
  refine ⟨h1.sz zone, hw.sz s.z0, ?_⟩
  have := h1.mul hw
  rw [Nat.one_mul] at this
  exact (this.sz zB).2
end
end Lw

namespace Lw
open PySem PySem.Spec PyProof.Rows L2 Dn
def tgsF : Pl → List Nat
  | .dr _ bs => bs.map (·.2)
  | .ch _ _ ts => ts
def kindS : Pl → Str
  | .dr _ _ => Str.ofString "draw"
  | .ch _ o _ => sideS o
def brsD : Pl → D
  | .dr _ bs => .lst (bs.map brD)
  | .ch _ _ ts => .lst (ts.map fun t => .int (t : Nat))
theorem plD_eq (p : Pl) : plD p = .tup [nD (gainF p), .str (kindS p), brsD p] := by cases p <;> rfl
theorem sp_targets {Mg Bg : Nat} {ps : List Pl} {m i : Nat} {p : Pl} (h : ps[i]? = some p) (hp : plOkG Mg Bg m p) : w_targets [.fz (.lst (ps.map plD)), .fz (.int i)] = .ok (.ow ((tgsF p).map fun t => .fz (.int (t : Nat)))) [] := by
  have hat : atI (ps.map plD) (i : Int) = some (plD p) := by rw [atI_natCast, List.getElem?_map, h]; rfl
  cases p with
  | dr g bs =>
    have l1 : lcL [5, 6] (Tg.put (.tup [(.nm 5), (.nm 6)])) bYes (eVar 6) (bs.map brD) [] [.fz (.lst (ps.map plD)), .fz (.int i), nC g, .fz (.str (Str.ofString "draw")), .fz (.lst (bs.map brD)), .no, .no] = .ok (bs.map fun b => .fz (.int (b.2 : Nat))) [.fz (.lst (ps.map plD)), .fz (.int i), nC g, .fz (.str (Str.ofString "draw")), .fz (.lst (bs.map brD)), .no, .no] := by
      refine lcL_getO _ brD _ bs (by have := hp.2.2.1; omega) fun b hb => ?_
      simp [brD]
    simp -implicitDefEqProofs [w_targets, runDef, noEr, m_targets, hat, plD, l1, tgsF, Function.comp_def]
  | ch g o ts =>
    simp -implicitDefEqProofs [w_targets, runDef, noEr, m_targets, hat, plD, tgsF, n_draw, Function.comp_def]
section
variable {m M B Mq : Nat} {q : Rat} {W : List Rat}
theorem tgs_ok {Mg Bg : Nat} {p : Pl} (hp : plOkG Mg Bg m p) : (tgsF p).length ≤ 6 ∧ ∀ t ∈ tgsF p, t < m := by
  cases p with
  | dr g bs =>
    refine ⟨by simpa [tgsF] using hp.2.2.1, fun t ht => ?_⟩
    obtain ⟨b, hb, rfl⟩ := List.mem_map.mp ht
    exact (hp.2.2.2 b hb).2
  | ch g o ts => exact ⟨hp.2.2.1, hp.2.2.2⟩
/-- a step of all -/
def stepAll (q : Rat) (W : List Rat) (ps : List Pl) : List Rat := ps.map (stepF q W)
end
end Lw

namespace Lw
open PySem PySem.Spec PyProof.Rows L2 Dn
theorem boolsOf_true {α : Type} : ∀ l : List α, boolsOf (l.map fun _ => D.bl true) = some (l.map fun _ => true)
  | [] => rfl
  | n :: l => by simp [boolsOf, boolsOf_true l]
/-- the worths after so many steps -/
def wts0 (q : Rat) (ps : List Pl) : Nat → List Rat
  | 0 => ps.map fun _ => 0
  | t + 1 => stepAll q (wts0 q ps t) ps
theorem wts0_len (q : Rat) (ps : List Pl) : ∀ t, (wts0 q ps t).length = ps.length
  | 0 => by simp [wts0]
  | t + 1 => by simp [wts0, stepAll]
def Bt : Nat → Nat
  | 0 => 0
  | t + 1 => 9 + 6 * Bt t
def Mt (Mq : Nat) : Nat → Nat
  | 0 => 1
  | t + 1 => Mq * (LL * Mt Mq t)
theorem Mt_pos {Mq : Nat} (h : 0 < Mq) : ∀ t, 0 < Mt Mq t
  | 0 => by simp [Mt]
  | t + 1 => Nat.mul_pos h (Nat.mul_pos pos_LL (Mt_pos h t))
theorem wts0_in {q : Rat} {Mq : Nat} (hq : Inn Mq 1 q) {ps : List Pl} (hp : ∀ p ∈ ps, plOk ps.length p) : ∀ t, ∀ w ∈ wts0 q ps t, Inn (Mt Mq t) (Bt t) w
  | 0 => by
    intro w hw
    obtain ⟨_, _, rfl⟩ := List.mem_map.mp hw
    exact Inn.zero (by simp [Mt])
  | t + 1 => by
    intro w hw
    obtain ⟨p, hm, rfl⟩ := List.mem_map.mp hw
    exact (step_in (wts0_in hq hp t) (Mt_pos hq.1 t) hq (by rw [wts0_len]; exact hp p hm)).2
theorem Mt_le {Mq : Nat} (h : Mq ≤ 1000001) : ∀ t, Mt Mq t ≤ (1000001 * LL) ^ t
  | 0 => by simp [Mt]
  | t + 1 => by
    have := Mt_le h t
    rw [Nat.pow_succ, Nat.mul_comm]
    simp only [Mt]
    rw [← Nat.mul_assoc]
    exact Nat.mul_le_mul (Nat.mul_le_mul_right _ h) this
theorem Mt_mono {Mq : Nat} (h : 0 < Mq) : ∀ {s t : Nat}, s ≤ t → Mt Mq s ≤ Mt Mq t := by
  intro s t hst
  induction hst with
  | refl => exact Nat.le_refl _
  | step _ ih =>
    refine Nat.le_trans ih ?_
    simp only [Mt]
    rw [← Nat.mul_assoc]
    exact Nat.le_mul_of_pos_left _ (Nat.mul_pos h pos_LL)
theorem Bt_mono : ∀ {s t : Nat}, s ≤ t → Bt s ≤ Bt t := by
  intro s t hst
  induction hst with
  | refl => exact Nat.le_refl _
  | step _ ih => simp only [Bt]; omega
theorem big40 : Bt 40 * (1000001 * LL) ^ 40 < 2 ^ 2600 := by decide +kernel
theorem big40' : (1000001 * LL) ^ 40 < 2 ^ 2600 := by decide +kernel
theorem sz_t {Mq : Nat} (h0 : 0 < Mq) (h : Mq ≤ 1000001) {t : Nat} (ht : t ≤ 40) : Sz (Mt Mq t) (Bt t) := by
  have h1 := Mt_mono h0 ht
  have h2 := Mt_le h 40
  have h3 := Bt_mono ht
  exact ⟨Nat.lt_of_le_of_lt (Nat.le_trans h1 h2) big40', Nat.lt_of_le_of_lt (Nat.mul_le_mul h3 (Nat.le_trans h1 h2)) big40⟩
theorem stepOk_t {q : Rat} {Mq : Nat} (hq : Inn Mq 1 q) (h : Mq ≤ 1000001) {ps : List Pl} (hp : ∀ p ∈ ps, plOk ps.length p) {t : Nat} (ht : t < 40) : StepOk q (wts0 q ps t) (Mt Mq t) (Bt t) Mq :=
  ⟨wts0_in hq hp t, Mt_pos hq.1 t, hq, sz_t hq.1 h (t := t + 1) (by omega)⟩
/-! ### what may be shown -/
theorem shw_side (o : Bool) : Shw 0 64 (.str (sideS o)) := by cases o <;> exact .str (by decide +kernel) (by decide +kernel)
theorem shw_pl {Mg Bg m : Nat} (hm : m ≤ 1000) {p : Pl} (hp : plOkG Mg Bg m p) (hM : Mg ≤ 1000000 := by decide) (hB : Bg * Mg ≤ 100000000 := by decide) : Shw 4 5000 (plD p) := by
  have e : (10 : Nat) ^ 19 = 10000000000000000000 := by decide
  have eL : LL = 2329089562800 := rfl
  have hg : Shw 1 130 (nD (gainF p)) := by
    have h : Inn Mg Bg (gainF p) := by cases p <;> exact hp.1
    have h1 := h.num
    have h2 := h.den
    exact .nD (by omega) (by omega)
  have hb : Shw 3 1590 (brsD p) := by
    cases p with
    | dr g bs =>
      have hb : ∀ d ∈ bs.map brD, Shw 2 262 d := by
        intro d m
        obtain ⟨b, hb, rfl⟩ := List.mem_map.mp m
        obtain ⟨h1, h2⟩ := hp.2.2.2 b hb
        have e1 := h1.num
        have e2 := h1.den
        have a1 : Shw 1 130 (nD b.1) := .nD (by omega) (by omega)
        have a2 : Shw 1 130 (.int (b.2 : Nat)) := (Shw.int (by simp; omega)).le (by decide) (by decide)
        refine Shw.tup (l := 2) (w := 130) (fun d m => ?_) (by simp)
        simp at m
        rcases m with rfl | rfl
        · exact a1
        · exact a2
      exact (Shw.lst hb (l := 6) (by simpa using hp.2.2.1)).le (by decide) (by decide)
    | ch g o ts =>
      have hb : ∀ d ∈ ts.map (fun t => D.int (t : Nat)), Shw 0 64 d := by
        intro d m
        obtain ⟨b, hb, rfl⟩ := List.mem_map.mp m
        have := hp.2.2.2 b hb
        exact Shw.int (by simp; omega)
      exact (Shw.lst hb (l := 6) (by simpa using hp.2.2.1)).le (by decide) (by decide)
  have hk : Shw 0 64 (.str (kindS p)) := by
    cases p with
    | dr g bs => exact (Shw.str (s := Str.ofString "draw") (by decide +kernel) (by decide +kernel) : Shw 0 64 (.str (Str.ofString "draw")))
    | ch g o ts => exact shw_side o
  rw [plD_eq]
  refine (Shw.tup (l := 3) (w := 1590) (n := 3) (fun d m => ?_) (by simp)).le (by decide) (by decide)
  simp only [List.mem_cons, List.not_mem_nil, or_false] at m
  rcases m with rfl | rfl | rfl
  · exact hg.le (by decide) (by decide)
  · exact hk.le (by decide) (by decide)
  · exact hb
theorem repr_game {Mg Bg m : Nat} (hm : m ≤ 1000) {ps : List Pl} (hl : ps.length ≤ 60) (hp : ∀ p ∈ ps, plOkG Mg Bg m p) (hM : Mg ≤ 1000000 := by decide) (hB : Bg * Mg ≤ 100000000 := by decide) : ∃ s, reprD (.lst (ps.map plD)) = some (.str s) := by
  refine reprD_lst (n := 5) (w := 60 * 5001) (Shw.lst (fun d m => ?_) (by simpa using hl))
  obtain ⟨p, h, rfl⟩ := List.mem_map.mp m
  exact shw_pl hm (hp p h) hM hB
end Lw

namespace Lw
open PySem PySem.Spec PyProof.Rows L2 Dn
/-! ### steps without a discount -/
theorem pickS_self (o : Bool) (q : Rat) : pickS o q q = q := by unfold pickS; split <;> rfl
theorem pick0_cons (o : Bool) (q : Rat) (qs : List Rat) : pick0 o (q :: qs) = pickF o q qs := by
  show pickF o (pickS o q q) qs = _
  rw [pickS_self]
theorem cutL_tail {α : Type} (a : α) (l : List α) : cutL (a :: l) (some 1) none = l := by
  unfold cutL
  rw [HT.sIx_none, show (some (1 : Int)) = some ((1 : Nat) : Int) from rfl, HT.sIx_nat]
  have : min 1 (a :: l).length = 1 := by simp
  rw [this]
  simp
section
variable {M B Mq : Nat} {q : Rat} {W : List Rat}
theorem unit_ok {ps : List Pl} {p : Pl} (s : StepOk 1 W M B 1) (hp : plOk W.length p) : Okq (gainF p) ∧ Okq (restF W p) ∧ Okq (gainF p + restF W p) ∧ gainF p + restF W p = stepF 1 W p := by
  obtain ⟨t1, t2⟩ := step_in s.hW s.hM s.hq hp
  have hgain : Okq (gainF p) := (gain_ok hp).sz ((s.z.dvd (Nat.dvd_mul_left_of_dvd (Nat.dvd_mul_right_of_dvd (by decide) M) 1) (Nat.mul_pos s.hq.1 (Nat.mul_pos pos_LL s.hM))).le (by omega))
  have e : gainF p + restF W p = stepF 1 W p := by unfold stepF; rw [Rat.one_mul]
  exact ⟨hgain, (rest_in s.hW s.hM hp).sz s.z1, e ▸ t2.sz s.z, e⟩
end
/-- after so many steps from S -/
def wU (S : List Rat) (ps : List Pl) : Nat → List Rat
  | 0 => S
  | t + 1 => stepAll 1 (wU S ps t) ps
def BU (B0 : Nat) : Nat → Nat
  | 0 => B0
  | t + 1 => 9 + 6 * BU B0 t
def MU (M0 : Nat) : Nat → Nat
  | 0 => M0
  | t + 1 => 1 * (LL * MU M0 t)
/-- a row to begin with -/
structure StartOk (S : List Rat) (ps : List Pl) (M0 B0 : Nat) : Prop where
  len : S.length = ps.length
  small : ps.length ≤ 1000
  hS : ∀ w ∈ S, Inn M0 B0 w
  hM : 0 < M0
  hp : ∀ p ∈ ps, plOk ps.length p
  z : ∀ t, t ≤ 31 → Sz (MU M0 t) (BU B0 t)
section
variable {S : List Rat} {ps : List Pl} {M0 B0 : Nat}
theorem StartOk.lenU (s : StartOk S ps M0 B0) : ∀ t, (wU S ps t).length = ps.length
  | 0 => s.len
  | t + 1 => by simp [wU, stepAll]
theorem StartOk.posU (s : StartOk S ps M0 B0) : ∀ t, 0 < MU M0 t
  | 0 => s.hM
  | t + 1 => by simp only [MU]; exact Nat.mul_pos (by decide) (Nat.mul_pos pos_LL (s.posU t))
theorem StartOk.inU (s : StartOk S ps M0 B0) : ∀ t, ∀ w ∈ wU S ps t, Inn (MU M0 t) (BU B0 t) w
  | 0 => s.hS
  | t + 1 => by
    intro w hw
    obtain ⟨p, hm, rfl⟩ := List.mem_map.mp hw
    exact (step_in (s.inU t) (s.posU t) ⟨by decide, 1, by rfl, by decide⟩ (by rw [s.lenU]; exact s.hp p hm)).2
theorem StartOk.stp (s : StartOk S ps M0 B0) {t : Nat} (ht : t ≤ 30) : StepOk 1 (wU S ps t) (MU M0 t) (BU B0 t) 1 := ⟨s.inU t, s.posU t, ⟨by decide, 1, by rfl, by decide⟩, s.z (t + 1) (by omega)⟩
theorem StartOk.okU (s : StartOk S ps M0 B0) {t : Nat} (ht : t ≤ 31) : ∀ w ∈ wU S ps t, Okq w := fun w m => (s.inU t w m).sz (s.z t ht)
end
end Lw

namespace Lw
open PySem PySem.Spec PyProof.Rows L2 Dn
theorem run_ok {N n : Nat} {m : SM} {cs : List C} {c : C} (h : m (cs ++ List.replicate (N - n) .no) = .rt c) : noEr (runDef N n m) cs = .ok c [] := by
  unfold noEr runDef; rw [h]
theorem run_ok0 {N n : Nat} {m : SM} {cs : List C} {c : C} (h : m (cs ++ List.replicate (N - n) .no) = .rt c) : runDef N n m cs = .ok c [] := by
  unfold runDef; rw [h]
section
variable {S : List Rat} {ps : List Pl} {M0 B0 : Nat}
theorem wU_succ (a i : Nat) : wU S ps (a + (i + 1)) = stepAll 1 (wU S ps (a + i)) ps := rfl
def WfI (S : List Rat) (ps : List Pl) (a t : Nat) (i : Nat) (ρ : Rho) : Prop := ∃ c4 : C, ρ = [.fz (.lst (ps.map plD)), .fz (.lst ((wU S ps a).map nD)), .fz (.int t), .ow ((wU S ps (a + i)).map nC), c4]
theorem r62_nat {t : Nat} (h : t ≤ 100000) : r62 (t : Int) = true := by rw [r62_eq]; simp; omega
end
end Lw

namespace Lw
open PySem PySem.Spec PyProof.Rows L2 Dn
/-! ### the same kinds and values throughout -/
inductive Dat : Nat → D → Prop
  | non (n : Nat) : Dat n .non
  | bl (n : Nat) (b : Bool) : Dat n (.bl b)
  | int (n : Nat) (i : Int) : Dat n (.int i)
  | str (n : Nat) (s : Str) : Dat n (.str s)
  | lst {n : Nat} {ds : List D} : (∀ d ∈ ds, Dat n d) → ds.length ≤ 1000 → Dat (n + 1) (.lst ds)
  | tup {n : Nat} {ds : List D} : (∀ d ∈ ds, Dat n d) → ds.length ≤ 1000 → Dat (n + 1) (.tup ds)
theorem boolsOf_true' {α : Type} : ∀ l : List α, boolsOf (l.map fun _ => D.bl true) = some (l.map fun _ => true)
  | [] => rfl
  | n :: l => by simp [boolsOf, boolsOf_true' l]
theorem same_ok : ∀ (m n : Nat) (d : D), Dat n d → n < m → wn__law_same m [.fz d, .fz d] = .ok (.fz (.bl true)) []
  | 0, _, _, _, h => absurd h (by omega)
  | m + 1, n, d, hd, hn => by
    refine run_ok ?_
    have b1 : ∀ b : Bool, isN (.bl b) .non = some (.bl false) := fun b => rfl
    have b2 : ∀ b : Int, isN (.int b) .non = some (.bl false) := fun b => rfl
    have b3 : ∀ b : Str, isN (.str b) .non = some (.bl false) := fun b => rfl
    have b4 : ∀ b : List D, isN (.lst b) .non = some (.bl false) := fun b => rfl
    have b5 : ∀ b : List D, isN (.tup b) .non = some (.bl false) := fun b => rfl
    cases hd with
    | non => simp -implicitDefEqProofs [m__law_same]
    | bl _ b => simp -implicitDefEqProofs [m__law_same, b1, isiD, ofTy, isTy]
    | int _ i => simp -implicitDefEqProofs [m__law_same, b2, isiD, ofTy, isTy]
    | str _ s => simp -implicitDefEqProofs [m__law_same, b3, isiD, ofTy, isTy]
    | @lst n ds h hl =>
      have hr : r62 (ds.length : Int) = true := by rw [r62_eq]; simp; omega
      have l1 : lcL [2] (Tg.put (.nm 2)) bYes (e__law_same_0 (wn__law_same m)) (intsD 0 ds.length) [] [.fz (.lst ds), .fz (.lst ds), .no] = .ok ((List.range ds.length).map fun _ => .fz (.bl true)) [.fz (.lst ds), .fz (.lst ds), .no] := by
        refine lcL_rng _ ds.length _ (by omega) fun k hk => ?_
        have hat : atI ds (k : Int) = some ds[k] := by rw [atI_natCast]; exact List.getElem?_eq_getElem hk
        have ih := same_ok m n ds[k] (h _ (List.getElem_mem hk)) (by omega)
        simp -implicitDefEqProofs [hat, ih]
      have hb := boolsOf_true' (List.range ds.length)
      simp -implicitDefEqProofs [m__law_same, b4, isiD, ofTy, isTy, hr, l1, hb, Function.comp_def]
    | @tup n ds h hl =>
      have hr : r62 (ds.length : Int) = true := by rw [r62_eq]; simp; omega
      have l1 : lcL [2] (Tg.put (.nm 2)) bYes (e__law_same_0 (wn__law_same m)) (intsD 0 ds.length) [] [.fz (.tup ds), .fz (.tup ds), .no] = .ok ((List.range ds.length).map fun _ => .fz (.bl true)) [.fz (.tup ds), .fz (.tup ds), .no] := by
        refine lcL_rng _ ds.length _ (by omega) fun k hk => ?_
        have hat : atI ds (k : Int) = some ds[k] := by rw [atI_natCast]; exact List.getElem?_eq_getElem hk
        have ih := same_ok m n ds[k] (h _ (List.getElem_mem hk)) (by omega)
        simp -implicitDefEqProofs [hat, ih]
      have hb := boolsOf_true' (List.range ds.length)
      simp -implicitDefEqProofs [m__law_same, b5, isiD, ofTy, isTy, hr, l1, hb, Function.comp_def]
theorem sp__law_same {n : Nat} {d : D} (h : Dat n d) (hn : n < 6) : w__law_same [.fz d, .fz d] = .ok (.fz (.bl true)) [] := same_ok 6 n d h hn
theorem dat_nD (q : Rat) : Dat 1 (nD q) := .tup (fun d m => by
  simp only [List.mem_cons, List.not_mem_nil, or_false] at m
  rcases m with rfl | rfl
  · exact .int _ _
  · exact .int _ _) (by simp)
theorem Dat.le {n n' : Nat} {d : D} (h : Dat n d) (hn : n ≤ n') : Dat n' d := by
  induction h generalizing n' with
  | non => exact .non _
  | bl => exact .bl _ _
  | int => exact .int _ _
  | str => exact .str _ _
  | lst _ hl ih =>
    obtain ⟨m, rfl⟩ : ∃ m, n' = m + 1 := ⟨n' - 1, by omega⟩
    exact .lst (fun d m => ih d m (by omega)) hl
  | tup _ hl ih =>
    obtain ⟨m, rfl⟩ : ∃ m, n' = m + 1 := ⟨n' - 1, by omega⟩
    exact .tup (fun d m => ih d m (by omega)) hl
theorem dat_pl {Mg Bg m : Nat} {p : Pl} (hp : plOkG Mg Bg m p) : Dat 4 (plD p) := by
  have key : ∀ (g : Rat) (s : Str) (b : List D), (∀ d ∈ b, Dat 2 d) → b.length ≤ 1000 → Dat 4 (.tup [nD g, .str s, .lst b]) := fun g s b hb hl => .tup (fun d m => by
    simp only [List.mem_cons, List.not_mem_nil, or_false] at m
    rcases m with rfl | rfl | rfl
    · exact (dat_nD g).le (by decide)
    · exact .str _ _
    · exact .lst hb hl) (by simp)
  cases p with
  | dr g bs => exact key _ _ _ (fun d m => by
      obtain ⟨b, _, rfl⟩ := List.mem_map.mp m
      exact .tup (fun d m => by
        simp only [List.mem_cons, List.not_mem_nil, or_false] at m
        rcases m with rfl | rfl
        · exact dat_nD _
        · exact .int _ _) (by simp)) (by have := hp.2.2.1; simp; omega)
  | ch g o ts => exact key _ _ _ (fun d m => by
      obtain ⟨b, _, rfl⟩ := List.mem_map.mp m
      exact .int _ _) (by have := hp.2.2.1; simp; omega)
theorem dat_game {Mg Bg m : Nat} {ps : List Pl} (hp : ∀ p ∈ ps, plOkG Mg Bg m p) (hl : ps.length ≤ 1000) : Dat 5 (.lst (ps.map plD)) := .lst (fun d m => by
  obtain ⟨p, h, rfl⟩ := List.mem_map.mp m
  exact dat_pl (hp p h)) (by simpa using hl)
end Lw

namespace Lw
open PySem PySem.Spec PyProof.Rows L2 Dn
/-! ### strategies (S21) -/
def optD : Option Nat → D
  | none => .non
  | some n => .int (n : Nat)
/-- what a strategy tells at a place -/
def okS (o : Bool) : Pl → Option Nat → Prop
  | .dr _ _, x => x = none
  | .ch _ o' ts, x => if o' = o then ∃ j, x = some j ∧ j < ts.length else x = none
def stratOk (o : Bool) (ps : List Pl) (st : List (Option Nat)) : Prop := st.length = ps.length ∧ ∀ (k : Nat) (p : Pl) (x : Option Nat), ps[k]? = some p → st[k]? = some x → okS o p x
theorem side_eq (a b : Bool) : (sideS a = sideS b) = (a = b) := by cases a <;> cases b <;> simp [sideS] <;> decide
theorem n_draw' (o : Bool) : (Str.ofString "draw" = sideS o) = False := by cases o <;> simp [sideS] <;> decide
end Lw
namespace Lw
open PySem PySem.Spec PyProof.Rows L2 Dn
/-! ### ways (S21) -/
theorem sp__law_targets {p : Pl} {m Mg Bg : Nat} (hp : plOkG Mg Bg m p) : w__law_targets [.fz (plD p)] = .ok (.ow ((tgsF p).map fun t => .fz (.int (t : Nat)))) [] := by
  refine run_ok ?_
  cases p with
  | dr g bs =>
    have l1 : lcL [1, 2] (Tg.put (.tup [(.nm 1), (.nm 2)])) bYes (eVar 2) (bs.map brD) [] [.fz (plD (.dr g bs)), .no, .no] = .ok (bs.map fun b => .fz (.int (b.2 : Nat))) [.fz (plD (.dr g bs)), .no, .no] := by
      refine lcL_getO _ brD _ bs (by have := hp.2.2.1; omega) fun b hb => ?_
      simp [brD]
    simp only [plD] at l1
    simp -implicitDefEqProofs [m__law_targets, plD, l1, tgsF, Function.comp_def]
  | ch g o ts => simp -implicitDefEqProofs [m__law_targets, plD, tgsF, n_draw, Function.comp_def]
def tgt (ps : List Pl) (i b : Nat) : Nat := match ps[i]? with
  | some p => (tgsF p).getD b 0
  | none => 0
/-- the places after the start -/
def goF (ps : List Pl) : Nat → List Nat → List Nat
  | _, [] => []
  | i, b :: bs => tgt ps i b :: goF ps (tgt ps i b) bs
def endF (ps : List Pl) : Nat → List Nat → Nat
  | i, [] => i
  | i, b :: bs => endF ps (tgt ps i b) bs
def WayOk (ps : List Pl) : Nat → List Nat → Prop
  | i, [] => i < ps.length
  | i, b :: bs => ∃ p, ps[i]? = some p ∧ b < (tgsF p).length ∧ WayOk ps (tgt ps i b) bs
theorem goF_len (ps : List Pl) : ∀ (bs : List Nat) (i : Nat), (goF ps i bs).length = bs.length
  | [], _ => rfl
  | b :: bs, i => by simp [goF, goF_len ps bs]
@[simp] theorem eChain_ap (f g : D → D → Option D) (a b c : M C) (ρ : Rho) : eChain f g a b c ρ = (a ρ).bind fun x ρ => (b ρ).bind fun y ρ => match f (fzD x) (fzD y) with
  | some (.bl true) => (c ρ).bind fun z ρ => match g (fzD y) (fzD z) with
    | some (.bl k) => .ok (.fz (.bl k)) ρ
    | _ => .st
  | some (.bl false) => .ok (.fz (.bl false)) ρ
  | _ => .st := rfl
def iC (n : Nat) : C := .fz (.int (n : Nat))
theorem goF_last (ps : List Pl) : ∀ (bs : List Nat) (i : Nat) (acc : List C), ∃ acc', acc ++ [iC i] ++ (goF ps i bs).map iC = acc' ++ [iC (endF ps i bs)]
  | [], i, acc => ⟨acc, by simp [goF, endF]⟩
  | b :: bs, i, acc => by
    obtain ⟨acc', e⟩ := goF_last ps bs (tgt ps i b) (acc ++ [iC i])
    exact ⟨acc', by rw [show endF ps i (b :: bs) = endF ps (tgt ps i b) bs from rfl, ← e]; simp [goF]⟩
theorem WayOk.end {ps : List Pl} : ∀ {bs : List Nat} {i : Nat}, WayOk ps i bs → endF ps i bs < ps.length
  | [], _, h => h
  | _ :: bs, _, ⟨_, _, _, h⟩ => WayOk.end (bs := bs) h
theorem WayOk.start {ps : List Pl} : ∀ {bs : List Nat} {i : Nat}, WayOk ps i bs → i < ps.length
  | [], _, h => h
  | _ :: _, _, ⟨_, h, _⟩ => (List.getElem?_eq_some_iff.mp h).1
theorem WayOk.take {ps : List Pl} : ∀ {bs : List Nat} {i : Nat} (n : Nat), WayOk ps i bs → WayOk ps i (bs.take n)
  | _, _, 0, h => h.start
  | [], _, _ + 1, h => h
  | _ :: bs, _, n + 1, ⟨p, h1, h2, h3⟩ => ⟨p, h1, h2, WayOk.take (bs := bs) n h3⟩
theorem tgt_eq {ps : List Pl} {i b : Nat} {p : Pl} (h : ps[i]? = some p) (hb : b < (tgsF p).length) : (tgsF p)[b]? = some (tgt ps i b) := by
  unfold tgt
  rw [h]
  simp [List.getD_eq_getElem?_getD, List.getElem?_eq_getElem hb]
def enumT (t : Nat) (ds : List D) : List D := (ds.zipIdx t).map fun p => .tup [.int (p.2 : Nat), p.1]
theorem enumT_cons (t : Nat) (d : D) (ds : List D) : enumT t (d :: ds) = .tup [.int (t : Nat), d] :: enumT (t + 1) ds := by simp [enumT]
section
variable {Mg Bg : Nat} {ps : List Pl}
theorem walk_loop (pok : ∀ p ∈ ps, plOkG Mg Bg ps.length p) (x1 x2 x3 : C) (rest : List D) : ∀ (js : List Nat) (i t : Nat) (acc : List C) (c5 c6 c7 : C), WayOk ps i js → acc.length + js.length ≤ 900000 →
    ∃ c5' c6' c7', forL (Tg.put (.tup [(.nm 5), (.nm 6)])) b_walk_0 (enumT t (js.map (fun b => D.int (b : Nat)) ++ rest)) [.fz (.lst (ps.map plD)), x1, x2, x3, .ow (acc ++ [iC i]), c5, c6, c7] =
      forL (Tg.put (.tup [(.nm 5), (.nm 6)])) b_walk_0 (enumT (t + js.length) rest) [.fz (.lst (ps.map plD)), x1, x2, x3, .ow (acc ++ [iC i] ++ (goF ps i js).map iC), c5', c6', c7']
  | [], i, t, acc, c5, c6, c7, _, _ => ⟨c5, c6, c7, by simp [goF]⟩
  | b :: js, i, t, acc, c5, c6, c7, ⟨p, h1, h2, h3⟩, hl => by
    obtain ⟨c5', c6', c7', e⟩ := walk_loop pok x1 x2 x3 rest js (tgt ps i b) (t + 1) (acc ++ [iC i]) (.fz (.int (t : Nat))) (iC b) (.ow ((tgsF p).map fun t => .fz (.int (t : Nat)))) h3 (by simp at hl ⊢; omega)
    refine ⟨c5', c6', c7', ?_⟩
    have ht := sp_targets h1 (pok p (List.mem_of_getElem? h1))
    have hat : atI ((tgsF p).map fun t : Nat => (C.fz (.int (t : Nat)))) (b : Int) = some (iC (tgt ps i b)) := by
      rw [atI_natCast, List.getElem?_map, tgt_eq h1 h2]; rfl
    have hsm : acc.length + 1 ≤ 1000000 := by simp at hl; omega
    rw [List.map_cons, List.cons_append, enumT_cons, forL_cons, show t + (b :: js).length = t + 1 + js.length by simp; omega]
    simp only [goF, List.map_cons]
    rw [show acc ++ [iC i] ++ iC (tgt ps i b) :: (goF ps (tgt ps i b) js).map iC = acc ++ [iC i] ++ [iC (tgt ps i b)] ++ (goF ps (tgt ps i b) js).map iC by simp, ← e]
    simp -implicitDefEqProofs [iC, ht, hat, h2, hsm]
/-- a way that holds -/
theorem sp_walk (pok : ∀ p ∈ ps, plOkG Mg Bg ps.length p) {s first : Nat} {js : List Nat} (hw : WayOk ps s js) (hl : js.length ≤ 1000) :
    w_walk [.fz (.lst (ps.map plD)), .fz (.int (s : Nat)), .fz (.lst (js.map fun b => D.int (b : Nat))), .fz (.int (first : Nat))] = .ok (.ow ((s :: goF ps s js).map iC)) [] := by
  obtain ⟨c5, c6, c7, e⟩ := walk_loop pok (.fz (.int (s : Nat))) (.fz (.lst (js.map fun b => D.int (b : Nat)))) (.fz (.int (first : Nat))) [] js s 0 [] .no .no .no hw (by simp; omega)
  simp only [List.append_nil, List.nil_append] at e
  have e' : forL (Tg.put (.tup [(.nm 5), (.nm 6)])) b_walk_0 (enumD (js.map fun b => D.int (b : Nat))) [.fz (.lst (ps.map plD)), .fz (.int (s : Nat)), .fz (.lst (js.map fun b => D.int (b : Nat))), .fz (.int (first : Nat)), .ow [.fz (.int (s : Nat))], .no, .no, .no] = .nx [.fz (.lst (ps.map plD)), .fz (.int (s : Nat)), .fz (.lst (js.map fun b => D.int (b : Nat))), .fz (.int (first : Nat)), .ow ([iC s] ++ (goF ps s js).map iC), c5, c6, c7] := e
  first | refine run_ok0 ?_ | refine run_ok ?_
  simp -implicitDefEqProofs [m_walk, e']
theorem sp_places_on (pok : ∀ p ∈ ps, plOkG Mg Bg ps.length p) {s : Nat} {js : List Nat} (hw : WayOk ps s js) (hl : js.length ≤ 1000) :
    w_places_on [.fz (.lst (ps.map plD)), .fz (.int (s : Nat)), .fz (.lst (js.map fun b => D.int (b : Nat)))] = .ok (.ow ((s :: goF ps s js).map iC)) [] := by
  have e := sp_walk (first := 0) pok hw hl
  first | refine run_ok0 ?_ | refine run_ok ?_
  simp -implicitDefEqProofs [m_places_on] at e ⊢
  simp [e]
end
end Lw

namespace Lw
open PySem PySem.Spec PyProof.Rows L2 Dn
section
variable {Mg Bg : Nat} {ps : List Pl}
/-- a way that takes a branch that is not there -/
theorem sp_walk_bad (pok : ∀ p ∈ ps, plOkG Mg Bg ps.length p) {s first : Nat} {js : List Nat} (hw : WayOk ps s js) (hl : js.length ≤ 1000) {b : Int} (hb : b < 0 ∨ 6 ≤ b) (rest : List D) :
    w_walk [.fz (.lst (ps.map plD)), .fz (.int (s : Nat)), .fz (.lst (js.map (fun b => D.int (b : Nat)) ++ .int b :: rest)), .fz (.int (first : Nat))] = .er ⟨"NoBranch", some ("at", .int ((first : Int) + (js.length : Nat)))⟩ [] := by
  obtain ⟨c5, c6, c7, e⟩ := walk_loop pok (.fz (.int (s : Nat))) (.fz (.lst (js.map (fun b => D.int (b : Nat)) ++ .int b :: rest))) (.fz (.int (first : Nat))) (.int b :: rest) js s 0 [] .no .no .no hw (by simp; omega)
  obtain ⟨acc', el⟩ := goF_last ps js s []
  simp only [List.append_nil, List.nil_append] at e el
  rw [el, enumT_cons, forL_cons] at e
  have hn := hw.end
  have h1 : ps[endF ps s js]? = some ps[endF ps s js] := List.getElem?_eq_getElem hn
  have ht := sp_targets h1 (pok _ (List.getElem_mem hn))
  have h6 := (tgs_ok (pok _ (List.getElem_mem hn))).1
  have hc : ¬ (0 ≤ b ∧ b < ((tgsF ps[endF ps s js]).length : Int)) := by omega
  generalize ps[endF ps s js] = q at *
  have key : forL (Tg.put (.tup [(.nm 5), (.nm 6)])) b_walk_0 (enumD (js.map (fun b => D.int (b : Nat)) ++ .int b :: rest)) [.fz (.lst (ps.map plD)), .fz (.int (s : Nat)), .fz (.lst (js.map (fun b => D.int (b : Nat)) ++ .int b :: rest)), .fz (.int (first : Nat)), .ow [.fz (.int (s : Nat))], .no, .no, .no] =
      .er ⟨"NoBranch", some ("at", .int ((first : Int) + (js.length : Nat)))⟩ [.fz (.lst (ps.map plD)), .fz (.int (s : Nat)), .fz (.lst (js.map (fun b => D.int (b : Nat)) ++ .int b :: rest)), .fz (.int (first : Nat)), .ow (acc' ++ [iC (endF ps s js)]), .fz (.int ((0 + js.length : Nat) : Int)), .fz (.int b), .ow ((tgsF q).map fun t => .fz (.int (t : Nat)))] := by
    refine e.trans ?_
    by_cases hb0 : 0 ≤ b
    · have : ¬ b < ((tgsF q).length : Int) := by omega
      simp -implicitDefEqProofs [iC, ht, hb0, this]
    · simp -implicitDefEqProofs [iC, ht, hb0]
  unfold w_walk runDef
  have : m_walk ([.fz (.lst (ps.map plD)), .fz (.int (s : Nat)), .fz (.lst (js.map (fun b => D.int (b : Nat)) ++ .int b :: rest)), .fz (.int (first : Nat))] ++ List.replicate (8 - 4) .no) = .er ⟨"NoBranch", some ("at", .int ((first : Int) + (js.length : Nat)))⟩ [.fz (.lst (ps.map plD)), .fz (.int (s : Nat)), .fz (.lst (js.map (fun b => D.int (b : Nat)) ++ .int b :: rest)), .fz (.int (first : Nat)), .ow (acc' ++ [iC (endF ps s js)]), .fz (.int ((0 + js.length : Nat) : Int)), .fz (.int b), .ow ((tgsF q).map fun t => .fz (.int (t : Nat)))] := by
    simp -implicitDefEqProofs [m_walk, key]
  rw [this]
theorem sp_places_bad (pok : ∀ p ∈ ps, plOkG Mg Bg ps.length p) {s : Nat} {js : List Nat} (hw : WayOk ps s js) (hl : js.length ≤ 1000) {b : Int} (hb : b < 0 ∨ 6 ≤ b) (rest : List D) :
    w_places_on [.fz (.lst (ps.map plD)), .fz (.int (s : Nat)), .fz (.lst (js.map (fun b => D.int (b : Nat)) ++ .int b :: rest))] = .er ⟨"NoBranch", some ("at", .int (js.length : Nat))⟩ [] := by
  have e := sp_walk_bad (first := 0) pok hw hl hb rest
  unfold w_places_on runDef
  simp -implicitDefEqProofs [m_places_on] at e ⊢
  simp [e]
end
end Lw

namespace Lw
open PySem PySem.Spec PyProof.Rows L2 Dn
/-! ### ways and circles (V5a) -/
def iD (n : Nat) : D := .int (n : Nat)
theorem flat_iD : ∀ l : List Nat, flatDs (l.map iD) = some (l.map fun n => V.int (n : Nat))
  | [] => rfl
  | n :: l => by simp [iD, flatDs, flatD, flat_iD l]
theorem eqV_i (a b : Nat) : eqV (V.int (a : Nat)) (V.int (b : Nat)) = decide (a = b) := by
  show ((a : Int) == (b : Int)) = _
  rw [Bool.eq_iff_iff]
  simp
  omega
theorem in_iD (x : Nat) (l : List Nat) : inP (.int (x : Nat)) (.lst (l.map iD)) = some (decide (x ∈ l)) := by
  have := flat_iD l
  unfold inP
  simp only [seqD, flatD, this, Option.bind_some, Option.map_some, inV, List.any_map, Function.comp_def, eqV_i]
  congr 1
  rw [Bool.eq_iff_iff]
  simp
theorem idx_iD (x : Nat) (l : List Nat) : idxD (.lst (l.map iD)) (.int (x : Nat)) = (l.findIdx? fun z => decide (z = x)).map fun j => .int (j : Nat) := by
  have := flat_iD l
  unfold idxD
  simp only [flatD, this, Option.bind_some, List.findIdx?_map, Function.comp_def, eqV_i]
theorem foldl_min_le : ∀ (xs : List Int) (x : Int), (∀ y ∈ xs, x ≤ y) → xs.foldl min x = x
  | [], _, _ => rfl
  | y :: xs, x, h => by
    have h1 := h y List.mem_cons_self
    rw [List.foldl_cons, Int.min_eq_left h1]
    exact foldl_min_le xs x fun z m => h z (List.mem_cons_of_mem _ m)
theorem intsOf_iD (l : List Nat) : intsOf (l.map iD) = some (l.map fun n : Nat => (n : Int)) := by
  have := intsOf_map (l.map fun n : Nat => (n : Int))
  rw [List.map_map] at this
  exact this
/-- the least of an ascending list -/
theorem min_filter (P : Nat → Bool) (n : Nat) (h : ∃ k, k < n ∧ P k = true) : ∃ m, m < n ∧ P m = true ∧ (∀ k, k < m → P k = false) ∧ minD (.lst (((List.range n).filter P).map iD)) = some (.int (m : Nat)) := by
  obtain ⟨k, hk, hP⟩ := h
  have hm : k ∈ (List.range n).filter P := List.mem_filter.mpr ⟨List.mem_range.mpr hk, hP⟩
  have hs : ((List.range n).filter P).Pairwise (· < ·) := List.Pairwise.filter _ List.pairwise_lt_range
  generalize hl : (List.range n).filter P = l at *
  cases l with
  | nil => cases hm
  | cons m l =>
    have hmm : m ∈ (List.range n).filter P := by rw [hl]; exact List.mem_cons_self
    rw [List.mem_filter, List.mem_range] at hmm
    rw [List.pairwise_cons] at hs
    refine ⟨m, hmm.1, hmm.2, fun j hj => ?_, ?_⟩
    · cases hq : P j with
      | false => rfl
      | true =>
        have : j ∈ (List.range n).filter P := List.mem_filter.mpr ⟨List.mem_range.mpr (by omega), hq⟩
        rw [hl] at this
        rcases List.mem_cons.mp this with rfl | z
        · omega
        · have := hs.1 j z; omega
    · have hi := intsOf_iD (m :: l)
      simp only [minD]
      rw [hi]
      simp only [Option.bind_some, List.map_cons, List.min?_cons', Option.map_some]
      rw [foldl_min_le]
      intro y hy
      obtain ⟨z, hz, rfl⟩ := List.mem_map.mp hy
      have := hs.1 z hz
      omega
/-- more than n numbers under n: one comes again -/
theorem pigeon : ∀ (n : Nat) (f : Nat → Nat), (∀ k, k ≤ n → f k < n) → ∃ j k, j < k ∧ k ≤ n ∧ f j = f k
  | 0, f, h => absurd (h 0 (by omega)) (by omega)
  | n + 1, f, h => by
    by_cases he : ∃ j, j ≤ n ∧ f j = f (n + 1)
    · obtain ⟨j, h1, h2⟩ := he
      exact ⟨j, n + 1, by omega, by omega, h2⟩
    · have hne : ∀ j, j ≤ n → f j ≠ f (n + 1) := fun j hj e => he ⟨j, hj, e⟩
      -- close the gap that f (n + 1) leaves
      let g : Nat → Nat := fun k => if f k < f (n + 1) then f k else f k - 1
      obtain ⟨j, k, h1, h2, h3⟩ := pigeon n g fun k hk => by
        have a := h k (by omega)
        have b := h (n + 1) (by omega)
        have c := hne k hk
        show (if f k < f (n + 1) then f k else f k - 1) < n
        split <;> omega
      refine ⟨j, k, h1, by omega, ?_⟩
      have a := hne j (by omega)
      have b := hne k (by omega)
      have : (if f j < f (n + 1) then f j else f j - 1) = (if f k < f (n + 1) then f k else f k - 1) := h3
      split at this <;> split at this <;> omega

section
variable {Mg Bg : Nat} {ps : List Pl}
theorem tgt_lt5 (pok : ∀ p ∈ ps, plOkG Mg Bg ps.length p) {i b : Nat} {p : Pl} (h : ps[i]? = some p) (hb : b < (tgsF p).length) : tgt ps i b < ps.length :=
  (tgs_ok (pok p (List.mem_of_getElem? h))).2 _ (List.mem_of_getElem? (tgt_eq h hb))
theorem places_loop (pok : ∀ p ∈ ps, plOkG Mg Bg ps.length p) (x1 x2 : C) : ∀ (js : List Nat) (i : Nat) (acc : List C) (c4 : C), WayOk ps i js → acc.length + js.length ≤ 900000 →
    ∃ c4', forL (Tg.put (.nm 4)) b__law_places_0 (js.map fun b => D.int (b : Nat)) [.fz (.lst (ps.map plD)), x1, x2, .ow (acc ++ [iC i]), c4] = .nx [.fz (.lst (ps.map plD)), x1, x2, .ow (acc ++ [iC i] ++ (goF ps i js).map iC), c4']
  | [], i, acc, c4, _, _ => ⟨c4, by simp [goF]⟩
  | b :: js, i, acc, c4, ⟨p, h1, h2, h3⟩, hl => by
    obtain ⟨c4', e⟩ := places_loop pok x1 x2 js (tgt ps i b) (acc ++ [iC i]) (iC b) h3 (by simp at hl ⊢; omega)
    refine ⟨c4', ?_⟩
    have htg := sp__law_targets (pok p (List.mem_of_getElem? h1))
    have hat : atI (ps.map plD) (i : Int) = some (plD p) := by rw [atI_natCast, List.getElem?_map, h1]; rfl
    have hz : atI ((tgsF p).map fun t : Nat => (D.int (t : Nat))) (b : Int) = some (.int (tgt ps i b : Nat)) := by
      rw [atI_natCast, List.getElem?_map, tgt_eq h1 h2]; rfl
    have hsm : acc.length + 1 ≤ 1000000 := by simp at hl; omega
    rw [List.map_cons, forL_cons]
    simp only [goF, List.map_cons]
    rw [show acc ++ [iC i] ++ iC (tgt ps i b) :: (goF ps (tgt ps i b) js).map iC = acc ++ [iC i] ++ [iC (tgt ps i b)] ++ (goF ps (tgt ps i b) js).map iC by simp, ← e]
    simp -implicitDefEqProofs [iC, htg, hat, hz, hsm, Function.comp_def]
theorem sp__law_places (pok : ∀ p ∈ ps, plOkG Mg Bg ps.length p) {i : Nat} {js : List Nat} (hw : WayOk ps i js) (hl : js.length ≤ 1000) :
    w__law_places [.fz (.lst (ps.map plD)), .fz (.int (i : Nat)), .fz (.lst (js.map fun b => D.int (b : Nat)))] = .ok (.ow ((i :: goF ps i js).map iC)) [] := by
  obtain ⟨c4, e⟩ := places_loop pok (iC i) (.fz (.lst (js.map fun b => D.int (b : Nat)))) js i [] .no hw (by simp; omega)
  refine run_ok ?_
  simp only [iC, List.nil_append] at e ⊢
  simp -implicitDefEqProofs [m__law_places, e]
  rfl

/-- the places that are left -/
def lvF (ps : List Pl) : Nat → List Nat → List Nat
  | _, [] => []
  | i, b :: bs => i :: lvF ps (tgt ps i b) bs
theorem lv_len : ∀ (bs : List Nat) (i : Nat), (lvF ps i bs).length = bs.length
  | [], _ => rfl
  | b :: bs, i => by simp [lvF, lv_len bs]
theorem go_lv : ∀ (bs : List Nat) (i : Nat), i :: goF ps i bs = lvF ps i bs ++ [endF ps i bs]
  | [], _ => rfl
  | b :: bs, i => by
    have := go_lv bs (tgt ps i b)
    simp only [goF, lvF, endF, List.cons_append]
    rw [← this]
theorem lv_app : ∀ (a b : List Nat) (i : Nat), lvF ps i (a ++ b) = lvF ps i a ++ lvF ps (endF ps i a) b
  | [], _, _ => rfl
  | x :: a, b, i => by simp only [List.cons_append, lvF, endF]; rw [lv_app a b]
theorem end_app : ∀ (a b : List Nat) (i : Nat), endF ps i (a ++ b) = endF ps (endF ps i a) b
  | [], _, _ => rfl
  | x :: a, b, i => by simp only [List.cons_append, endF]; exact end_app a b _
theorem way_app : ∀ {a b : List Nat} {i : Nat}, WayOk ps i (a ++ b) ↔ WayOk ps i a ∧ WayOk ps (endF ps i a) b
  | [], b, i => ⟨fun h => ⟨h.start, h⟩, fun h => h.2⟩
  | x :: a, b, i => by
    constructor
    · rintro ⟨p, h1, h2, h3⟩
      obtain ⟨q1, q2⟩ := way_app.mp h3
      exact ⟨⟨p, h1, h2, q1⟩, q2⟩
    · rintro ⟨⟨p, h1, h2, h3⟩, h4⟩
      exact ⟨p, h1, h2, way_app.mpr ⟨h3, h4⟩⟩
theorem lv_lt : ∀ {a : List Nat} {i : Nat}, WayOk ps i a → ∀ x ∈ lvF ps i a, x < ps.length
  | [], _, _, x, m => by cases m
  | b :: a, i, h, x, m => by
    have hs := h.start
    obtain ⟨p, h1, h2, h3⟩ := h
    rcases List.mem_cons.mp m with rfl | m
    · exact hs
    · exact lv_lt h3 x m
/-- a branch that is not there -/
theorem sp_walk_bad5 (pok : ∀ p ∈ ps, plOkG Mg Bg ps.length p) {s first : Nat} {js : List Nat} (hw : WayOk ps s js) (hl : js.length ≤ 1000) {b : Int} (hb : ∀ q, ps[endF ps s js]? = some q → ¬ (0 ≤ b ∧ b < ((tgsF q).length : Int))) (rest : List D) :
    w_walk [.fz (.lst (ps.map plD)), .fz (.int (s : Nat)), .fz (.lst (js.map iD ++ .int b :: rest)), .fz (.int (first : Nat))] = .er ⟨"NoBranch", some ("at", .int ((first : Int) + (js.length : Nat)))⟩ [] := by
  obtain ⟨c5, c6, c7, e⟩ := walk_loop pok (.fz (.int (s : Nat))) (.fz (.lst (js.map (fun b => D.int (b : Nat)) ++ .int b :: rest))) (.fz (.int (first : Nat))) (.int b :: rest) js s 0 [] .no .no .no hw (by simp; omega)
  obtain ⟨acc', el⟩ := goF_last ps js s []
  simp only [List.append_nil, List.nil_append] at e el
  rw [el, enumT_cons, forL_cons] at e
  have hn := hw.end
  have h1 : ps[endF ps s js]? = some ps[endF ps s js] := List.getElem?_eq_getElem hn
  have ht := sp_targets h1 (pok _ (List.getElem_mem hn))
  have hc := hb _ h1
  generalize ps[endF ps s js] = q at *
  have key : forL (Tg.put (.tup [(.nm 5), (.nm 6)])) b_walk_0 (enumD (js.map (fun b => D.int (b : Nat)) ++ .int b :: rest)) [.fz (.lst (ps.map plD)), .fz (.int (s : Nat)), .fz (.lst (js.map (fun b => D.int (b : Nat)) ++ .int b :: rest)), .fz (.int (first : Nat)), .ow [.fz (.int (s : Nat))], .no, .no, .no] =
      .er ⟨"NoBranch", some ("at", .int ((first : Int) + (js.length : Nat)))⟩ [.fz (.lst (ps.map plD)), .fz (.int (s : Nat)), .fz (.lst (js.map (fun b => D.int (b : Nat)) ++ .int b :: rest)), .fz (.int (first : Nat)), .ow (acc' ++ [iC (endF ps s js)]), .fz (.int ((0 + js.length : Nat) : Int)), .fz (.int b), .ow ((tgsF q).map fun t => .fz (.int (t : Nat)))] := by
    refine e.trans ?_
    by_cases hb0 : 0 ≤ b
    · have : ¬ b < ((tgsF q).length : Int) := by omega
      simp -implicitDefEqProofs [iC, ht, hb0, this]
    · simp -implicitDefEqProofs [iC, ht, hb0]
  have : m_walk ([.fz (.lst (ps.map plD)), .fz (.int (s : Nat)), .fz (.lst (js.map (fun b => D.int (b : Nat)) ++ .int b :: rest)), .fz (.int (first : Nat))] ++ List.replicate (8 - 4) .no) = .er ⟨"NoBranch", some ("at", .int ((first : Int) + (js.length : Nat)))⟩ [.fz (.lst (ps.map plD)), .fz (.int (s : Nat)), .fz (.lst (js.map (fun b => D.int (b : Nat)) ++ .int b :: rest)), .fz (.int (first : Nat)), .ow (acc' ++ [iC (endF ps s js)]), .fz (.int ((0 + js.length : Nat) : Int)), .fz (.int b), .ow ((tgsF q).map fun t => .fz (.int (t : Nat)))] := by
    simp -implicitDefEqProofs [m_walk, key]
  show w_walk [.fz (.lst (ps.map plD)), .fz (.int (s : Nat)), .fz (.lst (js.map (fun b => D.int (b : Nat)) ++ .int b :: rest)), .fz (.int (first : Nat))] = _
  unfold w_walk runDef
  rw [this]
theorem sp_places_bad5 (pok : ∀ p ∈ ps, plOkG Mg Bg ps.length p) {s : Nat} {js : List Nat} (hw : WayOk ps s js) (hl : js.length ≤ 1000) {b : Int} (hb : ∀ q, ps[endF ps s js]? = some q → ¬ (0 ≤ b ∧ b < ((tgsF q).length : Int))) (rest : List D) :
    w_places_on [.fz (.lst (ps.map plD)), .fz (.int (s : Nat)), .fz (.lst (js.map iD ++ .int b :: rest))] = .er ⟨"NoBranch", some ("at", .int (js.length : Nat))⟩ [] := by
  have e := sp_walk_bad5 (first := 0) pok hw hl hb rest
  unfold w_places_on runDef
  generalize js.map iD ++ .int b :: rest = jd at *
  simp -implicitDefEqProofs [m_places_on] at e ⊢
  simp [e]
end
end Lw

namespace Lw
open PySem PySem.Spec PyProof.Rows L2 Dn
/-! ### gain_per_step (V5b) -/
theorem cut_m1 {α : Type} (l : List α) (a : α) : cutL (l ++ [a]) none (some (-1)) = l := by
  have e : HT.sIx (l ++ [a]).length (l ++ [a]).length (some (-1)) = l.length := by
    simp [HT.sIx]
    omega
  unfold cutL
  rw [e, HT.sIx_none]
  simp

theorem fz_iC5 (l : List Nat) : (l.map iC).map fzD = l.map iD := by rw [List.map_map]; rfl
def gAt (qs : List Pl) (i : Nat) : Rat := match qs[i]? with
  | some p => gainF p
  | none => 0
def sumR : List Rat → Rat
  | [] => 0
  | q :: qs => q + sumR qs
theorem sumF_R : ∀ (l : List Rat) (a : Rat), sumF a l = a + sumR l
  | [], a => by simp [sumF, sumR, Rat.add_zero]
  | q :: l, a => by
    have := sumF_R l (a + q)
    unfold sumF at this ⊢
    rw [List.foldl_cons, this]
    simp only [sumR]
    grind
theorem sumR_app : ∀ (a b : List Rat), sumR (a ++ b) = sumR a + sumR b
  | [], b => by simp [sumR, Rat.zero_add]
  | q :: a, b => by
    simp only [List.cons_append, sumR]
    rw [sumR_app a b]
    grind
def SG (ps : List Pl) (i : Nat) (c : List Nat) : Rat := sumF 0 ((lvF ps i c).map (gAt ps))
def meanQ (S : Rat) (L : Nat) : Rat := Rat.divInt S.num (S.den * (L : Int))
theorem meanQ_eq (S : Rat) (L : Nat) : meanQ S L = S / (L : Rat) := by
  unfold meanQ
  rw [Rat.divInt_eq_div]
  have h : (S.num : Rat) / ((S.den : Int) : Rat) = S := by
    rw [← Rat.divInt_eq_div]
    exact Rat.num_divInt_den S
  rw [Rat.intCast_mul]
  conv => rhs; rw [← h]
  rw [Rat.div_def, Rat.div_def, Rat.div_def, Rat.inv_mul_rev]
  have e1 : (((S.den : Nat) : Int) : Rat) = (S.den : Rat) := rfl
  have e2 : (((L : Nat) : Int) : Rat) = (L : Rat) := rfl
  rw [e1, e2]
  grind
section
variable {ps : List Pl}
theorem gAt_in5 (pok : ∀ p ∈ ps, plOkG 420 500 ps.length p) {i : Nat} (hi : i < ps.length) : Inn 420 500 (gAt ps i) ∧ ∃ k b, atI (ps.map plD) (i : Int) = some (.tup [nD (gAt ps i), k, b]) := by
  have hp : ps[i]? = some ps[i] := List.getElem?_eq_getElem hi
  have pk := pok _ (List.getElem_mem hi)
  have e : gAt ps i = gainF ps[i] := by unfold gAt; rw [hp]
  rw [e]
  refine ⟨by cases hq : ps[i] <;> (rw [hq] at pk; exact pk.1), .str (kindS ps[i]), brsD ps[i], ?_⟩
  rw [atI_natCast, List.getElem?_map, hp, Option.map_some, plD_eq]
theorem SG_eq (i : Nat) (c : List Nat) : SG ps i c = sumR ((lvF ps i c).map (gAt ps)) := by
  unfold SG
  rw [sumF_R]
  grind
theorem SG_app (i : Nat) (a b : List Nat) : SG ps i (a ++ b) = SG ps i a + SG ps (endF ps i a) b := by
  rw [SG_eq, SG_eq, SG_eq, lv_app, List.map_append, sumR_app]
def cL (l : List Nat) : C := .fz (.lst (l.map iD))
end
end Lw

namespace Lw
open PySem PySem.Spec PyProof.Rows L2 Dn
/-! ### the way of the draws, its first circle (V5d) -/
section
variable {Mg Bg : Nat} {ps : List Pl}
theorem end_snoc (js : List Nat) (i b : Nat) : endF ps i (js ++ [b]) = tgt ps (endF ps i js) b := by rw [end_app]; rfl
theorem way_turn (pok : ∀ p ∈ ps, plOkG Mg Bg ps.length p) {s : Nat} {js : List Nat} (hw : WayOk ps s js) (hl : js.length ≤ 1000) (x : Int) (x1 x2 c5 c6 : C) :
    ∃ b d6, WayOk ps s (js ++ [b]) ∧ fStep (Tg.put (.nm 5)) b__law_way_0 (.int x) [.fz (.lst (ps.map plD)), x1, x2, .ow (js.map iC), .fz (.int (endF ps s js : Nat)), c5, c6] =
      .nx [.fz (.lst (ps.map plD)), x1, x2, .ow ((js ++ [b]).map iC), .fz (.int (endF ps s (js ++ [b]) : Nat)), .fz (.int x), d6] := by
  have hk := hw.end
  have h1 : ps[endF ps s js]? = some ps[endF ps s js] := List.getElem?_eq_getElem hk
  have hp := pok _ (List.getElem_mem hk)
  have htg := sp__law_targets hp
  have hat : atI (ps.map plD) ((endF ps s js : Nat) : Int) = some (plD ps[endF ps s js]) := by rw [atI_natCast, List.getElem?_map, h1]; rfl
  have hne : 0 < (tgsF ps[endF ps s js]).length := by
    refine List.length_pos_iff.mpr ?_
    cases hq : ps[endF ps s js] with
    | dr g bs => rw [hq] at hp; simpa [tgsF] using hp.2.1
    | ch g o ts => rw [hq] at hp; exact hp.2.1
  have hn0 : ((tgsF ps[endF ps s js]).length : Int) ≠ 0 := by omega
  have hnp : (0 : Int) < ((tgsF ps[endF ps s js]).length : Int) := by omega
  have eb : ((x % ((tgsF ps[endF ps s js]).length : Int)).toNat : Int) = x % ((tgsF ps[endF ps s js]).length : Int) := Int.toNat_of_nonneg (Int.emod_nonneg _ hn0)
  have lb := Int.emod_lt_of_pos x hnp
  generalize (x % ((tgsF ps[endF ps s js]).length : Int)).toNat = b at *
  have hb : b < (tgsF ps[endF ps s js]).length := by omega
  have hte := tgt_eq h1 hb
  have hat2 : atI ((tgsF ps[endF ps s js]).map fun t => C.fz (D.int (t : Nat))) (b : Int) = some (.fz (.int (tgt ps (endF ps s js) b : Nat))) := by rw [atI_natCast, List.getElem?_map, hte]; rfl
  have hsm : (js.map iC).length ≤ 1000000 := by simp; omega
  refine ⟨b, .ow ((tgsF ps[endF ps s js]).map fun t => .fz (.int (t : Nat))), way_app.mpr ⟨hw, ⟨_, h1, hb, (by show tgt ps _ b < _; exact tgt_lt5 pok h1 hb)⟩⟩, ?_⟩
  rw [end_snoc, List.map_append]
  have ei : ([b].map iC) = [C.fz (.int (b : Nat))] := rfl
  rw [ei]
  generalize js.map iC = jc at *
  generalize ps[endF ps s js] = p at *
  generalize endF ps s js = e at *
  generalize tgt ps e b = t at *
  generalize ps.map plD = gd at *
  simp -implicitDefEqProofs [hat, htg, hne, hn0, hnp, ← eb, hsm, hat2]
theorem way_loop (pok : ∀ p ∈ ps, plOkG Mg Bg ps.length p) {s : Nat} (x1 x2 : C) : ∀ (ds : List Int) (js : List Nat) (c5 c6 : C), WayOk ps s js → js.length + ds.length ≤ 1000 →
    ∃ js' d5 d6, js'.length = js.length + ds.length ∧ WayOk ps s js' ∧ forL (Tg.put (.nm 5)) b__law_way_0 (ds.map D.int) [.fz (.lst (ps.map plD)), x1, x2, .ow (js.map iC), .fz (.int (endF ps s js : Nat)), c5, c6] =
      .nx [.fz (.lst (ps.map plD)), x1, x2, .ow (js'.map iC), .fz (.int (endF ps s js' : Nat)), d5, d6]
  | [], js, c5, c6, hw, _ => ⟨js, c5, c6, by simp, hw, by simp⟩
  | x :: ds, js, c5, c6, hw, hl => by
    simp only [List.length_cons] at hl
    obtain ⟨b, d6, hw', e⟩ := way_turn pok hw (by omega) x x1 x2 c5 c6
    obtain ⟨js', e5, e6, hl', hw2, e'⟩ := way_loop pok x1 x2 ds (js ++ [b]) (.fz (.int x)) d6 hw' (by simp; omega)
    refine ⟨js', e5, e6, by rw [hl']; simp; omega, hw2, ?_⟩
    rw [← e', List.map_cons, forL_cons]
    unfold fStep at e
    split at e
    · cases e
    · rename_i ρ1 hp
      rw [e]
theorem sp__law_way (pok : ∀ p ∈ ps, plOkG Mg Bg ps.length p) {s : Nat} (hs : s < ps.length) {ds : List Int} (hl : ds.length ≤ 1000) : ∃ js, js.length = ds.length ∧ WayOk ps s js ∧
    w__law_way [.fz (.lst (ps.map plD)), .fz (.int (s : Nat)), .fz (.lst (ds.map D.int))] = .ok (.ow (js.map iC)) [] := by
  obtain ⟨js, d5, d6, h1, h2, e⟩ := way_loop pok (.fz (.int (s : Nat))) (.fz (.lst (ds.map D.int))) ds [] .no .no hs (by simpa using hl)
  refine ⟨js, by simpa using h1, h2, run_ok ?_⟩
  have e' : forL (Tg.put (.nm 5)) b__law_way_0 (ds.map D.int) [.fz (.lst (ps.map plD)), .fz (.int (s : Nat)), .fz (.lst (ds.map D.int)), .ow [], .fz (.int (s : Nat)), .no, .no] = _ := e
  generalize ps.map plD = gd at *
  generalize ds.map D.int = dd at *
  simp -implicitDefEqProofs [m__law_way, e']
end
/-- the first place that comes again -/
theorem first_circle {pl : List Nat} {n : Nat} (hl : n < pl.length) (hp : ∀ x ∈ pl, x < n) (hn : pl.length ≤ 1000) :
    ∃ last first, last < pl.length ∧ first < last ∧ pl.getD first 0 = pl.getD last 0 ∧ (∀ k, first < k → k < last → pl.getD k 0 ≠ pl.getD first 0) ∧
      minD (.lst (((List.range pl.length).filter fun k => decide (pl.getD k 0 ∈ pl.take k)).map iD)) = some (.int (last : Nat)) ∧ idxD (.lst (pl.map iD)) (.int (pl.getD last 0 : Nat)) = some (.int (first : Nat)) := by
  have gd : ∀ k, k < pl.length → pl[k]? = some (pl.getD k 0) := fun k hk => by rw [List.getD_eq_getElem?_getD, List.getElem?_eq_getElem hk]; rfl
  have memT : ∀ k x, k ≤ pl.length → (x ∈ pl.take k ↔ ∃ j, j < k ∧ pl.getD j 0 = x) := fun k x hk => by
    constructor
    · intro m
      obtain ⟨j, hj, e⟩ := List.getElem_of_mem m
      have hj' : j < k := by simp at hj; omega
      refine ⟨j, hj', ?_⟩
      rw [List.getElem_take] at e
      have := gd j (by omega)
      rw [List.getElem?_eq_getElem (by omega), e] at this
      exact (Option.some.inj this).symm
    · rintro ⟨j, hj, rfl⟩
      have : (pl.take k)[j]? = some (pl.getD j 0) := by rw [List.getElem?_take, if_pos hj, gd j (by omega)]
      exact List.mem_of_getElem? this
  obtain ⟨i, j, h1, h2, h3⟩ := pigeon n (fun k => pl.getD k 0) fun k hk => hp _ (List.mem_of_getElem? (gd k (by omega)))
  obtain ⟨last, l1, l2, l3, l4⟩ := min_filter (fun k => decide (pl.getD k 0 ∈ pl.take k)) pl.length ⟨j, by omega, by rw [decide_eq_true_eq, memT _ _ (by omega)]; exact ⟨i, h1, h3⟩⟩
  rw [decide_eq_true_eq, memT _ _ (by omega)] at l2
  obtain ⟨f0, hf0, ef0⟩ := l2
  -- the index
  obtain ⟨first, hfi⟩ : ∃ f, pl.findIdx? (fun z => decide (z = pl.getD last 0)) = some f := by
    cases hf : pl.findIdx? (fun z => decide (z = pl.getD last 0)) with
    | some f => exact ⟨f, rfl⟩
    | none =>
      have := List.findIdx?_eq_none_iff.mp hf _ (List.mem_of_getElem? (gd last l1))
      simp at this
  obtain ⟨hlt, q1, q2⟩ := List.findIdx?_eq_some_iff_getElem.mp hfi
  have q1' : pl.getD first 0 = pl.getD last 0 := by
    have := gd first hlt
    rw [List.getElem?_eq_getElem hlt] at this
    have h4 : pl[first] = pl.getD last 0 := by simpa using q1
    rw [← h4]
    exact (Option.some.inj this).symm
  have hfl : first < last := by
    rcases Nat.lt_or_ge f0 first with h | h
    · have := q2 f0 h
      have e := gd f0 (by omega)
      rw [List.getElem?_eq_getElem (by omega)] at e
      have e2 := Option.some.inj e
      rw [e2, ef0] at this
      simp at this
    · omega
  refine ⟨last, first, l1, hfl, q1', fun k hk1 hk2 e => ?_, l4, by rw [idx_iD, hfi]; rfl⟩
  have := l3 k hk2
  rw [decide_eq_false_iff_not, memT _ _ (by omega)] at this
  exact this ⟨first, hk1, e.symm⟩
/-! places and segments -/
section
variable {ps : List Pl}
theorem pl_get : ∀ (js : List Nat) (s k : Nat), k ≤ js.length → (s :: goF ps s js).getD k 0 = endF ps s (js.take k)
  | js, s, 0, _ => by simp [endF]
  | [], s, k + 1, h => by simp at h
  | b :: js, s, k + 1, h => by
    have := pl_get js (tgt ps s b) k (by simpa using h)
    simp only [goF, List.getD_cons_succ, List.take_succ_cons, endF]
    exact this
theorem lv_take (s : Nat) (js : List Nat) {f l : Nat} (hfl : f ≤ l) (hl : l ≤ js.length) : ((s :: goF ps s js).drop f).take (l - f) = lvF ps (endF ps s (js.take f)) ((js.drop f).take (l - f)) := by
  have e : js = js.take f ++ ((js.drop f).take (l - f) ++ (js.drop f).drop (l - f)) := by rw [List.take_append_drop, List.take_append_drop]
  rw [go_lv]
  conv => lhs; rw [e]
  rw [lv_app, lv_app, List.append_assoc, List.append_assoc]
  have h1 : (lvF ps s (js.take f)).length = f := by rw [lv_len]; simp; omega
  have h2 : (lvF ps (endF ps s (js.take f)) ((js.drop f).take (l - f))).length = l - f := by rw [lv_len]; simp; omega
  rw [List.drop_append_of_le_length (by omega), List.drop_of_length_le (by omega), List.nil_append, List.take_append_of_le_length (by omega), List.take_of_length_le (by omega)]
end
end Lw

namespace Lw
open PySem PySem.Spec PyProof.Rows L2 Dn
/-! ### unrolled ways (W7a) -/
structure Un7 where
  path : List (Nat × Nat)
  here : Nat
  cs : List (Nat × List Nat)
def fst7 (t : Nat) (l : List (Nat × Nat)) : Option Nat := l.findIdx? fun q => decide (q.1 = t)
def step7 (ps : List Pl) (u : Un7) (b : Nat) : Un7 :=
  let p := u.path ++ [(u.here, b)]
  let t := tgt ps u.here b
  match fst7 t p with
  | some k => ⟨p.take k, t, u.cs ++ [(t, (p.drop k).map (·.2))]⟩
  | none => ⟨p, t, u.cs⟩
def unr7 (ps : List Pl) (u : Un7) (js : List Nat) : Un7 := js.foldl (step7 ps) u
def cirD (q : Nat × List Nat) : D := .tup [.int (q.1 : Nat), .lst (q.2.map fun n => .int (n : Nat))]
def iD7 (n : Nat) : D := .int (n : Nat)
theorem eqV_7 (a b : Nat) : eqV (V.int (a : Nat)) (V.int (b : Nat)) = decide (a = b) := by
  show ((a : Int) == (b : Int)) = _
  rw [Bool.eq_iff_iff]
  simp
  omega
theorem flat_7 : ∀ l : List Nat, flatDs (l.map iD7) = some (l.map fun n => V.int (n : Nat))
  | [] => rfl
  | n :: l => by simp [iD7, flatDs, flatD, flat_7 l]
theorem in_7 (x : Nat) (l : List Nat) : inP (.int (x : Nat)) (.lst (l.map iD7)) = some (decide (x ∈ l)) := by
  have := flat_7 l
  unfold inP
  simp only [seqD, flatD, this, Option.bind_some, Option.map_some, inV, List.any_map, Function.comp_def, eqV_7]
  congr 1
  rw [Bool.eq_iff_iff]
  simp
theorem idx_7 (x : Nat) (l : List Nat) : idxD (.lst (l.map iD7)) (.int (x : Nat)) = (l.findIdx? fun z => decide (z = x)).map fun j => .int (j : Nat) := by
  have := flat_7 l
  unfold idxD
  simp only [flatD, this, Option.bind_some, List.findIdx?_map, Function.comp_def, eqV_7]
theorem step7_len (ps : List Pl) (u : Un7) (b : Nat) : (step7 ps u b).path.length ≤ u.path.length + 1 ∧ (step7 ps u b).cs.length ≤ u.cs.length + 1 := by
  unfold step7
  dsimp only
  split
  · simp; omega
  · simp
end Lw

namespace Lw
open PySem PySem.Spec PyProof.Rows L2 Dn
/-! ### the program's unrolling (W7b) -/
theorem cut_none7 {α : Type} (l : List α) {k : Nat} (h : k ≤ l.length) : cutL l none (some (k : Int)) = l.take k := by
  have := cutL_eq l 0 k h (by omega)
  rw [List.drop_zero, Nat.sub_zero] at this
  exact this
theorem cut_tail7 {α : Type} (l : List α) {k : Nat} (h : k ≤ l.length) : cutL l (some (k : Int)) none = l.drop k := by
  have e1 := cutL_eq l k l.length (by omega) h
  rw [List.take_of_length_le (by simp)] at e1
  rw [← e1]
  unfold cutL
  have u1 : HT.sIx l.length l.length none = HT.sIx l.length l.length (some (l.length : Int)) := by
    rw [HT.sIx_none, HT.sIx_nat]; simp
  rw [u1]
section
variable {ps : List Pl}
def cC7 (l : List Nat) : List C := l.map fun n => .fz (iD7 n)
def cirC (q : Nat × List Nat) : C := .tp [.fz (.int (q.1 : Nat)), .ow (cC7 q.2)]
theorem cirC_fz (q : Nat × List Nat) : fzD (cirC q) = cirD q := by
  unfold cirC cirD cC7
  simp [iD7, Function.comp_def]
def plc7 (u : Un7) : List Nat := u.path.map (·.1) ++ [u.here]
theorem fz7 (l : List Nat) : (cC7 l).map fzD = l.map iD7 := by unfold cC7; rw [List.map_map]; rfl
theorem fst7_eq (t : Nat) (l : List (Nat × Nat)) : fst7 t l = (l.map (·.1)).findIdx? fun z => decide (z = t) := by
  unfold fst7
  rw [List.findIdx?_map]
  rfl
theorem unr_turn {u : Un7} {b : Nat} (hl : u.path.length ≤ 1000) (hc : u.cs.length ≤ 1000) (x0 x1 x2 c6 c7 c8 : C) :
    ∃ d6 d7 d8 c3 c4, (c3 = .ow (cC7 (plc7 (step7 ps u b))) ∧ c4 = .ow (cC7 ((step7 ps u b).path.map (·.2)))) ∧
      fStep (Tg.put (.tup [(.nm 6), (.nm 7)])) b_unrolled_0 (.tup [.int (tgt ps u.here b : Nat), .int (b : Nat)]) [x0, x1, x2, .ow (cC7 (plc7 u)), .ow (cC7 (u.path.map (·.2))), .ow (u.cs.map cirC), c6, c7, c8] =
      .nx [x0, x1, x2, c3, c4, .ow ((step7 ps u b).cs.map cirC), d6, d7, d8] := by
  have hsm : (cC7 (u.path.map (·.2))).length ≤ 1000000 := by simp [cC7]; omega
  have hpl : (u.path ++ [(u.here, b)]).map (·.1) = plc7 u := by simp [plc7]
  have hpb : cC7 ((u.path ++ [(u.here, b)]).map (·.2)) = cC7 (u.path.map (·.2)) ++ [.fz (.int (b : Nat))] := by simp [cC7, iD7]
  have hin := in_7 (tgt ps u.here b) (plc7 u)
  have hix := idx_7 (tgt ps u.here b) (plc7 u)
  have hf := fst7_eq (tgt ps u.here b) (u.path ++ [(u.here, b)])
  rw [hpl] at hf
  have hz := fz7 (plc7 u)
  have hscs : (u.cs.map cirC).length ≤ 1000000 := by simp; omega
  have hplen : (plc7 u).length ≤ 1001 := by simp [plc7]; omega
  cases hk : fst7 (tgt ps u.here b) (u.path ++ [(u.here, b)]) with
  | none =>
    rw [hk] at hf
    have hni : tgt ps u.here b ∉ plc7 u := fun m => by
      have := List.findIdx?_eq_none_iff.mp hf.symm _ m
      simp at this
    rw [decide_eq_false hni] at hin
    have hst : step7 ps u b = ⟨u.path ++ [(u.here, b)], tgt ps u.here b, u.cs⟩ := by unfold step7; dsimp only; rw [hk]
    have e3 : cC7 (plc7 (step7 ps u b)) = cC7 (plc7 u) ++ [.fz (.int (tgt ps u.here b : Nat))] := by rw [hst]; simp [plc7, cC7, iD7]
    refine ⟨.fz (.int (tgt ps u.here b : Nat)), .fz (.int (b : Nat)), c8, _, _, ⟨rfl, rfl⟩, ?_⟩
    rw [e3, hst]
    dsimp only
    rw [hpb]
    have hsm3 : (cC7 (plc7 u)).length ≤ 1000000 := by simp [cC7]; omega
    generalize cC7 (plc7 u) = pc at *
    generalize cC7 (u.path.map (·.2)) = bc at *
    generalize (u.cs.map cirC) = cc at *
    generalize (plc7 u).map iD7 = pd at *
    simp -implicitDefEqProofs [hsm, hz, inD, hin, hsm3]
  | some k =>
    rw [hk] at hf
    obtain ⟨hlt, q1, _⟩ := List.findIdx?_eq_some_iff_getElem.mp hf.symm
    have hmi : tgt ps u.here b ∈ plc7 u := by
      have : (plc7 u)[k] = tgt ps u.here b := by simpa using q1
      rw [← this]
      exact List.getElem_mem hlt
    rw [decide_eq_true hmi] at hin
    rw [← hf] at hix
    have hst : step7 ps u b = ⟨(u.path ++ [(u.here, b)]).take k, tgt ps u.here b, u.cs ++ [(tgt ps u.here b, ((u.path ++ [(u.here, b)]).drop k).map (·.2))]⟩ := by unfold step7; dsimp only; rw [hk]
    have hkl : k ≤ u.path.length := by simp [plc7] at hlt; omega
    -- slices
    have hz2 : (cC7 (u.path.map (·.2)) ++ [C.fz (.int (b : Nat))]).map fzD = ((u.path ++ [(u.here, b)]).map (·.2)).map iD7 := by rw [← hpb, fz7]
    have cut1 : cutL (((u.path ++ [(u.here, b)]).map (·.2)).map iD7) (some (k : Int)) none = (((u.path ++ [(u.here, b)]).drop k).map (·.2)).map iD7 := by
      rw [cut_tail7 _ (by simp; omega), ← List.map_drop, ← List.map_drop]
    have cut2 : cutL (((u.path ++ [(u.here, b)]).map (·.2)).map iD7) none (some (k : Int)) = (((u.path ++ [(u.here, b)]).take k).map (·.2)).map iD7 := by
      rw [cut_none7 _ (by simp; omega), ← List.map_take, ← List.map_take]
    have cut3 : cutL ((plc7 u).map iD7) none (some ((k : Int) + 1)) = ((plc7 u).take (k + 1)).map iD7 := by
      have := cut_none7 ((plc7 u).map iD7) (k := k + 1) (by rw [List.length_map]; omega)
      rw [List.map_take]
      exact this
    have e3 : plc7 (step7 ps u b) = (plc7 u).take (k + 1) := by
      rw [hst]
      unfold plc7
      dsimp only
      rw [List.map_take, hpl]
      have h1 : (plc7 u).take (k + 1) = (plc7 u).take k ++ [tgt ps u.here b] := by
        rw [List.take_add_one, List.getElem?_eq_getElem hlt]
        have : (plc7 u)[k] = tgt ps u.here b := by simpa using q1
        rw [this]; rfl
      exact h1.symm
    refine ⟨.fz (.int (tgt ps u.here b : Nat)), .fz (.int (b : Nat)), .fz (.int (k : Nat)), _, _, ⟨rfl, rfl⟩, ?_⟩
    rw [e3, hst]
    dsimp only
    have ecs : (u.cs ++ [(tgt ps u.here b, ((u.path ++ [(u.here, b)]).drop k).map (·.2))]).map cirC = (u.cs.map cirC) ++ [.tp [.fz (.int (tgt ps u.here b : Nat)), .ow (cC7 (((u.path ++ [(u.here, b)]).drop k).map (·.2)))]] := by
      rw [List.map_append]; rfl
    rw [ecs]
    have n1 : ∀ l : List Nat, (l.map iD7).map C.fz = cC7 l := fun l => by unfold cC7; rw [List.map_map]; rfl
    have n2 := n1 (((u.path ++ [(u.here, b)]).take k).map (·.2))
    have n3 := n1 ((plc7 u).take (k + 1))
    have n4 := n1 (((u.path ++ [(u.here, b)]).drop k).map (·.2))
    simp only [Option.map_some] at hix
    generalize cC7 (((u.path ++ [(u.here, b)]).take k).map (·.2)) = r2 at *
    generalize cC7 ((plc7 u).take (k + 1)) = r3 at *
    generalize cC7 (((u.path ++ [(u.here, b)]).drop k).map (·.2)) = r4 at *
    generalize (((u.path ++ [(u.here, b)]).take k).map (·.2)).map iD7 = s2 at *
    generalize ((plc7 u).take (k + 1)).map iD7 = s3 at *
    generalize (((u.path ++ [(u.here, b)]).drop k).map (·.2)).map iD7 = s4 at *
    generalize ((u.path ++ [(u.here, b)]).map (·.2)).map iD7 = bd at *
    generalize cC7 (plc7 u) = pc at *
    generalize cC7 (u.path.map (·.2)) = bc at *
    generalize (u.cs.map cirC) = cc at *
    generalize (plc7 u).map iD7 = pd at *
    generalize tgt ps u.here b = t at *
    simp only [List.map_append, List.map_cons, List.map_nil] at hz2
    have hz3 : bc.map fzD ++ [D.int (b : Nat)] = bd := by simpa [fzD] using hz2
    simp -implicitDefEqProofs [hsm, hz, inD, hin, eIdx, hix, hz3, cut1, cut2, cut3, n2, n3, n4, hscs]
end
end Lw

namespace Lw
open PySem PySem.Spec PyProof.Rows L2 Dn
section
variable {Mg Bg : Nat} {ps : List Pl}
theorem step7_here (u : Un7) (b : Nat) : (step7 ps u b).here = tgt ps u.here b := by
  unfold step7
  dsimp only
  split <;> rfl
theorem unr_loop (x0 x1 x2 : C) : ∀ (js : List Nat) (u : Un7) (c6 c7 c8 : C), u.path.length + js.length ≤ 1000 → u.cs.length + js.length ≤ 1000 →
    ∃ d6 d7 d8, forL (Tg.put (.tup [(.nm 6), (.nm 7)])) b_unrolled_0 ((List.zip (goF ps u.here js) js).map fun q => D.tup [.int (q.1 : Nat), .int (q.2 : Nat)]) [x0, x1, x2, .ow (cC7 (plc7 u)), .ow (cC7 (u.path.map (·.2))), .ow (u.cs.map cirC), c6, c7, c8] =
      .nx [x0, x1, x2, .ow (cC7 (plc7 (unr7 ps u js))), .ow (cC7 ((unr7 ps u js).path.map (·.2))), .ow ((unr7 ps u js).cs.map cirC), d6, d7, d8]
  | [], u, c6, c7, c8, _, _ => ⟨c6, c7, c8, by simp [goF, unr7]⟩
  | b :: js, u, c6, c7, c8, h1, h2 => by
    simp only [List.length_cons] at h1 h2
    obtain ⟨d6, d7, d8, c3, c4, ⟨rfl, rfl⟩, e⟩ := unr_turn (ps := ps) (u := u) (b := b) (by omega) (by omega) x0 x1 x2 c6 c7 c8
    obtain ⟨l1, l2⟩ := step7_len ps u b
    obtain ⟨e6, e7, e8, e'⟩ := unr_loop x0 x1 x2 js (step7 ps u b) d6 d7 d8 (by omega) (by omega)
    refine ⟨e6, e7, e8, ?_⟩
    rw [step7_here] at e'
    have hz : List.zip (goF ps u.here (b :: js)) (b :: js) = (tgt ps u.here b, b) :: List.zip (goF ps (tgt ps u.here b) js) js := rfl
    rw [hz, List.map_cons, forL_cons]
    unfold fStep at e
    split at e
    · cases e
    · rename_i ρ1 hp
      rw [hp]
      dsimp only
      rw [e]
      exact e'
def u70 (s : Nat) : Un7 := ⟨[], s, []⟩
theorem sp_unrolled (pok : ∀ p ∈ ps, plOkG Mg Bg ps.length p) {s : Nat} {js : List Nat} (hw : WayOk ps s js) (hl : js.length ≤ 900) :
    w_unrolled [.fz (.lst (ps.map plD)), .fz (.int (s : Nat)), .fz (.lst (js.map fun b => D.int (b : Nat)))] = .ok (.tp [.ow (cC7 ((unr7 ps (u70 s) js).path.map (·.2))), .ow ((unr7 ps (u70 s) js).cs.map cirC)]) [] := by
  obtain ⟨d6, d7, d8, e⟩ := unr_loop (ps := ps) (.fz (.lst (ps.map plD))) (.fz (.int (s : Nat))) (.fz (.lst (js.map fun b => D.int (b : Nat)))) js (u70 s) .no .no .no (by simp [u70]; omega) (by simp [u70]; omega)
  have h1 := sp_places_on pok hw (by omega)
  have hc : cutL ((s :: goF ps s js).map iD) (some 1) none = (goF ps s js).map iD := by
    have := cut_tail7 ((s :: goF ps s js).map iD) (k := 1) (by simp)
    exact this
  have hfz := fz_iC5 (s :: goF ps s js)
  have hzl : (List.zip (goF ps s js) js).length = js.length := by rw [List.length_zip, goF_len]; omega
  have hz : zipD ((goF ps s js).map iD) (js.map fun b => D.int (b : Nat)) = (List.zip (goF ps s js) js).map fun q => D.tup [.int (q.1 : Nat), .int (q.2 : Nat)] := by
    unfold zipD
    rw [List.zipWith_map, List.zip, List.map_zipWith]
    rfl
  have e0 : plc7 (u70 s) = [s] := rfl
  have e1 : (u70 s).path = [] := rfl
  have e2 : (u70 s).cs = [] := rfl
  have e3 : (u70 s).here = s := rfl
  rw [e0, e1, e2, e3] at e
  have e4 : cC7 [s] = [.fz (.int (s : Nat))] := rfl
  have e5 : cC7 (([] : List (Nat × Nat)).map (·.2)) = [] := rfl
  rw [e4, e5, List.map_nil] at e
  refine run_ok0 ?_
  generalize (s :: goF ps s js).map iC = pc at *
  generalize (s :: goF ps s js).map iD = pd at *
  generalize (goF ps s js).map iD = gd at *
  simp -implicitDefEqProofs [m_unrolled, h1, hfz, hc, hz, e]
end
end Lw

namespace Lw
open PySem PySem.Spec PyProof.Rows L2 Dn
/-! ### the law's unrolling (W7d) -/
def pC7 (q : Nat × Nat) : C := .fz (.tup [.int (q.1 : Nat), .int (q.2 : Nat)])
def pD7 (q : Nat × Nat) : D := .tup [.int (q.1 : Nat), .int (q.2 : Nat)]
theorem intsD_succ7 (k m : Nat) : intsD (k : Int) (m + 1) = .int (k : Int) :: intsD ((k + 1 : Nat) : Int) m := by
  unfold intsD
  rw [List.range_succ_eq_map, List.map_cons, List.map_map]
  have h0 : D.int ((k : Int) + ((0 : Nat) : Int)) = .int (k : Int) := by simp
  rw [h0]
  congr 1
  apply List.map_congr_left
  intro j _
  show D.int ((k : Int) + ((j + 1 : Nat) : Int)) = .int (((k + 1 : Nat) : Int) + (j : Int))
  congr 1
  omega
theorem eqI7 (a b : Nat) : eqD (.int (a : Nat)) (.int (b : Nat)) = some (.bl (decide (a = b))) := by
  have : ((a : Int) = (b : Int)) ↔ a = b := by omega
  simp [this]
section
variable {P : List (Nat × Nat)} {t : Nat}
theorem fst7_none (h : ∀ (j : Nat) (q : Nat × Nat), P[j]? = some q → q.1 ≠ t) : fst7 t P = none := by
  unfold fst7
  rw [List.findIdx?_eq_none_iff]
  intro q m
  obtain ⟨j, hj⟩ := List.getElem?_of_mem m
  simpa using h j q hj
theorem fst7_some {k : Nat} {q : Nat × Nat} (hk : P[k]? = some q) (he : q.1 = t) (h : ∀ j, j < k → ∀ q, P[j]? = some q → q.1 ≠ t) : fst7 t P = some k := by
  unfold fst7
  rw [List.findIdx?_eq_some_iff_getElem]
  obtain ⟨hl, e⟩ := List.getElem?_eq_some_iff.mp hk
  refine ⟨hl, by rw [e]; simpa using he, fun j hj => ?_⟩
  have := h j hj P[j] (List.getElem?_eq_getElem (by omega))
  simpa using this
theorem lun_inner (x0 x1 x2 x6 : C) (cs : List C) (hP : P.length ≤ 1000) (hcs : cs.length ≤ 1000) : ∀ (m k : Nat) (c7 : C), k + m = P.length → (∀ j, j < k → ∀ q, P[j]? = some q → q.1 ≠ t) →
    ∃ c7', forL (Tg.put (.nm 7)) b__law_unrolled_1 (intsD (k : Int) m) [x0, x1, x2, .ow (P.map pC7), .fz (.int (t : Nat)), .ow cs, x6, c7, .no] =
      match fst7 t P with
      | some k => .nx [x0, x1, x2, .ow ((P.take k).map pC7), .fz (.int (t : Nat)), .ow (cs ++ [.fz (cirD (t, (P.drop k).map (·.2)))]), x6, c7', .no]
      | none => .nx [x0, x1, x2, .ow (P.map pC7), .fz (.int (t : Nat)), .ow cs, x6, c7', .no]
  | 0, k, c7, hk, h => ⟨c7, by
      rw [fst7_none fun j q hq => h j (by have := (List.getElem?_eq_some_iff.mp hq).1; omega) q hq]
      rfl⟩
  | m + 1, k, c7, hk, h => by
    have hl : k < P.length := by omega
    have hq : P[k]? = some P[k] := List.getElem?_eq_getElem hl
    have hat : atI (P.map pC7) (k : Int) = some (pC7 P[k]) := by rw [atI_natCast, List.getElem?_map, hq]; rfl
    rw [intsD_succ7, forL_cons]
    by_cases he : P[k].1 = t
    · rw [fst7_some hq he h]
      refine ⟨.fz (.int (k : Nat)), ?_⟩
      have hz : (P.map pC7).map fzD = P.map pD7 := by rw [List.map_map]; rfl
      have c1 : cutL (P.map pD7) (some (k : Int)) none = (P.drop k).map pD7 := by rw [cut_tail7 _ (by simp; omega), List.map_drop]
      have c2 : cutL (P.map pD7) none (some (k : Int)) = (P.take k).map pD7 := by rw [cut_none7 _ (by simp; omega), List.map_take]
      have l1 : ∀ (c3 : C), lcL [8] (Tg.put (.nm 8)) bYes e__law_unrolled_0 ((P.drop k).map pD7) [] [x0, x1, x2, c3, .fz (.int (t : Nat)), .ow cs, x6, .fz (.int (k : Nat)), .no] = .ok ((P.drop k).map fun q => .fz (.int (q.2 : Nat))) [x0, x1, x2, c3, .fz (.int (t : Nat)), .ow cs, x6, .fz (.int (k : Nat)), .no] := fun c3 => by
        refine lcL_getO _ pD7 (fun q => .fz (.int (q.2 : Nat))) _ (by simp; omega) fun q _ => ?_
        simp [pD7]
      have hat2 : pC7 P[k] = .fz (.tup [.int (t : Nat), .int (P[k].2 : Nat)]) := by unfold pC7; rw [he]
      rw [hat2] at hat
      have n1 : ((P.take k).map pD7).map C.fz = (P.take k).map pC7 := by rw [List.map_map]; rfl
      have hc : cirD (t, (P.drop k).map (·.2)) = .tup [.int (t : Nat), .lst ((P.drop k).map fun q => .int (q.2 : Nat))] := by
        unfold cirD; simp [Function.comp_def]
      dsimp only
      rw [hc]
      have n2 : ((P.drop k).map fun q => C.fz (.int (q.2 : Nat))).map fzD = (P.drop k).map fun q => D.int (q.2 : Nat) := by rw [List.map_map]; rfl
      generalize ((P.drop k).map fun q => C.fz (.int (q.2 : Nat))) = dc at *
      generalize ((P.drop k).map fun q => D.int (q.2 : Nat)) = de at *
      generalize (P.drop k).map pD7 = dd at *
      clear hc
      generalize P.map pC7 = pc at *
      generalize P.map pD7 = pd at *
      generalize (P.take k).map pC7 = pt at *
      generalize (P.take k).map pD7 = ptd at *
      have hcs' : cs.length ≤ 1000000 := by omega
      simp -implicitDefEqProofs [hat, hz, c1, c2, l1, n1, n2, hcs', Function.comp_def]
    · obtain ⟨c7', e⟩ := lun_inner x0 x1 x2 x6 cs hP hcs m (k + 1) (.fz (.int (k : Nat))) (by omega) fun j hj q hq' => by
        rcases Nat.lt_succ_iff_lt_or_eq.mp hj with hj | rfl
        · exact h j hj q hq'
        · rw [hq] at hq'; cases hq'; exact he
      refine ⟨c7', ?_⟩
      rw [← e]
      have heI : ((P[k].1 : Int) = (t : Int)) ↔ False := by constructor; (intro h; exact he (by omega)); exact False.elim
      simp -implicitDefEqProofs [hat, pC7, heI]
end
section
variable {Mg Bg : Nat} {ps : List Pl}
theorem lun_loop (pok : ∀ p ∈ ps, plOkG Mg Bg ps.length p) (x1 x2 : C) : ∀ (js : List Nat) (u : Un7) (c6 c7 : C), WayOk ps u.here js → u.path.length + js.length ≤ 900 → u.cs.length + js.length ≤ 900 →
    ∃ d6 d7, forL (Tg.put (.nm 6)) b__law_unrolled_2 (js.map fun b => D.int (b : Nat)) [.fz (.lst (ps.map plD)), x1, x2, .ow (u.path.map pC7), .fz (.int (u.here : Nat)), .ow (u.cs.map fun q => .fz (cirD q)), c6, c7, .no] =
      .nx [.fz (.lst (ps.map plD)), x1, x2, .ow ((unr7 ps u js).path.map pC7), .fz (.int ((unr7 ps u js).here : Nat)), .ow ((unr7 ps u js).cs.map fun q => .fz (cirD q)), d6, d7, .no]
  | [], u, c6, c7, _, _, _ => ⟨c6, c7, rfl⟩
  | b :: js, u, c6, c7, ⟨p, h1, h2, h3⟩, hl1, hl2 => by
    simp only [List.length_cons] at hl1 hl2
    obtain ⟨l1, l2⟩ := step7_len ps u b
    have htg := sp__law_targets (pok p (List.mem_of_getElem? h1))
    have hat : atI (ps.map plD) (u.here : Int) = some (plD p) := by rw [atI_natCast, List.getElem?_map, h1]; rfl
    have hz : atI ((tgsF p).map fun t : Nat => (D.int (t : Nat))) (b : Int) = some (.int (tgt ps u.here b : Nat)) := by
      rw [atI_natCast, List.getElem?_map, tgt_eq h1 h2]; rfl
    have hsm : u.path.length ≤ 1000000 := by omega
    obtain ⟨k7, e7⟩ := lun_inner (P := u.path ++ [(u.here, b)]) (t := tgt ps u.here b) (.fz (.lst (ps.map plD))) x1 x2 (.fz (.int (b : Nat))) (u.cs.map fun q => .fz (cirD q)) (by simp; omega) (by simp; omega) (u.path ++ [(u.here, b)]).length 0 c7 (by omega) (fun j hj => absurd hj (by omega))
    obtain ⟨d6, d7, e⟩ := lun_loop pok x1 x2 js (step7 ps u b) (.fz (.int (b : Nat))) k7 (by rw [step7_here]; exact h3) (by omega) (by omega)
    refine ⟨d6, d7, ?_⟩
    have e7' : forL (Tg.put (.nm 7)) b__law_unrolled_1 (intsD 0 (u.path.length + 1)) [.fz (.lst (ps.map plD)), x1, x2, .ow (u.path.map pC7 ++ [.fz (.tup [.int (u.here : Nat), .int (b : Nat)])]), .fz (.int (tgt ps u.here b : Nat)), .ow (u.cs.map fun q => .fz (cirD q)), .fz (.int (b : Nat)), c7, .no] =
        .nx [.fz (.lst (ps.map plD)), x1, x2, .ow ((step7 ps u b).path.map pC7), .fz (.int ((step7 ps u b).here : Nat)), .ow ((step7 ps u b).cs.map fun q => .fz (cirD q)), .fz (.int (b : Nat)), k7, .no] := by
      have q1 : (u.path ++ [(u.here, b)]).map pC7 = u.path.map pC7 ++ [.fz (.tup [.int (u.here : Nat), .int (b : Nat)])] := by simp [pC7]
      rw [q1, List.length_append] at e7
      refine e7.trans ?_
      cases hk : fst7 (tgt ps u.here b) (u.path ++ [(u.here, b)]) with
      | none =>
        have hst : step7 ps u b = ⟨u.path ++ [(u.here, b)], tgt ps u.here b, u.cs⟩ := by unfold step7; dsimp only; rw [hk]
        rw [hst]
        dsimp only
        rw [q1]
      | some k =>
        have hst : step7 ps u b = ⟨(u.path ++ [(u.here, b)]).take k, tgt ps u.here b, u.cs ++ [(tgt ps u.here b, ((u.path ++ [(u.here, b)]).drop k).map (·.2))]⟩ := by unfold step7; dsimp only; rw [hk]
        rw [hst]
        dsimp only
        rw [List.map_append]
        rfl
    have hr : r62 ((u.path.length : Int) + 1) = true := by rw [r62_eq]; simp; omega
    have ht1 : ((u.path.length : Int) + 1).toNat = u.path.length + 1 := by omega
    rw [List.map_cons, forL_cons]
    have hu : unr7 ps u (b :: js) = unr7 ps (step7 ps u b) js := rfl
    rw [hu, ← e]
    generalize hcc : (step7 ps u b).path.map pC7 = g1 at *
    generalize hcd : ((step7 ps u b).cs.map fun q => C.fz (cirD q)) = g2 at *
    generalize hpl : u.path.map pC7 = g3 at *
    have hg3 : g3.length = u.path.length := by rw [← hpl]; simp
    have hsm3 : g3.length ≤ 1000000 := by omega
    rw [← hg3] at e7' hr ht1
    simp -implicitDefEqProofs [hat, htg, hz, hsm3, hr, ht1, e7', Function.comp_def]
theorem sp__law_unrolled (pok : ∀ p ∈ ps, plOkG Mg Bg ps.length p) {s : Nat} {js : List Nat} (hw : WayOk ps s js) (hl : js.length ≤ 900) :
    w__law_unrolled [.fz (.lst (ps.map plD)), .fz (.int (s : Nat)), .fz (.lst (js.map fun b => D.int (b : Nat)))] = .ok (.fz (.tup [.lst (((unr7 ps (u70 s) js).path.map (·.2)).map iD7), .lst ((unr7 ps (u70 s) js).cs.map cirD)])) [] := by
  obtain ⟨d6, d7, e⟩ := lun_loop pok (.fz (.int (s : Nat))) (.fz (.lst (js.map fun b => D.int (b : Nat)))) js (u70 s) .no .no hw (by simp [u70]; omega) (by simp [u70]; omega)
  have e1 : (u70 s).path = [] := rfl
  have e2 : (u70 s).cs = [] := rfl
  have e3 : (u70 s).here = s := rfl
  rw [e1, e2, e3, List.map_nil, List.map_nil] at e
  have hlen : ∀ (js : List Nat) (u : Un7), (unr7 ps u js).path.length ≤ u.path.length + js.length := by
    intro js
    induction js with
    | nil => intro u; exact Nat.le_refl _
    | cons b js ih => intro u; have := ih (step7 ps u b); have := (step7_len ps u b).1; simp only [List.length_cons]; show (unr7 ps (step7 ps u b) js).path.length ≤ _; omega
  have hll := hlen js (u70 s)
  rw [e1, List.length_nil] at hll
  have l1 : ∀ (c4 c5 c6 c7 : C) (P : List (Nat × Nat)), P.length ≤ 900 → lcL [8] (Tg.put (.nm 8)) bYes e__law_unrolled_3 (P.map pD7) [] [.fz (.lst (ps.map plD)), .fz (.int (s : Nat)), .fz (.lst (js.map fun b => D.int (b : Nat))), .fz (.lst (P.map pD7)), c4, c5, c6, c7, .no] =
      .ok (P.map fun q => .fz (.int (q.2 : Nat))) [.fz (.lst (ps.map plD)), .fz (.int (s : Nat)), .fz (.lst (js.map fun b => D.int (b : Nat))), .fz (.lst (P.map pD7)), c4, c5, c6, c7, .no] := fun c4 c5 c6 c7 P hP => by
    refine lcL_getO _ pD7 (fun q => .fz (.int (q.2 : Nat))) _ (by omega) fun q _ => ?_
    simp [pD7]
  have hz : ∀ P : List (Nat × Nat), (P.map pC7).map fzD = P.map pD7 := fun P => by rw [List.map_map]; rfl
  have hz2 : ((unr7 ps (u70 s) js).cs.map fun q => C.fz (cirD q)).map fzD = (unr7 ps (u70 s) js).cs.map cirD := by rw [List.map_map]; rfl
  have hz3 : ((unr7 ps (u70 s) js).path.map fun q => C.fz (.int (q.2 : Nat))).map fzD = ((unr7 ps (u70 s) js).path.map (·.2)).map iD7 := by rw [List.map_map, List.map_map]; rfl
  have l2 := fun c4 c5 c6 c7 => l1 c4 c5 c6 c7 (unr7 ps (u70 s) js).path (by omega)
  have hz1 := hz (unr7 ps (u70 s) js).path
  refine run_ok ?_
  generalize (unr7 ps (u70 s) js).path.map pC7 = pc at *
  generalize (unr7 ps (u70 s) js).path.map pD7 = pd at *
  generalize (unr7 ps (u70 s) js).path.map (fun q => C.fz (.int (q.2 : Nat))) = pe at *
  generalize ((unr7 ps (u70 s) js).path.map (·.2)).map iD7 = pf at *
  generalize ((unr7 ps (u70 s) js).cs.map fun q => C.fz (cirD q)) = cc at *
  simp -implicitDefEqProofs [m__law_unrolled, e, hz1, l2, hz2, hz3]
end
end Lw

namespace Lw
open PySem PySem.Spec PyProof.Rows L2 Dn
/-! ### what an unrolled way keeps (W7e) -/
section
variable {ps : List Pl}
theorem end_take : ∀ (js : List Nat) (i k : Nat), k < js.length → (lvF ps i js)[k]? = some (endF ps i (js.take k))
  | [], _, _, h => absurd h (by simp)
  | b :: js, i, 0, _ => rfl
  | b :: js, i, k + 1, h => by
    have := end_take js (tgt ps i b) k (by simpa using h)
    simpa [lvF, endF] using this
structure Inv7 (ps : List Pl) (s : Nat) (u : Un7) (js : List Nat) : Prop where
  way : WayOk ps s (u.path.map (·.2))
  lv : lvF ps s (u.path.map (·.2)) = u.path.map (·.1)
  en : endF ps s (u.path.map (·.2)) = u.here
  nd : (u.path.map (·.1) ++ [u.here]).Nodup
  cir : ∀ q ∈ u.cs, WayOk ps q.1 q.2 ∧ endF ps q.1 q.2 = q.1 ∧ (lvF ps q.1 q.2).Nodup
  pm : (u.path.map (·.1) ++ u.cs.flatMap fun q => lvF ps q.1 q.2).Perm (lvF ps s js)
  here : u.here = endF ps s js
theorem inv7_step {s : Nat} {u : Un7} {js : List Nat} {b : Nat} {p : Pl} (I : Inv7 ps s u js) (h1 : ps[u.here]? = some p) (h2 : b < (tgsF p).length) (ht : tgt ps u.here b < ps.length) : Inv7 ps s (step7 ps u b) (js ++ [b]) := by
  have wp : WayOk ps s ((u.path ++ [(u.here, b)]).map (·.2)) := by
    rw [List.map_append]
    refine way_app.mpr ⟨I.way, ?_⟩
    rw [I.en]
    exact ⟨p, h1, h2, ht⟩
  have lp : lvF ps s ((u.path ++ [(u.here, b)]).map (·.2)) = (u.path ++ [(u.here, b)]).map (·.1) := by
    rw [List.map_append, lv_app, I.lv, I.en, List.map_append]
    rfl
  have ep : endF ps s ((u.path ++ [(u.here, b)]).map (·.2)) = tgt ps u.here b := by
    rw [List.map_append, end_app, I.en]
    rfl
  have ej : tgt ps u.here b = endF ps s (js ++ [b]) := by
    rw [end_app, ← I.here]
    rfl
  have pj : ((u.path ++ [(u.here, b)]).map (·.1) ++ u.cs.flatMap fun q => lvF ps q.1 q.2).Perm (lvF ps s (js ++ [b])) := by
    rw [lv_app, ← I.here, List.map_append]
    have : (u.path.map (·.1) ++ [u.here] ++ u.cs.flatMap fun q => lvF ps q.1 q.2).Perm ((u.path.map (·.1) ++ u.cs.flatMap fun q => lvF ps q.1 q.2) ++ [u.here]) := by
      rw [List.append_assoc, List.append_assoc]
      exact List.Perm.append_left _ List.perm_append_comm
    exact this.trans (I.pm.append_right _)
  have nd : ((u.path ++ [(u.here, b)]).map (·.1)).Nodup := by
    rw [List.map_append]; exact I.nd
  cases hk : fst7 (tgt ps u.here b) (u.path ++ [(u.here, b)]) with
  | none =>
    have hst : step7 ps u b = ⟨u.path ++ [(u.here, b)], tgt ps u.here b, u.cs⟩ := by unfold step7; dsimp only; rw [hk]
    rw [hst]
    refine ⟨wp, lp, ep, ?_, I.cir, pj, ej⟩
    rw [List.nodup_append]
    refine ⟨nd, by simp, ?_⟩
    rintro a ha c hc rfl
    rw [List.mem_singleton] at hc
    subst hc
    obtain ⟨q, hq, e⟩ := List.mem_map.mp ha
    unfold fst7 at hk
    have := List.findIdx?_eq_none_iff.mp hk q hq
    simp [e] at this
  | some k =>
    have hst : step7 ps u b = ⟨(u.path ++ [(u.here, b)]).take k, tgt ps u.here b, u.cs ++ [(tgt ps u.here b, ((u.path ++ [(u.here, b)]).drop k).map (·.2))]⟩ := by unfold step7; dsimp only; rw [hk]
    rw [hst]
    obtain ⟨hlt, q1, _⟩ := List.findIdx?_eq_some_iff_getElem.mp hk
    simp only [decide_eq_true_eq] at q1
    generalize tgt ps u.here b = t at *
    generalize u.path ++ [(u.here, b)] = P at *
    have hsp : P.map (·.2) = (P.take k).map (·.2) ++ (P.drop k).map (·.2) := by rw [← List.map_append, List.take_append_drop]
    have hlk : k < (P.map (·.2)).length := by simpa using hlt
    have hend : endF ps s ((P.take k).map (·.2)) = t := by
      have := end_take (ps := ps) _ s k hlk
      rw [lp, List.getElem?_map, List.getElem?_eq_getElem hlt, Option.map_some, q1, ← List.map_take] at this
      exact (Option.some.inj this).symm
    have hlv : lvF ps s ((P.take k).map (·.2)) = (P.take k).map (·.1) ∧ lvF ps t ((P.drop k).map (·.2)) = (P.drop k).map (·.1) := by
      have := lp
      rw [hsp, lv_app, hend] at this
      have e2 : P.map (·.1) = (P.take k).map (·.1) ++ (P.drop k).map (·.1) := by rw [← List.map_append, List.take_append_drop]
      rw [e2] at this
      exact List.append_inj this (by rw [lv_len]; simp)
    have hwy := wp
    rw [hsp, way_app, hend] at hwy
    have hen2 := ep
    rw [hsp, end_app, hend] at hen2
    refine ⟨hwy.1, hlv.1, hend, ?_, fun q m => ?_, ?_, ej⟩
    · have : (P.take k).map (·.1) ++ [t] = (P.map (·.1)).take (k + 1) := by
        rw [List.take_add_one, List.getElem?_map, List.getElem?_eq_getElem hlt, Option.map_some, q1, ← List.map_take]
        rfl
      rw [this]
      exact (List.take_sublist _ _).nodup nd
    · rcases List.mem_append.mp m with m | m
      · exact I.cir q m
      · rw [List.mem_singleton.mp m]
        refine ⟨hwy.2, hen2, ?_⟩
        rw [hlv.2]
        have : (P.drop k).map (·.1) = (P.map (·.1)).drop k := by rw [List.map_drop]
        rw [this]
        exact (List.drop_sublist _ _).nodup nd
    · refine List.Perm.trans ?_ pj
      rw [List.flatMap_append, List.flatMap_cons, List.flatMap_nil, List.append_nil]
      dsimp only
      rw [hlv.2]
      have e2 : P.map (·.1) = (P.take k).map (·.1) ++ (P.drop k).map (·.1) := by rw [← List.map_append, List.take_append_drop]
      rw [e2, List.append_assoc]
      exact List.Perm.append_left _ List.perm_append_comm
theorem inv7_go {s : Nat} : ∀ (js js0 : List Nat) (u : Un7), Inv7 ps s u js0 → WayOk ps u.here js → (∀ i b p, ps[i]? = some p → b < (tgsF p).length → tgt ps i b < ps.length) → Inv7 ps s (unr7 ps u js) (js0 ++ js)
  | [], js0, u, I, _, _ => by simpa [unr7] using I
  | b :: js, js0, u, I, ⟨p, h1, h2, h3⟩, ht => by
    have := inv7_go js (js0 ++ [b]) (step7 ps u b) (inv7_step I h1 h2 (ht _ _ _ h1 h2)) (by rw [step7_here]; exact h3) ht
    rw [List.append_assoc] at this
    exact this
theorem inv7_all {s : Nat} {js : List Nat} (hw : WayOk ps s js) (ht : ∀ i b p, ps[i]? = some p → b < (tgsF p).length → tgt ps i b < ps.length) : Inv7 ps s (unr7 ps (u70 s) js) js := by
  have := inv7_go js [] (u70 s) ⟨hw.start, rfl, rfl, by simp [u70], by simp [u70], by simp [u70, lvF], rfl⟩ hw ht
  simpa using this
end
end Lw

namespace Lw
open PySem PySem.Spec PyProof.Rows L2 Dn
/-! ### sums of ways; refusals (W7f) -/
theorem sumR_perm {a b : List Rat} (h : a.Perm b) : sumR a = sumR b := by
  induction h with
  | nil => rfl
  | cons x _ ih => simp only [sumR, ih]
  | swap x y l => simp only [sumR]; grind
  | trans _ _ h1 h2 => exact h1.trans h2
section
variable {ps : List Pl}
theorem sz7 {n : Nat} (h : n ≤ 24) : Sz 420 (n * 500) := Sz.le (B := 24 * 500) ⟨by decide, by decide⟩ (Nat.mul_le_mul_right _ h)
theorem okq7 (pok : ∀ p ∈ ps, plOkG 420 500 ps.length p) {l : List Nat} (hl : l.length ≤ 24) (hlt : ∀ x ∈ l, x < ps.length) : Okq (sumR (l.map (gAt ps))) ∧ (sumR (l.map (gAt ps))).den < 2 ^ 2600 := by
  have hin : ∀ q ∈ l.map (gAt ps), Inn 420 500 q := fun q m => by
    obtain ⟨i, hi, rfl⟩ := List.mem_map.mp m
    exact (gAt_in5 pok (hlt i hi)).1
  have hS : Inn 420 (0 + (l.map (gAt ps)).length * 500) (sumF 0 (l.map (gAt ps))) := sumF_in _ _ _ hin (Inn.zero (by decide))
  rw [sumF_R, Rat.zero_add] at hS
  have hz : Sz 420 (0 + (l.map (gAt ps)).length * 500) := by rw [List.length_map, Nat.zero_add]; exact sz7 hl
  exact ⟨hS.sz hz, Nat.lt_of_le_of_lt hS.den (by decide)⟩
theorem sp_sum_of (pok : ∀ p ∈ ps, plOkG 420 500 ps.length p) {s : Nat} {js : List Nat} (hw : WayOk ps s js) (hl : js.length ≤ 24) :
    w_sum_of [.fz (.lst (ps.map plD)), .fz (.int (s : Nat)), .fz (.lst (js.map iD))] = .ok (nC (sumR ((lvF ps s js).map (gAt ps)))) [] := by
  have w1 : w_places_on [.fz (.lst (ps.map plD)), .fz (.int (s : Nat)), .fz (.lst (js.map iD))] = .ok (.ow ((lvF ps s js).map iC ++ [iC (endF ps s js)])) [] := by
    have := sp_places_on pok hw (by omega)
    rw [go_lv, List.map_append] at this
    exact this
  have hlv := lv_lt hw
  have hll := lv_len (ps := ps) js s
  have hin : ∀ q ∈ (lvF ps s js).map (gAt ps), Inn 420 500 q := fun q m => by
    obtain ⟨i, hi, rfl⟩ := List.mem_map.mp m
    exact (gAt_in5 pok (hlv i hi)).1
  have hz : Sz 420 (((lvF ps s js).map (gAt ps)).length * 500) := by
    rw [List.length_map, hll]; exact sz7 hl
  have htot := sp_total hin (by decide) hz
  rw [List.map_map, sumF_R, Rat.zero_add] at htot
  have htot' : w_total [.fz (.lst ((lvF ps s js).map fun i => nD (gAt ps i)))] = .ok (nC (sumR ((lvF ps s js).map (gAt ps)))) [] := htot
  have lg : ∀ x1 x2 : C, lcL [3] (Tg.put (.nm 3)) bYes e_sum_of_0 ((lvF ps s js).map iD) [] [.fz (.lst (ps.map plD)), x1, x2, .no] =
      .ok ((lvF ps s js).map fun i => nC (gAt ps i)) [.fz (.lst (ps.map plD)), x1, x2, .no] := fun x1 x2 => by
    refine lcL_getO _ iD (fun i => nC (gAt ps i)) _ (by rw [hll]; omega) fun i hi => ?_
    obtain ⟨k, b, ha⟩ := (gAt_in5 pok (hlv i hi)).2
    simp [iD, ha]
  have hz1 : ((lvF ps s js).map iC ++ [iC (endF ps s js)]).map fzD = (lvF ps s js).map iD ++ [iD (endF ps s js)] := by
    rw [List.map_append, fz_iC5]; rfl
  have hcut := cut_m1 ((lvF ps s js).map iD) (iD (endF ps s js))
  have hnc : ((lvF ps s js).map fun i => nC (gAt ps i)).map fzD = (lvF ps s js).map fun i => nD (gAt ps i) := by rw [List.map_map]; rfl
  refine run_ok0 ?_
  generalize (lvF ps s js).map iC ++ [iC (endF ps s js)] = c1 at *
  generalize ((lvF ps s js).map fun i => nC (gAt ps i)) = gc at *
  generalize ((lvF ps s js).map fun i => nD (gAt ps i)) = gd at *
  generalize (lvF ps s js).map iD ++ [iD (endF ps s js)] = l1 at *
  generalize (lvF ps s js).map iD = ld at *
  generalize ps.map plD = gm at *
  generalize js.map iD = jd at *
  simp -implicitDefEqProofs [m_sum_of, w1, hz1, hcut, lg, hnc, htot']
theorem sp_refused7 {Mg Bg : Nat} (pok : ∀ p ∈ ps, plOkG Mg Bg ps.length p) {s : Nat} {js : List Nat} (hw : WayOk ps s js) (hl : js.length ≤ 900) {b : Int} (hb : b < 0 ∨ 6 ≤ b) (rest : List D) :
    w__law_refused [.fz (.lst (ps.map plD)), .fz (.int (s : Nat)), .fz (.lst (js.map (fun b => D.int (b : Nat)) ++ .int b :: rest))] = .ok (.fz (.int (js.length : Nat))) [] := by
  have e := sp_places_bad pok hw (by omega) hb rest
  have ef : w_unrolled [.fz (.lst (ps.map plD)), .fz (.int (s : Nat)), .fz (.lst (js.map (fun b => D.int (b : Nat)) ++ .int b :: rest))] = .er ⟨"NoBranch", some ("at", .int (js.length : Nat))⟩ [] := by
    unfold w_unrolled runDef
    generalize js.map (fun b => D.int (b : Nat)) ++ .int b :: rest = l at *
    simp -implicitDefEqProofs [m_unrolled, e]
  refine run_ok ?_
  generalize js.map (fun b => D.int (b : Nat)) ++ .int b :: rest = l at *
  simp -implicitDefEqProofs [m__law_refused, ef, iscL, fldOf, List.lookup]
end
end Lw

namespace Lw
open PySem PySem.Spec PyProof.Rows L2 Dn
/-! ### the law's loops (W7g) -/
theorem lcL_first7 {vs : List Nat} {put : C → Rho → Option Rho} {t : M Bool} {el : M C} {d : D} {ds : List D} {ρ ρ0 : Rho} {c : Option C} (h1 : lcF vs put t el d ρ = .ok c ρ0) (h2 : lcF vs put t el d ρ0 = .ok c ρ0) : lcL vs put t el (d :: ds) [] ρ = lcL vs put t el (d :: ds) [] ρ0 := by
  rw [lcF_cons h1 ds [] (by simp), lcF_cons h2 ds [] (by simp)]
theorem nd_take {l : List Nat} (h : l.Nodup) {k : Nat} (hk : k < l.length) : l[k] ∉ l.take k := fun m => by
  have e : l = l.take k ++ l.drop k := (List.take_append_drop k l).symm
  rw [e, List.nodup_append] at h
  have hd : l.drop k = l[k] :: l.drop (k + 1) := List.drop_eq_getElem_cons hk
  exact h.2.2 _ m l[k] (by rw [hd]; exact List.mem_cons_self) rfl
theorem dat_due (path : List Nat) (cs : List (Nat × List Nat)) (h1 : path.length ≤ 1000) (h2 : cs.length ≤ 1000) (h3 : ∀ q ∈ cs, q.2.length ≤ 1000) : Dat 4 (.tup [.lst (path.map iD7), .lst (cs.map cirD)]) := by
  refine .tup (fun d m => ?_) (by simp)
  simp only [List.mem_cons, List.not_mem_nil, or_false] at m
  rcases m with rfl | rfl
  · exact .lst (fun d m => by
      obtain ⟨n, _, rfl⟩ := List.mem_map.mp m
      exact .int _ _) (by simpa using h1)
  · exact .lst (fun d m => by
      obtain ⟨q, hq, rfl⟩ := List.mem_map.mp m
      refine .tup (fun d m => ?_) (by simp)
      simp only [List.mem_cons, List.not_mem_nil, or_false] at m
      rcases m with rfl | rfl
      · exact .int _ _
      · exact .lst (fun d m => by
          obtain ⟨n, _, rfl⟩ := List.mem_map.mp m
          exact .int _ _) (by simpa using h3 q hq)) (by simpa using h2)
section
variable {Mg Bg : Nat} {ps : List Pl}
theorem app_loop (x0 x1 x2 x3 x4 x5 x6 x7 x8 : C) (cs : List (Nat × List Nat)) (h3 : ∀ q ∈ cs, q.2.length ≤ 1000) (c9 c10 : C) (xs : List C) :
    ∃ d9 d10, forC (Tg.put (.tup [(.nm 9), (.nm 10)])) b_law_1 (cs.map cirC) ([x0, x1, x2, x3, x4, x5, x6, x7, x8, c9, c10] ++ xs) = .nx ([x0, x1, x2, x3, x4, x5, x6, x7, x8, d9, d10] ++ xs) := by
  obtain ⟨ρ', e, d9, d10, rfl⟩ := forC_inv (put := Tg.put (.tup [(.nm 9), (.nm 10)])) (x := b_law_1) (fun ρ => ∃ c9 c10, ρ = [x0, x1, x2, x3, x4, x5, x6, x7, x8, c9, c10] ++ xs) (cs.map cirC) (fun c ρ m h => by
    obtain ⟨c9, c10, rfl⟩ := h
    obtain ⟨q, hq, rfl⟩ := List.mem_map.mp m
    have hl := h3 q hq
    refine ⟨[x0, x1, x2, x3, x4, x5, x6, x7, x8, .fz (.int (q.1 : Nat)), .ow (cC7 q.2)] ++ xs, [x0, x1, x2, x3, x4, x5, x6, x7, x8, .fz (.int (q.1 : Nat)), .ow (cC7 q.2 ++ [.fz (.int 0)])] ++ xs, by simp [cirC, putL], .inl ?_, _, _, rfl⟩
    have hs : (cC7 q.2).length ≤ 1000000 := by simp [cC7]; omega
    generalize cC7 q.2 = l at *
    simp [hs]) (ρ := [x0, x1, x2, x3, x4, x5, x6, x7, x8, c9, c10] ++ xs) ⟨_, _, rfl⟩
  exact ⟨d9, d10, e⟩
theorem turn7 (pok : ∀ p ∈ ps, plOkG Mg Bg ps.length p) {s : Nat} {js : List Nat} (hw : WayOk ps s js) (hl : js.length ≤ 900) {path : List Nat} {cs : List (Nat × List Nat)}
    (hp : path = (unr7 ps (u70 s) js).path.map (·.2)) (hc : cs = (unr7 ps (u70 s) js).cs) (h1 : path.length ≤ 1000) (h2 : cs.length ≤ 1000) (h3 : ∀ q ∈ cs, q.2.length ≤ 1000) (k : Nat) (x0 x1 x5 c7 c8 c9 c10 x11 x12 x13 x14 x15 x16 x17 : C) :
    (fStep (Tg.put (.nm 7)) b_law_2 (.int (k : Nat)) [x0, x1, .fz (.lst (ps.map plD)), .fz (.int (s : Nat)), .fz (.lst (js.map iD)), x5, .fz (.tup [.lst (path.map iD7), .lst (cs.map cirD)]), c7, c8, c9, c10, x11, x12, x13, x14, x15, x16, x17]).sat
      fun ρ => ∃ c7 c8 c9 c10, ρ = [x0, x1, .fz (.lst (ps.map plD)), .fz (.int (s : Nat)), .fz (.lst (js.map iD)), x5, .fz (.tup [.lst (path.map iD7), .lst (cs.map cirD)]), c7, c8, c9, c10, x11, x12, x13, x14, x15, x16, x17] := by
  have e := sp_unrolled pok hw hl
  rw [← hp, ← hc] at e
  replace e : w_unrolled [.fz (.lst (ps.map plD)), .fz (.int (s : Nat)), .fz (.lst (js.map iD))] = .ok (.tp [.ow (cC7 path), .ow (cs.map cirC)]) [] := e
  have hz1 : (cC7 path).map fzD = path.map iD7 := fz7 path
  have hz2 : (cs.map cirC).map fzD = cs.map cirD := by rw [List.map_map]; exact List.map_congr_left fun q _ => cirC_fz q
  have hsame := sp__law_same (dat_due path cs h1 h2 h3) (by decide)
  obtain ⟨d9, d10, el⟩ := app_loop x0 x1 (.fz (.lst (ps.map plD))) (.fz (.int (s : Nat))) (.fz (.lst (js.map iD))) x5 (.fz (.tup [.lst (path.map iD7), .lst (cs.map cirD)])) (.fz (.int (k : Nat))) (.tp [.ow (cC7 path), .ow ((cs.map cirC).map fun _ => .fz qD)]) cs h3 c9 c10 [x11, x12, x13, x14, x15, x16, x17]
  have hs1 : (cC7 path).length ≤ 1000000 := by simp [cC7]; omega
  have hs2 : (cs.map cirC).length ≤ 1000000 := by simp; omega
  have t1 : takeC [1] (.tp [.ow (cC7 path), .ow (cs.map cirC)]) = some (.ow (cs.map cirC)) := rfl
  have g1 : ghC [1] (.tp [.ow (cC7 path), .ow (cs.map cirC)]) = some (.tp [.ow (cC7 path), .ow ((cs.map cirC).map fun _ => .fz qD)]) := rfl
  have hs3 : ((cs.map cirC).map fun _ => C.fz qD).length ≤ 1000000 := by simp; omega
  generalize ((cs.map cirC).map fun _ => C.fz qD) = gc at *
  generalize cC7 path = pc at *
  generalize cs.map cirC = cc at *
  generalize path.map iD7 = pd at *
  generalize cs.map cirD = cd at *
  generalize js.map iD = jd at *
  generalize ps.map plD = gm at *
  have u1 : upC (pushF (.int 0)) [0] (.tp [.ow pc, .ow gc]) = some (.tp [.ow (pc ++ [.fz (.int 0)]), .ow gc]) := by
    have : pushF (.int 0) pc = some (pc ++ [.fz (.int 0)]) := by unfold pushF; rw [if_pos (by simpa using hs1)]
    show (Option.bind (ixN 2 0) _) = _
    simp [ixN, upC, this]
  have u2 : upC (pushF .non) [1] (.tp [.ow (pc ++ [.fz (.int 0)]), .ow gc]) = some (.tp [.ow (pc ++ [.fz (.int 0)]), .ow (gc ++ [.fz .non])]) := by
    have : pushF .non gc = some (gc ++ [.fz .non]) := by unfold pushF; rw [if_pos (by simpa using hs3)]
    show (Option.bind (ixN 2 1) _) = _
    simp [ixN, upC, this]
  simp only [List.cons_append, List.nil_append] at el
  simp -implicitDefEqProofs [e, hz1, hz2, hsame, truD, sForL, t1, g1, el, sMut, stpsR, stpR, u1, u2]
end
end Lw

namespace Lw
open PySem PySem.Spec PyProof.Rows L2 Dn
/-! ### the circles looked at (W7h) -/
theorem in_take7 {l : List Nat} (h : l.Nodup) (rest : List Nat) {k : Nat} (hk : k < l.length) : inP (.int (l[k] : Nat)) (.lst (((l ++ rest).take k).map iD)) = some false := by
  rw [in_iD, List.take_append_of_le_length (by omega), decide_eq_false (nd_take h hk)]
theorem anyD_false7 (n : Nat) : anyD (.lst ((List.range n).map fun _ => D.bl false)) = some (.bl false) := by
  have : boolsOf ((List.range n).map fun _ => D.bl false) = some ((List.range n).map fun _ => false) := by
    generalize List.range n = l
    induction l with
    | nil => rfl
    | cons a l ih => simp [boolsOf, ih]
  simp [anyD, this]
section
variable {ps : List Pl}
theorem ring_test {l rest : List Nat} (h : l.Nodup) (hl : l.length ≤ 1000) (x0 x1 x2 x3 x4 x5 x6 x7 x8 x9 x10 x11 x12 x13 x14 x15 : C) :
    ∃ c16, lcL [17] (Tg.put (.nm 17)) bYes e_law_3 (intsD 0 l.length) [] [x0, x1, x2, x3, x4, x5, x6, x7, x8, x9, x10, x11, x12, x13, x14, x15, .ow ((l ++ rest).map iC), .no] =
      .ok ((List.range l.length).map fun _ => .fz (.bl false)) [x0, x1, x2, x3, x4, x5, x6, x7, x8, x9, x10, x11, x12, x13, x14, x15, c16, .no] := by
  have hz : ((l ++ rest).map iC).map fzD = (l ++ rest).map iD := fz_iC5 _
  have one : ∀ k, k < l.length → lcF [17] (Tg.put (.nm 17)) bYes e_law_3 (.int (k : Nat)) [x0, x1, x2, x3, x4, x5, x6, x7, x8, x9, x10, x11, x12, x13, x14, x15, .ow ((l ++ rest).map iC), .no] = .ok (some (.fz (.bl false))) [x0, x1, x2, x3, x4, x5, x6, x7, x8, x9, x10, x11, x12, x13, x14, x15, .fz (.lst ((l ++ rest).map iD)), .no] := fun k hk => by
    have hi := in_take7 h rest hk
    have ha : atI ((l ++ rest).map iC) (k : Int) = some (.fz (.int (l[k] : Nat))) := by
      rw [atI_natCast, List.getElem?_map, List.getElem?_append_left hk, List.getElem?_eq_getElem hk]; rfl
    have hc : cutL ((l ++ rest).map iD) none (some (k : Int)) = ((l ++ rest).take k).map iD := by
      rw [cut_none7 _ (by simp; omega), List.map_take]
    generalize (l ++ rest).map iC = c at *
    generalize (l ++ rest).map iD = d at *
    generalize ((l ++ rest).take k).map iD = e at *
    simp -implicitDefEqProofs [ha, hz, hc, inD, hi]
  have two : ∀ k, k < l.length → lcF [17] (Tg.put (.nm 17)) bYes e_law_3 (.int (k : Nat)) [x0, x1, x2, x3, x4, x5, x6, x7, x8, x9, x10, x11, x12, x13, x14, x15, .fz (.lst ((l ++ rest).map iD)), .no] = .ok (some (.fz (.bl false))) [x0, x1, x2, x3, x4, x5, x6, x7, x8, x9, x10, x11, x12, x13, x14, x15, .fz (.lst ((l ++ rest).map iD)), .no] := fun k hk => by
    have hi := in_take7 h rest hk
    have ha : atI ((l ++ rest).map iD) (k : Int) = some (.int (l[k] : Nat)) := by
      rw [atI_natCast, List.getElem?_map, List.getElem?_append_left hk, List.getElem?_eq_getElem hk]; rfl
    have hc : cutL ((l ++ rest).map iD) none (some (k : Int)) = ((l ++ rest).take k).map iD := by
      rw [cut_none7 _ (by simp; omega), List.map_take]
    generalize (l ++ rest).map iD = d at *
    generalize ((l ++ rest).take k).map iD = e at *
    simp -implicitDefEqProofs [ha, hc, inD, hi]
  cases hn : l.length with
  | zero => exact ⟨_, rfl⟩
  | succ n =>
    refine ⟨.fz (.lst ((l ++ rest).map iD)), ?_⟩
    have e0 : intsD 0 (n + 1) = .int ((0 : Nat) : Int) :: intsD ((0 + 1 : Nat) : Int) n := intsD_succ7 0 n
    rw [e0, lcL_first7 (one 0 (by omega)) (two 0 (by omega)), ← e0]
    have e1 : intsD 0 (n + 1) = (List.range (n + 1)).map fun i => D.int (i : Nat) := by simp [intsD]
    have := lcL_filtO (vs := [17]) (put := Tg.put (.nm 17)) (t := bYes) (el := e_law_3) [x0, x1, x2, x3, x4, x5, x6, x7, x8, x9, x10, x11, x12, x13, x14, x15, .fz (.lst ((l ++ rest).map iD)), .no] (fun i => D.int (i : Nat)) (fun _ => true) (fun _ => C.fz (.bl false)) (List.range (n + 1)) (by simp; omega) (fun k hk => by
      have := two k (by have := List.mem_range.mp hk; omega)
      simpa using this)
    rw [e1]
    rw [List.filter_eq_self.mpr fun _ _ => rfl] at this
    exact this
/-- a circle -/
theorem circle_turn (pok : ∀ p ∈ ps, plOkG 420 500 ps.length p) {q : Nat × List Nat} {L : List Nat} (hL : ∀ x ∈ L, x < ps.length) (hw : WayOk ps q.1 q.2) (he : endF ps q.1 q.2 = q.1) (hn : (lvF ps q.1 q.2).Nodup) (hl : L.length + q.2.length ≤ 24) (x0 x1 x3 x4 x5 x6 x7 x8 c9 c10 x11 x12 x13 c16 : C) :
    ∃ d9 d10 d16, fStep (Tg.put (.tup [(.nm 9), (.nm 10)])) b_law_4 (cirD q) [x0, x1, .fz (.lst (ps.map plD)), x3, x4, x5, x6, x7, x8, c9, c10, x11, x12, x13, nC (sumR (L.map (gAt ps))), .fz (.int (L.length : Nat)), c16, .no] =
      .nx [x0, x1, .fz (.lst (ps.map plD)), x3, x4, x5, x6, x7, x8, d9, d10, x11, x12, x13, nC (sumR ((L ++ lvF ps q.1 q.2).map (gAt ps))), .fz (.int ((L ++ lvF ps q.1 q.2).length : Nat)), d16, .no] := by
  have hll := lv_len (ps := ps) q.2 q.1
  have e1 := sp__law_places pok hw (by omega)
  rw [go_lv, he] at e1
  obtain ⟨d16, e2⟩ := ring_test (rest := [q.1]) hn (by omega) x0 x1 (.fz (.lst (ps.map plD))) x3 x4 x5 x6 x7 x8 (.fz (.int (q.1 : Nat))) (.fz (.lst (q.2.map iD))) x11 x12 x13 (nC (sumR (L.map (gAt ps)))) (.fz (.int (L.length : Nat)))
  rw [hll] at e2
  have e3 := sp_sum_of pok hw (by omega)
  have k1 := okq7 pok (l := L) (by omega) hL
  have k2 := okq7 pok (l := lvF ps q.1 q.2) (by omega) (lv_lt hw)
  have k3 := okq7 pok (l := L ++ lvF ps q.1 q.2) (by simp; omega) (fun x m => by
    rcases List.mem_append.mp m with m | m
    · exact hL x m
    · exact lv_lt hw x m)
  rw [List.map_append, sumR_app] at k3
  have e4 := sp__law_plus k1.1 k2.1 k3.2
  rw [List.map_append, sumR_app, List.length_append, hll]
  have hgl : (((lvF ps q.1 q.2) ++ [q.1]).map iC).getLast? = some (.fz (.int (q.1 : Nat))) := by simp [iC]
  have ha : anyD (.lst ((List.range q.2.length).map fun _ => D.bl false)) = some (.bl false) := anyD_false7 _
  have hr : r62 (q.2.length : Int) = true := by rw [r62_eq]; simp; omega
  have hcl : cirD q = .tup [.int (q.1 : Nat), .lst (q.2.map iD)] := rfl
  have hz : ((List.range q.2.length).map fun _ => C.fz (.bl false)).map fzD = (List.range q.2.length).map fun _ => D.bl false := by rw [List.map_map]; rfl
  have hzl : (q.2.map iD).length = q.2.length := by simp
  refine ⟨.fz (.int (q.1 : Nat)), .fz (.lst (q.2.map iD)), d16, ?_⟩
  rw [hcl]
  have iD_ : ∀ n : Nat, iD n = .int (n : Nat) := fun _ => rfl
  generalize ((lvF ps q.1 q.2) ++ [q.1]).map iC = rc at *
  generalize ((List.range q.2.length).map fun _ => C.fz (.bl false)) = bc at *
  generalize ((List.range q.2.length).map fun _ => D.bl false) = bd at *
  have e1' : w__law_places [.fz (.lst (ps.map plD)), .fz (.int (q.1 : Nat)), .fz (.lst (q.2.map iD))] = .ok (.ow rc) [] := e1
  clear e1
  generalize q.2.map iD = qd at *
  generalize sumR ((lvF ps q.1 q.2).map (gAt ps)) = r2 at *
  generalize sumR (L.map (gAt ps)) = r1 at *
  generalize ps.map plD = gm at *
  simp -implicitDefEqProofs [e1', hgl, hzl, hr, e2, hz, ha, truD, e3, e4]
theorem circles_loop (pok : ∀ p ∈ ps, plOkG 420 500 ps.length p) (x0 x1 x3 x4 x5 x6 x7 x8 x11 x12 x13 : C) : ∀ (cs : List (Nat × List Nat)) (L : List Nat) (c9 c10 c16 : C), (∀ x ∈ L, x < ps.length) → (∀ q ∈ cs, WayOk ps q.1 q.2 ∧ endF ps q.1 q.2 = q.1 ∧ (lvF ps q.1 q.2).Nodup) → (L ++ cs.flatMap fun q => lvF ps q.1 q.2).length ≤ 24 →
    ∃ d9 d10 d16, forL (Tg.put (.tup [(.nm 9), (.nm 10)])) b_law_4 (cs.map cirD) [x0, x1, .fz (.lst (ps.map plD)), x3, x4, x5, x6, x7, x8, c9, c10, x11, x12, x13, nC (sumR (L.map (gAt ps))), .fz (.int (L.length : Nat)), c16, .no] =
      .nx [x0, x1, .fz (.lst (ps.map plD)), x3, x4, x5, x6, x7, x8, d9, d10, x11, x12, x13, nC (sumR ((L ++ cs.flatMap fun q => lvF ps q.1 q.2).map (gAt ps))), .fz (.int ((L ++ cs.flatMap fun q => lvF ps q.1 q.2).length : Nat)), d16, .no]
  | [], L, c9, c10, c16, _, _, _ => ⟨c9, c10, c16, by simp⟩
  | q :: cs, L, c9, c10, c16, hL, hc, hl => by
    obtain ⟨w1, w2, w3⟩ := hc q List.mem_cons_self
    have hll := lv_len (ps := ps) q.2 q.1
    rw [List.flatMap_cons, ← List.append_assoc] at hl ⊢
    have hl2 : L.length + q.2.length ≤ 24 := by
      rw [List.length_append, List.length_append, hll] at hl; omega
    obtain ⟨k9, k10, k16, e⟩ := circle_turn pok hL w1 w2 w3 hl2 x0 x1 x3 x4 x5 x6 x7 x8 c9 c10 x11 x12 x13 c16
    obtain ⟨d9, d10, d16, e'⟩ := circles_loop pok x0 x1 x3 x4 x5 x6 x7 x8 x11 x12 x13 cs (L ++ lvF ps q.1 q.2) k9 k10 k16 (fun x m => by
      rcases List.mem_append.mp m with m | m
      · exact hL x m
      · exact lv_lt w1 x m) (fun q m => hc q (List.mem_cons_of_mem _ m)) hl
    refine ⟨d9, d10, d16, ?_⟩
    rw [← e', List.map_cons, forL_cons]
    unfold fStep at e
    split at e
    · cases e
    · rename_i ρ1 hp
      rw [e]
end
end Lw

namespace Lw
open PySem PySem.Spec PyProof.Rows L2 Dn
/-! ### the law (W7i) -/
theorem dist_test {l : List Nat} (h : l.Nodup) (h0 : 0 < l.length) (hl : l.length ≤ 1000) (x0 x1 x2 x3 x4 x5 x6 x7 x8 x9 x10 x11 x12 x14 x15 x16 : C) :
    lcL [17] (Tg.put (.nm 17)) (asB (eOp ninD (eIxV 13 (eVar 17)) (eSl (eVar 13) pNone (pSome (eVar 17))))) (eVar 17) (intsD 0 l.length) [] [x0, x1, x2, x3, x4, x5, x6, x7, x8, x9, x10, x11, x12, .ow (l.map iC), x14, x15, x16, .no] =
      .ok ((List.range l.length).map fun k => .fz (.int (k : Nat))) [x0, x1, x2, x3, x4, x5, x6, x7, x8, x9, x10, x11, x12, .fz (.lst (l.map iD)), x14, x15, x16, .no] := by
  have hz : (l.map iC).map fzD = l.map iD := fz_iC5 _
  have one : ∀ k, k < l.length → lcF [17] (Tg.put (.nm 17)) (asB (eOp ninD (eIxV 13 (eVar 17)) (eSl (eVar 13) pNone (pSome (eVar 17))))) (eVar 17) (.int (k : Nat)) [x0, x1, x2, x3, x4, x5, x6, x7, x8, x9, x10, x11, x12, .ow (l.map iC), x14, x15, x16, .no] = .ok (some (.fz (.int (k : Nat)))) [x0, x1, x2, x3, x4, x5, x6, x7, x8, x9, x10, x11, x12, .fz (.lst (l.map iD)), x14, x15, x16, .no] := fun k hk => by
    have hi := in_take7 h [] hk
    rw [List.append_nil] at hi
    have ha : atI (l.map iC) (k : Int) = some (.fz (.int (l[k] : Nat))) := by
      rw [atI_natCast, List.getElem?_map, List.getElem?_eq_getElem hk]; rfl
    have hc : cutL (l.map iD) none (some (k : Int)) = (l.take k).map iD := by
      rw [cut_none7 _ (by simp; omega), List.map_take]
    generalize l.map iC = c at *
    generalize l.map iD = d at *
    generalize (l.take k).map iD = e at *
    simp -implicitDefEqProofs [ha, hz, hc, ninD, hi]
  have two : ∀ k, k < l.length → lcF [17] (Tg.put (.nm 17)) (asB (eOp ninD (eIxV 13 (eVar 17)) (eSl (eVar 13) pNone (pSome (eVar 17))))) (eVar 17) (.int (k : Nat)) [x0, x1, x2, x3, x4, x5, x6, x7, x8, x9, x10, x11, x12, .fz (.lst (l.map iD)), x14, x15, x16, .no] = .ok (some (.fz (.int (k : Nat)))) [x0, x1, x2, x3, x4, x5, x6, x7, x8, x9, x10, x11, x12, .fz (.lst (l.map iD)), x14, x15, x16, .no] := fun k hk => by
    have hi := in_take7 h [] hk
    rw [List.append_nil] at hi
    have ha : atI (l.map iD) (k : Int) = some (.int (l[k] : Nat)) := by
      rw [atI_natCast, List.getElem?_map, List.getElem?_eq_getElem hk]; rfl
    have hc : cutL (l.map iD) none (some (k : Int)) = (l.take k).map iD := by
      rw [cut_none7 _ (by simp; omega), List.map_take]
    generalize l.map iD = d at *
    generalize (l.take k).map iD = e at *
    simp -implicitDefEqProofs [ha, hc, ninD, hi]
  obtain ⟨n, hn⟩ : ∃ n, l.length = n + 1 := ⟨l.length - 1, by omega⟩
  rw [hn]
  have e0 : intsD 0 (n + 1) = .int ((0 : Nat) : Int) :: intsD ((0 + 1 : Nat) : Int) n := intsD_succ7 0 n
  rw [e0, lcL_first7 (one 0 (by omega)) (two 0 (by omega)), ← e0]
  have e1 : intsD 0 (n + 1) = (List.range (n + 1)).map fun i => D.int (i : Nat) := by simp [intsD]
  have := lcL_filtO (vs := [17]) (put := Tg.put (.nm 17)) (t := (asB (eOp ninD (eIxV 13 (eVar 17)) (eSl (eVar 13) pNone (pSome (eVar 17)))))) (el := eVar 17) [x0, x1, x2, x3, x4, x5, x6, x7, x8, x9, x10, x11, x12, .fz (.lst (l.map iD)), x14, x15, x16, .no] (fun i => D.int (i : Nat)) (fun _ => true) (fun k => C.fz (.int (k : Nat))) (List.range (n + 1)) (by simp; omega) (fun k hk => by
    have := two k (by have := List.mem_range.mp hk; omega)
    simpa using this)
  rw [e1]
  rw [List.filter_eq_self.mpr fun _ _ => rfl] at this
  exact this
theorem way_lt7 {Mg Bg : Nat} {ps : List Pl} (pok : ∀ p ∈ ps, plOkG Mg Bg ps.length p) : ∀ (js : List Nat) (i : Nat), WayOk ps i js → ∀ b ∈ js, b < 6
  | [], _, _, _, m => by cases m
  | b :: js, i, ⟨p, h1, h2, h3⟩, x, m => by
    rcases List.mem_cons.mp m with rfl | m
    · have := (tgs_ok (pok p (List.mem_of_getElem? h1))).1
      omega
    · exact way_lt7 pok js _ h3 x m
theorem flat_len7 {α β : Type} (f : α → List β) : ∀ (l : List α) (a : α), a ∈ l → (f a).length ≤ (l.flatMap f).length
  | [], _, m => nomatch m
  | b :: l, a, m => by
    rw [List.flatMap_cons, List.length_append]
    rcases List.mem_cons.mp m with rfl | m
    · omega
    · have := flat_len7 f l a m; omega
/-- the ring of twelve -/
def ring12 : List Pl := (List.range 12).map fun k => .ch ((k : Nat) : Rat) false [(k + 1) % 12, (k + 1) % 12, (k + 1) % 12, 0]
theorem ring12_ok : ∀ p ∈ ring12, plOkG 420 500 ring12.length p := by
  intro p m
  obtain ⟨k, hk, rfl⟩ := List.mem_map.mp m
  have hk := List.mem_range.mp hk
  refine ⟨⟨by decide, (k : Int) * 420, ?_, ?_⟩, by simp, by simp, ?_⟩
  · rw [Rat.divInt_eq_div, Rat.intCast_mul]
    have : ((420 : Nat) : Int) = (420 : Int) := rfl
    rw [this]
    show (k : Rat) = ((k : Int) : Rat) * (420 : Rat) / (420 : Rat)
    rw [Rat.mul_div_cancel (by decide)]
    rfl
  · omega
  · intro t ht
    simp only [List.mem_cons, List.not_mem_nil, or_false] at ht
    have hl : ring12.length = 12 := by simp [ring12]
    rw [hl]
    omega
theorem law_true : ∀ ns : List Int, ns.length ≤ 63 → ∃ ρ, w_law0 [.fz (.fr (ns.map D.int))] = .ok (.fz (.bl true)) ρ := by
  intro ns hns
  obtain ⟨ds, dl, dok, hdr⟩ := sp__law_draws ns 140 (by decide) hns
  replace hdr : w__law_draws [.fz (.fr (ns.map D.int)), .fz (.int 140)] = .ok (.ow (ds.map fun i => .fz (.int i))) [] := hdr
  have at_ : ∀ j : Nat, j < 140 → ∃ x, atI (ds.map D.int) (j : Int) = some (.int x) ∧ DrawOk x := fun j hj => by
    have h := atI_ds dok (j := (j : Nat)) (by omega) (by omega)
    exact ⟨_, h.1, h.2⟩
  obtain ⟨d106, a106, k106⟩ := at_ 106 (by decide)
  obtain ⟨d131, a131, k131⟩ := at_ 131 (by decide)
  obtain ⟨d132, a132, k132⟩ := at_ 132 (by decide)
  replace a106 : atI (ds.map D.int) 106 = some (.int d106) := a106
  replace a131 : atI (ds.map D.int) 131 = some (.int d131) := a131
  replace a132 : atI (ds.map D.int) 132 = some (.int d132) := a132
  obtain ⟨ps0, p00, p06, pok0, hgm⟩ := sp__law_game (most := 7) (by decide) (by decide) (by omega) dok
  replace hgm : w__law_game [.fz (.lst (ds.map D.int)), .fz (.int 7)] = .ok (.ow (ps0.map fun p => .fz (plD p))) [] := hgm
  obtain ⟨ps, p0, p12, pok, hps⟩ : ∃ ps : List Pl, 0 < ps.length ∧ ps.length ≤ 12 ∧ (∀ p ∈ ps, plOkG 420 500 ps.length p) ∧ ps = if d132 % 4 = 0 then ring12 else ps0 := by
    refine ⟨_, ?_, ?_, ?_, rfl⟩
    · split
      · simp [ring12]
      · exact p00
    · split
      · simp [ring12]
      · omega
    · split
      · exact ring12_ok
      · exact pok0
  have hn0 : (ps.length : Int) ≠ 0 := by omega
  have hnp : (0 : Int) < (ps.length : Int) := by omega
  have es : ((d106 % (ps.length : Int)).toNat : Int) = d106 % (ps.length : Int) := Int.toNat_of_nonneg (Int.emod_nonneg _ hn0)
  have bs := Int.emod_lt_of_pos d106 hnp
  generalize hsg : (d106 % (ps.length : Int)).toNat = s at *
  have hs : s < ps.length := by omega
  have hn131 : ((d131 % 25).toNat : Int) = d131 % 25 := Int.toNat_of_nonneg (Int.emod_nonneg _ (by omega))
  have h25 : (d131 % 25).toNat < 25 := by omega
  generalize hng : (d131 % 25).toNat = n at *
  obtain ⟨js, hjl, hjw, hway⟩ := sp__law_way pok hs (ds := (ds.drop 107).take n) (by simp; omega)
  have c107 : cutL (ds.map D.int) (some 107) (some (107 + d131 % 25)) = ((ds.drop 107).take n).map D.int := by
    have := cutL_eq (ds.map D.int) 107 (107 + n) (by simp; omega) (by omega)
    rw [← List.map_drop, ← List.map_take, show 107 + n - 107 = n by omega] at this
    rw [← this, ← hn131]
    simp
  have hj : js.length ≤ 24 := by rw [hjl]; simp; omega
  have hun := sp__law_unrolled pok hjw (by omega)
  have I := inv7_all hjw (fun i b p h1 h2 => tgt_lt5 pok h1 h2)
  have hlens : ∀ (js : List Nat) (u : Un7), (unr7 ps u js).path.length ≤ u.path.length + js.length ∧ (unr7 ps u js).cs.length ≤ u.cs.length + js.length := by
    intro js
    induction js with
    | nil => intro u; exact ⟨Nat.le_refl _, Nat.le_refl _⟩
    | cons b js ih =>
      intro u
      have h1 := ih (step7 ps u b)
      have h2 := step7_len ps u b
      simp only [List.length_cons]
      show (unr7 ps (step7 ps u b) js).path.length ≤ _ ∧ (unr7 ps (step7 ps u b) js).cs.length ≤ _
      omega
  obtain ⟨path, hpath⟩ : ∃ p, p = (unr7 ps (u70 s) js).path.map (·.2) := ⟨_, rfl⟩
  obtain ⟨cs, hcs⟩ : ∃ c, c = (unr7 ps (u70 s) js).cs := ⟨_, rfl⟩
  have hlen := hlens js (u70 s)
  have i1 := I.way
  have i2 := I.lv
  have i3 := I.nd
  have i4 := I.cir
  have i5 := I.pm
  have i6 := I.en
  rw [← hpath] at i1 i2 i6
  rw [← hcs] at i4 i5
  rw [← i2] at i5
  rw [← i2, ← i6] at i3
  rw [← hpath, ← hcs] at hun
  have hp1 : path.length ≤ 24 := by
    rw [hpath, List.length_map]
    have : (u70 s).path.length = 0 := rfl
    omega
  have hc1 : cs.length ≤ 24 := by
    rw [hcs]
    have : (u70 s).cs.length = 0 := rfl
    omega
  have hsum : (lvF ps s path ++ cs.flatMap fun q => lvF ps q.1 q.2).length ≤ 24 := by
    rw [i5.length_eq, lv_len]; exact hj
  have hq : ∀ q ∈ cs, q.2.length ≤ 1000 := fun q m => by
    have h1 : (lvF ps q.1 q.2).length ≤ (cs.flatMap fun q => lvF ps q.1 q.2).length := flat_len7 (fun q : Nat × List Nat => lvF ps q.1 q.2) cs q m
    rw [lv_len] at h1
    rw [List.length_append] at hsum
    omega
  have hg : Shw 5 300060 (.lst (ps.map plD)) := Shw.lst (n := 4) (w := 5000) (l := 60) (fun d m => by
    obtain ⟨p, h, rfl⟩ := List.mem_map.mp m
    exact shw_pl (by omega) (pok p h)) (by simp; omega)
  have hjs : Shw 1 1560 (.lst (js.map iD)) := Shw.lst (n := 0) (w := 64) (l := 24) (fun d m => by
    obtain ⟨x, hx, rfl⟩ := List.mem_map.mp m
    exact .int (by have := way_lt7 pok js _ hjw x hx; simp; omega)) (by simpa using hj)
  obtain ⟨rs, hrs⟩ := reprD_tup (n := 6) (w := 2 * (300060 + 1)) (ds := [.lst (ps.map plD), .lst (js.map iD)]) (Shw.tup (n := 5) (w := 300060) (l := 2) (fun d m => by
    simp only [List.mem_cons, List.not_mem_nil, or_false] at m
    rcases m with rfl | rfl
    · exact hg
    · exact hjs.le (by decide) (by decide)) (by simp))
  have r2 := sp_refused7 pok hjw (by omega) (b := 99) (by omega) [.int (-1)]
  have e13 : w__law_places [.fz (.lst (ps.map plD)), .fz (.int (s : Nat)), .fz (.lst (path.map iD7))] = .ok (.ow ((lvF ps s path ++ [endF ps s path]).map iC)) [] := by
    have := sp__law_places pok i1 (by omega)
    rw [go_lv] at this
    exact this
  have e14 : w_sum_of [.fz (.lst (ps.map plD)), .fz (.int (s : Nat)), .fz (.lst (path.map iD7))] = .ok (nC (sumR ((lvF ps s path).map (gAt ps)))) [] := sp_sum_of pok i1 hp1
  have e14' : w_sum_of [.fz (.lst (ps.map plD)), .fz (.int (s : Nat)), .fz (.lst (js.map iD))] = .ok (nC (sumR ((lvF ps s js).map (gAt ps)))) [] := sp_sum_of pok hjw hj
  have hsm := sumR_perm (i5.map (gAt ps))
  have hln := i5.length_eq
  rw [lv_len] at hln
  have hr2 : r62 2 = true := by rw [r62_eq]; decide
  obtain ⟨ρ', e, c7, c8, c9, c10, rfl⟩ := forL_sat (put := Tg.put (.nm 7)) (x := b_law_2) (fun _ ρ => ∃ c7 c8 c9 c10, ρ = [.fz (.fr (ns.map D.int)), .fz (.lst (ds.map D.int)), .fz (.lst (ps.map plD)), .fz (.int (s : Nat)), .fz (.lst (js.map iD)), .fz (.str rs), .fz (.tup [.lst (path.map iD7), .lst (cs.map cirD)]), c7, c8, c9, c10, .no, .no, .no, .no, .no, .no, .no]) (intsD 0 2) (fun j d ρ hd h => by
    obtain ⟨hj2, rfl⟩ := intsD_get hd
    obtain ⟨c7, c8, c9, c10, rfl⟩ := h
    rw [show (0 : Int) + (j : Int) = (j : Int) by omega]
    exact turn7 pok hjw (by omega) hpath hcs (by omega) (by omega) hq j _ _ _ c7 c8 c9 c10 _ _ _ _ _ _ _) (ρ := [.fz (.fr (ns.map D.int)), .fz (.lst (ds.map D.int)), .fz (.lst (ps.map plD)), .fz (.int (s : Nat)), .fz (.lst (js.map iD)), .fz (.str rs), .fz (.tup [.lst (path.map iD7), .lst (cs.map cirD)]), .no, .no, .no, .no, .no, .no, .no, .no, .no, .no, .no]) ⟨_, _, _, _, rfl⟩
  have hL0 : 0 < (lvF ps s path ++ [endF ps s path]).length := by simp
  have hL1 : (lvF ps s path ++ [endF ps s path]).length ≤ 1000 := by rw [List.length_append, lv_len]; simp; omega
  have t13 := dist_test i3 hL0 hL1 (.fz (.fr (ns.map D.int))) (.fz (.lst (ds.map D.int))) (.fz (.lst (ps.map plD))) (.fz (.int (s : Nat))) (.fz (.lst (js.map iD))) (.fz (.str rs)) (.fz (.tup [.lst (path.map iD7), .lst (cs.map cirD)])) c7 c8 c9 c10 (.fz (.lst (path.map iD7))) (.fz (.lst (cs.map cirD))) .no .no .no
  have hlv : (lvF ps s path).length = path.length := lv_len path s
  have hLr : r62 ((lvF ps s path ++ [endF ps s path]).length : Int) = true := by rw [r62_eq]; exact decide_eq_true ⟨by omega, by omega⟩
  obtain ⟨d9, d10, d16, ec⟩ := circles_loop pok (.fz (.fr (ns.map D.int))) (.fz (.lst (ds.map D.int))) (.fz (.int (s : Nat))) (.fz (.lst (js.map iD))) (.fz (.str rs)) (.fz (.tup [.lst (path.map iD7), .lst (cs.map cirD)])) c7 c8 (.fz (.lst (path.map iD7))) (.fz (.lst (cs.map cirD))) (.fz (.lst ((lvF ps s path ++ [endF ps s path]).map iD))) cs (lvF ps s path) c9 c10 .no (lv_lt i1) i4 hsum
  rw [hsm, hln, lv_len] at ec
  have hsame := sp__law_same (dat_nD (sumR ((lvF ps s js).map (gAt ps)))) (by decide)
  -- the game
  have hgame : (ps0.map fun p => C.fz (plD p)) = (ps0.map plD).map C.fz := by rw [List.map_map]; rfl
  have hring : lcL [17] (Tg.put (.nm 17)) bYes e_law_0 (intsD 0 12) [] [.fz (.fr (ns.map D.int)), .fz (.lst (ds.map D.int)), .ow (ps0.map fun p => .fz (plD p)), .no, .no, .no, .no, .no, .no, .no, .no, .no, .no, .no, .no, .no, .no, .no] = .ok (ring12.map fun p => .fz (plD p)) [.fz (.fr (ns.map D.int)), .fz (.lst (ds.map D.int)), .ow (ps0.map fun p => .fz (plD p)), .no, .no, .no, .no, .no, .no, .no, .no, .no, .no, .no, .no, .no, .no, .no] := by
    have := lcL_rng (vs := [17]) (put := Tg.put (.nm 17)) (t := bYes) (el := e_law_0) [.fz (.fr (ns.map D.int)), .fz (.lst (ds.map D.int)), .ow (ps0.map fun p => .fz (plD p)), .no, .no, .no, .no, .no, .no, .no, .no, .no, .no, .no, .no, .no, .no, .no] 12 (fun k => .fz (plD (.ch ((k : Nat) : Rat) false [(k + 1) % 12, (k + 1) % 12, (k + 1) % 12, 0]))) (by decide) (fun k hk => by
      have hnd : nD ((k : Nat) : Rat) = .tup [.int (k : Nat), .int 1] := by
        unfold nD
        rw [Rat.num_natCast, Rat.den_natCast]; rfl
      simp [plD, hnd, sideS])
    rw [this]
    unfold ring12
    rw [List.map_map]
    rfl
  have hr12 : r62 12 = true := by rw [r62_eq]; decide
  have hjl' : (js.map iD).length = js.length := by simp
  have hpl' : (path.map iD7).length = path.length := by simp
  have hzps : (ps.map fun p => C.fz (plD p)).map fzD = ps.map plD := by rw [List.map_map]; rfl
  have hzjs : (js.map iC).map fzD = js.map iD := fz_iC5 js
  have r2' : w__law_refused [.fz (.lst (ps.map plD)), .fz (.int (s : Nat)), .fz (.lst (js.map iD ++ [.int 99, .int (-1)]))] = .ok (.fz (.int (js.length : Nat))) [] := r2
  have hun' : w__law_unrolled [.fz (.lst (ps.map plD)), .fz (.int (s : Nat)), .fz (.lst (js.map iD))] = .ok (.fz (.tup [.lst (path.map iD7), .lst (cs.map cirD)])) [] := hun
  have hLl : ((List.range (lvF ps s path ++ [endF ps s path]).length).map fun k => C.fz (.int (k : Nat))).length = (lvF ps s path ++ [endF ps s path]).length := by simp
  have hLc : ((lvF ps s path ++ [endF ps s path]).map iC).length = (lvF ps s path ++ [endF ps s path]).length := by simp
  have hsmj : js.length ≤ 999998 := by omega
  have fin : ∀ (c17 : C), True := fun _ => trivial
  clear hun r2 hpath hcs hlens hlen I i1 i2 i3 i4 i5 i6
  refine ⟨[], run_ok0 ?_⟩
  have hway' : w__law_way [.fz (.lst (ps.map plD)), .fz (.int (s : Nat)), .fz (.lst (((ds.drop 107).take n).map D.int))] = .ok (.ow (js.map iC)) [] := hway
  clear hway
  generalize ((ds.drop 107).take n).map D.int = d107 at *
  generalize sumR ((lvF ps s js).map (gAt ps)) = S at *
  generalize sumR ((lvF ps s path).map (gAt ps)) = S1 at *
  generalize ((List.range (lvF ps s path ++ [endF ps s path]).length).map fun k => C.fz (.int (k : Nat))) = rg at *
  generalize (lvF ps s path ++ [endF ps s path]).length = L at *
  generalize (lvF ps s path ++ [endF ps s path]).map iC = lc at *
  generalize (lvF ps s path ++ [endF ps s path]).map iD = ld at *
  generalize js.map iC = jc at *
  generalize js.map iD = jd at *
  have hdsl : (ds.map D.int).length = 140 := by simpa using dl
  have hzds : (ds.map fun i => C.fz (.int i)).map fzD = ds.map D.int := by rw [List.map_map]; rfl
  generalize (ds.map fun i => C.fz (.int i)) = dsc at *
  generalize ds.map D.int = dsd at *
  have hpl0 : (ps.map plD).length = ps.length := by simp
  have hplc : (ps.map fun p => C.fz (plD p)).length = ps.length := by simp
  by_cases hd : d132 % 4 = 0
  · rw [if_pos hd] at hps
    subst hps
    generalize (ps0.map fun p => C.fz (plD p)) = g0 at *
    generalize (ring12.map fun p => C.fz (plD p)) = gc at *
    generalize ring12.map plD = gd at *
    simp -implicitDefEqProofs [m_law, hdr, hzds, hgm, a106, a131, a132, hd, hr12, hring, hzps, hpl0, hn0, hnp, es.symm, p0, c107, hway', hzjs, hrs, hun', hr2, e, r2', hjl', hsmj, e13, hLc, hLr, t13, hLl, e14, hpl', ec, hln, e14', hsame, Function.comp_def]
  · rw [if_neg hd] at hps
    subst hps
    generalize (ps.map fun p => C.fz (plD p)) = gc at *
    generalize ps.map plD = gd at *
    simp -implicitDefEqProofs [m_law, hdr, hzds, hgm, a106, a131, a132, hd, hzps, hpl0, hn0, hnp, es.symm, p0, c107, hway', hzjs, hrs, hun', hr2, e, r2', hjl', hsmj, e13, hLc, hLr, t13, hLl, e14, hpl', ec, hln, e14', hsame, Function.comp_def]
end Lw

namespace Lw
open PySem PySem.Spec PyProof.Rows L2 Dn
/-! ### the text -/
def topS (i : Nat) : Stmt := PySem.Challenge.pw_meanhold_k07_whole_ways_unrolled.main.body.getD i (.Pass ⟨0, 0, 0, 0⟩)
abbrev s__law_draws : Stmt := topS 17
abbrev N__law_draws : List Str := ["_law_script", "_law_count", "_law_rests", "_law_draws_here", "_law_k", "_law_value", "_law_at", "_law_mixed", "_law_cell"]
abbrev P__law_draws : List Str := ["_law_script", "_law_count"]
theorem sc__law_draws : FnScope N__law_draws P__law_draws (defScope s__law_draws) := ⟨rfl, rfl, rfl, by decide +kernel, rfl, by decide +kernel, by decide +kernel⟩
abbrev s__law_gcd : Stmt := topS 18
abbrev N__law_gcd : List Str := ["_law_a", "_law_b", "_law_step", "_law_rest"]
abbrev P__law_gcd : List Str := ["_law_a", "_law_b"]
theorem sc__law_gcd : FnScope N__law_gcd P__law_gcd (defScope s__law_gcd) := ⟨rfl, rfl, rfl, by decide +kernel, rfl, by decide +kernel, by decide +kernel⟩
abbrev s__law_number : Stmt := topS 19
abbrev N__law_number : List Str := ["_law_n", "_law_d", "_law_common"]
abbrev P__law_number : List Str := ["_law_n", "_law_d"]
theorem sc__law_number : FnScope N__law_number P__law_number (defScope s__law_number) := ⟨rfl, rfl, rfl, by decide +kernel, rfl, by decide +kernel, by decide +kernel⟩
abbrev s__law_place : Stmt := topS 23
abbrev N__law_place : List Str := ["_law_draws_here", "_law_many", "_law_kind", "_law_gain", "_law_size", "_law_places_here", "_law_weights", "_law_k"]
abbrev P__law_place : List Str := ["_law_draws_here", "_law_many"]
theorem sc__law_place : FnScope N__law_place P__law_place (defScope s__law_place) := ⟨rfl, rfl, rfl, by decide +kernel, rfl, by decide +kernel, by decide +kernel⟩
abbrev s__law_game : Stmt := topS 24
abbrev N__law_game : List Str := ["_law_draws_here", "_law_most", "_law_many", "_law_k"]
abbrev P__law_game : List Str := ["_law_draws_here", "_law_most"]
theorem sc__law_game : FnScope N__law_game P__law_game (defScope s__law_game) := ⟨rfl, rfl, rfl, by decide +kernel, rfl, by decide +kernel, by decide +kernel⟩
abbrev s__law_targets : Stmt := topS 25
abbrev N__law_targets : List Str := ["_law_place_here", "_law_chance", "_law_target"]
abbrev P__law_targets : List Str := ["_law_place_here"]
theorem sc__law_targets : FnScope N__law_targets P__law_targets (defScope s__law_targets) := ⟨rfl, rfl, rfl, by decide +kernel, rfl, by decide +kernel, by decide +kernel⟩
abbrev s__law_way : Stmt := topS 27
abbrev N__law_way : List Str := ["_law_game_here", "_law_start", "_law_draws_here", "_law_found", "_law_here", "_law_draw", "_law_targets_here"]
abbrev P__law_way : List Str := ["_law_game_here", "_law_start", "_law_draws_here"]
theorem sc__law_way : FnScope N__law_way P__law_way (defScope s__law_way) := ⟨rfl, rfl, rfl, by decide +kernel, rfl, by decide +kernel, by decide +kernel⟩
abbrev s__law_unrolled : Stmt := topS 29
abbrev N__law_unrolled : List Str := ["_law_game_here", "_law_start", "_law_branches", "_law_path", "_law_end", "_law_circles", "_law_branch", "_law_k", "_law_pair"]
abbrev P__law_unrolled : List Str := ["_law_game_here", "_law_start", "_law_branches"]
theorem sc__law_unrolled : FnScope N__law_unrolled P__law_unrolled (defScope s__law_unrolled) := ⟨rfl, rfl, rfl, by decide +kernel, rfl, by decide +kernel, by decide +kernel⟩
abbrev s_targets : Stmt := topS 10
abbrev N_targets : List Str := ["game", "place", "gain", "kind", "branches", "chance", "target"]
abbrev P_targets : List Str := ["game", "place"]
theorem sc_targets : FnScope N_targets P_targets (defScope s_targets) := ⟨rfl, rfl, rfl, by decide +kernel, rfl, by decide +kernel, by decide +kernel⟩
abbrev s_walk : Stmt := topS 12
abbrev N_walk : List Str := ["game", "start", "branches", "first", "places", "step", "branch", "found"]
abbrev P_walk : List Str := ["game", "start", "branches", "first"]
theorem sc_walk : FnScope N_walk P_walk (defScope s_walk) := ⟨rfl, rfl, rfl, by decide +kernel, rfl, by decide +kernel, by decide +kernel⟩
abbrev s_places_on : Stmt := topS 13
abbrev N_places_on : List Str := ["game", "start", "branches"]
abbrev P_places_on : List Str := ["game", "start", "branches"]
theorem sc_places_on : FnScope N_places_on P_places_on (defScope s_places_on) := ⟨rfl, rfl, rfl, by decide +kernel, rfl, by decide +kernel, by decide +kernel⟩
abbrev s_unrolled : Stmt := topS 15
abbrev N_unrolled : List Str := ["game", "start", "branches", "places", "path", "circles", "target", "branch", "at"]
abbrev P_unrolled : List Str := ["game", "start", "branches"]
theorem sc_unrolled : FnScope N_unrolled P_unrolled (defScope s_unrolled) := ⟨rfl, rfl, rfl, by decide +kernel, rfl, by decide +kernel, by decide +kernel⟩
abbrev s__law_same : Stmt := topS 26
abbrev N__law_same : List Str := ["_law_actual", "_law_due", "_law_k"]
abbrev P__law_same : List Str := ["_law_actual", "_law_due"]
theorem sc__law_same : FnScope N__law_same P__law_same (defScope s__law_same) := ⟨rfl, rfl, rfl, by decide +kernel, rfl, by decide +kernel, by decide +kernel⟩
abbrev s__law_refused : Stmt := topS 30
abbrev N__law_refused : List Str := ["_law_game_here", "_law_start", "_law_branches", "e"]
abbrev P__law_refused : List Str := ["_law_game_here", "_law_start", "_law_branches"]
theorem sc__law_refused : FnScope N__law_refused P__law_refused (defScope s__law_refused) := ⟨rfl, rfl, rfl, by decide +kernel, rfl, by decide +kernel, by decide +kernel⟩
abbrev s__law_places : Stmt := topS 28
abbrev N__law_places : List Str := ["_law_game_here", "_law_start", "_law_branches", "_law_found", "_law_branch"]
abbrev P__law_places : List Str := ["_law_game_here", "_law_start", "_law_branches"]
theorem sc__law_places : FnScope N__law_places P__law_places (defScope s__law_places) := ⟨rfl, rfl, rfl, by decide +kernel, rfl, by decide +kernel, by decide +kernel⟩
abbrev s_number : Stmt := topS 6
abbrev N_number : List Str := ["n", "d", "common"]
abbrev P_number : List Str := ["n", "d"]
theorem sc_number : FnScope N_number P_number (defScope s_number) := ⟨rfl, rfl, rfl, by decide +kernel, rfl, by decide +kernel, by decide +kernel⟩
abbrev s_plus : Stmt := topS 7
abbrev N_plus : List Str := ["a", "b"]
abbrev P_plus : List Str := ["a", "b"]
theorem sc_plus : FnScope N_plus P_plus (defScope s_plus) := ⟨rfl, rfl, rfl, by decide +kernel, rfl, by decide +kernel, by decide +kernel⟩
abbrev s_total : Stmt := topS 8
abbrev N_total : List Str := ["numbers", "found", "one"]
abbrev P_total : List Str := ["numbers"]
theorem sc_total : FnScope N_total P_total (defScope s_total) := ⟨rfl, rfl, rfl, by decide +kernel, rfl, by decide +kernel, by decide +kernel⟩
abbrev s_sum_of : Stmt := topS 14
abbrev N_sum_of : List Str := ["game", "start", "branches", "place"]
abbrev P_sum_of : List Str := ["game", "start", "branches"]
theorem sc_sum_of : FnScope N_sum_of P_sum_of (defScope s_sum_of) := ⟨rfl, rfl, rfl, by decide +kernel, rfl, by decide +kernel, by decide +kernel⟩
abbrev s__law_plus : Stmt := topS 20
abbrev N__law_plus : List Str := ["_law_a", "_law_b"]
abbrev P__law_plus : List Str := ["_law_a", "_law_b"]
theorem sc__law_plus : FnScope N__law_plus P__law_plus (defScope s__law_plus) := ⟨rfl, rfl, rfl, by decide +kernel, rfl, by decide +kernel, by decide +kernel⟩
abbrev s_law : Stmt := topS 31
abbrev N_law : List Str := ["_law_script", "_law_draws_here", "_law_game_here", "_law_start", "_law_branches", "_law_kept", "_law_due", "_law_turn", "_law_told", "_law_place_here", "_law_circle", "_law_path", "_law_circles", "_law_places_here", "_law_total_here", "_law_steps", "_law_ring", "_law_k"]
abbrev P_law : List Str := ["_law_script"]
theorem sc_law : FnScope N_law P_law (defScope s_law) := ⟨rfl, rfl, rfl, by decide +kernel, rfl, by decide +kernel, by decide +kernel⟩
abbrev i_NoBranch : Stmt := clsInit (topS 3)
theorem shx_NoBranch : PySem.ExD.ShX "NoBranch.__init__" (defArgs i_NoBranch) (defBody i_NoBranch) (defScope i_NoBranch) (some "at") := ⟨⟨_, _, _, _, _, _, _, _, _, _, rfl, rfl, fun _ _ _ _ => ⟨rfl, rfl, rfl⟩, ⟨_, _, _, _, rfl, fun _ _ _ _ => rfl⟩⟩, rfl, rfl, rfl, rfl, rfl, rfl, by decide +kernel, fun _ _ _ _ _ _ _ _ _ => .of_eq rfl, ⟨rfl, by decide, by decide⟩⟩
structure Facts (P : Program) (K : PySem.W.Frag) (mg : Str → Option Value) where
  C_NoBranch : Addr
  gc_NoBranch : mg "NoBranch" = some (.ref C_NoBranch)
  cl_NoBranch : clsOf K "NoBranch" = .ref C_NoBranch
  I_NoBranch : Addr
  X_NoBranch : PySem.ExD.ExTxt P K mg "NoBranch" "NoBranch.__init__" C_NoBranch I_NoBranch (defArgs i_NoBranch) (defBody i_NoBranch) (defScope i_NoBranch)
  xf_NoBranch : XfC K C_NoBranch
  no_NoBranch : PySem.W.findIn K (.ref C_NoBranch) "at" = some none
  exm_NoBranch_NoBranch : PySem.W.exmOne K (clsOf K "NoBranch") (.ref C_NoBranch) = some true
  n_super : mg "super" = none
  f__law_draws : Addr
  d__law_draws : FuncData
  F__law_draws : Fun K "_law_draws" "_law_draws" s__law_draws f__law_draws d__law_draws
  g__law_draws : mg "_law_draws" = some (.ref f__law_draws)
  b__law_draws : Binds K d__law_draws P__law_draws []
  f__law_gcd : Addr
  d__law_gcd : FuncData
  F__law_gcd : Fun K "_law_gcd" "_law_gcd" s__law_gcd f__law_gcd d__law_gcd
  g__law_gcd : mg "_law_gcd" = some (.ref f__law_gcd)
  b__law_gcd : Binds K d__law_gcd P__law_gcd []
  f__law_number : Addr
  d__law_number : FuncData
  F__law_number : Fun K "_law_number" "_law_number" s__law_number f__law_number d__law_number
  g__law_number : mg "_law_number" = some (.ref f__law_number)
  b__law_number : Binds K d__law_number P__law_number []
  f__law_place : Addr
  d__law_place : FuncData
  F__law_place : Fun K "_law_place" "_law_place" s__law_place f__law_place d__law_place
  g__law_place : mg "_law_place" = some (.ref f__law_place)
  b__law_place : Binds K d__law_place P__law_place []
  f__law_game : Addr
  d__law_game : FuncData
  F__law_game : Fun K "_law_game" "_law_game" s__law_game f__law_game d__law_game
  g__law_game : mg "_law_game" = some (.ref f__law_game)
  b__law_game : Binds K d__law_game P__law_game []
  f__law_targets : Addr
  d__law_targets : FuncData
  F__law_targets : Fun K "_law_targets" "_law_targets" s__law_targets f__law_targets d__law_targets
  g__law_targets : mg "_law_targets" = some (.ref f__law_targets)
  b__law_targets : Binds K d__law_targets P__law_targets []
  f__law_way : Addr
  d__law_way : FuncData
  F__law_way : Fun K "_law_way" "_law_way" s__law_way f__law_way d__law_way
  g__law_way : mg "_law_way" = some (.ref f__law_way)
  b__law_way : Binds K d__law_way P__law_way []
  f__law_unrolled : Addr
  d__law_unrolled : FuncData
  F__law_unrolled : Fun K "_law_unrolled" "_law_unrolled" s__law_unrolled f__law_unrolled d__law_unrolled
  g__law_unrolled : mg "_law_unrolled" = some (.ref f__law_unrolled)
  b__law_unrolled : Binds K d__law_unrolled P__law_unrolled []
  f_targets : Addr
  d_targets : FuncData
  F_targets : Fun K "targets" "targets" s_targets f_targets d_targets
  g_targets : mg "targets" = some (.ref f_targets)
  b_targets : Binds K d_targets P_targets []
  f_walk : Addr
  d_walk : FuncData
  F_walk : Fun K "walk" "walk" s_walk f_walk d_walk
  g_walk : mg "walk" = some (.ref f_walk)
  b_walk : Binds K d_walk P_walk []
  f_places_on : Addr
  d_places_on : FuncData
  F_places_on : Fun K "places_on" "places_on" s_places_on f_places_on d_places_on
  g_places_on : mg "places_on" = some (.ref f_places_on)
  b_places_on : Binds K d_places_on P_places_on []
  f_unrolled : Addr
  d_unrolled : FuncData
  F_unrolled : Fun K "unrolled" "unrolled" s_unrolled f_unrolled d_unrolled
  g_unrolled : mg "unrolled" = some (.ref f_unrolled)
  b_unrolled : Binds K d_unrolled P_unrolled []
  f__law_same : Addr
  d__law_same : FuncData
  F__law_same : Fun K "_law_same" "_law_same" s__law_same f__law_same d__law_same
  g__law_same : mg "_law_same" = some (.ref f__law_same)
  b__law_same : Binds K d__law_same P__law_same []
  f__law_refused : Addr
  d__law_refused : FuncData
  F__law_refused : Fun K "_law_refused" "_law_refused" s__law_refused f__law_refused d__law_refused
  g__law_refused : mg "_law_refused" = some (.ref f__law_refused)
  b__law_refused : Binds K d__law_refused P__law_refused []
  f__law_places : Addr
  d__law_places : FuncData
  F__law_places : Fun K "_law_places" "_law_places" s__law_places f__law_places d__law_places
  g__law_places : mg "_law_places" = some (.ref f__law_places)
  b__law_places : Binds K d__law_places P__law_places []
  f_number : Addr
  d_number : FuncData
  F_number : Fun K "number" "number" s_number f_number d_number
  g_number : mg "number" = some (.ref f_number)
  b_number : Binds K d_number P_number []
  f_plus : Addr
  d_plus : FuncData
  F_plus : Fun K "plus" "plus" s_plus f_plus d_plus
  g_plus : mg "plus" = some (.ref f_plus)
  b_plus : Binds K d_plus P_plus []
  f_total : Addr
  d_total : FuncData
  F_total : Fun K "total" "total" s_total f_total d_total
  g_total : mg "total" = some (.ref f_total)
  b_total : Binds K d_total P_total []
  f_sum_of : Addr
  d_sum_of : FuncData
  F_sum_of : Fun K "sum_of" "sum_of" s_sum_of f_sum_of d_sum_of
  g_sum_of : mg "sum_of" = some (.ref f_sum_of)
  b_sum_of : Binds K d_sum_of P_sum_of []
  f__law_plus : Addr
  d__law_plus : FuncData
  F__law_plus : Fun K "_law_plus" "_law_plus" s__law_plus f__law_plus d__law_plus
  g__law_plus : mg "_law_plus" = some (.ref f__law_plus)
  b__law_plus : Binds K d__law_plus P__law_plus []
  f_law : Addr
  d_law : FuncData
  F_law : Fun K "law" "law" s_law f_law d_law
  g_law : mg "law" = some (.ref f_law)
  b_law : Binds K d_law P_law []
  n_range : mg "range" = none
  n_len : mg "len" = none
  n_int : mg "int" = none
  n_abs : mg "abs" = none
  n_sum : mg "sum" = none
  n_list : mg "list" = none
  n_enumerate : mg "enumerate" = none
  n_zip : mg "zip" = none
  n_isinstance : mg "isinstance" = none
  n_tuple : mg "tuple" = none
  n_all : mg "all" = none
  n_bool : mg "bool" = none
  n_str : mg "str" = none
  n_gcd : mg "gcd" = some (.builtin "math.gcd")
  n_repr : mg "repr" = none
  n_any : mg "any" = none
  a_NOUGHT : Addr
  g_NOUGHT : mg "NOUGHT" = some (.ref a_NOUGHT)
  r_NOUGHT : ∀ F H, Rep K F H (.ref a_NOUGHT) k_NOUGHT
section
variable {P : Program} {w : World} {K : PySem.W.Frag} {mg : Str → Option Value} {base : Heap}
theorem Facts.c_NOUGHT {X : Cx} {W : WX} {pos : Pos} (T : Facts X.prog X.K X.mg) (hg : Gl X "NOUGHT" := by rfl) : PE X (.Name "NOUGHT" pos) (tOf X.K W (ret k_NOUGHT)) := d_glob (v := .ref T.a_NOUGHT) hg T.g_NOUGHT rfl T.r_NOUGHT
set_option maxHeartbeats 4000000 in
theorem ok__law_draws (T : Facts P K mg) : FnG P w K mg base CX0 1 T.f__law_draws T.d__law_draws P__law_draws (spF K 2 w__law_draws) :=
  fn0 (N := N__law_draws) (ps := P__law_draws) (k := 0) 9 2 (sm := m__law_draws) T.F__law_draws sc__law_draws rfl rfl (by decide) fun cdv A outer s H E hr hgd =>
  (ds_cons (ds_setLc 2 [("_law_cell", 8)] sc__law_draws.nd (di_list (d_var 0)) (blkOk_by (N := N__law_draws) (sc := defScope s__law_draws) (by decide +kernel)) (fun _ _ _ _ _ => (dg_nm 8 sc__law_draws.nd)) (fun _ _ _ _ _ => dts_nil) (fun _ _ _ _ _ => (d_var 8)))
  (ds_cons (ds_set 3 sc__law_draws.nd (d_lst d_nil))
  (ds_cons (ds_for PassesOwn.never (di_range1 T.n_range (d_cons (d_var 1) d_nil)) (dg_nm 4 sc__law_draws.nd)
  (ds_cons (ds_set 5 sc__law_draws.nd d_int)
  (ds_cons (ds_if (dt_cmp op_gt ok_gt (d_cbV 2 call_len ok_len T.n_len) d_int)
  (ds_cons (ds_set 6 sc__law_draws.nd (d_mod (d_cbty call_int1 ok_int T.n_int (d_cons (d_var 4) d_nil)) (d_cbV 2 call_len ok_len T.n_len)))
  (ds_one (ds_if (dt_cmp op_ge ok_ge (d_ixV 2 (d_var 6)) (d_pow d_int d_int))
  (ds_cons (ds_set 5 sc__law_draws.nd (d_mod (d_cbty call_int1 ok_int T.n_int (d_cons (d_ixV 2 (d_var 6)) d_nil)) d_int))
  (ds_one (ds_setIx 2 (d_var 6) (d_div (d_ixV 2 (d_var 6)) d_int))))
  (ds_cons (ds_set 7 sc__law_draws.nd (d_mod (d_cbty call_int1 ok_int T.n_int (d_cons (d_fz (d_add (d_add (d_mul (d_ixV 2 (d_var 6)) d_int) (d_mul (d_var 4) d_int)) d_int)) d_nil)) d_int))
  (ds_cons (ds_set 7 sc__law_draws.nd (d_mod (d_cbty call_int1 ok_int T.n_int (d_cons (d_fz (d_add (d_mul (d_var 7) d_int) (d_var 6))) d_nil)) d_int))
  (ds_one (ds_set 5 sc__law_draws.nd (d_mod (d_cbty call_int1 ok_int T.n_int (d_cons (d_fz (d_div (d_var 7) d_int)) d_nil)) d_int))))))))
  ds_nil)
  (ds_one (ds_app 3 (d_var 5))))))
  (ds_one (ds_ret (d_mv 3))))))
set_option maxHeartbeats 4000000 in
theorem ok__law_gcd (T : Facts P K mg) : FnG P w K mg base CX0 1 T.f__law_gcd T.d__law_gcd P__law_gcd (spF K 2 w__law_gcd) :=
  fn0 (N := N__law_gcd) (ps := P__law_gcd) (k := 0) 4 2 (sm := m__law_gcd) T.F__law_gcd sc__law_gcd rfl rfl (by decide) fun cdv A outer s H E hr hgd =>
  (ds_cons (ds_set 0 sc__law_gcd.nd (d_cb call_abs ok_abs T.n_abs (d_cons (d_var 0) d_nil)))
  (ds_cons (ds_set 1 sc__law_gcd.nd (d_cb call_abs ok_abs T.n_abs (d_cons (d_var 1) d_nil)))
  (ds_cons (ds_for PassesOwn.never (di_range1 T.n_range (d_cons d_int d_nil)) (dg_nm 2 sc__law_gcd.nd)
  (ds_cons (ds_if (dt_cmp (op_eqAll hr.units) ok_eq (d_var 1) d_int)
  (ds_one ds_break)
  ds_nil)
  (ds_cons (ds_set 3 sc__law_gcd.nd (d_mod (d_cbty call_int1 ok_int T.n_int (d_cons (d_var 0) d_nil)) (d_var 1)))
  (ds_cons (ds_set 0 sc__law_gcd.nd (d_var 1))
  (ds_one (ds_set 1 sc__law_gcd.nd (d_var 3)))))))
  (ds_one (ds_ret (d_mv 0))))))
set_option maxHeartbeats 4000000 in
theorem ok__law_number (T : Facts P K mg) : FnG P w K mg base CX0 2 T.f__law_number T.d__law_number P__law_number (spF K 2 w__law_number) :=
  fn0 (N := N__law_number) (ps := P__law_number) (k := 1) 3 2 (sm := m__law_number) T.F__law_number sc__law_number rfl rfl (by decide) fun cdv A outer s H E hr hgd =>
  (ds_cons (ds_if (dt_cmp op_lt ok_lt (d_var 1) d_int)
  (ds_cons (ds_set 0 sc__law_number.nd (d_neg (d_var 0)))
  (ds_one (ds_set 1 sc__law_number.nd (d_neg (d_var 1)))))
  ds_nil)
  (ds_cons (ds_set 2 sc__law_number.nd (d_call (ok__law_gcd T) (hr.mono (by decide)) hgd T.g__law_gcd T.F__law_gcd.kp T.b__law_gcd (fun _ => pass0S) (d_cons (d_var 0) (d_cons (d_var 1) d_nil)) (len_cons (len_cons len_nil))))
  (ds_one (ds_ret (d_tup (d_cons (d_fz (d_div (d_var 0) (d_var 2))) (d_cons (d_fz (d_div (d_var 1) (d_var 2))) d_nil)))))))
set_option maxHeartbeats 4000000 in
theorem ok__law_place (T : Facts P K mg) : FnG P w K mg base CX0 3 T.f__law_place T.d__law_place P__law_place (spF K 2 w__law_place) :=
  fn0 (N := N__law_place) (ps := P__law_place) (k := 2) 8 2 (sm := m__law_place) T.F__law_place sc__law_place rfl rfl (by decide) fun cdv A outer s H E hr hgd =>
  (ds_cons (ds_set 2 sc__law_place.nd (d_mod (d_cbty call_int1 ok_int T.n_int (d_cons (d_ixV 0 d_int) d_nil)) d_int))
  (ds_cons (ds_set 3 sc__law_place.nd (d_call (ok__law_number T) (hr.mono (by decide)) hgd T.g__law_number T.F__law_number.kp T.b__law_number (fun _ => pass0S) (d_cons (d_fz (d_sub (d_mod (d_cbty call_int1 ok_int T.n_int (d_cons (d_ixV 0 d_int) d_nil)) d_int) d_int)) (d_cons (d_ix (d_lst (d_cons d_int (d_cons d_int (d_cons d_int (d_cons d_int d_nil))))) (d_mod (d_cbty call_int1 ok_int T.n_int (d_cons (d_ixV 0 d_int) d_nil)) d_int)) d_nil)) (len_cons (len_cons len_nil))))
  (ds_cons (ds_if (dt_cmp (op_eqAll hr.units) ok_eq (d_mod (d_div (d_cbty call_int1 ok_int T.n_int (d_cons (d_ixV 0 d_int) d_nil)) d_int) d_int) d_int)
  (ds_one (ds_set 3 sc__law_place.nd (d_call (ok__law_number T) (hr.mono (by decide)) hgd T.g__law_number T.F__law_number.kp T.b__law_number (fun _ => pass0S) (d_cons (d_fz (d_sub (d_cbty call_int1 ok_int T.n_int (d_cons (d_ixV 0 d_int) d_nil)) d_int)) (d_cons (d_fz (d_add d_int (d_mod (d_cbty call_int1 ok_int T.n_int (d_cons (d_ixV 0 d_int) d_nil)) d_int))) d_nil)) (len_cons (len_cons len_nil)))))
  ds_nil)
  (ds_cons (ds_set 4 sc__law_place.nd (d_ix (d_lst (d_cons d_int (d_cons d_int (d_cons d_int (d_cons d_int (d_cons d_int (d_cons d_int (d_cons d_int (d_cons d_int (d_cons d_int d_nil)))))))))) (d_mod (d_cbty call_int1 ok_int T.n_int (d_cons (d_ixV 0 d_int) d_nil)) d_int)))
  (ds_cons (ds_set 5 sc__law_place.nd (d_lc [("_law_k", 7)] sc__law_place.nd (di_range1 T.n_range (d_cons (d_var 4) d_nil)) (blkOk_by (N := N__law_place) (sc := defScope s__law_place) (by decide +kernel)) (fun _ _ _ _ _ => (dg_nm 7 sc__law_place.nd)) (fun _ _ _ _ _ => dts_nil) (fun _ _ _ _ _ => (d_fz (d_mod (d_cbty call_int1 ok_int T.n_int (d_cons (d_ixV 0 (d_add d_int (d_var 7))) d_nil)) (d_var 1))))))
  (ds_cons (ds_if (dt_cmp op_lt ok_lt (d_var 2) d_int)
  (ds_cons (ds_set 6 sc__law_place.nd (d_lc [("_law_k", 7)] sc__law_place.nd (di_range1 T.n_range (d_cons (d_var 4) d_nil)) (blkOk_by (N := N__law_place) (sc := defScope s__law_place) (by decide +kernel)) (fun _ _ _ _ _ => (dg_nm 7 sc__law_place.nd)) (fun _ _ _ _ _ => dts_nil) (fun _ _ _ _ _ => (d_fz (d_add d_int (d_mod (d_cbty call_int1 ok_int T.n_int (d_cons (d_ixV 0 (d_add d_int (d_mod (d_var 7) d_int))) d_nil)) d_int))))))
  (ds_one (ds_ret (d_tup (d_cons (d_var 3) (d_cons d_str (d_cons (d_fz (d_lc [("_law_k", 7)] sc__law_place.nd (di_range1 T.n_range (d_cons (d_var 4) d_nil)) (blkOk_by (N := N__law_place) (sc := defScope s__law_place) (by decide +kernel)) (fun _ _ _ _ _ => (dg_nm 7 sc__law_place.nd)) (fun _ _ _ _ _ => dts_nil) (fun _ _ _ _ _ => (d_tup (d_cons (d_fz (d_call (ok__law_number T) (hr.mono (by decide)) hgd T.g__law_number T.F__law_number.kp T.b__law_number (fun _ => pass0S) (d_cons (d_ixV 6 (d_var 7)) (d_cons (d_fz (d_cbV 6 (cr_sum rfl) ok_sum T.n_sum)) d_nil)) (len_cons (len_cons len_nil)))) (d_cons (d_ixV 5 (d_var 7)) d_nil)))))) d_nil)))))))
  ds_nil)
  (ds_one (ds_ret (d_tup (d_cons (d_var 3) (d_cons (d_ix (d_lst (d_cons d_str (d_cons d_str d_nil))) (d_mod (d_var 2) d_int)) (d_cons (d_var 5) d_nil))))))))))))
set_option maxHeartbeats 4000000 in
theorem ok__law_game (T : Facts P K mg) : FnG P w K mg base CX0 4 T.f__law_game T.d__law_game P__law_game (spF K 2 w__law_game) :=
  fn0 (N := N__law_game) (ps := P__law_game) (k := 3) 4 2 (sm := m__law_game) T.F__law_game sc__law_game rfl rfl (by decide) fun cdv A outer s H E hr hgd =>
  (ds_cons (ds_set 2 sc__law_game.nd (d_add d_int (d_mod (d_cbty call_int1 ok_int T.n_int (d_cons (d_ixV 0 d_int) d_nil)) (d_var 1))))
  (ds_one (ds_ret (d_lc [("_law_k", 3)] sc__law_game.nd (di_range1 T.n_range (d_cons (d_var 2) d_nil)) (blkOk_by (N := N__law_game) (sc := defScope s__law_game) (by decide +kernel)) (fun _ _ _ _ _ => (dg_nm 3 sc__law_game.nd)) (fun _ _ _ _ _ => dts_nil) (fun _ _ _ _ _ => (d_fz (d_call (ok__law_place T) (hr.mono (by decide)) hgd T.g__law_place T.F__law_place.kp T.b__law_place (fun _ => pass0S) (d_cons (d_fz (d_sl (d_var 0) (d_psome (d_add d_int (d_mul d_int (d_var 3)))) (d_psome (d_add d_int (d_mul d_int (d_var 3)))))) (d_cons (d_var 2) d_nil)) (len_cons (len_cons len_nil)))))))))
set_option maxHeartbeats 4000000 in
theorem ok__law_targets (T : Facts P K mg) : FnG P w K mg base CX0 1 T.f__law_targets T.d__law_targets P__law_targets (spF K 1 w__law_targets) :=
  fn0 (N := N__law_targets) (ps := P__law_targets) (k := 0) 3 1 (sm := m__law_targets) T.F__law_targets sc__law_targets rfl rfl (by decide) fun cdv A outer s H E hr hgd =>
  (ds_cons (ds_if (dt_cmp (op_eqAll hr.units) ok_eq (d_ixV 0 d_int) d_str)
  (ds_one (ds_ret (d_lc [("_law_chance", 1), ("_law_target", 2)] sc__law_targets.nd (di_list (d_ixV 0 d_int)) (blkOk_by (N := N__law_targets) (sc := defScope s__law_targets) (by decide +kernel)) (fun _ _ _ _ _ => (dg_tup rfl (dg_cons (dg_nm 1 sc__law_targets.nd) (dg_cons (dg_nm 2 sc__law_targets.nd) dg_nil)))) (fun _ _ _ _ _ => dts_nil) (fun _ _ _ _ _ => (d_var 2)))))
  ds_nil)
  (ds_one (ds_ret (d_cbty call_list_of ok_list T.n_list (d_cons (d_ixV 0 d_int) d_nil)))))
set_option maxHeartbeats 4000000 in
theorem ok__law_way (T : Facts P K mg) : FnG P w K mg base CX0 2 T.f__law_way T.d__law_way P__law_way (spF K 3 w__law_way) :=
  fn0 (N := N__law_way) (ps := P__law_way) (k := 1) 7 3 (sm := m__law_way) T.F__law_way sc__law_way rfl rfl (by decide) fun cdv A outer s H E hr hgd =>
  (ds_cons (ds_par 3 4 sc__law_way.nd (d_cons (d_lst d_nil) (d_cons (d_var 1) d_nil)))
  (ds_cons (ds_for PassesOwn.never (di_list (d_var 2)) (dg_nm 5 sc__law_way.nd)
  (ds_cons (ds_set 6 sc__law_way.nd (d_call (ok__law_targets T) (hr.mono (by decide)) hgd T.g__law_targets T.F__law_targets.kp T.b__law_targets (fun _ => pass0S) (d_cons (d_ixV 0 (d_var 4)) d_nil) (len_cons len_nil)))
  (ds_cons (ds_app 3 (d_fz (d_mod (d_cbty call_int1 ok_int T.n_int (d_cons (d_var 5) d_nil)) (d_cbV 6 call_len ok_len T.n_len))))
  (ds_one (ds_set 4 sc__law_way.nd (d_ixV 6 (d_ixV 3 (d_neg d_int))))))))
  (ds_one (ds_ret (d_mv 3)))))
set_option maxHeartbeats 4000000 in
theorem ok__law_unrolled (T : Facts P K mg) : FnG P w K mg base CX0 2 T.f__law_unrolled T.d__law_unrolled P__law_unrolled (spF K 3 w__law_unrolled) :=
  fn0 (N := N__law_unrolled) (ps := P__law_unrolled) (k := 1) 9 3 (sm := m__law_unrolled) T.F__law_unrolled sc__law_unrolled rfl rfl (by decide) fun cdv A outer s H E hr hgd =>
  (ds_cons (ds_par3 3 4 5 sc__law_unrolled.nd (d_cons (d_lst d_nil) (d_cons (d_var 1) (d_cons (d_lst d_nil) d_nil))))
  (ds_cons (ds_for PassesOwn.never (di_list (d_var 2)) (dg_nm 6 sc__law_unrolled.nd)
  (ds_cons (ds_app 3 (d_tup (d_cons (d_var 4) (d_cons (d_var 6) d_nil))))
  (ds_cons (ds_set 4 sc__law_unrolled.nd (d_ix (d_call (ok__law_targets T) (hr.mono (by decide)) hgd T.g__law_targets T.F__law_targets.kp T.b__law_targets (fun _ => pass0S) (d_cons (d_ixV 0 (d_var 4)) d_nil) (len_cons len_nil)) (d_var 6)))
  (ds_one (ds_for PassesOwn.never (di_range1 T.n_range (d_cons (d_fz (d_cbV 3 call_len ok_len T.n_len)) d_nil)) (dg_nm 7 sc__law_unrolled.nd)
  (ds_one (ds_if (dt_cmp (op_eqAll hr.units) ok_eq (d_ix (d_ixV 3 (d_var 7)) d_int) (d_var 4))
  (ds_cons (ds_app 5 (d_tup (d_cons (d_var 4) (d_cons (d_fz (d_lc [("_law_pair", 8)] sc__law_unrolled.nd (di_list (d_sl (d_var 3) (d_psome (d_var 7)) d_pnone)) (blkOk_by (N := N__law_unrolled) (sc := defScope s__law_unrolled) (by decide +kernel)) (fun _ _ _ _ _ => (dg_nm 8 sc__law_unrolled.nd)) (fun _ _ _ _ _ => dts_nil) (fun _ _ _ _ _ => (d_ixV 8 d_int)))) d_nil))))
  (ds_cons (ds_set 3 sc__law_unrolled.nd (d_sl (d_var 3) d_pnone (d_psome (d_var 7))))
  (ds_one ds_break)))
  ds_nil)))))))
  (ds_one (ds_ret (d_tup (d_cons (d_fz (d_lc [("_law_pair", 8)] sc__law_unrolled.nd (di_list (d_var 3)) (blkOk_by (N := N__law_unrolled) (sc := defScope s__law_unrolled) (by decide +kernel)) (fun _ _ _ _ _ => (dg_nm 8 sc__law_unrolled.nd)) (fun _ _ _ _ _ => dts_nil) (fun _ _ _ _ _ => (d_ixV 8 d_int)))) (d_cons (d_var 5) d_nil)))))))
set_option maxHeartbeats 4000000 in
theorem ok_targets (T : Facts P K mg) : FnG P w K mg base CX0 1 T.f_targets T.d_targets P_targets (spF K 2 w_targets) :=
  fn0 (N := N_targets) (ps := P_targets) (k := 0) 7 2 (sm := m_targets) T.F_targets sc_targets rfl rfl (by decide) fun cdv A outer s H E hr hgd =>
  (ds_cons (ds_asg (d_ixV 0 (d_var 1)) (dg_tup rfl (dg_cons (dg_nm 2 sc_targets.nd) (dg_cons (dg_nm 3 sc_targets.nd) (dg_cons (dg_nm 4 sc_targets.nd) dg_nil)))))
  (ds_cons (ds_if (dt_cmp (op_eqAll hr.units) ok_eq (d_var 3) d_str)
  (ds_one (ds_ret (d_lc [("chance", 5), ("target", 6)] sc_targets.nd (di_list (d_var 4)) (blkOk_by (N := N_targets) (sc := defScope s_targets) (by decide +kernel)) (fun _ _ _ _ _ => (dg_tup rfl (dg_cons (dg_nm 5 sc_targets.nd) (dg_cons (dg_nm 6 sc_targets.nd) dg_nil)))) (fun _ _ _ _ _ => dts_nil) (fun _ _ _ _ _ => (d_var 6)))))
  ds_nil)
  (ds_one (ds_ret (d_cbty call_list_of ok_list T.n_list (d_cons (d_var 4) d_nil))))))
set_option maxHeartbeats 4000000 in
theorem ok_walk (T : Facts P K mg) : FnG P w K mg base (L2.CX P w) 2 T.f_walk T.d_walk P_walk (spF K 4 w_walk) :=
  fnX (N := N_walk) (ps := P_walk) (k := 1) 8 4 (sm := m_walk) T.F_walk sc_walk rfl rfl (by decide) fun cdv A outer s H E hr hgd =>
  (ds_cons (ds_set 4 sc_walk.nd (d_lst (d_cons (d_var 1) d_nil)))
  (ds_cons (ds_for (passes_of rfl) (di_enum T.n_enumerate (d_cons (d_var 2) d_nil)) (dg_tup rfl (dg_cons (dg_nm 5 sc_walk.nd) (dg_cons (dg_nm 6 sc_walk.nd) dg_nil)))
  (ds_cons (ds_set 7 sc_walk.nd (d_call (ok_targets T) (hr.mono (by decide)) hgd T.g_targets T.F_targets.kp T.b_targets (fun _ => pass0S) (d_cons (d_var 0) (d_cons (d_ixV 4 (d_neg d_int)) d_nil)) (len_cons (len_cons len_nil))))
  (ds_cons (ds_if (dt_not (dt_chain op_le ok_le op_lt ok_lt d_int (d_var 6) (d_cbV 7 call_len ok_len T.n_len)))
  (ds_one (ds_raise1 T.X_NoBranch shx_NoBranch T.no_NoBranch T.cl_NoBranch T.n_super hr (takes_of rfl rfl rfl rfl) (d_add (d_var 3) (d_var 5))))
  ds_nil)
  (ds_one (ds_app 4 (d_ixV 7 (d_var 6)))))))
  (ds_one (ds_ret (d_mv 4)))))
set_option maxHeartbeats 4000000 in
theorem ok_places_on (T : Facts P K mg) : FnG P w K mg base (L2.CX P w) 3 T.f_places_on T.d_places_on P_places_on (spF K 3 w_places_on) :=
  fnX (N := N_places_on) (ps := P_places_on) (k := 2) 3 3 (sm := m_places_on) T.F_places_on sc_places_on rfl rfl (by decide) fun cdv A outer s H E hr hgd =>
  (ds_one (ds_ret (d_call (ok_walk T) (hr.mono (by decide)) hgd T.g_walk T.F_walk.kp T.b_walk (fun σ => passAt (takes_of rfl rfl rfl rfl) σ) (d_cons (d_var 0) (d_cons (d_var 1) (d_cons (d_var 2) (d_cons d_int d_nil)))) (len_cons (len_cons (len_cons (len_cons len_nil)))))))
set_option maxHeartbeats 4000000 in
theorem ok_unrolled (T : Facts P K mg) : FnG P w K mg base (L2.CX P w) 4 T.f_unrolled T.d_unrolled P_unrolled (spF K 3 w_unrolled) :=
  fnX (N := N_unrolled) (ps := P_unrolled) (k := 3) 9 3 (sm := m_unrolled) T.F_unrolled sc_unrolled rfl rfl (by decide) fun cdv A outer s H E hr hgd =>
  (ds_cons (ds_set 3 sc_unrolled.nd (d_lst (d_cons (d_var 1) d_nil)))
  (ds_cons (ds_set 4 sc_unrolled.nd (d_lst d_nil))
  (ds_cons (ds_set 5 sc_unrolled.nd (d_lst d_nil))
  (ds_cons (ds_for (passes_of rfl) (di_zip T.n_zip (d_cons (d_fz (d_sl (d_call (ok_places_on T) (hr.mono (by decide)) hgd T.g_places_on T.F_places_on.kp T.b_places_on (fun σ => passAt (takes_of rfl rfl rfl rfl) σ) (d_cons (d_var 0) (d_cons (d_var 1) (d_cons (d_var 2) d_nil))) (len_cons (len_cons (len_cons len_nil)))) (d_psome d_int) d_pnone)) (d_cons (d_var 2) d_nil))) (dg_tup rfl (dg_cons (dg_nm 6 sc_unrolled.nd) (dg_cons (dg_nm 7 sc_unrolled.nd) dg_nil)))
  (ds_cons (ds_app 4 (d_var 7))
  (ds_one (ds_if (dt_lend (dt_cmpV 3 op_in_seq ok_in (d_var 6)))
  (ds_cons (ds_set 8 sc_unrolled.nd (d_idx (d_var 3) (d_var 6)))
  (ds_cons (ds_app 5 (d_tupC (d_cons (d_var 6) (d_cons (d_sl (d_var 4) (d_psome (d_var 8)) d_pnone) d_nil))))
  (ds_cons (ds_set 4 sc_unrolled.nd (d_sl (d_var 4) d_pnone (d_psome (d_var 8))))
  (ds_one (ds_set 3 sc_unrolled.nd (d_sl (d_var 3) d_pnone (d_psome (d_add (d_var 8) d_int))))))))
  (ds_one (ds_app 3 (d_var 6)))))))
  (ds_one (ds_ret (d_tupC (d_cons (d_mv 4) (d_cons (d_mv 5) d_nil)))))))))
set_option maxHeartbeats 4000000 in
theorem okn__law_same (T : Facts P K mg) : ∀ n : Nat, FnG P w K mg base CX0 (0 + n) T.f__law_same T.d__law_same P__law_same (spF K 2 (wn__law_same n))
  | 0 => fnSt rfl
  | n + 1 => have ih := okn__law_same T n
    fn0 (N := N__law_same) (ps := P__law_same) (k := 0 + n) 3 2 (sm := m__law_same (wn__law_same n)) T.F__law_same sc__law_same rfl rfl (by decide) fun cdv A outer s H E hr hgd =>
  (ds_cons (ds_if (dt_w (dw_or (dt_cmp op_isN ok_isN (d_var 1) d_non) (dw_or1 (dt_cmp op_isN ok_isN (d_var 0) d_non))))
  (ds_one (ds_ret (d_and (d_cmp op_isN ok_isN (d_var 1) d_non) (d_one (d_cmp op_isN ok_isN (d_var 0) d_non)))))
  ds_nil)
  (ds_cons (ds_if (dt_w (dw_or (dt_tru (d_cb call_isi ok_isi T.n_isinstance (d_cons (d_var 1) (d_cons (d_bltn (v := .ty "list") (u := .type "list") T.n_list) d_nil)))) (dw_or1 (dt_tru (d_cb call_isi ok_isi T.n_isinstance (d_cons (d_var 1) (d_cons (d_bltn (v := .ty "tuple") (u := .type "tuple") T.n_tuple) d_nil)))))))
  (ds_cons (ds_if (dt_w (dw_or (dt_cmp (op_neAll hr.units) ok_ne (d_cb call_isi ok_isi T.n_isinstance (d_cons (d_var 1) (d_cons (d_bltn (v := .ty "list") (u := .type "list") T.n_list) d_nil))) (d_cb call_isi ok_isi T.n_isinstance (d_cons (d_var 0) (d_cons (d_bltn (v := .ty "list") (u := .type "list") T.n_list) d_nil)))) (dw_or1 (dt_cmp (op_neAll hr.units) ok_ne (d_cb call_isi ok_isi T.n_isinstance (d_cons (d_var 1) (d_cons (d_bltn (v := .ty "tuple") (u := .type "tuple") T.n_tuple) d_nil))) (d_cb call_isi ok_isi T.n_isinstance (d_cons (d_var 0) (d_cons (d_bltn (v := .ty "tuple") (u := .type "tuple") T.n_tuple) d_nil)))))))
  (ds_one (ds_ret d_bl))
  ds_nil)
  (ds_cons (ds_if (dt_cmp (op_neAll hr.units) ok_ne (d_cbV 0 call_len ok_len T.n_len) (d_cbV 1 call_len ok_len T.n_len))
  (ds_one (ds_ret d_bl))
  ds_nil)
  (ds_one (ds_ret (d_cb (cr_all rfl) ok_all T.n_all (d_cons (d_fz (d_lc [("_law_k", 2)] sc__law_same.nd (di_range1 T.n_range (d_cons (d_fz (d_cbV 1 call_len ok_len T.n_len)) d_nil)) (blkOk_by (N := N__law_same) (sc := defScope s__law_same) (by decide +kernel)) (fun _ _ _ _ _ => (dg_nm 2 sc__law_same.nd)) (fun _ _ _ _ _ => dts_nil) (fun _ _ _ _ _ => (d_fz (d_call ih (hr.mono (by omega)) hgd T.g__law_same T.F__law_same.kp T.b__law_same (fun _ => pass0S) (d_cons (d_ixV 0 (d_var 2)) (d_cons (d_ixV 1 (d_var 2)) d_nil)) (len_cons (len_cons len_nil))))))) d_nil))))))
  ds_nil)
  (ds_cons (ds_if (dt_w (dw_or (dt_tru (d_cb call_isi ok_isi T.n_isinstance (d_cons (d_var 1) (d_cons (d_bltn (v := .ty "bool") (u := .type "bool") T.n_bool) d_nil)))) (dw_or1 (dt_tru (d_cb call_isi ok_isi T.n_isinstance (d_cons (d_var 0) (d_cons (d_bltn (v := .ty "bool") (u := .type "bool") T.n_bool) d_nil)))))))
  (ds_one (ds_ret (d_and (d_cb call_isi ok_isi T.n_isinstance (d_cons (d_var 1) (d_cons (d_bltn (v := .ty "bool") (u := .type "bool") T.n_bool) d_nil))) (d_and (d_cb call_isi ok_isi T.n_isinstance (d_cons (d_var 0) (d_cons (d_bltn (v := .ty "bool") (u := .type "bool") T.n_bool) d_nil))) (d_one (d_cmp (op_eqAll hr.units) ok_eq (d_var 0) (d_var 1)))))))
  ds_nil)
  (ds_cons (ds_if (dt_tru (d_cb call_isi ok_isi T.n_isinstance (d_cons (d_var 1) (d_cons (d_bltn (v := .ty "int") (u := .type "int") T.n_int) d_nil))))
  (ds_one (ds_ret (d_and (d_cb call_isi ok_isi T.n_isinstance (d_cons (d_var 0) (d_cons (d_bltn (v := .ty "int") (u := .type "int") T.n_int) d_nil))) (d_one (d_cmp (op_eqAll hr.units) ok_eq (d_var 0) (d_var 1))))))
  ds_nil)
  (ds_one (ds_ret (d_and (d_cb call_isi ok_isi T.n_isinstance (d_cons (d_var 1) (d_cons (d_bltn (v := .ty "str") (u := .type "str") T.n_str) d_nil))) (d_and (d_cb call_isi ok_isi T.n_isinstance (d_cons (d_var 0) (d_cons (d_bltn (v := .ty "str") (u := .type "str") T.n_str) d_nil))) (d_one (d_cmp (op_eqAll hr.units) ok_eq (d_var 0) (d_var 1)))))))))))
theorem ok__law_same (T : Facts P K mg) : FnG P w K mg base CX0 6 T.f__law_same T.d__law_same P__law_same (spF K 2 w__law_same) := okn__law_same T 6
set_option maxHeartbeats 4000000 in
theorem ok__law_refused (T : Facts P K mg) : FnG P w K mg base CX0 5 T.f__law_refused T.d__law_refused P__law_refused (spF K 3 w__law_refused) :=
  fn0 (N := N__law_refused) (ps := P__law_refused) (k := 4) 4 3 (sm := m__law_refused) T.F__law_refused sc__law_refused rfl rfl (by decide) fun cdv A outer s H E hr hgd =>
  (ds_cons (ds_try (isc := (iscL [("NoBranch", true)])) (su := (fldOf "at")) 3 ⟨rfl, by decide, (Or.inl T.gc_NoBranch)⟩ (takes0) (iscL_ok (by intro p hp; simp only [List.mem_cons, List.not_mem_nil, or_false] at hp; rcases hp with rfl; exact T.exm_NoBranch_NoBranch)) (fun W pn xe tk hp =>
  (ds_one (ds_expr (d_call (ok_unrolled T) (hr.mono (by decide)) hgd T.g_unrolled T.F_unrolled.kp T.b_unrolled (fun σ => passAt tk σ) (d_cons (d_var 0) (d_cons (d_var 1) (d_cons (d_var 2) d_nil))) (len_cons (len_cons (len_cons len_nil))))))) (fun a oe cls d pn hz hf => (su_fld 3 (iscL_true (by intro p hp ht; simp only [List.mem_cons, List.not_mem_nil, or_false] at hp; subst hp; exact ⟨_, T.cl_NoBranch, T.xf_NoBranch, T.no_NoBranch⟩)) hz hf)) sc__law_refused.nd)
  (ds_one (ds_ret d_non)))
set_option maxHeartbeats 4000000 in
theorem ok__law_places (T : Facts P K mg) : FnG P w K mg base CX0 2 T.f__law_places T.d__law_places P__law_places (spF K 3 w__law_places) :=
  fn0 (N := N__law_places) (ps := P__law_places) (k := 1) 5 3 (sm := m__law_places) T.F__law_places sc__law_places rfl rfl (by decide) fun cdv A outer s H E hr hgd =>
  (ds_cons (ds_set 3 sc__law_places.nd (d_lst (d_cons (d_var 1) d_nil)))
  (ds_cons (ds_for PassesOwn.never (di_list (d_var 2)) (dg_nm 4 sc__law_places.nd)
  (ds_one (ds_app 3 (d_ix (d_call (ok__law_targets T) (hr.mono (by decide)) hgd T.g__law_targets T.F__law_targets.kp T.b__law_targets (fun _ => pass0S) (d_cons (d_ixV 0 (d_ixV 3 (d_neg d_int))) d_nil) (len_cons len_nil)) (d_var 4)))))
  (ds_one (ds_ret (d_mv 3)))))
set_option maxHeartbeats 4000000 in
theorem ok_number (T : Facts P K mg) : FnG P w K mg base CX0 1 T.f_number T.d_number P_number (spF K 2 w_number) :=
  fn0 (N := N_number) (ps := P_number) (k := 0) 3 2 (sm := m_number) T.F_number sc_number rfl rfl (by decide) fun cdv A outer s H E hr hgd =>
  (ds_cons (ds_if (dt_cmp op_lt ok_lt (d_var 1) d_int)
  (ds_one (ds_par 0 1 sc_number.nd (d_cons (d_neg (d_var 0)) (d_cons (d_neg (d_var 1)) d_nil))))
  ds_nil)
  (ds_cons (ds_set 2 sc_number.nd (d_cbfun cr_gcd ok_gcd T.n_gcd (d_cons (d_var 0) (d_cons (d_var 1) d_nil))))
  (ds_one (ds_ret (d_tup (d_cons (d_fz (d_div (d_var 0) (d_var 2))) (d_cons (d_fz (d_div (d_var 1) (d_var 2))) d_nil)))))))
set_option maxHeartbeats 4000000 in
theorem ok_plus (T : Facts P K mg) : FnG P w K mg base CX0 2 T.f_plus T.d_plus P_plus (spF K 2 w_plus) :=
  fn0 (N := N_plus) (ps := P_plus) (k := 1) 2 2 (sm := m_plus) T.F_plus sc_plus rfl rfl (by decide) fun cdv A outer s H E hr hgd =>
  (ds_one (ds_ret (d_call (ok_number T) (hr.mono (by decide)) hgd T.g_number T.F_number.kp T.b_number (fun _ => pass0S) (d_cons (d_fz (d_add (d_mul (d_ixV 0 d_int) (d_ixV 1 d_int)) (d_mul (d_ixV 1 d_int) (d_ixV 0 d_int)))) (d_cons (d_fz (d_mul (d_ixV 0 d_int) (d_ixV 1 d_int))) d_nil)) (len_cons (len_cons len_nil)))))
set_option maxHeartbeats 4000000 in
theorem ok_total (T : Facts P K mg) : FnG P w K mg base CX0 3 T.f_total T.d_total P_total (spF K 1 w_total) :=
  fn0 (N := N_total) (ps := P_total) (k := 2) 3 1 (sm := m_total) T.F_total sc_total rfl rfl (by decide) fun cdv A outer s H E hr hgd =>
  (ds_cons (ds_set 1 sc_total.nd (T.c_NOUGHT))
  (ds_cons (ds_for PassesOwn.never (di_list (d_var 0)) (dg_nm 2 sc_total.nd)
  (ds_one (ds_set 1 sc_total.nd (d_call (ok_plus T) (hr.mono (by decide)) hgd T.g_plus T.F_plus.kp T.b_plus (fun _ => pass0S) (d_cons (d_var 1) (d_cons (d_var 2) d_nil)) (len_cons (len_cons len_nil))))))
  (ds_one (ds_ret (d_mv 1)))))
set_option maxHeartbeats 4000000 in
theorem ok_sum_of (T : Facts P K mg) : FnG P w K mg base (L2.CX P w) 4 T.f_sum_of T.d_sum_of P_sum_of (spF K 3 w_sum_of) :=
  fnX (N := N_sum_of) (ps := P_sum_of) (k := 3) 4 3 (sm := m_sum_of) T.F_sum_of sc_sum_of rfl rfl (by decide) fun cdv A outer s H E hr hgd =>
  (ds_one (ds_ret (d_call (ok_total T) (hr.mono (by decide)) hgd T.g_total T.F_total.kp T.b_total (fun _ => pass0S) (d_cons (d_fz (d_lc [("place", 3)] sc_sum_of.nd (di_list (d_sl (d_call (ok_places_on T) (hr.mono (by decide)) hgd T.g_places_on T.F_places_on.kp T.b_places_on (fun σ => passAt (takes_of rfl rfl rfl rfl) σ) (d_cons (d_var 0) (d_cons (d_var 1) (d_cons (d_var 2) d_nil))) (len_cons (len_cons (len_cons len_nil)))) d_pnone (d_psome (d_neg d_int)))) (blkOk_by (N := N_sum_of) (sc := defScope s_sum_of) (by decide +kernel)) (fun _ _ _ _ _ => (dg_nm 3 sc_sum_of.nd)) (fun _ _ _ _ _ => dts_nil) (fun _ _ _ _ _ => (d_ix (d_ixV 0 (d_var 3)) d_int)))) d_nil) (len_cons len_nil))))
set_option maxHeartbeats 4000000 in
theorem ok__law_plus (T : Facts P K mg) : FnG P w K mg base CX0 3 T.f__law_plus T.d__law_plus P__law_plus (spF K 2 w__law_plus) :=
  fn0 (N := N__law_plus) (ps := P__law_plus) (k := 2) 2 2 (sm := m__law_plus) T.F__law_plus sc__law_plus rfl rfl (by decide) fun cdv A outer s H E hr hgd =>
  (ds_one (ds_ret (d_call (ok__law_number T) (hr.mono (by decide)) hgd T.g__law_number T.F__law_number.kp T.b__law_number (fun _ => pass0S) (d_cons (d_fz (d_add (d_mul (d_ixV 0 d_int) (d_ixV 1 d_int)) (d_mul (d_ixV 1 d_int) (d_ixV 0 d_int)))) (d_cons (d_fz (d_mul (d_ixV 0 d_int) (d_ixV 1 d_int))) d_nil)) (len_cons (len_cons len_nil)))))
set_option maxHeartbeats 4000000 in
theorem ok_law (T : Facts P K mg) : FnG P w K mg base CX0 7 T.f_law T.d_law P_law (spF K 1 w_law) :=
  fn0 (N := N_law) (ps := P_law) (k := 6) 18 1 (sm := m_law) T.F_law sc_law rfl rfl (by decide) fun cdv A outer s H E hr hgd =>
  (ds_cons (ds_set 1 sc_law.nd (d_call (ok__law_draws T) (hr.mono (by decide)) hgd T.g__law_draws T.F__law_draws.kp T.b__law_draws (fun _ => pass0S) (d_cons (d_var 0) (d_cons d_int d_nil)) (len_cons (len_cons len_nil))))
  (ds_cons (ds_set 2 sc_law.nd (d_call (ok__law_game T) (hr.mono (by decide)) hgd T.g__law_game T.F__law_game.kp T.b__law_game (fun _ => pass0S) (d_cons (d_var 1) (d_cons d_int d_nil)) (len_cons (len_cons len_nil))))
  (ds_cons (ds_if (dt_cmp (op_eqAll hr.units) ok_eq (d_mod (d_cbty call_int1 ok_int T.n_int (d_cons (d_ixV 1 d_int) d_nil)) d_int) d_int)
  (ds_one (ds_setLc 2 [("_law_k", 17)] sc_law.nd (di_range1 T.n_range (d_cons d_int d_nil)) (blkOk_by (N := N_law) (sc := defScope s_law) (by decide +kernel)) (fun _ _ _ _ _ => (dg_nm 17 sc_law.nd)) (fun _ _ _ _ _ => dts_nil) (fun _ _ _ _ _ => (d_tup (d_cons (d_tup (d_cons (d_var 17) (d_cons d_int d_nil))) (d_cons d_str (d_cons (d_fz (d_lst (d_cons (d_fz (d_mod (d_cbty call_int1 ok_int T.n_int (d_cons (d_fz (d_add (d_var 17) d_int)) d_nil)) d_int)) (d_cons (d_fz (d_mod (d_cbty call_int1 ok_int T.n_int (d_cons (d_fz (d_add (d_var 17) d_int)) d_nil)) d_int)) (d_cons (d_fz (d_mod (d_cbty call_int1 ok_int T.n_int (d_cons (d_fz (d_add (d_var 17) d_int)) d_nil)) d_int)) (d_cons d_int d_nil)))))) d_nil)))))))
  ds_nil)
  (ds_cons (ds_set 3 sc_law.nd (d_mod (d_cbty call_int1 ok_int T.n_int (d_cons (d_ixV 1 d_int) d_nil)) (d_cbV 2 call_len ok_len T.n_len)))
  (ds_cons (ds_set 4 sc_law.nd (d_call (ok__law_way T) (hr.mono (by decide)) hgd T.g__law_way T.F__law_way.kp T.b__law_way (fun _ => pass0S) (d_cons (d_var 2) (d_cons (d_var 3) (d_cons (d_fz (d_sl (d_var 1) (d_psome d_int) (d_psome (d_add d_int (d_mod (d_cbty call_int1 ok_int T.n_int (d_cons (d_ixV 1 d_int) d_nil)) d_int))))) d_nil))) (len_cons (len_cons (len_cons len_nil)))))
  (ds_cons (ds_set 5 sc_law.nd (d_cb (call_show hgd hr.units) ok_show T.n_repr (d_cons (d_tup (d_cons (d_var 2) (d_cons (d_var 4) d_nil))) d_nil)))
  (ds_cons (ds_set 6 sc_law.nd (d_call (ok__law_unrolled T) (hr.mono (by decide)) hgd T.g__law_unrolled T.F__law_unrolled.kp T.b__law_unrolled (fun _ => pass0S) (d_cons (d_var 2) (d_cons (d_var 3) (d_cons (d_var 4) d_nil))) (len_cons (len_cons (len_cons len_nil)))))
  (ds_cons (ds_for PassesOwn.never (di_range1 T.n_range (d_cons d_int d_nil)) (dg_nm 7 sc_law.nd)
  (ds_cons (ds_set 8 sc_law.nd (d_call (ok_unrolled T) (hr.mono (by decide)) hgd T.g_unrolled T.F_unrolled.kp T.b_unrolled (fun σ => passAt (takes0) σ) (d_cons (d_var 2) (d_cons (d_var 3) (d_cons (d_var 4) d_nil))) (len_cons (len_cons (len_cons len_nil)))))
  (ds_cons (ds_if (dt_lend (dt_not (dt_tru (d_call (ok__law_same T) (hr.mono (by decide)) hgd T.g__law_same T.F__law_same.kp T.b__law_same (fun _ => pass0S) (d_cons (d_var 8) (d_cons (d_var 6) d_nil)) (len_cons (len_cons len_nil))))))
  (ds_one (ds_ret d_bl))
  ds_nil)
  (ds_cons (ds_forL (i := 8) [1] T.n_list PassesOwn.never (path_c (path_var 8)) (dg_tup rfl (dg_cons (dg_nm 9 sc_law.nd) (dg_cons (dg_nm 10 sc_law.nd) dg_nil)))
  (ds_one (ds_app 10 d_int)))
  (ds_cons (ds_mut (mut_push (d := .int 0) (v := .int 0) rfl) (ps_push (path_c (path_var 8)) pe_int))
  (ds_one (ds_mut (mut_push (d := .non) (v := .non) rfl) (ps_push (path_c (path_var 8)) pe_non))))))))
  (ds_cons (ds_if (dt_cmp (op_neAll hr.units) ok_ne (d_call (ok__law_refused T) (hr.mono (by decide)) hgd T.g__law_refused T.F__law_refused.kp T.b__law_refused (fun _ => pass0S) (d_cons (d_var 2) (d_cons (d_var 3) (d_cons (d_fz (d_add (d_var 4) (d_lst (d_cons d_int (d_cons (d_neg d_int) d_nil))))) d_nil))) (len_cons (len_cons (len_cons len_nil)))) (d_cbV 4 call_len ok_len T.n_len))
  (ds_one (ds_ret d_bl))
  ds_nil)
  (ds_cons (ds_asg (d_var 6) (dg_tup rfl (dg_cons (dg_nm 11 sc_law.nd) (dg_cons (dg_nm 12 sc_law.nd) dg_nil))))
  (ds_cons (ds_set 13 sc_law.nd (d_call (ok__law_places T) (hr.mono (by decide)) hgd T.g__law_places T.F__law_places.kp T.b__law_places (fun _ => pass0S) (d_cons (d_var 2) (d_cons (d_var 3) (d_cons (d_var 11) d_nil))) (len_cons (len_cons (len_cons len_nil)))))
  (ds_cons (ds_if (dt_cmp (op_neAll hr.units) ok_ne (d_cbV 13 call_len ok_len T.n_len) (d_cb call_len ok_len T.n_len (d_cons (d_fz (d_lc [("_law_k", 17)] sc_law.nd (di_range1 T.n_range (d_cons (d_fz (d_cbV 13 call_len ok_len T.n_len)) d_nil)) (blkOk_by (N := N_law) (sc := defScope s_law) (by decide +kernel)) (fun _ _ _ _ _ => (dg_nm 17 sc_law.nd)) (fun _ _ _ _ _ => (dts_one (dt_cmp op_notIn_seq ok_nin (d_ixV 13 (d_var 17)) (d_sl (d_var 13) d_pnone (d_psome (d_var 17)))))) (fun _ _ _ _ _ => (d_var 17)))) d_nil)))
  (ds_one (ds_ret d_bl))
  ds_nil)
  (ds_cons (ds_set 14 sc_law.nd (d_call (ok_sum_of T) (hr.mono (by decide)) hgd T.g_sum_of T.F_sum_of.kp T.b_sum_of (fun σ => passAt (takes0) σ) (d_cons (d_var 2) (d_cons (d_var 3) (d_cons (d_var 11) d_nil))) (len_cons (len_cons (len_cons len_nil)))))
  (ds_cons (ds_set 15 sc_law.nd (d_cbV 11 call_len ok_len T.n_len))
  (ds_cons (ds_for PassesOwn.never (di_list (d_var 12)) (dg_tup rfl (dg_cons (dg_nm 9 sc_law.nd) (dg_cons (dg_nm 10 sc_law.nd) dg_nil)))
  (ds_cons (ds_set 16 sc_law.nd (d_call (ok__law_places T) (hr.mono (by decide)) hgd T.g__law_places T.F__law_places.kp T.b__law_places (fun _ => pass0S) (d_cons (d_var 2) (d_cons (d_var 9) (d_cons (d_var 10) d_nil))) (len_cons (len_cons (len_cons len_nil)))))
  (ds_cons (ds_if (dt_w (dw_or (dt_cmp (op_neAll hr.units) ok_ne (d_ixV 16 (d_neg d_int)) (d_var 9)) (dw_or1 (dt_tru (d_cb (cr_any rfl) ok_any T.n_any (d_cons (d_fz (d_lc [("_law_k", 17)] sc_law.nd (di_range1 T.n_range (d_cons (d_fz (d_cbV 10 call_len ok_len T.n_len)) d_nil)) (blkOk_by (N := N_law) (sc := defScope s_law) (by decide +kernel)) (fun _ _ _ _ _ => (dg_nm 17 sc_law.nd)) (fun _ _ _ _ _ => dts_nil) (fun _ _ _ _ _ => (d_cmp op_in_seq ok_in (d_ixV 16 (d_var 17)) (d_sl (d_var 16) d_pnone (d_psome (d_var 17))))))) d_nil))))))
  (ds_one (ds_ret d_bl))
  ds_nil)
  (ds_cons (ds_set 14 sc_law.nd (d_call (ok__law_plus T) (hr.mono (by decide)) hgd T.g__law_plus T.F__law_plus.kp T.b__law_plus (fun _ => pass0S) (d_cons (d_var 14) (d_cons (d_fz (d_call (ok_sum_of T) (hr.mono (by decide)) hgd T.g_sum_of T.F_sum_of.kp T.b_sum_of (fun σ => passAt (takes0) σ) (d_cons (d_var 2) (d_cons (d_var 9) (d_cons (d_var 10) d_nil))) (len_cons (len_cons (len_cons len_nil))))) d_nil)) (len_cons (len_cons len_nil))))
  (ds_one (ds_set 15 sc_law.nd (d_add (d_var 15) (d_cbV 10 call_len ok_len T.n_len))))))))
  (ds_one (ds_ret (d_and (d_cmp (op_eqAll hr.units) ok_eq (d_var 15) (d_cbV 4 call_len ok_len T.n_len)) (d_and (d_call (ok__law_same T) (hr.mono (by decide)) hgd T.g__law_same T.F__law_same.kp T.b__law_same (fun _ => pass0S) (d_cons (d_fz (d_call (ok_sum_of T) (hr.mono (by decide)) hgd T.g_sum_of T.F_sum_of.kp T.b_sum_of (fun σ => passAt (takes0) σ) (d_cons (d_var 2) (d_cons (d_var 3) (d_cons (d_var 4) d_nil))) (len_cons (len_cons (len_cons len_nil))))) (d_cons (d_var 14) d_nil)) (len_cons (len_cons len_nil))) (d_one (d_cmp (op_eqAll hr.units) ok_eq (d_cb (call_show hgd hr.units) ok_show T.n_repr (d_cons (d_tup (d_cons (d_var 2) (d_cons (d_var 4) d_nil))) d_nil)) (d_var 5))))))))))))))))))))))
end
/-! ### what the top has written -/
theorem all_mk {l : PySem.W.OpenLaw} {w : World} {K : PySem.W.Frag} {h : Heap} {mg : Str → Option Value} {fa f1 f2 f3 f4 f5 f6 f7 f8 f9 f10 f11 f12 f13 f14 f15 f16 f17 f18 f19 f20 f21 xC0 xI0 xN0 xK0 xc0 : Addr} (X : K.In h) (G : h.Ns mainGlobals mg) (hfa : mg "law" = some (.ref fa))
    {od1 an1 od2 an2 od3 an3 od4 an4 od5 an5 od6 an6 od7 an7 od8 an8 od9 an9 od10 an10 od11 an11 od12 an12 od13 an13 od14 an14 od15 an15 od16 an16 od17 an17 od18 an18 od19 an19 od20 an20 od21 an21 : Option Addr} {sl1 sl2 sl3 sl4 sl5 sl6 sl7 sl8 sl9 sl10 sl11 sl12 sl13 sl14 sl15 sl16 sl17 sl18 sl19 sl20 sl21 : Array (Option Value)} {oc1 kV1 dc1 pm1 cd1 ct1 oc2 kV2 dc2 pm2 cd2 ct2 oc3 kV3 dc3 pm3 cd3 ct3 oc4 kV4 dc4 pm4 cd4 ct4 oc5 kV5 dc5 pm5 cd5 ct5 oc6 kV6 dc6 pm6 cd6 ct6 oc7 kV7 dc7 pm7 cd7 ct7 oc8 kV8 dc8 pm8 cd8 ct8 oc9 kV9 dc9 pm9 cd9 ct9 oc10 kV10 dc10 pm10 cd10 ct10 oc11 kV11 dc11 pm11 cd11 ct11 oc12 kV12 dc12 pm12 cd12 ct12 oc13 kV13 dc13 pm13 cd13 ct13 oc14 kV14 dc14 pm14 cd14 ct14 oc15 kV15 dc15 pm15 cd15 ct15 oc16 kV16 dc16 pm16 cd16 ct16 oc17 kV17 dc17 pm17 cd17 ct17 oc18 kV18 dc18 pm18 cd18 ct18 oc19 kV19 dc19 pm19 cd19 ct19 oc20 kV20 dc20 pm20 cd20 ct20 oc21 kV21 dc21 pm21 cd21 ct21 : Value} {ca0 : Addr} {cn0 : Nat} {cs0 : Array (Option Value)} {co0 : Option Addr} {tc0_0 tc0_1 : Tok} {xn0 xq0 : Str} {xb0 xm0 : List Value} {xs0 : List Str} {xu0 : List Value} {xa0 : Bool} {xo0 : Option Bool} {xd0 : Option Addr} {xk00 xk10 xk20 xk30 xk50 : Option Value} {xoc0 : Value} {xod0 : Option Addr} {xdo0 xpm0 : Value} {xan0 : Option Addr} {xct0 : Value} {xol0 : Array (Option Value)} {xcl0 : Value} {xcd0 : Option Addr} {xvs0 : Array Value} {xcs0 : Array (Option Value)} {xfi0 : Str} {xtf0 : Tok} {xel0 : Value} {xed0 : Option Addr} {xes0 : Array (Option Value)}
    (a1 : PySem.W.nsIn K mainGlobals "_law_draws" = some (some (.ref f1))) (l1 : K.lookup f1 = some ⟨oc1, od1, .func (PySem.W.fnOf "_law_draws" "_law_draws" (defArgs s__law_draws) (defBody s__law_draws) (defScope s__law_draws) .none kV1 dc1 pm1 an1 cd1 ct1), sl1⟩) (c1 : PySem.W.codeIn K cd1 "_law_draws" = true) (k1 : PySem.W.keepIn K (.ref f1) = true)
    (a2 : PySem.W.nsIn K mainGlobals "_law_gcd" = some (some (.ref f2))) (l2 : K.lookup f2 = some ⟨oc2, od2, .func (PySem.W.fnOf "_law_gcd" "_law_gcd" (defArgs s__law_gcd) (defBody s__law_gcd) (defScope s__law_gcd) .none kV2 dc2 pm2 an2 cd2 ct2), sl2⟩) (c2 : PySem.W.codeIn K cd2 "_law_gcd" = true) (k2 : PySem.W.keepIn K (.ref f2) = true)
    (a3 : PySem.W.nsIn K mainGlobals "_law_number" = some (some (.ref f3))) (l3 : K.lookup f3 = some ⟨oc3, od3, .func (PySem.W.fnOf "_law_number" "_law_number" (defArgs s__law_number) (defBody s__law_number) (defScope s__law_number) .none kV3 dc3 pm3 an3 cd3 ct3), sl3⟩) (c3 : PySem.W.codeIn K cd3 "_law_number" = true) (k3 : PySem.W.keepIn K (.ref f3) = true)
    (a4 : PySem.W.nsIn K mainGlobals "_law_place" = some (some (.ref f4))) (l4 : K.lookup f4 = some ⟨oc4, od4, .func (PySem.W.fnOf "_law_place" "_law_place" (defArgs s__law_place) (defBody s__law_place) (defScope s__law_place) .none kV4 dc4 pm4 an4 cd4 ct4), sl4⟩) (c4 : PySem.W.codeIn K cd4 "_law_place" = true) (k4 : PySem.W.keepIn K (.ref f4) = true)
    (a5 : PySem.W.nsIn K mainGlobals "_law_game" = some (some (.ref f5))) (l5 : K.lookup f5 = some ⟨oc5, od5, .func (PySem.W.fnOf "_law_game" "_law_game" (defArgs s__law_game) (defBody s__law_game) (defScope s__law_game) .none kV5 dc5 pm5 an5 cd5 ct5), sl5⟩) (c5 : PySem.W.codeIn K cd5 "_law_game" = true) (k5 : PySem.W.keepIn K (.ref f5) = true)
    (a6 : PySem.W.nsIn K mainGlobals "_law_targets" = some (some (.ref f6))) (l6 : K.lookup f6 = some ⟨oc6, od6, .func (PySem.W.fnOf "_law_targets" "_law_targets" (defArgs s__law_targets) (defBody s__law_targets) (defScope s__law_targets) .none kV6 dc6 pm6 an6 cd6 ct6), sl6⟩) (c6 : PySem.W.codeIn K cd6 "_law_targets" = true) (k6 : PySem.W.keepIn K (.ref f6) = true)
    (a7 : PySem.W.nsIn K mainGlobals "_law_way" = some (some (.ref f7))) (l7 : K.lookup f7 = some ⟨oc7, od7, .func (PySem.W.fnOf "_law_way" "_law_way" (defArgs s__law_way) (defBody s__law_way) (defScope s__law_way) .none kV7 dc7 pm7 an7 cd7 ct7), sl7⟩) (c7 : PySem.W.codeIn K cd7 "_law_way" = true) (k7 : PySem.W.keepIn K (.ref f7) = true)
    (a8 : PySem.W.nsIn K mainGlobals "_law_unrolled" = some (some (.ref f8))) (l8 : K.lookup f8 = some ⟨oc8, od8, .func (PySem.W.fnOf "_law_unrolled" "_law_unrolled" (defArgs s__law_unrolled) (defBody s__law_unrolled) (defScope s__law_unrolled) .none kV8 dc8 pm8 an8 cd8 ct8), sl8⟩) (c8 : PySem.W.codeIn K cd8 "_law_unrolled" = true) (k8 : PySem.W.keepIn K (.ref f8) = true)
    (a9 : PySem.W.nsIn K mainGlobals "targets" = some (some (.ref f9))) (l9 : K.lookup f9 = some ⟨oc9, od9, .func (PySem.W.fnOf "targets" "targets" (defArgs s_targets) (defBody s_targets) (defScope s_targets) .none kV9 dc9 pm9 an9 cd9 ct9), sl9⟩) (c9 : PySem.W.codeIn K cd9 "targets" = true) (k9 : PySem.W.keepIn K (.ref f9) = true)
    (a10 : PySem.W.nsIn K mainGlobals "walk" = some (some (.ref f10))) (l10 : K.lookup f10 = some ⟨oc10, od10, .func (PySem.W.fnOf "walk" "walk" (defArgs s_walk) (defBody s_walk) (defScope s_walk) .none kV10 dc10 pm10 an10 cd10 ct10), sl10⟩) (c10 : PySem.W.codeIn K cd10 "walk" = true) (k10 : PySem.W.keepIn K (.ref f10) = true)
    (a11 : PySem.W.nsIn K mainGlobals "places_on" = some (some (.ref f11))) (l11 : K.lookup f11 = some ⟨oc11, od11, .func (PySem.W.fnOf "places_on" "places_on" (defArgs s_places_on) (defBody s_places_on) (defScope s_places_on) .none kV11 dc11 pm11 an11 cd11 ct11), sl11⟩) (c11 : PySem.W.codeIn K cd11 "places_on" = true) (k11 : PySem.W.keepIn K (.ref f11) = true)
    (a12 : PySem.W.nsIn K mainGlobals "unrolled" = some (some (.ref f12))) (l12 : K.lookup f12 = some ⟨oc12, od12, .func (PySem.W.fnOf "unrolled" "unrolled" (defArgs s_unrolled) (defBody s_unrolled) (defScope s_unrolled) .none kV12 dc12 pm12 an12 cd12 ct12), sl12⟩) (c12 : PySem.W.codeIn K cd12 "unrolled" = true) (k12 : PySem.W.keepIn K (.ref f12) = true)
    (a13 : PySem.W.nsIn K mainGlobals "_law_same" = some (some (.ref f13))) (l13 : K.lookup f13 = some ⟨oc13, od13, .func (PySem.W.fnOf "_law_same" "_law_same" (defArgs s__law_same) (defBody s__law_same) (defScope s__law_same) .none kV13 dc13 pm13 an13 cd13 ct13), sl13⟩) (c13 : PySem.W.codeIn K cd13 "_law_same" = true) (k13 : PySem.W.keepIn K (.ref f13) = true)
    (a14 : PySem.W.nsIn K mainGlobals "_law_refused" = some (some (.ref f14))) (l14 : K.lookup f14 = some ⟨oc14, od14, .func (PySem.W.fnOf "_law_refused" "_law_refused" (defArgs s__law_refused) (defBody s__law_refused) (defScope s__law_refused) .none kV14 dc14 pm14 an14 cd14 ct14), sl14⟩) (c14 : PySem.W.codeIn K cd14 "_law_refused" = true) (k14 : PySem.W.keepIn K (.ref f14) = true)
    (a15 : PySem.W.nsIn K mainGlobals "_law_places" = some (some (.ref f15))) (l15 : K.lookup f15 = some ⟨oc15, od15, .func (PySem.W.fnOf "_law_places" "_law_places" (defArgs s__law_places) (defBody s__law_places) (defScope s__law_places) .none kV15 dc15 pm15 an15 cd15 ct15), sl15⟩) (c15 : PySem.W.codeIn K cd15 "_law_places" = true) (k15 : PySem.W.keepIn K (.ref f15) = true)
    (a16 : PySem.W.nsIn K mainGlobals "number" = some (some (.ref f16))) (l16 : K.lookup f16 = some ⟨oc16, od16, .func (PySem.W.fnOf "number" "number" (defArgs s_number) (defBody s_number) (defScope s_number) .none kV16 dc16 pm16 an16 cd16 ct16), sl16⟩) (c16 : PySem.W.codeIn K cd16 "number" = true) (k16 : PySem.W.keepIn K (.ref f16) = true)
    (a17 : PySem.W.nsIn K mainGlobals "plus" = some (some (.ref f17))) (l17 : K.lookup f17 = some ⟨oc17, od17, .func (PySem.W.fnOf "plus" "plus" (defArgs s_plus) (defBody s_plus) (defScope s_plus) .none kV17 dc17 pm17 an17 cd17 ct17), sl17⟩) (c17 : PySem.W.codeIn K cd17 "plus" = true) (k17 : PySem.W.keepIn K (.ref f17) = true)
    (a18 : PySem.W.nsIn K mainGlobals "total" = some (some (.ref f18))) (l18 : K.lookup f18 = some ⟨oc18, od18, .func (PySem.W.fnOf "total" "total" (defArgs s_total) (defBody s_total) (defScope s_total) .none kV18 dc18 pm18 an18 cd18 ct18), sl18⟩) (c18 : PySem.W.codeIn K cd18 "total" = true) (k18 : PySem.W.keepIn K (.ref f18) = true)
    (a19 : PySem.W.nsIn K mainGlobals "sum_of" = some (some (.ref f19))) (l19 : K.lookup f19 = some ⟨oc19, od19, .func (PySem.W.fnOf "sum_of" "sum_of" (defArgs s_sum_of) (defBody s_sum_of) (defScope s_sum_of) .none kV19 dc19 pm19 an19 cd19 ct19), sl19⟩) (c19 : PySem.W.codeIn K cd19 "sum_of" = true) (k19 : PySem.W.keepIn K (.ref f19) = true)
    (a20 : PySem.W.nsIn K mainGlobals "_law_plus" = some (some (.ref f20))) (l20 : K.lookup f20 = some ⟨oc20, od20, .func (PySem.W.fnOf "_law_plus" "_law_plus" (defArgs s__law_plus) (defBody s__law_plus) (defScope s__law_plus) .none kV20 dc20 pm20 an20 cd20 ct20), sl20⟩) (c20 : PySem.W.codeIn K cd20 "_law_plus" = true) (k20 : PySem.W.keepIn K (.ref f20) = true)
    (a21 : PySem.W.nsIn K mainGlobals "law" = some (some (.ref f21))) (l21 : K.lookup f21 = some ⟨oc21, od21, .func (PySem.W.fnOf "law" "law" (defArgs s_law) (defBody s_law) (defScope s_law) .none kV21 dc21 pm21 an21 cd21 ct21), sl21⟩) (c21 : PySem.W.codeIn K cd21 "law" = true) (k21 : PySem.W.keepIn K (.ref f21) = true)
    (z0 : PySem.W.nsIn K mainGlobals "range" = some none)
    (z1 : PySem.W.nsIn K mainGlobals "len" = some none)
    (z2 : PySem.W.nsIn K mainGlobals "int" = some none)
    (z3 : PySem.W.nsIn K mainGlobals "abs" = some none)
    (z4 : PySem.W.nsIn K mainGlobals "sum" = some none)
    (z5 : PySem.W.nsIn K mainGlobals "list" = some none)
    (z6 : PySem.W.nsIn K mainGlobals "enumerate" = some none)
    (z7 : PySem.W.nsIn K mainGlobals "zip" = some none)
    (z8 : PySem.W.nsIn K mainGlobals "isinstance" = some none)
    (z9 : PySem.W.nsIn K mainGlobals "tuple" = some none)
    (z10 : PySem.W.nsIn K mainGlobals "all" = some none)
    (z11 : PySem.W.nsIn K mainGlobals "bool" = some none)
    (z12 : PySem.W.nsIn K mainGlobals "str" = some none)
    (z13 : PySem.W.nsIn K mainGlobals "gcd" = some (some (.builtin "math.gcd")))
    (z14 : PySem.W.nsIn K mainGlobals "repr" = some none)
    (z15 : PySem.W.nsIn K mainGlobals "any" = some none)
    (q0 : PySem.W.nsIn K mainGlobals "NOUGHT" = some (some (.ref ca0))) (r0 : K.lookup ca0 = some ⟨.type "tuple", co0, .seq #[.int 0 tc0_0, .int 1 tc0_1] cn0, cs0⟩)
    (kca0 : PySem.W.nsIn K mainGlobals "NoBranch" = some (some (.ref xC0)))
    (xl0 : K.lookup xC0 = some (excClassObj xn0 xq0 xC0 xN0 xb0 xm0 true xs0 xu0 xa0 xo0 xd0 xk00 xk10 xk20 xk30 xk50 "ValueError.__new__"))
    (xr0 : PySem.HandSPX.refsVE xm0 = true)
    (xsa0 : PySem.W.findIn K (.ref xC0) "__setattr__" = some (some (.builtin "object.__setattr__")))
    (xi0 : PySem.W.findIn K (.ref xC0) "__init__" = some (some (.ref xI0)))
    (xt0 : PySem.W.typeIn K (.ref xI0) = some (.type "function"))
    (xk0 : PySem.W.keepIn K (.ref xC0) = true)
    (xe0 : PySem.W.subIn K (.ref xC0) (.type "BaseException") = some true)
    (xv0 : PySem.W.subIn K (.ref xC0) (.type "ValueError") = some true)
    (xty0 : PySem.W.typeIn K (.ref xC0) = some (.type "type"))
    (xsu0 : PySem.W.ks_superIn K xC0 xC0 "__init__" = some (some (.builtin "ValueError.__init__")))
    (xop0 : PySem.W.nsIn K cStatics "thirdparty.any" = some none)
    (xtp0 : (l.prog.main.scope.names.lookup ("super" : Str)).isSome = false)
    (xfn0 : K.lookup xI0 = some ⟨xoc0, xod0, .func (PySem.W.ksFn "__init__" "NoBranch.__init__" (defArgs i_NoBranch) (defBody i_NoBranch) (defScope i_NoBranch) .none .none xdo0 xpm0 xan0 (.ref xK0) xct0 xc0), xol0⟩)
    (xco0 : PySem.W.codeIn K (.ref xK0) "NoBranch.__init__" = true)
    (xlk0 : K.lookup xK0 = some ⟨xcl0, xcd0, .fields xvs0, xcs0⟩)
    (xfl0 : xvs0[2]? = some (.str xfi0 xtf0))
    (xfe0 : ((l.prog.main.file : Str) == xfi0) = true)
    (xce0 : K.lookup xc0 = some ⟨xel0, xed0, .cell (some (.ref xC0)), xes0⟩)
    (xga0 : PySem.W.findIn K (.ref xC0) "__getattribute__" = some (some (.builtin "BaseException.__getattribute__")))
    (xgg0 : PySem.W.findIn K (.ref xC0) "__getattr__" = some none)
    (xhd0 : PySem.W.hasDictIn K xC0 = true)
    (xno0 : PySem.W.findIn K (.ref xC0) "at" = some none)
    (xx0 : PySem.W.exmOne K (.ref xC0) (.ref xC0) = some true)
    (xsp : PySem.W.nsIn K mainGlobals "super" = some none) :
    ∃ fd : FuncData, (∀ (s : Shared) (v : Value), BindsTo s fd ⟨[v], []⟩ [("_law_script", v)]) ∧ ∀ base : Heap, K.In base → base.Ns mainGlobals mg → FnG l.prog w K mg base CX0 7 fa fd ["_law_script"] (spF K 1 w_law) := by
  have e := hfa.symm.trans (PySem.W.mg_of X G a21)
  cases e
  have F1 := fun_mk (st := s__law_draws) l1 c1 k1
  have F2 := fun_mk (st := s__law_gcd) l2 c2 k2
  have F3 := fun_mk (st := s__law_number) l3 c3 k3
  have F4 := fun_mk (st := s__law_place) l4 c4 k4
  have F5 := fun_mk (st := s__law_game) l5 c5 k5
  have F6 := fun_mk (st := s__law_targets) l6 c6 k6
  have F7 := fun_mk (st := s__law_way) l7 c7 k7
  have F8 := fun_mk (st := s__law_unrolled) l8 c8 k8
  have F9 := fun_mk (st := s_targets) l9 c9 k9
  have F10 := fun_mk (st := s_walk) l10 c10 k10
  have F11 := fun_mk (st := s_places_on) l11 c11 k11
  have F12 := fun_mk (st := s_unrolled) l12 c12 k12
  have F13 := fun_mk (st := s__law_same) l13 c13 k13
  have F14 := fun_mk (st := s__law_refused) l14 c14 k14
  have F15 := fun_mk (st := s__law_places) l15 c15 k15
  have F16 := fun_mk (st := s_number) l16 c16 k16
  have F17 := fun_mk (st := s_plus) l17 c17 k17
  have F18 := fun_mk (st := s_total) l18 c18 k18
  have F19 := fun_mk (st := s_sum_of) l19 c19 k19
  have F20 := fun_mk (st := s__law_plus) l20 c20 k20
  have F21 := fun_mk (st := s_law) l21 c21 k21
  refine ⟨_, fun s v => .of_eq rfl, fun base _ _ => ok_law (T := {
    f__law_draws := f1, d__law_draws := _, F__law_draws := F1, g__law_draws := PySem.W.mg_of X G a1,
    b__law_draws := F1.binds (ps := P__law_draws) (fun _ _ _ _ _ _ us hl => match us, hl with | [_, _], _ => rfl),
    f__law_gcd := f2, d__law_gcd := _, F__law_gcd := F2, g__law_gcd := PySem.W.mg_of X G a2,
    b__law_gcd := F2.binds (ps := P__law_gcd) (fun _ _ _ _ _ _ us hl => match us, hl with | [_, _], _ => rfl),
    f__law_number := f3, d__law_number := _, F__law_number := F3, g__law_number := PySem.W.mg_of X G a3,
    b__law_number := F3.binds (ps := P__law_number) (fun _ _ _ _ _ _ us hl => match us, hl with | [_, _], _ => rfl),
    f__law_place := f4, d__law_place := _, F__law_place := F4, g__law_place := PySem.W.mg_of X G a4,
    b__law_place := F4.binds (ps := P__law_place) (fun _ _ _ _ _ _ us hl => match us, hl with | [_, _], _ => rfl),
    f__law_game := f5, d__law_game := _, F__law_game := F5, g__law_game := PySem.W.mg_of X G a5,
    b__law_game := F5.binds (ps := P__law_game) (fun _ _ _ _ _ _ us hl => match us, hl with | [_, _], _ => rfl),
    f__law_targets := f6, d__law_targets := _, F__law_targets := F6, g__law_targets := PySem.W.mg_of X G a6,
    b__law_targets := F6.binds (ps := P__law_targets) (fun _ _ _ _ _ _ us hl => match us, hl with | [_], _ => rfl),
    f__law_way := f7, d__law_way := _, F__law_way := F7, g__law_way := PySem.W.mg_of X G a7,
    b__law_way := F7.binds (ps := P__law_way) (fun _ _ _ _ _ _ us hl => match us, hl with | [_, _, _], _ => rfl),
    f__law_unrolled := f8, d__law_unrolled := _, F__law_unrolled := F8, g__law_unrolled := PySem.W.mg_of X G a8,
    b__law_unrolled := F8.binds (ps := P__law_unrolled) (fun _ _ _ _ _ _ us hl => match us, hl with | [_, _, _], _ => rfl),
    f_targets := f9, d_targets := _, F_targets := F9, g_targets := PySem.W.mg_of X G a9,
    b_targets := F9.binds (ps := P_targets) (fun _ _ _ _ _ _ us hl => match us, hl with | [_, _], _ => rfl),
    f_walk := f10, d_walk := _, F_walk := F10, g_walk := PySem.W.mg_of X G a10,
    b_walk := F10.binds (ps := P_walk) (fun _ _ _ _ _ _ us hl => match us, hl with | [_, _, _, _], _ => rfl),
    f_places_on := f11, d_places_on := _, F_places_on := F11, g_places_on := PySem.W.mg_of X G a11,
    b_places_on := F11.binds (ps := P_places_on) (fun _ _ _ _ _ _ us hl => match us, hl with | [_, _, _], _ => rfl),
    f_unrolled := f12, d_unrolled := _, F_unrolled := F12, g_unrolled := PySem.W.mg_of X G a12,
    b_unrolled := F12.binds (ps := P_unrolled) (fun _ _ _ _ _ _ us hl => match us, hl with | [_, _, _], _ => rfl),
    f__law_same := f13, d__law_same := _, F__law_same := F13, g__law_same := PySem.W.mg_of X G a13,
    b__law_same := F13.binds (ps := P__law_same) (fun _ _ _ _ _ _ us hl => match us, hl with | [_, _], _ => rfl),
    f__law_refused := f14, d__law_refused := _, F__law_refused := F14, g__law_refused := PySem.W.mg_of X G a14,
    b__law_refused := F14.binds (ps := P__law_refused) (fun _ _ _ _ _ _ us hl => match us, hl with | [_, _, _], _ => rfl),
    f__law_places := f15, d__law_places := _, F__law_places := F15, g__law_places := PySem.W.mg_of X G a15,
    b__law_places := F15.binds (ps := P__law_places) (fun _ _ _ _ _ _ us hl => match us, hl with | [_, _, _], _ => rfl),
    f_number := f16, d_number := _, F_number := F16, g_number := PySem.W.mg_of X G a16,
    b_number := F16.binds (ps := P_number) (fun _ _ _ _ _ _ us hl => match us, hl with | [_, _], _ => rfl),
    f_plus := f17, d_plus := _, F_plus := F17, g_plus := PySem.W.mg_of X G a17,
    b_plus := F17.binds (ps := P_plus) (fun _ _ _ _ _ _ us hl => match us, hl with | [_, _], _ => rfl),
    f_total := f18, d_total := _, F_total := F18, g_total := PySem.W.mg_of X G a18,
    b_total := F18.binds (ps := P_total) (fun _ _ _ _ _ _ us hl => match us, hl with | [_], _ => rfl),
    f_sum_of := f19, d_sum_of := _, F_sum_of := F19, g_sum_of := PySem.W.mg_of X G a19,
    b_sum_of := F19.binds (ps := P_sum_of) (fun _ _ _ _ _ _ us hl => match us, hl with | [_, _, _], _ => rfl),
    f__law_plus := f20, d__law_plus := _, F__law_plus := F20, g__law_plus := PySem.W.mg_of X G a20,
    b__law_plus := F20.binds (ps := P__law_plus) (fun _ _ _ _ _ _ us hl => match us, hl with | [_, _], _ => rfl),
    f_law := fa, d_law := _, F_law := F21, g_law := PySem.W.mg_of X G a21,
    b_law := F21.binds (ps := P_law) (fun _ _ _ _ _ _ us hl => match us, hl with | [_], _ => rfl),
    n_range := PySem.W.mg_none_of X G z0,
    n_len := PySem.W.mg_none_of X G z1,
    n_int := PySem.W.mg_none_of X G z2,
    n_abs := PySem.W.mg_none_of X G z3,
    n_sum := PySem.W.mg_none_of X G z4,
    n_list := PySem.W.mg_none_of X G z5,
    n_enumerate := PySem.W.mg_none_of X G z6,
    n_zip := PySem.W.mg_none_of X G z7,
    n_isinstance := PySem.W.mg_none_of X G z8,
    n_tuple := PySem.W.mg_none_of X G z9,
    n_all := PySem.W.mg_none_of X G z10,
    n_bool := PySem.W.mg_none_of X G z11,
    n_str := PySem.W.mg_none_of X G z12,
    n_gcd := PySem.W.mg_of X G z13,
    n_repr := PySem.W.mg_none_of X G z14,
    n_any := PySem.W.mg_none_of X G z15,
    a_NOUGHT := ca0, g_NOUGHT := PySem.W.mg_of X G q0, r_NOUGHT := fun F H => .tup (vs := [.int 0, .int 1]) (.inr ⟨_, _, _, r0, rfl, rfl, (by show 2 ≤ sizeLine; decide), (.cons ⟨_, rfl⟩ (.cons ⟨_, rfl⟩ .nil))⟩) (.cons (.int _) (.cons (.int _) .nil)),
    C_NoBranch := xC0, gc_NoBranch := PySem.W.mg_of X G kca0, cl_NoBranch := clsOf_of kca0,
    I_NoBranch := xI0, X_NoBranch := ex_txt X G kca0 xl0 xr0 xsa0 xi0 xt0 xk0 xe0 xv0 xty0 xsu0 xop0 xtp0 xfn0 xco0 xlk0 xfl0 xfe0 xce0, xf_NoBranch := ⟨xga0, xgg0, xe0, xhd0⟩, no_NoBranch := xno0,
    exm_NoBranch_NoBranch := by rw [clsOf_of kca0]; exact xx0,
    n_super := PySem.W.mg_none_of X G xsp })⟩
end Lw
open PySem PySem.W PyProof.Rows
set_option maxHeartbeats 0 in
theorem PySem.Challenge.cw_meanhold_k07_whole_ways_unrolled_holds : PySem.Challenge.rw_meanhold_k07_whole_ways_unrolled.Holds := by
  w_on; o_law; k_head; (case hw => w_witness2)
  k_fill
  refine Dn.walk_end (l := PySem.Challenge.rw_meanhold_k07_whole_ways_unrolled) (n := 63) (k := 7) (x := "_law_script") (μ := Lw.w_law0) rfl (by decide) rfl ⟨rfl, by decide, by decide⟩ (fun w h Y => PySem.W.kIn_of Y) ?F Lw.law_true
  case F =>
    intro w mg fa h KX G hmg
    refine' Lw.all_mk KX G hmg ?a1 ?l1 ?c1 ?k1 ?a2 ?l2 ?c2 ?k2 ?a3 ?l3 ?c3 ?k3 ?a4 ?l4 ?c4 ?k4 ?a5 ?l5 ?c5 ?k5 ?a6 ?l6 ?c6 ?k6 ?a7 ?l7 ?c7 ?k7 ?a8 ?l8 ?c8 ?k8 ?a9 ?l9 ?c9 ?k9 ?a10 ?l10 ?c10 ?k10 ?a11 ?l11 ?c11 ?k11 ?a12 ?l12 ?c12 ?k12 ?a13 ?l13 ?c13 ?k13 ?a14 ?l14 ?c14 ?k14 ?a15 ?l15 ?c15 ?k15 ?a16 ?l16 ?c16 ?k16 ?a17 ?l17 ?c17 ?k17 ?a18 ?l18 ?c18 ?k18 ?a19 ?l19 ?c19 ?k19 ?a20 ?l20 ?c20 ?k20 ?a21 ?l21 ?c21 ?k21 ?z0 ?z1 ?z2 ?z3 ?z4 ?z5 ?z6 ?z7 ?z8 ?z9 ?z10 ?z11 ?z12 ?z13 ?z14 ?z15 ?q0 ?r0 ?kca0 ?xl0 ?xr0 ?xsa0 ?xi0 ?xt0 ?xk0 ?xe0 ?xv0 ?xty0 ?xsu0 ?xop0 ?xtp0 ?xfn0 ?xco0 ?xlk0 ?xfl0 ?xfe0 ?xce0 ?xga0 ?xgg0 ?xhd0 ?xno0 ?xx0 ?xsp
    (case a1 => k_is)
    (case l1 => k_is)
    (case c1 => k_is)
    (case k1 => k_is)
    (case a2 => k_is)
    (case l2 => k_is)
    (case c2 => k_is)
    (case k2 => k_is)
    (case a3 => k_is)
    (case l3 => k_is)
    (case c3 => k_is)
    (case k3 => k_is)
    (case a4 => k_is)
    (case l4 => k_is)
    (case c4 => k_is)
    (case k4 => k_is)
    (case a5 => k_is)
    (case l5 => k_is)
    (case c5 => k_is)
    (case k5 => k_is)
    (case a6 => k_is)
    (case l6 => k_is)
    (case c6 => k_is)
    (case k6 => k_is)
    (case a7 => k_is)
    (case l7 => k_is)
    (case c7 => k_is)
    (case k7 => k_is)
    (case a8 => k_is)
    (case l8 => k_is)
    (case c8 => k_is)
    (case k8 => k_is)
    (case a9 => k_is)
    (case l9 => k_is)
    (case c9 => k_is)
    (case k9 => k_is)
    (case a10 => k_is)
    (case l10 => k_is)
    (case c10 => k_is)
    (case k10 => k_is)
    (case a11 => k_is)
    (case l11 => k_is)
    (case c11 => k_is)
    (case k11 => k_is)
    (case a12 => k_is)
    (case l12 => k_is)
    (case c12 => k_is)
    (case k12 => k_is)
    (case a13 => k_is)
    (case l13 => k_is)
    (case c13 => k_is)
    (case k13 => k_is)
    (case a14 => k_is)
    (case l14 => k_is)
    (case c14 => k_is)
    (case k14 => k_is)
    (case a15 => k_is)
    (case l15 => k_is)
    (case c15 => k_is)
    (case k15 => k_is)
    (case a16 => k_is)
    (case l16 => k_is)
    (case c16 => k_is)
    (case k16 => k_is)
    (case a17 => k_is)
    (case l17 => k_is)
    (case c17 => k_is)
    (case k17 => k_is)
    (case a18 => k_is)
    (case l18 => k_is)
    (case c18 => k_is)
    (case k18 => k_is)
    (case a19 => k_is)
    (case l19 => k_is)
    (case c19 => k_is)
    (case k19 => k_is)
    (case a20 => k_is)
    (case l20 => k_is)
    (case c20 => k_is)
    (case k20 => k_is)
    (case a21 => k_is)
    (case l21 => k_is)
    (case c21 => k_is)
    (case k21 => k_is)
    (case z0 => k_is)
    (case z1 => k_is)
    (case z2 => k_is)
    (case z3 => k_is)
    (case z4 => k_is)
    (case z5 => k_is)
    (case z6 => k_is)
    (case z7 => k_is)
    (case z8 => k_is)
    (case z9 => k_is)
    (case z10 => k_is)
    (case z11 => k_is)
    (case z12 => k_is)
    (case z13 => k_is)
    (case z14 => k_is)
    (case z15 => k_is)
    (case q0 => k_is)
    (case r0 => k_is)
    (case kca0 => k_is)
    (case xl0 => k_is)
    (case xr0 => first | rfl | decide +kernel | kernel_rfl)
    (case xsa0 => k_is)
    (case xi0 => k_is)
    (case xt0 => k_is)
    (case xk0 => k_is)
    (case xe0 => k_is)
    (case xv0 => k_is)
    (case xty0 => k_is)
    (case xsu0 => ks_is)
    (case xop0 => k_is)
    (case xtp0 => first | rfl | decide +kernel | kernel_rfl)
    (case xfn0 => k_is)
    (case xco0 => k_is)
    (case xlk0 => k_is)
    (case xfl0 => first | rfl | decide +kernel | kernel_rfl)
    (case xfe0 => first | rfl | decide +kernel | kernel_rfl)
    (case xce0 => k_is)
    (case xga0 => k_is)
    (case xgg0 => k_is)
    (case xhd0 => k_is)
    (case xno0 => k_is)
    (case xx0 => kts_exm)
    (case xsp => k_is)
