import PyProof.Rows.All
import Wide.All
import OpenK.AllK
import Wide.FinOn
import HandS.ForMost
import HandS.DictComp
import HandS.Conv
import HandS.FStr
import HandS.IsInst
import HandS.Flow
import HandS.Zip
import HandS.Wide
import HandS.TupAny
import HandS.SortInts
import HandS.WordsDict
import KE.GoesZip
import KE.KDictZip
import PyProof.ListNew
import KE.GoesEnum
import HandS.Star
import PyProof.EnumMake
import HandS.Strs
import HandS.SetFor
import HandS.SetIn
import HandS.SetBool
import PySem.Challenge.RW_askedfew_k79_rows_the_same_but_for_order
set_option Elab.async false
set_option linter.all false
set_option maxHeartbeats 4000000
set_option maxRecDepth 100000
/-! LF1: values as trees, how they lie in the abstract heap, who owns what. -/
namespace LF
open PySem PySem.Spec L2
open PyProof.Rows hiding St
/-- a value as a tree -/
inductive D where
  | non | bl (b : Bool) | int (i : Int) | str (x : Str)
  | tup (l : List D) | lst (l : List D)
  | fro (l : List D)
  | dic (l : List (Key × D))
  | ins (C : Addr) (l : List (Str × D))
mutual
/-- nothing in it can change -/
def D.imm : D → Bool
  | .non => true | .bl _ => true | .int _ => true | .str _ => true
  | .tup l => D.imms l
  | .fro l => D.imms l
  | .lst _ => false | .dic _ => false | .ins _ _ => false
def D.imms : List D → Bool
  | [] => true
  | d :: l => d.imm && D.imms l
end
theorem D.imms_all : ∀ l : List D, D.imms l = l.all D.imm
  | [] => rfl
  | d :: l => by show (d.imm && D.imms l) = _; rw [D.imms_all l]; rfl
/-- a list that nobody will ever change -/
def SqF (K : PySem.W.Frag) (H : Hp) (a : Addr) (xs : List V) : Prop := (∃ o, H a = some (.frz o (.lst xs))) ∨
  ∃ (o : Obj) (its : Array Value) (n : Nat), K.lookup a = some o ∧ o.cls = .type "list" ∧ o.dict = none ∧ o.data = .seq its n ∧ its.size ≤ sizeLine ∧ Vals xs its.toList
theorem SqF.sq {K : PySem.W.Frag} {H : Hp} {a : Addr} {xs : List V} (h : SqF K H a xs) : SqL K H a xs := h.elim (fun z => .inl (.inr z)) .inr
theorem SqF.map {K : PySem.W.Frag} {H H' : Hp} {a : Addr} {xs : List V} (h : SqF K H a xs) (k : ∀ o u, H a = some (.frz o u) → H' a = some (.frz o u)) : SqF K H' a xs := h.elim (fun ⟨o, z⟩ => .inl ⟨o, k _ _ z⟩) .inr
mutual
/-- the value v is the tree d; A: the addresses of what may change in it; m: they are tracked as they are -/
inductive Rep (K : PySem.W.Frag) (H : Hp) (m : Bool) : V → D → List Addr → Prop
  | non : Rep K H m .non .non []
  | bl (b : Bool) : Rep K H m (.bl b) (.bl b) []
  | int (i : Int) : Rep K H m (.int i) (.int i) []
  | str (x : Str) : Rep K H m (.str x) (.str x) []
  | tup {a : Addr} {vs : List V} {ds : List D} {A : List Addr} : SqT K H a vs → Reps K H m vs ds A → Rep K H m (.ref a) (.tup ds) A
  | lst {a : Addr} {vs : List V} {ds : List D} {A : List Addr} : Rd H a (.lst vs) → (m = true → H a = some (.lst vs)) → Reps K H m vs ds A → Rep K H m (.ref a) (.lst ds) (a :: A)
  | fro {a : Addr} {vs : List V} {ds : List D} {A : List Addr} : SqF K H a vs → Reps K H m vs ds A → Rep K H m (.ref a) (.fro ds) A
  | dic {a : Addr} {kvs : List (Key × V)} {kds : List (Key × D)} {A : List Addr} : H a = some (.dK kvs) → kvs.map (·.1) = kds.map (·.1) → Reps K H m (kvs.map (·.2)) (kds.map (·.2)) A → Rep K H m (.ref a) (.dic kds) (a :: A)
  | ins {a C dx : Addr} {fvs : List (Str × V)} {fds : List (Str × D)} {A : List Addr} : H a = some (.ins C dx fvs) → fvs.map (·.1) = fds.map (·.1) → Reps K H m (fvs.map (·.2)) (fds.map (·.2)) A → Rep K H m (.ref a) (.ins C fds) (a :: A)
inductive Reps (K : PySem.W.Frag) (H : Hp) (m : Bool) : List V → List D → List Addr → Prop
  | nil : Reps K H m [] [] []
  | cons {v : V} {vs : List V} {d : D} {ds : List D} {A B : List Addr} : Rep K H m v d A → Reps K H m vs ds B → Reps K H m (v :: vs) (d :: ds) (A ++ B)
end
section
variable {K : PySem.W.Frag} {H H' : Hp} {m : Bool}
theorem Reps.length : ∀ {vs : List V} {ds : List D} {A : List Addr}, Reps K H m vs ds A → vs.length = ds.length
  | _, _, _, .nil => rfl
  | _, _, _, .cons _ r => by rw [List.length_cons, List.length_cons, r.length]
mutual
theorem Rep.imm_nil : ∀ {v : V} {d : D} {A : List Addr}, Rep K H m v d A → d.imm = true → A = []
  | _, _, _, .non, _ => rfl
  | _, _, _, .bl _, _ => rfl
  | _, _, _, .int _, _ => rfl
  | _, _, _, .str _, _ => rfl
  | _, _, _, .tup _ r, h => r.imm_nil h
  | _, _, _, .fro _ r, h => r.imm_nil h
  | _, _, _, .lst .., h => nomatch h
  | _, _, _, .dic .., h => nomatch h
  | _, _, _, .ins .., h => nomatch h
theorem Reps.imm_nil : ∀ {vs : List V} {ds : List D} {A : List Addr}, Reps K H m vs ds A → D.imms ds = true → A = []
  | _, _, _, .nil, _ => rfl
  | _, _, _, .cons r rs, h => by
    have h' := Bool.and_eq_true_iff.mp h
    rw [r.imm_nil h'.1, rs.imm_nil h'.2]
    rfl
end
theorem sqT_map {K : PySem.W.Frag} {H H' : Hp} {a : Addr} {xs : List V} (h : SqT K H a xs) (k : ∀ u, Rd H a (.tup u) → Rd H' a (.tup u)) : SqT K H' a xs := h.elim (fun r => .inl (k _ r)) .inr
mutual
/-- the heap may change elsewhere -/
theorem Rep.move (kt : (∀ a xs, Rd H a (.tup xs) → Rd H' a (.tup xs)) ∧ ∀ a o u, H a = some (.frz o u) → H' a = some (.frz o u)) : ∀ {v : V} {d : D} {A : List Addr}, Rep K H m v d A → (∀ a ∈ A, H' a = H a) → Rep K H' m v d A
  | _, _, _, .non, _ => .non
  | _, _, _, .bl b, _ => .bl b
  | _, _, _, .int i, _ => .int i
  | _, _, _, .str x, _ => .str x
  | _, _, _, .tup q r, k => .tup (sqT_map q fun u => kt.1 _ u) (r.move kt k)
  | _, _, _, .fro q r, k => .fro (q.map fun o u => kt.2 _ o u) (r.move kt k)
  | _, _, _, .lst (a := a) q e r, k => by
    have ea := k a List.mem_cons_self
    exact .lst (by unfold Rd; rw [ea]; exact q) (fun z => ea.trans (e z)) (r.move kt fun b hb => k b (List.mem_cons_of_mem _ hb))
  | _, _, _, .dic (a := a) q ek r, k => by
    have ea := k a List.mem_cons_self
    exact .dic (ea.trans q) ek (r.move kt fun b hb => k b (List.mem_cons_of_mem _ hb))
  | _, _, _, .ins (a := a) q ek r, k => by
    have ea := k a List.mem_cons_self
    exact .ins (ea.trans q) ek (r.move kt fun b hb => k b (List.mem_cons_of_mem _ hb))
theorem Reps.move (kt : (∀ a xs, Rd H a (.tup xs) → Rd H' a (.tup xs)) ∧ ∀ a o u, H a = some (.frz o u) → H' a = some (.frz o u)) : ∀ {vs : List V} {ds : List D} {A : List Addr}, Reps K H m vs ds A → (∀ a ∈ A, H' a = H a) → Reps K H' m vs ds A
  | _, _, _, .nil, _ => .nil
  | _, _, _, .cons r rs, k => .cons (r.move kt fun b hb => k b (List.mem_append_left _ hb)) (rs.move kt fun b hb => k b (List.mem_append_right _ hb))
end
mutual
theorem Rep.share : ∀ {v : V} {d : D} {A : List Addr}, Rep K H m v d A → Rep K H false v d A
  | _, _, _, .non => .non
  | _, _, _, .bl b => .bl b
  | _, _, _, .int i => .int i
  | _, _, _, .str x => .str x
  | _, _, _, .tup q r => .tup q r.share
  | _, _, _, .fro q r => .fro q r.share
  | _, _, _, .lst q _ r => .lst q (fun z => nomatch z) r.share
  | _, _, _, .dic q ek r => .dic q ek r.share
  | _, _, _, .ins q ek r => .ins q ek r.share
theorem Reps.share : ∀ {vs : List V} {ds : List D} {A : List Addr}, Reps K H m vs ds A → Reps K H false vs ds A
  | _, _, _, .nil => .nil
  | _, _, _, .cons r rs => .cons r.share rs.share
end
mutual
theorem Rep.any {m' : Bool} : ∀ {v : V} {d : D} {A : List Addr}, Rep K H m v d A → d.imm = true → Rep K H m' v d A
  | _, _, _, .non, _ => .non
  | _, _, _, .bl b, _ => .bl b
  | _, _, _, .int i, _ => .int i
  | _, _, _, .str x, _ => .str x
  | _, _, _, .tup q r, h => .tup q (r.any h)
  | _, _, _, .fro q r, h => .fro q (r.any h)
  | _, _, _, .lst .., h => nomatch h
  | _, _, _, .dic .., h => nomatch h
  | _, _, _, .ins .., h => nomatch h
theorem Reps.any {m' : Bool} : ∀ {vs : List V} {ds : List D} {A : List Addr}, Reps K H m vs ds A → D.imms ds = true → Reps K H m' vs ds A
  | _, _, _, .nil, _ => .nil
  | _, _, _, .cons r rs, h => by
    have h' := Bool.and_eq_true_iff.mp h
    exact .cons (r.any h'.1) (rs.any h'.2)
end
mutual
/-- what is in the footprint stands in the heap, or is of the module -/
theorem Rep.there : ∀ {v : V} {d : D} {A : List Addr}, Rep K H true v d A → ∀ a ∈ A, ∃ o, H a = some o ∧ Mut (some o)
  | _, _, _, .non, _, h => nomatch h
  | _, _, _, .bl b, _, h => nomatch h
  | _, _, _, .int i, _, h => nomatch h
  | _, _, _, .str x, _, h => nomatch h
  | _, _, _, .tup q r, a, h => r.there a h
  | _, _, _, .fro q r, a, h => r.there a h
  | _, _, _, .lst q e r, b, h => by
    rcases List.mem_cons.mp h with z | z
    · subst z; exact ⟨_, e rfl, True.intro⟩
    · exact r.there b z
  | _, _, _, .dic q ek r, b, h => by
    rcases List.mem_cons.mp h with z | z
    · subst z; exact ⟨_, q, True.intro⟩
    · exact r.there b z
  | _, _, _, .ins q ek r, b, h => by
    rcases List.mem_cons.mp h with z | z
    · subst z; exact ⟨_, q, True.intro⟩
    · exact r.there b z
theorem Reps.there : ∀ {vs : List V} {ds : List D} {A : List Addr}, Reps K H true vs ds A → ∀ a ∈ A, ∃ o, H a = some o ∧ Mut (some o)
  | _, _, _, .nil, _, h => nomatch h
  | _, _, _, .cons r rs, a, h => (List.mem_append.mp h).elim (r.there a) (rs.there a)
end
/-! ### cells: a value, its tree, whether it is owned -/
structure Cell where
  v : V
  d : D
  b : Bool
inductive Lay (K : PySem.W.Frag) (H : Hp) : List Cell → List Addr → List Addr → Prop
  | nil : Lay K H [] [] []
  | own {v : V} {d : D} {A O S : List Addr} {its : List Cell} : Rep K H true v d A → Lay K H its O S → Lay K H (⟨v, d, true⟩ :: its) (A ++ O) S
  | shr {v : V} {d : D} {A O S : List Addr} {its : List Cell} : Rep K H false v d A → Lay K H its O S → Lay K H (⟨v, d, false⟩ :: its) O (A ++ S)
def Apart (O S : List Addr) : Prop := O.Nodup ∧ ∀ a ∈ O, a ∉ S
def Good (K : PySem.W.Frag) (H : Hp) (its : List Cell) : Prop := ∃ O S, Lay K H its O S ∧ Apart O S
theorem Apart.perm {O O' S S' : List Addr} (h : Apart O S) (p : O.Perm O') (q : S.Perm S') : Apart O' S' :=
  ⟨p.nodup_iff.mp h.1, fun a ha hs => h.2 a (p.mem_iff.mpr ha) (q.mem_iff.mpr hs)⟩
theorem Lay.perm {its its' : List Cell} (p : its.Perm its') : ∀ {O S : List Addr}, Lay K H its O S → ∃ O' S', Lay K H its' O' S' ∧ O.Perm O' ∧ S.Perm S' := by
  induction p with
  | nil => intro O S h; exact ⟨O, S, h, .refl _, .refl _⟩
  | cons c _ ih =>
    intro O S h
    cases h with
    | own r l => obtain ⟨O', S', l', p1, p2⟩ := ih l; exact ⟨_, _, .own r l', p1.append_left _, p2⟩
    | shr r l => obtain ⟨O', S', l', p1, p2⟩ := ih l; exact ⟨_, _, .shr r l', p1, p2.append_left _⟩
  | swap c c' l =>
    intro O S h
    have sw : ∀ A B C : List Addr, (A ++ (B ++ C)).Perm (B ++ (A ++ C)) := fun A B C => by
      rw [← List.append_assoc, ← List.append_assoc]
      exact List.perm_append_comm.append_right _
    cases h with
    | own r l =>
      cases l with
      | own r2 l => exact ⟨_, _, .own r2 (.own r l), sw _ _ _, .refl _⟩
      | shr r2 l => exact ⟨_, _, .shr r2 (.own r l), .refl _, .refl _⟩
    | shr r l =>
      cases l with
      | own r2 l => exact ⟨_, _, .own r2 (.shr r l), .refl _, .refl _⟩
      | shr r2 l => exact ⟨_, _, .shr r2 (.shr r l), .refl _, sw _ _ _⟩
  | trans _ _ ih1 ih2 =>
    intro O S h
    obtain ⟨O1, S1, l1, p1, q1⟩ := ih1 h
    obtain ⟨O2, S2, l2, p2, q2⟩ := ih2 l1
    exact ⟨O2, S2, l2, p1.trans p2, q1.trans q2⟩
theorem Good.perm {its its' : List Cell} (g : Good K H its) (p : its.Perm its') : Good K H its' := by
  obtain ⟨O, S, l, a⟩ := g
  obtain ⟨O', S', l', p1, p2⟩ := l.perm p
  exact ⟨O', S', l', a.perm p1 p2⟩
theorem Good.tail {c : Cell} {its : List Cell} (g : Good K H (c :: its)) : Good K H its := by
  obtain ⟨O, S, l, a⟩ := g
  cases l with
  | own r l => exact ⟨_, _, l, (List.nodup_append.mp a.1).2.1, fun x hx => a.2 x (List.mem_append_right _ hx)⟩
  | shr r l => exact ⟨_, _, l, a.1, fun x hx hs => a.2 x hx (List.mem_append_right _ hs)⟩
theorem Good.drop : ∀ {cs its : List Cell}, Good K H (cs ++ its) → Good K H its
  | [], _, g => g
  | _ :: cs, _, g => Good.drop (cs := cs) g.tail
theorem Good.left {cs its : List Cell} (g : Good K H (cs ++ its)) : Good K H cs := Good.drop (cs := its) (g.perm List.perm_append_comm)
theorem Good.share {v : V} {d : D} {b : Bool} {its : List Cell} (g : Good K H (⟨v, d, b⟩ :: its)) : Good K H (⟨v, d, false⟩ :: its) := by
  cases b with
  | false => exact g
  | true =>
    obtain ⟨O, S, l, a⟩ := g
    cases l with
    | own r l =>
      have nd := List.nodup_append.mp a.1
      refine ⟨_, _, .shr r.share l, nd.2.1, fun x hx hs => ?_⟩
      rcases List.mem_append.mp hs with z | z
      · exact nd.2.2 x z x hx rfl
      · exact a.2 x (List.mem_append_right _ hx) z
/-- the tree of a cell that cannot change may be told twice, under any flag -/
theorem Good.dup {v : V} {d : D} {b b' : Bool} {its : List Cell} (g : Good K H (⟨v, d, b⟩ :: its)) (h : d.imm = true) : Good K H (⟨v, d, b'⟩ :: ⟨v, d, b⟩ :: its) := by
  obtain ⟨O, S, l, a⟩ := id g
  have hr : ∃ A, Rep K H b' v d A := by
    cases l with
    | own r l => exact ⟨_, r.any h⟩
    | shr r l => exact ⟨_, r.any h⟩
  obtain ⟨A, r⟩ := hr
  have e := r.imm_nil h
  subst e
  cases b' with
  | true => exact ⟨[] ++ O, S, .own r l, a⟩
  | false => exact ⟨O, [] ++ S, .shr r l, a⟩
theorem Good.flag {v : V} {d : D} {b b' : Bool} {its : List Cell} (g : Good K H (⟨v, d, b⟩ :: its)) (h : d.imm = true) : Good K H (⟨v, d, b'⟩ :: its) := by
  have q := (g.dup (b' := b') h).perm (List.Perm.swap _ _ _)
  exact q.tail
theorem Good.dupS {v : V} {d : D} {its : List Cell} (g : Good K H (⟨v, d, false⟩ :: its)) : Good K H (⟨v, d, false⟩ :: ⟨v, d, false⟩ :: its) := by
  obtain ⟨O, S, l, a⟩ := g
  cases l with
  | shr r l =>
    refine ⟨_, _, .shr r (.shr r l), a.1, fun x hx hs => ?_⟩
    rcases List.mem_append.mp hs with z | z
    · exact a.2 x hx (List.mem_append_left _ z)
    · exact a.2 x hx z
theorem Good.rep {v : V} {d : D} {b : Bool} {its : List Cell} (g : Good K H (⟨v, d, b⟩ :: its)) : ∃ A, Rep K H b v d A := by
  obtain ⟨O, S, l, a⟩ := g
  cases l with
  | own r _ => exact ⟨_, r⟩
  | shr r _ => exact ⟨_, r⟩
theorem Good.mem {c : Cell} {its : List Cell} (g : Good K H its) (h : c ∈ its) : ∃ A, Rep K H c.b c.v c.d A := by
  obtain ⟨s, t, e⟩ := List.append_of_mem h
  subst e
  have g' : Good K H (c :: t) := Good.drop (cs := s) g
  exact Good.rep (v := c.v) (d := c.d) (b := c.b) g'
/-- a flat value needs nothing -/
def D.flat : D → Bool
  | .non => true | .bl _ => true | .int _ => true | .str _ => true
  | _ => false
theorem Good.flatNew {v : V} {d : D} {b : Bool} {its : List Cell} (g : Good K H its) (r : Rep K H b v d []) : Good K H (⟨v, d, b⟩ :: its) := by
  obtain ⟨O, S, l, a⟩ := g
  cases b with
  | true => exact ⟨_, _, .own r l, a⟩
  | false => exact ⟨_, _, .shr r l, a⟩
/-! ### the heap changes -/
theorem rd_new {a p : Addr} {u o : HO} (hp : H p = none) (h : Rd H a u) : Rd (upd H p o) a u := by
  have ne : a ≠ p := by
    rintro rfl
    rcases h with h | ⟨_, h⟩ <;> (rw [hp] at h; cases h)
  unfold Rd
  rw [upd_ne ne]
  exact h
mutual
theorem Rep.new {p : Addr} {o : HO} (hp : H p = none) : ∀ {v : V} {d : D} {A : List Addr}, Rep K H m v d A → Rep K (upd H p o) m v d A
  | _, _, _, .non => .non
  | _, _, _, .bl b => .bl b
  | _, _, _, .int i => .int i
  | _, _, _, .str x => .str x
  | _, _, _, .tup q r => .tup (sqT_map q fun u z => rd_new hp z) (r.new hp)
  | _, _, _, .fro q r => .fro (q.map fun o u z => by rw [upd_ne (ne_of_none z hp)]; exact z) (r.new hp)
  | _, _, _, .lst q e r => .lst (rd_new hp q) (fun z => by rw [upd_ne (ne_of_none (e z) hp)]; exact e z) (r.new hp)
  | _, _, _, .dic q ek r => .dic (by rw [upd_ne (ne_of_none q hp)]; exact q) ek (r.new hp)
  | _, _, _, .ins q ek r => .ins (by rw [upd_ne (ne_of_none q hp)]; exact q) ek (r.new hp)
theorem Reps.new {p : Addr} {o : HO} (hp : H p = none) : ∀ {vs : List V} {ds : List D} {A : List Addr}, Reps K H m vs ds A → Reps K (upd H p o) m vs ds A
  | _, _, _, .nil => .nil
  | _, _, _, .cons r rs => .cons (r.new hp) (rs.new hp)
end
theorem Lay.new {p : Addr} {o : HO} (hp : H p = none) : ∀ {its : List Cell} {O S : List Addr}, Lay K H its O S → Lay K (upd H p o) its O S
  | _, _, _, .nil => .nil
  | _, _, _, .own r l => .own (r.new hp) (l.new hp)
  | _, _, _, .shr r l => .shr (r.new hp) (l.new hp)
theorem Good.new {p : Addr} {o : HO} {its : List Cell} (g : Good K H its) (hp : H p = none) : Good K (upd H p o) its := by
  obtain ⟨O, S, l, a⟩ := g
  exact ⟨O, S, l.new hp, a⟩
/-- an object that may change is written: what does not have it in its footprint stands -/
theorem Rep.wr {a : Addr} {o o' : HO} {v : V} {d : D} {A : List Addr} (r : Rep K H m v d A) (h : H a = some o) (mu : Mut (some o)) (n : a ∉ A) : Rep K (upd H a o') m v d A := by
  refine r.move ⟨fun b xs q => ?_, fun b o1 u q => ?_⟩ (fun b hb => upd_ne fun e => n (e ▸ hb))
  · have ne : b ≠ a := by
      rintro rfl
      rcases q with q | ⟨_, q⟩ <;> (rw [h] at q; cases q; exact mu)
    unfold Rd
    rw [upd_ne ne]
    exact q
  · have ne : b ≠ a := by
      rintro rfl
      rw [h] at q; cases q; exact mu
    rw [upd_ne ne]
    exact q
theorem Reps.wr {a : Addr} {o o' : HO} {vs : List V} {ds : List D} {A : List Addr} (r : Reps K H m vs ds A) (h : H a = some o) (mu : Mut (some o)) (n : a ∉ A) : Reps K (upd H a o') m vs ds A := by
  refine r.move ⟨fun b xs q => ?_, fun b o1 u q => ?_⟩ (fun b hb => upd_ne fun e => n (e ▸ hb))
  · have ne : b ≠ a := by
      rintro rfl
      rcases q with q | ⟨_, q⟩ <;> (rw [h] at q; cases q; exact mu)
    unfold Rd
    rw [upd_ne ne]
    exact q
  · have ne : b ≠ a := by
      rintro rfl
      rw [h] at q; cases q; exact mu
    rw [upd_ne ne]
    exact q
theorem Lay.wr {a : Addr} {o o' : HO} (h : H a = some o) (mu : Mut (some o)) : ∀ {its : List Cell} {O S : List Addr}, Lay K H its O S → a ∉ O → a ∉ S → Lay K (upd H a o') its O S
  | _, _, _, .nil, _, _ => .nil
  | _, _, _, .own r l, n1, n2 => .own (r.wr h mu fun z => n1 (List.mem_append_left _ z)) (l.wr h mu (fun z => n1 (List.mem_append_right _ z)) n2)
  | _, _, _, .shr r l, n1, n2 => .shr (r.wr h mu fun z => n2 (List.mem_append_left _ z)) (l.wr h mu n1 fun z => n2 (List.mem_append_right _ z))
/-! ### many cells at once -/
abbrev DB := D × Bool
def cells : List V → List DB → List Cell
  | v :: vs, (d, b) :: ws => ⟨v, d, b⟩ :: cells vs ws
  | _, _ => []
theorem cells_cons (v : V) (vs : List V) (d : D) (b : Bool) (ws : List DB) : cells (v :: vs) ((d, b) :: ws) = ⟨v, d, b⟩ :: cells vs ws := rfl
/-- all owned cells of a list together: their footprint, apart from the rest -/
theorem Lay.reps : ∀ {vs : List V} {ds : List D} {its : List Cell} {O S : List Addr}, vs.length = ds.length → Lay K H (cells vs (ds.map fun d => (d, true)) ++ its) O S → ∃ A O', Reps K H true vs ds A ∧ Lay K H its O' S ∧ O = A ++ O'
  | [], [], _, O, _, _, l => ⟨[], O, .nil, l, rfl⟩
  | [], _ :: _, _, _, _, e, _ => nomatch e
  | _ :: _, [], _, _, _, e, _ => nomatch e
  | v :: vs, d :: ds, its, _, S, e, l => by
    cases l with
    | own r l =>
      obtain ⟨A, O', rs, l', e'⟩ := Lay.reps (Nat.succ.inj e) l
      subst e'
      exact ⟨_, O', .cons r rs, l', by rw [List.append_assoc]⟩
/-- .. shared -/
theorem Lay.repsS : ∀ {vs : List V} {ds : List D} {its : List Cell} {O S : List Addr}, vs.length = ds.length → Lay K H (cells vs (ds.map fun d => (d, false)) ++ its) O S → ∃ A S', Reps K H false vs ds A ∧ Lay K H its O S' ∧ S = A ++ S'
  | [], [], _, _, S, _, l => ⟨[], S, .nil, l, rfl⟩
  | [], _ :: _, _, _, _, e, _ => nomatch e
  | _ :: _, [], _, _, _, e, _ => nomatch e
  | v :: vs, d :: ds, its, O, _, e, l => by
    cases l with
    | shr r l =>
      obtain ⟨A, S', rs, l', e'⟩ := Lay.repsS (Nat.succ.inj e) l
      subst e'
      exact ⟨_, S', .cons r rs, l', by rw [List.append_assoc]⟩
theorem Lay.unreps : ∀ {vs : List V} {ds : List D} {A : List Addr} {its : List Cell} {O S : List Addr}, Reps K H true vs ds A → Lay K H its O S → Lay K H (cells vs (ds.map fun d => (d, true)) ++ its) (A ++ O) S
  | _, _, _, _, _, _, .nil, l => l
  | _, _, _, _, _, _, .cons r rs, l => by
    rw [List.append_assoc]
    exact .own r (Lay.unreps rs l)
theorem Lay.unrepsS : ∀ {vs : List V} {ds : List D} {A : List Addr} {its : List Cell} {O S : List Addr}, Reps K H false vs ds A → Lay K H its O S → Lay K H (cells vs (ds.map fun d => (d, false)) ++ its) O (A ++ S)
  | _, _, _, _, _, _, .nil, l => l
  | _, _, _, _, _, _, .cons r rs, l => by
    rw [List.append_assoc]
    exact .shr r (Lay.unrepsS rs l)
theorem Good.shareAll : ∀ {vs : List V} {ws : List DB} {its : List Cell}, Good K H (cells vs ws ++ its) → Good K H (cells vs (ws.map fun w => (w.1, false)) ++ its)
  | [], [], _, g => g
  | [], _ :: _, _, g => g
  | _ :: _, [], _, g => g
  | v :: vs, (d, b) :: ws, its, g => by
    have g1 : Good K H (⟨v, d, false⟩ :: (cells vs ws ++ its)) := Good.share g
    have p : (⟨v, d, false⟩ :: (cells vs ws ++ its) : List Cell).Perm (cells vs ws ++ ⟨v, d, false⟩ :: its) := List.perm_middle.symm
    have g2 := Good.shareAll (g1.perm p)
    exact g2.perm List.perm_middle
/-- all flags are true, or all are taken for shared -/
def flags (ws : List DB) : Bool := ws.all (·.2)
/-- all flags true: the cells of the trees -/
theorem flags_true {ws : List DB} (hf : flags ws = true) : ws = (ws.map (·.1)).map fun d => (d, true) := by
  rw [List.map_map]
  have : ∀ w ∈ ws, ((fun d => (d, true)) ∘ fun (x : DB) => x.1) w = w := fun w hw => by
    have := List.all_eq_true.mp hf w hw
    obtain ⟨d, b⟩ := w
    have e : b = true := this
    subst e; rfl
  exact (List.map_congr_left this |>.trans (List.map_id _)).symm
theorem Good.tupNew {p : Addr} {vs : List V} {ws : List DB} {its : List Cell} (g : Good K H (cells vs ws ++ its)) (hl : vs.length = ws.length) (hp : H p = none) :
    Good K (upd H p (.tup vs)) (⟨.ref p, .tup (ws.map (·.1)), flags ws⟩ :: its) := by
  have hq : SqT K (upd H p (.tup vs)) p vs := .inl (.inl upd_same)
  cases hf : flags ws with
  | true =>
    rw [flags_true hf] at g
    obtain ⟨O, S, l, a⟩ := g
    obtain ⟨A, O', rs, l', e'⟩ := Lay.reps (by rw [List.length_map]; exact hl) l
    subst e'
    exact ⟨_, _, .own (.tup hq (rs.new hp)) (l'.new hp), a⟩
  | false =>
    have g2 := g.shareAll
    have e : (ws.map fun w => (w.1, false)) = (ws.map (·.1)).map fun d => (d, false) := by rw [List.map_map]; rfl
    rw [e] at g2
    obtain ⟨O, S, l, a⟩ := g2
    obtain ⟨A, S', rs, l', e'⟩ := Lay.repsS (by rw [List.length_map]; exact hl) l
    subst e'
    exact ⟨_, _, .shr (.tup hq (rs.new hp)) (l'.new hp), a⟩
theorem Good.nin {its : List Cell} {O S : List Addr} (l : Lay K H its O S) {p : Addr} (hp : H p = none) : p ∉ O := by
  induction l with
  | nil => intro z; cases z
  | own r _ ih =>
    intro z
    rcases List.mem_append.mp z with z | z
    · obtain ⟨o, e, _⟩ := r.there p z
      rw [hp] at e; cases e
    · exact ih z
  | shr _ _ ih => exact ih
mutual
theorem Rep.nin {p : Addr} (hp : H p = none) : ∀ {v : V} {d : D} {A : List Addr}, Rep K H m v d A → p ∉ A
  | _, _, _, .non, h => nomatch h
  | _, _, _, .bl b, h => nomatch h
  | _, _, _, .int i, h => nomatch h
  | _, _, _, .str x, h => nomatch h
  | _, _, _, .tup q r, h => r.nin hp h
  | _, _, _, .fro q r, h => r.nin hp h
  | _, _, _, .lst q e r, h => by
    rcases List.mem_cons.mp h with z | z
    · subst z
      rcases q with q | ⟨_, q⟩ <;> (rw [hp] at q; cases q)
    · exact r.nin hp z
  | _, _, _, .dic q ek r, h => by
    rcases List.mem_cons.mp h with z | z
    · subst z; rw [hp] at q; cases q
    · exact r.nin hp z
  | _, _, _, .ins q ek r, h => by
    rcases List.mem_cons.mp h with z | z
    · subst z; rw [hp] at q; cases q
    · exact r.nin hp z
theorem Reps.nin {p : Addr} (hp : H p = none) : ∀ {vs : List V} {ds : List D} {A : List Addr}, Reps K H m vs ds A → p ∉ A
  | _, _, _, .nil, h => nomatch h
  | _, _, _, .cons r rs, h => (List.mem_append.mp h).elim (r.nin hp) (rs.nin hp)
end
theorem Lay.nin {p : Addr} (hp : H p = none) : ∀ {its : List Cell} {O S : List Addr}, Lay K H its O S → p ∉ O ∧ p ∉ S
  | _, _, _, .nil => ⟨List.not_mem_nil, List.not_mem_nil⟩
  | _, _, _, .own r l => ⟨fun z => (List.mem_append.mp z).elim (r.nin hp) (l.nin hp).1, (l.nin hp).2⟩
  | _, _, _, .shr r l => ⟨(l.nin hp).1, fun z => (List.mem_append.mp z).elim (r.nin hp) (l.nin hp).2⟩
theorem Good.lstNew {p : Addr} {vs : List V} {ws : List DB} {its : List Cell} (g : Good K H (cells vs ws ++ its)) (hl : vs.length = ws.length) (hp : H p = none) :
    Good K (upd H p (.lst vs)) (⟨.ref p, .lst (ws.map (·.1)), flags ws⟩ :: its) := by
  have hq : Rd (upd H p (.lst vs)) p (.lst vs) := .inl upd_same
  cases hf : flags ws with
  | true =>
    rw [flags_true hf] at g
    obtain ⟨O, S, l, a⟩ := g
    obtain ⟨A, O', rs, l', e'⟩ := Lay.reps (by rw [List.length_map]; exact hl) l
    subst e'
    have n := l'.nin hp
    have nA := rs.nin hp
    refine ⟨_, _, .own (.lst hq (fun _ => upd_same) (rs.new hp)) (l'.new hp), ?_, fun x hx hs => ?_⟩
    · exact List.nodup_cons.mpr ⟨fun z => (List.mem_append.mp z).elim nA n.1, a.1⟩
    · rcases List.mem_cons.mp hx with z | z
      · subst z; exact n.2 hs
      · exact a.2 x z hs
  | false =>
    have g2 := g.shareAll
    have e : (ws.map fun w => (w.1, false)) = (ws.map (·.1)).map fun d => (d, false) := by rw [List.map_map]; rfl
    rw [e] at g2
    obtain ⟨O, S, l, a⟩ := g2
    obtain ⟨A, S', rs, l', e'⟩ := Lay.repsS (by rw [List.length_map]; exact hl) l
    subst e'
    have n := l'.nin hp
    have nA := rs.nin hp
    refine ⟨_, _, .shr (.lst hq (fun z => nomatch z) (rs.new hp)) (l'.new hp), a.1, fun x hx hs => ?_⟩
    rcases List.mem_cons.mp hs with z | z
    · subst z; exact n.1 hx
    · exact a.2 x hx z
end
end LF
/-! LF2: frames, arguments, what expressions and statements mean as functions, and the judgements. -/
namespace LF
open PySem PySem.Spec L2
open PyProof.Rows hiding St
structure Sl where
  d : D
  own : Bool
  pin : Bool
abbrev En := List (Option Sl)
/-- the slots σ hold what the frame says; ps: what the parameters held at first -/
inductive Zp (ps : List V) : Nat → St → En → List Cell → Prop
  | z0 {i : Nat} : Zp ps i [] [] []
  | zn {i : Nat} {x : Option V} {σ : St} {e : En} {its : List Cell} : Zp ps (i + 1) σ e its → Zp ps i (x :: σ) (none :: e) its
  | zs {i : Nat} {v : V} {σ : St} {e : En} {its : List Cell} {sl : Sl} : (sl.pin = true → ps[i]? = some v) → Zp ps (i + 1) σ e its → Zp ps i (some v :: σ) (some sl :: e) (⟨v, sl.d, sl.own⟩ :: its)
section
variable {ps : List V}
theorem Zp.len : ∀ {i : Nat} {σ : St} {e : En} {its : List Cell}, Zp ps i σ e its → σ.length = e.length
  | _, _, _, _, .z0 => rfl
  | _, _, _, _, .zn z => by rw [List.length_cons, List.length_cons, z.len]
  | _, _, _, _, .zs _ z => by rw [List.length_cons, List.length_cons, z.len]
theorem Zp.get : ∀ {i : Nat} {σ : St} {e : En} {its : List Cell} {j : Nat} {sl : Sl}, Zp ps i σ e its → e[j]? = some (some sl) →
    ∃ v its1 its2, σ[j]? = some (some v) ∧ its = its1 ++ ⟨v, sl.d, sl.own⟩ :: its2 ∧ (sl.pin = true → ps[i + j]? = some v) ∧
      (∀ d' o', Zp ps i σ (e.set j (some ⟨d', o', sl.pin⟩)) (its1 ++ ⟨v, d', o'⟩ :: its2)) ∧ Zp ps i σ (e.set j none) (its1 ++ its2)
  | _, _, _, _, j, _, .z0, h => by simp at h
  | _, _, _, _, 0, _, .zn z, h => by simp at h
  | i, _, _, _, j + 1, sl, .zn z, h => by
    obtain ⟨v, its1, its2, h1, h2, h3, h4, h5⟩ := z.get (j := j) (sl := sl) (by simpa using h)
    refine ⟨v, its1, its2, by simpa using h1, h2, fun q => ?_, fun d' o' => .zn (h4 d' o'), .zn h5⟩
    have := h3 q
    rwa [show i + 1 + j = i + (j + 1) by omega] at this
  | i, _, _, _, 0, sl, .zs (v := v) (its := its) (sl := sl0) hp z, h => by
    have e : sl0 = sl := by simpa using h
    subst e
    exact ⟨v, [], its, rfl, rfl, hp, fun d' o' => .zs hp z, .zn z⟩
  | i, _, _, _, j + 1, sl, .zs (v := v0) (sl := sl0) hp z, h => by
    obtain ⟨v, its1, its2, h1, h2, h3, h4, h5⟩ := z.get (j := j) (sl := sl) (by simpa using h)
    subst h2
    refine ⟨v, ⟨v0, sl0.d, sl0.own⟩ :: its1, its2, by simpa using h1, rfl, fun q => ?_, fun d' o' => .zs hp (h4 d' o'), .zs hp h5⟩
    have := h3 q
    rwa [show i + 1 + j = i + (j + 1) by omega] at this
/-- a slot of the frame is told anew; what it told is dropped -/
theorem Zp.put : ∀ {i : Nat} {σ : St} {e : En} {its : List Cell} {j : Nat} {v : V} {d : D} {o p : Bool}, Zp ps i σ e its → σ[j]? = some (some v) → (p = true → ps[i + j]? = some v) →
    ∃ its1 mid its2, its = its1 ++ (mid ++ its2) ∧ Zp ps i σ (e.set j (some ⟨d, o, p⟩)) (its1 ++ ⟨v, d, o⟩ :: its2)
  | _, _, _, _, j, _, _, _, _, .z0, h, _ => by simp at h
  | _, _, _, its, 0, v, d, o, p, .zn (x := x) z, h, hp => by
    have e : x = some v := by simpa using h
    subst e
    exact ⟨[], [], _, rfl, .zs hp z⟩
  | i, _, _, _, j + 1, v, d, o, p, .zn z, h, hp => by
    obtain ⟨a, b, c, h1, h2⟩ := z.put (j := j) (v := v) (d := d) (o := o) (p := p) (by simpa using h) (fun q => by rw [show i + 1 + j = i + (j + 1) by omega]; exact hp q)
    exact ⟨a, b, c, h1, .zn h2⟩
  | _, _, _, _, 0, v, d, o, p, .zs (v := v0) (its := its) (sl := sl0) h0 z, h, hp => by
    have e : v0 = v := by simpa using h
    subst e
    exact ⟨[], [⟨v0, sl0.d, sl0.own⟩], its, rfl, .zs hp z⟩
  | i, _, _, _, j + 1, v, d, o, p, .zs (v := v0) (sl := sl0) h0 z, h, hp => by
    obtain ⟨a, b, c, h1, h2⟩ := z.put (j := j) (v := v) (d := d) (o := o) (p := p) (by simpa using h) (fun q => by rw [show i + 1 + j = i + (j + 1) by omega]; exact hp q)
    subst h1
    exact ⟨⟨v0, sl0.d, sl0.own⟩ :: a, b, c, rfl, .zs h0 h2⟩
/-- a slot is stored -/
theorem Zp.store : ∀ {i : Nat} {σ : St} {e : En} {its : List Cell} {j : Nat} {v : V} {d : D} {o : Bool}, Zp ps i σ e its → j < e.length →
    ∃ its1 mid its2, its = its1 ++ (mid ++ its2) ∧ Zp ps i (σ.set j (some v)) (e.set j (some ⟨d, o, false⟩)) (its1 ++ ⟨v, d, o⟩ :: its2)
  | _, _, _, _, j, _, _, _, .z0, h => by simp at h
  | _, _, _, its, 0, v, d, o, .zn z, h => ⟨[], [], _, rfl, .zs (fun q => nomatch q) z⟩
  | i, _, _, _, j + 1, v, d, o, .zn z, h => by
    obtain ⟨a, b, c, h1, h2⟩ := z.store (j := j) (v := v) (d := d) (o := o) (by simpa using h)
    exact ⟨a, b, c, h1, .zn h2⟩
  | _, _, _, _, 0, v, d, o, .zs (v := v0) (its := its) (sl := sl0) h0 z, h => ⟨[], [⟨v0, sl0.d, sl0.own⟩], its, rfl, .zs (fun q => nomatch q) z⟩
  | i, _, _, _, j + 1, v, d, o, .zs (v := v0) (sl := sl0) h0 z, h => by
    obtain ⟨a, b, c, h1, h2⟩ := z.store (j := j) (v := v) (d := d) (o := o) (by simpa using h)
    subst h1
    exact ⟨⟨v0, sl0.d, sl0.own⟩ :: a, b, c, rfl, .zs h0 h2⟩
/-- a slot is not told any more, whatever it holds -/
theorem Zp.hide : ∀ {i : Nat} {σ : St} {e : En} {its : List Cell} (j : Nat), Zp ps i σ e its →
    ∃ its1 mid its2, its = its1 ++ (mid ++ its2) ∧ ∀ x, Zp ps i (σ.set j x) (e.set j none) (its1 ++ its2)
  | _, _, _, _, j, .z0 => ⟨[], [], [], rfl, fun _ => .z0⟩
  | _, _, _, its, 0, .zn z => ⟨[], [], _, rfl, fun _ => .zn z⟩
  | i, _, _, _, j + 1, .zn z => by
    obtain ⟨a, b, c, h1, h2⟩ := z.hide j
    exact ⟨a, b, c, h1, fun x => .zn (h2 x)⟩
  | _, _, _, _, 0, .zs (v := v0) (its := its) (sl := sl0) h0 z => ⟨[], [⟨v0, sl0.d, sl0.own⟩], its, rfl, fun _ => .zn z⟩
  | i, _, _, _, j + 1, .zs (v := v0) (sl := sl0) h0 z => by
    obtain ⟨a, b, c, h1, h2⟩ := z.hide j
    subst h1
    exact ⟨⟨v0, sl0.d, sl0.own⟩ :: a, b, c, rfl, fun x => .zs h0 (h2 x)⟩
theorem Zp.hide0 {i : Nat} {σ : St} {e : En} {its : List Cell} (j : Nat) (z : Zp ps i σ e its) : ∃ its1 mid its2, its = its1 ++ (mid ++ its2) ∧ Zp ps i σ (e.set j none) (its1 ++ its2) := by
  obtain ⟨a, b, c, h1, h2⟩ := z.hide j
  refine ⟨a, b, c, h1, ?_⟩
  cases q : σ[j]? with
  | none =>
    have := h2 none
    rwa [List.set_eq_of_length_le (List.getElem?_eq_none_iff.mp q)] at this
  | some x =>
    have := h2 x
    obtain ⟨hl, e1⟩ := List.getElem?_eq_some_iff.mp q
    rwa [← e1, List.set_getElem_self] at this
end
/-- dropping in the middle -/
theorem Good.cut {K : PySem.W.Frag} {H : Hp} {a b c : List Cell} (g : Good K H (a ++ (b ++ c))) : Good K H (a ++ c) := by
  have p : (a ++ (b ++ c)).Perm (b ++ (a ++ c)) := by
    rw [← List.append_assoc, ← List.append_assoc]
    exact List.perm_append_comm.append_right _
  exact Good.drop (cs := b) (g.perm p)
def Ok (K : PySem.W.Frag) (ps : List V) (H : Hp) (σ : St) (e : En) (F : List Cell) : Prop := ∃ its, Zp ps 0 σ e its ∧ Good K H (its ++ F)
section
variable {K : PySem.W.Frag} {ps : List V} {H H' : Hp} {σ : St} {e : En} {F F' : List Cell}
theorem Ok.lift (o : Ok K ps H σ e F) (h : ∀ its, Good K H (F ++ its) → Good K H' (F' ++ its)) : Ok K ps H' σ e F' := by
  obtain ⟨its, z, g⟩ := o
  exact ⟨its, z, (h its (g.perm List.perm_append_comm)).perm List.perm_append_comm⟩
theorem Ok.perm (o : Ok K ps H σ e F) (p : F.Perm F') : Ok K ps H σ e F' := o.lift fun its g => g.perm (p.append_right _)
theorem Ok.drop {c : Cell} (o : Ok K ps H σ e (c :: F)) : Ok K ps H σ e F := o.lift fun its g => g.tail
theorem Ok.dropAll {cs : List Cell} (o : Ok K ps H σ e (cs ++ F)) : Ok K ps H σ e F := o.lift fun its g => by rw [List.append_assoc] at g; exact g.drop
theorem Ok.len (o : Ok K ps H σ e F) : σ.length = e.length := let ⟨_, z, _⟩ := o; z.len
/-- what a slot tells, taken out into the frame's rest -/
theorem Ok.out {j : Nat} {sl : Sl} (o : Ok K ps H σ e F) (h : e[j]? = some (some sl)) : ∃ v, σ[j]? = some (some v) ∧ (sl.pin = true → ps[j]? = some v) ∧ Ok K ps H σ (e.set j none) (⟨v, sl.d, sl.own⟩ :: F) := by
  obtain ⟨its, z, g⟩ := o
  obtain ⟨v, a, b, h1, h2, h3, _, h5⟩ := z.get h
  subst h2
  refine ⟨v, h1, fun q => by have := h3 q; rwa [Nat.zero_add] at this, _, h5, ?_⟩
  refine g.perm ?_
  have p1 : (a ++ ⟨v, sl.d, sl.own⟩ :: (b ++ F)).Perm (⟨v, sl.d, sl.own⟩ :: (a ++ (b ++ F))) := List.perm_middle
  have p2 : ((a ++ b) ++ ⟨v, sl.d, sl.own⟩ :: F).Perm (⟨v, sl.d, sl.own⟩ :: ((a ++ b) ++ F)) := List.perm_middle
  have e1 : (a ++ ⟨v, sl.d, sl.own⟩ :: b) ++ F = a ++ ⟨v, sl.d, sl.own⟩ :: (b ++ F) := by rw [List.append_assoc, List.cons_append]
  have e2 : (a ++ b) ++ F = a ++ (b ++ F) := List.append_assoc _ _ _
  rw [e1]
  rw [e2] at p2
  exact p1.trans p2.symm
/-- .. put back -/
theorem Ok.back {j : Nat} {v : V} {d : D} {b p : Bool} (o : Ok K ps H σ e (⟨v, d, b⟩ :: F)) (h : σ[j]? = some (some v)) (hp : p = true → ps[j]? = some v) : Ok K ps H σ (e.set j (some ⟨d, b, p⟩)) F := by
  obtain ⟨its, z, g⟩ := o
  obtain ⟨a, m, c, h1, h2⟩ := z.put (d := d) (o := b) (p := p) h (by rw [Nat.zero_add]; exact hp)
  subst h1
  refine ⟨_, h2, ?_⟩
  have g2 : Good K H (a ++ (m ++ (c ++ ⟨v, d, b⟩ :: F))) := by simpa [List.append_assoc] using g
  have g3 := g2.cut
  refine g3.perm ?_
  rw [List.append_assoc, List.cons_append]
  exact List.Perm.append_left a List.perm_middle
/-- a name is stored -/
theorem Ok.store {j : Nat} {v : V} {d : D} {b : Bool} (o : Ok K ps H σ e (⟨v, d, b⟩ :: F)) (h : j < e.length) : Ok K ps H (σ.set j (some v)) (e.set j (some ⟨d, b, false⟩)) F := by
  obtain ⟨its, z, g⟩ := o
  obtain ⟨a, m, c, h1, h2⟩ := z.store (v := v) (d := d) (o := b) h
  subst h1
  refine ⟨_, h2, ?_⟩
  have g2 : Good K H (a ++ (m ++ (c ++ ⟨v, d, b⟩ :: F))) := by simpa [List.append_assoc] using g
  have g3 := g2.cut
  refine g3.perm ?_
  rw [List.append_assoc, List.cons_append]
  exact List.Perm.append_left a List.perm_middle
theorem Ok.hide (o : Ok K ps H σ e F) (j : Nat) : Ok K ps H σ (e.set j none) F := by
  obtain ⟨its, z, g⟩ := o
  obtain ⟨a, m, c, h1, h2⟩ := z.hide0 j
  subst h1
  exact ⟨_, h2, by
    have g2 : Good K H (a ++ (m ++ (c ++ F))) := by simpa [List.append_assoc] using g
    simpa [List.append_assoc] using g2.cut⟩
theorem Ok.hideX (o : Ok K ps H σ e F) (j : Nat) (x : Option V) : Ok K ps H (σ.set j x) (e.set j none) F := by
  obtain ⟨its, z, g⟩ := o
  obtain ⟨a, m, c, h1, h2⟩ := z.hide j
  subst h1
  exact ⟨_, h2 x, by
    have g2 : Good K H (a ++ (m ++ (c ++ F))) := by simpa [List.append_assoc] using g
    simpa [List.append_assoc] using g2.cut⟩
theorem Ok.new {p : Addr} {o' : HO} (o : Ok K ps H σ e F) (hp : H p = none) : Ok K ps (upd H p o') σ e F := by
  obtain ⟨its, z, g⟩ := o
  exact ⟨its, z, g.new hp⟩
theorem Ok.flat {v : V} {d : D} {b : Bool} (o : Ok K ps H σ e F) (r : Rep K H b v d []) : Ok K ps H σ e (⟨v, d, b⟩ :: F) := o.lift fun its g => g.flatNew r
theorem Ok.good (o : Ok K ps H σ e F) : Good K H F := by
  obtain ⟨its, z, g⟩ := o
  exact g.drop
end
/-! ### what expressions mean -/
abbrev EM := En → Option (D × Bool × En)
/-- an argument: a bare name (by reference), or a value -/
inductive Ag where
  | var (i : Nat)
  | val (f : EM)
inductive AR where
  | val (d : D) (b : Bool)
  | var (i : Nat)
def semE (K : PySem.W.Frag) (f : EM) : TE := fun σ H Q => ∃ ps e F, Ok K ps H σ e F ∧ ∃ d b e', f e = some (d, b, e') ∧ ∀ v H', Ok K ps H' σ e' (⟨v, d, b⟩ :: F) → Q v H'
def EX (X : Cx) (x : Expr) (f : EM) : Prop := PE X x (semE X.K f)
def mArgs : List Ag → En → Option (List AR × En)
  | [], e => some ([], e)
  | .var i :: as, e => match e[i]? with
    | some (some _) => match mArgs as e with
      | some (r, e') => some (.var i :: r, e')
      | none => none
    | _ => none
  | .val f :: as, e => match f e with
    | some (d, b, e1) => match mArgs as e1 with
      | some (r, e') => some (.val d b :: r, e')
      | none => none
    | none => none
def take : List AR → En → Option (List DB × En)
  | [], e => some ([], e)
  | .val d b :: r, e => match take r e with
    | some (l, e') => some ((d, b) :: l, e')
    | none => none
  | .var i :: r, e => match e[i]? with
    | some (some sl) => if sl.d.imm then (match take r e with
        | some (l, e') => some ((sl.d, true) :: l, e')
        | none => none)
      else (match take r (e.set i none) with
        | some (l, e') => some ((sl.d, sl.own) :: l, e')
        | none => none)
    | _ => none
def give : List AR → List (Option DB) → En → En → En
  | .val _ _ :: r, _ :: os, e0, e => give r os e0 e
  | .var i :: r, o :: os, e0, e => match e0[i]? with
    | some (some sl) => if sl.d.imm then give r os e0 e else (give r os (e0.set i none) e).set i (o.map fun p => ⟨p.1, p.2, sl.pin⟩)
    | _ => e
  | _, _, _, e => e
/-- what a deed makes of its arguments: its value, whether it is owned by nobody else, and what became of the arguments -/
abbrev PM := List DB → Option (D × Bool × List (Option DB))
def mCall (g : PM) (as : List Ag) : EM := fun e => match mArgs as e with
  | none => none
  | some (rs, e1) => match take rs e1 with
    | none => none
    | some (ws, e2) => match g ws with
      | none => none
      | some (d, b, os) => if os.length = ws.length then some (d, b, give rs os e1 e2) else none
def rdA (K : PySem.W.Frag) : Ag → TE
  | .var i => tVar i
  | .val f => semE K f
def tAs (K : PySem.W.Frag) : List Ag → TA
  | [] => tNil
  | a :: as => tCons (rdA K a) (tAs K as)
def AX (X : Cx) (x : Expr) (a : Ag) : Prop := PE X x (rdA X.K a)
def AsX (X : Cx) (xs : List Expr) (as : List Ag) : Prop := PA X xs (tAs X.K as)
def vals : List AR → List V → List Cell
  | .val d b :: r, v :: vs => ⟨v, d, b⟩ :: vals r vs
  | .var _ :: r, _ :: vs => vals r vs
  | _, _ => []
inductive Vok (σ : St) : List AR → List V → Prop
  | nil : Vok σ [] []
  | val {d : D} {b : Bool} {v : V} {r : List AR} {vs : List V} : Vok σ r vs → Vok σ (.val d b :: r) (v :: vs)
  | var {i : Nat} {v : V} {r : List AR} {vs : List V} : σ[i]? = some (some v) → Vok σ r vs → Vok σ (.var i :: r) (v :: vs)
def cellsO : List V → List (Option DB) → List Cell
  | v :: vs, some (d, b) :: os => ⟨v, d, b⟩ :: cellsO vs os
  | _ :: vs, none :: os => cellsO vs os
  | _, _ => []
theorem cellsO_some : ∀ (vs : List V) (ws : List DB), cellsO vs (ws.map some) = cells vs ws
  | [], [] => rfl
  | [], _ :: _ => rfl
  | _ :: _, [] => rfl
  | v :: vs, (d, b) :: ws => by
    show (⟨v, d, b⟩ : Cell) :: cellsO vs (ws.map some) = ⟨v, d, b⟩ :: cells vs ws
    rw [cellsO_some vs ws]
section
variable {K : PySem.W.Frag} {ps : List V}
theorem Vok.length {σ : St} : ∀ {rs : List AR} {vs : List V}, Vok σ rs vs → rs.length = vs.length
  | _, _, .nil => rfl
  | _, _, .val h => by rw [List.length_cons, List.length_cons, h.length]
  | _, _, .var _ h => by rw [List.length_cons, List.length_cons, h.length]
theorem args_ok : ∀ {as : List Ag} {e e1 : En} {rs : List AR} {F : List Cell} {H : Hp} {σ : St} {Q : List V → Hp → Prop}, mArgs as e = some (rs, e1) → Ok K ps H σ e F →
    (∀ vs H', Vok σ rs vs → Ok K ps H' σ e1 (vals rs vs ++ F) → Q vs H') → tAs K as σ H Q
  | [], e, e1, rs, F, H, σ, Q, h, o, q => by
    have h' : some (([] : List AR), e) = some (rs, e1) := h
    cases h'
    exact q [] H .nil o
  | .var i :: as, e, e1, rs, F, H, σ, Q, h, o, q => by
    unfold mArgs at h
    split at h
    · next sl hs =>
      split at h
      · next r e' hr =>
        cases h
        obtain ⟨v, hv, _, _⟩ := o.out hs
        refine ⟨v, hv, ?_⟩
        exact args_ok hr o fun vs H' hvs o' => q (v :: vs) H' (.var hv hvs) o'
      · cases h
    · cases h
  | .val f :: as, e, e1, rs, F, H, σ, Q, h, o, q => by
    unfold mArgs at h
    split at h
    · next d b e2 hf =>
      split at h
      · next r e' hr =>
        cases h
        refine ⟨ps, e, F, o, d, b, e2, hf, fun v H1 o1 => ?_⟩
        refine args_ok hr o1 fun vs H' hvs o' => q (v :: vs) H' (.val hvs) ?_
        exact o'.perm List.perm_middle
      · cases h
    · cases h
theorem take_ok : ∀ {rs : List AR} {vs : List V} {e e2 : En} {ws : List DB} {F : List Cell} {H : Hp} {σ : St}, take rs e = some (ws, e2) → Vok σ rs vs → Ok K ps H σ e (vals rs vs ++ F) →
    vs.length = ws.length ∧ Ok K ps H σ e2 (cells vs ws ++ F)
  | [], vs, e, e2, ws, F, H, σ, h, k, o => by
    have h' : some (([] : List DB), e) = some (ws, e2) := h
    cases h'
    cases k
    exact ⟨rfl, o⟩
  | .val d b :: r, _, e, e2, ws, F, H, σ, h, .val (v := v) (vs := vs) k, o => by
    unfold take at h
    split at h
    · next l e' hr =>
      cases h
      have o1 : Ok K ps H σ e (vals r vs ++ ⟨v, d, b⟩ :: F) := o.perm List.perm_middle.symm
      obtain ⟨hl, o2⟩ := take_ok hr k o1
      exact ⟨by rw [List.length_cons, List.length_cons, hl], o2.perm List.perm_middle⟩
    · cases h
  | .var i :: r, _, e, e2, ws, F, H, σ, h, .var (v := v) (vs := vs) hv k, o => by
    unfold take at h
    split at h
    · next sl hs =>
      have o' : Ok K ps H σ e (vals r vs ++ F) := o
      obtain ⟨v', hv', hp, oo⟩ := o'.out hs
      have ev : v' = v := by rw [hv] at hv'; cases hv'; rfl
      subst ev
      split at h
      · next im =>
        split at h
        · next l e' hr =>
          cases h
          have oo2 : Ok K ps H σ (e.set i none) (⟨v', sl.d, sl.own⟩ :: ⟨v', sl.d, true⟩ :: (vals r vs ++ F)) := oo.lift fun its g => (g.dup (b' := true) im).perm (List.Perm.swap _ _ _)
          have o3 := oo2.back hv hp
          have es : (e.set i none).set i (some ⟨sl.d, sl.own, sl.pin⟩) = e := by
            rw [List.set_set]
            obtain ⟨hl, e1⟩ := List.getElem?_eq_some_iff.mp hs
            have e2 : (some ⟨sl.d, sl.own, sl.pin⟩ : Option Sl) = e[i] := e1.symm
            rw [e2, List.set_getElem_self]
          rw [es] at o3
          have o4 : Ok K ps H σ e (vals r vs ++ ⟨v', sl.d, true⟩ :: F) := o3.perm List.perm_middle.symm
          obtain ⟨hl, o5⟩ := take_ok hr k o4
          exact ⟨by rw [List.length_cons, List.length_cons, hl], o5.perm List.perm_middle⟩
        · cases h
      · split at h
        · next l e' hr =>
          cases h
          have o4 : Ok K ps H σ (e.set i none) (vals r vs ++ ⟨v', sl.d, sl.own⟩ :: F) := oo.perm List.perm_middle.symm
          obtain ⟨hl, o5⟩ := take_ok hr k o4
          exact ⟨by rw [List.length_cons, List.length_cons, hl], o5.perm List.perm_middle⟩
        · cases h
    · cases h
/-- what the parameters' slots held is what they hold -/
def Pok (ps : List V) (σ : St) (e : En) : Prop := ∀ (i : Nat) (sl : Sl) (v : V), e[i]? = some (some sl) → σ[i]? = some (some v) → sl.pin = true → ps[i]? = some v
theorem Ok.pok {H : Hp} {σ : St} {e : En} {F : List Cell} (o : Ok K ps H σ e F) : Pok ps σ e := fun i sl v h1 h2 h3 => by
  obtain ⟨v', hv', hp, _⟩ := o.out h1
  rw [h2] at hv'; cases hv'
  exact hp h3
theorem Pok.set {σ : St} {e : En} (p : Pok ps σ e) (i : Nat) : Pok ps σ (e.set i none) := fun j sl v h1 h2 h3 => by
  by_cases hj : i = j
  · subst hj
    rw [List.getElem?_set] at h1
    split at h1
    · split at h1 <;> cases h1
    · exact absurd rfl (by assumption)
  · rw [List.getElem?_set_ne hj] at h1
    exact p j sl v h1 h2 h3
theorem give_ok : ∀ {rs : List AR} {vs : List V} {e e2 : En} {ws : List DB} {os : List (Option DB)} {F : List Cell} {H : Hp} {σ : St}, take rs e = some (ws, e2) → Vok σ rs vs → os.length = ws.length → Pok ps σ e →
    Ok K ps H σ e2 (cellsO vs os ++ F) → Ok K ps H σ (give rs os e e2) F
  | [], vs, e, e2, ws, os, F, H, σ, h, k, hl, p, o => by
    have h' : some (([] : List DB), e) = some (ws, e2) := h
    cases h'
    cases k
    cases os with
    | nil => exact o
    | cons _ _ => cases hl
  | .val d b :: r, _, e, e2, ws, os, F, H, σ, h, .val (v := v) (vs := vs) k, hl, p, o => by
    unfold take at h
    split at h
    · next l e' hr =>
      cases h
      cases os with
      | nil => cases hl
      | cons x os =>
        have hl' : os.length = l.length := Nat.succ.inj hl
        show Ok K ps H σ (give r os e e2) F
        refine give_ok hr k hl' p ?_
        cases x with
        | none => exact o
        | some db => exact Ok.drop o
    · cases h
  | .var i :: r, _, e, e2, ws, os, F, H, σ, h, .var (v := v) (vs := vs) hv k, hl, p, o => by
    unfold take at h
    split at h
    · next sl hs =>
      split at h
      · next im =>
        split at h
        · next l e' hr =>
          cases h
          cases os with
          | nil => cases hl
          | cons x os =>
            have hl' : os.length = l.length := Nat.succ.inj hl
            have ee : give (.var i :: r) (x :: os) e e2 = give r os e e2 := by
              show (match e[i]? with | some (some sl) => _ | _ => e2) = _
              rw [hs]
              show (if sl.d.imm = true then _ else _) = _
              rw [if_pos im]
            rw [ee]
            refine give_ok hr k hl' p ?_
            cases x with
            | none => exact o
            | some db => exact Ok.drop o
        · cases h
      · next im =>
        split at h
        · next l e' hr =>
          cases h
          cases os with
          | nil => cases hl
          | cons x os =>
            have hl' : os.length = l.length := Nat.succ.inj hl
            have ee : give (.var i :: r) (x :: os) e e2 = (give r os (e.set i none) e2).set i (x.map fun p => ⟨p.1, p.2, sl.pin⟩) := by
              show (match e[i]? with | some (some sl) => _ | _ => e2) = _
              rw [hs]
              show (if sl.d.imm = true then _ else _) = _
              rw [if_neg im]
            rw [ee]
            cases x with
            | none =>
              have o2 := give_ok hr k hl' (p.set i) o
              exact o2.hide i
            | some db =>
              have o1 : Ok K ps H σ e2 (cellsO vs os ++ ⟨v, db.1, db.2⟩ :: F) := o.perm List.perm_middle.symm
              have o2 := give_ok hr k hl' (p.set i) o1
              exact o2.back hv fun q => p i sl v hs hv q
        · cases h
    · cases h
/-- a deed by values: what is asked, and what it promises -/
def spR (K : PySem.W.Frag) (g : PM) (vs : List V) (H : Hp) (Q : VK) : Prop := ∃ ws F, Good K H (cells vs ws ++ F) ∧ vs.length = ws.length ∧ ∃ d b os, g ws = some (d, b, os) ∧ os.length = ws.length ∧
  ∀ v H', Good K H' (⟨v, d, b⟩ :: (cellsO vs os ++ F)) → Q v H'
theorem call_ok {g : PM} {as : List Ag} {e e' : En} {d : D} {b : Bool} {F : List Cell} {H : Hp} {σ : St} {Q : VK} (h : mCall g as e = some (d, b, e')) (o : Ok K ps H σ e F)
    (q : ∀ v H', Ok K ps H' σ e' (⟨v, d, b⟩ :: F) → Q v H') : tAs K as σ H fun vs H1 => spR K g vs H1 Q := by
  unfold mCall at h
  split at h
  · cases h
  · next rs e1 h1 =>
    split at h
    · cases h
    · next ws e2 h2 =>
      split at h
      · cases h
      · next d' b' os h3 =>
        split at h
        · next hl =>
          cases h
          refine args_ok h1 o fun vs H' hv o1 => ?_
          obtain ⟨hlen, its, z, gd⟩ := take_ok h2 hv o1
          refine ⟨ws, its ++ F, ?_, hlen, d, b, os, h3, hl, fun v H2 g2 => q v H2 ?_⟩
          · exact gd.perm (by
              rw [← List.append_assoc, ← List.append_assoc]
              exact List.perm_append_comm.append_right _)
          · refine give_ok h2 hv hl o1.pok ⟨its, z, ?_⟩
            refine g2.perm ?_
            have p1 : (⟨v, d, b⟩ :: (cellsO vs os ++ (its ++ F)) : List Cell).Perm (cellsO vs os ++ (its ++ ⟨v, d, b⟩ :: F)) := by
              have e1 : cellsO vs os ++ (its ++ (⟨v, d, b⟩ : Cell) :: F) = (cellsO vs os ++ its) ++ ⟨v, d, b⟩ :: F := (List.append_assoc _ _ _).symm
              rw [e1, ← List.append_assoc]
              exact List.perm_middle.symm
            refine p1.trans ?_
            rw [← List.append_assoc, ← List.append_assoc]
            exact List.perm_append_comm.append_right _
        · cases h
end
theorem PE.weak {X : Cx} {x : Expr} {t t' : TE} (h : PE X x t) (w : ∀ σ H Q, t' σ H Q → t σ H Q) : PE X x t' := ⟨fun pins s σ H Q I q => h.run pins s σ H Q I (w σ H Q q)⟩
theorem PS.weak {X : Cx} {x : Stmt} {t t' : TS} (h : PS X x t) (w : ∀ D σ H, t' D σ H → t D σ H) : PS X x t' := ⟨fun pins s σ H D I q => h.run pins s σ H D I (w D σ H q)⟩
theorem PSs.weak {X : Cx} {x : List Stmt} {t t' : TS} (h : PSs X x t) (w : ∀ D σ H, t' D σ H → t D σ H) : PSs X x t' := ⟨fun pins s σ H D I q => h.run pins s σ H D I (w D σ H q)⟩
theorem PT.weak {X : Cx} {x : Expr} {t t' : TT} (h : PT X x t) (w : ∀ σ H Q, t' σ H Q → t σ H Q) : PT X x t' := ⟨fun pins s σ H Q I q => h.run pins s σ H Q I (w σ H Q q)⟩
theorem PI.weak {X : Cx} {tg x : Expr} {t t' : TI} (h : PI X tg x t) (w : ∀ σ H Q, t' σ H Q → t σ H Q) : PI X tg x t' := ⟨fun pins s σ H Q I q => h.run pins s σ H Q I (w σ H Q q)⟩
theorem PG.weak {X : Cx} {x : Expr} {t t' : TG} (h : PG X x t) (w : ∀ v σ H Q, t' v σ H Q → t v σ H Q) : PG X x t' := ⟨fun pins s σ H v u Q I r q => h.run pins s σ H v u Q I r (w v σ H Q q)⟩
end LF
/-! LF3: expressions, tests, statements, loops, comprehensions, defs. -/
namespace LF
open PySem PySem.Spec L2
open PyProof.Rows hiding St
section
variable {K : PySem.W.Frag}
theorem semE_mono {f : EM} {σ : St} {H : Hp} {Q Q' : VK} (h : semE K f σ H Q) (m : ∀ v H', Q v H' → Q' v H') : semE K f σ H Q' := by
  obtain ⟨ps, e, F, o, d, b, e', hf, q⟩ := h
  exact ⟨ps, e, F, o, d, b, e', hf, fun v H' o' => m _ _ (q v H' o')⟩
theorem rdA_mono {a : Ag} {σ : St} {H : Hp} {Q Q' : VK} (h : rdA K a σ H Q) (m : ∀ v H', Q v H' → Q' v H') : rdA K a σ H Q' := by
  cases a with
  | var i => obtain ⟨v, e, q⟩ := h; exact ⟨v, e, m _ _ q⟩
  | val f => exact semE_mono h m
theorem tAs_mono : ∀ {as : List Ag} {σ : St} {H : Hp} {Q Q' : List V → Hp → Prop}, tAs K as σ H Q → (∀ vs H', Q vs H' → Q' vs H') → tAs K as σ H Q'
  | [], _, _, _, _, h, m => m _ _ h
  | _ :: _, _, _, _, _, h, m => rdA_mono h fun v H' q => tAs_mono q fun vs H2 q2 => m _ _ q2
/-- a call whose deed is g, its wish R said of the arguments -/
theorem call_by {g : PM} {as : List Ag} {σ : St} {H : Hp} {Q : VK} {R : List V → Hp → Prop} (h : semE K (mCall g as) σ H Q) (k : ∀ vs H1, spR K g vs H1 Q → R vs H1) : tAs K as σ H R := by
  obtain ⟨ps, e, F, o, d, b, e', hf, q⟩ := h
  exact tAs_mono (call_ok hf o q) k
end
section
variable {X : Cx} {x y z : Expr} {pos : Pos}
/-! ### names, constants -/
def mVar (i : Nat) : EM := fun e => match e[i]? with
  | some (some sl) => if sl.d.imm then some (sl.d, true, e) else some (sl.d, false, e.set i (some ⟨sl.d, false, sl.pin⟩))
  | _ => none
theorem ex_var {i : Nat} (h : PE X x (tVar i)) : EX X x (mVar i) := by
  refine PE.weak h fun σ H Q q => ?_
  obtain ⟨ps, e, F, o, d, b, e', hf, q⟩ := q
  unfold mVar at hf
  split at hf
  · next sl hs =>
    obtain ⟨v, hv, hp, oo⟩ := o.out hs
    refine ⟨v, hv, ?_⟩
    split at hf
    · next im =>
      cases hf
      refine q v H ?_
      have o2 : Ok X.K ps H σ (e.set i none) (⟨v, sl.d, sl.own⟩ :: ⟨v, sl.d, true⟩ :: F) := oo.lift fun its g => (g.dup (b' := true) im).perm (List.Perm.swap _ _ _)
      have o3 := o2.back hv hp
      have es : (e.set i none).set i (some ⟨sl.d, sl.own, sl.pin⟩) = e := by
        rw [List.set_set]
        obtain ⟨hl, e1⟩ := List.getElem?_eq_some_iff.mp hs
        have e2 : (some ⟨sl.d, sl.own, sl.pin⟩ : Option Sl) = e[i] := e1.symm
        rw [e2, List.set_getElem_self]
      rw [es] at o3
      exact o3
    · cases hf
      refine q v H ?_
      have o2 : Ok X.K ps H σ (e.set i none) (⟨v, sl.d, false⟩ :: ⟨v, sl.d, false⟩ :: F) := oo.lift fun its g => Good.dupS (Good.share g)
      have o3 := o2.back hv hp
      rw [List.set_set] at o3
      exact o3
  · cases hf
theorem ax_var {i : Nat} (h : PE X x (tVar i)) : AX X x (.var i) := h
theorem ax_val {f : EM} (h : EX X x f) : AX X x (.val f) := h
def mC (d : D) : EM := fun e => some (d, true, e)
theorem ex_c {v : V} {d : D} (h : PE X x (tC v)) (r : ∀ H, Rep X.K H true v d []) : EX X x (mC d) := by
  refine PE.weak h fun σ H Q q => ?_
  obtain ⟨ps, e, F, o, d, b, e', hf, q⟩ := q
  cases hf
  exact q v H (o.flat (r H))
theorem ex_int {i j pos} : EX X (.Constant (.int i) j pos) (mC (.int i)) := ex_c pe_int fun _ => .int i
theorem ex_bl {i j pos} : EX X (.Constant (.bool i) j pos) (mC (.bl i)) := ex_c pe_bl fun _ => .bl i
theorem ex_non {j pos} : EX X (.Constant .none j pos) (mC .non) := ex_c pe_non fun _ => .non
theorem ex_str {i j pos} : EX X (.Constant (.str i) j pos) (mC (.str i)) := ex_c pe_str fun _ => .str i
/-! ### arguments -/
theorem as_nil : AsX X [] [] := pa_nil
theorem as_cons {es : List Expr} {a : Ag} {as : List Ag} (h : AX X x a) (hr : AsX X es as) (hs : starEach (x :: es) X.env = (false, eval x X.env) :: starEach es X.env := by rfl) : AsX X (x :: es) (a :: as) := pa_cons h hr hs
/-! ### operators by deeds -/
def OpX (X : Cx) (f : Value → Value → Sem Value) (g : PM) : Prop := OpR X f fun x y H Q => spR X.K g [x, y] H Q
def UnX (X : Cx) (f : Value → Sem Value) (g : PM) : Prop := UnR X f fun x H Q => spR X.K g [x] H Q
def FnX (X : Cx) (f : Value) (g : PM) : Prop := CallR X f (spR X.K g)
def MtX (X : Cx) (id : String) (g : PM) : Prop := MtR X id fun x xs H Q => spR X.K g (x :: xs) H Q
def IxX (X : Cx) (g : PM) : Prop := IxR X fun x y H Q => spR X.K g [x, y] H Q
theorem ex_bin {op : Operator} {g : PM} {a b : Ag} (ho : OpX X (binaryOp op) g) (ha : AX X x a) (hb : AX X y b) : EX X (.BinOp x op y pos) (mCall g [a, b]) :=
  PE.weak (pe_op ho ha hb) fun σ H Q q => call_by q (R := fun vs H1 => spR X.K g vs H1 Q) fun _ _ h => h
theorem ex_un {op : UnaryOp} {g : PM} {a : Ag} (ho : UnX X (unaryOp op) g) (ha : AX X x a) : EX X (.UnaryOp op x pos) (mCall g [a]) :=
  PE.weak (pe_un ho ha) fun σ H Q q => call_by q (R := fun vs H1 => spR X.K g vs H1 Q) fun _ _ h => h
theorem ex_ix {g : PM} {a b : Ag} (ho : IxX X g) (ha : AX X x a) (hb : AX X y b) (hs : PlainIx y) : EX X (.Subscript x y pos) (mCall g [a, b]) :=
  PE.weak (pe_ix ho ha hb hs) fun σ H Q q => call_by q (R := fun vs H1 => spR X.K g vs H1 Q) fun _ _ h => h
theorem ex_cmp {op : CmpOp} {g : PM} {a b : Ag} (ho : OpX X (compareOp op) g) (ha : AX X x a) (hb : AX X y b) (hm : behindInMarks op y = false) : EX X (.Compare x [op] [y] pos) (mCall g [a, b]) :=
  PE.weak (pe_cmpR ho ha hb hm) fun σ H Q q => call_by q (R := fun vs H1 => spR X.K g vs H1 Q) fun _ _ h => h
theorem ex_callB {f : Str} {p : Pos} {id : String} {g : PM} {es : List Expr} {as : List Ag} (hr : FnX X (.builtin id) g) (hg : Gl X f) (hm : X.mg f = none) (hv : bootBuiltins f = some (.builtin id)) (ha : AsX X (x :: es) as)
    (hn : f ≠ "__name__" := by decide) (hd : (f == ("__debug__" : Str)) = false := by decide) (he : starEach (x :: es) X.env = (false, eval x X.env) :: starEach es X.env := by rfl)
    (hpl : ((backTo pos (starEach es X.env)).any fun x => x.fst) = false := by rfl) : EX X (.Call (.Name f p) (x :: es) [] pos) (mCall g as) :=
  PE.weak (pe_callB hr hg hm hv ha hn hd he hpl) fun σ H Q q => call_by q (R := fun vs H1 => spR X.K g vs H1 Q) fun _ _ h => h
theorem ex_callTy {f : Str} {p : Pos} {T : String} {g : PM} {es : List Expr} {as : List Ag} (hr : FnX X (.type T) g) (hg : Gl X f) (hm : X.mg f = none) (hv : bootBuiltins f = some (.type T)) (ha : AsX X (x :: es) as)
    (hn : f ≠ "__name__" := by decide) (hd : (f == ("__debug__" : Str)) = false := by decide) (he : starEach (x :: es) X.env = (false, eval x X.env) :: starEach es X.env := by rfl)
    (hpl : ((backTo pos (starEach es X.env)).any fun x => x.fst) = false := by rfl) : EX X (.Call (.Name f p) (x :: es) [] pos) (mCall g as) :=
  PE.weak (pe_callTy hr hg hm hv ha hn hd he hpl) fun σ H Q q => call_by q (R := fun vs H1 => spR X.K g vs H1 Q) fun _ _ h => h
theorem ex_callTy0 {f : Str} {p : Pos} {T : String} {g : PM} (hr : FnX X (.type T) g) (hg : Gl X f) (hm : X.mg f = none) (hv : bootBuiltins f = some (.type T))
    (hn : f ≠ "__name__" := by decide) (hd : (f == ("__debug__" : Str)) = false := by decide) : EX X (.Call (.Name f p) [] [] pos) (mCall g []) :=
  PE.weak (pe_callTy0 hr hg hm hv hn hd) fun σ H Q q => call_by q (R := fun vs H1 => spR X.K g vs H1 Q) fun _ _ h => h
/-! ### calls of defs -/
def spF (K : PySem.W.Frag) (n : Nat) (g : PM) : Sp := fun vs H Q _ => vs.length = n ∧ spR K g vs H Q
/-- a def that keeps the promise of g -/
structure Def (P : Program) (w : World) (K : PySem.W.Frag) (mg : Str → Option Value) (base : Heap) (k : Nat) (f : Str) (n : Nat) (g : PM) : Prop where
  ex : ∃ (a : Addr) (fd : FuncData) (ps : List Str), ps.length = n ∧ FnOk P w K mg base CX0 k a fd ps (spF K n g) ∧ mg f = some (.ref a) ∧ PySem.W.keepIn K (.ref a) = true ∧ L2.Binds K fd ps []
theorem spR_len {K : PySem.W.Frag} {g : PM} {vs : List V} {H : Hp} {Q : VK} (h : spR K g vs H Q) : True := trivial
theorem AsX.length {es : List Expr} {as : List Ag} (h : AsX X es as) : True := trivial
theorem tAs_len {K : PySem.W.Frag} : ∀ {as : List Ag} {σ : St} {H : Hp} {Q : List V → Hp → Prop}, tAs K as σ H Q → tAs K as σ H fun vs H' => vs.length = as.length ∧ Q vs H'
  | [], _, _, _, h => ⟨rfl, h⟩
  | _ :: _, _, _, _, h => rdA_mono h fun v H' q => tAs_mono (tAs_len q) fun vs H2 q2 => ⟨congrArg (· + 1) q2.1, q2.2⟩
theorem ex_call {f : Str} {p : Pos} {k j n : Nat} {g : PM} {es : List Expr} {as : List Ag} (F : Def X.prog X.w X.K X.mg X.base k f n g) (hr : Room j X.A) (hk : k ≤ j) (hg : Gl X f) (ha : AsX X (x :: es) as) (hn : as.length = n)
    (hdb : (f == ("__debug__" : Str)) = false := by decide) (he : starEach (x :: es) X.env = (false, eval x X.env) :: starEach es X.env := by rfl) (hpl : (backTo pos (starEach es X.env)).any (·.1) = false := by rfl) :
    EX X (.Call (.Name f p) (x :: es) [] pos) (mCall g as) := by
  obtain ⟨a, fd, ps, hl, F, hm, hkp, hb⟩ := F.ex
  refine PE.weak (pe_call F (hr.mono hk) hg hm hkp hb .nil pass0 ha hdb he hpl) fun σ H Q q => ?_
  have q1 := call_by q (R := fun vs H1 => spR X.K g vs H1 Q) fun _ _ h => h
  refine tAs_mono (tAs_len q1) fun vs H1 h => ?_
  rw [List.append_nil]
  exact ⟨h.1.trans hn, h.2⟩
/-! ### methods of built-in types: the receiver a name (by reference) or a value -/
theorem rdA_self {K : PySem.W.Frag} {a : Ag} {σ : St} {H : Hp} {Q : VK} (h : rdA K a σ H Q) : rdA K a σ H Q := h
/-! ### displays -/
def sizeMax : Nat := 16777216
theorem sizeMax_eq : sizeMax = sizeLine := by rw [sizeLine_eq]; rfl
def gTup : PM := fun ws => if ws.length ≤ sizeMax then some (.tup (ws.map (·.1)), flags ws, ws.map fun _ => none) else none
def gLst : PM := fun ws => if ws.length ≤ sizeMax then some (.lst (ws.map (·.1)), flags ws, ws.map fun _ => none) else none
theorem cellsO_none {vs : List V} {ws : List DB} : cellsO vs (ws.map fun _ => none) = [] := by
  induction vs generalizing ws with
  | nil => cases ws <;> rfl
  | cons v vs ih => cases ws with
    | nil => rfl
    | cons w ws => exact ih
theorem ex_tup {es : List Expr} {as : List Ag} {x1 : Nat} (h : AsX X es as) : EX X (.Tuple es x1 pos) (mCall gTup as) := by
  refine PE.weak (pe_tup h) fun σ H Q q => ?_
  refine call_by q fun vs H1 h => ?_
  obtain ⟨ws, F, g, hl, d, b, os, hg, ho, k⟩ := h
  unfold gTup at hg
  split at hg
  · next hz =>
    cases hg
    refine ⟨by rw [hl, ← sizeMax_eq]; exact hz, fun p hp => k _ _ ?_⟩
    rw [cellsO_none]
    exact g.tupNew hl hp
  · cases hg
theorem ex_lst {es : List Expr} {as : List Ag} (h : AsX X es as) : EX X (.List es pos) (mCall gLst as) := by
  refine PE.weak (pe_lst h) fun σ H Q q => ?_
  refine call_by q fun vs H1 h => ?_
  obtain ⟨ws, F, g, hl, d, b, os, hg, ho, k⟩ := h
  unfold gLst at hg
  split at hg
  · next hz =>
    cases hg
    refine ⟨by rw [hl, ← sizeMax_eq]; exact hz, fun p hp => k _ _ ?_⟩
    rw [cellsO_none]
    exact g.lstNew hl hp
  · cases hg
end
/-! ### tests -/
abbrev TM := En → Option (Bool × En)
def semT (K : PySem.W.Frag) (f : TM) : TT := fun σ H Q => ∃ ps e F, Ok K ps H σ e F ∧ ∃ c e', f e = some (c, e') ∧ ∀ H', Ok K ps H' σ e' F → Q c H'
def TX (X : Cx) (x : Expr) (f : TM) : Prop := PT X x (semT X.K f)
def WX (X : Cx) (x : Expr) (f : TM) : Prop := PW X x (semT X.K f)
def tOf (f : EM) : TM := fun e => match f e with
  | some (.bl c, _, e') => some (c, e')
  | _ => none
theorem tOf_some {f : EM} {e e' : En} {c : Bool} (h : tOf f e = some (c, e')) : ∃ b, f e = some (.bl c, b, e') := by
  unfold tOf at h
  split at h
  · next c' b e2 hf =>
    cases h
    exact ⟨b, hf⟩
  · cases h
theorem rep_bl {K : PySem.W.Frag} {H : Hp} {m c : Bool} {v : V} {A : List Addr} (r : Rep K H m v (.bl c) A) : v = .bl c := by cases r; rfl
theorem semT_tB {K : PySem.W.Frag} {f : EM} {σ : St} {H : Hp} {Q : Bool → Hp → Prop} (h : semT K (tOf f) σ H Q) : semE K f σ H fun v H' => ∃ c, v = .bl c ∧ Q c H' := by
  obtain ⟨ps, e, F, o, c, e', hf, q⟩ := h
  obtain ⟨b, hf⟩ := tOf_some hf
  refine ⟨ps, e, F, o, _, b, e', hf, fun v H' o' => ?_⟩
  obtain ⟨A, r⟩ := o'.good.rep
  exact ⟨c, rep_bl r, q H' o'.drop⟩
section
variable {X : Cx} {x y z : Expr} {pos : Pos}
theorem tx_val {f : EM} (h : EX X x f) (hw : ∀ (whole : Sem Value), PySem.isTrue x X.env whole = (do
      let v ← whole
      standAt x.pos
      holding [v] (truthy v)) := by intro _; rfl) : TX X x (tOf f) := PT.weak (pt_val h hw) fun σ H Q q => semT_tB q
theorem tx_cmp {op : CmpOp} {g : PM} {a b : Ag} (ho : OpX X (compareOp op) g) (ha : AX X x a) (hb : AX X y b) (hm : behindInMarks op y = false) : TX X (.Compare x [op] [y] pos) (tOf (mCall g [a, b])) :=
  PT.weak (pt_cmpR ho ha hb hm) fun σ H Q q => call_by (semT_tB q) (R := fun vs H1 => spR X.K g vs H1 _) fun _ _ h => h
def tNotM (f : TM) : TM := fun e => match f e with
  | some (c, e') => some (!c, e')
  | none => none
theorem tx_not {f : TM} (h : TX X x f) : TX X (.UnaryOp .Not x pos) (tNotM f) := by
  refine PT.weak (pt_not h) fun σ H Q q => ?_
  obtain ⟨ps, e, F, o, c, e', hf, q⟩ := q
  unfold tNotM at hf
  split at hf
  · next c' e2 h2 =>
    cases hf
    exact ⟨ps, e, F, o, c', e', h2, fun H' o' => q H' o'⟩
  · cases hf
def tAndM (f g : TM) : TM := fun e => match f e with
  | some (true, e') => g e'
  | some (false, e') => some (false, e')
  | none => none
def tOrM (f g : TM) : TM := fun e => match f e with
  | some (false, e') => g e'
  | some (true, e') => some (true, e')
  | none => none
theorem wx_and {rest : List Expr} {f g : TM} (h : TX X x f) (h2 : WX X (.BoolOp .And (y :: rest) pos) g) : WX X (.BoolOp .And (x :: y :: rest) pos) (tAndM f g) := by
  refine ⟨(fun whole pins s σ H Q I q => (pw_and h h2).run whole pins s σ H Q I ?_)⟩
  obtain ⟨ps, e, F, o, c, e', hf, q⟩ := q
  unfold tAndM at hf
  split at hf
  · next e2 h2 =>
    refine ⟨ps, e, F, o, true, e2, h2, fun H' o' => ?_⟩
    refine iteT ?_
    exact ⟨ps, e2, F, o', c, e', hf, q⟩
  · next e2 h2 =>
    cases hf
    refine ⟨ps, e, F, o, false, _, h2, fun H' o' => ?_⟩
    refine iteF ?_
    exact q H' o'
  · cases hf
theorem wx_or {rest : List Expr} {f g : TM} (h : TX X x f) (h2 : WX X (.BoolOp .Or (y :: rest) pos) g) : WX X (.BoolOp .Or (x :: y :: rest) pos) (tOrM f g) := by
  refine ⟨(fun whole pins s σ H Q I q => (pw_or h h2).run whole pins s σ H Q I ?_)⟩
  obtain ⟨ps, e, F, o, c, e', hf, q⟩ := q
  unfold tOrM at hf
  split at hf
  · next e2 h2 =>
    refine ⟨ps, e, F, o, false, e2, h2, fun H' o' => ?_⟩
    refine iteF ?_
    exact ⟨ps, e2, F, o', c, e', hf, q⟩
  · next e2 h2 =>
    cases hf
    refine ⟨ps, e, F, o, true, _, h2, fun H' o' => ?_⟩
    refine iteT ?_
    exact q H' o'
  · cases hf
theorem wx_and1 {f : TM} (h : TX X x f) : WX X (.BoolOp .And [x] pos) f := pw_and1 h
theorem wx_or1 {f : TM} (h : TX X x f) : WX X (.BoolOp .Or [x] pos) f := pw_or1 h
theorem tx_w {f : TM} (h : WX X x f) : TX X x f := h.pt
/-! ### values by truth: if, and, or, not, chains -/
def mIf (t : TM) (f g : EM) : EM := fun e => match t e with
  | some (true, e') => f e'
  | some (false, e') => g e'
  | none => none
theorem ex_if {c : Expr} {t : TM} {f g : EM} (hc : TX X c t) (hf : EX X x f) (hg : EX X y g) : EX X (.IfExp c x y pos) (mIf t f g) := by
  refine PE.weak (pe_ifExp hc hf hg) fun σ H Q q => ?_
  obtain ⟨ps, e, F, o, d, b, e', hm, q⟩ := q
  unfold mIf at hm
  split at hm
  · next e2 h2 =>
    refine ⟨ps, e, F, o, true, e2, h2, fun H' o' => ?_⟩
    refine iteT ?_
    exact ⟨ps, e2, F, o', d, b, e', hm, q⟩
  · next e2 h2 =>
    refine ⟨ps, e, F, o, false, e2, h2, fun H' o' => ?_⟩
    refine iteF ?_
    exact ⟨ps, e2, F, o', d, b, e', hm, q⟩
  · cases hm
def mOf (t : TM) : EM := fun e => match t e with
  | some (c, e') => some (.bl c, true, e')
  | none => none
def mAnd (f g : EM) : EM := fun e => match f e with
  | some (.bl true, _, e') => g e'
  | some (.bl false, _, e') => some (.bl false, true, e')
  | _ => none
def mOr (f g : EM) : EM := fun e => match f e with
  | some (.bl false, _, e') => g e'
  | some (.bl true, _, e') => some (.bl true, true, e')
  | _ => none
def mNot (f : EM) : EM := fun e => match f e with
  | some (.bl c, _, e') => some (.bl (!c), true, e')
  | _ => none
theorem ex_and {rest : List Expr} {f g : EM} (hf : EX X x f) (hg : EX X (.BoolOp .And (y :: rest) pos) g) : EX X (.BoolOp .And (x :: y :: rest) pos) (mAnd f g) := by
  refine PE.weak (pe_and hf hg) fun σ H Q q => ?_
  obtain ⟨ps, e, F, o, d, b, e', hm, q⟩ := q
  unfold mAnd at hm
  split at hm
  · next b2 e2 h2 =>
    refine ⟨ps, e, F, o, _, b2, e2, h2, fun v H' o' => ?_⟩
    obtain ⟨A, r⟩ := o'.good.rep
    refine ⟨true, rep_bl r, ?_⟩
    refine iteT ?_
    exact ⟨ps, e2, F, o'.drop, d, b, e', hm, q⟩
  · next b2 e2 h2 =>
    cases hm
    refine ⟨ps, e, F, o, _, b2, _, h2, fun v H' o' => ?_⟩
    obtain ⟨A, r⟩ := o'.good.rep
    refine ⟨false, rep_bl r, ?_⟩
    refine iteF ?_
    exact q _ _ (o'.drop.flat (.bl false))
  · cases hm
theorem ex_or {rest : List Expr} {f g : EM} (hf : EX X x f) (hg : EX X (.BoolOp .Or (y :: rest) pos) g) : EX X (.BoolOp .Or (x :: y :: rest) pos) (mOr f g) := by
  refine PE.weak (pe_or hf hg) fun σ H Q q => ?_
  obtain ⟨ps, e, F, o, d, b, e', hm, q⟩ := q
  unfold mOr at hm
  split at hm
  · next b2 e2 h2 =>
    refine ⟨ps, e, F, o, _, b2, e2, h2, fun v H' o' => ?_⟩
    obtain ⟨A, r⟩ := o'.good.rep
    refine ⟨false, rep_bl r, ?_⟩
    refine iteF ?_
    exact ⟨ps, e2, F, o'.drop, d, b, e', hm, q⟩
  · next b2 e2 h2 =>
    cases hm
    refine ⟨ps, e, F, o, _, b2, _, h2, fun v H' o' => ?_⟩
    obtain ⟨A, r⟩ := o'.good.rep
    refine ⟨true, rep_bl r, ?_⟩
    refine iteT ?_
    exact q _ _ (o'.drop.flat (.bl true))
  · cases hm
theorem ex_one {op : BoolOp} {f : EM} (h : EX X x f) : EX X (.BoolOp op [x] pos) f := pe_one h
theorem ex_not {f : EM} (hf : EX X x f) : EX X (.UnaryOp .Not x pos) (mNot f) := by
  refine PE.weak (pe_not hf) fun σ H Q q => ?_
  obtain ⟨ps, e, F, o, d, b, e', hm, q⟩ := q
  unfold mNot at hm
  split at hm
  · next c b2 e2 h2 =>
    cases hm
    refine ⟨ps, e, F, o, _, b2, _, h2, fun v H' o' => ?_⟩
    obtain ⟨A, r⟩ := o'.good.rep
    exact ⟨c, rep_bl r, q _ _ (o'.drop.flat (.bl (!c)))⟩
  · cases hm
end
end LF
/-! LF4: statements, targets, loops, defs. -/
namespace LF
open PySem PySem.Spec L2
open PyProof.Rows hiding St
inductive Fl where
  | nx | rt (d : D) (b : Bool) | bk | ct
abbrev SM := En → Option (Fl × En)
def endS (K : PySem.W.Frag) (ps : List V) (F : List Cell) (D : Ends) : Fl → En → Prop
  | .nx, e => ∀ σ H, Ok K ps H σ e F → D.nx σ H
  | .rt d b, e => ∀ σ v H, Ok K ps H σ e (⟨v, d, b⟩ :: F) → D.rt v H
  | .bk, e => ∀ σ H, Ok K ps H σ e F → D.bk σ H
  | .ct, e => ∀ σ H, Ok K ps H σ e F → D.ct σ H
def semS (K : PySem.W.Frag) (f : SM) : TS := fun D σ H => ∃ ps e F, Ok K ps H σ e F ∧ ∃ fl e', f e = some (fl, e') ∧ endS K ps F D fl e'
def SX (X : Cx) (x : Stmt) (f : SM) : Prop := PS X x (semS X.K f)
def BX (X : Cx) (x : List Stmt) (f : SM) : Prop := PSs X x (semS X.K f)
def mSeq (f g : SM) : SM := fun e => match f e with
  | some (.nx, e') => g e'
  | r => r
def mPass : SM := fun e => some (.nx, e)
def mNever : SM := fun _ => none
section
variable {X : Cx} {st : Stmt} {rest : List Stmt} {f g : SM} {x y : Expr} {pos : Pos}
theorem bx_nil : BX X [] mPass := by
  refine PSs.weak pss_nil fun D σ H q => ?_
  obtain ⟨ps, e, F, o, fl, e', hf, q⟩ := q
  cases hf
  exact q σ H o
theorem bx_one (h : SX X st f) : BX X [st] f := pss_one h
theorem bx_cons (h : SX X st f) (hr : BX X rest g) : BX X (st :: rest) (mSeq f g) := by
  refine PSs.weak (pss_cons h hr) fun D σ H q => ?_
  obtain ⟨ps, e, F, o, fl, e', hf, q⟩ := q
  unfold mSeq at hf
  split at hf
  · next e2 h2 =>
    exact ⟨ps, e, F, o, .nx, e2, h2, fun σ' H' o' => ⟨ps, e2, F, o', fl, e', hf, q⟩⟩
  · next r hne =>
    refine ⟨ps, e, F, o, fl, e', hf, ?_⟩
    cases fl with
    | nx => exact (hne e' hf).elim
    | rt d b => exact q
    | bk => exact q
    | ct => exact q
theorem sx_never : SX X st mNever := PS.weak ps_never fun D σ H q => by
  obtain ⟨ps, e, F, o, fl, e', hf, q⟩ := q
  cases hf
theorem bx_never : BX X rest mNever := PSs.weak pss_never fun D σ H q => by
  obtain ⟨ps, e, F, o, fl, e', hf, q⟩ := q
  cases hf
theorem sx_pass : SX X (.Pass pos) mPass := PS.weak ps_pass fun D σ H q => by
  obtain ⟨ps, e, F, o, fl, e', hf, q⟩ := q
  cases hf
  exact q σ H o
def mBreak : SM := fun e => some (.bk, e)
def mContinue : SM := fun e => some (.ct, e)
theorem sx_break : SX X (.Break pos) mBreak := PS.weak ps_break fun D σ H q => by
  obtain ⟨ps, e, F, o, fl, e', hf, q⟩ := q
  cases hf
  exact q σ H o
theorem sx_continue : SX X (.Continue pos) mContinue := PS.weak ps_continue fun D σ H q => by
  obtain ⟨ps, e, F, o, fl, e', hf, q⟩ := q
  cases hf
  exact q σ H o
theorem sx_doc {t j pos'} : SX X (.Expr (.Constant (.str t) j pos) pos') mPass := PS.weak ps_doc fun D σ H q => by
  obtain ⟨ps, e, F, o, fl, e', hf, q⟩ := q
  cases hf
  exact q σ H o
def mExpr (f : EM) : SM := fun e => match f e with
  | some (_, _, e') => some (.nx, e')
  | none => none
theorem sx_expr {f : EM} (h : EX X x f) (hs : swapsWith x none pos.line X.env = pure false := by rfl) : SX X (.Expr x pos) (mExpr f) := by
  refine PS.weak (ps_expr h hs) fun D σ H q => ?_
  obtain ⟨ps, e, F, o, fl, e', hf, q⟩ := q
  unfold mExpr at hf
  split at hf
  · next d b e2 h2 =>
    cases hf
    exact ⟨ps, e, F, o, d, b, _, h2, fun v H' o' => q σ H' o'.drop⟩
  · cases hf
def mRet (f : EM) : SM := fun e => match f e with
  | some (d, b, e') => some (.rt d b, e')
  | none => none
theorem sx_ret {f : EM} (h : EX X x f) : SX X (.Return (some x) pos) (mRet f) := by
  refine PS.weak (ps_ret h) fun D σ H q => ?_
  obtain ⟨ps, e, F, o, fl, e', hf, q⟩ := q
  unfold mRet at hf
  split at hf
  · next d b e2 h2 =>
    cases hf
    exact ⟨ps, e, F, o, d, b, _, h2, fun v H' o' => q σ v H' o'⟩
  · cases hf
/-- return of a bare name: it moves -/
def mRetV (i : Nat) : SM := fun e => match e[i]? with
  | some (some sl) => some (.rt sl.d (sl.d.imm || sl.own), if sl.d.imm then e else e.set i none)
  | _ => none
theorem sx_retV {i : Nat} (h : PE X x (tVar i)) : SX X (.Return (some x) pos) (mRetV i) := by
  refine PS.weak (ps_ret h) fun D σ H q => ?_
  obtain ⟨ps, e, F, o, fl, e', hf, q⟩ := q
  unfold mRetV at hf
  split at hf
  · next sl hs =>
    cases hf
    obtain ⟨v, hv, hp, oo⟩ := o.out hs
    refine ⟨v, hv, q σ v H ?_⟩
    by_cases im : sl.d.imm = true
    · rw [if_pos im, im, Bool.true_or]
      have o2 : Ok X.K ps H σ (e.set i none) (⟨v, sl.d, sl.own⟩ :: ⟨v, sl.d, true⟩ :: F) := oo.lift fun its g => (g.dup (b' := true) im).perm (List.Perm.swap _ _ _)
      have o3 := o2.back hv hp
      have es : (e.set i none).set i (some ⟨sl.d, sl.own, sl.pin⟩) = e := by
        rw [List.set_set]
        obtain ⟨hl, e1⟩ := List.getElem?_eq_some_iff.mp hs
        have e2 : (some ⟨sl.d, sl.own, sl.pin⟩ : Option Sl) = e[i] := e1.symm
        rw [e2, List.set_getElem_self]
      rw [es] at o3
      exact o3
    · rw [if_neg im]
      have : sl.d.imm = false := by simpa using im
      rw [this, Bool.false_or]
      exact oo
  · cases hf
def mRetN : SM := fun e => some (.rt .non true, e)
theorem sx_retN : SX X (.Return none pos) mRetN := PS.weak ps_retN fun D σ H q => by
  obtain ⟨ps, e, F, o, fl, e', hf, q⟩ := q
  cases hf
  exact q σ .non H (o.flat .non)
def mIfS (t : TM) (f g : SM) : SM := fun e => match t e with
  | some (true, e') => f e'
  | some (false, e') => g e'
  | none => none
theorem sx_if {c : Expr} {a b : List Stmt} {t : TM} (hc : TX X c t) (ha : BX X a f) (hb : BX X b g) : SX X (.If c a b pos) (mIfS t f g) := by
  refine PS.weak (ps_if hc ha hb) fun D σ H q => ?_
  obtain ⟨ps, e, F, o, fl, e', hm, q⟩ := q
  unfold mIfS at hm
  split at hm
  · next e2 h2 =>
    refine ⟨ps, e, F, o, true, e2, h2, fun H' o' => ?_⟩
    refine iteT ?_
    exact ⟨ps, e2, F, o', fl, e', hm, q⟩
  · next e2 h2 =>
    refine ⟨ps, e, F, o, false, e2, h2, fun H' o' => ?_⟩
    refine iteF ?_
    exact ⟨ps, e2, F, o', fl, e', hm, q⟩
  · cases hm
/-! ### stores -/
def mSet (i : Nat) (f : EM) : SM := fun e => match f e with
  | some (d, b, e') => if i < e'.length then some (.nx, e'.set i (some ⟨d, b, false⟩)) else none
  | none => none
theorem sem_set {K : PySem.W.Frag} {i : Nat} {f : EM} {D : Ends} {σ : St} {H : Hp} (q : semS K (mSet i f) D σ H) : tAsg (semE K f) (gName i) D σ H := by
  obtain ⟨ps, e, F, o, fl, e', hf, q⟩ := q
  unfold mSet at hf
  split at hf
  · next d b e2 h2 =>
    split at hf
    · next hl =>
      cases hf
      exact ⟨ps, e, F, o, d, b, e2, h2, fun v H' o' => q _ _ (o'.store hl)⟩
    · cases hf
  · cases hf
theorem sx_set {i : Nat} {s : Str} {f : EM} {pos' : Pos} (hN : X.N.Nodup) (hi : X.N[i]? = some s) (hx : L2.Loc X.env.scope s) (he : EX X x f) (hs : swapsWith x (some (.Name s pos')) pos.line X.env = pure false := by rfl)
    (hf : X.fn s = true ∨ X.env.scope.names.lookup s = some .local := by first | exact .inl rfl | exact .inr rfl | assumption) : SX X (.Assign [.Name s pos'] x pos) (mSet i f) :=
  PS.weak (ps_set hN hi hx he hs hf) fun D σ H q => sem_set q
def mPar (i j : Nat) (f g : EM) : SM := fun e => match f e with
  | some (d, b, e1) => match g e1 with
    | some (d2, b2, e2) => if i < e2.length ∧ j < e2.length then some (.nx, (e2.set i (some ⟨d, b, false⟩)).set j (some ⟨d2, b2, false⟩)) else none
    | none => none
  | none => none
theorem sx_par {i j : Nat} {s t : Str} {a b : Expr} {f g : EM} {px py pt : Pos} {kt k2 pt2} (hc : X.calm = true) (hN : X.N.Nodup) (hi : X.N[i]? = some s) (hj : X.N[j]? = some t) (hij : i ≠ j)
    (hx : X.env.scope.names.lookup s = some .local) (hy : X.env.scope.names.lookup t = some .local) (ha : EX X a f) (hb : EX X b g)
    (hsw : swappedStores [.Tuple [.Name s px, .Name t py] kt pt] (.Tuple [a, b] k2 pt2) X.env = pure (some [s, t]))
    (hs : swapsWithSole [.Tuple [.Name s px, .Name t py] kt pt] (.Tuple [a, b] k2 pt2) pos.line X.env = pure false := by rfl)
    (h1 : starEach [a, b] X.env = (false, eval a X.env) :: starEach [b] X.env := by rfl) (h2 : starEach [b] X.env = (false, eval b X.env) :: starEach [] X.env := by rfl) :
    SX X (.Assign [.Tuple [.Name s px, .Name t py] kt pt] (.Tuple [a, b] k2 pt2) pos) (mPar i j f g) := by
  refine PS.weak (ps_par hc hN hi hj hij hx hy (pa_cons ha (pa_cons hb pa_nil h2) h1) hsw hs) fun D σ H q => ?_
  obtain ⟨ps, e, F, o, fl, e', hf, q⟩ := q
  unfold mPar at hf
  split at hf
  · next d b e1 h1 =>
    split at hf
    · next d2 b2 e2 h2 =>
      split at hf
      · next hl =>
        cases hf
        refine ⟨ps, e, F, o, d, b, e1, h1, fun v H1 o1 => ⟨ps, e1, _, o1, d2, b2, e2, h2, fun w H2 o2 => ⟨v, w, rfl, q _ _ ?_⟩⟩⟩
        have o3 : Ok X.K ps H2 σ e2 (⟨v, d, b⟩ :: ⟨w, d2, b2⟩ :: F) := o2.perm (List.Perm.swap _ _ _)
        exact (o3.store hl.1).store (by rw [List.length_set]; exact hl.2)
      · cases hf
    · cases hf
  · cases hf
/-- x op= e at a name -/
def PipX (X : Cx) (op : Operator) (g : PM) : Prop := PIp X op fun x y H Q => spR X.K g [x, y] H Q
def mAug (i : Nat) (g : PM) (a : Ag) : SM := fun e => match mCall g [.var i, a] e with
  | some (d, b, e') => if i < e'.length then some (.nx, e'.set i (some ⟨d, b, false⟩)) else none
  | none => none
theorem sx_aug {i : Nat} {s : Str} {a : Ag} {g : PM} {op : Operator} {pos' : Pos} (hN : X.N.Nodup) (hi : X.N[i]? = some s) (hx : L2.Loc X.env.scope s) (he : AX X x a) (hop : PipX X op g)
    (hf : X.fn s = true ∨ X.env.scope.names.lookup s = some .local := by first | exact .inl rfl | exact .inr rfl | assumption) : SX X (.AugAssign (.Name s pos') op x pos) (mAug i g a) := by
  refine PS.weak (ps_aug hN hi hx he hop hf) fun D σ H q => ?_
  obtain ⟨ps, e, F, o, fl, e', hm, q⟩ := q
  unfold mAug at hm
  split at hm
  · next d b e2 h2 =>
    split at hm
    · next hl =>
      cases hm
      have := call_ok (Q := fun z H2 => D.nx (σ.set i (some z)) H2) h2 o fun v H' o' => q _ _ (o'.store hl)
      obtain ⟨v, hv, k⟩ := this
      exact ⟨v, hv, k⟩
    · cases hm
  · cases hm
/-- o[i] = e -/
def SetX (X : Cx) (g : PM) : Prop := PSet X fun o i v H Q => spR X.K g [v, o, i] H fun _ H' => Q H'
def mSetItem (g : PM) (v o i : Ag) : SM := mExpr (mCall g [v, o, i])
theorem sx_setItem {o i : Expr} {g : PM} {av ao ai : Ag} {pos' : Pos} (hv : AX X x av) (ho : AX X o ao) (hi : AX X i ai) (hg : SetX X g) (hs : swapsWithSole [.Subscript o i pos'] x pos.line X.env = pure false := by rfl)
    (hw : swappedStores [.Subscript o i pos'] x X.env = pure none := by rfl) (h1 : (assignEach [.Subscript o i pos'] X.env).map (·.2) = [assign (.Subscript o i pos') X.env] := by rfl)
    (ha : ∀ v, assign (.Subscript o i pos') X.env v = (do
      let ov ← holding [v] (eval o X.env)
      let iv ← holding [v, ov] (eval i X.env)
      standAt pos'
      holding [v, ov, iv] (setItem ov iv v)
      release [v, ov, iv] []) := by intro _; rfl) : SX X (.Assign [.Subscript o i pos'] x pos) (mSetItem g av ao ai) := by
  refine PS.weak (ps_asg hv (pg_sub ho hi hg ha) hs hw h1) fun D σ H q => ?_
  obtain ⟨ps, e, F, o, fl, e', hm, q⟩ := q
  unfold mSetItem mExpr at hm
  split at hm
  · next d b e2 h2 =>
    cases hm
    exact call_ok (Q := fun _ H' => D.nx σ H') h2 o fun v H' o' => q _ _ o'.drop
  · cases hm
end
/-! ### targets -/
def Eqx (σ σ' : St) (js : List Nat) : Prop := σ'.length = σ.length ∧ ∀ i, i ∉ js → σ'[i]? = σ[i]?
theorem wipe_get {σ : St} {i : Nat} : ∀ {vs : List Nat}, i ∈ vs → i < σ.length → (wipe σ vs)[i]? = some none
  | [], h, _ => nomatch h
  | v :: vs, h, hl => by
    show ((wipe σ vs).set v none)[i]? = some none
    by_cases e : v = i
    · subst e
      rw [List.getElem?_set_self (by rw [wipe_length]; exact hl)]
    · rw [List.getElem?_set_ne e]
      rcases List.mem_cons.mp h with z | z
      · exact absurd z.symm e
      · exact wipe_get z hl
theorem Eqx.wipe {σ σ' : St} {js vs : List Nat} (h : Eqx σ σ' js) (s : ∀ j ∈ js, j ∈ vs) : wipe σ' vs = wipe σ vs := by
  apply List.ext_getElem?
  intro i
  by_cases hi : i ∈ vs
  · by_cases hl : i < σ.length
    · rw [wipe_get hi hl, wipe_get hi (by rw [h.1]; exact hl)]
    · rw [List.getElem?_eq_none (by rw [wipe_length, h.1]; omega), List.getElem?_eq_none (by rw [wipe_length]; omega)]
  · rw [wipe_out hi, wipe_out hi]
    exact h.2 i fun z => hi (s i z)
theorem Eqx.refl {σ : St} {js : List Nat} : Eqx σ σ js := ⟨rfl, fun _ _ => rfl⟩
theorem Eqx.trans {σ σ1 σ2 : St} {js ks : List Nat} (h : Eqx σ σ1 js) (k : Eqx σ1 σ2 ks) : Eqx σ σ2 (js ++ ks) :=
  ⟨k.1.trans h.1, fun i hi => (k.2 i fun z => hi (List.mem_append_right _ z)).trans (h.2 i fun z => hi (List.mem_append_left _ z))⟩
abbrev GM := D → Bool → En → Option En
def semG (K : PySem.W.Frag) (js : List Nat) (g : GM) : TG := fun v σ H Q => ∃ ps e F d b, Ok K ps H σ e (⟨v, d, b⟩ :: F) ∧ ∃ e', g d b e = some e' ∧ ∀ σ' H', Eqx σ σ' js → Ok K ps H' σ' e' F → Q σ' H'
def GX (X : Cx) (tg : Expr) (js : List Nat) (g : GM) : Prop := PG X tg (semG X.K js g)
abbrev GMs := List DB → En → Option En
def semGs (K : PySem.W.Frag) (js : List Nat) (g : GMs) : TGs := fun vs σ H Q => ∃ ps e F ws, Ok K ps H σ e (cells vs ws ++ F) ∧ vs.length = ws.length ∧ ∃ e', g ws e = some e' ∧ ∀ σ' H', Eqx σ σ' js → Ok K ps H' σ' e' F → Q σ' H'
def GsX (X : Cx) (tg : List Expr) (js : List Nat) (g : GMs) : Prop := PGs X tg (semGs X.K js g)
theorem PGs.weak {X : Cx} {x : List Expr} {t t' : TGs} (h : PGs X x t) (w : ∀ v σ H Q, t' v σ H Q → t v σ H Q) : PGs X x t' := ⟨fun pins s σ H v u Q I r q => h.run pins s σ H v u Q I r (w v σ H Q q)⟩
section
variable {X : Cx} {x y : Expr} {pos : Pos}
def mGName (i : Nat) : GM := fun d b e => if i < e.length then some (e.set i (some ⟨d, b, false⟩)) else none
theorem gx_name {i : Nat} {s : Str} (hN : X.N.Nodup) (hi : X.N[i]? = some s) (hx : L2.Loc X.env.scope s) (hf : X.fn s = true ∨ X.env.scope.names.lookup s = some .local := by first | exact .inl rfl | exact .inr rfl | assumption) : GX X (.Name s pos) [i] (mGName i) := by
  refine PG.weak (pg_name hN hi hx hf) fun v σ H Q q => ?_
  obtain ⟨ps, e, F, d, b, o, e', hg, q⟩ := q
  unfold mGName at hg
  split at hg
  · next hl =>
    cases hg
    refine q _ _ ⟨List.length_set, fun j hj => ?_⟩ (o.store hl)
    rw [List.getElem?_set_ne]
    intro z
    exact hj (by rw [z]; exact List.mem_singleton_self _)
  · cases hg
def mGNil : GMs := fun ws e => match ws with
  | [] => some e
  | _ => none
def mGCons (g : GM) (gs : GMs) : GMs := fun ws e => match ws with
  | (d, b) :: r => match g d b e with
    | some e1 => gs r e1
    | none => none
  | [] => none
theorem gsx_nil : GsX X [] [] mGNil := by
  refine PGs.weak pgs_nil fun vs σ H Q q => ?_
  obtain ⟨ps, e, F, ws, o, hl, e', hg, q⟩ := q
  cases ws with
  | nil =>
    cases hg
    cases vs with
    | nil => exact ⟨rfl, q σ H .refl o⟩
    | cons _ _ => cases hl
  | cons _ _ => cases hg
theorem gsx_cons {es : List Expr} {js ks : List Nat} {g : GM} {gs : GMs} (h : GX X x js g) (hr : GsX X es ks gs) (hs : (assignEach (x :: es) X.env).map (·.2) = assign x X.env :: (assignEach es X.env).map (·.2) := by rfl) : GsX X (x :: es) (js ++ ks) (mGCons g gs) := by
  refine PGs.weak (pgs_cons h hr hs) fun vs σ H Q q => ?_
  obtain ⟨ps, e, F, ws, o, hl, e', hg, q⟩ := q
  cases ws with
  | nil => cases hg
  | cons w ws =>
    obtain ⟨d, b⟩ := w
    cases vs with
    | nil => cases hl
    | cons v vs =>
      have hg' : (match g d b e with | some e1 => gs ws e1 | none => none) = some e' := hg
      split at hg'
      · next e1 h1 =>
        exact ⟨v, vs, rfl, ps, e, cells vs ws ++ F, d, b, o, e1, h1, fun σ1 H1 k1 o1 => ⟨ps, e1, F, ws, o1, Nat.succ.inj hl, e', hg', fun σ2 H2 k2 o2 => q σ2 H2 (k1.trans k2) o2⟩⟩
      · cases hg'
/-- a tuple's parts -/
theorem Good.split {K : PySem.W.Frag} {H : Hp} {a : Addr} {ds : List D} {b : Bool} {its : List Cell} (g : Good K H (⟨.ref a, .tup ds, b⟩ :: its)) : ∃ vs, SqT K H a vs ∧ vs.length = ds.length ∧ Good K H (cells vs (ds.map fun d => (d, b)) ++ its) := by
  obtain ⟨O, S, l, ap⟩ := g
  cases l with
  | own r l =>
    cases r with
    | tup q rs => exact ⟨_, q, rs.length, _, _, Lay.unreps rs l, ap⟩
  | shr r l =>
    cases r with
    | tup q rs => exact ⟨_, q, rs.length, _, _, Lay.unrepsS rs l, ap⟩
def mGTup (n : Nat) (gs : GMs) : GM := fun d b e => match d with
  | .tup ds => if ds.length = n then gs (ds.map fun d => (d, d.imm || b)) e else none
  | _ => none
theorem Good.flagAll {K : PySem.W.Frag} {H : Hp} : ∀ {vs : List V} {ds : List D} {b : Bool} {its : List Cell}, Good K H (cells vs (ds.map fun d => (d, b)) ++ its) → Good K H (cells vs (ds.map fun d => (d, d.imm || b)) ++ its)
  | [], _, _, _, g => by
    have : ∀ ws : List DB, cells [] ws = [] := fun ws => by cases ws <;> rfl
    rw [this] at g ⊢
    exact g
  | _ :: _, [], _, _, g => g
  | v :: vs, d :: ds, b, its, g => by
    have g1 : Good K H (⟨v, d, d.imm || b⟩ :: (cells vs (ds.map fun d => (d, b)) ++ its)) := by
      cases im : d.imm with
      | true => exact Good.flag g im
      | false => exact g
    have g2 : Good K H (cells vs (ds.map fun d => (d, b)) ++ ⟨v, d, d.imm || b⟩ :: its) := g1.perm List.perm_middle.symm
    exact (Good.flagAll g2).perm List.perm_middle
theorem gx_tup {es : List Expr} {k : Nat} {js : List Nat} {gs : GMs} {n : Nat} (hc : X.calm = true) (h : GsX X es js gs)
    (hn : (assignEach es X.env).length = n := by rfl) (hst : (assignEach es X.env).findIdx? (·.1) = none := by rfl) : GX X (.Tuple es k pos) js (mGTup n gs) := by
  refine PG.weak (pg_tup hc h hn hst) fun v σ H Q q => ?_
  obtain ⟨ps, e, F, d, b, o, e', hg, q⟩ := q
  unfold mGTup at hg
  split at hg
  · next ds =>
    split at hg
    · next hl =>
      obtain ⟨its, z, g⟩ := o
      have g1 : Good X.K H (⟨v, .tup ds, b⟩ :: (its ++ F)) := g.perm List.perm_middle
      obtain ⟨A, r⟩ := g1.rep
      obtain ⟨a, rfl⟩ : ∃ a, v = .ref a := by cases r; exact ⟨_, rfl⟩
      obtain ⟨vs, hq, hlen, g2⟩ := g1.split
      have g3 := g2.flagAll
      refine ⟨a, vs, rfl, hq, hlen.trans hl, ps, e, F, _, ⟨its, z, ?_⟩, by rw [List.length_map]; exact hlen, e', hg, q⟩
      refine g3.perm ?_
      rw [← List.append_assoc, ← List.append_assoc]
      exact List.perm_append_comm.append_right _
    · cases hg
  · cases hg
def mAsg (f : EM) (g : GM) : SM := fun e => match f e with
  | some (d, b, e') => match g d b e' with
    | some e2 => some (.nx, e2)
    | none => none
  | none => none
theorem sx_asg {tg : Expr} {js : List Nat} {f : EM} {g : GM} (he : EX X x f) (hg : GX X tg js g) (hs : swapsWithSole [tg] x pos.line X.env = pure false := by rfl) (hw : swappedStores [tg] x X.env = pure none := by rfl)
    (h1 : (assignEach [tg] X.env).map (·.2) = [assign tg X.env] := by rfl) : SX X (.Assign [tg] x pos) (mAsg f g) := by
  refine PS.weak (ps_asg he hg hs hw h1) fun D σ H q => ?_
  obtain ⟨ps, e, F, o, fl, e', hm, q⟩ := q
  unfold mAsg at hm
  split at hm
  · next d b e1 h1 =>
    split at hm
    · next e2 h2 =>
      cases hm
      exact ⟨ps, e, F, o, d, b, e1, h1, fun v H' o' => ⟨ps, e1, F, d, b, o', _, h2, fun σ' H2 _ o2 => q σ' H2 o2⟩⟩
    · cases hm
  · cases hm
end
/-! ### what a loop walks -/
def Wk (K : PySem.W.Frag) (J : It) (T : List Cell) (ds : List D) (fl : Bool) : Prop := ∀ (i : Nat) (H : Hp) (G : List Cell), Good K H (T ++ G) →
  (ds.length ≤ i → J.stop i H) ∧ ∀ d, ds[i]? = some d → J.go i H ∧ ∀ x H', J.yld i H x H' → Good K H' (⟨x, d, fl⟩ :: (T ++ G))
abbrev IM := En → Option (List D × Bool × En)
def semI (K : PySem.W.Frag) (f : IM) : TI := fun σ H R => ∃ ps e F, Ok K ps H σ e F ∧ ∃ ds fl e', f e = some (ds, fl, e') ∧ ∀ J T H', Wk K J T ds fl → Ok K ps H' σ e' (T ++ F) → R J H'
def IX (X : Cx) (tg x : Expr) (f : IM) : Prop := PI X tg x (semI X.K f)
theorem Reps.at {K : PySem.W.Frag} {H : Hp} {m : Bool} : ∀ {vs : List V} {ds : List D} {A : List Addr} {i : Nat} {d : D}, Reps K H m vs ds A → ds[i]? = some d → ∃ v B, vs[i]? = some v ∧ Rep K H m v d B ∧ ∀ a ∈ B, a ∈ A
  | _, _, _, i, d, .nil, h => by simp at h
  | _, _, _, 0, d, .cons (d := d0) (A := A) r rs, h => by
    have e : d0 = d := by simpa using h
    subst e
    exact ⟨_, _, rfl, r, fun a ha => List.mem_append_left _ ha⟩
  | _, _, _, i + 1, d, .cons r rs, h => by
    obtain ⟨v, B, h1, h2, h3⟩ := rs.at (i := i) (d := d) (by simpa using h)
    exact ⟨v, B, by simpa using h1, h2, fun a ha => List.mem_append_right _ (h3 a ha)⟩
/-- a part of what is shared -/
theorem Good.part {K : PySem.W.Frag} {H : Hp} {v w : V} {d e : D} {A B : List Addr} {its : List Cell} (g : Good K H (⟨v, d, false⟩ :: its)) (h : ∀ A, Rep K H false v d A → ∃ B, Rep K H false w e B ∧ ∀ a ∈ B, a ∈ A) : Good K H (⟨w, e, false⟩ :: ⟨v, d, false⟩ :: its) := by
  obtain ⟨O, S, l, ap⟩ := id g
  cases l with
  | shr r l =>
    obtain ⟨B, r2, sub⟩ := h _ r
    refine ⟨_, _, .shr r2 (.shr r l), ap.1, fun x hx hs => ?_⟩
    rcases List.mem_append.mp hs with z | z
    · exact ap.2 x hx (List.mem_append_left _ (sub x z))
    · exact ap.2 x hx z
theorem Good.flag? {K : PySem.W.Frag} {H : Hp} {v : V} {d : D} {fl : Bool} {its : List Cell} (g : Good K H (⟨v, d, false⟩ :: its)) (h : fl = true → d.imm = true) : Good K H (⟨v, d, fl⟩ :: its) := by
  cases fl with
  | false => exact g
  | true => exact g.flag (h rfl)
theorem imms_at {l : List D} {i : Nat} {d : D} (h : D.imms l = true) (e : l[i]? = some d) : d.imm = true := by
  rw [D.imms_all] at h
  exact List.all_eq_true.mp h d (List.mem_of_getElem? e)
def mIter (f : EM) : IM := fun e => match f e with
  | some (.lst l, _, e') => some (l, D.imms l, e')
  | some (.tup l, _, e') => some (l, D.imms l, e')
  | some (.fro l, _, e') => some (l, D.imms l, e')
  | _ => none
theorem wk_list {K : PySem.W.Frag} {a : Addr} {l : List D} : Wk K (Itl K a) [⟨.ref a, .lst l, false⟩] l (D.imms l) := by
  intro i H G g
  have g1 : Good K H (⟨.ref a, .lst l, false⟩ :: G) := g
  obtain ⟨A, r⟩ := g1.rep
  cases r with
  | lst q e rs =>
    have hl := rs.length
    refine ⟨fun hi => ⟨_, .inl q, by omega⟩, fun d hd => ?_⟩
    obtain ⟨v, B, h1, h2, h3⟩ := rs.at hd
    refine ⟨⟨_, v, .inl q, h1⟩, fun x H' y => ?_⟩
    obtain ⟨eH, y⟩ := y
    subst eH
    have ex : x = v := by
      have := y _ (.inl q)
      rw [h1] at this
      exact (Option.some.inj this).symm
    subst ex
    have g2 : Good K H' (⟨x, d, false⟩ :: ⟨.ref a, .lst l, false⟩ :: G) := g1.part (A := []) (B := []) fun A2 r2 => by
      cases r2 with
      | lst q2 e2 rs2 =>
        obtain ⟨v2, B2, k1, k2, k3⟩ := rs2.at hd
        have ev : x = v2 := by
          have := y _ (.inl q2)
          rw [k1] at this
          exact (Option.some.inj this).symm
        subst ev
        exact ⟨B2, k2, fun z hz => List.mem_cons_of_mem _ (k3 z hz)⟩
    exact g2.flag? fun z => imms_at z hd
theorem wk_tup {K : PySem.W.Frag} {a : Addr} {l : List D} : Wk K (Itt K a) [⟨.ref a, .tup l, false⟩] l (D.imms l) := by
  intro i H G g
  have g1 : Good K H (⟨.ref a, .tup l, false⟩ :: G) := g
  obtain ⟨A, r⟩ := g1.rep
  cases r with
  | tup q rs =>
    have hl := rs.length
    refine ⟨fun hi => ⟨_, q, by omega⟩, fun d hd => ?_⟩
    obtain ⟨v, B, h1, h2, h3⟩ := rs.at hd
    refine ⟨⟨_, v, q, h1⟩, fun x H' y => ?_⟩
    obtain ⟨eH, y⟩ := y
    subst eH
    have ex : x = v := by
      have := y _ q
      rw [h1] at this
      exact (Option.some.inj this).symm
    subst ex
    have g2 : Good K H' (⟨x, d, false⟩ :: ⟨.ref a, .tup l, false⟩ :: G) := g1.part (A := []) (B := []) fun A2 r2 => by
      cases r2 with
      | tup q2 rs2 =>
        obtain ⟨v2, B2, k1, k2, k3⟩ := rs2.at hd
        have ev : x = v2 := by
          have := y _ q2
          rw [k1] at this
          exact (Option.some.inj this).symm
        subst ev
        exact ⟨B2, k2, k3⟩
    exact g2.flag? fun z => imms_at z hd
theorem wk_fro {K : PySem.W.Frag} {a : Addr} {l : List D} : Wk K (Itl K a) [⟨.ref a, .fro l, false⟩] l (D.imms l) := by
  intro i H G g
  have g1 : Good K H (⟨.ref a, .fro l, false⟩ :: G) := g
  obtain ⟨A, r⟩ := g1.rep
  cases r with
  | fro q rs =>
    have hl := rs.length
    refine ⟨fun hi => ⟨_, q.sq, by omega⟩, fun d hd => ?_⟩
    obtain ⟨v, B, h1, h2, h3⟩ := rs.at hd
    refine ⟨⟨_, v, q.sq, h1⟩, fun x H' y => ?_⟩
    obtain ⟨eH, y⟩ := y
    subst eH
    have ex : x = v := by
      have := y _ q.sq
      rw [h1] at this
      exact (Option.some.inj this).symm
    subst ex
    have g2 : Good K H' (⟨x, d, false⟩ :: ⟨.ref a, .fro l, false⟩ :: G) := g1.part (A := []) (B := []) fun A2 r2 => by
      cases r2 with
      | fro q2 rs2 =>
        obtain ⟨v2, B2, k1, k2, k3⟩ := rs2.at hd
        have ev : x = v2 := by
          have := y _ q2.sq
          rw [k1] at this
          exact (Option.some.inj this).symm
        subst ev
        exact ⟨B2, k2, k3⟩
    exact g2.flag? fun z => imms_at z hd
section
variable {X : Cx} {x y tg : Expr} {pos : Pos}
theorem ix_seq {f : EM} (h : EX X x f) : IX X tg x (mIter f) := by
  refine ⟨fun pins s σ H R I q => ?_⟩
  obtain ⟨ps, e, F, o, ds, fl, e', hf, q⟩ := q
  unfold mIter at hf
  split at hf
  · next l b e2 h2 =>
    cases hf
    refine (pi_list h).run pins s σ H R I ⟨ps, e, F, o, _, b, _, h2, fun v H' o' => ?_⟩
    obtain ⟨A, r⟩ := o'.good.rep
    obtain ⟨a, rfl, hq⟩ : ∃ a, v = .ref a ∧ ∃ xs, SqL X.K H' a xs := by cases r with | lst q _ _ => exact ⟨_, rfl, _, .inl q⟩
    exact ⟨a, rfl, hq, q _ _ _ wk_list (o'.lift fun its g => g.share)⟩
  · next l b e2 h2 =>
    cases hf
    refine (pi_tup h).run pins s σ H R I ⟨ps, e, F, o, _, b, _, h2, fun v H' o' => ?_⟩
    obtain ⟨A, r⟩ := o'.good.rep
    obtain ⟨a, rfl, hq⟩ : ∃ a, v = .ref a ∧ ∃ xs, SqT X.K H' a xs := by cases r with | tup q _ => exact ⟨_, rfl, _, q⟩
    exact ⟨a, rfl, hq, q _ _ _ wk_tup (o'.lift fun its g => g.share)⟩
  · next l b e2 h2 =>
    cases hf
    refine (pi_list h).run pins s σ H R I ⟨ps, e, F, o, _, b, _, h2, fun v H' o' => ?_⟩
    obtain ⟨A, r⟩ := o'.good.rep
    obtain ⟨a, rfl, hq⟩ : ∃ a, v = .ref a ∧ ∃ xs, SqL X.K H' a xs := by cases r with | fro q _ => exact ⟨_, rfl, _, q.sq⟩
    exact ⟨a, rfl, hq, q _ _ _ wk_fro (o'.lift fun its g => g.share)⟩
  · cases hf
/-! ### ranges -/
def intsD (lo c : Int) (n : Nat) : List D := (List.range n).map fun i => .int (lo + (i : Nat) * c)
theorem ints_len (lo c : Int) (n : Nat) : (intsD lo c n).length = n := by unfold intsD; rw [List.length_map, List.length_range]
theorem ints_at {lo c : Int} {n i : Nat} {d : D} (h : (intsD lo c n)[i]? = some d) : i < n ∧ d = .int (lo + (i : Nat) * c) := by
  unfold intsD at h
  rw [List.getElem?_map] at h
  by_cases hi : i < n
  · rw [List.getElem?_range hi] at h
    exact ⟨hi, (Option.some.inj h).symm⟩
  · rw [List.getElem?_eq_none (by rw [List.length_range]; omega)] at h
    cases h
theorem wk_range {K : PySem.W.Frag} {lo : Int} {n : Nat} : Wk K (Itr lo n) [] (intsD lo 1 n) true := by
  intro i H G g
  rw [ints_len]
  refine ⟨fun hi => hi, fun d hd => ?_⟩
  obtain ⟨hi, rfl⟩ := ints_at hd
  refine ⟨hi, fun x H' y => ?_⟩
  obtain ⟨rfl, rfl⟩ := y
  rw [Int.mul_one]
  exact g.flatNew (.int _)
theorem wk_rangeC {K : PySem.W.Frag} {lo c : Int} {n : Nat} : Wk K (Itc lo c n) [] (intsD lo c n) true := by
  intro i H G g
  rw [ints_len]
  refine ⟨fun hi => hi, fun d hd => ?_⟩
  obtain ⟨hi, rfl⟩ := ints_at hd
  refine ⟨hi, fun x H' y => ?_⟩
  obtain ⟨rfl, rfl⟩ := y
  exact g.flatNew (.int _)
/-- the arguments of what is walked, as values -/
def mArgV : List Ag → En → Option (List DB × En) := fun as e => match mArgs as e with
  | some (rs, e1) => if rs.all (fun r => match r with | .val _ _ => true | _ => false) then take rs e1 else none
  | none => none
theorem rep_int {K : PySem.W.Frag} {H : Hp} {m : Bool} {i : Int} {v : V} {A : List Addr} (r : Rep K H m v (.int i) A) : v = .int i := by cases r; rfl
def two62 : Int := 4611686018427387904
theorem two62_eq : two62 = 2 ^ 62 := by decide
def mRange1 (f : EM) : IM := fun e => match f e with
  | some (.int j, _, e') => if -two62 ≤ j ∧ j < two62 then some (intsD 0 1 j.toNat, true, e') else none
  | _ => none
theorem ix_range1 {f : EM} {p : Pos} (hg : Gl X "range") (hm : X.mg "range" = none) (h : EX X x f) (na : starEach [x] X.env = (false, eval x X.env) :: starEach [] X.env := by rfl) :
    IX X tg (.Call (.Name "range" p) [x] [] pos) (mRange1 f) := by
  refine PI.weak (pi_range1 hg hm (pa_cons h pa_nil na) na) fun σ H R q => ?_
  obtain ⟨ps, e, F, o, ds, fl, e', hf, q⟩ := q
  unfold mRange1 at hf
  split at hf
  · next j b e2 h2 =>
    split at hf
    · next hb =>
      cases hf
      rw [two62_eq] at hb
      refine ⟨ps, e, F, o, _, b, _, h2, fun v H' o' => ?_⟩
      obtain ⟨A, r⟩ := o'.good.rep
      cases rep_int r
      exact ⟨j, rfl, hb.1, hb.2, q _ [] _ wk_range o'.drop⟩
    · cases hf
  · cases hf
def mRange2 (f g : EM) : IM := fun e => match f e with
  | some (.int i, _, e1) => match g e1 with
    | some (.int j, _, e') => if (-two62 ≤ i ∧ i < two62) ∧ (-two62 ≤ j ∧ j < two62) then some (intsD i 1 (j - i).toNat, true, e') else none
    | _ => none
  | _ => none
theorem ix_range2 {f g : EM} {p : Pos} (hg : Gl X "range") (hm : X.mg "range" = none) (h : EX X x f) (h2 : EX X y g) (na : starEach [x, y] X.env = (false, eval x X.env) :: starEach [y] X.env := by rfl) (nb : starEach [y] X.env = (false, eval y X.env) :: starEach [] X.env := by rfl) :
    IX X tg (.Call (.Name "range" p) [x, y] [] pos) (mRange2 f g) := by
  refine PI.weak (pi_range2 hg hm (pa_cons h (pa_cons h2 pa_nil nb) na) (by rw [na, nb] <;> rfl) nb) fun σ H R q => ?_
  obtain ⟨ps, e, F, o, ds, fl, e', hf, q⟩ := q
  unfold mRange2 at hf
  split at hf
  · next i b e1 h1 =>
    split at hf
    · next j b2 e2 h2 =>
      split at hf
      · next hb =>
        cases hf
        rw [two62_eq] at hb
        refine ⟨ps, e, F, o, _, b, _, h1, fun v H' o' => ⟨ps, _, _, o', _, b2, _, h2, fun w H2 o2 => ?_⟩⟩
        obtain ⟨A, r⟩ := o2.good.rep
        cases rep_int r
        obtain ⟨A, r⟩ := o2.good.tail.rep
        cases rep_int r
        exact ⟨i, j, rfl, ⟨hb.1.1, hb.1.2, hb.2.1, hb.2.2⟩, q _ [] _ wk_range o2.drop.drop⟩
      · cases hf
    · cases hf
  · cases hf
end
/-! ### for, while -/
def loopM (g : GM) (fl : Bool) (body : SM) : List D → SM
  | [], e => some (.nx, e)
  | d :: ds, e => match g d fl e with
    | none => none
    | some e1 => match body e1 with
      | some (.nx, e2) => loopM g fl body ds e2
      | some (.ct, e2) => loopM g fl body ds e2
      | some (.bk, e2) => some (.nx, e2)
      | some (.rt d b, e2) => some (.rt d b, e2)
      | none => none
def mFor (it : IM) (g : GM) (body : SM) : SM := fun e => match it e with
  | some (ds, fl, e') => loopM g fl body ds e'
  | none => none
def whileM (t : TM) (body : SM) : Nat → SM
  | 0, _ => none
  | n + 1, e => match t e with
    | some (false, e1) => some (.nx, e1)
    | some (true, e1) => match body e1 with
      | some (.nx, e2) => whileM t body n e2
      | some (.ct, e2) => whileM t body n e2
      | some (.bk, e2) => some (.nx, e2)
      | some (.rt d b, e2) => some (.rt d b, e2)
      | none => none
    | none => none
theorem loopM_ends {g : GM} {fl : Bool} {body : SM} : ∀ {ds : List D} {e e' : En} {r : Fl}, loopM g fl body ds e = some (r, e') → r = .nx ∨ ∃ d b, r = .rt d b
  | [], _, _, _, h => by cases h; exact .inl rfl
  | d :: ds, e, e', r, h => by
    unfold loopM at h
    split at h
    · cases h
    · split at h
      · exact loopM_ends h
      · exact loopM_ends h
      · cases h; exact .inl rfl
      · cases h; exact .inr ⟨_, _, rfl⟩
      · cases h
theorem whileM_ends {t : TM} {body : SM} : ∀ {n : Nat} {e e' : En} {r : Fl}, whileM t body n e = some (r, e') → r = .nx ∨ ∃ d b, r = .rt d b
  | 0, _, _, _, h => by cases h
  | n + 1, e, e', r, h => by
    unfold whileM at h
    split at h
    · cases h; exact .inl rfl
    · split at h
      · exact whileM_ends h
      · exact whileM_ends h
      · cases h; exact .inl rfl
      · cases h; exact .inr ⟨_, _, rfl⟩
      · cases h
    · cases h
section
variable {X : Cx} {tg iter : Expr} {pos : Pos} {body : List Stmt}
theorem sx_for {it : IM} {g : GM} {js : List Nat} {f : SM} (hp : PassesOwn (model X.prog X.w) X.A X.env X.xe) (hc : X.calm = true) (hi : IX X tg iter it) (hg : GX X tg js g) (hb : BX X body f)
    (hs : ∀ x, foldedSetIterable iter X.env x = pure x := by intro _; rfl) : SX X (.For tg iter body [] pos) (mFor it g f) := by
  refine PS.weak (ps_for hp hc hi hg hb hs) fun D σ H q => ?_
  obtain ⟨ps, e, F, o, r, e', hm, q⟩ := q
  unfold mFor at hm
  split at hm
  · next ds fl e1 h1 =>
    refine ⟨ps, e, F, o, ds, fl, e1, h1, fun J T H1 wk o1 => ?_⟩
    refine ⟨fun i m σ H => m = ds.length - i ∧ i ≤ ds.length ∧ ∃ e2, Ok X.K ps H σ e2 (T ++ F) ∧ loopM g fl f (ds.drop i) e2 = some (r, e'), ⟨ds.length, by simp, Nat.zero_le _, e1, o1, hm⟩, ?_⟩
    rintro i m σ2 H2 ⟨rfl, hi, e2, o2, h2⟩
    obtain ⟨its, z, gd⟩ := o2
    have gd1 : Good X.K H2 (T ++ (F ++ its)) := gd.perm (by
      rw [← List.append_assoc T F its]
      exact List.perm_append_comm)
    obtain ⟨stop, go⟩ := wk i H2 _ gd1
    by_cases hlt : i < ds.length
    · refine .inr ?_
      have hd : ds[i]? = some ds[i] := List.getElem?_eq_getElem hlt
      obtain ⟨hgo, hy⟩ := go _ hd
      refine ⟨hgo, fun σ' H' => ∃ e3, Ok X.K ps H' σ' e3 (T ++ F) ∧ loopM g fl f (ds.drop (i + 1)) e3 = some (r, e'), fun σ' H' ⟨e3, o3, h3⟩ => ⟨ds.length - (i + 1), by omega, rfl, hlt, e3, o3, h3⟩, fun x H' y => ?_⟩
      have g2 := hy x H' y
      have o3 : Ok X.K ps H' σ2 e2 (⟨x, ds[i], fl⟩ :: (T ++ F)) := ⟨its, z, g2.perm (by
        have p1 : (⟨x, ds[i], fl⟩ :: (T ++ (F ++ its)) : List Cell).Perm (⟨x, ds[i], fl⟩ :: (its ++ (T ++ F))) := List.Perm.cons _ (by
          rw [← List.append_assoc]
          exact List.perm_append_comm)
        exact p1.trans List.perm_middle.symm)⟩
      rw [List.drop_eq_getElem_cons hlt] at h2
      unfold loopM at h2
      split at h2
      · cases h2
      · next e3 h3 =>
        refine ⟨ps, e2, T ++ F, _, fl, o3, e3, h3, fun σ3 H3 _ o4 => ?_⟩
        split at h2
        · next e4 h4 => exact ⟨ps, e3, T ++ F, o4, .nx, e4, h4, fun σ5 H5 o5 => ⟨e4, o5, h2⟩⟩
        · next e4 h4 => exact ⟨ps, e3, T ++ F, o4, .ct, e4, h4, fun σ5 H5 o5 => ⟨e4, o5, h2⟩⟩
        · next e4 h4 =>
          cases h2
          exact ⟨ps, e3, T ++ F, o4, .bk, _, h4, fun σ5 H5 o5 => q _ _ o5.dropAll⟩
        · next d b e4 h4 =>
          cases h2
          refine ⟨ps, e3, T ++ F, o4, .rt d b, _, h4, fun σ5 v H5 o5 => q σ5 v H5 ?_⟩
          have o6 : Ok X.K ps H5 σ5 e' (T ++ ⟨v, d, b⟩ :: F) := o5.perm List.perm_middle.symm
          exact o6.dropAll
        · cases h2
    · have ei : i = ds.length := by omega
      subst ei
      rw [List.drop_length] at h2
      cases h2
      refine .inl ⟨stop (Nat.le_refl _), q _ _ ?_⟩
      have o3 : Ok X.K ps H2 σ2 e' (T ++ F) := ⟨its, z, gd⟩
      exact o3.dropAll
  · cases hm
theorem sx_while {c : Expr} {t : TM} {f : SM} (n : Nat) (hp : PassesOwn (model X.prog X.w) X.A X.env X.xe) (hc : TX X c t) (hb : BX X body f) : SX X (.While c body [] pos) (whileM t f n) := by
  refine PS.weak (ps_while hp hc hb) fun D σ H q => ?_
  obtain ⟨ps, e, F, o, r, e', hm, q⟩ := q
  refine ⟨fun m σ H => ∃ e2, Ok X.K ps H σ e2 F ∧ whileM t f m e2 = some (r, e'), ⟨n, e, o, hm⟩, ?_⟩
  rintro m σ2 H2 ⟨e2, o2, h2⟩
  cases m with
  | zero => cases h2
  | succ m =>
    unfold whileM at h2
    split at h2
    · next e3 h3 =>
      cases h2
      refine ⟨ps, e2, F, o2, false, _, h3, fun H3 o3 => ?_⟩
      refine iteF ?_
      exact q _ _ o3
    · next e3 h3 =>
      refine ⟨ps, e2, F, o2, true, e3, h3, fun H3 o3 => ?_⟩
      refine iteT ?_
      refine ⟨fun σ' H' => ∃ e3, Ok X.K ps H' σ' e3 F ∧ whileM t f m e3 = some (r, e'), fun σ' H' ⟨e4, o4, h4⟩ => ⟨m, Nat.lt_succ_self _, e4, o4, h4⟩, ?_⟩
      split at h2
      · next e4 h4 => exact ⟨ps, e3, F, o3, .nx, e4, h4, fun σ5 H5 o5 => ⟨e4, o5, h2⟩⟩
      · next e4 h4 => exact ⟨ps, e3, F, o3, .ct, e4, h4, fun σ5 H5 o5 => ⟨e4, o5, h2⟩⟩
      · next e4 h4 =>
        cases h2
        exact ⟨ps, e3, F, o3, .bk, _, h4, fun σ5 H5 o5 => q _ _ o5⟩
      · next d b e4 h4 =>
        cases h2
        exact ⟨ps, e3, F, o3, .rt d b, _, h4, fun σ5 v H5 o5 => q σ5 v H5 o5⟩
      · cases h2
    · cases h2
end
/-! ### a def -/
def startE (n : Nat) (ws : List DB) : En := (ws.map fun w => some ⟨w.1, w.2, !w.1.imm⟩) ++ List.replicate (n - ws.length) none
def finals (e : En) : Nat → List DB → List (Option DB)
  | _, [] => []
  | i, (d, b) :: ws => (if d.imm then some (d, b) else match e[i]? with
    | some (some sl) => if sl.pin then some (sl.d, sl.own) else none
    | _ => none) :: finals e (i + 1) ws
/-- what a def of n slots makes of its arguments -/
def mkF (n : Nat) (body : SM) : PM := fun ws => match body (startE n ws) with
  | some (.rt d b, e) => some (d, b, finals e 0 ws)
  | some (.nx, e) => some (.non, true, finals e 0 ws)
  | _ => none
theorem finals_len {e : En} : ∀ {ws : List DB} {i : Nat}, (finals e i ws).length = ws.length
  | [], _ => rfl
  | (d, b) :: ws, i => by
    show (finals e (i + 1) ws).length + 1 = ws.length + 1
    rw [finals_len]
theorem zp_none {ps : List V} : ∀ {i n : Nat}, Zp ps i (List.replicate n none) (List.replicate n none) []
  | _, 0 => .z0
  | i, n + 1 => by
    rw [List.replicate_succ]
    exact .zn zp_none
theorem zp_start {ps : List V} {n : Nat} : ∀ {vs : List V} {ws : List DB} {i : Nat}, vs.length = ws.length → (∀ j v, vs[j]? = some v → ps[i + j]? = some v) →
    Zp ps i (vs.map some ++ List.replicate n none) ((ws.map fun w => some ⟨w.1, w.2, !w.1.imm⟩) ++ List.replicate n none) (cells vs ws)
  | [], [], _, _, _ => zp_none
  | [], _ :: _, _, h, _ => nomatch h
  | _ :: _, [], _, h, _ => nomatch h
  | v :: vs, (d, b) :: ws, i, h, hp => by
    refine .zs (sl := ⟨d, b, !d.imm⟩) (fun _ => by have := hp 0 v rfl; rwa [Nat.add_zero] at this) (zp_start (Nat.succ.inj h) fun j u hu => ?_)
    have := hp (j + 1) u (by simpa using hu)
    rwa [show i + (j + 1) = i + 1 + j by omega] at this
/-- the arguments that cannot change -/
def immCells : List V → List DB → List Cell
  | v :: vs, (d, b) :: ws => if d.imm then ⟨v, d, b⟩ :: immCells vs ws else immCells vs ws
  | _, _ => []
theorem Good.withImm {K : PySem.W.Frag} {H : Hp} : ∀ {vs : List V} {ws : List DB} {its : List Cell}, Good K H (cells vs ws ++ its) → Good K H (cells vs ws ++ (immCells vs ws ++ its))
  | [], [], _, g => g
  | [], _ :: _, _, g => g
  | _ :: _, [], _, g => g
  | v :: vs, (d, b) :: ws, its, g => by
    have g1 : Good K H (cells vs ws ++ ⟨v, d, b⟩ :: its) := g.perm List.perm_middle.symm
    have g2 := Good.withImm g1
    have g3 : Good K H (⟨v, d, b⟩ :: (cells vs ws ++ (immCells vs ws ++ its))) := g2.perm (by
      rw [← List.append_assoc, ← List.append_assoc]
      exact List.perm_middle)
    show Good K H (⟨v, d, b⟩ :: (cells vs ws ++ ((if d.imm then ⟨v, d, b⟩ :: immCells vs ws else immCells vs ws) ++ its)))
    by_cases im : d.imm = true
    · rw [if_pos im]
      have g4 := g3.dup (b' := b) im
      refine g4.perm (List.Perm.cons _ ?_)
      exact List.perm_middle.symm
    · rw [if_neg im]
      exact g3
theorem finals_ok {K : PySem.W.Frag} {ps : List V} {H : Hp} {σ : St} : ∀ {vs : List V} {ws : List DB} {i : Nat} {e0 e : En} {G : List Cell}, vs.length = ws.length → (∀ j v, vs[j]? = some v → ps[i + j]? = some v) →
    (∀ j, i ≤ j → e[j]? = e0[j]?) → Ok K ps H σ e (immCells vs ws ++ G) → Ok K ps H σ (List.replicate 0 none ++ e) G → Good K H (cellsO vs (finals e0 i ws) ++ G)
  | [], [], _, _, _, G, _, _, _, o, _ => o.good
  | [], _ :: _, _, _, _, _, h, _, _, _, _ => nomatch h
  | _ :: _, [], _, _, _, _, h, _, _, _, _ => nomatch h
  | v :: vs, (d, b) :: ws, i, e0, e, G, h, hp, he, o, o' => by
    have hp2 : ∀ j u, vs[j]? = some u → ps[i + 1 + j]? = some u := fun j u hu => by
      have := hp (j + 1) u (by simpa using hu)
      rwa [show i + (j + 1) = i + 1 + j by omega] at this
    show Good K H (cellsO (v :: vs) ((if d.imm then some (d, b) else _) :: finals e0 (i + 1) ws) ++ G)
    have ho : Ok K ps H σ e ((if d.imm then ⟨v, d, b⟩ :: immCells vs ws else immCells vs ws) ++ G) := o
    by_cases im : d.imm = true
    · rw [if_pos im] at ho ⊢
      have o1 : Ok K ps H σ e (immCells vs ws ++ ⟨v, d, b⟩ :: G) := ho.perm List.perm_middle.symm
      have := finals_ok (Nat.succ.inj h) hp2 (fun j hj => he j (by omega)) o1 o1.dropAll
      exact this.perm List.perm_middle
    · rw [if_neg im] at ho ⊢
      split
      · next sl hs =>
        by_cases hpin : sl.pin = true
        · rw [if_pos hpin]
          have hs' : e[i]? = some (some sl) := (he i (Nat.le_refl _)).trans hs
          obtain ⟨u, hu, hpu, oo⟩ := ho.out hs'
          have ev : u = v := by
            have h1 := hpu hpin
            have h2 := hp 0 v rfl
            rw [Nat.add_zero, h1] at h2
            exact Option.some.inj h2
          subst ev
          have o1 : Ok K ps H σ (e.set i none) (immCells vs ws ++ ⟨u, sl.d, sl.own⟩ :: G) := oo.perm List.perm_middle.symm
          have := finals_ok (e0 := e0) (Nat.succ.inj h) hp2 (fun j hj => by rw [List.getElem?_set_ne (by omega)]; exact he j (by omega)) o1 o1.dropAll
          exact this.perm List.perm_middle
        · rw [if_neg hpin]
          exact finals_ok (Nat.succ.inj h) hp2 (fun j hj => he j (by omega)) ho ho.dropAll
      · exact finals_ok (Nat.succ.inj h) hp2 (fun j hj => he j (by omega)) ho ho.dropAll
theorem fn_ok {P : Program} {w : World} {K : PySem.W.Frag} {mg : Str → Option Value} {base : Heap} {f qual : Str} {st : Stmt} {a : Addr} {fd : FuncData} {N pn : List Str} {k : Nat} {body : SM}
    (F : L2.Fun K f qual st a fd) (S : FnScope N pn (defScope st))
    (hb : ∀ (cdv : Value), PySem.W.codeIn K cdv qual = true → ∀ (A : Around) (outer : List Env) (s : Shared) (H : Hp) (E : XK), Room k (A.deeper (envOfC qual (defScope st) s.heap.objs.size a cdv)) → BX (cxOf CX0 P w K mg base N qual (defScope st) a cdv A outer s H E).nox (defBody st) body) :
    FnOk P w K mg base CX0 (k + 1) a fd pn (spF K pn.length (mkF N.length body)) := by
  obtain ⟨oc, od, kV, doc, pm, an, cdv, ct, osl, rfl, lk, hcd⟩ := F.ex
  refine fn_of lk hcd S (fun vs H Q E h => h.1) fun A outer s H vs Q E hr h => ?_
  refine ⟨_, PSs.nox (hb cdv hcd A outer s H E hr), ?_⟩
  obtain ⟨_, ws, G, g, hl, d, b, os, hf, ho, q⟩ := h
  have fin : ∀ {σ : St} {v : V} {H' : Hp} {e : En} {d b}, Ok K vs H' σ e (⟨v, d, b⟩ :: (immCells vs ws ++ G)) → Good K H' (⟨v, d, b⟩ :: (cellsO vs (finals e 0 ws) ++ G)) := fun {σ v H' e d b} o => by
    have o1 : Ok K vs H' σ e (immCells vs ws ++ ⟨v, d, b⟩ :: G) := o.perm List.perm_middle.symm
    exact (finals_ok hl (fun j u hu => by rw [Nat.zero_add]; exact hu) (fun _ _ => rfl) o1 o1.dropAll).perm List.perm_middle
  have z : Zp vs 0 (L2.start N vs) (startE N.length ws) (cells vs ws) := by
    unfold L2.start startE
    rw [hl]
    exact zp_start hl fun j v hv => by rw [Nat.zero_add]; exact hv
  have o0 : Ok K vs H (L2.start N vs) (startE N.length ws) (immCells vs ws ++ G) := ⟨_, z, g.withImm⟩
  unfold mkF at hf
  split at hf
  · next d' b' e h2 =>
    cases hf
    exact ⟨vs, _, _, o0, .rt d b, e, h2, fun σ v H' o => q v H' (fin o)⟩
  · next e h2 =>
    cases hf
    exact ⟨vs, _, _, o0, .nx, e, h2, fun σ H' o => q .non H' (fin (o.flat .non))⟩
  · cases hf
end LF
/-! LF5: comprehensions, zip, enumerate over lists. -/
namespace LF
open PySem PySem.Spec L2
open PyProof.Rows hiding St
open RZ (ItzT iZipA pi_zipA)
/-! ### the slots of a block -/
def hideAll : List Nat → En → En
  | [], e => e
  | j :: js, e => (hideAll js e).set j none
theorem hideAll_len : ∀ {js : List Nat} {e : En}, (hideAll js e).length = e.length
  | [], _ => rfl
  | j :: js, e => by show ((hideAll js e).set j none).length = _; rw [List.length_set, hideAll_len]
theorem hideAll_in : ∀ {js : List Nat} {e : En} {j : Nat} {sl : Sl}, j ∈ js → (hideAll js e)[j]? ≠ some (some sl)
  | k :: js, e, j, sl, h => by
    show ((hideAll js e).set k none)[j]? ≠ some (some sl)
    by_cases hk : k = j
    · subst hk
      rw [List.getElem?_set]
      split
      · split <;> exact fun z => nomatch z
      · exact absurd rfl (by assumption)
    · rw [List.getElem?_set_ne hk]
      rcases List.mem_cons.mp h with z | z
      · exact absurd z.symm hk
      · exact hideAll_in z
section
variable {K : PySem.W.Frag} {ps : List V} {H : Hp} {σ σ' : St} {e : En} {F : List Cell}
theorem Ok.hideAll : ∀ {js : List Nat}, Ok K ps H σ e F → Ok K ps H σ (hideAll js e) F
  | [], o => o
  | j :: js, o => (Ok.hideAll (js := js) o).hide j
/-- slots that are not told may hold anything -/
theorem Zp.congr : ∀ {i : Nat} {σ σ' : St} {e : En} {its : List Cell}, Zp ps i σ e its → σ'.length = σ.length → (∀ (j : Nat) (sl : Sl), e[j]? = some (some sl) → σ'[j]? = σ[j]?) → Zp ps i σ' e its
  | _, _, [], _, _, .z0, _, _ => .z0
  | _, _, _ :: _, _, _, .z0, h, _ => nomatch h
  | _, _, [], _, _, .zn _, h, _ => nomatch h
  | _, _, _ :: _, _, _, .zn z, h, k => .zn (z.congr (Nat.succ.inj h) fun j sl hj => by
      have := k (j + 1) sl (by simpa using hj)
      simpa using this)
  | _, _, [], _, _, .zs _ _, h, _ => nomatch h
  | _, _, x :: _, _, _, .zs (v := v) (sl := sl0) hp z, h, k => by
    have e0 : x = some v := by
      have := k 0 sl0 rfl
      simpa using this
    subst e0
    exact .zs hp (z.congr (Nat.succ.inj h) fun j sl hj => by
      have := k (j + 1) sl (by simpa using hj)
      simpa using this)
theorem Ok.congr (o : Ok K ps H σ e F) (h : σ'.length = σ.length) (k : ∀ (j : Nat) (sl : Sl), e[j]? = some (some sl) → σ'[j]? = σ[j]?) : Ok K ps H σ' e F := by
  obtain ⟨its, z, g⟩ := o
  exact ⟨its, z.congr h k, g⟩
theorem Ok.block {js : List Nat} (o : Ok K ps H σ e F) (hx : ∀ i, i ∉ js → σ'[i]? = σ[i]?) (hl : σ'.length = σ.length) : Ok K ps H σ' (LF.hideAll js e) F :=
  (Ok.hideAll (js := js) o).congr hl fun j sl hj => hx j fun z => hideAll_in z hj
end
/-- the block's slots ahead of it: nothing, or what cannot change; they are told again behind it -/
def saveOk (e : En) (js : List Nat) : Bool := js.all fun j => match e[j]? with
  | some (some sl) => sl.d.imm
  | _ => true
def unhide : List Nat → En → En → En
  | [], _, e => e
  | j :: js, e0, e => match e0[j]? with
    | some (some sl) => (unhide js e0 e).set j (some sl)
    | _ => unhide js e0 e
section
variable {K : PySem.W.Frag} {ps : List V} {H H' : Hp} {σ : St} {e e0 : En} {F : List Cell}
def savedCells (σ : St) (e : En) : List Nat → List Cell
  | [] => []
  | j :: js => match e[j]?, σ[j]? with
    | some (some sl), some (some v) => ⟨v, sl.d, sl.own⟩ :: savedCells σ e js
    | _, _ => savedCells σ e js
theorem Ok.save : ∀ {js : List Nat}, saveOk e js = true → Ok K ps H σ e F → Ok K ps H σ e (savedCells σ e js ++ F)
  | [], _, o => o
  | j :: js, h, o => by
    have h' : (match e[j]? with | some (some sl) => sl.d.imm | _ => true) = true ∧ saveOk e js = true := by
      have := List.all_eq_true.mp h
      exact ⟨this j List.mem_cons_self, List.all_eq_true.mpr fun k hk => this k (List.mem_cons_of_mem _ hk)⟩
    have o1 := Ok.save h'.2 o
    show Ok K ps H σ e ((match e[j]?, σ[j]? with | some (some sl), some (some v) => ⟨v, sl.d, sl.own⟩ :: savedCells σ e js | _, _ => savedCells σ e js) ++ F)
    split
    · next sl v h1 h2 =>
      have im : sl.d.imm = true := by
        have := h'.1
        rw [h1] at this
        exact this
      obtain ⟨v', hv', hp, oo⟩ := o1.out h1
      have ev : v' = v := by rw [h2] at hv'; exact (Option.some.inj (Option.some.inj hv')).symm
      subst ev
      have o2 : Ok K ps H σ (e.set j none) (⟨v', sl.d, sl.own⟩ :: ⟨v', sl.d, sl.own⟩ :: (savedCells σ e js ++ F)) := oo.lift fun its g => (g.dup (b' := sl.own) im)
      have o3 := o2.back hv' hp
      have es : (e.set j none).set j (some ⟨sl.d, sl.own, sl.pin⟩) = e := by
        rw [List.set_set]
        obtain ⟨hl, e1⟩ := List.getElem?_eq_some_iff.mp h1
        have e2 : (some ⟨sl.d, sl.own, sl.pin⟩ : Option Sl) = e[j] := e1.symm
        rw [e2, List.set_getElem_self]
      rw [es] at o3
      exact o3
    · exact o1
theorem Ok.unhide (p : Pok ps σ e0) (hz : σ.length = e0.length) : ∀ {js : List Nat} {G : List Cell}, (∀ (j : Nat) (sl : Sl), e0[j]? = some (some sl) → ∃ v, σ[j]? = some (some v)) → Ok K ps H σ e (savedCells σ e0 js ++ G) → Ok K ps H σ (unhide js e0 e) G
  | [], G, _, o => o
  | j :: js, G, hs, o => by
    have o' : Ok K ps H σ e ((match e0[j]?, σ[j]? with | some (some sl), some (some v) => ⟨v, sl.d, sl.own⟩ :: savedCells σ e0 js | _, _ => savedCells σ e0 js) ++ G) := o
    show Ok K ps H σ (match e0[j]? with | some (some sl) => (LF.unhide js e0 e).set j (some sl) | _ => LF.unhide js e0 e) G
    split
    · next sl h1 =>
      obtain ⟨v, hv⟩ := hs j sl h1
      rw [h1, hv] at o'
      have o1 : Ok K ps H σ e (savedCells σ e0 js ++ ⟨v, sl.d, sl.own⟩ :: G) := o'.perm List.perm_middle.symm
      exact (Ok.unhide p hz hs o1).back hv fun q => p j sl v h1 hv q
    · next hne =>
      split at o'
      · next sl v h1 h2 => exact (hne sl h1).elim
      · exact Ok.unhide p hz hs o'
theorem Ok.told (o : Ok K ps H σ e F) : ∀ (j : Nat) (sl : Sl), e[j]? = some (some sl) → ∃ v, σ[j]? = some (some v) := fun j sl h => let ⟨v, hv, _⟩ := o.out h; ⟨v, hv⟩
end
theorem Reps.snoc {K : PySem.W.Frag} {H : Hp} {m : Bool} {y : V} {d : D} {B : List Addr} : ∀ {vs : List V} {ds : List D} {A : List Addr}, Reps K H m vs ds A → Rep K H m y d B → Reps K H m (vs ++ [y]) (ds ++ [d]) (A ++ B)
  | _, _, _, .nil, r => by
    have := Reps.cons r (Reps.nil (K := K) (H := H) (m := m))
    rw [List.append_nil] at this
    exact this
  | _, _, _, .cons r0 rs, r => by
    rw [List.append_assoc]
    exact .cons r0 (rs.snoc r)
/-- an item is put behind a list of our own -/
theorem Good.push {K : PySem.W.Frag} {H : Hp} {a : Addr} {y : V} {d : D} {l : List D} {its : List Cell} (g : Good K H (⟨y, d, true⟩ :: ⟨.ref a, .lst l, true⟩ :: its)) :
    ∃ vs, H a = some (.lst vs) ∧ vs.length = l.length ∧ Good K (upd H a (.lst (vs ++ [y]))) (⟨.ref a, .lst (l ++ [d]), true⟩ :: its) := by
  obtain ⟨O, S, lay, ap⟩ := g
  cases lay with
  | @own _ _ A1 _ _ _ r lay =>
    cases lay with
    | @own _ _ _ O _ _ r2 lay =>
      cases r2 with
      | @lst _ vs _ A q e rs =>
        have ea := e rfl
        have nd := ap.1
        rw [List.nodup_append] at nd
        obtain ⟨nd1, nd2, nd3⟩ := nd
        have nd2' : (a :: (A ++ O)).Nodup := nd2
        rw [List.nodup_cons] at nd2'
        have n1 : a ∉ A1 := fun z => nd3 a z a (List.mem_append_left _ List.mem_cons_self) rfl
        have n2 : a ∉ A := fun z => nd2'.1 (List.mem_append_left _ z)
        have n3 : a ∉ O := fun z => nd2'.1 (List.mem_append_right _ z)
        have n4 : a ∉ S := ap.2 a (List.mem_append_right _ (List.mem_append_left _ List.mem_cons_self))
        have rs' : Reps K (upd H a (.lst (vs ++ [y]))) true vs l A := rs.wr ea True.intro n2
        have r' : Rep K (upd H a (.lst (vs ++ [y]))) true y d A1 := r.wr ea True.intro n1
        refine ⟨vs, ea, rs.length, (a :: (A ++ A1)) ++ O, S, .own (.lst (.inl upd_same) (fun _ => upd_same) (rs'.snoc r')) (lay.wr ea True.intro n3 n4), ?_⟩
        refine ap.perm ?_ (.refl _)
        show (A1 ++ (a :: (A ++ O))).Perm ((a :: (A ++ A1)) ++ O)
        have p1 : (A1 ++ (a :: (A ++ O))).Perm (a :: (A1 ++ (A ++ O))) := List.perm_middle
        refine p1.trans (List.Perm.cons _ ?_)
        rw [← List.append_assoc]
        exact (List.perm_append_comm).append_right _
abbrev Own := List Nat
def compLoop (own : Own) (g : GM) (fl : Bool) (tt : TM) (te : EM) : List D → En → List D → Option (List D × En)
  | [], e, acc => some (acc, e)
  | d :: ds, e, acc => match g d fl e with
    | none => none
    | some e1 => match tt e1 with
      | none => none
      | some (false, e2) => compLoop own g fl tt te ds (hideAll own e2) acc
      | some (true, e2) => match te e2 with
        | some (y, true, e3) => if acc.length < sizeMax then compLoop own g fl tt te ds (hideAll own e3) (acc ++ [y]) else none
        | _ => none
def mComp (own : Own) (it : IM) (g : GM) (tt : TM) (te : EM) : EM := fun e => match it e with
  | none => none
  | some (ds, fl, e1) => if saveOk e1 own then (match compLoop own g fl tt te ds (hideAll own e1) [] with
      | some (acc, e2) => some (.lst acc, true, unhide own e1 e2)
      | none => none) else none
def mYes : TM := fun e => some (true, e)
def TsX (X : Cx) (x : List Expr) (f : TM) : Prop := PTs X x (semT X.K f)
theorem PTs.weak {X : Cx} {x : List Expr} {t t' : TT} (h : PTs X x t) (w : ∀ σ H Q, t' σ H Q → t σ H Q) : PTs X x t' := ⟨fun pins s σ H Q I q => h.run pins s σ H Q I (w σ H Q q)⟩
theorem tsx_nil {X : Cx} : TsX X [] mYes := PTs.weak pts_nil fun σ H Q q => by
  obtain ⟨ps, e, F, o, c, e', hf, q⟩ := q
  cases hf
  exact q H o
theorem tsx_one {X : Cx} {x : Expr} {f : TM} (h : TX X x f) : TsX X [x] f := pts_one h
theorem wipe_eqx (σ : St) (own : Own) : (∀ i, i ∉ own → (wipe σ own)[i]? = σ[i]?) ∧ (wipe σ own).length = σ.length := ⟨fun i hi => wipe_out hi, wipe_length σ own⟩
/-- the comprehension's reading -/
theorem lc_read {K : PySem.W.Frag} {own : Own} {js : List Nat} {it : IM} {g : GM} {tt : TM} {te : EM} {σ : St} {H : Hp} {Q : VK} (hj : ∀ j ∈ js, j ∈ own) (h : semE K (mComp own it g tt te) σ H Q) :
    tLc (semI K it) (semG K js g) (semT K tt) (semE K te) own σ H Q := by
  obtain ⟨ps, e, F, o, d, b, e', hm, q⟩ := h
  unfold mComp at hm
  split at hm
  · cases hm
  · next ds fl e1 h1 =>
    split at hm
    · next hs =>
      split at hm
      · next accF e2 h2 =>
        cases hm
        refine ⟨ps, e, F, o, ds, fl, e1, h1, fun J T H1 wk o1 Da hD => ?_⟩
        have lenσ : σ.length = e1.length := o1.len
        have pk := o1.pok
        have told := o1.told
        have oS : Ok K ps H1 σ e1 (savedCells σ e1 own ++ (T ++ F)) := o1.save hs
        obtain ⟨wo, wl⟩ := wipe_eqx σ own
        -- the block's state at first
        have ob : Ok K ps (upd H1 Da (.lst [])) (wipe σ own) (LF.hideAll own e1) (⟨.ref Da, .lst [], true⟩ :: (T ++ (savedCells σ e1 own ++ F))) := by
          have o2 := (oS.block (js := own) (σ' := wipe σ own) wo wl)
          have o3 : Ok K ps (upd H1 Da (.lst [])) (wipe σ own) (LF.hideAll own e1) (⟨.ref Da, .lst [], true⟩ :: (savedCells σ e1 own ++ (T ++ F))) := o2.lift fun its gd => by
            have := Good.lstNew (vs := []) (ws := []) (its := (savedCells σ e1 own ++ (T ++ F)) ++ its) gd rfl hD
            exact this
          refine o3.perm (List.Perm.cons _ ?_)
          rw [← List.append_assoc, ← List.append_assoc]
          exact List.perm_append_comm.append_right _
        refine ⟨fun i m H => m = ds.length - i ∧ i ≤ ds.length ∧ ∃ e3 acc, Ok K ps H (wipe σ own) e3 (⟨.ref Da, .lst acc, true⟩ :: (T ++ (savedCells σ e1 own ++ F))) ∧ compLoop own g fl tt te (ds.drop i) e3 acc = some (accF, e2) ∧ LF.hideAll own e3 = e3,
          ⟨ds.length, by simp, Nat.zero_le _, _, [], ob, h2, ?_⟩, ?_⟩
        · have idem : ∀ (js : List Nat) (e : En), LF.hideAll js (LF.hideAll own e) = LF.hideAll own e ∨ True := fun _ _ => .inr trivial
          apply List.ext_getElem?
          intro i
          by_cases hi : i ∈ own
          · have a1 := fun sl => hideAll_in (e := LF.hideAll own e1) (sl := sl) hi
            have a2 := fun sl => hideAll_in (e := e1) (sl := sl) hi
            cases c1 : (LF.hideAll own (LF.hideAll own e1))[i]? with
            | none =>
              have := List.getElem?_eq_none_iff.mp c1
              rw [hideAll_len] at this
              rw [List.getElem?_eq_none this]
            | some x =>
              cases x with
              | some sl => exact (a1 sl c1).elim
              | none =>
                cases c2 : (LF.hideAll own e1)[i]? with
                | none =>
                  have := List.getElem?_eq_none_iff.mp c2
                  have l2 := (List.getElem?_eq_some_iff.mp c1).1
                  rw [hideAll_len] at l2
                  omega
                | some x => cases x with
                  | some sl => exact (a2 sl c2).elim
                  | none => rfl
          · have out : ∀ (js : List Nat) (e : En), i ∉ js → (LF.hideAll js e)[i]? = e[i]? := by
              intro js e hn
              induction js with
              | nil => rfl
              | cons k ks ih =>
                show ((LF.hideAll ks e).set k none)[i]? = _
                rw [List.getElem?_set_ne (fun z => hn (by rw [z]; exact List.mem_cons_self)), ih fun z => hn (List.mem_cons_of_mem _ z)]
            rw [out own _ hi]
        rintro i m H2 ⟨rfl, hi, e3, acc, o2, hc, hid⟩
        obtain ⟨its, z, gd⟩ := o2
        have gd1 : Good K H2 (T ++ ((⟨.ref Da, .lst acc, true⟩ :: (savedCells σ e1 own ++ F)) ++ its)) := gd.perm (by
          have p1 : (its ++ ⟨.ref Da, .lst acc, true⟩ :: (T ++ (savedCells σ e1 own ++ F)) : List Cell).Perm ((⟨.ref Da, .lst acc, true⟩ :: (T ++ (savedCells σ e1 own ++ F))) ++ its) := List.perm_append_comm
          refine p1.trans ?_
          have p3 : (T ++ (⟨.ref Da, .lst acc, true⟩ :: (savedCells σ e1 own ++ (F ++ its))) : List Cell).Perm (⟨.ref Da, .lst acc, true⟩ :: (T ++ (savedCells σ e1 own ++ (F ++ its)))) := List.perm_middle
          simpa [List.append_assoc] using p3.symm)
        obtain ⟨stop, go⟩ := wk i H2 _ gd1
        by_cases hlt : i < ds.length
        · refine .inr ?_
          have hd : ds[i]? = some ds[i] := List.getElem?_eq_getElem hlt
          obtain ⟨hgo, hy⟩ := go _ hd
          refine ⟨hgo, fun H' => ∃ e4 acc', Ok K ps H' (wipe σ own) e4 (⟨.ref Da, .lst acc', true⟩ :: (T ++ (savedCells σ e1 own ++ F))) ∧ compLoop own g fl tt te (ds.drop (i + 1)) e4 acc' = some (accF, e2) ∧ LF.hideAll own e4 = e4,
            fun H' ⟨e4, acc', o4, h4, hid4⟩ => ⟨ds.length - (i + 1), by omega, rfl, hlt, e4, acc', o4, h4, hid4⟩, fun x H' y => ?_⟩
          have g2 := hy x H' y
          have o3 : Ok K ps H' (wipe σ own) e3 (⟨x, ds[i], fl⟩ :: (⟨.ref Da, .lst acc, true⟩ :: (T ++ (savedCells σ e1 own ++ F)))) := ⟨its, z, g2.perm (by
            have p1 : (⟨x, ds[i], fl⟩ :: (T ++ ((⟨.ref Da, .lst acc, true⟩ :: (savedCells σ e1 own ++ F)) ++ its)) : List Cell).Perm (⟨x, ds[i], fl⟩ :: (its ++ ⟨.ref Da, .lst acc, true⟩ :: (T ++ (savedCells σ e1 own ++ F)))) := List.Perm.cons _ (by
              have p2 : (its ++ ⟨.ref Da, .lst acc, true⟩ :: (T ++ (savedCells σ e1 own ++ F)) : List Cell).Perm ((⟨.ref Da, .lst acc, true⟩ :: (T ++ (savedCells σ e1 own ++ F))) ++ its) := List.perm_append_comm
              refine List.Perm.trans ?_ p2.symm
              have p3 : (T ++ (⟨.ref Da, .lst acc, true⟩ :: (savedCells σ e1 own ++ (F ++ its))) : List Cell).Perm (⟨.ref Da, .lst acc, true⟩ :: (T ++ (savedCells σ e1 own ++ (F ++ its)))) := List.perm_middle
              simpa [List.append_assoc] using p3)
            exact p1.trans List.perm_middle.symm)⟩
          rw [List.drop_eq_getElem_cons hlt] at hc
          unfold compLoop at hc
          split at hc
          · cases hc
          · next e4 h4 =>
            refine ⟨ps, e3, _, _, fl, o3, e4, h4, fun σ4 H4 eq4 o4 => ?_⟩
            have wip : wipe σ4 own = wipe σ own := by
              rw [Eqx.wipe eq4 hj]
              apply List.ext_getElem?
              intro k
              by_cases hk : k ∈ own
              · by_cases hl : k < σ.length
                · rw [wipe_get hk (by rw [wl]; exact hl), wipe_get hk hl]
                · rw [List.getElem?_eq_none (by rw [wipe_length, wl]; omega), List.getElem?_eq_none (by rw [wl]; omega)]
              · rw [wipe_out hk]
            have back : ∀ {H5 : Hp} {e5 : En} {acc' : List D}, Ok K ps H5 σ4 e5 (⟨.ref Da, .lst acc', true⟩ :: (T ++ (savedCells σ e1 own ++ F))) → Ok K ps H5 (wipe σ own) (LF.hideAll own e5) (⟨.ref Da, .lst acc', true⟩ :: (T ++ (savedCells σ e1 own ++ F))) := fun {H5 e5 acc'} o5 => by
              refine o5.block (fun k hk => ?_) ?_
              · rw [← wip, wipe_out hk]
              · rw [← wip, wipe_length]
            have idm : ∀ e : En, LF.hideAll own (LF.hideAll own e) = LF.hideAll own e := by
              intro e
              apply List.ext_getElem?
              intro i
              by_cases hi : i ∈ own
              · cases c1 : (LF.hideAll own (LF.hideAll own e))[i]? with
                | none =>
                  have := List.getElem?_eq_none_iff.mp c1
                  rw [hideAll_len] at this
                  rw [List.getElem?_eq_none this]
                | some x =>
                  cases x with
                  | some sl => exact (hideAll_in hi c1).elim
                  | none =>
                    cases c2 : (LF.hideAll own e)[i]? with
                    | none =>
                      have := List.getElem?_eq_none_iff.mp c2
                      have l2 := (List.getElem?_eq_some_iff.mp c1).1
                      rw [hideAll_len] at l2
                      omega
                    | some x => cases x with
                      | some sl => exact (hideAll_in hi c2).elim
                      | none => rfl
              · have out : ∀ (js : List Nat) (e : En), i ∉ js → (LF.hideAll js e)[i]? = e[i]? := by
                  intro js e hn
                  induction js with
                  | nil => rfl
                  | cons k ks ih =>
                    show ((LF.hideAll ks e).set k none)[i]? = _
                    rw [List.getElem?_set_ne (fun z => hn (by rw [z]; exact List.mem_cons_self)), ih fun z => hn (List.mem_cons_of_mem _ z)]
                rw [out own _ hi]
            refine ⟨wip, ?_⟩
            split at hc
            · cases hc
            · next e5 h5 =>
              refine ⟨ps, e4, _, o4, false, e5, h5, fun H5 o5 => ?_⟩
              refine iteF ?_
              exact ⟨_, acc, back o5, hc, idm _⟩
            · next e5 h5 =>
              refine ⟨ps, e4, _, o4, true, e5, h5, fun H5 o5 => ?_⟩
              refine iteT ?_
              split at hc
              · next yd e6 h6 =>
                split at hc
                · next hz =>
                  refine ⟨ps, e5, _, o5, yd, true, e6, h6, fun yv H6 o6 => ?_⟩
                  obtain ⟨its6, z6, g6⟩ := o6
                  have g7 : Good K H6 (⟨yv, yd, true⟩ :: ⟨.ref Da, .lst acc, true⟩ :: ((T ++ (savedCells σ e1 own ++ F)) ++ its6)) := g6.perm (List.perm_append_comm)
                  obtain ⟨vs, ea, hl, g8⟩ := g7.push
                  refine ⟨vs, ea, by rw [hl, ← sizeMax_eq]; exact hz, ?_⟩
                  have o7 : Ok K ps (upd H6 Da (.lst (vs ++ [yv]))) σ4 e6 (⟨.ref Da, .lst (acc ++ [yd]), true⟩ :: (T ++ (savedCells σ e1 own ++ F))) := ⟨its6, z6, g8.perm (List.perm_append_comm (l₁ := ⟨.ref Da, .lst (acc ++ [yd]), true⟩ :: (T ++ (savedCells σ e1 own ++ F))))⟩
                  exact ⟨_, _, back o7, hc, idm _⟩
                · cases hc
              · cases hc
        · have ei : i = ds.length := by omega
          subst ei
          rw [List.drop_length] at hc
          cases hc
          refine .inl ⟨stop (Nat.le_refl _), q _ _ ?_⟩
          have o3 : Ok K ps H2 (wipe σ own) e2 (⟨.ref Da, .lst accF, true⟩ :: (T ++ (savedCells σ e1 own ++ F))) := ⟨its, z, gd⟩
          have o4 : Ok K ps H2 σ e2 (⟨.ref Da, .lst accF, true⟩ :: (T ++ (savedCells σ e1 own ++ F))) := o3.congr wl.symm fun j sl hj2 => by
            rw [wipe_out]
            intro hjo
            rw [← hid] at hj2
            exact hideAll_in hjo hj2
          have o5 : Ok K ps H2 σ e2 (savedCells σ e1 own ++ (T ++ (⟨.ref Da, .lst accF, true⟩ :: F))) := o4.perm (by
            have p1 : (⟨.ref Da, .lst accF, true⟩ :: (T ++ (savedCells σ e1 own ++ F)) : List Cell).Perm (T ++ (⟨.ref Da, .lst accF, true⟩ :: (savedCells σ e1 own ++ F))) := List.perm_middle.symm
            have p2 : (T ++ (⟨.ref Da, .lst accF, true⟩ :: (savedCells σ e1 own ++ F)) : List Cell).Perm (T ++ (savedCells σ e1 own ++ (⟨.ref Da, .lst accF, true⟩ :: F))) := List.Perm.append_left T List.perm_middle.symm
            refine (p1.trans p2).trans ?_
            rw [← List.append_assoc, ← List.append_assoc]
            exact List.perm_append_comm.append_right _)
          have o6 := Ok.unhide pk lenσ told o5
          exact o6.dropAll
      · cases hm
    · cases hm
section
variable {X : Cx}
theorem ex_lc {elt tg iter : Expr} {ifs : List Expr} {scope : Scope} {own : List (Str × Nat)} {js : List Nat} {pos : Pos} {it : IM} {g : GM} {tt : TM} {te : EM} (hc : X.calm = true) (hN : X.N.Nodup) (hi : IX X tg iter it) (ok : BlkOk X.N X.env.scope scope own)
    (hj : ∀ j ∈ js, j ∈ own.map (·.2))
    (hg : ∀ (s : Shared) (H : Hp) (C : Addr) (cl : List (Str × Addr)) (fp : List Addr), GX (X.blk s H scope (compEnvC scope cl C X.env) fp) tg js g)
    (ht : ∀ (s : Shared) (H : Hp) (C : Addr) (cl : List (Str × Addr)) (fp : List Addr), TsX (X.blk s H scope (compEnvC scope cl C X.env) fp) ifs tt)
    (he : ∀ (s : Shared) (H : Hp) (C : Addr) (cl : List (Str × Addr)) (fp : List Addr), EX (X.blk s H scope (compEnvC scope cl C X.env) fp) elt te)
    (hs : ∀ x, foldedSetIterable iter X.env x = pure x := by intro _; rfl) : EX X (.ListComp elt [⟨tg, iter, ifs, 0⟩] scope pos) (mComp (own.map (·.2)) it g tt te) :=
  PE.weak (pe_lc (g := semG X.K js g) (tt := semT X.K tt) (te := semE X.K te) hc hN hi ok hg ht he hs) fun σ H Q q => lc_read hj q
/-- y = [..] -/
theorem sx_setLc {i : Nat} {y : Str} {py : Pos} {elt tg iter : Expr} {ifs : List Expr} {scope : Scope} {own : List (Str × Nat)} {js : List Nat} {pos spos : Pos} {it : IM} {g : GM} {tt : TM} {te : EM} (hc : X.calm = true) (hN : X.N.Nodup) (hy : X.N[i]? = some y) (hyl : X.env.scope.names.lookup y = some .local)
    (hsw : swapsWith (.ListComp elt [⟨tg, iter, ifs, 0⟩] scope pos) (some (.Name y py)) spos.line X.env = pure true) (hi : IX X tg iter it) (ok : BlkOk X.N X.env.scope scope own)
    (hj : ∀ j ∈ js, j ∈ own.map (·.2))
    (hg : ∀ (s : Shared) (H : Hp) (C : Addr) (cl : List (Str × Addr)) (fp : List Addr), GX (X.blk s H scope (compEnvC scope cl C X.env) fp) tg js g)
    (ht : ∀ (s : Shared) (H : Hp) (C : Addr) (cl : List (Str × Addr)) (fp : List Addr), TsX (X.blk s H scope (compEnvC scope cl C X.env) fp) ifs tt)
    (he : ∀ (s : Shared) (H : Hp) (C : Addr) (cl : List (Str × Addr)) (fp : List Addr), EX (X.blk s H scope (compEnvC scope cl C X.env) fp) elt te)
    (hs : ∀ x, foldedSetIterable iter X.env x = pure x := by intro _; rfl) : SX X (.Assign [.Name y py] (.ListComp elt [⟨tg, iter, ifs, 0⟩] scope pos) spos) (mSet i (mComp (own.map (·.2)) it g tt te)) := by
  refine PS.weak (ps_setLc (g := semG X.K js g) (tt := semT X.K tt) (te := semE X.K te) hc hN hy hyl hsw hi ok hg ht he hs) fun D σ H q => ?_
  exact lc_read hj (sem_set q)
end
/-! ### zip, enumerate -/
theorem wk_pair {K : PySem.W.Frag} {H : Hp} {T : Addr} {x y : V} {d1 d2 : D} {its : List Cell} (hT : H T = none) (g : Good K H (⟨x, d1, false⟩ :: ⟨y, d2, false⟩ :: its)) : Good K (upd H T (.tup [x, y])) (⟨.ref T, .tup [d1, d2], false⟩ :: its) :=
  Good.tupNew (vs := [x, y]) (ws := [(d1, false), (d2, false)]) g rfl hT
theorem zip_at {l m : List D} {i : Nat} {d : D} (h : (List.zipWith (fun a b => D.tup [a, b]) l m)[i]? = some d) : ∃ a b, l[i]? = some a ∧ m[i]? = some b ∧ d = .tup [a, b] := by
  rw [List.getElem?_zipWith] at h
  split at h
  · next a b h1 h2 => exact ⟨a, b, h1, h2, (Option.some.inj h).symm⟩
  · cases h
def seqOf : D → Option (List D × Bool)
  | .lst l => some (l, true)
  | .tup l => some (l, false)
  | _ => none
theorem imm_pair {a b : D} {l m : List D} {i : Nat} (h : (D.imms l && D.imms m) = true) (h1 : l[i]? = some a) (h2 : m[i]? = some b) : (D.tup [a, b]).imm = true := by
  have h' := Bool.and_eq_true_iff.mp h
  show (a.imm && (b.imm && true)) = true
  rw [imms_at h'.1 h1, imms_at h'.2 h2]
  rfl
theorem part_lst {K : PySem.W.Frag} {H : Hp} {a : Addr} {l : List D} {its : List Cell} {i : Nat} {d : D} {x : V} (g : Good K H (⟨.ref a, .lst l, false⟩ :: its)) (hd : l[i]? = some d) (y : ∀ xs, SqL K H a xs → xs[i]? = some x) : Good K H (⟨x, d, false⟩ :: ⟨.ref a, .lst l, false⟩ :: its) :=
  g.part (A := []) (B := []) fun A2 r2 => by
    cases r2 with
    | lst q2 e2 rs2 =>
      obtain ⟨v2, B2, k1, k2, k3⟩ := rs2.at hd
      have ev : x = v2 := by
        have := y _ (.inl q2)
        rw [k1] at this
        exact (Option.some.inj this).symm
      subst ev
      exact ⟨B2, k2, fun z hz => List.mem_cons_of_mem _ (k3 z hz)⟩
theorem part_tup {K : PySem.W.Frag} {H : Hp} {a : Addr} {l : List D} {its : List Cell} {i : Nat} {d : D} {x : V} (g : Good K H (⟨.ref a, .tup l, false⟩ :: its)) (hd : l[i]? = some d) (y : ∀ xs, SqT K H a xs → xs[i]? = some x) : Good K H (⟨x, d, false⟩ :: ⟨.ref a, .tup l, false⟩ :: its) :=
  g.part (A := []) (B := []) fun A2 r2 => by
    cases r2 with
    | tup q2 rs2 =>
      obtain ⟨v2, B2, k1, k2, k3⟩ := rs2.at hd
      have ev : x = v2 := by
        have := y _ q2
        rw [k1] at this
        exact (Option.some.inj this).symm
      subst ev
      exact ⟨B2, k2, k3⟩
theorem sq_lst {K : PySem.W.Frag} {H : Hp} {a : Addr} {l : List D} {b : Bool} {its : List Cell} (g : Good K H (⟨.ref a, .lst l, b⟩ :: its)) : ∃ vs, SqL K H a vs ∧ vs.length = l.length := by
  obtain ⟨A, r⟩ := g.rep
  cases r with | lst q _ rs => exact ⟨_, .inl q, rs.length⟩
theorem sq_tup {K : PySem.W.Frag} {H : Hp} {a : Addr} {l : List D} {b : Bool} {its : List Cell} (g : Good K H (⟨.ref a, .tup l, b⟩ :: its)) : ∃ vs, SqT K H a vs ∧ vs.length = l.length := by
  obtain ⟨A, r⟩ := g.rep
  cases r with | tup q rs => exact ⟨_, q, rs.length⟩
theorem wk_zipL {K : PySem.W.Frag} {a b : Addr} {l m : List D} : Wk K (Itz K a b) [⟨.ref a, .lst l, false⟩, ⟨.ref b, .lst m, false⟩] (List.zipWith (fun a b => D.tup [a, b]) l m) (D.imms l && D.imms m) := by
  intro i H G g
  have g1 : Good K H (⟨.ref a, .lst l, false⟩ :: ⟨.ref b, .lst m, false⟩ :: G) := g
  obtain ⟨vs, q1, l1⟩ := sq_lst g1
  obtain ⟨ws, q2, l2⟩ := sq_lst g1.tail
  refine ⟨fun hi => ⟨vs, ws, q1, q2, ?_⟩, fun d hd => ?_⟩
  · rw [List.length_zipWith] at hi
    omega
  obtain ⟨da, db, h1, h2, rfl⟩ := zip_at hd
  have i1 := (List.getElem?_eq_some_iff.mp h1).1
  have i2 := (List.getElem?_eq_some_iff.mp h2).1
  refine ⟨⟨vs, ws, vs[i]'(by omega), ws[i]'(by omega), q1, q2, List.getElem?_eq_getElem _, List.getElem?_eq_getElem _⟩, fun x H' y => ?_⟩
  obtain ⟨T, u, v, rfl, hT, rfl, y1, y2⟩ := y
  have g2 := part_lst g1 h1 y1
  have g3 : Good K H (⟨.ref b, .lst m, false⟩ :: ⟨u, da, false⟩ :: ⟨.ref a, .lst l, false⟩ :: G) := g2.perm (by
    refine (List.Perm.cons _ (List.Perm.swap _ _ _)).trans (List.Perm.swap _ _ _))
  have g4 := part_lst g3 h2 y2
  have g5 : Good K H (⟨u, da, false⟩ :: ⟨v, db, false⟩ :: ⟨.ref a, .lst l, false⟩ :: ⟨.ref b, .lst m, false⟩ :: G) := g4.perm (by
    refine (List.Perm.cons _ (List.Perm.swap _ _ _)).trans ?_
    refine (List.Perm.swap _ _ _).trans (List.Perm.cons _ (List.Perm.cons _ (List.Perm.swap _ _ _))))
  exact (wk_pair hT g5).flag? fun z => imm_pair z h1 h2
theorem wk_zipT {K : PySem.W.Frag} {a b : Addr} {l m : List D} : Wk K (ItzT K a b) [⟨.ref a, .tup l, false⟩, ⟨.ref b, .tup m, false⟩] (List.zipWith (fun a b => D.tup [a, b]) l m) (D.imms l && D.imms m) := by
  intro i H G g
  have g1 : Good K H (⟨.ref a, .tup l, false⟩ :: ⟨.ref b, .tup m, false⟩ :: G) := g
  obtain ⟨vs, q1, l1⟩ := sq_tup g1
  obtain ⟨ws, q2, l2⟩ := sq_tup g1.tail
  refine ⟨fun hi => ⟨vs, ws, q1, q2, ?_⟩, fun d hd => ?_⟩
  · rw [List.length_zipWith] at hi
    omega
  obtain ⟨da, db, h1, h2, rfl⟩ := zip_at hd
  have i1 := (List.getElem?_eq_some_iff.mp h1).1
  have i2 := (List.getElem?_eq_some_iff.mp h2).1
  refine ⟨⟨vs, ws, vs[i]'(by omega), ws[i]'(by omega), q1, q2, List.getElem?_eq_getElem _, List.getElem?_eq_getElem _⟩, fun x H' y => ?_⟩
  obtain ⟨T, u, v, rfl, hT, rfl, y1, y2⟩ := y
  have g2 := part_tup g1 h1 y1
  have g3 : Good K H (⟨.ref b, .tup m, false⟩ :: ⟨u, da, false⟩ :: ⟨.ref a, .tup l, false⟩ :: G) := g2.perm (by
    refine (List.Perm.cons _ (List.Perm.swap _ _ _)).trans (List.Perm.swap _ _ _))
  have g4 := part_tup g3 h2 y2
  have g5 : Good K H (⟨u, da, false⟩ :: ⟨v, db, false⟩ :: ⟨.ref a, .tup l, false⟩ :: ⟨.ref b, .tup m, false⟩ :: G) := g4.perm (by
    refine (List.Perm.cons _ (List.Perm.swap _ _ _)).trans ?_
    refine (List.Perm.swap _ _ _).trans (List.Perm.cons _ (List.Perm.cons _ (List.Perm.swap _ _ _))))
  exact (wk_pair hT g5).flag? fun z => imm_pair z h1 h2
/-- zip of two lists, of two tuples -/
def mZip (f g : EM) : IM := fun e => match f e with
  | some (.lst l, _, e1) => match g e1 with
    | some (.lst m, _, e2) => some (List.zipWith (fun a b => .tup [a, b]) l m, D.imms l && D.imms m, e2)
    | _ => none
  | some (.tup l, _, e1) => match g e1 with
    | some (.tup m, _, e2) => some (List.zipWith (fun a b => .tup [a, b]) l m, D.imms l && D.imms m, e2)
    | _ => none
  | _ => none
section
variable {X : Cx} {x y : Expr} {pos tpos : Pos} {elts : List Expr} {kk : Nat}
theorem rep_lst {K : PySem.W.Frag} {H : Hp} {m : Bool} {v : V} {l : List D} {A : List Addr} (r : Rep K H m v (.lst l) A) : ∃ a, v = .ref a := by cases r; exact ⟨_, rfl⟩
theorem rep_tup {K : PySem.W.Frag} {H : Hp} {m : Bool} {v : V} {l : List D} {A : List Addr} (r : Rep K H m v (.tup l) A) : ∃ a, v = .ref a := by cases r; exact ⟨_, rfl⟩
theorem ix_zip {f g : EM} {p : Pos} (hg : Gl X "zip") (hm : X.mg "zip" = none) (h : EX X x f) (h2 : EX X y g) (na : starEach [x, y] X.env = (false, eval x X.env) :: starEach [y] X.env := by rfl) (nb : starEach [y] X.env = (false, eval y X.env) :: starEach [] X.env := by rfl)
    (hpl : (backTo pos (starEach [y] X.env)).any (·.1) = false := by rfl) : IX X (.Tuple elts kk tpos) (.Call (.Name "zip" p) [x, y] [] pos) (mZip f g) := by
  refine PI.weak (pi_zipA hg hm (pa_cons h (pa_cons h2 pa_nil nb) na) na hpl) fun σ H R q => ?_
  obtain ⟨ps, e, F, o, ds, fl, e', hf, q⟩ := q
  unfold mZip at hf
  split at hf
  · next l b e1 h1 =>
    split at hf
    · next m b2 e2 h2 =>
      cases hf
      refine ⟨ps, e, F, o, _, b, _, h1, fun v H' o' => ⟨ps, _, _, o', _, b2, _, h2, fun w H2 o2 => ?_⟩⟩
      have g2 := o2.good
      obtain ⟨_, r⟩ := g2.rep
      obtain ⟨bb, rfl⟩ := rep_lst r
      obtain ⟨_, r⟩ := g2.tail.rep
      obtain ⟨aa, rfl⟩ := rep_lst r
      obtain ⟨ws, q2, _⟩ := sq_lst g2
      obtain ⟨vs, q1, _⟩ := sq_lst g2.tail
      refine ⟨aa, bb, vs, ws, rfl, .inl ⟨q1, q2, q _ _ _ wk_zipL ?_⟩⟩
      exact o2.lift fun its g => (Good.share ((Good.share g).perm (List.Perm.swap _ _ _)))
    · cases hf
  · next l b e1 h1 =>
    split at hf
    · next m b2 e2 h2 =>
      cases hf
      refine ⟨ps, e, F, o, _, b, _, h1, fun v H' o' => ⟨ps, _, _, o', _, b2, _, h2, fun w H2 o2 => ?_⟩⟩
      have g2 := o2.good
      obtain ⟨_, r⟩ := g2.rep
      obtain ⟨bb, rfl⟩ := rep_tup r
      obtain ⟨_, r⟩ := g2.tail.rep
      obtain ⟨aa, rfl⟩ := rep_tup r
      obtain ⟨ws, q2, _⟩ := sq_tup g2
      obtain ⟨vs, q1, _⟩ := sq_tup g2.tail
      refine ⟨aa, bb, vs, ws, rfl, .inr ⟨q1, q2, q _ _ _ wk_zipT ?_⟩⟩
      exact o2.lift fun its g => (Good.share ((Good.share g).perm (List.Perm.swap _ _ _)))
    · cases hf
  · cases hf
end
end LF
/-! LF6: deeds: operators, comparisons, subscripts. -/
namespace LF
open PySem PySem.Spec L2
open PyProof.Rows hiding St
/-! ### deeds that read one or two values and make a flat one -/
def gR1 (f : D → Option D) : PM := fun ws => match ws with
  | [(a, ba)] => match f a with
    | some d => some (d, true, [some (a, ba)])
    | none => none
  | _ => none
def gR2 (f : D → D → Option D) : PM := fun ws => match ws with
  | [(a, ba), (b, bb)] => match f a b with
    | some d => some (d, true, [some (a, ba), some (b, bb)])
    | none => none
  | _ => none
section
variable {K : PySem.W.Frag} {H : Hp} {Q : VK} {x y z : V}
theorem spR_two {g : PM} (h : spR K g [x, y] H Q) : ∃ a ba b bb F, Good K H (⟨x, a, ba⟩ :: ⟨y, b, bb⟩ :: F) ∧ ∃ d bd os, g [(a, ba), (b, bb)] = some (d, bd, os) ∧ os.length = 2 ∧ ∀ v H', Good K H' (⟨v, d, bd⟩ :: (cellsO [x, y] os ++ F)) → Q v H' := by
  obtain ⟨ws, F, g1, hl, d, bd, os, hg, ho, q⟩ := h
  match ws, hl with
  | [(a, ba), (b, bb)], _ => exact ⟨a, ba, b, bb, F, g1, d, bd, os, hg, ho, q⟩
theorem spR_one {g : PM} (h : spR K g [x] H Q) : ∃ a ba F, Good K H (⟨x, a, ba⟩ :: F) ∧ ∃ d bd os, g [(a, ba)] = some (d, bd, os) ∧ os.length = 1 ∧ ∀ v H', Good K H' (⟨v, d, bd⟩ :: (cellsO [x] os ++ F)) → Q v H' := by
  obtain ⟨ws, F, g1, hl, d, bd, os, hg, ho, q⟩ := h
  match ws, hl with
  | [(a, ba)], _ => exact ⟨a, ba, F, g1, d, bd, os, hg, ho, q⟩
theorem spR_three {g : PM} (h : spR K g [x, y, z] H Q) : ∃ a ba b bb c bc F, Good K H (⟨x, a, ba⟩ :: ⟨y, b, bb⟩ :: ⟨z, c, bc⟩ :: F) ∧ ∃ d bd os, g [(a, ba), (b, bb), (c, bc)] = some (d, bd, os) ∧ os.length = 3 ∧ ∀ v H', Good K H' (⟨v, d, bd⟩ :: (cellsO [x, y, z] os ++ F)) → Q v H' := by
  obtain ⟨ws, F, g1, hl, d, bd, os, hg, ho, q⟩ := h
  match ws, hl with
  | [(a, ba), (b, bb), (c, bc)], _ => exact ⟨a, ba, b, bb, c, bc, F, g1, d, bd, os, hg, ho, q⟩
/-- reading two values -/
theorem two {f : D → D → Option D} (h : spR K (gR2 f) [x, y] H Q) : ∃ a b d A B ba bb, Rep K H ba x a A ∧ Rep K H bb y b B ∧ f a b = some d ∧ (∀ v, Rep K H true v d [] → Q v H) ∧ ∀ (p : Addr) (v : V) (o : HO), H p = none → (∀ F, Good K H F → Good K (upd H p o) (⟨v, d, true⟩ :: F)) → Q v (upd H p o) := by
  obtain ⟨a, ba, b, bb, F, g, d, bd, os, hg, ho, q⟩ := spR_two h
  unfold gR2 at hg
  dsimp only at hg
  split at hg
  · next d' hf =>
    cases hg
    obtain ⟨A, r1⟩ := g.rep
    obtain ⟨B, r2⟩ := g.tail.rep
    exact ⟨a, b, d, A, B, ba, bb, r1, r2, hf, fun v r => q v H (g.flatNew r), fun p v o hp k => q v _ (k _ g)⟩
  · cases hg
theorem one {f : D → Option D} (h : spR K (gR1 f) [x] H Q) : ∃ a d A ba, Rep K H ba x a A ∧ f a = some d ∧ (∀ v, Rep K H true v d [] → Q v H) ∧ ∀ (p : Addr) (v : V) (o : HO), H p = none → (∀ F, Good K H F → Good K (upd H p o) (⟨v, d, true⟩ :: F)) → Q v (upd H p o) := by
  obtain ⟨a, ba, F, g, d, bd, os, hg, ho, q⟩ := spR_one h
  unfold gR1 at hg
  dsimp only at hg
  split at hg
  · next d' hf =>
    cases hg
    obtain ⟨A, r1⟩ := g.rep
    exact ⟨a, d, A, ba, r1, hf, fun v r => q v H (g.flatNew r), fun p v o hp k => q v _ (k _ g)⟩
  · cases hg
theorem rep_str {K : PySem.W.Frag} {H : Hp} {m : Bool} {i : Str} {v : V} {A : List Addr} (r : Rep K H m v (.str i) A) : v = .str i := by cases r; rfl
theorem rep_non {K : PySem.W.Frag} {H : Hp} {m : Bool} {v : V} {A : List Addr} (r : Rep K H m v .non A) : v = .non := by cases r; rfl
end
/-! ### arithmetic -/
def two64 : Int := 18446744073709551616
theorem two64_eq : two64 = 2 ^ 64 := by decide
def fSub : D → D → Option D
  | .int i, .int j => some (.int (i - j))
  | _, _ => none
def fMod : D → D → Option D
  | .int i, .int j => if j = 0 then none else some (.int (i.fmod j))
  | _, _ => none
def fDiv : D → D → Option D
  | .int i, .int j => if j = 0 ∨ 1073741824 ≤ j.natAbs then none else some (.int (i.fdiv j))
  | _, _ => none
def fPow : D → D → Option D
  | .int i, .int j => if 0 ≤ j ∧ j ≤ 1000000 ∧ i.natAbs < 18446744073709551616 then some (.int (i ^ j.toNat)) else none
  | _, _ => none
def fShl : D → D → Option D
  | .int i, .int j => if 0 ≤ j ∧ j ≤ 1000000 ∧ i.natAbs < 18446744073709551616 then some (.int (i * 2 ^ j.toNat)) else none
  | _, _ => none
def fShr : D → D → Option D
  | .int i, .int j => if 0 ≤ j then some (.int (i / 2 ^ j.toNat)) else none
  | _, _ => none
def fAnd : D → D → Option D
  | .int i, .int j => some (.int (Builtin.bitAnd i j))
  | _, _ => none
def fNeg : D → Option D
  | .int i => some (.int (-i))
  | _ => none
def fCmp (p : Int → Int → Bool) : D → D → Option D
  | .int i, .int j => some (.bl (p i j))
  | _, _ => none
section
variable {X : Cx}
theorem ox_sub : OpX X (binaryOp .Sub) (gR2 fSub) := by
  intro pins s σ H x y v u Q I rx ry h
  obtain ⟨a, b, d, A, B, ba, bb, r1, r2, hf, q, _⟩ := two h
  unfold fSub at hf
  split at hf
  · cases hf; cases rep_int r1; cases rep_int r2
    exact op_sub pins s σ H _ _ v u Q I rx ry ⟨_, _, rfl, rfl, q _ (.int _)⟩
  · cases hf
theorem ox_mod : OpX X (binaryOp .Mod) (gR2 fMod) := by
  intro pins s σ H x y v u Q I rx ry h
  obtain ⟨a, b, d, A, B, ba, bb, r1, r2, hf, q, _⟩ := two h
  unfold fMod at hf
  split at hf
  · split at hf
    · cases hf
    · next hj =>
      cases hf; cases rep_int r1; cases rep_int r2
      exact op_modN pins s σ H _ _ v u Q I rx ry ⟨_, _, rfl, rfl, hj, q _ (.int _)⟩
  · cases hf
theorem ox_div : OpX X (binaryOp .FloorDiv) (gR2 fDiv) := by
  intro pins s σ H x y v u Q I rx ry h
  obtain ⟨a, b, d, A, B, ba, bb, r1, r2, hf, q, _⟩ := two h
  unfold fDiv at hf
  split at hf
  · split at hf
    · cases hf
    · next hj =>
      cases hf; cases rep_int r1; cases rep_int r2
      exact op_fdivN pins s σ H _ _ v u Q I rx ry ⟨_, _, rfl, rfl, ⟨fun z => hj (.inl z), Nat.lt_of_not_le fun z => hj (.inr z)⟩, q _ (.int _)⟩
  · cases hf
theorem cpow {i j : Int} (h : 0 ≤ j ∧ j ≤ 1000000 ∧ i.natAbs < 18446744073709551616) : CPow i j := ⟨h.1, h.2.1, h.2.2⟩
theorem ox_pow : OpX X (binaryOp .Pow) (gR2 fPow) := by
  intro pins s σ H x y v u Q I rx ry h
  obtain ⟨a, b, d, A, B, ba, bb, r1, r2, hf, q, _⟩ := two h
  unfold fPow at hf
  split at hf
  · split at hf
    · next hj =>
      cases hf; cases rep_int r1; cases rep_int r2
      exact op_pow pins s σ H _ _ v u Q I rx ry ⟨_, _, rfl, rfl, cpow hj, q _ (.int _)⟩
    · cases hf
  · cases hf
theorem ox_shl : OpX X (binaryOp .LShift) (gR2 fShl) := by
  intro pins s σ H x y v u Q I rx ry h
  obtain ⟨a, b, d, A, B, ba, bb, r1, r2, hf, q, _⟩ := two h
  unfold fShl at hf
  split at hf
  · split at hf
    · next hj =>
      cases hf; cases rep_int r1; cases rep_int r2
      exact op_shl pins s σ H _ _ v u Q I rx ry ⟨_, _, rfl, rfl, cpow hj, q _ (.int _)⟩
    · cases hf
  · cases hf
theorem ox_shr : OpX X (binaryOp .RShift) (gR2 fShr) := by
  intro pins s σ H x y v u Q I rx ry h
  obtain ⟨a, b, d, A, B, ba, bb, r1, r2, hf, q, _⟩ := two h
  unfold fShr at hf
  split at hf
  · split at hf
    · next hj =>
      cases hf; cases rep_int r1; cases rep_int r2
      exact op_shr pins s σ H _ _ v u Q I rx ry ⟨_, _, rfl, rfl, hj, q _ (.int _)⟩
    · cases hf
  · cases hf
theorem ox_and : OpX X (binaryOp .BitAnd) (gR2 fAnd) := by
  intro pins s σ H x y v u Q I rx ry h
  obtain ⟨a, b, d, A, B, ba, bb, r1, r2, hf, q, _⟩ := two h
  unfold fAnd at hf
  split at hf
  · cases hf; cases rep_int r1; cases rep_int r2
    exact op_and pins s σ H _ _ v u Q I rx ry ⟨_, _, rfl, rfl, q _ (.int _)⟩
  · cases hf
theorem ux_neg : UnX X (unaryOp .USub) (gR1 fNeg) := by
  intro pins s σ H x v Q I rx h
  obtain ⟨a, d, A, ba, r1, hf, q, _⟩ := one h
  unfold fNeg at hf
  split at hf
  · cases hf; cases rep_int r1
    exact un_neg pins s σ H _ v Q I rx ⟨_, rfl, q _ (.int _)⟩
  · cases hf
theorem ox_le : OpX X (compareOp .LtE) (gR2 (fCmp fun i j => decide (i ≤ j))) := by
  intro pins s σ H x y v u Q I rx ry h
  obtain ⟨a, b, d, A, B, ba, bb, r1, r2, hf, q, _⟩ := two h
  unfold fCmp at hf
  split at hf
  · cases hf; cases rep_int r1; cases rep_int r2
    exact op_le pins s σ H _ _ v u Q I rx ry ⟨_, _, rfl, rfl, q _ (.bl _)⟩
  · cases hf
theorem ox_gt : OpX X (compareOp .Gt) (gR2 (fCmp fun i j => decide (j < i))) := by
  intro pins s σ H x y v u Q I rx ry h
  obtain ⟨a, b, d, A, B, ba, bb, r1, r2, hf, q, _⟩ := two h
  unfold fCmp at hf
  split at hf
  · cases hf; cases rep_int r1; cases rep_int r2
    exact op_gt pins s σ H _ _ v u Q I rx ry ⟨_, _, rfl, rfl, q _ (.bl _)⟩
  · cases hf
theorem ox_ge : OpX X (compareOp .GtE) (gR2 (fCmp fun i j => decide (j ≤ i))) := by
  intro pins s σ H x y v u Q I rx ry h
  obtain ⟨a, b, d, A, B, ba, bb, r1, r2, hf, q, _⟩ := two h
  unfold fCmp at hf
  split at hf
  · cases hf; cases rep_int r1; cases rep_int r2
    exact op_ge pins s σ H _ _ v u Q I rx ry ⟨_, _, rfl, rfl, q _ (.bl _)⟩
  · cases hf
/-- a < b: of ints, of texts -/
def fLt : D → D → Option D
  | .int i, .int j => some (.bl (decide (i < j)))
  | .str i, .str j => some (.bl (decide (i.cps.toList < j.cps.toList)))
  | _, _ => none
theorem ox_lt : OpX X (compareOp .Lt) (gR2 fLt) := by
  intro pins s σ H x y v u Q I rx ry h
  obtain ⟨a, b, d, A, B, ba, bb, r1, r2, hf, q, _⟩ := two h
  unfold fLt at hf
  split at hf
  · cases hf; cases rep_int r1; cases rep_int r2
    exact op_lt pins s σ H _ _ v u Q I rx ry ⟨_, _, rfl, rfl, q _ (.bl _)⟩
  · cases hf; cases rep_str r1; cases rep_str r2
    exact op_lt_str pins s σ H _ _ v u Q I rx ry ⟨_, _, rfl, rfl, q _ (.bl _)⟩
  · cases hf
/-- x is None -/
def fIsN : D → D → Option D
  | .non, .non => some (.bl true)
  | _, .non => some (.bl false)
  | _, _ => none
def fNotN : D → D → Option D
  | .non, .non => some (.bl false)
  | _, .non => some (.bl true)
  | _, _ => none
theorem rep_nn {K : PySem.W.Frag} {H : Hp} {m : Bool} {d : D} {v : V} {A : List Addr} (r : Rep K H m v d A) (h : d ≠ .non) : decide (v = .non) = false := by
  cases r <;> first | exact absurd rfl h | exact decide_eq_false fun z => nomatch z
theorem ox_isN : OpX X (compareOp .Is) (gR2 fIsN) := by
  intro pins s σ H x y v u Q I rx ry h
  obtain ⟨a, b, d, A, B, ba, bb, r1, r2, hf, q, _⟩ := two h
  unfold fIsN at hf
  split at hf
  · cases hf; cases rep_non r1; cases rep_non r2
    exact op_isN pins s σ H _ _ v u Q I rx ry ⟨rfl, q _ (.bl _)⟩
  · next hne =>
    cases hf; cases rep_non r2
    refine op_isN pins s σ H _ _ v u Q I rx ry ⟨rfl, ?_⟩
    rw [rep_nn r1 fun z => hne z]
    exact q _ (.bl _)
  · cases hf
theorem ox_notN : OpX X (compareOp .IsNot) (gR2 fNotN) := by
  intro pins s σ H x y v u Q I rx ry h
  obtain ⟨a, b, d, A, B, ba, bb, r1, r2, hf, q, _⟩ := two h
  unfold fNotN at hf
  split at hf
  · cases hf; cases rep_non r1; cases rep_non r2
    exact op_notN pins s σ H _ _ v u Q I rx ry ⟨rfl, q _ (.bl _)⟩
  · next hne =>
    cases hf; cases rep_non r2
    refine op_notN pins s σ H _ _ v u Q I rx ry ⟨rfl, ?_⟩
    rw [rep_nn r1 fun z => hne z]
    exact q _ (.bl _)
  · cases hf
end
/-! ### == and != of data -/
mutual
def D.py : D → Option PyData
  | .non => some .none
  | .bl b => some (.bool b)
  | .int i => some (.int i)
  | .str x => some (.str x)
  | .tup l => (D.pys l).map .tuple
  | .fro l => (D.pys l).map .list
  | .lst l => (D.pys l).map .list
  | .dic _ => none
  | .ins _ _ => none
def D.pys : List D → Option (List PyData)
  | [] => some []
  | d :: l => match d.py, D.pys l with
    | some x, some xs => some (x :: xs)
    | _, _ => none
end
section
variable {K : PySem.W.Frag} {H : Hp} {m : Bool}
mutual
theorem Rep.dp : ∀ {v : V} {d : D} {A : List Addr} {x : PyData}, Rep K H m v d A → d.py = some x → Dp K H v x
  | _, _, _, _, .non, h => by cases h; exact .non
  | _, _, _, _, .bl b, h => by cases h; exact .bl b
  | _, _, _, _, .int i, h => by cases h; exact .int i
  | _, _, _, _, .str s, h => by cases h; exact .str s
  | _, _, _, _, .tup (ds := ds) q rs, h => by
    have h' : (D.pys ds).map PyData.tuple = some _ := h
    obtain ⟨xs, h1, h2⟩ := Option.map_eq_some_iff.mp h'
    subst h2
    exact .tup q (rs.dp h1)
  | _, _, _, _, .fro (ds := ds) q rs, h => by
    have h' : (D.pys ds).map PyData.list = some _ := h
    obtain ⟨xs, h1, h2⟩ := Option.map_eq_some_iff.mp h'
    subst h2
    exact .lst q.sq (rs.dp h1)
  | _, _, _, _, .lst (ds := ds) q e rs, h => by
    have h' : (D.pys ds).map PyData.list = some _ := h
    obtain ⟨xs, h1, h2⟩ := Option.map_eq_some_iff.mp h'
    subst h2
    exact .lst (.inl q) (rs.dp h1)
  | _, _, _, _, .dic _ _ _, h => nomatch h
  | _, _, _, _, .ins _ _ _, h => nomatch h
theorem Reps.dp : ∀ {vs : List V} {ds : List D} {A : List Addr} {xs : List PyData}, Reps K H m vs ds A → D.pys ds = some xs → DpAll K H vs xs
  | _, _, _, _, .nil, h => by cases h; exact .nil
  | _, _, _, _, .cons (d := d) (ds := ds) r rs, h => by
    have h' : (match d.py, D.pys ds with | some x, some xs => some (x :: xs) | _, _ => none) = some _ := h
    split at h'
    · next x xs h1 h2 => cases h'; exact .cons (r.dp h1) (rs.dp h2)
    · cases h'
end
end
/-- == of two pieces of data of any depth up to 64 -/
def fEq (neg : Bool) : D → D → Option D
  | a, b => match a.py with
    | some x => match b.py with
      | some y => if SeqAt.shaped x && SeqAt.shaped y then some (.bl (neg != PyData.eqv x y)) else none
      | none => none
    | none => none
section
variable {X : Cx}
theorem ox_eq (hu : X.A.units + 64 < cLine) : OpX X (compareOp .Eq) (gR2 (fEq false)) := by
  intro pins s σ H x y v u Q I rx ry h
  obtain ⟨a, b, d, A, B, ba, bb, r1, r2, hf, q, _⟩ := two h
  unfold fEq at hf
  dsimp only at hf
  split at hf
  · next px h1 =>
   split at hf
   · next py h2 =>
    split at hf
    · next hs =>
      cases hf
      have hs' := Bool.and_eq_true_iff.mp hs
      refine op_eqD hu pins s σ H _ _ v u Q I rx ry ⟨_, _, r1.dp h1, r2.dp h2, hs'.1, hs'.2, ?_⟩
      have e : (false != PyData.eqv px py) = PyData.eqv px py := by cases PyData.eqv px py <;> rfl
      rw [e] at q
      exact q _ (.bl _)
    · cases hf
   · cases hf
  · cases hf
theorem ox_ne (hu : X.A.units + 64 < cLine) : OpX X (compareOp .NotEq) (gR2 (fEq true)) := by
  intro pins s σ H x y v u Q I rx ry h
  obtain ⟨a, b, d, A, B, ba, bb, r1, r2, hf, q, _⟩ := two h
  unfold fEq at hf
  dsimp only at hf
  split at hf
  · next px h1 =>
   split at hf
   · next py h2 =>
    split at hf
    · next hs =>
      cases hf
      have hs' := Bool.and_eq_true_iff.mp hs
      refine op_neD hu pins s σ H _ _ v u Q I rx ry ⟨_, _, r1.dp h1, r2.dp h2, hs'.1, hs'.2, ?_⟩
      have e : (true != PyData.eqv px py) = !PyData.eqv px py := by cases PyData.eqv px py <;> rfl
      rw [e] at q
      exact q _ (.bl _)
    · cases hf
   · cases hf
  · cases hf
end
/-! ### +, * of ints, texts, tuples, lists -/
/-- what two sequences make together -/
def gAdd : PM := fun ws => match ws with
  | [(a, ba), (b, bb)] => match a, b with
    | .int i, .int j => some (.int (i + j), true, [some (a, ba), some (b, bb)])
    | .str i, .str j => if i.length + j.length ≤ sizeMax then some (.str (i ++ j), true, [some (a, ba), some (b, bb)]) else none
    | .tup l, .tup m => if l.length + m.length ≤ sizeMax ∧ (D.imms l && D.imms m) = true then some (.tup (l ++ m), true, [some (a, ba), some (b, bb)]) else none
    | .lst l, .lst m => if l.length + m.length ≤ sizeMax ∧ (D.imms l && D.imms m) = true ∧ (ba && bb) = true then some (.lst (l ++ m), true, [some (a, ba), some (b, bb)]) else none
    | _, _ => none
  | _ => none
theorem D.imms_append : ∀ {l m : List D}, D.imms (l ++ m) = (D.imms l && D.imms m)
  | [], m => by show D.imms m = (true && D.imms m); rw [Bool.true_and]
  | d :: l, m => by
    show (d.imm && D.imms (l ++ m)) = ((d.imm && D.imms l) && D.imms m)
    rw [D.imms_append, Bool.and_assoc]
section
variable {K : PySem.W.Frag} {H : Hp} {m : Bool}
theorem Reps.append : ∀ {vs ws : List V} {ds es : List D} {A B : List Addr}, Reps K H m vs ds A → Reps K H m ws es B → Reps K H m (vs ++ ws) (ds ++ es) (A ++ B)
  | _, _, _, _, _, _, .nil, s => s
  | _, _, _, _, _, _, .cons r rs, s => by
    rw [List.append_assoc]
    exact .cons r (rs.append s)
/-- a new tuple, a new list of things that cannot change -/
theorem Good.tupImm {p : Addr} {vs : List V} {ds : List D} {A : List Addr} {its : List Cell} (r : Reps K H m vs ds A) (im : D.imms ds = true) (hp : H p = none) (g : Good K H its) : Good K (upd H p (.tup vs)) (⟨.ref p, .tup ds, true⟩ :: its) := by
  have r' : Reps K H true vs ds A := r.any im
  have e := r'.imm_nil im
  subst e
  exact (g.new hp).flatNew (.tup (.inl (.inl upd_same)) (r'.new hp))
theorem Good.lstImm {p : Addr} {vs : List V} {ds : List D} {A : List Addr} {its : List Cell} (r : Reps K H m vs ds A) (im : D.imms ds = true) (hp : H p = none) (g : Good K H its) : Good K (upd H p (.lst vs)) (⟨.ref p, .lst ds, true⟩ :: its) := by
  have r' : Reps K H true vs ds A := r.any im
  have e := r'.imm_nil im
  subst e
  obtain ⟨O, S, l, a⟩ := g
  have n := l.nin hp
  refine ⟨[p] ++ O, S, .own (.lst (.inl upd_same) (fun _ => upd_same) (r'.new hp)) (l.new hp), List.nodup_cons.mpr ⟨n.1, a.1⟩, fun x hx hs => ?_⟩
  rcases List.mem_cons.mp hx with z | z
  · subst z; exact n.2 hs
  · exact a.2 x z hs
end
/-- () + t -/
theorem cat_tup0 {prog : Program} {w : World} {A : Around} {E : Value → Shared → Prop} {s : Shared} {t b : Addr} {vs ws : List Value} {Q : Value → Shared → Prop} (ht : IsTup s.heap t vs.toArray) (hb : IsTup s.heap b ws.toArray) (hv : vs = []) (h : Q (.ref b) s) :
    wpAny (model prog w) A (binaryOp .Add (.ref t) (.ref b)) Q E s := by
  obtain ⟨⟨k1, dd, data, sl⟩, ho, hc, n, hd⟩ := id ht
  obtain ⟨⟨k2, dd2, data2, sl2⟩, ho2, hc2, n2, hd2⟩ := id hb
  simp only at hc hd hc2 hd2
  subst hc hd hc2 hd2
  exact concat_meets ⟨_, ho, rfl⟩ ⟨_, ho2, rfl⟩ noFill_tuple_add seq_tuple_add PySem.F.slot_tuple_add PySem.F.entry_tuple_add (PySem.F.args_tuple_add_2 _ _)
    (tuple_addW0 t b vs.toArray ws.toArray n n2 dd dd2 sl sl2 (by simp [hv])) ⟨ho, ho2, h⟩
section
variable {X : Cx}
theorem rep_tupS {K : PySem.W.Frag} {H : Hp} {m : Bool} {v : V} {l : List D} {A : List Addr} (r : Rep K H m v (.tup l) A) : ∃ a vs, v = .ref a ∧ SqT K H a vs ∧ Reps K H m vs l A := by cases r with | tup q rs => exact ⟨_, _, rfl, q, rs⟩
theorem rep_froS {K : PySem.W.Frag} {H : Hp} {m : Bool} {v : V} {l : List D} {A : List Addr} (r : Rep K H m v (.fro l) A) : ∃ a vs, v = .ref a ∧ SqL K H a vs ∧ Reps K H m vs l A := by cases r with | fro q rs => exact ⟨_, _, rfl, q.sq, rs⟩
theorem rep_lstS {K : PySem.W.Frag} {H : Hp} {m : Bool} {v : V} {l : List D} {A : List Addr} (r : Rep K H m v (.lst l) A) : ∃ a vs B, v = .ref a ∧ Rd H a (.lst vs) ∧ (m = true → H a = some (.lst vs)) ∧ Reps K H m vs l B := by cases r with | lst q e rs => exact ⟨_, _, _, rfl, q, e, rs⟩
theorem ox_add : OpX X (binaryOp .Add) gAdd := by
  intro pins s σ H x y v u Q I rx ry h
  obtain ⟨a, ba, b, bb, F, g, d, bd, os, hg, ho, q⟩ := spR_two h
  unfold gAdd at hg
  dsimp only at hg
  split at hg
  · cases hg
    obtain ⟨A, r1⟩ := g.rep
    obtain ⟨B, r2⟩ := g.tail.rep
    cases rep_int r1; cases rep_int r2
    exact op_add pins s σ H _ _ v u Q I rx ry ⟨_, _, rfl, rfl, q _ _ (g.flatNew (.int _))⟩
  · split at hg
    · next hz =>
      cases hg
      obtain ⟨A, r1⟩ := g.rep
      obtain ⟨B, r2⟩ := g.tail.rep
      cases rep_str r1; cases rep_str r2
      exact op_add_str pins s σ H _ _ v u Q I rx ry ⟨_, _, rfl, rfl, by rw [← sizeMax_eq]; exact hz, q _ _ (g.flatNew (.str _))⟩
    · cases hg
  · split at hg
    · next l m hz =>
      cases hg
      obtain ⟨A, r1⟩ := g.rep
      obtain ⟨B, r2⟩ := g.tail.rep
      obtain ⟨a1, vs, rfl, q1, s1⟩ := rep_tupS r1
      obtain ⟨a2, ws, rfl, q2, s2⟩ := rep_tupS r2
      have im : D.imms (l ++ m) = true := by rw [D.imms_append]; exact hz.2
      have im1 := (Bool.and_eq_true_iff.mp hz.2).1
      have im2 := (Bool.and_eq_true_iff.mp hz.2).2
      have t1 : Reps X.K H true vs l A := s1.any im1
      have t2 : Reps X.K H true ws m B := s2.any im2
      have e1 := t1.imm_nil im1
      have e2 := t2.imm_nil im2
      subst e1 e2
      cases vs with
      | nil =>
        have el : l = [] := by cases s1; rfl
        subst el
        cases rx
        cases ry
        obtain ⟨its, w1, p1, _⟩ := I.tuple q1
        obtain ⟨its2, w2, p2, _⟩ := I.tuple q2
        refine cat_tup0 p1 p2 (w1.nil_iff.mpr rfl) ⟨.ref a2, H, I, rfl, q _ _ (g.flatNew ?_)⟩
        exact .tup q2 t2
      | cons v0 vs0 =>
        refine op_catT pins s σ H _ _ v u Q I rx ry ⟨a1, a2, _, ws, rfl, rfl, q1, q2, List.cons_ne_nil _ _, ?_, fun e => ?_, fun _ p hp => q _ _ (g.tupImm (t1.append t2) im hp |>.perm (.refl _))⟩
        · rw [t1.length, t2.length, ← sizeMax_eq]; exact hz.1
        · subst e
          have em : m = [] := by cases s2; rfl
          subst em
          refine q _ _ (g.flatNew ?_)
          rw [List.append_nil]
          exact .tup q1 t1
    · cases hg
  · split at hg
    · next l m hz =>
      cases hg
      have hb := Bool.and_eq_true_iff.mp hz.2.2
      obtain ⟨eb1, eb2⟩ := hb
      subst eb1 eb2
      obtain ⟨A, r1⟩ := g.rep
      obtain ⟨B, r2⟩ := g.tail.rep
      obtain ⟨a1, vs, A1, rfl, q1, f1, s1⟩ := rep_lstS r1
      obtain ⟨a2, ws, A2, rfl, q2, f2, s2⟩ := rep_lstS r2
      have im : D.imms (l ++ m) = true := by rw [D.imms_append]; exact hz.2.1
      refine op_cat pins s σ H _ _ v u Q I rx ry ⟨a1, a2, vs, ws, rfl, rfl, f1 rfl, f2 rfl, ?_, fun p hp => q _ _ (g.lstImm (s1.append s2) im hp)⟩
      rw [s1.length, s2.length, ← sizeMax_eq]; exact hz.1
    · cases hg
  · cases hg
/-- i * j; a list times a number -/
def gMul : PM := fun ws => match ws with
  | [(a, ba), (b, bb)] => match a, b with
    | .int i, .int j => if (-two64 < i ∧ i < two64) ∨ (-two64 < j ∧ j < two64) then some (.int (i * j), true, [some (a, ba), some (b, bb)]) else none
    | .lst l, .int k => if (0 ≤ k ∧ k < two62) ∧ l.length * k.toNat ≤ sizeMax ∧ D.imms l = true ∧ ba = true then some (.lst ((List.replicate k.toNat l).flatten), true, [some (a, ba), some (b, bb)]) else none
    | _, _ => none
  | _ => none
theorem imms_rep {l : List D} (h : D.imms l = true) : ∀ n : Nat, D.imms (List.replicate n l).flatten = true
  | 0 => rfl
  | n + 1 => by
    rw [List.replicate_succ, List.flatten_cons, D.imms_append, h, imms_rep h n]
    rfl
theorem reps_rep {K : PySem.W.Frag} {H : Hp} {vs : List V} {l : List D} (r : Reps K H true vs l []) : ∀ n : Nat, Reps K H true (List.replicate n vs).flatten (List.replicate n l).flatten []
  | 0 => .nil
  | n + 1 => by
    rw [List.replicate_succ, List.flatten_cons, List.replicate_succ, List.flatten_cons]
    exact r.append (reps_rep r n)
theorem ox_mul : OpX X (binaryOp .Mult) gMul := by
  intro pins s σ H x y v u Q I rx ry h
  obtain ⟨a, ba, b, bb, F, g, d, bd, os, hg, ho, q⟩ := spR_two h
  unfold gMul at hg
  dsimp only at hg
  split at hg
  · split at hg
    · next hz =>
      cases hg
      obtain ⟨A, r1⟩ := g.rep
      obtain ⟨B, r2⟩ := g.tail.rep
      cases rep_int r1; cases rep_int r2
      rw [two64_eq] at hz
      exact op_mul pins s σ H _ _ v u Q I rx ry ⟨_, _, rfl, rfl, hz, q _ _ (g.flatNew (.int _))⟩
    · cases hg
  · split at hg
    · next l k hz =>
      cases hg
      obtain ⟨⟨h0, h1⟩, h2, im, eb⟩ := hz
      subst eb
      obtain ⟨A, r1⟩ := g.rep
      obtain ⟨B, r2⟩ := g.tail.rep
      cases rep_int r2
      obtain ⟨a1, vs, A1, rfl, q1, f1, s1⟩ := rep_lstS r1
      have e1 := s1.imm_nil im
      subst e1
      rw [two62_eq] at h1
      refine op_rep pins s σ H _ _ v u Q I rx ry ⟨a1, k, vs, rfl, rfl, f1 rfl, by omega, by omega, ?_, fun p hp => q _ _ ?_⟩
      · rw [s1.length, ← sizeMax_eq]; exact h2
      · exact g.lstImm (reps_rep s1 k.toNat) (imms_rep im _) hp
    · cases hg
  · cases hg
end
end LF
/-! LF7: deeds: in, subscripts, slices, stores, dicts. -/
namespace LF
open PySem PySem.Spec L2
open PyProof.Rows hiding St
/-! ### flat values -/
def D.v : D → V
  | .bl b => .bl b
  | .int i => .int i
  | .str x => .str x
  | _ => .non
theorem rep_flat {K : PySem.W.Frag} {H : Hp} {m : Bool} {d : D} {v : V} {A : List Addr} (r : Rep K H m v d A) (h : d.flat = true) : v = d.v := by
  cases r <;> first | rfl | exact absurd h (by intro z; cases z)
theorem flat_V {d : D} (h : d.flat = true) : flatV d.v = true := by
  cases d <;> first | rfl | exact absurd h (by intro z; cases z)
def inD (x : D) (l : List D) : Bool := l.any fun y => eqV y.v x.v
theorem reps_flat {K : PySem.W.Frag} {H : Hp} {m : Bool} : ∀ {vs : List V} {ds : List D} {A : List Addr}, Reps K H m vs ds A → ds.all D.flat = true → vs = ds.map D.v
  | _, _, _, .nil, _ => rfl
  | _, _, _, .cons (d := d) (ds := ds) r rs, h => by
    have h' := Bool.and_eq_true_iff.mp (show (d.flat && ds.all D.flat) = true from h)
    rw [rep_flat r h'.1, reps_flat rs h'.2]
    rfl
def D.key : D → Option Key
  | .int i => some (.inl i)
  | .str x => some (.inr x)
  | _ => none
theorem rep_key {K : PySem.W.Frag} {H : Hp} {m : Bool} {d : D} {v : V} {A : List Addr} {k : Key} (r : Rep K H m v d A) (h : d.key = some k) : v = kV k := by
  cases r <;> first | (cases h; rfl) | exact absurd h (by intro z; cases z)
/-! ### dicts -/
def getK (l : List (Key × D)) (k : Key) : Option D := (l.find? fun kv => decide (kv.1 = k)).map (·.2)
def putD (l : List (Key × D)) (k : Key) (v : D) : List (Key × D) := if (l.any fun kv => decide (kv.1 = k)) = true then l.map (fun kv => if kv.1 = k then (kv.1, v) else kv) else l ++ [(k, v)]
section
variable {K : PySem.W.Frag} {H : Hp} {m : Bool}
theorem get_none : ∀ {kvs : List (Key × V)} {kds : List (Key × D)} {k : Key}, kvs.map (·.1) = kds.map (·.1) → getK kds k = none → valV kvs k = none
  | [], _, _, _, _ => rfl
  | (k0, v0) :: kvs, [], _, e, _ => nomatch e
  | (k0, v0) :: kvs, (k1, d1) :: kds, k, e, h => by
    have e' : k0 :: kvs.map (·.1) = k1 :: kds.map (·.1) := e
    injection e' with e0 er
    subst e0
    by_cases hk : k0 = k
    · exfalso
      unfold getK at h
      rw [List.find?_cons] at h
      simp [hk] at h
    · rw [valV_neg (p := (k0, v0)) hk]
      refine get_none er ?_
      unfold getK at h ⊢
      rw [List.find?_cons] at h
      simpa [hk] using h
theorem get_some : ∀ {kvs : List (Key × V)} {kds : List (Key × D)} {k : Key} {d : D} {A : List Addr}, kvs.map (·.1) = kds.map (·.1) → Reps K H m (kvs.map (·.2)) (kds.map (·.2)) A → getK kds k = some d →
    ∃ v B, valV kvs k = some v ∧ Rep K H m v d B ∧ ∀ a ∈ B, a ∈ A
  | _, [], _, _, _, _, _, h => by unfold getK at h; simp at h
  | [], (k1, d1) :: kds, _, _, _, e, _, _ => nomatch e
  | (k0, v0) :: kvs, (k1, d1) :: kds, k, d, A, e, r, h => by
    have e' : k0 :: kvs.map (·.1) = k1 :: kds.map (·.1) := e
    injection e' with e0 er
    subst e0
    have r' : Reps K H m (v0 :: kvs.map (·.2)) (d1 :: kds.map (·.2)) A := r
    cases r' with
    | cons r1 rs =>
      by_cases hk : k0 = k
      · have ed : d1 = d := by
          unfold getK at h
          rw [List.find?_cons] at h
          simpa [hk] using h
        subst ed
        exact ⟨v0, _, valV_pos (p := (k0, v0)) hk, r1, fun a ha => List.mem_append_left _ ha⟩
      · obtain ⟨v, B, h1, h2, h3⟩ := get_some er rs (by
          unfold getK at h ⊢
          rw [List.find?_cons] at h
          simpa [hk] using h)
        exact ⟨v, B, by rw [valV_neg (p := (k0, v0)) hk]; exact h1, h2, fun a ha => List.mem_append_right _ (h3 a ha)⟩
theorem any_keys : ∀ {kvs : List (Key × V)} {kds : List (Key × D)} {k : Key}, kvs.map (·.1) = kds.map (·.1) → (kvs.any fun kv => decide (kv.1 = k)) = kds.any fun kv => decide (kv.1 = k)
  | [], [], _, _ => rfl
  | [], _ :: _, _, e => nomatch e
  | _ :: _, [], _, e => nomatch e
  | (k0, v0) :: kvs, (k1, d1) :: kds, k, e => by
    have e' : k0 :: kvs.map (·.1) = k1 :: kds.map (·.1) := e
    injection e' with e0 er
    subst e0
    rw [List.any_cons, List.any_cons, any_keys er]
theorem put_keys : ∀ {kvs : List (Key × V)} {kds : List (Key × D)} {k : Key} {v : V} {d : D}, kvs.map (·.1) = kds.map (·.1) → (putK kvs k v).map (·.1) = (putD kds k d).map (·.1) := by
  intro kvs kds k v d e
  unfold putK putD
  rw [any_keys e]
  by_cases h : (kds.any fun kv => decide (kv.1 = k)) = true
  · rw [if_pos h, if_pos h, List.map_map, List.map_map]
    have e1 : (kvs.map ((·.1) ∘ fun kv => if kv.1 = k then (kv.1, v) else kv)) = kvs.map (·.1) := List.map_congr_left fun kv _ => by
      show (if kv.1 = k then (kv.1, v) else kv).1 = kv.1
      split <;> rfl
    have e2 : (kds.map ((·.1) ∘ fun kv => if kv.1 = k then (kv.1, d) else kv)) = kds.map (·.1) := List.map_congr_left fun kv _ => by
      show (if kv.1 = k then (kv.1, d) else kv).1 = kv.1
      split <;> rfl
    rw [e1, e2, e]
  · rw [if_neg h, if_neg h, List.map_append, List.map_append, e]
    rfl
/-- what cannot change is put into a dict -/
theorem put_reps {k : Key} {v : V} {d : D} (r : Rep K H m v d []) : ∀ {kvs : List (Key × V)} {kds : List (Key × D)} {A : List Addr}, kvs.map (·.1) = kds.map (·.1) → Reps K H m (kvs.map (·.2)) (kds.map (·.2)) A →
    D.imms (kds.map (·.2)) = true → Reps K H m ((kvs.map fun kv => if kv.1 = k then (kv.1, v) else kv).map (·.2)) ((kds.map fun kv => if kv.1 = k then (kv.1, d) else kv).map (·.2)) []
  | [], [], _, _, _, _ => .nil
  | [], _ :: _, _, e, _, _ => nomatch e
  | _ :: _, [], _, e, _, _ => nomatch e
  | (k0, v0) :: kvs, (k1, d1) :: kds, A, e, rs, im => by
    have e' : k0 :: kvs.map (·.1) = k1 :: kds.map (·.1) := e
    injection e' with e0 er
    subst e0
    have r' : Reps K H m (v0 :: kvs.map (·.2)) (d1 :: kds.map (·.2)) A := rs
    have im' := Bool.and_eq_true_iff.mp (show (d1.imm && D.imms (kds.map (·.2))) = true from im)
    cases r' with
    | cons r1 rs1 =>
      have e1 := r1.imm_nil im'.1
      subst e1
      have ih := put_reps (k := k) r er rs1 im'.2
      have hd : Rep K H m (if k0 = k then (k0, v) else (k0, v0)).2 (if k0 = k then (k0, d) else (k0, d1)).2 [] := by
        by_cases hk : k0 = k
        · rw [if_pos hk, if_pos hk]; exact r
        · rw [if_neg hk, if_neg hk]; exact r1
      exact Reps.cons hd ih
theorem put_len {κ : Type} [DecidableEq κ] (kvs : List (κ × V)) (k : κ) (v : V) : True := trivial
theorem any_find {k : Key} : ∀ kds : List (Key × D), (kds.any fun kv => decide (kv.1 = k)) = (getK kds k).isSome
  | [] => rfl
  | kd :: kds => by
    unfold getK
    rw [List.any_cons, List.find?_cons]
    by_cases hk : kd.1 = k
    · simp [hk]
    · simp only [hk, decide_false, Bool.false_or]
      exact any_find kds
theorem get_isSome {kvs : List (Key × V)} {kds : List (Key × D)} {k : Key} (e : kvs.map (·.1) = kds.map (·.1)) : (valV kvs k).isSome = (getK kds k).isSome := by
  rw [← valV_any k kvs, any_keys e]
  exact any_find kds
end
/-! ### in, not in -/
def fIn (neg : Bool) : D → D → Option D
  | .str i, .str j => if i.cps.size = 1 then some (.bl (neg != decide (i.cps.getD 0 0 ∈ j.cps.toList))) else some (.bl (neg != !(Builtin.Str.occurrences j i 0 j.length 1).isEmpty))
  | x, .tup l => if x.flat && l.all D.flat then some (.bl (neg != inD x l)) else none
  | x, .lst l => if x.flat && l.all D.flat then some (.bl (neg != inD x l)) else none
  | x, .dic l => match x.key with
    | some k => some (.bl (neg != (getK l k).isSome))
    | none => none
  | _, _ => none
theorem neg_f (b : Bool) : (false != b) = b := by cases b <;> rfl
theorem neg_t (b : Bool) : (true != b) = !b := by cases b <;> rfl
section
variable {X : Cx}
theorem str_one {i : Str} (h : i.cps.size = 1) : i = ⟨#[i.cps.getD 0 0]⟩ := by
  obtain ⟨a⟩ := i
  have h' : a.size = 1 := h
  show (⟨a⟩ : Str) = ⟨#[a.getD 0 0]⟩
  congr
  apply Array.ext
  · simp [h']
  · intro k h1 h2
    have hk : k = 0 := by simp at h2; omega
    subst hk
    simp [Array.getD, h']
theorem in_any {K : PySem.W.Frag} {H : Hp} {m : Bool} {x : V} {d : D} {vs : List V} {l : List D} {A B : List Addr} (r : Rep K H m x d B) {m' : Bool} (rs : Reps K H m' vs l A) (h : (d.flat && l.all D.flat) = true) :
    flatV x = true ∧ vs.all flatV = true ∧ inV x vs = inD d l := by
  have h' := Bool.and_eq_true_iff.mp h
  rw [rep_flat r h'.1, reps_flat rs h'.2]
  refine ⟨flat_V h'.1, ?_, ?_⟩
  · rw [List.all_map]
    exact List.all_eq_true.mpr fun y hy => flat_V (List.all_eq_true.mp h'.2 y hy)
  · unfold inV inD
    rw [List.any_map]
    rfl
theorem ox_in (hu : X.A.units + 64 < cLine) : OpX X (compareOp .In) (gR2 (fIn false)) := by
  intro pins s σ H x y v u Q I rx ry h
  obtain ⟨a, b, d, A, B, ba, bb, r1, r2, hf, q, _⟩ := two h
  unfold fIn at hf
  split at hf
  · split at hf
    · next i j h1 =>
      cases hf; cases rep_str r1; cases rep_str r2
      rw [neg_f] at q
      exact op_in_sign pins s σ H _ _ v u Q I rx ry ⟨_, _, congrArg V.str (str_one h1), rfl, q _ (.bl _)⟩
    · cases hf; cases rep_str r1; cases rep_str r2
      rw [neg_f] at q
      exact op_in_str pins s σ H _ _ v u Q I rx ry ⟨_, _, rfl, rfl, q _ (.bl _)⟩
  · split at hf
    · next hfl =>
      cases hf
      obtain ⟨a2, ws, rfl, q2, s2⟩ := rep_tupS r2
      obtain ⟨f1, f2, f3⟩ := in_any r1 s2 hfl
      refine op_in_seq pins s σ H _ _ v u Q I rx ry ⟨a2, ws, rfl, .inr q2, f1, f2, ?_⟩
      show Q (.bl (inV x ws)) H
      rw [f3]
      rw [neg_f] at q
      exact q _ (.bl _)
    · cases hf
  · split at hf
    · next hfl =>
      cases hf
      obtain ⟨a2, ws, A2, rfl, q2, _, s2⟩ := rep_lstS r2
      obtain ⟨f1, f2, f3⟩ := in_any r1 s2 hfl
      refine op_in_seq pins s σ H _ _ v u Q I rx ry ⟨a2, ws, rfl, .inl (.inl q2), f1, f2, ?_⟩
      show Q (.bl (inV x ws)) H
      rw [f3]
      rw [neg_f] at q
      exact q _ (.bl _)
    · cases hf
  · split at hf
    · next l k hk =>
      cases hf
      have ex := rep_key r1 hk
      subst ex
      cases r2 with
      | dic e ek rs =>
        cases ry
        rw [neg_f, ← get_isSome ek] at q
        exact d_in (show X.A.units + 1 < cLine by omega) I (DGet.k e) rx fun s' I' => ⟨.bl _, H, I', rfl, q _ (.bl _)⟩
    · cases hf
  · cases hf
theorem ox_notIn (hu : X.A.units + 64 < cLine) : OpX X (compareOp .NotIn) (gR2 (fIn true)) := by
  intro pins s σ H x y v u Q I rx ry h
  obtain ⟨a, b, d, A, B, ba, bb, r1, r2, hf, q, _⟩ := two h
  unfold fIn at hf
  split at hf
  · split at hf
    · next i j h1 =>
      cases hf; cases rep_str r1; cases rep_str r2
      rw [neg_t] at q
      exact op_notIn_sign pins s σ H _ _ v u Q I rx ry ⟨_, _, congrArg V.str (str_one h1), rfl, q _ (.bl _)⟩
    · cases hf; cases rep_str r1; cases rep_str r2
      rw [neg_t] at q
      exact op_notin_str pins s σ H _ _ v u Q I rx ry ⟨_, _, rfl, rfl, q _ (.bl _)⟩
  · split at hf
    · next hfl =>
      cases hf
      obtain ⟨a2, ws, rfl, q2, s2⟩ := rep_tupS r2
      obtain ⟨f1, f2, f3⟩ := in_any r1 s2 hfl
      refine op_notIn_seq pins s σ H _ _ v u Q I rx ry ⟨a2, ws, rfl, .inr q2, f1, f2, ?_⟩
      show Q (.bl (!inV x ws)) H
      rw [f3]
      rw [neg_t] at q
      exact q _ (.bl _)
    · cases hf
  · split at hf
    · next hfl =>
      cases hf
      obtain ⟨a2, ws, A2, rfl, q2, _, s2⟩ := rep_lstS r2
      obtain ⟨f1, f2, f3⟩ := in_any r1 s2 hfl
      refine op_notIn_seq pins s σ H _ _ v u Q I rx ry ⟨a2, ws, rfl, .inl (.inl q2), f1, f2, ?_⟩
      show Q (.bl (!inV x ws)) H
      rw [f3]
      rw [neg_t] at q
      exact q _ (.bl _)
    · cases hf
  · split at hf
    · next l k hk =>
      cases hf
      have ex := rep_key r1 hk
      subst ex
      cases r2 with
      | dic e ek rs =>
        cases ry
        rw [neg_t, ← get_isSome ek] at q
        exact d_notIn (show X.A.units + 1 < cLine by omega) I (DGet.k e) rx fun s' I' => ⟨.bl _, H, I', rfl, q _ (.bl _)⟩
    · cases hf
  · cases hf
end
/-! ### subscripts -/
/-- an item: what cannot change, or a part of what is shared -/
def gIx : PM := fun ws => match ws with
  | [(a, ba), (b, bb)] => match a, b with
    | .tup l, .int i => match atI l i with
      | some d => if d.imm then some (d, true, [some (a, ba), some (b, bb)]) else some (d, false, [some (a, false), some (b, bb)])
      | none => none
    | .fro l, .int i => match atI l i with
      | some d => if d.imm then some (d, true, [some (a, ba), some (b, bb)]) else some (d, false, [some (a, false), some (b, bb)])
      | none => none
    | .lst l, .int i => match atI l i with
      | some d => if d.imm then some (d, true, [some (a, ba), some (b, bb)]) else some (d, false, [some (a, false), some (b, bb)])
      | none => none
    | .str z, .int i => if z.length ≤ sizeMax then (match atI z.cps.toList i with
      | some c => some (.str ⟨#[c]⟩, true, [some (a, ba), some (b, bb)])
      | none => none) else none
    | .dic l, k => match k.key with
      | some k => (match getK l k with
        | some d => if d.imm then some (d, true, [some (a, ba), some (b, bb)]) else some (d, false, [some (a, false), some (b, bb)])
        | none => none)
      | none => none
    | _, _ => none
  | _ => none
theorem atI_reps {K : PySem.W.Frag} {H : Hp} {m : Bool} {vs : List V} {l : List D} {A : List Addr} {i : Int} {d : D} (rs : Reps K H m vs l A) (h : atI l i = some d) : ∃ v B, atI vs i = some v ∧ Rep K H m v d B ∧ ∀ a ∈ B, a ∈ A := by
  unfold atI at h ⊢
  rw [rs.length]
  cases e : ixN l.length i with
  | none => rw [e] at h; cases h
  | some j =>
    rw [e] at h
    have h' : l[j]? = some d := h
    obtain ⟨v, B, h1, h2, h3⟩ := rs.at h'
    exact ⟨v, B, h1, h2, h3⟩
section
variable {X : Cx}
theorem ix_dict (hu : X.A.units + 1 < cLine) : IxR X (fun x y H Q => ∃ a v, x = .ref a ∧ DGet H a y (some v) ∧ Q v H) := by
  intro value slice pins s σ H x y v u Q I rx ry h hs
  obtain ⟨a, w, rfl, g, q⟩ := h
  cases rx
  exact tail_any (dict_typeIs I g) PySem.F.slot_dict_getitem.lookup (d_getItem hu I g ry fun w' s' I' rw' => ⟨w, H, I', rw', q⟩) hs
/-- the end of an item's reading -/
theorem item_end {K : PySem.W.Frag} {H : Hp} {Q : VK} {x y w : V} {a b d : D} {ba bb : Bool} {F : List Cell} {bd : Bool} {os : List (Option DB)} {e : D} (g : Good K H (⟨x, a, ba⟩ :: ⟨y, b, bb⟩ :: F))
    (hg : (if d.imm then some (d, true, [some (a, ba), some (b, bb)]) else some (d, false, [some (a, false), some (b, bb)])) = some (e, bd, os))
    (q : ∀ v H', Good K H' (⟨v, e, bd⟩ :: (cellsO [x, y] os ++ F)) → Q v H')
    (part : ∀ m A, Rep K H m x a A → ∃ B, Rep K H m w d B ∧ ∀ z ∈ B, z ∈ A) : Q w H := by
  split at hg
  · next im =>
    cases hg
    obtain ⟨A, r⟩ := g.rep
    obtain ⟨B, r2, _⟩ := part _ A r
    have r3 : Rep K H true w d B := r2.any im
    have eB := r3.imm_nil im
    subst eB
    exact q w H (g.flatNew r3)
  · cases hg
    exact q w H (g.share.part (A := []) (B := []) (part false))
theorem iox (hu : X.A.units + 64 < cLine) : IxX X gIx := by
  intro value slice pins s σ H x y v u Q I rx ry h hs
  obtain ⟨a, ba, b, bb, F, g, d, bd, os, hg, ho, q⟩ := spR_two h
  unfold gIx at hg
  dsimp only at hg
  split at hg
  · next l i =>
    split at hg
    · next d0 hd =>
      obtain ⟨A, r1⟩ := g.rep
      obtain ⟨B, r2⟩ := g.tail.rep
      cases rep_int r2
      obtain ⟨a1, vs, rfl, q1, s1⟩ := rep_tupS r1
      obtain ⟨w, B1, h1, h2, h3⟩ := atI_reps s1 hd
      refine ix_tup value slice pins s σ H _ _ v u Q I rx ry ⟨a1, vs, i, w, rfl, rfl, q1, h1, item_end g hg q fun m2 A2 r => ?_⟩ hs
      obtain ⟨a2, vs2, e2, q2, s2⟩ := rep_tupS r
      cases e2
      obtain ⟨w2, B2, k1, k2, k3⟩ := atI_reps s2 hd
      have ev : vs2 = vs := I.tuple_inj q2 q1
      subst ev
      rw [h1] at k1
      cases k1
      exact ⟨B2, k2, k3⟩
    · cases hg
  · next l i =>
    split at hg
    · next d0 hd =>
      obtain ⟨A, r1⟩ := g.rep
      obtain ⟨B, r2⟩ := g.tail.rep
      cases rep_int r2
      obtain ⟨a1, vs, rfl, q1, s1⟩ := rep_froS r1
      obtain ⟨w, B1, h1, h2, h3⟩ := atI_reps s1 hd
      refine ix_list value slice pins s σ H _ _ v u Q I rx ry ⟨a1, vs, i, w, rfl, rfl, q1, h1, item_end g hg q fun m2 A2 r => ?_⟩ hs
      cases r with
      | fro q2 s2 =>
        obtain ⟨w2, B2, k1, k2, k3⟩ := atI_reps s2 hd
        have ev := I.list_inj q2.sq q1
        subst ev
        rw [h1] at k1
        cases k1
        exact ⟨B2, k2, k3⟩
    · cases hg
  · next l i =>
    split at hg
    · next d0 hd =>
      obtain ⟨A, r1⟩ := g.rep
      obtain ⟨B, r2⟩ := g.tail.rep
      cases rep_int r2
      obtain ⟨a1, vs, A1, rfl, q1, _, s1⟩ := rep_lstS r1
      obtain ⟨w, B1, h1, h2, h3⟩ := atI_reps s1 hd
      refine ix_list value slice pins s σ H _ _ v u Q I rx ry ⟨a1, vs, i, w, rfl, rfl, .inl q1, h1, item_end g hg q fun m2 A2 r => ?_⟩ hs
      cases r with
      | lst q2 _ s2 =>
        obtain ⟨w2, B2, k1, k2, k3⟩ := atI_reps s2 hd
        have ev := I.list_inj (.inl q2) (.inl q1)
        subst ev
        rw [h1] at k1
        cases k1
        exact ⟨B2, k2, fun z hz => List.mem_cons_of_mem _ (k3 z hz)⟩
    · cases hg
  · next z i =>
    split at hg
    · next hz =>
      split at hg
      · next c hc =>
        cases hg
        obtain ⟨A, r1⟩ := g.rep
        obtain ⟨B, r2⟩ := g.tail.rep
        cases rep_int r2
        cases rep_str r1
        exact ix_str value slice pins s σ H _ _ v u Q I rx ry ⟨z, i, c, rfl, rfl, by rw [← sizeMax_eq]; exact hz, hc, q _ _ (g.flatNew (.str _))⟩ hs
      · cases hg
    · cases hg
  · next l =>
    split at hg
    · next k hk =>
      split at hg
      · next d0 hd =>
        obtain ⟨A, r1⟩ := g.rep
        obtain ⟨B, r2⟩ := g.tail.rep
        have ex := rep_key r2 hk
        subst ex
        cases r1 with
        | dic e ek rs =>
          obtain ⟨w, B1, h1, h2, h3⟩ := get_some ek rs hd
          refine ix_dict (show X.A.units + 1 < cLine by omega) value slice pins s σ H _ _ v u Q I rx ry ⟨_, w, rfl, ?_, item_end g hg q fun m2 A2 r => ?_⟩ hs
          · have := DGet.k (k := k) e
            rw [h1] at this
            exact this
          · cases r with
            | dic e' ek' rs' =>
              rw [e] at e'
              cases e'
              obtain ⟨w2, B2, k1, k2, k3⟩ := get_some ek' rs' hd
              rw [h1] at k1
              cases k1
              exact ⟨B2, k2, fun z hz => List.mem_cons_of_mem _ (k3 z hz)⟩
      · cases hg
    · cases hg
  · cases hg
end
/-! ### stores -/
/-- o[i] = v: a list or a dict of our own, of things that cannot change -/
def gSetI : PM := fun ws => match ws with
  | [(v, bv), (o, bo), (i, bi)] => match o, i with
    | .lst l, .int k => match ixN l.length k with
      | some j => if bo && v.imm && D.imms l then some (.non, true, [none, some (.lst (l.set j v), true), some (i, bi)]) else none
      | none => none
    | .dic l, k => match k.key with
      | some k => if bo && v.imm && D.imms (l.map (·.2)) && decide (l.length < sizeMax) then some (.non, true, [none, some (.dic (putD l k v), true), some (i, bi)]) else none
      | none => none
    | _, _ => none
  | _ => none
theorem Reps.setAt {K : PySem.W.Frag} {H : Hp} {m : Bool} {v : V} {d : D} (r : Rep K H m v d []) : ∀ {vs : List V} {ds : List D} {j : Nat}, Reps K H m vs ds [] → D.imms ds = true → Reps K H m (vs.set j v) (ds.set j d) []
  | [], [], j, rs, im => rs
  | [], _ :: _, _, rs, _ => by cases rs
  | _ :: _, [], _, rs, _ => by cases rs
  | v0 :: vs, d0 :: ds, j, rs, im => by
    generalize eA : ([] : List Addr) = A at rs
    cases rs with
    | cons r0 rs0 =>
      have im' := Bool.and_eq_true_iff.mp (show (d0.imm && D.imms ds) = true from im)
      have e1 := r0.imm_nil im'.1
      have e2 := rs0.imm_nil im'.2
      subst e1 e2
      cases j with
      | zero => exact Reps.cons r rs0
      | succ j => exact Reps.cons r0 (Reps.setAt (j := j) r rs0 im'.2)
/-- an object of our own is written anew -/
theorem Good.rewrite {K : PySem.W.Frag} {H : Hp} {a : Addr} {d d' : D} {o o' : HO} {its : List Cell} (g : Good K H (⟨.ref a, d, true⟩ :: its)) (ho : H a = some o) (mu : Mut (some o)) (ha : ∀ A, Rep K H true (.ref a) d A → ∃ B, A = a :: B)
    (r' : Rep K (upd H a o') true (.ref a) d' [a]) : Good K (upd H a o') (⟨.ref a, d', true⟩ :: its) := by
  obtain ⟨O, S, lay, ap⟩ := g
  cases lay with
  | @own _ _ A O _ _ r lay =>
    obtain ⟨B, rfl⟩ := ha A r
    have nd := List.nodup_append.mp ap.1
    have n1 : a ∉ O := fun z => nd.2.2 a List.mem_cons_self a z rfl
    have n2 : a ∉ S := ap.2 a (List.mem_append_left _ List.mem_cons_self)
    refine ⟨[a] ++ O, S, .own r' (lay.wr ho mu n1 n2), List.nodup_cons.mpr ⟨n1, nd.2.1⟩, fun x hx hs => ?_⟩
    rcases List.mem_cons.mp hx with z | z
    · subst z; exact n2 hs
    · exact ap.2 x (List.mem_append_right _ z) hs
section
variable {X : Cx}
theorem rep_wr0 {K : PySem.W.Frag} {H : Hp} {v : V} {d : D} {A : List Addr} {a : Addr} {o o' : HO} {b : Bool} (r : Rep K H b v d A) (im : d.imm = true) (ho : H a = some o) (mu : Mut (some o)) : Rep K (upd H a o') true v d [] := by
  have r' : Rep K H true v d A := r.any im
  have e := r'.imm_nil im
  subst e
  exact r'.wr ho mu List.not_mem_nil
theorem setx (hu : X.A.units + 64 < cLine) : SetX X gSetI := by
  intro pins s σ H o i v ov iv u Q I ro ri rv h
  obtain ⟨d, bv, e, bo, k, bi, F, g, r, br, os, hg, ho, q⟩ := spR_three h
  unfold gSetI at hg
  dsimp only at hg
  split at hg
  · next l n =>
    split at hg
    · next j hj =>
      split at hg
      · next hb =>
        cases hg
        have hb1 := Bool.and_eq_true_iff.mp hb
        have hb2 := Bool.and_eq_true_iff.mp hb1.1
        obtain ⟨eb, imd⟩ := hb2
        subst eb
        obtain ⟨A0, r0⟩ := g.rep
        obtain ⟨A1, r1⟩ := g.tail.rep
        obtain ⟨A2, r2⟩ := g.tail.tail.rep
        cases rep_int r2
        obtain ⟨a, vs, A3, rfl, q1, f1, s1⟩ := rep_lstS r1
        have ea := f1 rfl
        have e3 := s1.imm_nil hb1.2
        subst e3
        have g2 : Good X.K H (⟨.ref a, .lst l, true⟩ :: ⟨.int n, .int n, bi⟩ :: F) := g.tail
        have g3 : Good X.K (upd H a (.lst (vs.set j v))) (⟨.ref a, .lst (l.set j d), true⟩ :: ⟨.int n, .int n, bi⟩ :: F) := by
          refine g2.rewrite ea True.intro (fun A r => by cases r with | lst _ _ _ => exact ⟨_, rfl⟩) ?_
          exact .lst (.inl upd_same) (fun _ => upd_same) (Reps.setAt (rep_wr0 r0 imd ea True.intro) (s1.wr ea True.intro List.not_mem_nil) hb1.2)
        refine set_list pins s σ H _ _ _ ov iv u Q I ro ri rv ⟨a, vs, n, j, rfl, rfl, ea, by rw [s1.length]; exact hj, q .non _ ?_⟩
        exact g3.flatNew .non
      · cases hg
    · cases hg
  · next l =>
    split at hg
    · next n hn =>
      split at hg
      · next hb =>
        cases hg
        have hb1 := Bool.and_eq_true_iff.mp hb
        have hb2 := Bool.and_eq_true_iff.mp hb1.1
        have hb3 := Bool.and_eq_true_iff.mp hb2.1
        obtain ⟨eb, imd⟩ := hb3
        subst eb
        obtain ⟨A0, r0⟩ := g.rep
        obtain ⟨A1, r1⟩ := g.tail.rep
        obtain ⟨A2, r2⟩ := g.tail.tail.rep
        have ex := rep_key r2 hn
        subst ex
        have g2 : Good X.K H (⟨o, .dic l, true⟩ :: ⟨kV n, k, bi⟩ :: F) := g.tail
        cases r1 with
        | @dic a kvs _ A3 ea ek rs =>
          have e3 := rs.imm_nil hb2.2
          subst e3
          have hlen : kvs.length = l.length := by
            have := congrArg List.length ek
            simpa using this
          have g3 : Good X.K (upd H a (.dK (putK kvs n v))) (⟨.ref a, .dic (putD l n d), true⟩ :: ⟨kV n, k, bi⟩ :: F) := by
            refine g2.rewrite ea True.intro (fun A r => by cases r with | dic _ _ _ => exact ⟨_, rfl⟩) ?_
            refine .dic upd_same (put_keys ek) ?_
            have r0' := rep_wr0 (o' := .dK (putK kvs n v)) r0 imd ea True.intro
            have rs' : Reps X.K (upd H a (.dK (putK kvs n v))) true (kvs.map (·.2)) (l.map (·.2)) [] := rs.wr ea True.intro List.not_mem_nil
            have an := any_keys (k := n) ek
            by_cases hany : (l.any fun kv => decide (kv.1 = n)) = true
            · have e1 : putK kvs n v = kvs.map (fun kv => if kv.1 = n then (kv.1, v) else kv) := by unfold putK; rw [an, if_pos hany]
              have e2 : putD l n d = l.map (fun kv => if kv.1 = n then (kv.1, d) else kv) := by unfold putD; rw [if_pos hany]
              have := put_reps (k := n) r0' ek rs' hb2.2
              rw [← e1, ← e2] at this
              exact this
            · have e1 : putK kvs n v = kvs ++ [(n, v)] := by unfold putK; rw [an, if_neg hany]
              have e2 : putD l n d = l ++ [(n, d)] := by unfold putD; rw [if_neg hany]
              have k1 : (putK kvs n v).map (·.2) = kvs.map (·.2) ++ [v] := by rw [e1, List.map_append]; rfl
              have k2 : (putD l n d).map (·.2) = l.map (·.2) ++ [d] := by rw [e2, List.map_append]; rfl
              rw [k1, k2]
              exact rs'.append (Reps.cons r0' .nil)
          cases ro
          refine d_setItem (show X.A.units + 1 < cLine by omega) I (DPut.k (k := n) ea ?_) ri rv fun s' I' => ⟨_, I', q .non _ (g3.flatNew .non)⟩
          have := of_decide_eq_true hb1.2
          rw [hlen, ← sizeMax_eq]
          exact this
      · cases hg
    · cases hg
  · cases hg
end
end LF
/-! LF8: slices, len, list, tuple, int, abs, all, sorted, isinstance. -/
namespace LF
open PySem PySem.Spec L2
open PyProof.Rows hiding St
/-! ### parts of a sequence -/
def cutD (l : List D) (lo hi : Option Int) : List D := (l.drop (HT.sIx l.length 0 lo)).take (HT.sIx l.length l.length hi - HT.sIx l.length 0 lo)
section
variable {K : PySem.W.Frag} {H : Hp} {m : Bool}
theorem Reps.drop : ∀ {vs : List V} {ds : List D} {A : List Addr} (n : Nat), Reps K H m vs ds A → ∃ B, Reps K H m (vs.drop n) (ds.drop n) B ∧ ∀ a ∈ B, a ∈ A
  | _, _, _, 0, r => ⟨_, r, fun _ h => h⟩
  | _, _, _, n + 1, .nil => ⟨_, .nil, fun _ h => h⟩
  | _, _, _, n + 1, .cons r rs => by
    obtain ⟨B, h1, h2⟩ := Reps.drop n rs
    exact ⟨B, h1, fun a ha => List.mem_append_right _ (h2 a ha)⟩
theorem Reps.take : ∀ {vs : List V} {ds : List D} {A : List Addr} (n : Nat), Reps K H m vs ds A → ∃ B, Reps K H m (vs.take n) (ds.take n) B ∧ ∀ a ∈ B, a ∈ A
  | _, _, A, 0, r => ⟨[], by rw [List.take_zero, List.take_zero]; exact .nil, fun _ h => nomatch h⟩
  | _, _, _, n + 1, .nil => ⟨_, .nil, fun _ h => h⟩
  | _, _, _, n + 1, .cons r rs => by
    obtain ⟨B, h1, h2⟩ := Reps.take n rs
    refine ⟨_, .cons r h1, fun a ha => ?_⟩
    rcases List.mem_append.mp ha with z | z
    · exact List.mem_append_left _ z
    · exact List.mem_append_right _ (h2 a z)
theorem Reps.cut {vs : List V} {ds : List D} {A : List Addr} (r : Reps K H m vs ds A) (lo hi : Option Int) : ∃ B, Reps K H m (cutV vs lo hi) (cutD ds lo hi) B ∧ ∀ a ∈ B, a ∈ A := by
  unfold cutV cutD
  rw [r.length]
  obtain ⟨B, h1, h2⟩ := Reps.drop (HT.sIx ds.length 0 lo) r
  obtain ⟨C, h3, h4⟩ := Reps.take (HT.sIx ds.length ds.length hi - HT.sIx ds.length 0 lo) h1
  exact ⟨C, h3, fun a ha => h2 a (h4 a ha)⟩
theorem imms_drop : ∀ {l : List D} (n : Nat), D.imms l = true → D.imms (l.drop n) = true
  | _, 0, h => h
  | [], _ + 1, h => h
  | d :: l, n + 1, h => imms_drop (l := l) n (Bool.and_eq_true_iff.mp (show (d.imm && D.imms l) = true from h)).2
theorem imms_take : ∀ {l : List D} (n : Nat), D.imms l = true → D.imms (l.take n) = true
  | _, 0, h => by rw [List.take_zero]; rfl
  | [], _ + 1, h => h
  | d :: l, n + 1, h => by
    have h' := Bool.and_eq_true_iff.mp (show (d.imm && D.imms l) = true from h)
    show (d.imm && D.imms (l.take n)) = true
    rw [h'.1, imms_take n h'.2]
    rfl
theorem imms_cut {l : List D} {lo hi : Option Int} (h : D.imms l = true) : D.imms (cutD l lo hi) = true := imms_take _ (imms_drop _ h)
/-- a new list, a new tuple of parts of what is shared -/
theorem Good.subLst {x : V} {d : D} {vs : List V} {ds : List D} {its : List Cell} {p : Addr} (g : Good K H (⟨x, d, false⟩ :: its)) (h : ∀ A, Rep K H false x d A → ∃ B, Reps K H false vs ds B ∧ ∀ a ∈ B, a ∈ A) (hp : H p = none) :
    Good K (upd H p (.lst vs)) (⟨.ref p, .lst ds, false⟩ :: ⟨x, d, false⟩ :: its) := by
  obtain ⟨O, S, l, ap⟩ := g
  have l0 := l
  cases l with
  | shr r l =>
    obtain ⟨B, r2, sub⟩ := h _ r
    refine ⟨_, _, .shr (.lst (.inl upd_same) (fun z => nomatch z) (r2.new hp)) (.shr (r.new hp) (l.new hp)), ap.1, fun a ha hs => ?_⟩
    rcases List.mem_append.mp hs with z | z
    · rcases List.mem_cons.mp z with z | z
      · subst z; exact (l0.nin hp).1 ha
      · exact ap.2 a ha (List.mem_append_left _ (sub a z))
    · exact ap.2 a ha z
theorem Good.subTup {x : V} {d : D} {vs : List V} {ds : List D} {its : List Cell} {p : Addr} (g : Good K H (⟨x, d, false⟩ :: its)) (h : ∀ A, Rep K H false x d A → ∃ B, Reps K H false vs ds B ∧ ∀ a ∈ B, a ∈ A) (hp : H p = none) :
    Good K (upd H p (.tup vs)) (⟨.ref p, .tup ds, false⟩ :: ⟨x, d, false⟩ :: its) := by
  obtain ⟨O, S, l, ap⟩ := g
  cases l with
  | shr r l =>
    obtain ⟨B, r2, sub⟩ := h _ r
    refine ⟨_, _, .shr (.tup (.inl (.inl upd_same)) (r2.new hp)) (.shr (r.new hp) (l.new hp)), ap.1, fun a ha hs => ?_⟩
    rcases List.mem_append.mp hs with z | z
    · exact ap.2 a ha (List.mem_append_left _ (sub a z))
    · exact ap.2 a ha z
theorem cut_all {l : List D} {lo hi : Option Int} (h : HT.sIx l.length 0 lo = 0 ∧ HT.sIx l.length l.length hi = l.length) : cutD l lo hi = l := by
  unfold cutD
  rw [h.1, h.2, List.drop_zero, Nat.sub_zero, List.take_length]
/-- what a new sequence of some parts of x is: of things that cannot change, or of parts of what is shared -/
def partFl (l : List D) (ba : Bool) : Option Bool := if D.imms l then some true else if ba then none else some false
theorem Good.partLst {x : V} {a : D} {ba fl : Bool} {vs : List V} {ds : List D} {its : List Cell} {p : Addr} (g : Good K H (⟨x, a, ba⟩ :: its)) (hf : partFl ds ba = some fl) (h : ∀ A, Rep K H ba x a A → ∃ B, Reps K H ba vs ds B ∧ ∀ z ∈ B, z ∈ A) (hp : H p = none) :
    Good K (upd H p (.lst vs)) (⟨.ref p, .lst ds, fl⟩ :: ⟨x, a, ba⟩ :: its) := by
  unfold partFl at hf
  split at hf
  · next im =>
    cases hf
    obtain ⟨A, r⟩ := g.rep
    obtain ⟨B, r2, _⟩ := h A r
    exact g.lstImm r2 im hp
  · split at hf
    · cases hf
    · next hb =>
      cases hf
      have eb : ba = false := by simpa using hb
      subst eb
      exact g.subLst h hp
theorem Good.partTup {x : V} {a : D} {ba fl : Bool} {vs : List V} {ds : List D} {its : List Cell} {p : Addr} (g : Good K H (⟨x, a, ba⟩ :: its)) (hf : partFl ds ba = some fl) (h : ∀ A, Rep K H ba x a A → ∃ B, Reps K H ba vs ds B ∧ ∀ z ∈ B, z ∈ A) (hp : H p = none) :
    Good K (upd H p (.tup vs)) (⟨.ref p, .tup ds, fl⟩ :: ⟨x, a, ba⟩ :: its) := by
  unfold partFl at hf
  split at hf
  · next im =>
    cases hf
    obtain ⟨A, r⟩ := g.rep
    obtain ⟨B, r2, _⟩ := h A r
    exact g.tupImm r2 im hp
  · split at hf
    · cases hf
    · next hb =>
      cases hf
      have eb : ba = false := by simpa using hb
      subst eb
      exact g.subTup h hp
/-- the same tuple once more -/
theorem Good.again {x : V} {l : List D} {ba fl : Bool} {its : List Cell} (g : Good K H (⟨x, .tup l, ba⟩ :: its)) (hf : partFl l ba = some fl) : Good K H (⟨x, .tup l, fl⟩ :: ⟨x, .tup l, ba⟩ :: its) := by
  unfold partFl at hf
  split at hf
  · next im => cases hf; exact g.dup im
  · split at hf
    · cases hf
    · next hb =>
      cases hf
      have eb : ba = false := by simpa using hb
      subst eb
      exact g.dupS
theorem lst_part {x : V} {l ds : List D} {ba : Bool} {a : Addr} {xs ys : List V} (hq : ∀ zs, SqL K H a zs → zs = xs) (hx : x = .ref a) (f : ∀ A, Reps K H ba xs l A → ∃ B, Reps K H ba ys ds B ∧ ∀ z ∈ B, z ∈ A) : ∀ A, Rep K H ba x (.lst l) A → ∃ B, Reps K H ba ys ds B ∧ ∀ z ∈ B, z ∈ A := by
  intro A r
  subst hx
  cases r with
  | lst q e rs =>
    have := hq _ (.inl q)
    subst this
    obtain ⟨B, h1, h2⟩ := f _ rs
    exact ⟨B, h1, fun z hz => List.mem_cons_of_mem _ (h2 z hz)⟩
theorem fro_part {x : V} {l ds : List D} {ba : Bool} {a : Addr} {xs ys : List V} (hq : ∀ zs, SqL K H a zs → zs = xs) (hx : x = .ref a) (f : ∀ A, Reps K H ba xs l A → ∃ B, Reps K H ba ys ds B ∧ ∀ z ∈ B, z ∈ A) : ∀ A, Rep K H ba x (.fro l) A → ∃ B, Reps K H ba ys ds B ∧ ∀ z ∈ B, z ∈ A := by
  intro A r
  subst hx
  cases r with
  | fro q rs =>
    have := hq _ q.sq
    subst this
    exact f _ rs
theorem tup_part {x : V} {l ds : List D} {ba : Bool} {a : Addr} {xs ys : List V} (hq : ∀ zs, SqT K H a zs → zs = xs) (hx : x = .ref a) (f : ∀ A, Reps K H ba xs l A → ∃ B, Reps K H ba ys ds B ∧ ∀ z ∈ B, z ∈ A) : ∀ A, Rep K H ba x (.tup l) A → ∃ B, Reps K H ba ys ds B ∧ ∀ z ∈ B, z ∈ A := by
  intro A r
  subst hx
  cases r with
  | tup q rs =>
    have := hq _ q
    subst this
    exact f _ rs
end
/-! ### slices -/
def optI : D → Option (Option Int)
  | .non => some none
  | .int i => some (some i)
  | _ => none
def gSl : PM := fun ws => match ws with
  | [(a, ba), (lo, bl), (hi, bh)] => match optI lo, optI hi with
    | some l, some h => match a with
      | .lst xs => match partFl (cutD xs l h) ba with
        | some fl => some (.lst (cutD xs l h), fl, [some (a, ba), none, none])
        | none => none
      | .fro xs => match partFl (cutD xs l h) ba with
        | some fl => some (.lst (cutD xs l h), fl, [some (a, ba), none, none])
        | none => none
      | .tup xs => match partFl (cutD xs l h) ba with
        | some fl => some (.tup (cutD xs l h), fl, [some (a, ba), none, none])
        | none => none
      | .str z => if z.length ≤ sizeMax then some (.str (cutS z l h), true, [some (a, ba), none, none]) else none
      | _ => none
    | _, _ => none
  | _ => none
def chkI (f : EM) : EM := fun e => match f e with
  | some (.int i, b, e') => some (.int i, b, e')
  | _ => none
def agP : Option EM → Ag
  | none => .val (mC .non)
  | some f => .val (chkI f)
def toP (K : PySem.W.Frag) : Option EM → TO
  | none => tNoPart
  | some f => tPart (semE K f)
def optV : V → Option Int
  | .int i => some i
  | _ => none
def PartX (X : Cx) (x : Option Expr) (f : Option EM) : Prop := PO X x (toP X.K f)
section
variable {X : Cx} {x y : Expr} {lo hi : Option Expr} {pos p2 : Pos}
theorem px_none : PartX X none none := po_none
theorem px_some {f : EM} (h : EX X x f) : PartX X (some x) (some f) := po_some h
theorem semE_at {K : PySem.W.Frag} {d : D} {v : V} {σ : St} {H : Hp} {Q : VK} (r : Rep K H true v d []) (h : semE K (mC d) σ H Q) : Q v H := by
  obtain ⟨ps, e, F, o, d', b, e', hf, q⟩ := h
  cases hf
  exact q v H (o.flat r)
theorem part_read {K : PySem.W.Frag} {f : Option EM} {σ : St} {H : Hp} {Q : VK} (h : rdA K (agP f) σ H Q) : toP K f σ H fun o H' => ∃ v, (v = .non ∧ o = none ∨ ∃ i, v = .int i ∧ o = some i) ∧ Q v H' := by
  cases f with
  | none =>
    show ∃ v, _ ∧ Q v H
    exact ⟨.non, .inl ⟨rfl, rfl⟩, semE_at .non h⟩
  | some f =>
    obtain ⟨ps, e, F, o, d, b, e', hf, q⟩ := h
    unfold chkI at hf
    split at hf
    · next i b2 e2 h2 =>
      cases hf
      refine ⟨ps, e, F, o, _, b, _, h2, fun v H' o' => ?_⟩
      obtain ⟨A, r⟩ := o'.good.rep
      cases rep_int r
      exact ⟨i, rfl, .int i, .inr ⟨i, rfl, rfl⟩, q _ H' o'⟩
    · cases hf
/-- the slice's rule: a list, a tuple, a text -/
def rSl3 (K : PySem.W.Frag) : V → Option Int → Option Int → Hp → VK → Prop := fun x lo hi H Q => (rSlL K x lo hi H Q ∨ rSlA K x lo hi H Q) ∨ rSlS x lo hi H Q
theorem sl_3 : SlR X (rSl3 X.K) := (sl_list.or sl_tupA).or sl_str
theorem gSl_ok {K : PySem.W.Frag} {x vl vh : V} {l h : Option Int} {H : Hp} {Q : VK} (lu : ∀ {a xs ys}, SqL K H a xs → SqL K H a ys → xs = ys) (tu : ∀ {a xs ys}, SqT K H a xs → SqT K H a ys → xs = ys)
    (el : vl = .non ∧ l = none ∨ ∃ i, vl = .int i ∧ l = some i) (eh : vh = .non ∧ h = none ∨ ∃ i, vh = .int i ∧ h = some i) (s : spR K gSl [x, vl, vh] H Q) : rSl3 K x l h H Q := by
  obtain ⟨a, ba, b, bb, c, bc, F, g, d, bd, os, hg, ho, q⟩ := spR_three s
  unfold gSl at hg
  dsimp only at hg
  have opt : ∀ {v : V} {o o' : Option Int} {b : D} {m : Bool} {A : List Addr}, (v = .non ∧ o = none ∨ ∃ i, v = .int i ∧ o = some i) → Rep K H m v b A → optI b = some o' → o' = o := by
    intro v o o' b m A e r hb
    rcases e with ⟨rfl, rfl⟩ | ⟨i, rfl, rfl⟩
    · cases r; cases hb; rfl
    · cases r; cases hb; rfl
  split at hg
  · next l' h' h1 h2 =>
    obtain ⟨B, r2⟩ := g.tail.rep
    obtain ⟨C, r3⟩ := g.tail.tail.rep
    have e1 := opt el r2 h1
    have e2 := opt eh r3 h2
    subst e1 e2
    have pm : (⟨x, a, ba⟩ :: ⟨vl, b, bb⟩ :: ⟨vh, c, bc⟩ :: F : List Cell).Perm (⟨vl, b, bb⟩ :: ⟨vh, c, bc⟩ :: ⟨x, a, ba⟩ :: F) := (List.Perm.swap _ _ _).trans (List.Perm.cons _ (List.Perm.swap _ _ _))
    have g' : Good K H (⟨x, a, ba⟩ :: F) := (g.perm pm).tail.tail
    split at hg
    · next xs =>
      split at hg
      · next fl hfl =>
        cases hg
        obtain ⟨A, r⟩ := g'.rep
        obtain ⟨a1, vs, A1, rfl, q1, _, s1⟩ := rep_lstS r
        refine .inl (.inl ⟨a1, vs, rfl, .inl q1, fun p hp => q _ _ ?_⟩)
        exact g'.partLst hfl (lst_part (fun zs hz => lu hz (.inl q1)) rfl fun A rs => rs.cut _ _) hp
      · cases hg
    · next xs =>
      split at hg
      · next fl hfl =>
        cases hg
        obtain ⟨A, r⟩ := g'.rep
        obtain ⟨a1, vs, rfl, q1, s1⟩ := rep_froS r
        refine .inl (.inl ⟨a1, vs, rfl, q1, fun p hp => q _ _ ?_⟩)
        exact g'.partLst hfl (fro_part (fun zs hz => lu hz q1) rfl fun A rs => rs.cut _ _) hp
      · cases hg
    · next xs =>
      split at hg
      · next fl hfl =>
        cases hg
        obtain ⟨A, r⟩ := g'.rep
        obtain ⟨a1, vs, rfl, q1, s1⟩ := rep_tupS r
        refine .inl (.inr ⟨a1, vs, rfl, q1, fun hw => q _ _ ?_, fun _ p hp => q _ _ ?_⟩)
        · rw [s1.length] at hw
          rw [cut_all hw] at hfl ⊢
          exact g'.again hfl
        · exact g'.partTup hfl (tup_part (fun zs hz => tu hz q1) rfl fun A rs => rs.cut _ _) hp
      · cases hg
    · next z =>
      split at hg
      · next hz =>
        cases hg
        obtain ⟨A, r⟩ := g'.rep
        cases rep_str r
        exact .inr ⟨z, rfl, by rw [← sizeMax_eq]; exact hz, q _ _ (g'.flatNew (.str _))⟩
      · cases hg
    · cases hg
  · cases hg
def rSlG (K : PySem.W.Frag) : V → Option Int → Option Int → Hp → VK → Prop := fun x lo hi H Q => ∃ vl vh, (vl = .non ∧ lo = none ∨ ∃ i, vl = .int i ∧ lo = some i) ∧ (vh = .non ∧ hi = none ∨ ∃ i, vh = .int i ∧ hi = some i) ∧ spR K gSl [x, vl, vh] H Q
theorem sl_G : SlR X (rSlG X.K) := by
  intro pins s σ H x v vl vu lo hi sl Q I rx hs pl pu h
  obtain ⟨v1, v2, e1, e2, q⟩ := h
  exact sl_3 pins s σ H x v vl vu lo hi sl Q I rx hs pl pu (gSl_ok (fun a b => I.list_inj a b) (fun a b => I.tuple_inj a b) e1 e2 q)
def mSlice (a : Ag) (lo hi : Option EM) : EM := mCall gSl [a, agP lo, agP hi]
theorem toP_mono {K : PySem.W.Frag} {f : Option EM} {σ : St} {H : Hp} {Q Q' : Option Int → Hp → Prop} (h : toP K f σ H Q) (m : ∀ v H', Q v H' → Q' v H') : toP K f σ H Q' := by
  cases f with
  | none => exact m _ _ h
  | some f => exact semE_mono h fun v H' ⟨i, e, q⟩ => ⟨i, e, m _ _ q⟩
theorem ex_slice {a : Ag} {l h : Option EM} (hx : AX X x a) (hl : PartX X lo l) (hh : PartX X hi h) : EX X (.Subscript x (.Slice lo hi none p2) pos) (mSlice a l h) :=
  PE.weak (pe_slice sl_G hx hl hh) fun σ H Q q => by
    have q1 := call_by q (R := fun vs H1 => spR X.K gSl vs H1 Q) fun _ _ h => h
    have q2 : rdA X.K a σ H fun xv H1 => rdA X.K (agP l) σ H1 fun lv H2 => rdA X.K (agP h) σ H2 fun hv H3 => spR X.K gSl [xv, lv, hv] H3 Q := q1
    refine rdA_mono q2 fun xv H1 q3 => ?_
    refine toP_mono (part_read q3) fun lo' H2 ⟨lv, e1, q4⟩ => ?_
    exact toP_mono (part_read q4) fun hi' H3 ⟨hv, e2, q5⟩ => ⟨lv, hv, e1, e2, q5⟩
end
end LF
/-! LF9: isinstance, len, list, tuple, int, abs, all, sorted. -/
namespace LF
open PySem PySem.Spec L2
open PyProof.Rows hiding St
/-! ### isinstance -/
inductive Kd where
  | non | bl | int | str | tup | lst | dic
  deriving DecidableEq
def Kd.name : Kd → String
  | .non => "NoneType" | .bl => "bool" | .int => "int" | .str => "str" | .tup => "tuple" | .lst => "list" | .dic => "dict"
def D.kd : D → Option Kd
  | .non => some .non | .bl _ => some .bl | .int _ => some .int | .str _ => some .str | .tup _ => some .tup | .fro _ => some .lst | .lst _ => some .lst | .dic _ => some .dic | .ins _ _ => none
def isTy : Kd → Kd → Bool
  | .bl, .int => true
  | a, b => decide (a = b)
theorem kit_kd (a b : Kd) (hb : b ≠ .non) : kitB a.name b.name = some (isTy a b) := by
  cases b with
  | non => exact absurd rfl hb
  | bl => cases a <;> decide +kernel
  | int => cases a <;> decide +kernel
  | str => cases a <;> decide +kernel
  | tup => cases a <;> decide +kernel
  | lst => cases a <;> decide +kernel
  | dic => cases a <;> decide +kernel
theorem rep_kd {K : PySem.W.Frag} {H : Hp} {m : Bool} {d : D} {v : V} {A : List Addr} {k : Kd} (r : Rep K H m v d A) (h : d.kd = some k) : TyX K H v (.type k.name) := by
  cases r with
  | non => cases h; exact .base .non
  | bl b => cases h; exact .base (.bl b)
  | int i => cases h; exact .base (.int i)
  | str x => cases h; exact .base (.str x)
  | tup q _ =>
    cases h
    rcases q with (q | ⟨o, q⟩) | ⟨o, _, _, e, c, _⟩
    · exact .base (.tup q)
    · exact .fTuple q
    · exact .kTuple e c
  | fro q _ =>
    cases h
    rcases q with ⟨o, q⟩ | ⟨o, _, _, e, c, _⟩
    · exact .base (.frz q)
    · exact .kList e c
  | lst q _ _ =>
    cases h
    rcases q with q | ⟨o, q⟩
    · exact .base (.lst q)
    · exact .base (.frz q)
  | dic q _ _ => cases h; exact .base (.dK q)
  | ins q _ _ => cases h
def gIsi (ts : List Kd) : PM := fun ws => match ws with
  | [(d, b)] => match d.kd with
    | some k => some (.bl (ts.any (isTy k)), true, [some (d, b)])
    | none => none
  | _ => none
theorem kit_any {K : PySem.W.Frag} {k : Kd} : ∀ {ts : List Kd}, (∀ t ∈ ts, t ≠ .non) → PySem.W.kitAny K (.type k.name) (ts.map fun t => .type t.name) = some (ts.any (isTy k))
  | [], _ => kitAny_nil
  | t :: ts, h => by
    refine kitAny_cons (kit_ty (kit_kd k t (h t List.mem_cons_self))) (fun e => ?_) (fun e => ?_)
    · rw [List.any_cons, e, Bool.false_or]
      exact kit_any fun u hu => h u (List.mem_cons_of_mem _ hu)
    · rw [List.any_cons, e, Bool.true_or]
section
variable {X : Cx} {x y : Expr} {pos : Pos}
theorem ex_isi {f tn : Str} {p p2 : Pos} {a : Ag} {t : Kd} (ht : t ≠ .non) (hg : Gl X f) (hm : X.mg f = none) (hv : bootBuiltins f = some (.builtin "isinstance")) (ha : AX X x a)
    (hg2 : Gl X tn) (hm2 : X.mg tn = none) (hv2 : bootBuiltins tn = some (.type t.name)) (hn : f ≠ "__name__" := by decide) (hd : (f == ("__debug__" : Str)) = false := by decide)
    (hn2 : tn ≠ "__name__" := by decide) (hd2 : (tn == ("__debug__" : Str)) = false := by decide)
    (he : starEach [x, .Name tn p2] X.env = (false, eval x X.env) :: starEach [.Name tn p2] X.env := by rfl) (he2 : starEach [.Name tn p2] X.env = (false, eval (.Name tn p2) X.env) :: starEach [] X.env := by rfl)
    (hpl : ((backTo pos (starEach [.Name tn p2] X.env)).any fun x => x.fst) = false := by rfl) : EX X (.Call (.Name f p) [x, .Name tn p2] [] pos) (mCall (gIsi [t]) [a]) := by
  refine PE.weak (pe_callB call_isi hg hm hv (pa_cons ha (pa_cons (pe_bltn (v := .ty t.name) hg2 hm2 hv2 rfl hn2 hd2) pa_nil he2) he) hn hd he hpl) fun σ H Q q => ?_
  have q1 := call_by q (R := fun vs H1 => spR X.K (gIsi [t]) vs H1 Q) fun _ _ h => h
  have q2 : rdA X.K a σ H fun xv H1 => spR X.K (gIsi [t]) [xv] H1 Q := q1
  refine rdA_mono q2 fun xv H1 h => ?_
  obtain ⟨d, b, F, g, r, br, os, hg', ho, k⟩ := spR_one h
  unfold gIsi at hg'
  dsimp only at hg'
  split at hg'
  · next kd hk =>
    cases hg'
    obtain ⟨A, rp⟩ := g.rep
    refine ⟨xv, .ty t.name, _, _, _, rfl, .ty _, rep_kd rp hk, kit_ty (kit_kd kd t ht), ?_⟩
    have := k (.bl ([t].any (isTy kd))) H1 (g.flatNew (.bl _))
    rw [List.any_cons, List.any_nil, Bool.or_false] at this
    exact this
  · cases hg'
theorem ex_isi2 {f tn un : Str} {p p2 p3 p4 : Pos} {x1 : Nat} {a : Ag} {t u : Kd} (ht : t ≠ .non) (hu : u ≠ .non) (hg : Gl X f) (hm : X.mg f = none) (hv : bootBuiltins f = some (.builtin "isinstance")) (ha : AX X x a)
    (hg2 : Gl X tn) (hm2 : X.mg tn = none) (hv2 : bootBuiltins tn = some (.type t.name)) (hg3 : Gl X un) (hm3 : X.mg un = none) (hv3 : bootBuiltins un = some (.type u.name))
    (hn : f ≠ "__name__" := by decide) (hd : (f == ("__debug__" : Str)) = false := by decide)
    (hn2 : tn ≠ "__name__" := by decide) (hd2 : (tn == ("__debug__" : Str)) = false := by decide) (hn3 : un ≠ "__name__" := by decide) (hd3 : (un == ("__debug__" : Str)) = false := by decide)
    (he : starEach [x, .Tuple [.Name tn p2, .Name un p3] x1 p4] X.env = (false, eval x X.env) :: starEach [.Tuple [.Name tn p2, .Name un p3] x1 p4] X.env := by rfl)
    (he2 : starEach [.Tuple [.Name tn p2, .Name un p3] x1 p4] X.env = (false, eval (.Tuple [.Name tn p2, .Name un p3] x1 p4) X.env) :: starEach [] X.env := by rfl)
    (he3 : starEach [.Name tn p2, .Name un p3] X.env = (false, eval (.Name tn p2) X.env) :: starEach [.Name un p3] X.env := by rfl)
    (he4 : starEach [.Name un p3] X.env = (false, eval (.Name un p3) X.env) :: starEach [] X.env := by rfl)
    (hpl : ((backTo pos (starEach [.Tuple [.Name tn p2, .Name un p3] x1 p4] X.env)).any fun x => x.fst) = false := by rfl) : EX X (.Call (.Name f p) [x, .Tuple [.Name tn p2, .Name un p3] x1 p4] [] pos) (mCall (gIsi [t, u]) [a]) := by
  refine PE.weak (pe_callB call_isiT hg hm hv (pa_cons ha (pa_cons (pe_tup (pa_cons (pe_bltn (v := .ty t.name) hg2 hm2 hv2 rfl hn2 hd2) (pa_cons (pe_bltn (v := .ty u.name) hg3 hm3 hv3 rfl hn3 hd3) pa_nil he4) he3)) pa_nil he2) he) hn hd he hpl) fun σ H Q q => ?_
  have q1 := call_by q (R := fun vs H1 => spR X.K (gIsi [t, u]) vs H1 Q) fun _ _ h => h
  have q2 : rdA X.K a σ H fun xv H1 => spR X.K (gIsi [t, u]) [xv] H1 Q := q1
  refine rdA_mono q2 fun xv H1 h => ?_
  obtain ⟨d, b, F, g, r, br, os, hg', ho, k⟩ := spR_one h
  unfold gIsi at hg'
  dsimp only at hg'
  split at hg'
  · next kd hk =>
    cases hg'
    refine ⟨?_, fun tp hp => ?_⟩
    · show 2 ≤ sizeLine
      rw [sizeLine_eq]; omega
    have g1 := g.new (o := .tup [.ty t.name, .ty u.name]) hp
    obtain ⟨A, rp⟩ := g1.rep
    refine ⟨xv, tp, _, _, [.type t.name, .type u.name], _, rfl, upd_same, .cons (.ty _) (.cons (.ty _) .nil), rep_kd rp hk, kit_any (ts := [t, u]) ?_, ?_⟩
    · intro z hz
      rcases List.mem_cons.mp hz with e | e
      · rw [e]; exact ht
      · rw [List.mem_singleton.mp e]; exact hu
    · exact k (.bl _) _ (g1.flatNew (.bl _))
  · cases hg'
end
/-! ### len, list, tuple, int, abs, all -/
def gLen : PM := gR1 fun d => match d with
  | .str z => if z.length ≤ sizeMax then some (.int (z.length : Nat)) else none
  | .lst l => some (.int (l.length : Nat))
  | .tup l => some (.int (l.length : Nat))
  | .fro l => some (.int (l.length : Nat))
  | .dic l => some (.int (l.length : Nat))
  | _ => none
def gInt : PM := gR1 fun d => match d with
  | .int i => some (.int i)
  | .bl b => some (.int (if b then 1 else 0))
  | _ => none
def gAbs : PM := gR1 fun d => match d with
  | .int i => some (.int (if i < 0 then -i else i))
  | _ => none
def blOf : D → Option Bool
  | .bl b => some b
  | _ => none
def allOf : List D → Option (List Bool)
  | [] => some []
  | d :: l => match d, allOf l with
    | .bl b, some bs => some (b :: bs)
    | _, _ => none
def gAll : PM := gR1 fun d => match d with
  | .lst l => (allOf l).map fun bs => .bl (bs.all id)
  | _ => none
def gAny : PM := gR1 fun d => match d with
  | .lst l => (allOf l).map fun bs => .bl (bs.any id)
  | _ => none
theorem reps_bls {K : PySem.W.Frag} {H : Hp} {m : Bool} : ∀ {vs : List V} {ds : List D} {A : List Addr} {bs : List Bool}, Reps K H m vs ds A → allOf ds = some bs → vs = bs.map V.bl
  | _, _, _, _, .nil, h => by cases h; rfl
  | _, _, _, _, .cons (d := d) (ds := ds) r rs, h => by
    unfold allOf at h
    split at h
    · next b bs h2 =>
      cases h
      rw [rep_bl r, reps_bls rs h2]
      rfl
    · cases h
def gList : PM := fun ws => match ws with
  | [(a, ba)] => match a with
    | .lst l => (partFl l ba).map fun fl => (.lst l, fl, [some (a, ba)])
    | .fro l => (partFl l ba).map fun fl => (.lst l, fl, [some (a, ba)])
    | .tup l => (partFl l ba).map fun fl => (.lst l, fl, [some (a, ba)])
    | _ => none
  | _ => none
def gTuple : PM := fun ws => match ws with
  | [(a, ba)] => match a with
    | .lst l => (partFl l ba).map fun fl => (.tup l, fl, [some (a, ba)])
    | .fro l => (partFl l ba).map fun fl => (.tup l, fl, [some (a, ba)])
    | .tup l => (partFl l ba).map fun fl => (.tup l, fl, [some (a, ba)])
    | _ => none
  | _ => none
theorem spR_n {K : PySem.W.Frag} {g : PM} {xs : List V} {H : Hp} {Q : VK} {n : Nat} (h : spR K g xs H Q) (hg : ∀ ws r, g ws = some r → ws.length = n) : xs.length = n := by
  obtain ⟨ws, F, gd, hl, d, b, os, h1, _⟩ := h
  rw [hl]
  exact hg ws _ h1
theorem spR_1 {K : PySem.W.Frag} {g : PM} {xs : List V} {H : Hp} {Q : VK} (h : spR K g xs H Q) (hg : ∀ ws r, g ws = some r → ws.length = 1) : ∃ x, xs = [x] := by
  have := spR_n h hg
  match xs, this with
  | [x], _ => exact ⟨x, rfl⟩
theorem gR1_len {f : D → Option D} : ∀ ws r, gR1 f ws = some r → ws.length = 1
  | [], _, h => nomatch h
  | [(a, b)], _, _ => rfl
  | _ :: _ :: _, _, h => nomatch h
theorem gList_len : ∀ ws r, gList ws = some r → ws.length = 1
  | [], _, h => nomatch h
  | [(a, b)], _, _ => rfl
  | _ :: _ :: _, _, h => nomatch h
theorem gTuple_len : ∀ ws r, gTuple ws = some r → ws.length = 1
  | [], _, h => nomatch h
  | [(a, b)], _, _ => rfl
  | _ :: _ :: _, _, h => nomatch h
section
variable {X : Cx}
theorem fx_len : FnX X (.builtin "len") gLen := by
  intro pins s σ H xs us Q I r h
  obtain ⟨x, rfl⟩ := spR_1 h gR1_len
  obtain ⟨a, d, A, ba, rp, hf, q, _⟩ := one h
  cases a with
  | str z =>
    dsimp only at hf
    split at hf
    · next hz =>
      cases hf; cases rep_str rp
      exact call_len pins s σ H _ us Q I r ⟨_, _, rfl, ⟨by rw [← sizeMax_eq]; exact hz, rfl⟩, q _ (.int _)⟩
    · cases hf
  | lst l =>
    cases hf
    obtain ⟨a1, vs, A1, rfl, q1, _, s1⟩ := rep_lstS rp
    exact call_len pins s σ H _ us Q I r ⟨_, _, rfl, .inl ⟨vs, .inl q1, s1.length.symm⟩, q _ (.int _)⟩
  | fro l =>
    cases hf
    obtain ⟨a1, vs, rfl, q1, s1⟩ := rep_froS rp
    exact call_len pins s σ H _ us Q I r ⟨_, _, rfl, .inl ⟨vs, q1, s1.length.symm⟩, q _ (.int _)⟩
  | tup l =>
    cases hf
    obtain ⟨a1, vs, rfl, q1, s1⟩ := rep_tupS rp
    exact call_len pins s σ H _ us Q I r ⟨_, _, rfl, .inr ⟨vs, q1, s1.length.symm⟩, q _ (.int _)⟩
  | dic l =>
    cases hf
    cases rp with
    | @dic a kvs _ A3 ea ek rs =>
      have hlen : kvs.length = l.length := by
        have := congrArg List.length ek
        simpa using this
      have q' := q (.int (l.length : Nat)) (.int _)
      rw [← hlen] at q'
      exact call_lenD pins s σ H _ us Q I r ⟨a, kvs, rfl, ea, q'⟩
  | non => cases hf
  | bl b => cases hf
  | int i => cases hf
  | ins C l => cases hf
theorem fx_int : FnX X (.type "int") gInt := by
  intro pins s σ H xs us Q I r h
  obtain ⟨x, rfl⟩ := spR_1 h gR1_len
  obtain ⟨a, d, A, ba, rp, hf, q, _⟩ := one h
  split at hf
  · cases hf; cases rep_int rp
    exact call_int1 pins s σ H _ us Q I r (.inl ⟨_, rfl, q _ (.int _)⟩)
  · cases hf; cases rep_bl rp
    exact call_int1 pins s σ H _ us Q I r (.inr ⟨_, rfl, q _ (.int _)⟩)
  · cases hf
theorem fx_abs : FnX X (.builtin "abs") gAbs := by
  intro pins s σ H xs us Q I r h
  obtain ⟨x, rfl⟩ := spR_1 h gR1_len
  obtain ⟨a, d, A, ba, rp, hf, q, _⟩ := one h
  split at hf
  · cases hf; cases rep_int rp
    exact call_abs pins s σ H _ us Q I r ⟨_, rfl, q _ (.int _)⟩
  · cases hf
theorem fx_all (hc : X.calm = true) : FnX X (.builtin "all") gAll := by
  intro pins s σ H xs us Q I r h
  obtain ⟨x, rfl⟩ := spR_1 h gR1_len
  obtain ⟨a, d, A, ba, rp, hf, q, _⟩ := one h
  split at hf
  · next l =>
    obtain ⟨bs, h1, h2⟩ := Option.map_eq_some_iff.mp hf
    subst h2
    obtain ⟨a1, vs, A1, rfl, q1, _, s1⟩ := rep_lstS rp
    have e := reps_bls s1 h1
    subst e
    exact cr_all hc pins s σ H _ us Q I r ⟨_, bs, rfl, .inl q1, q _ (.bl _)⟩
  · cases hf
theorem fx_any (hc : X.calm = true) : FnX X (.builtin "any") gAny := by
  intro pins s σ H xs us Q I r h
  obtain ⟨x, rfl⟩ := spR_1 h gR1_len
  obtain ⟨a, d, A, ba, rp, hf, q, _⟩ := one h
  split at hf
  · next l =>
    obtain ⟨bs, h1, h2⟩ := Option.map_eq_some_iff.mp hf
    subst h2
    obtain ⟨a1, vs, A1, rfl, q1, _, s1⟩ := rep_lstS rp
    have e := reps_bls s1 h1
    subst e
    exact cr_any hc pins s σ H _ us Q I r ⟨_, bs, rfl, .inl q1, q _ (.bl _)⟩
  · cases hf
theorem fx_list : FnX X (.type "list") gList := by
  intro pins s σ H xs us Q I r h
  obtain ⟨x, rfl⟩ := spR_1 h gList_len
  obtain ⟨a, ba, F, g, d, bd, os, hg, ho, q⟩ := spR_one h
  unfold gList at hg
  dsimp only at hg
  split at hg
  · next l =>
    obtain ⟨fl, h1, h2⟩ := Option.map_eq_some_iff.mp hg
    cases h2
    obtain ⟨A, rp⟩ := g.rep
    obtain ⟨a1, vs, A1, rfl, q1, _, s1⟩ := rep_lstS rp
    refine call_list_of pins s σ H _ us Q I r ⟨a1, vs, rfl, .inl (.inl q1), fun p hp => q _ _ ?_⟩
    exact g.partLst h1 (lst_part (fun zs hz => I.list_inj hz (.inl q1)) rfl fun A rs => ⟨A, rs, fun _ h => h⟩) hp
  · next l =>
    obtain ⟨fl, h1, h2⟩ := Option.map_eq_some_iff.mp hg
    cases h2
    obtain ⟨A, rp⟩ := g.rep
    obtain ⟨a1, vs, rfl, q1, s1⟩ := rep_froS rp
    refine call_list_of pins s σ H _ us Q I r ⟨a1, vs, rfl, .inl q1, fun p hp => q _ _ ?_⟩
    exact g.partLst h1 (fro_part (fun zs hz => I.list_inj hz q1) rfl fun A rs => ⟨A, rs, fun _ h => h⟩) hp
  · next l =>
    obtain ⟨fl, h1, h2⟩ := Option.map_eq_some_iff.mp hg
    cases h2
    obtain ⟨A, rp⟩ := g.rep
    obtain ⟨a1, vs, rfl, q1, s1⟩ := rep_tupS rp
    refine call_list_of pins s σ H _ us Q I r ⟨a1, vs, rfl, .inr q1, fun p hp => q _ _ ?_⟩
    exact g.partLst h1 (tup_part (fun zs hz => I.tuple_inj hz q1) rfl fun A rs => ⟨A, rs, fun _ h => h⟩) hp
  · cases hg
theorem fx_tuple : FnX X (.type "tuple") gTuple := by
  intro pins s σ H xs us Q I r h
  obtain ⟨x, rfl⟩ := spR_1 h gTuple_len
  obtain ⟨a, ba, F, g, d, bd, os, hg, ho, q⟩ := spR_one h
  unfold gTuple at hg
  dsimp only at hg
  split at hg
  · next l =>
    obtain ⟨fl, h1, h2⟩ := Option.map_eq_some_iff.mp hg
    cases h2
    obtain ⟨A, rp⟩ := g.rep
    obtain ⟨a1, vs, A1, rfl, q1, _, s1⟩ := rep_lstS rp
    refine call_tuple_of pins s σ H _ us Q I r ⟨a1, vs, rfl, .inl ⟨.inl q1, fun p hp => q _ _ ?_⟩⟩
    exact g.partTup h1 (lst_part (fun zs hz => I.list_inj hz (.inl q1)) rfl fun A rs => ⟨A, rs, fun _ h => h⟩) hp
  · next l =>
    obtain ⟨fl, h1, h2⟩ := Option.map_eq_some_iff.mp hg
    cases h2
    obtain ⟨A, rp⟩ := g.rep
    obtain ⟨a1, vs, rfl, q1, s1⟩ := rep_froS rp
    refine call_tuple_of pins s σ H _ us Q I r ⟨a1, vs, rfl, .inl ⟨q1, fun p hp => q _ _ ?_⟩⟩
    exact g.partTup h1 (fro_part (fun zs hz => I.list_inj hz q1) rfl fun A rs => ⟨A, rs, fun _ h => h⟩) hp
  · next l =>
    obtain ⟨fl, h1, h2⟩ := Option.map_eq_some_iff.mp hg
    cases h2
    obtain ⟨A, rp⟩ := g.rep
    obtain ⟨a1, vs, rfl, q1, s1⟩ := rep_tupS rp
    exact call_tuple_of pins s σ H _ us Q I r ⟨a1, vs, rfl, .inr ⟨q1, q _ _ (g.again h1)⟩⟩
  · cases hg
end
/-! ### sorted, of ints -/
def insI (x : Int) : List Int → List Int
  | [] => [x]
  | y :: l => if x ≤ y then x :: y :: l else y :: insI x l
def srtI : List Int → List Int
  | [] => []
  | x :: l => insI x (srtI l)
theorem insI_perm (x : Int) : ∀ l, (insI x l).Perm (x :: l)
  | [] => .refl _
  | y :: l => by
    unfold insI
    split
    · exact .refl _
    · exact ((insI_perm x l).cons y).trans (.swap _ _ _)
theorem srtI_perm : ∀ l, (srtI l).Perm l
  | [] => .refl _
  | x :: l => (insI_perm x _).trans ((srtI_perm l).cons x)
theorem insI_sorted (x : Int) : ∀ {l}, l.Pairwise (· ≤ ·) → (insI x l).Pairwise (· ≤ ·)
  | [], _ => List.pairwise_singleton _ _
  | y :: l, h => by
    unfold insI
    have h' := List.pairwise_cons.mp h
    split
    · next hxy =>
      refine List.pairwise_cons.mpr ⟨fun z hz => ?_, h⟩
      rcases List.mem_cons.mp hz with e | e
      · rw [e]; exact hxy
      · exact Int.le_trans hxy (h'.1 z e)
    · next hxy =>
      refine List.pairwise_cons.mpr ⟨fun z hz => ?_, insI_sorted x h'.2⟩
      rcases List.mem_cons.mp ((insI_perm x l).mem_iff.mp hz) with e | e
      · rw [e]; omega
      · exact h'.1 z e
theorem srtI_sorted : ∀ l, (srtI l).Pairwise (· ≤ ·)
  | [] => .nil
  | x :: l => insI_sorted x (srtI_sorted l)
theorem srtI_uniq {ns' ns : List Int} (h : ns'.Perm ns) (s : ns'.Pairwise (· ≤ ·)) : ns' = srtI ns :=
  List.Perm.eq_of_pairwise (fun _ _ _ _ a b => Int.le_antisymm a b) s (srtI_sorted ns) (h.trans (srtI_perm ns).symm)
def intsOf : List D → Option (List Int)
  | [] => some []
  | d :: l => match d, intsOf l with
    | .int i, some is => some (i :: is)
    | _, _ => none
theorem reps_ints {K : PySem.W.Frag} {H : Hp} {m : Bool} : ∀ {vs : List V} {ds : List D} {A : List Addr} {bs : List Int}, Reps K H m vs ds A → intsOf ds = some bs → vs = bs.map V.int
  | _, _, _, _, .nil, h => by cases h; rfl
  | _, _, _, _, .cons (d := d) (ds := ds) r rs, h => by
    unfold intsOf at h
    split at h
    · next b bs h2 =>
      cases h
      rw [rep_int r, reps_ints rs h2]
      rfl
    · cases h
theorem ints_reps {K : PySem.W.Frag} {H : Hp} {m : Bool} : ∀ bs : List Int, Reps K H m (bs.map V.int) (bs.map D.int) []
  | [] => .nil
  | b :: bs => Reps.cons (.int b) (ints_reps bs)
theorem ints_imm : ∀ bs : List Int, D.imms (bs.map D.int) = true
  | [] => rfl
  | b :: bs => ints_imm bs
def gSorted : PM := fun ws => match ws with
  | [(a, ba)] => match a with
    | .lst l => (intsOf l).map fun is => (.lst ((srtI is).map D.int), true, [some (a, ba)])
    | .tup l => (intsOf l).map fun is => (.lst ((srtI is).map D.int), true, [some (a, ba)])
    | _ => none
  | _ => none
theorem gSorted_len : ∀ ws r, gSorted ws = some r → ws.length = 1
  | [], _, h => nomatch h
  | [(a, b)], _, _ => rfl
  | _ :: _ :: _, _, h => nomatch h
section
variable {prog : Program} {w : World} {A : Around} {E : Value → Shared → Prop} {s : Shared}
/-- sorted(t), t a tuple or a list of any items that are put in order: what is made stands behind all that stood -/
theorem sorted_any {t : Addr} {T : String} {o : Obj} {n : Nat} {vs : List Value} {ltv : Value → Value → Bool} {Q : Value → Shared → Prop} (hT : T = "list" ∨ T = "tuple") (ho : s.heap.get? t = some o) (hc : o.cls = .type T) (hd : o.data = .seq vs.toArray n)
    (O : SrtO.Swo ltv) (hz : vs.length ≤ sizeLine) (hS : 2 ≤ vs.length → ∀ s' a, SrtO.SortableO prog w A.in1.in1 s' a vs ltv)
    (h : ∀ (h1 : Heap) (out : List Value), (∀ b u, s.heap.get? b = some u → h1.get? b = some u) → SrtO.Srtd ltv out → SrtO.Stb ltv out vs →
      Q (.ref h1.objs.size) { s with heap := sortedHeap (h1.push (seqObj "list" vs.toArray 0)) h1.objs.size vs out.toArray }) :
    wpAny (model prog w) A (call (.builtin "sorted") [.ref t]) Q E s := by
  have sz : vs.toArray.size ≤ sizeLine := by rw [List.size_toArray]; exact hz
  refine Calls.call_function_entry kind_sorted plain_sorted entry_sorted (args_sorted1 _) ?_
  unfold Builtin.«sorted»
  refine wpAny_bind (m := checkCount "sorted" 1 1 _) (wpAny_pure (wpAny_bind (wpAny_collect_seq (hsz := sz) t hT ho hc hd fun h1 kp => ?_)))
  have e1 : vs.toArray.toList = vs := by simp
  rw [e1]
  refine wpAny_bind (wpAny_newList ?_ hz)
  have at1 : (h1.push (seqObj "list" vs.toArray 0)).get? h1.objs.size = some (seqObj "list" vs.toArray 0) := Heap.get?_push_size _ rfl
  have srt := SrtO.list_sort_ord (A := A.in1.in1) (E := E) (s := { s with heap := h1.push (seqObj "list" vs.toArray 0) }) (R := fun f s' => f = .done (.ret .none) ∧ ∃ out, SrtO.Srtd ltv out ∧ SrtO.Stb ltv out vs ∧ s' = { s with heap := sortedHeap (h1.push (seqObj "list" vs.toArray 0)) h1.objs.size vs out.toArray }) O at1 hz (fun h2 => hS h2 _ _) fun out k1 k2 => ⟨rfl, out, k1, k2, rfl⟩
  refine wpAny_bind (wpAny_holding (wpAny_call_entry slot_list_sort ⟨_, at1, rfl⟩ entry_list_sort (wpAny_mono srt (fun f s' ⟨ef, out, k1, k2, es⟩ => ?_) fun _ _ e => e) (args_list_sort _)))
  subst ef es
  exact ⟨_, rfl, wpAny_pure ⟨_, rfl, h h1 out kp k1 k2⟩⟩
end
section
variable {X : Cx}
theorem sorted_end {pins : List (Addr × Obj)} {σ : St} {H : Hp} {s : Shared} {Q : VK} {ns : List Int} {F : List Cell} (I : Inv X pins σ H s) (g : Good X.K H F) (q : ∀ v H', Good X.K H' (⟨v, .lst ((srtI ns).map D.int), true⟩ :: F) → Q v H') :
    ∀ (ns' : List Int) (p : Addr), ns'.Perm ns → ns'.Pairwise (· ≤ ·) → H p = none → Q (.ref p) (upd H p (.lst (ns'.map V.int))) := by
  intro ns' p h1 h2 hp
  rw [srtI_uniq h1 h2]
  exact q _ _ (g.lstImm (ints_reps (m := true) _) (ints_imm _) hp)
theorem fx_sorted : FnX X (.builtin "sorted") gSorted := by
  intro pins s σ H xs us Q I r h
  obtain ⟨x, rfl⟩ := spR_1 h gSorted_len
  obtain ⟨a, ba, F, g, d, bd, os, hg, ho, q⟩ := spR_one h
  unfold gSorted at hg
  dsimp only at hg
  split at hg
  · next l =>
    obtain ⟨ns, h1, h2⟩ := Option.map_eq_some_iff.mp hg
    cases h2
    obtain ⟨A, rp⟩ := g.rep
    obtain ⟨a1, vs, A1, rfl, q1, _, s1⟩ := rep_lstS rp
    have e := reps_ints s1 h1
    subst e
    exact cr_sortedI pins s σ H _ us Q I r ⟨_, ns, rfl, .inl q1, sorted_end I g fun v H' gd => q v H' gd⟩
  · next l =>
    obtain ⟨ns, h1, h2⟩ := Option.map_eq_some_iff.mp hg
    cases h2
    obtain ⟨A, rp⟩ := g.rep
    obtain ⟨a1, vs, rfl, q1, s1⟩ := rep_tupS rp
    have e := reps_ints s1 h1
    subst e
    obtain ⟨its, rv, pl, hz⟩ := I.tuple q1
    have hi := rv.ints
    rw [Vals.ref1 r]
    obtain ⟨o, ho', hc, n, hd⟩ := pl
    refine sorted_any (.inr rfl) ho' hc hd SrtO.swo_int (by rw [← rv.length]; exact hz) (fun h2 s' a' => SrtO.ints_sortable hi h2) fun hp1 out kp k1 k2 => ?_
    obtain ⟨j1, j2, j3⟩ := SrtO.ints_out hi k1 k2
    have at1 : (hp1.push (seqObj "list" its.toArray 0)).get? hp1.objs.size = some (seqObj "list" its.toArray 0) := Heap.get?_push_size _ rfl
    obtain ⟨ep, he'⟩ := PyProof.Rows.sortedHeap_at (vs := its) (out := out.toArray) at1
    have I1 : Inv X pins σ H { s with heap := hp1 } := I.kept (t' := s.toks) kp
    have hlen : ((out.map SrtO.iv).map V.int).length ≤ sizeLine := by
      rw [List.length_map, j2.length_eq]
      rw [List.length_map] at hz
      exact hz
    refine ⟨.ref _, upd H hp1.objs.size (.lst ((out.map SrtO.iv).map V.int)), I1.laid (t' := s.toks) (fun b u e => ?_) (Nat.le_refl _) ⟨hlen, out, ep, vals_of_ints j1, he'⟩, rfl, sorted_end I g (fun v H' gd => q v H' gd) _ _ j2 j3 (I1.hok.fresh (Nat.le_refl _))⟩
    have hlt : b < hp1.objs.size := Heap.lt_size e
    exact PyProof.Rows.sortedHeap_old (Nat.ne_of_lt hlt) (by rw [size_push']; exact Nat.lt_succ_of_lt hlt) |>.trans (Heap.get?_push_of_some _ e)
  · cases hg
end
end LF
/-! LZ1: list(zip(a, b)), tuples or lists: the walk of zip while the tuples it gave out are held. -/
namespace LF
open PySem
section
variable {prog : Program} {w : World} {A : Around}
theorem tupDraws (hh : A.handled = none) (it l : Addr) (hne : l ≠ it) (items : Array Value) :
    Draws prog w A it [it, l] items.size (fun i v => items[i]? = some v) (fun i h => h.IsTupleIter it l i ∧ h.IsTuple l items) := by
  refine ⟨fun _ _ st => ?_, fun _ _ _ st hk => ?_, fun i s Q E hi st hQ => ?_, fun s Q E st hE => ?_⟩
  · obtain ⟨o, ho, _⟩ := st.1
    exact ⟨o, ho⟩
  · refine ⟨st.1.at fun o e => hk it List.mem_cons_self o e, ?_⟩
    obtain ⟨o, ho, r⟩ := st.2
    exact ⟨o, hk l (List.mem_cons_of_mem _ List.mem_cons_self) o ho, r⟩
  · have hg : items[i]? = some items[i] := by simp [hi]
    refine RZ.nextOf_tuple_item st.1 st.2 hg fun h1 hit1 sb => hQ _ h1 s.toks hg ⟨hit1, ?_⟩ sb
    obtain ⟨o, ho, r⟩ := st.2
    exact ⟨o, sb.extBut _ _ hne ho, r⟩
  · exact RZ.nextOf_tuple_end hh st.1 st.2 (by simp) hE
end
section
variable {prog : Program} {w : World} {A : Around} {E : Value → Shared → Prop} {s : Shared} {z TI TO T i1 i2 : Addr} {f : Bool} {oT : Obj} {fp1 fp2 : List Addr} {n1 n2 i : Nat} {P1 P2 : Nat → Value → Prop} {St1 St2 : Nat → Heap → Prop}
/-- the next pair while the one given out first is still there -/
theorem held_item0 {Q : Value → Shared → Prop} (S : ZipSep2 z TI TO i1 i2 fp1 fp2) (D1 : Draws prog w A i1 fp1 n1 P1 St1) (D2 : Draws prog w A i2 fp2 n2 P2 St2)
    (hz : IsZipHeld s.heap z TI TO T f) (hT : s.heap.get? T = some oT) (hTI : IsTupOf2 s.heap TI (.ref i1) (.ref i2)) (st1 : St1 i s.heap) (st2 : St2 i s.heap) (lt1 : i < n1) (lt2 : i < n2)
    (hQ : ∀ x1 x2 h' tk, P1 i x1 → P2 i x2 → IsZipHeld h' z TI TO T true → St1 (i + 1) h' → St2 (i + 1) h' → IsTupOf2 h' s.heap.objs.size x1 x2 → h'.objs.size = s.heap.objs.size + 1 →
      (∀ c o, c ∉ [z, i1, i2] → s.heap.get? c = some o → h'.get? c = some o) → Q (.ref s.heap.objs.size) { s with heap := h', toks := tk }) :
    wpAny (model prog w) A (Builtin.«zip.__next__» ⟨[.ref z], []⟩) (fun fin s' => ∃ v, fin = .done (.ret v) ∧ Q v s') E s := by
  obtain ⟨hp, gs, dr, tk0, os⟩ := s
  show wpAny _ _ (field (.ref z) 2 >>= fun _ => _) _ _ _
  refine wpAny_bind (wpAny_field hz rfl (x := .bool false) rfl ?_)
  show wpAny _ _ (field (.ref z) 3 >>= fun _ => _) _ _ _
  refine wpAny_bind (wpAny_field hz rfl (x := .ref TI) rfl (wpAny_bind (wpAny_seqItems hTI rfl ?_)))
  show wpAny _ _ (Builtin.SmallTypes.ownedTupleIsFree (.ref z) >>= fun _ => _) _ _ _
  refine wpAny_bind (wpAny_tupleHeld_zip hz hT fun q0 hz0 sb0 => ?_)
  replace hz0 : IsZipHeld q0 z TI TO T true := hz0
  replace sb0 : Heap.SameBut z hp q0 := sb0
  simp only [Bool.false_eq_true, if_false]
  refine wpAny_bind ?_
  rw [← Array.forIn_toList]
  simp only [List.forIn_cons, List.forIn_nil]
  refine wpAny_bind (wpAny_bind (wpAny_holding ?_))
  show wpAny _ _ (Builtin.SmallTypes.nextOf (.ref i1) >>= fun _ => _) _ _ ⟨q0, gs, dr, tk0, os⟩
  refine wpAny_bind (D1.item i _ _ _ lt1 (D1.over st1 sb0 S.zf1) fun x1 q1 tk1 hx1 sn1 sb1 => wpAny_pure (wpAny_pure ?_))
  replace sb1 : Heap.SameBut i1 q0 q1 := sb1
  refine wpAny_bind (wpAny_bind (wpAny_holding ?_))
  show wpAny _ _ (Builtin.SmallTypes.nextOf (.ref i2) >>= fun _ => _) _ _ ⟨q1, gs, dr, tk1, os⟩
  refine wpAny_bind (D2.item i _ _ _ lt2 (D2.over (D2.over st2 sb0 S.zf2) sb1 S.sep1_2) fun x2 q2 tk2 hx2 sn2 sb2 => wpAny_pure (wpAny_pure (wpAny_pure ?_)))
  replace sb2 : Heap.SameBut i2 q1 q2 := sb2
  show wpAny _ _ (newTuple [x1, x2] >>= fun _ => _) _ _ ⟨q2, gs, dr, tk2, os⟩
  refine wpAny_bind (wpAny_newTuple (wpAny_pure ⟨_, rfl, ?_⟩))
  have hsz : q2.objs.size = hp.objs.size := by rw [sb2.1, sb1.1, sb0.1]
  have hz2 : IsZipHeld q2 z TI TO T true := sb2.extBut _ _ S.zi2 (sb1.extBut _ _ S.zi1 hz0)
  have kp : ∀ c o, c ∉ [z, i1, i2] → hp.get? c = some o → q2.get? c = some o := fun c o hc e => by
    have c1 : c ≠ z := fun e => hc (by simp [e])
    have c2 : c ≠ i1 := fun e => hc (by simp [e])
    have c3 : c ≠ i2 := fun e => hc (by simp [e])
    exact sb2.extBut _ _ c3 (sb1.extBut _ _ c2 (sb0.extBut _ _ c1 e))
  have psh : ∀ c o, q2.get? c = some o → (q2.push { cls := .type "tuple", data := .seq #[x1, x2] }).get? c = some o := fun c o e => Heap.get?_push_of_some _ e
  have fin := hQ x1 x2 (q2.push { cls := .type "tuple", data := .seq #[x1, x2] }) tk2 hx1 hx2 (psh _ _ hz2) (D1.frame _ _ _ (D1.over sn1 sb2 S.sep2_1) fun b _ o e => psh b o e) (D2.frame _ _ _ sn2 fun b _ o e => psh b o e)
    (by show Heap.get? _ hp.objs.size = _; rw [← hsz]; exact Heap.get?_push_size _ rfl) (by rw [Heap.size_push, hsz]) fun c o hc e => psh c o (kp c o hc e)
  show Q (.ref q2.objs.size) _
  rw [hsz]
  exact fin
theorem held_end0 {Q : Fin → Shared → Prop} (S : ZipSep2 z TI TO i1 i2 fp1 fp2) (D1 : Draws prog w A i1 fp1 n1 P1 St1) (D2 : Draws prog w A i2 fp2 n2 P2 St2)
    (hz : IsZipHeld s.heap z TI TO T f) (hT : s.heap.get? T = some oT) (hTI : IsTupOf2 s.heap TI (.ref i1) (.ref i2)) (st1 : St1 i s.heap) (st2 : St2 i s.heap) (le1 : i ≤ n1) (le2 : i ≤ n2) (hend : i = n1 ∨ i = n2)
    (hE : ∀ h' tk e, (∀ c o, c ∉ [z, i1, i2] → s.heap.get? c = some o → h'.get? c = some o) → (∃ o, h'.get? e = some o ∧ o.cls = .type "StopIteration") → E (.ref e) { s with heap := h', toks := tk }) :
    wpAny (model prog w) A (Builtin.«zip.__next__» ⟨[.ref z], []⟩) Q E s := by
  obtain ⟨hp, gs, dr, tk0, os⟩ := s
  show wpAny _ _ (field (.ref z) 2 >>= fun _ => _) _ _ _
  refine wpAny_bind (wpAny_field hz rfl (x := .bool false) rfl ?_)
  show wpAny _ _ (field (.ref z) 3 >>= fun _ => _) _ _ _
  refine wpAny_bind (wpAny_field hz rfl (x := .ref TI) rfl (wpAny_bind (wpAny_seqItems hTI rfl ?_)))
  show wpAny _ _ (Builtin.SmallTypes.ownedTupleIsFree (.ref z) >>= fun _ => _) _ _ _
  refine wpAny_bind (wpAny_tupleHeld_zip hz hT fun q0 hz0 sb0 => ?_)
  replace sb0 : Heap.SameBut z hp q0 := sb0
  have apart : ∀ {c : Addr}, c ∉ [z, i1, i2] → c ≠ z ∧ c ≠ i1 ∧ c ≠ i2 := fun hc => ⟨fun e => hc (by simp [e]), fun e => hc (by simp [e]), fun e => hc (by simp [e])⟩
  simp only [Bool.false_eq_true, if_false]
  refine wpAny_bind ?_
  rw [← Array.forIn_toList]
  simp only [List.forIn_cons, List.forIn_nil]
  refine wpAny_bind (wpAny_bind (wpAny_holding ?_))
  show wpAny _ _ (Builtin.SmallTypes.nextOf (.ref i1) >>= fun _ => _) _ _ ⟨q0, gs, dr, tk0, os⟩
  by_cases lt1 : i < n1
  · have e2 : i = n2 := by omega
    refine wpAny_bind (D1.item i _ _ _ lt1 (D1.over st1 sb0 S.zf1) fun x1 q1 tk1 hx1 sn1 sb1 => wpAny_pure (wpAny_pure ?_))
    replace sb1 : Heap.SameBut i1 q0 q1 := sb1
    refine wpAny_bind (wpAny_bind (wpAny_holding ?_))
    show wpAny _ _ (Builtin.SmallTypes.nextOf (.ref i2) >>= fun _ => _) _ _ ⟨q1, gs, dr, tk1, os⟩
    refine wpAny_bind (D2.done ⟨q1, gs, dr, tk1, os⟩ _ _ (by rw [← e2]; exact D2.over (D2.over st2 sb0 S.zf2) sb1 S.sep1_2) fun q2 x sb2 hx => ?_)
    exact hE q2 tk1 x (fun c o hc e => sb2 _ _ (apart hc).2.2 (sb1.extBut _ _ (apart hc).2.1 (sb0.extBut _ _ (apart hc).1 e))) hx
  · have e1 : i = n1 := by omega
    refine wpAny_bind (D1.done ⟨q0, gs, dr, tk0, os⟩ _ _ (by rw [← e1]; exact D1.over st1 sb0 S.zf1) fun q1 x sb1 hx => ?_)
    exact hE q1 tk0 x (fun c o hc e => sb1 _ _ (apart hc).2.1 (sb0.extBut _ _ (apart hc).1 e)) hx
end
/-- the zip at its turn i, the pairs it gave out held by somebody -/
def ZAt (St1 St2 : Nat → Heap → Prop) (z TI TO i1 i2 S : Addr) (i : Nat) (h : Heap) : Prop := IsTupOf2 h TI (.ref i1) (.ref i2) ∧ St1 i h ∧ St2 i h ∧
  ((IsZip h z TI TO .none ∧ ∃ a b, IsTupOf2 h TO a b) ∨ ∃ T f oT, IsZipHeld h z TI TO T f ∧ h.get? T = some oT ∧ T ∉ [z, TO, i1, i2, S])
section
variable {prog : Program} {w : World} {A : Around} {E : Value → Shared → Prop} {s : Shared} {z TI TO i1 i2 S : Addr} {fp1 fp2 : List Addr} {n1 n2 i : Nat} {P1 P2 : Nat → Value → Prop} {St1 St2 : Nat → Heap → Prop}
theorem ZAt.typeIs (h : ZAt St1 St2 z TI TO i1 i2 S i s.heap) : s.TypeIs (.ref z) "zip" := by
  obtain ⟨_, _, _, ⟨hz, _⟩ | ⟨_, _, _, hz, _⟩⟩ := h
  · exact ⟨_, hz, rfl⟩
  · exact ⟨_, hz, rfl⟩
theorem ZAt.frame {h h' : Heap} (Sp : ZipSep2 z TI TO i1 i2 fp1 fp2) (D1 : Draws prog w A.in1 i1 fp1 n1 P1 St1) (D2 : Draws prog w A.in1 i2 fp2 n2 P2 St2) (k : ∀ b o, b ≠ S → h.get? b = some o → h'.get? b = some o) (nS : S ∉ z :: TI :: TO :: (fp1 ++ fp2)) (x : ZAt St1 St2 z TI TO i1 i2 S i h) : ZAt St1 St2 z TI TO i1 i2 S i h' := by
  have n1 : ∀ c ∈ z :: TI :: TO :: (fp1 ++ fp2), c ≠ S := fun c hc e => nS (e ▸ hc)
  obtain ⟨a, b, c, d⟩ := x
  refine ⟨k _ _ (n1 _ (by simp)) a, D1.frame _ _ _ b fun b hb o e => k b o (n1 _ (by simp [hb])) e, D2.frame _ _ _ c fun b hb o e => k b o (n1 _ (by simp [hb])) e, ?_⟩
  rcases d with ⟨hz, a, b, hTO⟩ | ⟨T, f, oT, hz, hT, nT⟩
  · exact .inl ⟨k _ _ (n1 _ (by simp)) hz, a, b, k _ _ (n1 _ (by simp)) hTO⟩
  · exact .inr ⟨T, f, oT, k _ _ (n1 _ (by simp)) hz, k _ _ (fun e => nT (by simp [e])) hT, nT⟩
theorem zat_item {Q : Option Value → Shared → Prop} (Sp : ZipSep2 z TI TO i1 i2 fp1 fp2) (D1 : Draws prog w A.in1 i1 fp1 n1 P1 St1) (D2 : Draws prog w A.in1 i2 fp2 n2 P2 St2)
    (hx : ZAt St1 St2 z TI TO i1 i2 S i s.heap) (lt1 : i < n1) (lt2 : i < n2) (hS : S < s.heap.objs.size)
    (hQ : ∀ x1 x2 h' tk, P1 i x1 → P2 i x2 → ZAt St1 St2 z TI TO i1 i2 S (i + 1) h' → IsTupOf2 h' s.heap.objs.size x1 x2 → h'.objs.size = s.heap.objs.size + 1 →
      (∀ c o, c ∉ [z, TO, i1, i2] → s.heap.get? c = some o → h'.get? c = some o) → Q (some (.ref s.heap.objs.size)) { s with heap := h', toks := tk }) :
    wpAny (model prog w) A (pyNext (.ref z)) Q E s := by
  have l1 : s.heap.objs.size ≠ i1 := by obtain ⟨_, e⟩ := D1.live _ _ hx.2.1; exact Nat.ne_of_gt (Heap.lt_size e)
  have l2 : s.heap.objs.size ≠ i2 := by obtain ⟨_, e⟩ := D2.live _ _ hx.2.2.1; exact Nat.ne_of_gt (Heap.lt_size e)
  have hTy := hx.typeIs
  obtain ⟨hTI, st1, st2, ⟨hz, a, b, hTO⟩ | ⟨T, f, oT, hz, hT, nT⟩⟩ := hx
  · refine wpAny_pyNext_zipD2_item Sp D1 D2 hz hTI hTO st1 st2 lt1 lt2 fun x1 x2 h' tk y1 y2 b1 b2 d1 d2 b5 b6 b7 => ?_
    refine hQ x1 x2 h' tk y1 y2 ⟨b7 _ _ Sp.TIz Sp.TITO Sp.TIi1 Sp.TIi2 hTI, d1, d2, .inr ⟨s.heap.objs.size, false, _, b1, b5, ?_⟩⟩ b5 b6 fun c o hc e => b7 c o (fun z => hc (by simp [z])) (fun z => hc (by simp [z])) (fun z => hc (by simp [z])) (fun z => hc (by simp [z])) e
    have l3 := Nat.ne_of_gt (Heap.lt_size hz)
    have l4 := Nat.ne_of_gt (Heap.lt_size hTO)
    have l5 := Nat.ne_of_gt hS
    simp [l1, l2, l3, l4, l5]
  · unfold pyNext
    refine wpAny_bind (wpAny_attempt (wpAny_callSpecial?_slot (name := Str.ofString "__next__") hTy F.slot_zip_next
      (wpAny_call_entry F.slot_zip_next hTy F.entry_zip_next (held_item0 Sp D1 D2 hz hT hTI st1 st2 lt1 lt2 fun x1 x2 h' tk y1 y2 b1 d1 d2 b5 b6 b7 => wpAny_pure ?_) (F.args_zip_next_1 _))))
    refine hQ x1 x2 h' tk y1 y2 ⟨b7 _ _ ?_ hTI, d1, d2, .inr ⟨T, true, oT, b1, b7 _ _ ?_ hT, nT⟩⟩ b5 b6 fun c o hc e => b7 c o (fun z => hc ?_) e
    · have := Sp.TIz; have := Sp.TIi1; have := Sp.TIi2; simp_all
    · intro z; apply nT; simp at z ⊢; rcases z with z | z | z <;> simp [z]
    · simp at z ⊢; rcases z with z | z | z <;> simp [z]
theorem zat_end {Q : Option Value → Shared → Prop} (Sp : ZipSep2 z TI TO i1 i2 fp1 fp2) (D1 : Draws prog w A.in1 i1 fp1 n1 P1 St1) (D2 : Draws prog w A.in1 i2 fp2 n2 P2 St2)
    (hx : ZAt St1 St2 z TI TO i1 i2 S i s.heap) (le1 : i ≤ n1) (le2 : i ≤ n2) (hend : i = n1 ∨ i = n2)
    (hQ : ∀ h' tk, (∀ c o, c ∉ [z, TO, i1, i2] → s.heap.get? c = some o → h'.get? c = some o) → Q none { s with heap := h', toks := tk }) :
    wpAny (model prog w) A (pyNext (.ref z)) Q E s := by
  have hTy := hx.typeIs
  obtain ⟨hTI, st1, st2, ⟨hz, a, b, hTO⟩ | ⟨T, f, oT, hz, hT, nT⟩⟩ := hx
  · exact wpAny_pyNext_zipD2_end Sp D1 D2 hz hTI hTO st1 st2 le1 le2 hend fun h' tk b7 => hQ h' tk fun c o hc e => b7 c o (fun z => hc (by simp [z])) (fun z => hc (by simp [z])) (fun z => hc (by simp [z])) (fun z => hc (by simp [z])) e
  · unfold pyNext
    refine wpAny_bind (wpAny_attempt (wpAny_callSpecial?_slot (name := Str.ofString "__next__") hTy F.slot_zip_next
      (wpAny_call_entry F.slot_zip_next hTy F.entry_zip_next (held_end0 Sp D1 D2 hz hT hTI st1 st2 le1 le2 hend fun h' tk e b7 he => ?_) (F.args_zip_next_1 _))))
    obtain ⟨o, ho, hc⟩ := he
    refine wpAny_bind (wpAny_isInstance (T := "StopIteration") (b := true) ⟨o, ho, hc⟩ isSubtype_stop ?_)
    refine wpAny_pure (hQ h' tk fun c o hc e => b7 c o (fun z => hc ?_) e)
    simp at z ⊢; rcases z with z | z | z <;> simp [z]
end
/-! ### a list made of what an iterator gives -/
section
variable {prog : Program} {w : World} {A : Around} {s : Shared} {R : Result → Shared → Prop} {S z : Addr} {n : Nat}
def lstO (acc : Array Value) (c : Nat) : Obj := { cls := .type "list", dict := none, data := .seq acc c, slots := #[] }
structure Fill (prog : Program) (w : World) (A : Around) (S z : Addr) (n : Nat) (J : Nat → Array Value → Shared → Prop) : Prop where
  step : ∀ i acc s (E : Value → Shared → Prop), i < n → J i acc s → wpAny (model prog w) A (pyNext (.ref z)) (fun r s1 => ∃ v c, r = some v ∧ s1.heap.get? S = some (lstO acc c) ∧ acc.size = i ∧
    J (i + 1) (acc.push v) { s1 with heap := s1.heap.update S (Obj.mapSeq (·.push v)) }) E s
theorem fill_loop {J : Nat → Array Value → Shared → Prop} (F0 : Fill prog w A.in1 S z n J) (hn : n ≤ sizeLine) (res : Value)
    (fin : ∀ acc s (E : Value → Shared → Prop), J n acc s → wpAny (model prog w) A.in1 (pyNext (.ref z)) (fun r s1 => r = none ∧ R (.ok (.ret res)) s1) E s) :
    ∀ (k i : Nat) (s : Shared) (acc : Array Value), n - i = k → i ≤ n → J i acc s → codeAny (model prog w) A (.builtin "list.extend.loop" ⟨[.ref S, .ref z, res], []⟩) R s := by
  intro k
  induction k with
  | zero =>
    intro i s acc hk hi hJ
    have e : i = n := by omega
    subst e
    refine codeAny_builtin F.entry_extend_loop ?_
    rw [Around.under_plainId F.plain_extend_loop _]
    show wpAny _ A.in1 (pyNext (.ref z) >>= fun _ => _) _ _ s
    refine wpAny_bind (wpAny_mono (fin acc s _ hJ) (fun r s1 h => ?_) fun _ _ e => e)
    obtain ⟨rfl, h⟩ := h
    exact wpAny_pure h
  | succ k ih =>
    intro i s acc hk hi hJ
    refine codeAny_builtin F.entry_extend_loop ?_
    rw [Around.under_plainId F.plain_extend_loop _]
    show wpAny _ A.in1 (pyNext (.ref z) >>= fun _ => _) _ _ s
    refine wpAny_bind (wpAny_mono (F0.step i acc s _ (by omega) hJ) (fun r s1 h => ?_) fun _ _ e => e)
    obtain ⟨v, c, rfl, hS, hz, hJ'⟩ := h
    show wpAny _ A.in1 (updateSeq S (·.push v) >>= fun _ => _) _ _ _
    refine wpAny_bind (wpAny_updateSeq hS rfl (wpAny_pure ⟨plainId_quiet F.plain_extend_loop _, ih (i + 1) _ _ (by omega) (by omega) hJ'⟩) ?_ ?_)
    · rw [hz]; omega
    · show (acc.push v).size ≤ sizeLine + 1
      rw [Array.size_push, hz]; omega
theorem no_len_zip : typeLookup (.type "zip") "__len__" = pure none := am_miss_of_fast (by decide +kernel)
theorem no_hint_zip : typeLookup (.type "zip") "__length_hint__" = pure none := am_miss_of_fast (by decide +kernel)
theorem fill_list {J : Nat → Array Value → Shared → Prop} {Q : Value → Shared → Prop} {E : Value → Shared → Prop} (hT : s.TypeIs (.ref z) "zip") (zs : z < s.heap.objs.size) (F0 : Fill prog w A.in1.in1 s.heap.objs.size z n J) (hn : n ≤ sizeLine)
    (self : ∀ (s1 : Shared) (Q : Value → Shared → Prop) (E : Value → Shared → Prop) (B : Around), (∀ b o, s.heap.get? b = some o → s1.heap.get? b = some o) → Q (.ref z) s1 → wpAny (model prog w) B (pyIter (.ref z)) Q E s1)
    (h0 : ∀ h' c, (∀ b o, s.heap.get? b = some o → h'.get? b = some o) → h'.get? s.heap.objs.size = some (lstO #[] c) → J 0 #[] { s with heap := h' })
    (fin : ∀ acc s1 (E : Value → Shared → Prop), J n acc s1 → wpAny (model prog w) A.in1.in1 (pyNext (.ref z)) (fun r s2 => r = none ∧ Q (.ref s.heap.objs.size) s2) E s1) :
    wpAny (model prog w) A (call (.type "list") [.ref z]) Q E s := by
  refine callType_codes (Q₁ := fun obj s1 => obj = .ref s.heap.objs.size ∧ s1 = { s with heap := s.heap.push { cls := .type "list", data := .seq #[] } }) F.called_list (F.typeCall_list_1 _) F.entry_list_init (code_list_new _ ⟨rfl, rfl⟩) fun obj s1 h1 => ?_
  obtain ⟨rfl, rfl⟩ := h1
  have hS : (s.heap.push { cls := .type "list", data := .seq #[] }).get? s.heap.objs.size = some (lstO #[] 0) := Heap.get?_push_size _ rfl
  refine ⟨⟨_, hS, rfl⟩, F.args_list_init_2 _ _, ?_⟩
  have kp0 : ∀ b o, s.heap.get? b = some o → (s.heap.push { cls := .type "list", data := .seq #[] }).get? b = some o := fun b o e => Heap.get?_push_of_some _ e
  have nS : ∀ {b o}, s.heap.get? b = some o → b ≠ s.heap.objs.size := fun e => Nat.ne_of_lt (Heap.lt_size e)
  show wpAny _ A.in1.in1 (Builtin.List.listItems (.ref s.heap.objs.size) >>= fun old => Builtin.List.listUpdate (.ref s.heap.objs.size) (fun _ => #[]) >>= fun _ => letGo old.toList.reverse >>= fun _ => Builtin.List.listExtendWith (.ref s.heap.objs.size) (.ref z) .none) _ _ _
  refine wpAny_bind ?_
  unfold Builtin.List.listItems
  refine wpAny_bind (wpAny_seqItems hS rfl (wpAny_pure ?_))
  show wpAny _ _ (updateSeq s.heap.objs.size (fun _ => #[]) >>= fun _ => letGo (#[] : Array Value).toList.reverse >>= fun _ => Builtin.List.listExtendWith (.ref s.heap.objs.size) (.ref z) .none) _ _ _
  refine wpAny_bind (wpAny_updateSeq hS rfl ?_)
  have hS2 := Heap.get?_update_self (Obj.mapSeq (fun _ => (#[] : Array Value))) hS rfl
  have kp2 : ∀ b o, s.heap.get? b = some o → ((s.heap.push { cls := .type "list", data := .seq #[] }).update s.heap.objs.size (Obj.mapSeq (fun _ => (#[] : Array Value)))).get? b = some o :=
    fun b o e => (Heap.get?_update_other _ _ (Ne.symm (nS e))).trans (kp0 b o e)
  generalize ((s.heap.push { cls := .type "list", data := .seq #[] }).update s.heap.objs.size (Obj.mapSeq (fun _ => (#[] : Array Value)))) = g2 at hS2 kp2 ⊢
  refine wpAny_bind (wpAny_letGo ?_)
  obtain ⟨oz, hoz, hcz⟩ := hT
  have hTz : ∀ {g : Heap}, (∀ b o, s.heap.get? b = some o → g.get? b = some o) → ({ s with heap := g } : Shared).TypeIs (.ref z) "zip" := fun k => ⟨oz, k _ _ hoz, hcz⟩
  have nz : s.heap.objs.size ≠ z := Ne.symm (nS hoz)
  unfold Builtin.List.listExtendWith
  refine wpAny_bind (wpAny_typeOf (hTz kp2) ?_)
  have h1 : Builtin.List.listSameRef (.ref s.heap.objs.size) (.ref z) = false := by simp [Builtin.List.listSameRef, nz]
  have h2 : (Value.type "zip" == Value.type "list") = false := by decide
  have h3 : (Value.type "zip" == Value.type "tuple") = false := by decide
  simp only [h1, h2, h3, Bool.or_false, Bool.false_eq_true, if_false]
  refine wpAny_bind (self _ _ _ _ kp2 (wpAny_bind (wpAny_holding ?_)))
  unfold Builtin.List.listLengthHint
  refine wpAny_bind (wpAny_specialOf (hTz kp2) no_len_zip ?_)
  show wpAny _ _ (specialOf (Value.ref z) (Str.ofString "__length_hint__") >>= fun _ => _) _ _ _
  refine wpAny_bind (wpAny_specialOf (hTz kp2) no_hint_zip (wpAny_pure ?_))
  show wpAny _ _ (rule "list.extend.makes-room" >>= fun _ => Builtin.List.listTouch (.ref s.heap.objs.size) >>= fun _ => again (.builtin "list.extend.loop" ⟨[.ref s.heap.objs.size, .ref z, .none], []⟩)) _ _ _
  refine wpAny_bind (wpAny_rule (wpAny_bind ?_))
  show wpAny _ _ (updateSeq s.heap.objs.size (·.push .none) >>= fun _ => updateSeq s.heap.objs.size (·.pop)) _ _ _
  refine wpAny_bind (wpAny_updateSeq hS2 rfl ?_)
  have hS3 := Heap.get?_update_self (Obj.mapSeq (·.push Value.none)) hS2 rfl
  refine wpAny_updateSeq (hz := by seq_fits) hS3 rfl ?_
  have hS4 := Heap.get?_update_self (Obj.mapSeq (·.pop)) hS3 rfl
  have kp4 : ∀ b o, s.heap.get? b = some o → ((g2.update s.heap.objs.size (Obj.mapSeq (·.push Value.none))).update s.heap.objs.size (Obj.mapSeq (·.pop))).get? b = some o :=
    fun b o e => (Heap.get?_update_other _ _ (Ne.symm (nS e))).trans ((Heap.get?_update_other _ _ (Ne.symm (nS e))).trans (kp2 b o e))
  exact wpAny_pure ⟨plainId_quiet F.plain_extend_loop _, fill_loop F0 hn .none (fun acc s1 E hJ => wpAny_mono (fin acc s1 E hJ) (fun r s2 ⟨a, b⟩ => ⟨a, rfl, b⟩) fun _ _ e => e) n 0 _ _ rfl (Nat.zero_le _) (h0 _ _ kp4 hS4)⟩
end
end LF
/-! LZ2: list(zip(a, b)) as a deed. -/
namespace LF
open PySem PySem.Spec L2
open PyProof.Rows hiding St
/-- what is walked as a sequence: its items, whether it is a list -/
def seqK : D → Option (List D × Bool)
  | .lst l => some (l, true)
  | .fro l => some (l, true)
  | .tup l => some (l, false)
  | _ => none
def AtH (h : Heap) (a : Addr) (items : Array Value) : Bool → Prop
  | true => h.IsList a items
  | false => h.IsTuple a items
theorem AtH.uniq {h : Heap} {a : Addr} {x y : Array Value} : ∀ {k : Bool}, AtH h a x k → AtH h a y k → x = y
  | true, ⟨o, e, _, n, d⟩, ⟨o', e', _, n', d'⟩ => by rw [e] at e'; cases e'; rw [d] at d'; cases d'; rfl
  | false, ⟨o, e, _, n, d⟩, ⟨o', e', _, n', d'⟩ => by rw [e] at e'; cases e'; rw [d] at d'; cases d'; rfl
section
variable {X : Cx} {pins : List (Addr × Obj)} {σ : L2.St} {H : Hp} {s : Shared}
theorem src_open {v : V} {d : D} {b k : Bool} {l : List D} {A : List Addr} (I : Inv X pins σ H s) (r : Rep X.K H b v d A) (h : seqK d = some (l, k)) :
    ∃ a its vs B, v = .ref a ∧ AtH s.heap a its.toArray k ∧ Vals vs its ∧ Reps X.K H b vs l B ∧ vs.length ≤ sizeLine := by
  cases r with
  | tup q rs =>
    cases h
    obtain ⟨its, rv, p, hz⟩ := I.tuple q
    exact ⟨_, its, _, _, rfl, p, rv, rs, hz⟩
  | lst q _ rs =>
    cases h
    obtain ⟨its, rv, p, hz⟩ := I.list (.inl q)
    exact ⟨_, its, _, _, rfl, p.isList, rv, rs, hz⟩
  | fro q rs =>
    cases h
    obtain ⟨its, rv, p, hz⟩ := I.list q.sq
    exact ⟨_, its, _, _, rfl, p.isList, rv, rs, hz⟩
  | _ => cases h
theorem src_item {d : D} {b k : Bool} {l : List D} {A : List Addr} {a : Addr} {items : Array Value} {i : Nat} {x : Value} {di : D} (I : Inv X pins σ H s) (r : Rep X.K H b (.ref a) d A) (h : seqK d = some (l, k)) (im : D.imms l = true) (ha : AtH s.heap a items k) (hx : items[i]? = some x) (hi : l[i]? = some di) :
    ∃ v, RelV v x ∧ Rep X.K H true v di [] := by
  obtain ⟨a2, its, vs, B, e, ha2, rv, rs, _⟩ := src_open I r h
  cases e
  have ei := ha2.uniq ha
  subst ei
  obtain ⟨v, C, h1, h2, _⟩ := rs.at hi
  obtain ⟨u, hu, ru⟩ := rv.get h1
  have eu : u = x := by
    have : its[i]? = some x := by simpa using hx
    rw [hu] at this
    exact Option.some.inj this
  subst eu
  have r2 : Rep X.K H true v di C := h2.any (imms_at im hi)
  have e2 := r2.imm_nil (imms_at im hi)
  subst e2
  exact ⟨v, ru, r2⟩
end
def pairD (a b : D) : D := .tup [a, b]
/-- what stands at a turn of list(zip(..)) -/
def ZJ (X : Cx) (pins : List (Addr × Obj)) (σ : L2.St) (St1 St2 : Nat → Heap → Prop) (z TI TO i1 i2 S : Addr) (ps : List D) (its : List Cell) (i : Nat) (acc : Array Value) (s : Shared) : Prop :=
  ∃ H c accV, Inv X pins σ H s ∧ s.heap.get? S = some (lstO acc c) ∧ H S = some (.lst accV) ∧ Vals accV acc.toList ∧ acc.size = i ∧ ZAt St1 St2 z TI TO i1 i2 S i s.heap ∧ (∀ b ∈ [z, TO, i1, i2], FpOk X pins H b) ∧ (∀ b ∈ [z, TO, i1, i2], b < s.heap.objs.size) ∧
    Good X.K H (⟨.ref S, .lst (ps.take i), true⟩ :: its)
theorem Vals.push {xs : List V} {us : List Value} {x : V} {u : Value} (h : Vals xs us) (r : RelV x u) : Vals (xs ++ [x]) (us ++ [u]) := by
  induction h with
  | nil => exact .cons r .nil
  | cons r0 _ ih => exact .cons r0 ih
section
variable {X : Cx} {pins : List (Addr × Obj)} {σ : L2.St} {z TI TO i1 i2 S : Addr} {n1 n2 : Nat} {P1 P2 : Nat → Value → Prop} {St1 St2 : Nat → Heap → Prop} {fp1 fp2 : List Addr}
theorem zj_step {a b : Addr} {d e : D} {ba bb k k' : Bool} {l m : List D} {I1 I2 : Array Value} {F : List Cell} (B : Around) (Sp : ZipSep2 z TI TO i1 i2 fp1 fp2) (D1 : Draws X.prog X.w B.in1 i1 fp1 I1.size (fun i v => I1[i]? = some v) St1) (D2 : Draws X.prog X.w B.in1 i2 fp2 I2.size (fun i v => I2[i]? = some v) St2)
    (nS : S ∉ z :: TI :: TO :: (fp1 ++ fp2)) (hd : seqK d = some (l, k)) (he : seqK e = some (m, k')) (il : D.imms l = true) (im : D.imms m = true) (q1 : ∀ i h, St1 i h → AtH h a I1 k) (q2 : ∀ i h, St2 i h → AtH h b I2 k') (l1 : I1.size = l.length) (l2 : I2.size = m.length) (hsz : l.length ≤ sizeLine) :
    Fill X.prog X.w B S z (min l.length m.length) (ZJ X pins σ St1 St2 z TI TO i1 i2 S (List.zipWith pairD l m) (⟨.ref a, d, ba⟩ :: ⟨.ref b, e, bb⟩ :: F)) where
  step := fun i acc s E hi hJ => by
    obtain ⟨H, c, accV, I, hS, hH, rv, hac, za, fp, lts, g⟩ := hJ
    have hi1 : i < l.length := by omega
    have hi2 : i < m.length := by omega
    refine zat_item Sp D1 D2 za (by omega) (by omega) (Heap.lt_size hS) fun x1 x2 h' tk y1 y2 za' hT hsz' kp => ?_
    obtain ⟨A1, r1⟩ := g.tail.rep
    obtain ⟨A2, r2⟩ := g.tail.tail.rep
    have hl : l[i]? = some l[i] := List.getElem?_eq_getElem hi1
    have hm : m[i]? = some m[i] := List.getElem?_eq_getElem hi2
    obtain ⟨v1, rel1, rp1⟩ := src_item I r1 hd il (q1 _ _ za.2.1) y1 hl
    obtain ⟨v2, rel2, rp2⟩ := src_item I r2 he im (q2 _ _ za.2.2.1) y2 hm
    have nw : ObjOk X.prog X.w (upd H s.heap.objs.size (.tup [v1, v2])) h' s.heap.objs.size (.tup [v1, v2]) :=
      ⟨by show 2 ≤ sizeLine; rw [sizeLine_eq]; omega, [x1, x2], .cons rel1 (.cons rel2 .nil), ⟨_, hT, rfl, _, rfl⟩⟩
    have Ia : Inv X pins σ (upd H s.heap.objs.size (.tup [v1, v2])) { s with heap := h', toks := tk } := I.turnedNew (t' := tk) (ch := [z, TO, i1, i2]) kp fp (Nat.le_refl _) nw
    have hT0 : H s.heap.objs.size = none := I.hok.fresh (Nat.le_refl _)
    have nST : S ≠ s.heap.objs.size := Nat.ne_of_lt (Heap.lt_size hS)
    have ga : Good X.K (upd H s.heap.objs.size (.tup [v1, v2])) (⟨.ref s.heap.objs.size, pairD l[i] m[i], true⟩ :: ⟨.ref S, .lst ((List.zipWith pairD l m).take i), true⟩ :: ⟨.ref a, d, ba⟩ :: ⟨.ref b, e, bb⟩ :: F) :=
      g.tupImm (m := true) (Reps.cons rp1 (Reps.cons rp2 .nil)) (by show (l[i].imm && (m[i].imm && true)) = true; rw [imms_at il hl, imms_at im hm]; rfl) hT0
    obtain ⟨vs, hvs, hlen, gb⟩ := ga.push
    have evs : vs = accV := by
      rw [upd_ne nST] at hvs
      rw [hH] at hvs
      exact (HO.lst.inj (Option.some.inj hvs)).symm
    subst evs
    have nSc : S ∉ [z, TO, i1, i2] := fun hm => nS (by
      simp at hm ⊢
      rcases hm with q | q | q | q
      · exact .inl q
      · exact .inr (.inr (.inl q))
      · exact .inr (.inr (.inr (.inl (q ▸ Sp.mem1))))
      · exact .inr (.inr (.inr (.inr (q ▸ Sp.mem2)))))
    have hS' : h'.get? S = some (lstO acc c) := kp _ _ nSc hS
    have hS2 := Heap.get?_update_self (Obj.mapSeq (·.push (Value.ref s.heap.objs.size))) hS' rfl
    have oth : ∀ b o, b ≠ S → h'.get? b = some o → (h'.update S (Obj.mapSeq (·.push (Value.ref s.heap.objs.size)))).get? b = some o := fun b o hb q => (Heap.get?_update_other _ _ (Ne.symm hb)).trans q
    have rv2 : Vals (vs ++ [.ref s.heap.objs.size]) (acc.push (.ref s.heap.objs.size)).toList := by
      rw [Array.toList_push]
      exact Vals.push rv rfl
    have hlen2 : (vs ++ [V.ref s.heap.objs.size]).length ≤ sizeLine := by
      rw [rv2.length, Array.length_toList, Array.size_push]
      omega
    have Ib : Inv X pins σ (upd (upd H s.heap.objs.size (.tup [v1, v2])) S (.lst (vs ++ [.ref s.heap.objs.size]))) { s with heap := h'.update S (Obj.mapSeq (·.push (Value.ref s.heap.objs.size))), toks := tk } :=
      Ia.write (x := S) (e := S) (t' := tk) (by rw [upd_ne nST, hH]; exact True.intro) (.inl rfl) (fun b u hb q => oth b u hb q) ⟨_, hS2⟩ ⟨hlen2, _, _, rv2, hS2⟩
    refine ⟨_, c, rfl, hS', hac, _, _, _, Ib, hS2, upd_same, rv2, by rw [Array.size_push, hac], za'.frame (A := B) Sp D1 D2 (fun b o hb q => oth b o hb q) nS, fun b hb => ?_, fun b hb => ?_, ?_⟩
    · have q := fp b hb
      have nb : b ≠ S := fun q2 => nSc (q2 ▸ hb)
      have nT : b ≠ s.heap.objs.size := Nat.ne_of_lt (lts b hb)
      exact ⟨by rw [upd_ne nb, upd_ne nT]; exact q.1, q.2⟩
    · show b < (h'.update S _).objs.size
      rw [Heap.size_update, hsz']
      exact Nat.lt_succ_of_lt (lts b hb)
    · have et : (List.zipWith pairD l m).take (i + 1) = (List.zipWith pairD l m).take i ++ [pairD l[i] m[i]] := by
        rw [List.take_succ, List.getElem?_zipWith, hl, hm]
        rfl
      rw [et]
      exact gb
/-- list(z), z the zip just made -/
theorem zj_list {a b : Addr} {d e : D} {ba bb k k' : Bool} {l m : List D} {I1 I2 : Array Value} {F : List Cell} {s : Shared} {H : Hp} {Q : VK} (Sp : ZipSep2 z TI TO i1 i2 fp1 fp2) (D1 : Draws X.prog X.w X.A.in1.in1.in1 i1 fp1 I1.size (fun i v => I1[i]? = some v) St1) (D2 : Draws X.prog X.w X.A.in1.in1.in1 i2 fp2 I2.size (fun i v => I2[i]? = some v) St2)
    (hf : ∀ b ∈ z :: TI :: TO :: (fp1 ++ fp2), b < s.heap.objs.size) (hd : seqK d = some (l, k)) (he : seqK e = some (m, k')) (il : D.imms l = true) (im : D.imms m = true) (q1 : ∀ i h, St1 i h → AtH h a I1 k) (q2 : ∀ i h, St2 i h → AtH h b I2 k') (l1 : I1.size = l.length) (l2 : I2.size = m.length) (hsz : l.length ≤ sizeLine)
    (I : Inv X pins σ H s) (hz : IsZip s.heap z TI TO .none) (hTI : IsTupOf2 s.heap TI (.ref i1) (.ref i2)) (hTO : ∃ a b, IsTupOf2 s.heap TO a b) (s1 : St1 0 s.heap) (s2 : St2 0 s.heap) (fp : ∀ b ∈ [z, TO, i1, i2], FpOk X pins H b)
    (g : Good X.K H (⟨.ref a, d, ba⟩ :: ⟨.ref b, e, bb⟩ :: F)) (q : ∀ v H', Good X.K H' (⟨v, .lst (List.zipWith pairD l m), true⟩ :: ⟨.ref a, d, ba⟩ :: ⟨.ref b, e, bb⟩ :: F) → Q v H') :
    wpAny (model X.prog X.w) X.A (call (.type "list") [.ref z]) (EP X pins σ Q) X.xe s := by
  have nS : s.heap.objs.size ∉ z :: TI :: TO :: (fp1 ++ fp2) := fun hm => Nat.lt_irrefl _ (hf _ hm)
  have sub : ∀ b ∈ [z, TO, i1, i2], b ∈ z :: TI :: TO :: (fp1 ++ fp2) := fun b hm => by
    simp at hm ⊢
    rcases hm with q | q | q | q
    · exact .inl q
    · exact .inr (.inr (.inl q))
    · exact .inr (.inr (.inr (.inl (q ▸ Sp.mem1))))
    · exact .inr (.inr (.inr (.inr (q ▸ Sp.mem2))))
  refine fill_list ⟨_, hz, rfl⟩ (Heap.lt_size hz) (zj_step (pins := pins) (σ := σ) (a := a) (b := b) (d := d) (e := e) (ba := ba) (bb := bb) (F := F) X.A.in1.in1 Sp D1 D2 nS hd he il im q1 q2 l1 l2 hsz) (by omega)
    (fun s1 Q E B kp h => wpAny_pyIter_zip (kp _ _ hz) h) (fun h' c kp hS => ?_) (fun acc s1 E hJ => ?_)
  · have hn : H s.heap.objs.size = none := I.hok.fresh (Nat.le_refl _)
    have I1' : Inv X pins σ (upd H s.heap.objs.size (.lst [])) { s with heap := h' } := I.laid (t' := s.toks) kp (Nat.le_refl _) ⟨Nat.zero_le _, [], _, .nil, hS⟩
    have za0 : ZAt St1 St2 z TI TO i1 i2 s.heap.objs.size 0 h' := ZAt.frame (A := X.A.in1.in1) Sp D1 D2 (fun b o _ e => kp b o e) nS ⟨hTI, s1, s2, .inl ⟨hz, hTO⟩⟩
    refine ⟨_, c, [], I1', hS, upd_same, .nil, rfl, za0, fun b hb => ?_, fun b hb => ?_, ?_⟩
    · have q := fp b hb
      exact ⟨by rw [upd_ne (Nat.ne_of_lt (hf b (sub b hb)))]; exact q.1, q.2⟩
    · have : s.heap.objs.size < h'.objs.size := Heap.lt_size hS
      exact Nat.lt_trans (hf b (sub b hb)) this
    · have := Good.lstNew (vs := []) (ws := []) (its := ⟨.ref a, d, ba⟩ :: ⟨.ref b, e, bb⟩ :: F) g rfl hn
      rw [List.take_zero]
      exact this
  · obtain ⟨H1, c, accV, J, hS, hH, rv, hac, za, fp', lts, g'⟩ := hJ
    refine zat_end Sp D1 D2 za (by omega) (by omega) (by omega) fun h' tk kp => ⟨rfl, .ref s.heap.objs.size, H1, J.turnedL (ch := [z, TO, i1, i2]) (t' := tk) kp fp', rfl, q _ _ ?_⟩
    have e1 : (List.zipWith pairD l m).take (min l.length m.length) = List.zipWith pairD l m := by
      rw [← List.length_zipWith (f := pairD), List.take_length]
    rw [e1] at g'
    exact g'
end
theorem fp_lt (N a b x : Nat) (h1 : a < N) (h2 : b < N) (hx : x ∈ (N + 4) :: (N + 2) :: (N + 3) :: ([N, a] ++ [N + 1, b])) : x < N + 5 := by
  simp at hx
  omega
theorem fp_ge (N x : Nat) (hx : x ∈ [N + 4, N + 3, N, N + 1]) : N ≤ x := by
  simp at hx
  omega
/-- list(zip(a, b)) -/
def gLZ : PM := fun ws => match ws with
  | [(a, ba), (b, bb)] => match seqK a, seqK b with
    | some (l, k), some (m, k') => if k = k' ∧ D.imms l = true ∧ D.imms m = true then some (.lst (List.zipWith pairD l m), true, [some (a, ba), some (b, bb)]) else none
    | _, _ => none
  | _ => none
section
variable {X : Cx} {x y : Expr} {pos pos2 p p2 : Pos}
theorem ex_listZip {a b : Ag} (hc : X.calm = true) (hg : Gl X "list") (hm : X.mg "list" = none) (hg2 : Gl X "zip") (hm2 : X.mg "zip" = none) (ha : AsX X [x, y] [a, b])
    (na : starEach [.Call (.Name "zip" p2) [x, y] [] pos2] X.env = (false, eval (.Call (.Name "zip" p2) [x, y] [] pos2) X.env) :: starEach [] X.env := by rfl)
    (hs : starEach [x, y] X.env = (false, eval x X.env) :: starEach [y] X.env := by rfl) (hpl : (backTo pos2 (starEach [y] X.env)).any (·.1) = false := by rfl) :
    EX X (.Call (.Name "list" p) [.Call (.Name "zip" p2) [x, y] [] pos2] [] pos) (mCall gLZ [a, b]) := by
  refine ⟨fun pins s σ H Q I q0 => ?_⟩
  have q1 := call_by q0 (R := fun vs H1 => spR X.K gLZ vs H1 Q) fun _ _ h => h
  refine Call_ (ld_blt I hg hm PyProof.Rows.boot_list (PyProof.Rows.callWith_type1 (args_cons ?_ na) na))
  refine Call_ (ld_blt I hg2 hm2 PyProof.Rows.boot_zip (PyProof.Rows.callWith_type1 (thn (ha.run pos2 pins s σ H _ I q1) fun us s1 ⟨vs, H1, I1, r1, sp⟩ => ?_) hs hpl))
  have hlen : vs.length = 2 := spR_n sp fun ws r h => by
    match ws, h with
    | [(_, _), (_, _)], _ => rfl
  match vs, hlen, r1 with
  | [u, v], _, r1 =>
    obtain ⟨u1, u2, rfl, ru, rv⟩ := vals2 r1
    obtain ⟨d, bd, e, be, F, g, r, br, os, hg3, ho, q⟩ := spR_two sp
    unfold gLZ at hg3
    dsimp only at hg3
    split at hg3
    · next l k m k' hd he =>
      split at hg3
      · next hc2 =>
        obtain ⟨rfl, il, im⟩ := hc2
        cases hg3
        obtain ⟨A1, rp1⟩ := g.rep
        obtain ⟨A2, rp2⟩ := g.tail.rep
        obtain ⟨aa, its, vs1, B1, rfl, at1, w1, rs1, z1⟩ := src_open I1 rp1 hd
        obtain ⟨bb, its2, vs2, B2, rfl, at2, w2, rs2, z2⟩ := src_open I1 rp2 he
        cases ru
        cases rv
        have hh : X.A.handled = none := I1.ok.hd hc
        have N1 : its.toArray.size = l.length := by rw [List.size_toArray, ← w1.length, rs1.length]
        have N2 : its2.toArray.size = m.length := by rw [List.size_toArray, ← w2.length, rs2.length]
        have hsz : l.length ≤ sizeLine := by rw [← rs1.length]; exact z1
        have lt1 : aa < s1.heap.objs.size := by cases k <;> (obtain ⟨o, e, _⟩ := at1; exact Heap.lt_size e)
        have lt2 : bb < s1.heap.objs.size := by cases k <;> (obtain ⟨o, e, _⟩ := at2; exact Heap.lt_size e)
        have Ap := PySem.W.ktu_apart s1.heap.objs.size aa bb lt1 lt2
        have fpk : ∀ b ∈ [s1.heap.objs.size + 4, s1.heap.objs.size + 3, s1.heap.objs.size, s1.heap.objs.size + 1], FpOk X pins H1 b := fun b hb => by
          have hle : s1.heap.objs.size ≤ b := fp_ge _ b hb
          exact I1.fpOk hle (I1.hok.fresh hle)
        have Sp : ZipSep2 (s1.heap.objs.size + 4) (s1.heap.objs.size + 2) (s1.heap.objs.size + 3) s1.heap.objs.size (s1.heap.objs.size + 1) [s1.heap.objs.size, aa] [s1.heap.objs.size + 1, bb] := by
          exact zip_sep2 (N := s1.heap.objs.size) (fp1 := [aa]) (fp2 := [bb]) (fun b hb => by rw [List.mem_singleton.mp hb]; exact lt1) (fun b hb => by rw [List.mem_singleton.mp hb]; exact lt2)
        have fin : ∀ (St1 St2 : Nat → Heap → Prop) (h' : Heap), Draws X.prog X.w X.A.in1.in1.in1 s1.heap.objs.size [s1.heap.objs.size, aa] its.toArray.size (fun i v => its.toArray[i]? = some v) St1 →
            Draws X.prog X.w X.A.in1.in1.in1 (s1.heap.objs.size + 1) [s1.heap.objs.size + 1, bb] its2.toArray.size (fun i v => its2.toArray[i]? = some v) St2 → (∀ i h, St1 i h → AtH h aa its.toArray k) → (∀ i h, St2 i h → AtH h bb its2.toArray k) →
            IsZip h' (s1.heap.objs.size + 4) (s1.heap.objs.size + 2) (s1.heap.objs.size + 3) .none → IsPair h' (s1.heap.objs.size + 2) (.ref s1.heap.objs.size) (.ref (s1.heap.objs.size + 1)) → IsPair h' (s1.heap.objs.size + 3) .none .none → St1 0 h' → St2 0 h' → h'.objs.size = s1.heap.objs.size + 5 →
            (∀ c o, s1.heap.get? c = some o → h'.get? c = some o) →
            wpAny (model X.prog X.w) X.A (spliced (backTo pos (starEach [] X.env))) (fun us s' => wpAny (model X.prog X.w) X.A (call (.type "list") (.ref (s1.heap.objs.size + 4) :: us)) (EP X pins σ Q) X.xe s') X.xe { s1 with heap := h' } := by
          intro St1 St2 h' D1 D2 k1 k2 hz hTI hTO s1' s2' hsize kp
          refine args_nil ?_
          have I2 : Inv X pins σ H1 { s1 with heap := h' } := I1.kept (t' := s1.toks) kp
          refine zj_list (pins := pins) (σ := σ) Sp D1 D2 (fun b hb => ?_) hd he il im k1 k2 N1 N2 hsz I2 hz hTI ⟨_, _, hTO⟩ s1' s2' fpk g fun v H' gd => q v H' gd
          show b < h'.objs.size
          rw [hsize]
          exact fp_lt _ aa bb b lt1 lt2 hb
        cases k with
        | true =>
          refine call_zip_2 at1 at2 fun h' hz hTI hTO h1 h2 hsize kp => ?_
          exact fin _ _ h' (Draws.list (A := X.A.in1.in1.in1) hh _ aa Ap.l1i1 its.toArray) (Draws.list (A := X.A.in1.in1.in1) hh _ bb Ap.l2i2 its2.toArray) (fun i h st => st.2) (fun i h st => st.2) hz hTI hTO ⟨h1, let ⟨o, e, r⟩ := at1; ⟨o, kp _ _ e, r⟩⟩ ⟨h2, let ⟨o, e, r⟩ := at2; ⟨o, kp _ _ e, r⟩⟩ hsize kp
        | false =>
          refine RZ.call_zipT at1 at2 fun h' hz hTI hTO h1 h2 hsize kp => ?_
          exact fin _ _ h' (tupDraws (A := X.A.in1.in1.in1) hh _ aa Ap.l1i1 its.toArray) (tupDraws (A := X.A.in1.in1.in1) hh _ bb Ap.l2i2 its2.toArray) (fun i h st => st.2) (fun i h st => st.2) hz hTI hTO ⟨h1, let ⟨o, e, r⟩ := at1; ⟨o, kp _ _ e, r⟩⟩ ⟨h2, let ⟨o, e, r⟩ := at2; ⟨o, kp _ _ e, r⟩⟩ hsize kp
      · cases hg3
    · cases hg3
end
end LF
/-! LF10: frozen data; methods of lists and dicts. -/
namespace LF
open PySem PySem.Spec L2
open PyProof.Rows hiding St
/-! ### freezing -/
mutual
def D.fz : D → D
  | .tup l => .tup (D.fzs l)
  | .lst l => .fro (D.fzs l)
  | .fro l => .fro (D.fzs l)
  | d => d
def D.fzs : List D → List D
  | [] => []
  | d :: l => d.fz :: D.fzs l
end
mutual
/-- no dict, no instance in it -/
def D.plain : D → Bool
  | .tup l => D.plains l
  | .lst l => D.plains l
  | .fro l => D.plains l
  | .dic _ => false
  | .ins _ _ => false
  | _ => true
def D.plains : List D → Bool
  | [] => true
  | d :: l => d.plain && D.plains l
end
mutual
theorem fz_imm : ∀ {d : D}, d.plain = true → d.fz.imm = true
  | .non, _ => rfl
  | .bl _, _ => rfl
  | .int _, _ => rfl
  | .str _, _ => rfl
  | .tup l, h => fzs_imm (l := l) h
  | .lst l, h => fzs_imm (l := l) h
  | .fro l, h => fzs_imm (l := l) h
  | .dic _, h => nomatch h
  | .ins _ _, h => nomatch h
theorem fzs_imm : ∀ {l : List D}, D.plains l = true → D.imms (D.fzs l) = true
  | [], _ => rfl
  | d :: l, h => by
    have h' := Bool.and_eq_true_iff.mp (show (d.plain && D.plains l) = true from h)
    show (d.fz.imm && D.imms (D.fzs l)) = true
    rw [fz_imm h'.1, fzs_imm h'.2]
    rfl
end
/-- one heap is the other, some lists of it frozen that are not among those told -/
def Frz (H H' : Hp) : Prop := ∀ a, H' a = H a ∨ ∃ vs o, H a = some (.lst vs) ∧ H' a = some (.frz o (.lst vs))
theorem Frz.refl (H : Hp) : Frz H H := fun _ => .inl rfl
theorem Frz.trans {H H1 H2 : Hp} (h : Frz H H1) (k : Frz H1 H2) : Frz H H2 := fun a => by
  rcases h a with e | ⟨vs, o, e1, e2⟩
  · rcases k a with e' | ⟨vs, o, e1, e2⟩
    · exact .inl (e'.trans e)
    · exact .inr ⟨vs, o, e ▸ e1, e2⟩
  · rcases k a with e' | ⟨vs', o', e1', e2'⟩
    · exact .inr ⟨vs, o, e1, e'.trans e2⟩
    · rw [e2] at e1'; cases e1'
theorem Frz.rd {H H' : Hp} (h : Frz H H') {a : Addr} {u : HO} (r : Rd H a u) : Rd H' a u := by
  rcases h a with e | ⟨vs, o, e1, e2⟩
  · unfold Rd; rw [e]; exact r
  · rcases r with r | ⟨o', r⟩
    · rw [e1] at r; cases r; exact .inr ⟨o, e2⟩
    · rw [e1] at r; cases r
section
variable {K : PySem.W.Frag} {H H' : Hp}
mutual
theorem Rep.frzS (h : Frz H H') : ∀ {v : V} {d : D} {A : List Addr}, Rep K H false v d A → Rep K H' false v d A
  | _, _, _, .non => .non
  | _, _, _, .bl b => .bl b
  | _, _, _, .int i => .int i
  | _, _, _, .str x => .str x
  | _, _, _, .tup q r => .tup (sqT_map q fun u z => h.rd z) (r.frzS h)
  | _, _, _, .fro q r => .fro (q.map fun o u z => by
      rcases h _ with e | ⟨vs, o', e1, e2⟩
      · exact e.trans z
      · rw [z] at e1; cases e1) (r.frzS h)
  | _, _, _, .lst q _ r => .lst (h.rd q) (fun z => nomatch z) (r.frzS h)
  | _, _, _, .dic (a := a) q ek r => .dic (by
      rcases h a with e | ⟨vs, o', e1, e2⟩
      · exact e.trans q
      · rw [q] at e1; cases e1) ek (r.frzS h)
  | _, _, _, .ins (a := a) q ek r => .ins (by
      rcases h a with e | ⟨vs, o', e1, e2⟩
      · exact e.trans q
      · rw [q] at e1; cases e1) ek (r.frzS h)
theorem Reps.frzS (h : Frz H H') : ∀ {vs : List V} {ds : List D} {A : List Addr}, Reps K H false vs ds A → Reps K H' false vs ds A
  | _, _, _, .nil => .nil
  | _, _, _, .cons r rs => .cons (r.frzS h) (rs.frzS h)
end
theorem Frz.kt (h : Frz H H') : (∀ a xs, Rd H a (.tup xs) → Rd H' a (.tup xs)) ∧ ∀ a o u, H a = some (.frz o u) → H' a = some (.frz o u) :=
  ⟨fun a xs r => h.rd r, fun a o u q => by
    rcases h a with e | ⟨vs, o', e1, e2⟩
    · exact e.trans q
    · rw [q] at e1; cases e1⟩
theorem Lay.frz (h : Frz H H') : ∀ {its : List Cell} {O S : List Addr}, Lay K H its O S → (∀ a ∈ O, H' a = H a) → Lay K H' its O S
  | _, _, _, .nil, _ => .nil
  | _, _, _, .own r l, k => .own (r.move h.kt fun a ha => k a (List.mem_append_left _ ha)) (l.frz h fun a ha => k a (List.mem_append_right _ ha))
  | _, _, _, .shr r l, k => .shr (r.frzS h) (l.frz h k)
end
section
variable {X : Cx} {pins : List (Addr × Obj)} {σ : L2.St} {s : Shared}
mutual
/-- what is shared is frozen, all of it -/
theorem Rep.freeze : ∀ {H : Hp} {v : V} {d : D} {A : List Addr}, Rep X.K H false v d A → Inv X pins σ H s → d.plain = true → ∃ H', Inv X pins σ H' s ∧ Frz H H' ∧ (∀ a, a ∉ A → H' a = H a) ∧ Rep X.K H' false v d.fz []
  | H, _, _, _, .non, I, _ => ⟨H, I, .refl H, fun _ _ => rfl, .non⟩
  | H, _, _, _, .bl b, I, _ => ⟨H, I, .refl H, fun _ _ => rfl, .bl b⟩
  | H, _, _, _, .int i, I, _ => ⟨H, I, .refl H, fun _ _ => rfl, .int i⟩
  | H, _, _, _, .str x, I, _ => ⟨H, I, .refl H, fun _ _ => rfl, .str x⟩
  | H, _, _, _, .tup q r, I, h => by
    obtain ⟨H', I', f, k, r'⟩ := r.freeze I h
    exact ⟨H', I', f, k, .tup (sqT_map q fun u z => f.rd z) r'⟩
  | H, _, _, _, .fro q r, I, h => by
    obtain ⟨H', I', f, k, r'⟩ := r.freeze I h
    exact ⟨H', I', f, k, .fro (q.map fun o u => f.kt.2 _ o u) r'⟩
  | H, _, _, _, .lst (a := a) (vs := vs) q _ r, I, h => by
    obtain ⟨H1, I1, f1, k1, r1⟩ := r.freeze I h
    rcases f1.rd q with q1 | ⟨o, q1⟩
    · obtain ⟨od, I2⟩ := I1.lock q1 True.intro
      have f2 : Frz H1 (upd H1 a (.frz od (.lst vs))) := fun b => by
        by_cases hb : b = a
        · subst hb; exact .inr ⟨vs, od, q1, upd_same⟩
        · exact .inl (upd_ne hb)
      refine ⟨_, I2, f1.trans f2, fun b hb => ?_, .fro (.inl ⟨od, upd_same⟩) (r1.frzS f2)⟩
      rw [upd_ne fun e => hb (by rw [e]; exact List.mem_cons_self)]
      exact k1 b fun z => hb (List.mem_cons_of_mem _ z)
    · exact ⟨H1, I1, f1, fun b hb => k1 b fun z => hb (List.mem_cons_of_mem _ z), .fro (.inl ⟨o, q1⟩) r1⟩
  | _, _, _, _, .dic _ _ _, _, h => nomatch h
  | _, _, _, _, .ins _ _ _, _, h => nomatch h
theorem Reps.freeze : ∀ {H : Hp} {vs : List V} {ds : List D} {A : List Addr}, Reps X.K H false vs ds A → Inv X pins σ H s → D.plains ds = true → ∃ H', Inv X pins σ H' s ∧ Frz H H' ∧ (∀ a, a ∉ A → H' a = H a) ∧ Reps X.K H' false vs (D.fzs ds) []
  | H, _, _, _, .nil, I, _ => ⟨H, I, .refl H, fun _ _ => rfl, .nil⟩
  | H, _, _, _, .cons (d := d) (ds := ds) r rs, I, h => by
    have h' := Bool.and_eq_true_iff.mp (show (d.plain && D.plains ds) = true from h)
    obtain ⟨H1, I1, f1, k1, r1⟩ := r.freeze I h'.1
    obtain ⟨H2, I2, f2, k2, r2⟩ := (rs.frzS f1).freeze I1 h'.2
    refine ⟨H2, I2, f1.trans f2, fun a ha => ?_, ?_⟩
    · rw [k2 a fun z => ha (List.mem_append_right _ z), k1 a fun z => ha (List.mem_append_left _ z)]
    · have := Reps.cons (r1.frzS f2) r2
      exact this
end
theorem Good.freeze {H : Hp} {v : V} {d : D} {b : Bool} {its : List Cell} (I : Inv X pins σ H s) (h : d.plain = true) (g : Good X.K H (⟨v, d, b⟩ :: its)) : ∃ H', Inv X pins σ H' s ∧ Good X.K H' (⟨v, d.fz, true⟩ :: its) := by
  obtain ⟨O, S, l, ap⟩ := g.share
  cases l with
  | shr r l =>
    obtain ⟨H', I', f, k, r'⟩ := r.freeze I h
    refine ⟨H', I', ?_⟩
    have g' : Good X.K H' its := ⟨O, _, l.frz f fun a ha => k a fun z => ap.2 a ha (List.mem_append_left _ z), ap.1, fun a ha hs => ap.2 a ha (List.mem_append_right _ hs)⟩
    exact g'.flatNew (r'.any (fz_imm h))
end
/-- ahead of the statements the thing in slot i is frozen -/
def mFreeze (i : Nat) (f : SM) : SM := fun e => match e[i]? with
  | some (some sl) => if sl.d.plain then f (e.set i (some ⟨sl.d.fz, true, sl.pin⟩)) else none
  | _ => none
theorem bx_freeze {X : Cx} {b : List Stmt} {f : SM} {i : Nat} (h : BX X b f) : BX X b (mFreeze i f) := by
  refine ⟨fun pins s σ H D I q => ?_⟩
  obtain ⟨ps, e, F, o, fl, e', hf, q⟩ := q
  unfold mFreeze at hf
  split at hf
  · next sl hs =>
    split at hf
    · next hp =>
      obtain ⟨v, hv, hpin, oo⟩ := o.out hs
      obtain ⟨its, z, g⟩ := oo
      obtain ⟨H', I', g'⟩ := Good.freeze I hp (g.perm List.perm_middle)
      have o2 : Ok X.K ps H' σ (e.set i none) (⟨v, sl.d.fz, true⟩ :: F) := ⟨its, z, g'.perm List.perm_middle.symm⟩
      have o3 := o2.back hv hpin
      rw [List.set_set] at o3
      exact h.run pins s σ H' D I' ⟨ps, _, F, o3, fl, e', hf, q⟩
    · cases hf
  · cases hf
/-! ### methods -/
def chkK (k : Kd) (f : EM) : EM := fun e => match f e with
  | some (d, b, e') => if d.kd = some k then some (d, b, e') else none
  | none => none
def mMeth (k : Kd) (g : PM) (a : Ag) (as : List Ag) : EM := fun e => match a with
  | .var i => match e[i]? with
    | some (some sl) => if sl.d.kd = some k then mCall g (.var i :: as) e else none
    | _ => none
  | .val f => mCall g (.val (chkK k f) :: as) e
def tyOk : Kd → Bool
  | .lst => true | .dic => true | .str => true | .int => true | _ => false
theorem rep_tyV {K : PySem.W.Frag} {H : Hp} {m : Bool} {d : D} {v : V} {A : List Addr} {k : Kd} (r : Rep K H m v d A) (h : d.kd = some k) (ok : tyOk k = true) : tyV K k.name v H := by
  cases r with
  | non => cases h; cases ok
  | bl b => cases h; cases ok
  | int i => cases h; exact (rfl : "int" = "int")
  | str x => cases h; exact (rfl : "str" = "str")
  | tup q _ => cases h; cases ok
  | fro q _ => cases h; exact .inl ⟨rfl, _, q.sq⟩
  | lst q _ _ => cases h; exact .inl ⟨rfl, _, .inl q⟩
  | dic q _ _ => cases h; exact .inr (.inr (.inl ⟨rfl, .inl ⟨_, q⟩⟩))
  | ins q _ _ => cases h
theorem meth_read {K : PySem.W.Frag} {k : Kd} {g : PM} {a : Ag} {as : List Ag} {σ : L2.St} {H : Hp} {Q : VK} (h : semE K (mMeth k g a as) σ H Q) :
    rdA K a σ H fun x H1 => (∃ b d A, Rep K H1 b x d A ∧ d.kd = some k) ∧ tAs K as σ H1 fun vs H2 => spR K g (x :: vs) H2 Q := by
  obtain ⟨ps, e, F, o, d, b, e', hf, q⟩ := h
  unfold mMeth at hf
  cases a with
  | var i =>
    dsimp only at hf
    split at hf
    · next sl hs =>
      split at hf
      · next hk =>
        have h1 : tAs K (.var i :: as) σ H fun vs H2 => spR K g vs H2 Q := call_ok hf o q
        obtain ⟨v, hv, _, oo⟩ := o.out hs
        obtain ⟨A, r⟩ := oo.good.rep
        obtain ⟨v', hv', h2⟩ := h1
        rw [hv] at hv'
        cases hv'
        exact ⟨v, hv, ⟨_, _, _, r, hk⟩, h2⟩
      · cases hf
    · cases hf
  | val f =>
    have h1 : tAs K (.val (chkK k f) :: as) σ H fun vs H2 => spR K g vs H2 Q := call_ok hf o q
    have h2 : semE K (chkK k f) σ H fun x H1 => tAs K as σ H1 fun vs H2 => spR K g (x :: vs) H2 Q := h1
    obtain ⟨ps2, e2, F2, o2, d2, b2, e2', hf2, q2⟩ := h2
    unfold chkK at hf2
    split at hf2
    · next d3 b3 e3 h3 =>
      split at hf2
      · next hk =>
        cases hf2
        refine ⟨ps2, e2, F2, o2, _, _, _, h3, fun v H' o' => ?_⟩
        obtain ⟨A, r⟩ := o'.good.rep
        exact ⟨⟨_, _, _, r, hk⟩, q2 v H' o'⟩
      · cases hf2
    · cases hf2
section
variable {X : Cx} {o x : Expr} {es : List Expr} {name : Str} {apos cpos : Pos} {id : String}
theorem ex_meth {k : Kd} {g : PM} {a : Ag} {as : List Ag} (ok : tyOk k = true) (pa : PlainAttrs k.name) (slot : Slot k.name name id) (hty : typeOf (.builtin id) = pure (.type "method_descriptor")) (hm : MtX X id g) (ho : AX X o a) (ha : AsX X (x :: es) as)
    (hbase : attributeBase o name X.env (eval o X.env) = eval o X.env := by rfl)
    (hfew : ((backTo cpos (starEach (x :: es) X.env)).all (fun x => !x.1) && (backToKw cpos (keywordEach [] X.env)).all (fun x => x.1.isSome)
      && decide ((x :: es).length + ([] : List Keyword).length + (if ([] : List Keyword).isEmpty then 0 else 1) < 30)) = true := by rfl)
    (hline : (apos.endLine == cpos.line) = true := by rfl) (hs : starEach (x :: es) X.env = (false, eval x X.env) :: starEach es X.env := by rfl) (hplain : (backTo cpos (starEach es X.env)).any (·.1) = false := by rfl) :
    EX X (.Call (.Attribute o name apos) (x :: es) [] cpos) (mMeth k g a as) :=
  PE.weak (pe_bm pa slot hty hm ho ha hbase hfew hline hs hplain) fun σ H Q q => rdA_mono (meth_read q) fun v H1 ⟨⟨b, d, A, r, hk⟩, h⟩ => ⟨rep_tyV r hk ok, h⟩
end
/-- list.append -/
def gAppend : PM := fun ws => match ws with
  | [(.lst xs, bl), (y, by')] => if bl && (by' || y.imm) && decide (xs.length < sizeMax) then some (.non, true, [some (.lst (xs ++ [y]), true), if y.imm then some (y, by') else none]) else none
  | _ => none
def gExtend : PM := fun ws => match ws with
  | [(.lst xs, bl), (.lst ys, bm)] => if bl && bm && D.imms ys && decide (xs.length + ys.length ≤ sizeMax) then some (.non, true, [some (.lst (xs ++ ys), true), some (.lst ys, true)]) else none
  | _ => none
def gPopAt : PM := fun ws => match ws with
  | [(.lst xs, bl), (.int i, bi)] => if bl && decide (-9223372036854775808 ≤ i) && decide (i < 9223372036854775808) then (match seqIndex? i xs.length with
      | some k => match xs[k]? with
        | some y => if y.imm then some (y, true, [some (.lst (xs.eraseIdx k), true), some (.int i, bi)]) else none
        | none => none
      | none => none) else none
  | _ => none
theorem Reps.erase {K : PySem.W.Frag} {H : Hp} {m : Bool} : ∀ {vs : List V} {ds : List D} {A : List Addr} {k : Nat} {y : D}, Reps K H m vs ds A → ds[k]? = some y → y.imm = true → Reps K H m (vs.eraseIdx k) (ds.eraseIdx k) A ∧ ∃ v, vs[k]? = some v ∧ Rep K H m v y []
  | _, _, _, _, _, .nil, h, _ => by simp at h
  | _, _, _, 0, y, .cons (d := d) r rs, h, im => by
    have e : d = y := by simpa using h
    subst e
    have e2 := r.imm_nil im
    subst e2
    exact ⟨rs, _, rfl, r⟩
  | _, _, _, k + 1, y, .cons r rs, h, im => by
    obtain ⟨h1, v, h2, h3⟩ := Reps.erase (k := k) rs (by simpa using h) im
    exact ⟨.cons r h1, v, by simpa using h2, h3⟩
/-- a list of our own is written anew, its parts kept -/
theorem Good.relist {K : PySem.W.Frag} {H : Hp} {a : Addr} {l l' : List D} {us : List V} {its : List Cell} (g : Good K H (⟨.ref a, .lst l, true⟩ :: its))
    (f : ∀ vs A, H a = some (.lst vs) → Reps K H true vs l A → a ∉ A → Reps K (upd H a (.lst us)) true us l' A) : Good K (upd H a (.lst us)) (⟨.ref a, .lst l', true⟩ :: its) := by
  obtain ⟨O, S, lay, ap⟩ := g
  cases lay with
  | @own _ _ A O _ _ r lay =>
    cases r with
    | @lst _ vs _ A q e rs =>
      have ea := e rfl
      have nd := ap.1
      have nd' : (a :: (A ++ O)).Nodup := nd
      rw [List.nodup_cons] at nd'
      have n2 : a ∉ A := fun z => nd'.1 (List.mem_append_left _ z)
      have n3 : a ∉ O := fun z => nd'.1 (List.mem_append_right _ z)
      have n4 : a ∉ S := ap.2 a (List.mem_append_left _ List.mem_cons_self)
      exact ⟨_, S, .own (.lst (.inl upd_same) (fun _ => upd_same) (f vs A ea rs n2)) (lay.wr ea True.intro n3 n4), ap⟩
theorem Good.atL {K : PySem.W.Frag} {H : Hp} {v : V} {l : List D} {its : List Cell} (g : Good K H (⟨v, .lst l, true⟩ :: its)) : ∃ a vs A, v = .ref a ∧ H a = some (.lst vs) ∧ Reps K H true vs l A := by
  obtain ⟨A, r⟩ := g.rep
  obtain ⟨a, vs, B, e, _, f, rs⟩ := rep_lstS r
  exact ⟨a, vs, B, e, f rfl, rs⟩
section
variable {X : Cx}
theorem mx_append : MtX X "list.append" gAppend := by
  intro pins s σ H x xs v us Q I rx rxs h
  have hn := spR_n (n := 2) h fun ws r hg => by
    unfold gAppend at hg
    split at hg
    · rfl
    · cases hg
  match xs, hn with
  | [y], _ =>
    obtain ⟨a, ba, b, bb, F, g, d, bd, os, hg, ho, q⟩ := spR_two h
    unfold gAppend at hg
    split at hg
    · next l bl y' by' e =>
      cases e
      split at hg
      · next hc =>
        cases hg
        have h1 := Bool.and_eq_true_iff.mp hc
        have h2 := Bool.and_eq_true_iff.mp h1.1
        obtain ⟨eb, hy⟩ := h2
        subst eb
        obtain ⟨a1, vs, A, rfl, ea, rs⟩ := g.atL
        have hz := of_decide_eq_true h1.2
        have fin : ∀ H', Good X.K H' (⟨.ref a1, .lst (l ++ [b]), true⟩ :: (cellsO [y] [if b.imm then some (b, bb) else none] ++ F)) → Q .non H' := fun H' gd => by
          refine q .non H' (Good.flatNew ?_ .non)
          exact gd
        refine mt_append pins s σ H _ _ v us Q I rx rxs ⟨a1, vs, y, rfl, rfl, ea, by rw [rs.length, ← sizeMax_eq]; exact hz, fin _ ?_⟩
        by_cases im : b.imm = true
        · rw [if_pos im]
          have g2 : Good X.K H (⟨y, b, true⟩ :: ⟨.ref a1, .lst l, true⟩ :: ⟨y, b, bb⟩ :: F) := by
            have := (g.perm (List.Perm.swap _ _ _)).dup (b' := true) im
            exact this.perm (List.Perm.cons _ (List.Perm.swap _ _ _))
          obtain ⟨ws, ew, _, g3⟩ := g2.push
          rw [ea] at ew
          cases ew
          exact g3
        · rw [if_neg im]
          have eb : bb = true := by
            rcases Bool.or_eq_true_iff.mp hy with z | z
            · exact z
            · exact absurd z im
          subst eb
          obtain ⟨ws, ew, _, g3⟩ := (g.perm (List.Perm.swap _ _ _)).push
          rw [ea] at ew
          cases ew
          exact g3
      · cases hg
    · cases hg
theorem mx_extend : MtX X "list.extend" gExtend := by
  intro pins s σ H x xs v us Q I rx rxs h
  have hn := spR_n (n := 2) h fun ws r hg => by
    unfold gExtend at hg
    split at hg
    · rfl
    · cases hg
  match xs, hn with
  | [y], _ =>
    obtain ⟨a, ba, b, bb, F, g, d, bd, os, hg, ho, q⟩ := spR_two h
    unfold gExtend at hg
    split at hg
    · next l bl m bm e =>
      cases e
      split at hg
      · next hc =>
        cases hg
        have h1 := Bool.and_eq_true_iff.mp hc
        have h2 := Bool.and_eq_true_iff.mp h1.1
        have h3 := Bool.and_eq_true_iff.mp h2.1
        obtain ⟨e1, e2⟩ := h3
        subst e1 e2
        obtain ⟨a1, vs, A, rfl, ea, rs⟩ := g.atL
        obtain ⟨a2, ws, B, rfl, eb, rs2⟩ := g.tail.atL
        have hz := of_decide_eq_true h1.2
        refine mt_extend pins s σ H _ _ v us Q I rx rxs ⟨a1, a2, vs, ws, rfl, rfl, ea, eb, by rw [rs.length, rs2.length, ← sizeMax_eq]; exact hz, q .non _ (Good.flatNew ?_ .non)⟩
        refine g.relist fun vs' A' ea' rs' n => ?_
        rw [ea] at ea'
        cases ea'
        have eB := rs2.imm_nil h2.2
        subst eB
        have := (rs'.wr (o' := .lst (vs ++ ws)) ea True.intro n).append (rs2.wr (o' := .lst (vs ++ ws)) ea True.intro List.not_mem_nil)
        rw [List.append_nil] at this
        exact this
      · cases hg
    · cases hg
theorem mx_popAt : MtX X "list.pop" gPopAt := by
  intro pins s σ H x xs v us Q I rx rxs h
  have hn := spR_n (n := 2) h fun ws r hg => by
    unfold gPopAt at hg
    split at hg
    · rfl
    · cases hg
  match xs, hn with
  | [y], _ =>
    obtain ⟨a, ba, b, bb, F, g, d, bd, os, hg, ho, q⟩ := spR_two h
    unfold gPopAt at hg
    split at hg
    · next l bl i bi e =>
      cases e
      split at hg
      · next hc =>
        have h1 := Bool.and_eq_true_iff.mp hc
        have h2 := Bool.and_eq_true_iff.mp h1.1
        obtain ⟨e1, e2⟩ := h2
        subst e1
        split at hg
        · next k hk =>
          split at hg
          · next y' hy =>
            split at hg
            · next im =>
              cases hg
              obtain ⟨a1, vs, A, rfl, ea, rs⟩ := g.atL
              obtain ⟨_, r2⟩ := g.tail.rep
              cases rep_int r2
              obtain ⟨_, w, hw, rw'⟩ := rs.erase hy im
              refine mt_popAt pins s σ H _ _ v us Q I rx rxs ⟨a1, vs, i, k, w, rfl, rfl, ea, by have := of_decide_eq_true e2; omega, by have := of_decide_eq_true h1.2; omega, by rw [rs.length]; exact hk, hw, q _ _ (Good.flatNew ?_ (rw'.wr ea True.intro List.not_mem_nil))⟩
              refine g.relist fun vs' A' ea' rs' n => ?_
              rw [ea] at ea'
              cases ea'
              exact ((rs'.erase hy im).1).wr ea True.intro n
            · cases hg
          · cases hg
        · cases hg
      · cases hg
    · cases hg
end
end LF
/-! LF11: texts walked, chains, stars, f-texts, constants, stores into lists. -/
namespace LF
open PySem PySem.Spec L2
open PyProof.Rows hiding St
/-! ### a text walked -/
def signsD (z : Str) : List D := z.cps.toList.map fun c => .str ⟨#[c]⟩
theorem wk_str {K : PySem.W.Frag} {z : Str} : Wk K (Its z) [] (signsD z) true := by
  intro i H G g
  have hl : (signsD z).length = z.cps.size := by unfold signsD; rw [List.length_map, Array.length_toList]
  refine ⟨fun hi => by show z.cps.size ≤ i; omega, fun d hd => ?_⟩
  have hi : i < z.cps.size := by
    have := (List.getElem?_eq_some_iff.mp hd).1
    omega
  refine ⟨hi, fun x H' y => ?_⟩
  obtain ⟨rfl, c, hc, rfl⟩ := y
  have e : d = .str ⟨#[c]⟩ := by
    unfold signsD at hd
    rw [List.getElem?_map, Array.getElem?_toList, hc] at hd
    exact (Option.some.inj hd).symm
  subst e
  exact g.flatNew (.str _)
def mIterS (f : EM) : IM := fun e => match f e with
  | some (.str z, _, e') => some (signsD z, true, e')
  | _ => none
section
variable {X : Cx} {x y z tg : Expr} {pos : Pos}
theorem ix_str_walk {f : EM} (h : EX X x f) : IX X tg x (mIterS f) := by
  refine PI.weak (pi_str h) fun σ H R q => ?_
  obtain ⟨ps, e, F, o, ds, fl, e', hf, q⟩ := q
  unfold mIterS at hf
  split at hf
  · next z b e2 h2 =>
    cases hf
    refine ⟨ps, e, F, o, _, b, _, h2, fun v H' o' => ?_⟩
    obtain ⟨A, r⟩ := o'.good.rep
    cases rep_str r
    exact ⟨z, rfl, q _ [] _ wk_str o'.drop⟩
  · cases hf
/-- range(a, b, c), c a positive constant -/
def mRange3 (f g : EM) (c : Int) : IM := fun e => match f e with
  | some (.int i, _, e1) => match g e1 with
    | some (.int j, _, e') => if (-two62 ≤ i ∧ i < two62) ∧ (-two62 ≤ j ∧ j < two62) then some (intsD i c ((j - i + c - 1) / c).toNat, true, e') else none
    | _ => none
  | _ => none
/-! ### a <= b <= c, ints -/
def CmpX (X : Cx) (op : CmpOp) (p : Int → Int → Bool) : Prop := OpR X (compareOp op) fun x y H Q => ∃ i j, x = .int i ∧ y = .int j ∧ Q (.bl (p i j)) H
theorem cx_le : CmpX X .LtE fun i j => decide (i ≤ j) := op_le
theorem cx_lt : CmpX X .Lt fun i j => decide (i < j) := op_lt
theorem cx_ge : CmpX X .GtE fun i j => decide (j ≤ i) := op_ge
theorem cx_gt : CmpX X .Gt fun i j => decide (j < i) := op_gt
def mChain (p q : Int → Int → Bool) (f g h : EM) : EM := fun e => match f e with
  | some (.int i, _, e1) => match g e1 with
    | some (.int j, _, e2) => if p i j then (match h e2 with
        | some (.int k, _, e3) => some (.bl (q j k), true, e3)
        | _ => none) else some (.bl false, true, e2)
    | _ => none
  | _ => none
theorem chain_read {p q : Int → Int → Bool} {f g h : EM} {K : PySem.W.Frag} {σ : L2.St} {H : Hp} {Q : VK} (s : semE K (mChain p q f g h) σ H Q) :
    tChain (fun x y H Q => ∃ i j, x = .int i ∧ y = .int j ∧ Q (.bl (p i j)) H) (fun x y H Q => ∃ i j, x = .int i ∧ y = .int j ∧ Q (.bl (q i j)) H) (semE K f) (semE K g) (semE K h) σ H Q := by
  obtain ⟨ps, e, F, o, d, b, e', hm, k⟩ := s
  unfold mChain at hm
  split at hm
  · next i b1 e1 h1 =>
    split at hm
    · next j b2 e2 h2 =>
      refine ⟨ps, e, F, o, _, b1, e1, h1, fun v1 H1 o1 => ⟨ps, e1, _, o1, _, b2, e2, h2, fun v2 H2 o2 => ?_⟩⟩
      obtain ⟨A, r⟩ := o2.good.rep
      cases rep_int r
      obtain ⟨A, r⟩ := o2.good.tail.rep
      cases rep_int r
      refine ⟨i, j, rfl, rfl, p i j, rfl, ?_⟩
      split at hm
      · next hp =>
        rw [if_pos hp]
        split at hm
        · next kk b3 e3 h3 =>
          cases hm
          refine ⟨ps, e2, _, o2, _, b3, _, h3, fun v3 H3 o3 => ?_⟩
          obtain ⟨A, r⟩ := o3.good.rep
          cases rep_int r
          exact ⟨j, kk, rfl, rfl, k _ _ (o3.drop.drop.drop.flat (.bl _))⟩
        · cases hm
      · next hp =>
        cases hm
        rw [if_neg hp]
        exact k _ _ (o2.drop.drop.flat (.bl _))
    · cases hm
  · cases hm
theorem ex_chain {op op' : CmpOp} {p q : Int → Int → Bool} {f g h : EM} (ho : CmpX X op p) (ho' : CmpX X op' q) (ha : EX X x f) (hb : EX X y g) (hc : EX X z h)
    (hm : lastMarks [op, op'] [y, z] = false := by with_unfolding_all rfl) : EX X (.Compare x [op, op'] [y, z] pos) (mChain p q f g h) :=
  PE.weak (pe_chain ho ho' ha hb hc hm) fun σ H Q s => chain_read s
theorem tx_chain {op op' : CmpOp} {p q : Int → Int → Bool} {f g h : EM} (ho : CmpX X op p) (ho' : CmpX X op' q) (ha : EX X x f) (hb : EX X y g) (hc : EX X z h)
    (hm : lastMarks [op, op'] [y, z] = false := by with_unfolding_all rfl) : TX X (.Compare x [op, op'] [y, z] pos) (tOf (mChain p q f g h)) :=
  PT.weak (pt_chain ho ho' ha hb hc hm) fun σ H Q s => chain_read (semT_tB s)
/-! ### f'..' -/
def mFmt (f : EM) : EM := fun e => match f e with
  | some (.str z, b, e') => if z.length ≤ sizeMax then some (.str z, true, e') else none
  | _ => none
theorem ex_fmt {f : EM} (h : EX X x f) : EX X (.FormattedValue x (-1) none pos) (mFmt f) := by
  refine PE.weak (pe_fmt h) fun σ H Q q => ?_
  obtain ⟨ps, e, F, o, d, b, e', hm, k⟩ := q
  unfold mFmt at hm
  split at hm
  · next z b2 e2 h2 =>
    split at hm
    · next hz =>
      cases hm
      refine ⟨ps, e, F, o, _, b2, _, h2, fun v H' o' => ?_⟩
      obtain ⟨A, r⟩ := o'.good.rep
      cases rep_str r
      exact .inl ⟨z, rfl, by rw [← sizeMax_eq]; exact hz, k _ _ (o'.drop.flat (.str _))⟩
    · cases hm
  · cases hm
def mJoin : List EM → Str → EM
  | [], acc, e => some (.str acc, true, e)
  | f :: fs, acc, e => match f e with
    | some (.str z, _, e') => if (acc ++ z).length ≤ sizeMax then mJoin fs (acc ++ z) e' else none
    | _ => none
inductive JX (X : Cx) : List Expr → List EM → Prop
  | nil : JX X [] []
  | cons {x : Expr} {f : EM} {es : List Expr} {fs : List EM} : EX X x f → JX X es fs → JX X (x :: es) (f :: fs)
theorem JX.pj {es : List Expr} {fs : List EM} (h : JX X es fs) : PJ X es (fs.map (semE X.K)) := by
  induction h with
  | nil => exact .nil
  | cons h _ ih => exact .cons h ih
theorem join_read {K : PySem.W.Frag} {ps : List V} {F : List Cell} {Q : VK} {d : D} {b : Bool} {e' : En} {σ : L2.St} (k : ∀ v H', Ok K ps H' σ e' (⟨v, d, b⟩ :: F) → Q v H') : ∀ {fs : List EM} {acc : Str} {e : En} {H : Hp}, mJoin fs acc e = some (d, b, e') → Ok K ps H σ e F →
    tJs (fs.map (semE K)) acc σ H fun out H1 => Q (.str out) H1
  | [], acc, e, H, h, o => by
    cases h
    exact k _ _ (o.flat (.str _))
  | f :: fs, acc, e, H, h, o => by
    unfold mJoin at h
    split at h
    · next z b2 e2 h2 =>
      split at h
      · next hz =>
        refine ⟨ps, e, F, o, _, b2, e2, h2, fun v H' o' => ?_⟩
        obtain ⟨A, r⟩ := o'.good.rep
        cases rep_str r
        exact ⟨z, rfl, by rw [← sizeMax_eq]; exact hz, join_read k h o'.drop⟩
      · cases h
    · cases h
theorem ex_joined {x y : Expr} {es : List Expr} {fs : List EM} (h : JX X (x :: y :: es) fs) : EX X (.JoinedStr (x :: y :: es) pos) (mJoin fs Str.empty) :=
  PE.weak (pe_joined h.pj) fun σ H Q ⟨ps, e, F, o, d, b, e', hm, k⟩ => join_read k hm o
theorem ex_joined1 {f : EM} (h : EX X x f) : EX X (.JoinedStr [x] pos) f := pe_joined1 h
/-! ### displays with stars: of things that cannot change -/
abbrev SA := En → Option (List D × En)
def semA (K : PySem.W.Frag) (f : SA) : TA := fun σ H Q => ∃ ps e F, Ok K ps H σ e F ∧ ∃ ds e', f e = some (ds, e') ∧ ∀ vs H', Reps K H' true vs ds [] → Ok K ps H' σ e' F → Q vs H'
def SAX (X : Cx) (xs : List Expr) (f : SA) : Prop := PA X xs (semA X.K f)
theorem PA.weak {X : Cx} {x : List Expr} {t t' : TA} (h : PA X x t) (w : ∀ σ H Q, t' σ H Q → t σ H Q) : PA X x t' := ⟨fun pos pins s σ H Q I q => h.run pos pins s σ H Q I (w σ H Q q)⟩
def mSNil : SA := fun e => some ([], e)
def mSOne (f : EM) (g : SA) : SA := fun e => match f e with
  | some (d, b, e1) => if d.imm then (match g e1 with
      | some (ds, e2) => some (d :: ds, e2)
      | none => none) else none
  | none => none
def mSStar (f : EM) (g : SA) : SA := fun e => match f e with
  | some (d, b, e1) => match seqK d with
    | some (l, _) => if D.imms l then (match g e1 with
        | some (ds, e2) => some (l ++ ds, e2)
        | none => none) else none
    | none => none
  | none => none
theorem sa_nil : SAX X [] mSNil := PA.weak pa_nil fun σ H Q q => by
  obtain ⟨ps, e, F, o, ds, e', hm, k⟩ := q
  cases hm
  exact k [] H .nil o
theorem sa_one {es : List Expr} {f : EM} {g : SA} (h : EX X x f) (hr : SAX X es g) (hs : starEach (x :: es) X.env = (false, eval x X.env) :: starEach es X.env := by rfl) : SAX X (x :: es) (mSOne f g) := by
  refine PA.weak (pa_cons h hr hs) fun σ H Q q => ?_
  obtain ⟨ps, e, F, o, ds, e', hm, k⟩ := q
  unfold mSOne at hm
  split at hm
  · next d b e1 h1 =>
    split at hm
    · next im =>
      split at hm
      · next ds2 e2 h2 =>
        cases hm
        refine ⟨ps, e, F, o, d, b, e1, h1, fun v H' o' => ⟨ps, e1, _, o', ds2, _, h2, fun vs H2 rs o2 => k (v :: vs) H2 ?_ o2.drop⟩⟩
        obtain ⟨A, r⟩ := o2.good.rep
        have r' : Rep X.K H2 true v d A := r.any im
        have eA := r'.imm_nil im
        subst eA
        exact Reps.cons r' rs
      · cases hm
    · cases hm
  · cases hm
theorem flat_cells {K : PySem.W.Frag} {H : Hp} {its : List Cell} : ∀ {vs : List V} {ds : List D} {A : List Addr}, Reps K H true vs ds A → D.imms ds = true → Good K H its → Good K H (cells vs (ds.map fun d => (d, true)) ++ its)
  | _, _, _, .nil, _, g => g
  | _, _, _, .cons (d := d) (ds := ds) r rs, h, g => by
    have h' := Bool.and_eq_true_iff.mp (show (d.imm && D.imms ds) = true from h)
    have e := r.imm_nil h'.1
    subst e
    exact Good.flatNew (flat_cells rs h'.2 g) r
theorem cells_reps {K : PySem.W.Frag} {H : Hp} {its : List Cell} {vs : List V} {ds : List D} (g : Good K H (cells vs (ds.map fun d => (d, true)) ++ its)) (hl : vs.length = ds.length) (im : D.imms ds = true) : Reps K H true vs ds [] := by
  obtain ⟨O, S, l, a⟩ := g
  obtain ⟨A, O', rs, _, _⟩ := Lay.reps hl l
  have e := rs.imm_nil im
  subst e
  exact rs
theorem sa_star {es : List Expr} {f : EM} {g : SA} {p : Pos} (h : EX X x f) (hr : SAX X es g) (hs : starEach (.Starred x p :: es) X.env = (true, eval x X.env) :: starEach es X.env := by rfl) : SAX X (.Starred x p :: es) (mSStar f g) := by
  refine PA.weak (StX.pa_star h hr hs) fun σ H Q q => ?_
  obtain ⟨ps, e, F, o, ds, e', hm, k⟩ := q
  unfold mSStar at hm
  split at hm
  · next d b e1 h1 =>
    split at hm
    · next l k' hk =>
      split at hm
      · next im =>
        split at hm
        · next ds2 e2 h2 =>
          cases hm
          refine ⟨ps, e, F, o, d, b, e1, h1, fun v H' o' => ?_⟩
          have core : ∀ (vs : List V) (A : List Addr), Reps X.K H' b vs l A → semA X.K g σ H' fun ys H2 => Q (vs ++ ys) H2 := fun vs A rs => by
            have rs' : Reps X.K H' true vs l A := rs.any im
            have o2 : Ok X.K ps H' σ e1 (cells vs (l.map fun d => (d, true)) ++ F) := o'.drop.lift fun its gd => by
              rw [List.append_assoc]
              exact flat_cells rs' im gd
            refine ⟨ps, e1, _, o2, ds2, _, h2, fun ws H2 rs2 o3 => k (vs ++ ws) H2 ?_ o3.dropAll⟩
            have r3 := cells_reps o3.good rs'.length im
            exact r3.append rs2
          obtain ⟨A, r⟩ := o'.good.rep
          cases r with
          | tup q rs => cases hk; exact ⟨_, _, rfl, .inl q, core _ _ rs⟩
          | lst q _ rs => cases hk; exact ⟨_, _, rfl, .inr (.inl q), core _ _ rs⟩
          | fro q rs => cases hk; exact ⟨_, _, rfl, .inr q.sq, core _ _ rs⟩
          | _ => cases hk
        · cases hm
      · cases hm
    · cases hm
  · cases hm
def mLstS (f : SA) : EM := fun e => match f e with
  | some (ds, e') => if ds.length ≤ sizeMax ∧ D.imms ds = true then some (.lst ds, true, e') else none
  | none => none
def mTupS (f : SA) : EM := fun e => match f e with
  | some (ds, e') => if ds.length ≤ sizeMax ∧ D.imms ds = true then some (.tup ds, true, e') else none
  | none => none
theorem ex_lstS {es : List Expr} {f : SA} (h : SAX X es f) : EX X (.List es pos) (mLstS f) := by
  refine PE.weak (pe_lst h) fun σ H Q q => ?_
  obtain ⟨ps, e, F, o, d, b, e', hm, k⟩ := q
  unfold mLstS at hm
  split at hm
  · next ds e2 h2 =>
    split at hm
    · next hz =>
      cases hm
      refine ⟨ps, e, F, o, ds, _, h2, fun vs H' rs o' => ⟨by rw [rs.length, ← sizeMax_eq]; exact hz.1, fun p hp => k _ _ ?_⟩⟩
      exact o'.lift fun its g => g.lstImm rs hz.2 hp
    · cases hm
  · cases hm
theorem ex_tupS {es : List Expr} {f : SA} {x1 : Nat} (h : SAX X es f) : EX X (.Tuple es x1 pos) (mTupS f) := by
  refine PE.weak (pe_tup h) fun σ H Q q => ?_
  obtain ⟨ps, e, F, o, d, b, e', hm, k⟩ := q
  unfold mTupS at hm
  split at hm
  · next ds e2 h2 =>
    split at hm
    · next hz =>
      cases hm
      refine ⟨ps, e, F, o, ds, _, h2, fun vs H' rs o' => ⟨by rw [rs.length, ← sizeMax_eq]; exact hz.1, fun p hp => k _ _ ?_⟩⟩
      exact o'.lift fun its g => g.tupImm rs hz.2 hp
    · cases hm
  · cases hm
/-! ### constants of the module -/
theorem ex_glob {f : Str} {v : V} {u : Value} {d : D} (hg : Gl X f) (hm : X.mg f = some u) (r : RelV v u) (rp : ∀ H, Rep X.K H true v d []) (hd : (f == ("__debug__" : Str)) = false := by decide) : EX X (.Name f pos) (mC d) := ex_c (pe_glob hg hm r hd) rp
end
/-! ### x[i] = v, a list of our own of any parts -/
def gSetL : PM := fun ws => match ws with
  | [(v, bv), (.lst l, bo), (.int k, bi)] => match ixN l.length k with
    | some j => match l[j]? with
      | some d0 => if bo && v.imm && d0.imm then some (.non, true, [none, some (.lst (l.set j v), true), some (.int k, bi)]) else none
      | none => none
    | none => none
  | ws => gSetI ws
theorem Reps.setImm {K : PySem.W.Frag} {H : Hp} {m : Bool} {v : V} {d d0 : D} (r : Rep K H m v d []) : ∀ {vs : List V} {ds : List D} {A : List Addr} {j : Nat}, Reps K H m vs ds A → ds[j]? = some d0 → d0.imm = true → Reps K H m (vs.set j v) (ds.set j d) A
  | _, _, _, _, .nil, h, _ => by simp at h
  | _, _, _, 0, .cons (d := d1) r0 rs, h, im => by
    have e : d1 = d0 := by simpa using h
    subst e
    have e2 := r0.imm_nil im
    subst e2
    exact .cons r rs
  | _, _, _, j + 1, .cons r0 rs, h, im => .cons r0 (Reps.setImm r (j := j) rs (by simpa using h) im)
section
variable {X : Cx}
theorem setxL (hu : X.A.units + 64 < cLine) : SetX X gSetL := by
  intro pins s σ H o i v ov iv u Q I ro ri rv h
  obtain ⟨d, bv, e, bo, k, bi, F, g, r, br, os, hg, ho, q⟩ := spR_three h
  unfold gSetL at hg
  split at hg
  · next v' bv' l bo' n bi' e3 =>
    cases e3
    split at hg
    · next j hj =>
      split at hg
      · next d0 hd0 =>
        split at hg
        · next hb =>
          cases hg
          have hb1 := Bool.and_eq_true_iff.mp hb
          have hb2 := Bool.and_eq_true_iff.mp hb1.1
          obtain ⟨eb, imd⟩ := hb2
          subst eb
          obtain ⟨A0, r0⟩ := g.rep
          obtain ⟨A2, r2⟩ := g.tail.tail.rep
          cases rep_int r2
          obtain ⟨a, vs, A, rfl, ea, rs⟩ := g.tail.atL
          refine set_list pins s σ H _ _ _ ov iv u Q I ro ri rv ⟨a, vs, n, j, rfl, rfl, ea, by rw [rs.length]; exact hj, q .non _ (Good.flatNew ?_ .non)⟩
          refine g.tail.relist fun vs' A' ea' rs' n' => ?_
          rw [ea] at ea'
          cases ea'
          exact Reps.setImm (rep_wr0 r0 imd ea True.intro) (rs'.wr ea True.intro n') hd0 hb1.2
        · cases hg
      · cases hg
    · cases hg
  · exact setx hu pins s σ H o i v ov iv u Q I ro ri rv ⟨[(d, bv), (e, bo), (k, bi)], F, g, rfl, r, br, os, hg, ho, q⟩
end
end LF
/-! LF12: comprehensions in general: dicts, two loops. -/
namespace LF
open PySem PySem.Spec L2
open PyProof.Rows hiding St
abbrev Stp := D → Bool → En → D → Option (D × En)
def loopG (own : Own) (fl : Bool) (stp : Stp) : List D → En → D → Option (D × En)
  | [], e, acc => some (acc, e)
  | d :: ds, e, acc => match stp d fl e acc with
    | some (acc', e') => loopG own fl stp ds (hideAll own e') acc'
    | none => none
def mCompG (own : Own) (it : IM) (stp : Stp) (acc0 : D) : EM := fun e => match it e with
  | none => none
  | some (ds, fl, e1) => if saveOk e1 own then (match loopG own fl stp ds (hideAll own e1) acc0 with
      | some (acc, e2) => some (acc, true, unhide own e1 e2)
      | none => none) else none
theorem hideAll_idem (own : List Nat) (e : En) : hideAll own (hideAll own e) = hideAll own e := by
  apply List.ext_getElem?
  intro i
  by_cases hi : i ∈ own
  · cases c1 : (hideAll own (hideAll own e))[i]? with
    | none =>
      have := List.getElem?_eq_none_iff.mp c1
      rw [hideAll_len] at this
      rw [List.getElem?_eq_none this]
    | some x =>
      cases x with
      | some sl => exact (hideAll_in hi c1).elim
      | none =>
        cases c2 : (hideAll own e)[i]? with
        | none =>
          have := List.getElem?_eq_none_iff.mp c2
          have l2 := (List.getElem?_eq_some_iff.mp c1).1
          rw [hideAll_len] at l2
          omega
        | some x => cases x with
          | some sl => exact (hideAll_in hi c2).elim
          | none => rfl
  · have out : ∀ (js : List Nat) (e : En), i ∉ js → (hideAll js e)[i]? = e[i]? := by
      intro js e hn
      induction js with
      | nil => rfl
      | cons k ks ih =>
        show ((hideAll ks e).set k none)[i]? = _
        rw [List.getElem?_set_ne (fun z => hn (by rw [z]; exact List.mem_cons_self)), ih fun z => hn (List.mem_cons_of_mem _ z)]
    rw [out own _ hi]
/-- the slots outside js are as they were -/
def Out (js : List Nat) (σ σ' : L2.St) : Prop := σ'.length = σ.length ∧ ∀ k, k ∉ js → σ'[k]? = σ[k]?
theorem Out.wipe {js : List Nat} {σ : L2.St} : Out js σ (wipe σ js) := ⟨wipe_length σ js, fun k hk => wipe_out hk⟩
theorem Out.symm {js : List Nat} {σ σ' : L2.St} (h : Out js σ σ') : Out js σ' σ := ⟨h.1.symm, fun k hk => (h.2 k hk).symm⟩
theorem Out.trans {js : List Nat} {σ σ' σ'' : L2.St} (h : Out js σ σ') (k : Out js σ' σ'') : Out js σ σ'' := ⟨k.1.trans h.1, fun i hi => (k.2 i hi).trans (h.2 i hi)⟩
theorem Out.mono {js ks : List Nat} {σ σ' : L2.St} (h : Out js σ σ') (s : ∀ j ∈ js, j ∈ ks) : Out ks σ σ' := ⟨h.1, fun i hi => h.2 i fun z => hi (s i z)⟩
theorem Out.wiped {js : List Nat} {σ σ' : L2.St} (h : Out js σ σ') : L2.wipe σ' js = L2.wipe σ js := Eqx.wipe (js := js) ⟨h.1, h.2⟩ fun _ z => z
theorem Out.block {K : PySem.W.Frag} {ps : List V} {H : Hp} {σ σ' : L2.St} {e : En} {F : List Cell} {js : List Nat} (h : Out js σ σ') (o : Ok K ps H σ e F) : Ok K ps H σ' (LF.hideAll js e) F := o.block (js := js) (fun i hi => h.2 i hi) h.1
/-- what a comprehension does, its turn abstract -/
theorem cmp_core {K : PySem.W.Frag} {own : Own} {it : IM} {stp : Stp} {acc0 : D} {init : HO} {σ : L2.St} {H : Hp} {Q : VK} (BODY : V → Hp → Addr → (Hp → Prop) → Prop)
    (hinit : ∀ H p its, H p = none → Good K H its → Good K (upd H p init) (⟨.ref p, acc0, true⟩ :: its))
    (hbody : ∀ (ps : List V) x H' Da e3 acc F d fl acc' e' (Nx : Hp → Prop), Ok K ps H' (wipe σ own) e3 (⟨x, d, fl⟩ :: ⟨.ref Da, acc, true⟩ :: F) → stp d fl e3 acc = some (acc', e') →
      (∀ H'' σ'', Out own (wipe σ own) σ'' → Ok K ps H'' σ'' e' (⟨.ref Da, acc', true⟩ :: F) → Nx H'') → BODY x H' Da Nx)
    (h : semE K (mCompG own it stp acc0) σ H Q) :
    semI K it σ H fun J H1 => ∀ D, H1 D = none → ∃ W : Nat → Nat → Hp → Prop, (∃ m, W 0 m (upd H1 D init)) ∧ ∀ i m H, W i m H →
      (J.stop i H ∧ Q (.ref D) H) ∨ (J.go i H ∧ ∃ Nx : Hp → Prop, (∀ H', Nx H' → ∃ m', m' < m ∧ W (i + 1) m' H') ∧ ∀ x H', J.yld i H x H' → BODY x H' D Nx) := by
  obtain ⟨ps, e, F, o, d, b, e', hm, q⟩ := h
  unfold mCompG at hm
  split at hm
  · cases hm
  · next ds fl e1 h1 =>
    split at hm
    · next hs =>
      split at hm
      · next accF e2 h2 =>
        cases hm
        refine ⟨ps, e, F, o, ds, fl, e1, h1, fun J T H1 wk o1 Da hD => ?_⟩
        have lenσ : σ.length = e1.length := o1.len
        have pk := o1.pok
        have told := o1.told
        have oS : Ok K ps H1 σ e1 (savedCells σ e1 own ++ (T ++ F)) := o1.save hs
        generalize hG : savedCells σ e1 own ++ F = G
        have ob : Ok K ps (upd H1 Da init) (wipe σ own) (LF.hideAll own e1) (⟨.ref Da, acc0, true⟩ :: (T ++ G)) := by
          have o2 := Out.block (js := own) Out.wipe oS
          have o3 : Ok K ps (upd H1 Da init) (wipe σ own) (LF.hideAll own e1) (⟨.ref Da, acc0, true⟩ :: (savedCells σ e1 own ++ (T ++ F))) := o2.lift fun its gd => hinit H1 Da _ hD gd
          refine o3.perm (List.Perm.cons _ ?_)
          rw [← hG, ← List.append_assoc, ← List.append_assoc]
          exact List.perm_append_comm.append_right _
        refine ⟨fun i m H => m = ds.length - i ∧ i ≤ ds.length ∧ ∃ e3 acc, Ok K ps H (wipe σ own) e3 (⟨.ref Da, acc, true⟩ :: (T ++ G)) ∧ loopG own fl stp (ds.drop i) e3 acc = some (d, e2) ∧ LF.hideAll own e3 = e3,
          ⟨ds.length, by simp, Nat.zero_le _, _, _, ob, h2, hideAll_idem own e1⟩, ?_⟩
        rintro i m H2 ⟨rfl, hi, e3, acc, o2, hc, hid⟩
        obtain ⟨its, z, gd⟩ := o2
        have gd1 : Good K H2 (T ++ ((⟨.ref Da, acc, true⟩ :: G) ++ its)) := gd.perm (by
          have p1 : (its ++ ⟨.ref Da, acc, true⟩ :: (T ++ G) : List Cell).Perm ((⟨.ref Da, acc, true⟩ :: (T ++ G)) ++ its) := List.perm_append_comm
          refine p1.trans ?_
          have p3 : (T ++ (⟨.ref Da, acc, true⟩ :: (G ++ its)) : List Cell).Perm (⟨.ref Da, acc, true⟩ :: (T ++ (G ++ its))) := List.perm_middle
          simpa [List.append_assoc] using p3.symm)
        obtain ⟨stop, go⟩ := wk i H2 _ gd1
        by_cases hlt : i < ds.length
        · refine .inr ?_
          have hd : ds[i]? = some ds[i] := List.getElem?_eq_getElem hlt
          obtain ⟨hgo, hy⟩ := go _ hd
          refine ⟨hgo, fun H' => ∃ e4 acc', Ok K ps H' (wipe σ own) e4 (⟨.ref Da, acc', true⟩ :: (T ++ G)) ∧ loopG own fl stp (ds.drop (i + 1)) e4 acc' = some (d, e2) ∧ LF.hideAll own e4 = e4,
            fun H' ⟨e4, acc', o4, h4, hid4⟩ => ⟨ds.length - (i + 1), by omega, rfl, hlt, e4, acc', o4, h4, hid4⟩, fun x H' y => ?_⟩
          have g2 := hy x H' y
          have o3 : Ok K ps H' (wipe σ own) e3 (⟨x, ds[i], fl⟩ :: (⟨.ref Da, acc, true⟩ :: (T ++ G))) := ⟨its, z, g2.perm (by
            have p1 : (⟨x, ds[i], fl⟩ :: (T ++ ((⟨.ref Da, acc, true⟩ :: G) ++ its)) : List Cell).Perm (⟨x, ds[i], fl⟩ :: (its ++ ⟨.ref Da, acc, true⟩ :: (T ++ G))) := List.Perm.cons _ (by
              have p2 : (its ++ ⟨.ref Da, acc, true⟩ :: (T ++ G) : List Cell).Perm ((⟨.ref Da, acc, true⟩ :: (T ++ G)) ++ its) := List.perm_append_comm
              refine List.Perm.trans ?_ p2.symm
              have p3 : (T ++ (⟨.ref Da, acc, true⟩ :: (G ++ its)) : List Cell).Perm (⟨.ref Da, acc, true⟩ :: (T ++ (G ++ its))) := List.perm_middle
              simpa [List.append_assoc] using p3)
            exact p1.trans List.perm_middle.symm)⟩
          rw [List.drop_eq_getElem_cons hlt] at hc
          unfold loopG at hc
          split at hc
          · next acc' e4 h4 =>
            refine hbody ps x H' Da e3 acc _ _ fl acc' e4 _ o3 h4 fun H'' σ'' hout o4 => ⟨LF.hideAll own e4, acc', hout.symm.block o4, hc, hideAll_idem own e4⟩
          · cases hc
        · have ei : i = ds.length := by omega
          subst ei
          rw [List.drop_length] at hc
          cases hc
          refine .inl ⟨stop (Nat.le_refl _), q _ _ ?_⟩
          have o3 : Ok K ps H2 (wipe σ own) e2 (⟨.ref Da, d, true⟩ :: (T ++ G)) := ⟨its, z, gd⟩
          have o4 : Ok K ps H2 σ e2 (⟨.ref Da, d, true⟩ :: (T ++ G)) := by
            have := (Out.wipe (js := own) (σ := σ)).symm.block o3
            rw [hid] at this
            exact this
          have o5 : Ok K ps H2 σ e2 (savedCells σ e1 own ++ (T ++ (⟨.ref Da, d, true⟩ :: F))) := o4.perm (by
            rw [← hG]
            have p1 : (⟨.ref Da, d, true⟩ :: (T ++ (savedCells σ e1 own ++ F)) : List Cell).Perm (T ++ (⟨.ref Da, d, true⟩ :: (savedCells σ e1 own ++ F))) := List.perm_middle.symm
            have p2 : (T ++ (⟨.ref Da, d, true⟩ :: (savedCells σ e1 own ++ F)) : List Cell).Perm (T ++ (savedCells σ e1 own ++ (⟨.ref Da, d, true⟩ :: F))) := List.Perm.append_left T List.perm_middle.symm
            refine (p1.trans p2).trans ?_
            rw [← List.append_assoc, ← List.append_assoc]
            exact List.perm_append_comm.append_right _)
          have o6 := Ok.unhide pk lenσ told o5
          exact o6.dropAll
      · cases hm
    · cases hm
/-! ### dicts -/
theorem Good.dicNew {K : PySem.W.Frag} {H : Hp} {p : Addr} {its : List Cell} (hp : H p = none) (g : Good K H its) : Good K (upd H p (.dK [])) (⟨.ref p, .dic [], true⟩ :: its) := by
  obtain ⟨O, S, l, a⟩ := g
  have n := l.nin hp
  refine ⟨[p] ++ O, S, .own (.dic upd_same rfl .nil) (l.new hp), List.nodup_cons.mpr ⟨n.1, a.1⟩, fun x hx hs => ?_⟩
  rcases List.mem_cons.mp hx with z | z
  · subst z; exact n.2 hs
  · exact a.2 x z hs
/-- a key of a dict of our own is written -/
theorem Good.put {K : PySem.W.Frag} {H : Hp} {a : Addr} {v : V} {d : D} {l : List (Key × D)} {its : List Cell} {k : Key} {b : Bool} (im : d.imm = true) (iml : D.imms (l.map (·.2)) = true) (g : Good K H (⟨v, d, b⟩ :: ⟨.ref a, .dic l, true⟩ :: its)) :
    ∃ kvs, H a = some (.dK kvs) ∧ kvs.length = l.length ∧ Good K (upd H a (.dK (putK kvs k v))) (⟨.ref a, .dic (putD l k d), true⟩ :: its) := by
  obtain ⟨A0, r0⟩ := g.rep
  obtain ⟨A1, r1⟩ := g.tail.rep
  cases r1 with
  | @dic _ kvs _ A3 ea ek rs =>
    have e3 := rs.imm_nil iml
    subst e3
    have hlen : kvs.length = l.length := by
      have := congrArg List.length ek
      simpa using this
    refine ⟨kvs, ea, hlen, g.tail.rewrite ea True.intro (fun A r => by cases r with | dic _ _ _ => exact ⟨_, rfl⟩) ?_⟩
    refine .dic upd_same (put_keys ek) ?_
    have r0' := rep_wr0 (o' := .dK (putK kvs k v)) r0 im ea True.intro
    have rs' : Reps K (upd H a (.dK (putK kvs k v))) true (kvs.map (·.2)) (l.map (·.2)) [] := rs.wr ea True.intro List.not_mem_nil
    have an := any_keys (k := k) ek
    by_cases hany : (l.any fun kv => decide (kv.1 = k)) = true
    · have e1 : putK kvs k v = kvs.map (fun kv => if kv.1 = k then (kv.1, v) else kv) := by unfold putK; rw [an, if_pos hany]
      have e2 : putD l k d = l.map (fun kv => if kv.1 = k then (kv.1, d) else kv) := by unfold putD; rw [if_pos hany]
      have := put_reps (k := k) r0' ek rs' iml
      rw [← e1, ← e2] at this
      exact this
    · have e1 : putK kvs k v = kvs ++ [(k, v)] := by unfold putK; rw [an, if_neg hany]
      have e2 : putD l k d = l ++ [(k, d)] := by unfold putD; rw [if_neg hany]
      have k1 : (putK kvs k v).map (·.2) = kvs.map (·.2) ++ [v] := by rw [e1, List.map_append]; rfl
      have k2 : (putD l k d).map (·.2) = l.map (·.2) ++ [d] := by rw [e2, List.map_append]; rfl
      rw [k1, k2]
      exact rs'.append (Reps.cons r0' .nil)
def stpD (g : GM) (tt : TM) (tk tv : EM) : Stp := fun d fl e acc => match acc with
  | .dic l => match g d fl e with
    | some e1 => match tt e1 with
      | some (false, e2) => some (.dic l, e2)
      | some (true, e2) => match tk e2 with
        | some (kd, _, e3) => match kd.key with
          | some k => match tv e3 with
            | some (y, _, e4) => if y.imm && D.imms (l.map (·.2)) && decide (l.length < sizeMax) then some (.dic (putD l k y), e4) else none
            | none => none
          | none => none
        | none => none
      | none => none
    | none => none
  | _ => none
def mDComp (own : Own) (it : IM) (g : GM) (tt : TM) (tk tv : EM) : EM := mCompG own it (stpD g tt tk tv) (.dic [])
section
variable {X : Cx}
theorem ex_dc {kx vx tg iter : Expr} {ifs : List Expr} {scope : Scope} {own : List (Str × Nat)} {js : List Nat} {pos : Pos} {it : IM} {g : GM} {tt : TM} {tk tv : EM} (hc : X.calm = true) (hN : X.N.Nodup) (hi : IX X tg iter it) (ok : BlkOk X.N X.env.scope scope own)
    (hj : ∀ j ∈ js, j ∈ own.map (·.2))
    (hg : ∀ (s : Shared) (H : Hp) (C : Addr) (cl : List (Str × Addr)) (fp : List Addr), GX (X.blk s H scope (compEnvC scope cl C X.env) fp) tg js g)
    (ht : ∀ (s : Shared) (H : Hp) (C : Addr) (cl : List (Str × Addr)) (fp : List Addr), TsX (X.blk s H scope (compEnvC scope cl C X.env) fp) ifs tt)
    (hk : ∀ (s : Shared) (H : Hp) (C : Addr) (cl : List (Str × Addr)) (fp : List Addr), EX (X.blk s H scope (compEnvC scope cl C X.env) fp) kx tk)
    (he : ∀ (s : Shared) (H : Hp) (C : Addr) (cl : List (Str × Addr)) (fp : List Addr), EX (X.blk s H scope (compEnvC scope cl C X.env) fp) vx tv)
    (hs : ∀ x, foldedSetIterable iter X.env x = pure x := by intro _; rfl) : EX X (.DictComp kx vx [⟨tg, iter, ifs, 0⟩] scope pos) (mDComp (own.map (·.2)) it g tt tk tv) := by
  refine PE.weak (pe_dc (g := semG X.K js g) (tt := semT X.K tt) (tk := semE X.K tk) (tv := semE X.K tv) hc hN hi ok hg ht hk he hs) fun σ H Q q => ?_
  refine cmp_core (acc0 := .dic []) (init := .dK []) _ (fun H p its hp gd => gd.dicNew hp) ?_ q
  intro ps x H' Da e3 acc F d fl acc' e' Nx o h nx
  unfold stpD at h
  split at h
  · next l =>
    split at h
    · next e1 h1 =>
      refine ⟨ps, e3, _, d, fl, o, e1, h1, fun σ4 H4 eq4 o4 => ?_⟩
      have ou : Out (own.map (·.2)) (wipe σ (own.map (·.2))) σ4 := Out.mono (js := js) ⟨eq4.1, eq4.2⟩ hj
      have wip : wipe σ4 (own.map (·.2)) = wipe σ (own.map (·.2)) := by
        rw [ou.wiped]
        exact (Out.wipe (js := own.map (·.2)) (σ := σ)).wiped
      refine ⟨wip, ?_⟩
      split at h
      · next e5 h5 =>
        cases h
        refine ⟨ps, e1, _, o4, false, _, h5, fun H5 o5 => ?_⟩
        refine iteF ?_
        exact nx H5 σ4 ou o5
      · next e5 h5 =>
        refine ⟨ps, e1, _, o4, true, e5, h5, fun H5 o5 => ?_⟩
        refine iteT ?_
        split at h
        · next kd bk e6 h6 =>
          split at h
          · next k hk =>
            split at h
            · next y by' e7 h7 =>
              split at h
              · next hz =>
                cases h
                have hz1 := Bool.and_eq_true_iff.mp hz
                have hz2 := Bool.and_eq_true_iff.mp hz1.1
                refine ⟨ps, e5, _, o5, kd, bk, e6, h6, fun kv H6 o6 => ?_⟩
                obtain ⟨A, r⟩ := o6.good.rep
                have ek := rep_key r hk
                refine ⟨ps, e6, _, o6.drop, y, by', _, h7, fun yv H7 o7 => ?_⟩
                obtain ⟨its7, z7, g7⟩ := o7
                have g8 : Good X.K H7 (⟨yv, y, by'⟩ :: ⟨.ref Da, .dic l, true⟩ :: (F ++ its7)) := g7.perm List.perm_append_comm
                obtain ⟨kvs, ea, hl, g9⟩ := g8.put (k := k) hz2.1 hz2.2
                refine ⟨kvs, k, ek, ea, by rw [hl, ← sizeMax_eq]; exact of_decide_eq_true hz1.2, ?_⟩
                exact nx _ σ4 ou ⟨its7, z7, g9.perm (List.perm_append_comm (l₁ := ⟨.ref Da, .dic (putD l k y), true⟩ :: F))⟩
              · cases h
            · cases h
          · cases h
        · cases h
      · cases h
    · cases h
  · cases h
end
theorem permA {its T F : List Cell} {c : Cell} : (its ++ (T ++ c :: F)).Perm (T ++ ((c :: F) ++ its)) := by
  have p := List.perm_append_comm (l₁ := its) (l₂ := T ++ c :: F)
  rwa [List.append_assoc] at p
theorem permC {its T F : List Cell} {c : Cell} : (c :: ((T ++ F) ++ its)).Perm (its ++ (T ++ c :: F)) := by
  have p1 : (its ++ (T ++ c :: F)).Perm (its ++ (c :: (T ++ F))) := List.Perm.append_left its List.perm_middle
  have p2 : (its ++ (c :: (T ++ F))).Perm (c :: (its ++ (T ++ F))) := List.perm_middle
  exact ((p1.trans p2).trans (List.Perm.cons _ List.perm_append_comm)).symm
theorem permB {its T F : List Cell} {y c : Cell} : (its ++ y :: (T ++ c :: F)).Perm (y :: c :: ((T ++ F) ++ its)) :=
  List.perm_middle.trans (List.Perm.cons _ permC.symm)
/-! ### two loops -/
def stp2 (vs1 : List Nat) (g : GM) (tt : TM) (it1 : IM) (g1 : GM) (tt1 : TM) (te : EM) : Stp := fun d fl e acc => match acc with
  | .lst l => match g d fl e with
    | some e1 => match tt e1 with
      | some (false, e2) => some (.lst l, e2)
      | some (true, e2) => match it1 e2 with
        | some (ds1, fl1, e3) => match compLoop vs1 g1 fl1 tt1 te ds1 (hideAll vs1 e3) l with
          | some (l', e4) => some (.lst l', e4)
          | none => none
        | none => none
      | none => none
    | none => none
  | _ => none
def mComp2 (own vs1 : List Nat) (it : IM) (g : GM) (tt : TM) (it1 : IM) (g1 : GM) (tt1 : TM) (te : EM) : EM := mCompG own it (stp2 vs1 g tt it1 g1 tt1 te) (.lst [])
section
variable {X : Cx}
theorem ex_lc2 {elt tg iter tg1 iter1 : Expr} {ifs ifs1 : List Expr} {scope : Scope} {own : List (Str × Nat)} {vs1 js js1 : List Nat} {pos : Pos} {it it1 : IM} {g g1 : GM} {tt tt1 : TM} {te : EM} (hc : X.calm = true) (hN : X.N.Nodup) (hi : IX X tg iter it) (ok : BlkOk X.N X.env.scope scope own)
    (hv : ∀ i ∈ vs1, i ∈ own.map (·.2)) (hj : ∀ j ∈ js, j ∈ own.map (·.2)) (hj1 : ∀ j ∈ js1, j ∈ vs1)
    (hg : ∀ (s : Shared) (H : Hp) (C : Addr) (cl : List (Str × Addr)) (fp : List Addr), GX (X.blk s H scope (compEnvC scope cl C X.env) fp) tg js g)
    (ht : ∀ (s : Shared) (H : Hp) (C : Addr) (cl : List (Str × Addr)) (fp : List Addr), TsX (X.blk s H scope (compEnvC scope cl C X.env) fp) ifs tt)
    (hi1 : ∀ (s : Shared) (H : Hp) (C : Addr) (cl : List (Str × Addr)) (fp : List Addr), IX (X.blk s H scope (compEnvC scope cl C X.env) fp) tg1 iter1 it1)
    (hg1 : ∀ (s : Shared) (H : Hp) (C : Addr) (cl : List (Str × Addr)) (fp : List Addr), GX (X.blk s H scope (compEnvC scope cl C X.env) fp) tg1 js1 g1)
    (ht1 : ∀ (s : Shared) (H : Hp) (C : Addr) (cl : List (Str × Addr)) (fp : List Addr), TsX (X.blk s H scope (compEnvC scope cl C X.env) fp) ifs1 tt1)
    (he : ∀ (s : Shared) (H : Hp) (C : Addr) (cl : List (Str × Addr)) (fp : List Addr), EX (X.blk s H scope (compEnvC scope cl C X.env) fp) elt te)
    (hs : ∀ x, foldedSetIterable iter X.env x = pure x := by intro _; rfl) (hs1 : ∀ env x, foldedSetIterable iter1 env x = pure x := by intro _ _; rfl) :
    EX X (.ListComp elt [⟨tg, iter, ifs, 0⟩, ⟨tg1, iter1, ifs1, 0⟩] scope pos) (mComp2 (own.map (·.2)) vs1 it g tt it1 g1 tt1 te) := by
  refine PE.weak (pe_lc2 (vs1 := vs1) (g := semG X.K js g) (tt := semT X.K tt) (wi1 := semI X.K it1) (g1 := semG X.K js1 g1) (tt1 := semT X.K tt1) (te := semE X.K te) hc hN hi ok hv hg ht hi1 hg1 ht1 he hs hs1) fun σ H Q q => ?_
  refine cmp_core (acc0 := .lst []) (init := .lst []) _ (fun H p its hp gd => Good.lstNew (vs := []) (ws := []) gd rfl hp) ?_ q
  intro ps x H' Da e3 acc F d fl acc' e' Nx o h nx
  unfold stp2 at h
  split at h
  · next l =>
    split at h
    · next e1 h1 =>
      refine ⟨ps, e3, _, d, fl, o, e1, h1, fun σ4 H4 eq4 o4 => ?_⟩
      have ou : Out (own.map (·.2)) (wipe σ (own.map (·.2))) σ4 := Out.mono (js := js) ⟨eq4.1, eq4.2⟩ hj
      have wip : wipe σ4 (own.map (·.2)) = wipe σ (own.map (·.2)) := by
        rw [ou.wiped]
        exact (Out.wipe (js := own.map (·.2)) (σ := σ)).wiped
      refine ⟨wip, ?_⟩
      split at h
      · next e5 h5 =>
        cases h
        refine ⟨ps, e1, _, o4, false, _, h5, fun H5 o5 => ?_⟩
        refine iteF ?_
        exact nx H5 σ4 ou o5
      · next e5 h5 =>
        refine ⟨ps, e1, _, o4, true, e5, h5, fun H5 o5 => ?_⟩
        refine iteT ?_
        split at h
        · next ds1 fl1 e6 h6 =>
          split at h
          · next l' e7 h7 =>
            cases h
            refine ⟨ps, e5, _, o5, ds1, fl1, e6, h6, fun J1 T1 H6 wk1 o6 => ?_⟩
            -- the inner loop: at the slots σ4, those of vs1 told no more
            have o7 : Ok X.K ps H6 (wipe σ4 vs1) (LF.hideAll vs1 e6) (T1 ++ ⟨.ref Da, .lst l, true⟩ :: F) := Out.block (js := vs1) Out.wipe o6
            refine ⟨fun j k H => k = ds1.length - j ∧ j ≤ ds1.length ∧ ∃ e8 a8, Ok X.K ps H (wipe σ4 vs1) e8 (T1 ++ ⟨.ref Da, .lst a8, true⟩ :: F) ∧ compLoop vs1 g1 fl1 tt1 te (ds1.drop j) e8 a8 = some (l', e'),
              ⟨ds1.length, by simp, Nat.zero_le _, _, _, o7, h7⟩, ?_⟩
            rintro j k H8 ⟨rfl, hjl, e8, a8, o8, h8⟩
            obtain ⟨its, z, gd⟩ := o8
            have gd1 : Good X.K H8 (T1 ++ ((⟨.ref Da, .lst a8, true⟩ :: F) ++ its)) := gd.perm permA
            obtain ⟨stop, go⟩ := wk1 j H8 _ gd1
            by_cases hlt : j < ds1.length
            · refine .inr ?_
              have hd : ds1[j]? = some ds1[j] := List.getElem?_eq_getElem hlt
              obtain ⟨hgo, hy⟩ := go _ hd
              refine ⟨hgo, fun H' => ∃ e9 a9, Ok X.K ps H' (wipe σ4 vs1) e9 (T1 ++ ⟨.ref Da, .lst a9, true⟩ :: F) ∧ compLoop vs1 g1 fl1 tt1 te (ds1.drop (j + 1)) e9 a9 = some (l', e'),
                fun H' ⟨e9, a9, o9, h9⟩ => ⟨ds1.length - (j + 1), by omega, rfl, hlt, e9, a9, o9, h9⟩, fun x1 H9 y1 => ?_⟩
              have g9 := hy x1 H9 y1
              have o9 : Ok X.K ps H9 (wipe σ4 vs1) e8 (⟨x1, ds1[j], fl1⟩ :: (T1 ++ ⟨.ref Da, .lst a8, true⟩ :: F)) := ⟨its, z, g9.perm ((List.Perm.cons _ permA.symm).trans List.perm_middle.symm)⟩
              rw [List.drop_eq_getElem_cons hlt] at h8
              unfold compLoop at h8
              split at h8
              · cases h8
              · next e10 h10 =>
                refine ⟨ps, e8, _, _, fl1, o9, e10, h10, fun σ5 H10 eq5 o10 => ?_⟩
                have ou5 : Out vs1 (wipe σ4 vs1) σ5 := Out.mono (js := js1) ⟨eq5.1, eq5.2⟩ hj1
                have wip5 : wipe σ5 vs1 = wipe σ4 vs1 := by
                  rw [ou5.wiped]
                  exact (Out.wipe (js := vs1) (σ := σ4)).wiped
                refine ⟨wip5, ?_⟩
                split at h8
                · cases h8
                · next e11 h11 =>
                  refine ⟨ps, e10, _, o10, false, e11, h11, fun H11 o11 => ?_⟩
                  refine iteF ?_
                  exact ⟨_, a8, ou5.symm.block o11, h8⟩
                · next e11 h11 =>
                  refine ⟨ps, e10, _, o10, true, e11, h11, fun H11 o11 => ?_⟩
                  refine iteT ?_
                  split at h8
                  · next yd e12 h12 =>
                    split at h8
                    · next hz =>
                      refine ⟨ps, e11, _, o11, yd, true, e12, h12, fun yv H12 o12 => ?_⟩
                      obtain ⟨its6, z6, g6⟩ := o12
                      have g7 : Good X.K H12 (⟨yv, yd, true⟩ :: ⟨.ref Da, .lst a8, true⟩ :: ((T1 ++ F) ++ its6)) := g6.perm permB
                      obtain ⟨vs, ea, hl, g8⟩ := g7.push
                      refine ⟨vs, ea, by rw [hl, ← sizeMax_eq]; exact hz, ?_⟩
                      have o13 : Ok X.K ps (upd H12 Da (.lst (vs ++ [yv]))) σ5 e12 (T1 ++ ⟨.ref Da, .lst (a8 ++ [yd]), true⟩ :: F) := ⟨its6, z6, g8.perm permC⟩
                      exact ⟨_, _, ou5.symm.block o13, h8⟩
                    · cases h8
                  · cases h8
            · have ei : j = ds1.length := by omega
              subst ei
              rw [List.drop_length] at h8
              cases h8
              refine .inl ⟨stop (Nat.le_refl _), nx H8 (wipe σ4 vs1) (ou.trans (Out.mono Out.wipe hv)) ?_⟩
              have o3 : Ok X.K ps H8 (wipe σ4 vs1) e' (T1 ++ ⟨.ref Da, .lst l', true⟩ :: F) := ⟨its, z, gd⟩
              exact o3.dropAll
          · cases h
        · cases h
      · cases h
    · cases h
  · cases h
end
end LF
/-! LF13: dicts: displays, get, update; items of our own lists and dicts. -/
namespace LF
open PySem PySem.Spec L2
open PyProof.Rows hiding St
/-! ### {} and displays -/
def mDNew : EM := fun e => some (.dic [], true, e)
section
variable {X : Cx} {pos : Pos}
theorem ex_dnew : EX X (.Dict [] [] pos) mDNew := PE.weak pe_dnewK fun σ H Q q => by
  obtain ⟨ps, e, F, o, d, b, e', hm, k⟩ := q
  cases hm
  exact fun p hp => k _ _ (o.lift fun its g => g.dicNew hp)
/-- {k: e, ..}: the keys constants -/
def mVals : List EM → En → Option (List DB × En)
  | [], e => some ([], e)
  | f :: fs, e => match f e with
    | some (d, b, e1) => match mVals fs e1 with
      | some (r, e2) => some ((d, b) :: r, e2)
      | none => none
    | none => none
def mDisp (ks : List Key) (fs : List EM) : EM := fun e => match mVals fs e with
  | some (ws, e') => if ks.Nodup ∧ ks.length = ws.length ∧ ks.length ≤ 15 then some (.dic (ks.zip (ws.map (·.1))), flags ws, e') else none
  | none => none
inductive DX (X : Cx) (pos : Pos) : List (Option Expr) → List Expr → List Key → List EM → Prop
  | nil : DX X pos [] [] [] []
  | cons {k v : Expr} {ks : List (Option Expr)} {vs : List Expr} {key : Key} {keys : List Key} {f : EM} {fs : List EM} : PE X k (tC (kV key)) → EX X v f → DX X pos ks vs keys fs → DX X pos (some k :: ks) (v :: vs) (key :: keys) (f :: fs)
def trOf (K : PySem.W.Frag) : List Key → List EM → List (TE × TE)
  | k :: ks, f :: fs => (tC (kV k), semE K f) :: trOf K ks fs
  | _, _ => []
theorem DX.pps {ks : List (Option Expr)} {vs : List Expr} {keys : List Key} {fs : List EM} (h : DX X pos ks vs keys fs) : PPs X pos ks vs (trOf X.K keys fs) ∧ ks.all (·.isSome) = true ∧ ks.length = vs.length ∧ ks.length = keys.length := by
  induction h with
  | nil => exact ⟨pps_nil, rfl, rfl, rfl⟩
  | cons hk hv _ ih => exact ⟨pps_cons hk hv ih.1, ih.2.1, congrArg (· + 1) ih.2.2.1, congrArg (· + 1) ih.2.2.2⟩
theorem pairs_read {K : PySem.W.Frag} {ps : List V} {σ : L2.St} : ∀ {ks : List Key} {fs : List EM} {e e' : En} {ws : List DB} {F : List Cell} {H : Hp} {Q : List (V × V) → Hp → Prop}, mVals fs e = some (ws, e') → ks.length = ws.length → Ok K ps H σ e F →
    (∀ vs H', vs.length = ws.length → Ok K ps H' σ e' (cells vs ws ++ F) → Q (List.zipWith (fun k v => (kV k, v)) ks vs) H') → tPairs (trOf K ks fs) σ H Q
  | [], [], e, e', ws, F, H, Q, h, hl, o, q => by
    cases h
    exact q [] H rfl o
  | [], f :: fs, e, e', ws, F, H, Q, h, hl, o, q => by
    unfold mVals at h
    split at h
    · split at h
      · cases h; cases hl
      · cases h
    · cases h
  | k :: ks, [], e, e', ws, F, H, Q, h, hl, o, q => by
    cases h
    cases hl
  | k :: ks, f :: fs, e, e', ws, F, H, Q, h, hl, o, q => by
    unfold mVals at h
    split at h
    · next d b e1 h1 =>
      split at h
      · next r e2 h2 =>
        cases h
        refine ⟨ps, e, F, o, d, b, e1, h1, fun v H1 o1 => ?_⟩
        refine pairs_read h2 (Nat.succ.inj hl) o1 fun vs H2 hv o2 => ?_
        exact q (v :: vs) H2 (congrArg (· + 1) hv) (o2.perm List.perm_middle)
      · cases h
    · cases h
theorem merge_nodup : ∀ (l : List (Key × V)) (acc : List (Key × V)), ((acc ++ l).map (·.1)).Nodup → mergeK acc l = acc ++ l
  | [], acc, _ => by rw [List.append_nil]; rfl
  | (k, v) :: l, acc, h => by
    have hn : valV acc k = none := by
      by_cases hs : (valV acc k).isSome = true
      · exfalso
        rw [← valV_any] at hs
        obtain ⟨p, hp, e⟩ := List.any_eq_true.mp hs
        have e' := of_decide_eq_true e
        rw [List.map_append] at h
        have := (List.nodup_append.mp h).2.2 k (List.mem_map.mpr ⟨p, hp, e'⟩) k (List.mem_map.mpr ⟨(k, v), List.mem_cons_self, rfl⟩)
        exact this rfl
      · cases hv : valV acc k with
        | none => rfl
        | some w => rw [hv] at hs; exact absurd rfl hs
    show mergeK (putK acc k v) l = _
    rw [putK_new v hn, merge_nodup l _ (by rw [List.append_assoc]; exact h), List.append_assoc]
    rfl
theorem ex_disp {ks : List (Option Expr)} {vs : List Expr} {keys : List Key} {fs : List EM} (h : DX X pos ks vs keys fs) (h0 : keys ≠ []) : EX X (.Dict ks vs pos) (mDisp keys fs) := by
  obtain ⟨h1, h2, h3, h4⟩ := h.pps
  refine ⟨fun pins s σ H Q I q => ?_⟩
  obtain ⟨ps, e, F, o, d, b, e', hm, k⟩ := q
  unfold mDisp at hm
  split at hm
  · next ws e2 hw =>
    split at hm
    · next hc =>
      cases hm
      obtain ⟨nd, hl, hz⟩ := hc
      refine (pe_disp h1 h2 h3 (fun z => h0 (List.eq_nil_of_length_eq_zero (by rw [← h4, z]; rfl))) (by rw [h4]; exact hz)).run pins s σ H Q I fun p hp => ?_
      have o1 : Ok X.K ps (upd H p (.dK [])) σ e (⟨.ref p, .dic [], true⟩ :: F) := o.lift fun its g => g.dicNew hp
      refine pairs_read hw hl o1 fun us H2 hu o2 => ?_
      obtain ⟨its, z, g⟩ := o2
      have g1 : Good X.K H2 (⟨.ref p, .dic [], true⟩ :: (cells us ws ++ (F ++ its))) := g.perm (by
        refine List.perm_append_comm.trans ?_
        rw [List.append_assoc]
        exact List.perm_middle)
      obtain ⟨A, r⟩ := g1.rep
      have ep : H2 p = some (.dK []) := by
        cases r with
        | dic ea ek rs =>
          have : ∀ {kvs : List (Key × V)}, kvs.map (·.1) = ([] : List Key) → kvs = [] := fun e => by simpa using e
          rw [ea, this ek]
      have hlen : keys.length = us.length := hl.trans hu.symm
      have hks : (keys.zip us).map (·.1) = keys := by
        rw [List.map_fst_zip (by omega)]
      have hvs : (keys.zip us).map (·.2) = us := by
        rw [List.map_snd_zip (by omega)]
      have ezip : List.zipWith (fun k v => (kV k, v)) keys us = (keys.zip us).map fun kv => (kV kv.1, kv.2) := by
        rw [List.zip, List.map_zipWith]
      refine ⟨ep, keys.zip us, ezip, by rw [List.length_zip]; omega, ?_⟩
      have em : mergeK [] (keys.zip us) = keys.zip us := by
        have := merge_nodup (keys.zip us) [] (by rw [List.nil_append, hks]; exact nd)
        rw [List.nil_append] at this
        exact this
      rw [em]
      refine k _ _ ⟨its, z, ?_⟩
      -- the dict with its values
      have hws : (keys.zip (ws.map (·.1))).map (·.1) = keys := by
        rw [List.map_fst_zip (by rw [List.length_map]; omega)]
      have hws2 : (keys.zip (ws.map (·.1))).map (·.2) = ws.map (·.1) := by
        rw [List.map_snd_zip (by rw [List.length_map]; omega)]
      have fin : Good X.K (upd H2 p (.dK (keys.zip us))) (⟨.ref p, .dic (keys.zip (ws.map (·.1))), flags ws⟩ :: (F ++ its)) := by
        cases hf : flags ws with
        | true =>
          have g2 : Good X.K H2 (cells us ws ++ (⟨.ref p, .dic [], true⟩ :: (F ++ its))) := g1.perm List.perm_middle.symm
          rw [flags_true hf] at g2
          obtain ⟨O, S, l, ap⟩ := g2
          obtain ⟨A, O', rs, l', e'⟩ := Lay.reps (by rw [List.length_map]; exact hu) l
          subst e'
          cases l' with
          | @own _ _ A1 O1 _ _ r1 l1 =>
            cases r1 with
            | @dic _ kvs0 _ A2 ea ek r0 =>
              have eA2 := r0.imm_nil rfl
              subst eA2
              have nd := ap.1
              rw [List.nodup_append] at nd
              obtain ⟨nd1, nd2, nd3⟩ := nd
              have nd2' : (p :: O1).Nodup := nd2
              rw [List.nodup_cons] at nd2'
              have n1 : p ∉ A := fun z => nd3 p z p List.mem_cons_self rfl
              have n4 : p ∉ S := ap.2 p (List.mem_append_right _ List.mem_cons_self)
              refine ⟨(p :: A) ++ O1, S, .own (.dic upd_same (hks.trans hws.symm) (by rw [hvs, hws2]; exact rs.wr ea True.intro n1)) (l1.wr ea True.intro nd2'.1 n4), ?_⟩
              refine ap.perm ?_ (.refl _)
              exact List.perm_middle
        | false =>
          have g2 : Good X.K H2 (cells us ws ++ (⟨.ref p, .dic [], true⟩ :: (F ++ its))) := g1.perm List.perm_middle.symm
          have g3 := g2.shareAll
          have e : (ws.map fun w => (w.1, false)) = (ws.map (·.1)).map fun d => (d, false) := by rw [List.map_map]; rfl
          rw [e] at g3
          obtain ⟨O, S, l, ap⟩ := g3
          obtain ⟨A, S', rs, l', e'⟩ := Lay.repsS (by rw [List.length_map]; exact hu) l
          subst e'
          cases l' with
          | @own _ _ A1 O1 _ _ r1 l1 =>
            cases r1 with
            | @dic _ kvs0 _ A2 ea ek r0 =>
              have eA2 := r0.imm_nil rfl
              subst eA2
              have nd := ap.1
              have nd' : (p :: O1).Nodup := nd
              rw [List.nodup_cons] at nd'
              have n4 : p ∉ A ++ S' := ap.2 p List.mem_cons_self
              have n1 : p ∉ A := fun z => n4 (List.mem_append_left _ z)
              have n5 : p ∉ S' := fun z => n4 (List.mem_append_right _ z)
              refine ⟨O1, (p :: A) ++ S', .shr (.dic upd_same (hks.trans hws.symm) (by rw [hvs, hws2]; exact rs.wr ea True.intro n1)) (l1.wr ea True.intro nd'.1 n5), nd'.2, fun x hx hs => ?_⟩
              rcases List.mem_cons.mp hs with z | z
              · subst z; exact nd'.1 hx
              · exact ap.2 x (List.mem_cons_of_mem _ hx) z
      exact fin.perm (by
        refine (List.Perm.cons _ List.perm_append_comm).trans ?_
        exact List.perm_middle.symm)
    · cases hm
  · cases hm
end
/-! ### d.get(k), d.get(k, x) -/
def gGet : PM := fun ws => match ws with
  | [(.dic l, bd), (k, bk)] => match k.key with
    | some key => match getK l key with
      | some d => if d.imm then some (d, true, [some (.dic l, bd), some (k, bk)]) else some (d, false, [some (.dic l, false), some (k, bk)])
      | none => some (.non, true, [some (.dic l, bd), some (k, bk)])
    | none => none
  | [(.dic l, bd), (k, bk), (x, bx)] => match k.key with
    | some key => match getK l key with
      | some d => if d.imm then some (d, true, [some (.dic l, bd), some (k, bk), none]) else some (d, false, [some (.dic l, false), some (k, bk), none])
      | none => some (x, bx, [some (.dic l, bd), some (k, bk), none])
    | none => none
  | _ => none
section
variable {X : Cx}
theorem get_rep {K : PySem.W.Frag} {H : Hp} {m : Bool} {v : V} {l : List (Key × D)} {A : List Addr} {k : Key} (r : Rep K H m v (.dic l) A) : ∃ a kvs, v = .ref a ∧ H a = some (.dK kvs) ∧ (getK l k = none → valV kvs k = none) ∧
    ∀ d, getK l k = some d → ∃ w, valV kvs k = some w ∧ ∀ m' A', Rep K H m' v (.dic l) A' → ∃ B, Rep K H m' w d B ∧ ∀ z ∈ B, z ∈ A' := by
  cases r with
  | @dic a kvs _ A ea ek rs =>
    refine ⟨_, _, rfl, ea, fun h => get_none ek h, fun d h => ?_⟩
    obtain ⟨w, B, h1, h2, h3⟩ := get_some ek rs h
    refine ⟨w, h1, fun m' A' r' => ?_⟩
    cases r' with
    | dic ea' ek' rs' =>
      rw [ea] at ea'
      cases ea'
      obtain ⟨w2, B2, k1, k2, k3⟩ := get_some ek' rs' h
      rw [h1] at k1
      cases k1
      exact ⟨B2, k2, fun z hz => List.mem_cons_of_mem _ (k3 z hz)⟩
theorem mx_get (hu : X.A.units + 1 < cLine) : MtX X "dict.get" gGet := by
  intro pins s σ H x xs v us Q I rx rxs h
  obtain ⟨ws, F, g, hl, d, b, os, hg, ho, q⟩ := h
  unfold gGet at hg
  split at hg
  · next l bd k bk =>
    match xs, hl with
    | [y], _ =>
      split at hg
      · next key hk =>
        have g0 : Good X.K H (⟨x, .dic l, bd⟩ :: ⟨y, k, bk⟩ :: F) := g
        obtain ⟨A, r⟩ := g0.rep
        obtain ⟨B, r2⟩ := g0.tail.rep
        have ey := rep_key r2 hk
        subst ey
        obtain ⟨a, kvs, rfl, ea, gn, gs⟩ := get_rep (k := key) r
        obtain ⟨u, rfl, ru⟩ := vals1 rxs
        cases rx
        split at hg
        · next d0 hd =>
          obtain ⟨w, hw, part⟩ := gs d0 hd
          have dg : DGet H a (kV key) (some w) := by have := DGet.k (k := key) ea; rw [hw] at this; exact this
          refine d_get1 hu I dg ru fun w' s' I' rw' => ⟨w, H, I', rw', ?_⟩
          split at hg
          · next im =>
            cases hg
            obtain ⟨B1, r3, _⟩ := part bd A r
            have r4 : Rep X.K H true w d B1 := r3.any im
            have e := r4.imm_nil im
            subst e
            exact q w H (g0.flatNew r4)
          · cases hg
            exact q w H (g0.share.part (A := []) (B := []) (part false))
        · next hd =>
          cases hg
          have dg : DGet H a (kV key) none := by have := DGet.k (k := key) ea; rw [gn hd] at this; exact this
          exact d_get1 hu I dg ru fun w' s' I' rw' => ⟨.non, H, I', rw', q .non H (g0.flatNew .non)⟩
      · cases hg
  · next l bd k bk x' bx =>
    match xs, hl with
    | [y, z], _ =>
      split at hg
      · next key hk =>
        have g0 : Good X.K H (⟨x, .dic l, bd⟩ :: ⟨y, k, bk⟩ :: ⟨z, x', bx⟩ :: F) := g
        obtain ⟨A, r⟩ := g0.rep
        obtain ⟨B, r2⟩ := g0.tail.rep
        have ey := rep_key r2 hk
        subst ey
        obtain ⟨a, kvs, rfl, ea, gn, gs⟩ := get_rep (k := key) r
        obtain ⟨u, u2, rfl, ru, ru2⟩ := vals2 rxs
        cases rx
        have g1 : Good X.K H (⟨z, x', bx⟩ :: ⟨.ref a, .dic l, bd⟩ :: ⟨kV key, k, bk⟩ :: F) := g0.perm ((List.Perm.cons _ (List.Perm.swap _ _ _)).trans (List.Perm.swap _ _ _))
        split at hg
        · next d0 hd =>
          obtain ⟨w, hw, part⟩ := gs d0 hd
          have dg : DGet H a (kV key) (some w) := by have := DGet.k (k := key) ea; rw [hw] at this; exact this
          refine d_get2 hu I dg ru ru2 fun w' s' I' rw' => ⟨w, H, I', rw', ?_⟩
          split at hg
          · next im =>
            cases hg
            obtain ⟨B1, r3, _⟩ := part bd A r
            have r4 : Rep X.K H true w d B1 := r3.any im
            have e := r4.imm_nil im
            subst e
            exact q w H (g1.tail.flatNew r4)
          · cases hg
            exact q w H (g1.tail.share.part (A := []) (B := []) (part false))
        · next hd =>
          cases hg
          have dg : DGet H a (kV key) none := by have := DGet.k (k := key) ea; rw [gn hd] at this; exact this
          exact d_get2 hu I dg ru ru2 fun w' s' I' rw' => ⟨z, H, I', rw', q z H g1⟩
      · cases hg
  · cases hg
end
end LF
/-! LF14: update; items of our own lists changed in place; parts of parts; enumerate. -/
namespace LF
open PySem PySem.Spec L2
open PyProof.Rows hiding St
/-! ### d.update(e) -/
def mergeD (l m : List (Key × D)) : List (Key × D) := m.foldl (fun acc kv => putD acc kv.1 kv.2) l
def gUpd : PM := fun ws => match ws with
  | [(.dic l, bl), (.dic m, bm)] => if bl && bm && D.imms (l.map (·.2)) && D.imms (m.map (·.2)) && decide (l.length + m.length ≤ sizeMax) then some (.non, true, [some (.dic (mergeD l m), true), some (.dic m, true)]) else none
  | _ => none
theorem putD_imms {l : List (Key × D)} {k : Key} {d : D} (h : D.imms (l.map (·.2)) = true) (hd : d.imm = true) : D.imms ((putD l k d).map (·.2)) = true := by
  rw [D.imms_all, List.all_eq_true] at h ⊢
  intro x hx
  obtain ⟨p, hp, rfl⟩ := List.mem_map.mp hx
  unfold putD at hp
  split at hp
  · obtain ⟨q, hq, rfl⟩ := List.mem_map.mp hp
    split
    · exact hd
    · exact h _ (List.mem_map.mpr ⟨q, hq, rfl⟩)
  · rcases List.mem_append.mp hp with z | z
    · exact h _ (List.mem_map.mpr ⟨p, z, rfl⟩)
    · rw [List.mem_singleton.mp z]; exact hd
theorem putKD {K : PySem.W.Frag} {H : Hp} {m : Bool} {k : Key} {v : V} {d : D} (r : Rep K H m v d []) {kvs : List (Key × V)} {kds : List (Key × D)} (ek : kvs.map (·.1) = kds.map (·.1)) (rs : Reps K H m (kvs.map (·.2)) (kds.map (·.2)) []) (im : D.imms (kds.map (·.2)) = true) :
    (putK kvs k v).map (·.1) = (putD kds k d).map (·.1) ∧ Reps K H m ((putK kvs k v).map (·.2)) ((putD kds k d).map (·.2)) [] := by
  refine ⟨put_keys ek, ?_⟩
  have an := any_keys (k := k) ek
  by_cases hany : (kds.any fun kv => decide (kv.1 = k)) = true
  · have e1 : putK kvs k v = kvs.map (fun kv => if kv.1 = k then (kv.1, v) else kv) := by unfold putK; rw [an, if_pos hany]
    have e2 : putD kds k d = kds.map (fun kv => if kv.1 = k then (kv.1, d) else kv) := by unfold putD; rw [if_pos hany]
    have := put_reps (k := k) r ek rs im
    rw [← e1, ← e2] at this
    exact this
  · have e1 : putK kvs k v = kvs ++ [(k, v)] := by unfold putK; rw [an, if_neg hany]
    have e2 : putD kds k d = kds ++ [(k, d)] := by unfold putD; rw [if_neg hany]
    have k1 : (putK kvs k v).map (·.2) = kvs.map (·.2) ++ [v] := by rw [e1, List.map_append]; rfl
    have k2 : (putD kds k d).map (·.2) = kds.map (·.2) ++ [d] := by rw [e2, List.map_append]; rfl
    rw [k1, k2]
    exact rs.append (Reps.cons r .nil)
theorem mergeKD {K : PySem.W.Frag} {H : Hp} {m : Bool} : ∀ {more : List (Key × V)} {moreD : List (Key × D)} {kvs : List (Key × V)} {kds : List (Key × D)}, more.map (·.1) = moreD.map (·.1) → Reps K H m (more.map (·.2)) (moreD.map (·.2)) [] → D.imms (moreD.map (·.2)) = true →
    kvs.map (·.1) = kds.map (·.1) → Reps K H m (kvs.map (·.2)) (kds.map (·.2)) [] → D.imms (kds.map (·.2)) = true →
    (mergeK kvs more).map (·.1) = (mergeD kds moreD).map (·.1) ∧ Reps K H m ((mergeK kvs more).map (·.2)) ((mergeD kds moreD).map (·.2)) []
  | [], [], _, _, _, _, _, ek, rs, _ => ⟨ek, rs⟩
  | [], _ :: _, _, _, e, _, _, _, _, _ => nomatch e
  | _ :: _, [], _, _, e, _, _, _, _, _ => nomatch e
  | (k, v) :: more, (k', d) :: moreD, kvs, kds, e, r, im, ek, rs, iml => by
    have e' : k :: more.map (·.1) = k' :: moreD.map (·.1) := e
    injection e' with e0 er
    subst e0
    have im' := Bool.and_eq_true_iff.mp (show (d.imm && D.imms (moreD.map (·.2))) = true from im)
    have r' : Reps K H m (v :: more.map (·.2)) (d :: moreD.map (·.2)) [] := r
    generalize eA : ([] : List Addr) = A at r'
    cases r' with
    | cons r1 r2 =>
      have e1 := r1.imm_nil im'.1
      have e2 := r2.imm_nil im'.2
      subst e1 e2
      obtain ⟨a, b⟩ := putKD (k := k) r1 ek rs iml
      have z := mergeKD (kvs := putK kvs k v) (kds := putD kds k d) er r2 im'.2 a b (putD_imms iml im'.1)
      exact z
section
variable {X : Cx}
theorem mx_update : MtX X "dict.update" gUpd := by
  intro pins s σ H x xs v us Q I rx rxs h
  have hn := spR_n (n := 2) h fun ws r hg => by
    unfold gUpd at hg
    split at hg
    · rfl
    · cases hg
  match xs, hn with
  | [y], _ =>
    obtain ⟨a, ba, b, bb, F, g, d, bd, os, hg, ho, q⟩ := spR_two h
    unfold gUpd at hg
    split at hg
    · next l bl m bm e =>
      cases e
      split at hg
      · next hc =>
        cases hg
        have h1 := Bool.and_eq_true_iff.mp hc
        have h2 := Bool.and_eq_true_iff.mp h1.1
        have h3 := Bool.and_eq_true_iff.mp h2.1
        have h4 := Bool.and_eq_true_iff.mp h3.1
        obtain ⟨e1, e2⟩ := h4
        subst e1 e2
        have hz := of_decide_eq_true h1.2
        obtain ⟨u, rfl, ru⟩ := vals1 rxs
        obtain ⟨O, S, lay, ap⟩ := id g
        cases lay with
        | @own _ _ A1 O1 _ _ r1 lay1 =>
          cases lay1 with
          | @own _ _ A2 O2 _ _ r2 lay2 =>
            cases r1 with
            | @dic a kvs _ B1 ea ek rs =>
              cases r2 with
              | @dic b more _ B2 eb ek2 rs2 =>
                have eB1 := rs.imm_nil h3.2
                have eB2 := rs2.imm_nil h2.2
                subst eB1 eB2
                cases rx
                cases ru
                have nab : a ≠ b := by
                  intro z
                  subst z
                  have nd := ap.1
                  simp at nd
                have l1 : kvs.length = l.length := by simpa using congrArg List.length ek
                have l2 : more.length = m.length := by simpa using congrArg List.length ek2
                obtain ⟨z1, hS1, vs1, rel1, D1⟩ : kvs.length ≤ sizeLine ∧ (a == sysModules) = false ∧ ∃ vs, KV kvs vs ∧ s.heap.DictOf (mixKind X.prog X.w) a vs := I.hok a _ ea
                obtain ⟨z2, hS2, vs2, rel2, D2⟩ : more.length ≤ sizeLine ∧ (b == sysModules) = false ∧ ∃ vs, KV more vs ∧ s.heap.DictOf (mixKind X.prog X.w) b vs := I.hok b _ eb
                have hsz : l.length + m.length ≤ sizeLine := by rw [← sizeMax_eq]; exact hz
                have hl1 : vs1.length = kvs.length := (Paired.length rel1).symm
                have hl2 : vs2.length = more.length := (Paired.length rel2).symm
                refine call_meetsIn PySem.F.slot_dict_update D1.typeIs PySem.F.entry_dict_update (PySem.F.args_dict_update_2 _ _) (meets_dict_update (mixKind X.prog X.w) a b nab hS2) ⟨vs1, vs2, D1, D2, by rw [hl1, hl2, l1, l2]; exact hsz, fun h' hm' _ hs => ?_⟩
                have rk : KV (mergeK kvs more) (merged vs1 vs2) := KV.merge rel2 rel1
                obtain ⟨mk, mr⟩ := mergeKD ek2 rs2 h2.2 ek rs h3.2
                have rp : Good X.K (upd H a (.dK (mergeK kvs more))) (⟨.ref a, .dic (mergeD l m), true⟩ :: ⟨.ref b, .dic m, true⟩ :: F) := by
                  refine g.rewrite ea True.intro (fun A r => by cases r with | dic _ _ _ => exact ⟨_, rfl⟩) ?_
                  exact .dic upd_same mk (mr.wr ea True.intro List.not_mem_nil)
                have len : (mergeK kvs more).length ≤ sizeLine := by
                  have : ∀ (mo kv : List (Key × V)), (mergeK kv mo).length ≤ kv.length + mo.length := by
                    intro mo
                    induction mo with
                    | nil => intro kv; exact Nat.le_refl _
                    | cons p mo ih =>
                      intro kv
                      have hp : (putK kv p.1 p.2).length ≤ kv.length + 1 := by
                        unfold putK
                        split
                        · rw [List.length_map]; omega
                        · rw [List.length_append]; exact Nat.le_refl _
                      have := ih (putK kv p.1 p.2)
                      show (mergeK (putK kv p.1 p.2) mo).length ≤ _
                      rw [List.length_cons]
                      omega
                  have := this more kvs
                  rw [l1, l2] at this
                  exact Nat.le_trans this hsz
                refine ⟨.non, upd H a (.dK (mergeK kvs more)), I.write (e := a) (t' := s.toks) (by rw [ea]; trivial) (.inl rfl) (fun c w hc hw => hs.extBut c w hc hw) ?_ (show ObjOk X.prog X.w _ _ a (.dK _) from ⟨len, hS1, _, rk, hm'⟩), rfl, q .non _ (Good.flatNew rp .non)⟩
                obtain ⟨o, ho, _⟩ := Heap.dictOf_iff.mp hm'
                exact ⟨o, ho⟩
      · cases hg
    · cases hg
end
/-! ### x[k] += e, x a list of our own -/
def mAugL (i : Nat) (fk : EM) (f : Int → Int → Int) (fe : EM) : SM := fun e => match e[i]? with
 | some (some _) => (match fk e with
  | some (.int k, _, e1) => match e1[i]? with
    | some (some sl) => match sl.d with
      | .lst l => match atI l k with
        | some (.int a) => match fe e1 with
          | some (.int b, _, e2) => match e2[i]? with
            | some (some sl2) => match sl2.d, sl2.own with
              | .lst l2, true => match ixN l2.length k with
                | some j => match l2[j]? with
                  | some d0 => if d0.imm then some (.nx, e2.set i (some ⟨.lst (l2.set j (.int (f a b))), true, sl2.pin⟩)) else none
                  | none => none
                | none => none
              | _, _ => none
            | _ => none
          | _ => none
        | _ => none
      | _ => none
    | _ => none
  | _ => none)
 | _ => none
section
variable {X : Cx} {x y z : Expr} {pos : Pos}
theorem pget_list : PGet X fun o i H Q => ∃ a xs k v, o = .ref a ∧ i = .int k ∧ SqL X.K H a xs ∧ atI xs k = some v ∧ Q v H := by
  intro pins s σ H o i ov iv Q I ro ri h
  obtain ⟨a, xs, k, v, rfl, rfl, hq, he, q⟩ := h
  cases ro
  obtain ⟨t, rfl⟩ := ri
  obtain ⟨its, r, pl, hz⟩ := I.list hq
  obtain ⟨j, h1, h2, h3, h4, h5⟩ := atI_get he
  obtain ⟨w, ew, rw'⟩ := r.get h2
  have hl := r.length
  have hn := line63
  have fin : EP X pins σ Q w s := ⟨v, H, I, rw', q⟩
  by_cases h0 : 0 ≤ k
  · have hj : k.toNat = j := by
      rw [seqIndex_of h0 h5] at h1
      exact Option.some.inj h1
    exact wpAny_getItem_list pl.isList h0 (by omega) (by rw [hj]; simpa using ew) fin
  · have hj : (k + (its.toArray.size : Int)).toNat = j := by
      have hk : k < 0 := by omega
      rw [seqIndex_neg hk h4] at h1
      rw [List.size_toArray, ← hl]
      exact Option.some.inj h1
    have hk : k < 0 := by omega
    exact wpAny_getItem_list_neg pl.isList hk (by rw [List.size_toArray] <;> omega) (by omega) (by rw [hj]; simpa using ew) fin
theorem sx_augL {i : Nat} {tpos : Pos} {op : Operator} {f : Int → Int → Int} {fk fe : EM} (ho : PE X x (tVar i)) (hi : EX X y fk) (he : EX X z fe) (hp : PIp X op (ipI f))
    (ha : ∀ ov iv new, augStore y ov iv new = (do holding [new, ov, iv] (setItem ov iv new); release [new, ov, iv] []; pure .next) := by intros; rfl) : SX X (.AugAssign (.Subscript x y tpos) op z pos) (mAugL i fk f fe) := by
  refine PS.weak (ps_augS ho hi pget_list he hp set_list ha) fun D σ H q => ?_
  obtain ⟨ps, e, F, o, fl, e', hm, q⟩ := q
  unfold mAugL at hm
  split at hm
  · next sl0 hs0 =>
   obtain ⟨ov, hov, _, _⟩ := o.out hs0
   refine ⟨ov, hov, ?_⟩
   split at hm
   · next k bk e1 h1 =>
    refine ⟨ps, e, F, o, _, bk, e1, h1, fun kv H1 o1 => ?_⟩
    obtain ⟨A, r⟩ := o1.good.rep
    cases rep_int r
    split at hm
    · next sl hs =>
      split at hm
      · next l hl =>
        split at hm
        · next a hat =>
          obtain ⟨ov1, hov1, hpin1, oo1⟩ := o1.drop.out hs
          rw [hov] at hov1
          cases hov1
          rw [hl] at oo1
          obtain ⟨A, r⟩ := oo1.good.rep
          obtain ⟨aa, vs, B, rfl, rd, _, rs⟩ := rep_lstS r
          obtain ⟨w, B1, w1, w2, _⟩ := atI_reps rs hat
          cases rep_int w2
          refine ⟨aa, vs, k, _, rfl, rfl, .inl rd, w1, ?_⟩
          split at hm
          · next b bb e2 h2 =>
            refine ⟨ps, e1, F, o1.drop, _, bb, e2, h2, fun bv H2 o2 => ?_⟩
            obtain ⟨A, r⟩ := o2.good.rep
            cases rep_int r
            refine ⟨a, b, rfl, rfl, ?_⟩
            split at hm
            · next sl2 hs2 =>
              split at hm
              · next l2 hl2 hown =>
                split at hm
                · next j hj =>
                  split at hm
                  · next d0 hd0 =>
                    split at hm
                    · next im =>
                      cases hm
                      obtain ⟨ov2, hov2, hpin2, oo2⟩ := o2.drop.out hs2
                      rw [hov] at hov2
                      cases hov2
                      rw [hl2, hown] at oo2
                      obtain ⟨its, z, g⟩ := oo2
                      have g1 : Good X.K H2 (⟨.ref aa, .lst l2, true⟩ :: (its ++ F)) := g.perm List.perm_middle
                      obtain ⟨a3, vs3, A3, ea3, e3, rs3⟩ := g1.atL
                      cases ea3
                      refine ⟨aa, vs3, k, j, rfl, rfl, e3, by rw [rs3.length]; exact hj, q σ _ ?_⟩
                      have g2 : Good X.K (upd H2 aa (.lst (vs3.set j (.int (f a b))))) (⟨.ref aa, .lst (l2.set j (.int (f a b))), true⟩ :: (its ++ F)) := by
                        refine g1.relist fun vs' A' ea' rs' n' => ?_
                        rw [e3] at ea'
                        cases ea'
                        exact Reps.setImm (.int _) (rs'.wr e3 True.intro n') hd0 im
                      have o3 : Ok X.K ps (upd H2 aa (.lst (vs3.set j (.int (f a b))))) σ (e2.set i none) (⟨.ref aa, .lst (l2.set j (.int (f a b))), true⟩ :: F) := ⟨its, z, g2.perm List.perm_middle.symm⟩
                      have o4 := o3.back hov hpin2
                      rw [List.set_set] at o4
                      exact o4
                    · cases hm
                  · cases hm
                · cases hm
              · cases hm
            · cases hm
          · cases hm
        · cases hm
      · cases hm
    · cases hm
   · cases hm
  · cases hm
/-! ### x[k][lo:], x a list of our own that has lists in it -/
def mBagSl (i : Nat) (k m : Int) : EM := fun e => match e[i]? with
  | some (some sl) => match sl.d with
    | .lst l => match atI l k, atI l m with
      | some (.lst c), some (.int lo) => if D.imms c then some (.lst (cutD c (some lo) none), true, e) else none
      | _, _ => none
    | _ => none
  | _ => none
theorem ex_bagSl {i : Nat} {k m : Int} {x1 x2 y1 y2 : Expr} {p1 p2 p3 : Pos} (hx : PE X x1 (tVar i)) (hk : PE X y1 (tC (.int k))) (hs1 : PlainIx y1) (hx2 : PE X x2 (tVar i)) (hm : PE X y2 (tC (.int m))) (hs2 : PlainIx y2) :
    EX X (.Subscript (.Subscript x1 y1 p1) (.Slice (some (.Subscript x2 y2 p2)) none none p3) pos) (mBagSl i k m) := by
  refine PE.weak (pe_slice sl_list (pe_ix ix_list hx hk hs1) (po_some (pe_ix ix_list hx2 hm hs2)) po_none) fun σ H Q q => ?_
  obtain ⟨ps, e, F, o, d, b, e', hf, q⟩ := q
  unfold mBagSl at hf
  split at hf
  · next sl hs =>
    split at hf
    · next l hl =>
      split at hf
      · next c lo hc hlo =>
        split at hf
        · next im =>
          cases hf
          obtain ⟨v, hv, hp, oo⟩ := o.out hs
          rw [hl] at oo
          obtain ⟨A, r⟩ := oo.good.rep
          obtain ⟨a, vs, B, rfl, rd, _, rs⟩ := rep_lstS r
          obtain ⟨w1, B1, e1, r1, _⟩ := atI_reps rs hc
          obtain ⟨w2, B2, e2, r2, _⟩ := atI_reps rs hlo
          cases rep_int r2
          obtain ⟨a1, vs1, C1, rfl, rd1, _, rs1⟩ := rep_lstS r1
          refine ⟨_, hv, a, vs, k, _, rfl, rfl, .inl rd, e1, _, hv, a, vs, m, _, rfl, rfl, .inl rd, e2, lo, rfl, a1, vs1, rfl, .inl rd1, fun p hp => q _ _ ?_⟩
          obtain ⟨B3, r3, _⟩ := rs1.cut (some lo) none
          exact o.lift fun its g => g.lstImm r3 (imms_cut im) hp
        · cases hf
      · cases hf
    · cases hf
  · cases hf
/-! ### x[k].pop(0), x a dict of our own that has lists in it -/
def mDPop0 (i : Nat) (fk : EM) : EM := fun e => match e[i]? with
  | some (some _) => (match fk e with
    | some (kd, _, e1) => match kd.key with
      | some key => match e1[i]? with
        | some (some sl) => match sl.d, sl.own with
          | .dic l, true => match getK l key with
            | some (.lst (y :: ys)) => if y.imm then some (y, true, e1.set i (some ⟨.dic (putD l key (.lst ys)), true, sl.pin⟩)) else none
            | _ => none
          | _, _ => none
        | _ => none
      | none => none
    | none => none)
  | _ => none
end
end LF
/-! LF15: a list within a dict of our own loses its head; enumerate of a tuple; a star over a range; three names stored at once. -/
namespace LF
open PySem PySem.Spec L2
open PyProof.Rows hiding St
def repD : List (Key × D) → Key → D → List (Key × D)
  | [], _, _ => []
  | (k0, d0) :: l, k, d => if k0 = k then (k0, d) :: l else (k0, d0) :: repD l k d
theorem repD_keys : ∀ {l : List (Key × D)} {k : Key} {d : D}, (repD l k d).map (·.1) = l.map (·.1)
  | [], _, _ => rfl
  | (k0, d0) :: l, k, d => by
    unfold repD
    split
    · rfl
    · show k0 :: (repD l k d).map (·.1) = k0 :: l.map (·.1)
      rw [repD_keys]
section
variable {K : PySem.W.Frag} {H : Hp}
theorem dpop : ∀ {kvs : List (Key × V)} {kds : List (Key × D)} {A : List Addr} {key : Key} {y : D} {ys : List D}, kvs.map (·.1) = kds.map (·.1) → Reps K H true (kvs.map (·.2)) (kds.map (·.2)) A → A.Nodup → getK kds key = some (.lst (y :: ys)) → y.imm = true →
    ∃ la w0 ws, valV kvs key = some (.ref la) ∧ H la = some (.lst (w0 :: ws)) ∧ Rep K H true w0 y [] ∧ la ∈ A ∧ Reps K (upd H la (.lst ws)) true (kvs.map (·.2)) ((repD kds key (.lst ys)).map (·.2)) A
  | _, [], _, _, _, _, _, _, _, h, _ => by unfold getK at h; simp at h
  | [], _ :: _, _, _, _, _, e, _, _, _, _ => nomatch e
  | (k0, v0) :: kvs, (k1, d1) :: kds, A, key, y, ys, e, r, nd, h, im => by
    have e' : k0 :: kvs.map (·.1) = k1 :: kds.map (·.1) := e
    injection e' with e0 er
    subst e0
    have r' : Reps K H true (v0 :: kvs.map (·.2)) (d1 :: kds.map (·.2)) A := r
    cases r' with
    | @cons _ _ _ _ A1 A2 r1 rs =>
      have nd' := List.nodup_append.mp nd
      by_cases hk : k0 = key
      · have ed : d1 = .lst (y :: ys) := by
          unfold getK at h
          rw [List.find?_cons] at h
          simpa [hk] using h
        subst ed
        cases r1 with
        | @lst la vs _ B q f rs1 =>
          have ea := f rfl
          cases rs1 with
          | @cons w0 ws _ _ B1 B2 ry rys =>
            have eB := ry.imm_nil im
            subst eB
            have n1 : la ∉ B2 := fun z => by
              have := (List.nodup_cons.mp nd'.1).1
              exact this (by simpa using z)
            have n2 : la ∉ A2 := fun z => nd'.2.2 la List.mem_cons_self la z rfl
            refine ⟨la, w0, ws, valV_pos (p := (k0, V.ref la)) hk, ea, ry, List.mem_append_left _ List.mem_cons_self, ?_⟩
            have er2 : repD ((k0, D.lst (y :: ys)) :: kds) key (.lst ys) = (k0, .lst ys) :: kds := by
              unfold repD
              rw [if_pos hk]
            rw [er2]
            exact Reps.cons (.lst (.inl upd_same) (fun _ => upd_same) (rys.wr ea True.intro n1)) (rs.wr ea True.intro n2)
      · obtain ⟨la, w0, ws, h1, h2, h3, h4, h5⟩ := dpop er rs nd'.2.1 (by
          unfold getK at h ⊢
          rw [List.find?_cons] at h
          simpa [hk] using h) im
        have n1 : la ∉ A1 := fun z => nd'.2.2 la z la h4 rfl
        refine ⟨la, w0, ws, by rw [valV_neg (p := (k0, v0)) hk]; exact h1, h2, h3, List.mem_append_right _ h4, ?_⟩
        have er2 : repD ((k0, d1) :: kds) key (.lst ys) = (k0, d1) :: repD kds key (.lst ys) := by
          conv => lhs; unfold repD
          rw [if_neg hk]
        rw [er2]
        exact Reps.cons (r1.wr h2 True.intro n1) h5
end
/-- x[k].pop(0), x a dict of our own that has lists in it -/
def mDPop (i : Nat) (fk : EM) : EM := fun e => match e[i]? with
  | some (some _) => (match fk e with
    | some (kd, _, e1) => match kd.key with
      | some key => match e1[i]? with
        | some (some sl) => match sl.d, sl.own with
          | .dic l, true => match getK l key with
            | some (.lst (y :: ys)) => if y.imm then some (y, true, e1.set i (some ⟨.dic (repD l key (.lst ys)), true, sl.pin⟩)) else none
            | _ => none
          | _, _ => none
        | _ => none
      | none => none
    | none => none)
  | _ => none
section
variable {X : Cx} {x y : Expr} {pos p1 apos cpos : Pos}
theorem ex_dpop {i k0 : Nat} {fk : EM} {pz : Pos} (hu : X.A.units + 1 < cLine) (hx : PE X x (tVar i)) (hk : EX X y fk) (hs1 : PlainIx y)
    (hbase : attributeBase (.Subscript x y p1) "pop" X.env (eval (.Subscript x y p1) X.env) = eval (.Subscript x y p1) X.env := by rfl)
    (hline : (apos.endLine == cpos.line) = true := by rfl) (he : starEach [.Constant (.int 0) k0 pz] X.env = (false, eval (.Constant (.int 0) k0 pz) X.env) :: starEach [] X.env := by rfl)
    (hfew : ((backTo cpos (starEach [.Constant (.int 0) k0 pz] X.env)).all (fun x => !x.1) && (backToKw cpos (keywordEach [] X.env)).all (fun x => x.1.isSome)
      && decide (([.Constant (.int 0) k0 pz] : List Expr).length + ([] : List Keyword).length + (if ([] : List Keyword).isEmpty then 0 else 1) < 30)) = true := by rfl)
    (hplain : (backTo cpos (starEach [] X.env)).any (·.1) = false := by rfl) :
    EX X (.Call (.Attribute (.Subscript x y p1) "pop" apos) [.Constant (.int 0) k0 pz] [] cpos) (mDPop i fk) := by
  refine PE.weak (pe_bm PySem.F.plainAttrs_list PySem.F.slot_list_pop PySem.F.type_list_pop mt_popAt (pe_ix (ix_dict hu) hx hk hs1) (pa_cons pe_int pa_nil he) hbase hfew hline he hplain) fun σ H Q q => ?_
  obtain ⟨ps, e, F, o, d, b, e', hf, q⟩ := q
  unfold mDPop at hf
  split at hf
  · next sl0 hs0 =>
    obtain ⟨ov, hov, _, _⟩ := o.out hs0
    refine ⟨ov, hov, ?_⟩
    split at hf
    · next kd bk e1 h1 =>
      split at hf
      · next key hkey =>
        split at hf
        · next sl hs =>
          split at hf
          · next l hl hown =>
            split at hf
            · next yd ys hg =>
              split at hf
              · next im =>
                cases hf
                refine ⟨ps, e, F, o, _, bk, e1, h1, fun kv H1 o1 => ?_⟩
                obtain ⟨A, r⟩ := o1.good.rep
                have ek := rep_key r hkey
                subst ek
                obtain ⟨ov1, hov1, hpin, oo⟩ := o1.drop.out hs
                rw [hov] at hov1
                cases hov1
                rw [hl, hown] at oo
                obtain ⟨its, z, g⟩ := oo
                have g1 : Good X.K H1 (⟨ov, .dic l, true⟩ :: (its ++ F)) := g.perm List.perm_middle
                obtain ⟨O, S, lay, ap⟩ := g1
                cases lay with
                | @own _ _ A O _ _ r2 lay =>
                  cases r2 with
                  | @dic a kvs _ A ea ekk rs =>
                    have nd : (a :: (A ++ O)).Nodup := ap.1
                    have nd2 := List.nodup_cons.mp nd
                    have nd3 := List.nodup_append.mp nd2.2
                    obtain ⟨la, w0, ws, w1, w2, w3, w4, w5⟩ := dpop ekk rs nd3.1 hg im
                    have nla : la ≠ a := fun z => nd2.1 (z ▸ List.mem_append_left _ w4)
                    have nO : la ∉ O := fun z => nd3.2.2 la w4 la z rfl
                    have nS : la ∉ S := ap.2 la (List.mem_cons_of_mem _ (List.mem_append_left _ w4))
                    have dg : DGet H1 a (kV key) (some (.ref la)) := by have := DGet.k (k := key) ea; rw [w1] at this; exact this
                    refine ⟨a, .ref la, rfl, dg, .inl ⟨rfl, _, .inl (.inl w2)⟩, la, w0 :: ws, 0, 0, w0, rfl, rfl, w2, by decide, by decide, by unfold seqIndex?; simp, rfl, ?_⟩
                    refine q _ _ ?_
                    have r3 : Rep X.K (upd H1 la (.lst ws)) true (.ref a) (.dic (repD l key (.lst ys))) (a :: A) :=
                      .dic (by rw [upd_ne (Ne.symm nla)]; exact ea) (ekk.trans repD_keys.symm) w5
                    have g2 : Good X.K (upd H1 la (.lst ws)) (⟨.ref a, .dic (repD l key (.lst ys)), true⟩ :: (its ++ F)) := ⟨_, S, .own r3 (lay.wr w2 True.intro nO nS), ap⟩
                    have o3 : Ok X.K ps (upd H1 la (.lst ws)) σ (e1.set i none) (⟨.ref a, .dic (repD l key (.lst ys)), true⟩ :: F) := ⟨its, z, g2.perm List.perm_middle.symm⟩
                    have o4 := o3.back hov hpin
                    rw [List.set_set] at o4
                    exact o4.flat (w3.wr w2 True.intro List.not_mem_nil)
              · cases hf
            · cases hf
          · cases hf
        · cases hf
      · cases hf
    · cases hf
  · cases hf
end
/-! ### for i, x in enumerate(t), t a tuple -/
/-- the tuple at a, each item in a new pair -/
def IteT (K : PySem.W.Frag) (a : Addr) : It :=
  ⟨fun i H => ∃ (xs : List V) (x : V), SqT K H a xs ∧ xs[i]? = some x, fun i H v H' => ∃ T x, v = .ref T ∧ H T = none ∧ H' = upd H T (.tup [.int (i : Nat), x]) ∧ ∀ xs, SqT K H a xs → xs[i]? = some x, fun i H => ∃ xs : List V, SqT K H a xs ∧ xs.length ≤ i⟩
theorem turn_enumT {P : Program} {w : World} {K : PySem.W.Frag} {elts : List Expr} {kk : Nat} {tpos : Pos} (a e it : Addr) (hae : a ≠ e) (hai : a ≠ it) :
    Turn P w K (.Tuple elts kk tpos) (IteT K a) [e, it] e (fun i h => (∃ old, IsEnum h e it ((i : Nat) : Int) old) ∧ h.IsTupleIter it a i ∧ e ≠ it) where
  mem := List.mem_cons_self
  obj := fun i h st b hb => by
    obtain ⟨⟨old, he⟩, ⟨o, ho, hc, hd⟩, _⟩ := st
    rcases List.mem_cons.mp hb with z | z
    · rw [z]
      exact ⟨_, he, fun v q => nomatch q⟩
    · rw [List.mem_singleton.mp z]
      exact ⟨o, ho, fun v q => by rw [hd] at q; cases q⟩
  keep := fun i h h' st k => let ⟨⟨old, he⟩, hi, hne⟩ := st; ⟨⟨old, k e List.mem_cons_self _ he⟩, hi.at fun o q => k it (List.mem_cons_of_mem _ List.mem_cons_self) o q, hne⟩
  item := by
    intro X hP hw hK hc i pins s σ H E I hf st hg
    subst hP hw hK
    obtain ⟨⟨old, he⟩, hit, hne⟩ := st
    obtain ⟨xs, x, hq, hx⟩ := hg
    obtain ⟨its, rv, p, hz⟩ := I.tuple hq
    obtain ⟨u, hu, ru⟩ := rv.get hx
    have hel : e < s.heap.objs.size := Heap.lt_size he
    have hil : it < s.heap.objs.size := by obtain ⟨_, q, _⟩ := hit; exact Heap.lt_size q
    have hh : X.A.handled = none := I.ok.hd hc
    have D : Draws X.prog X.w X.A.in1 it [it, a] its.toArray.size (fun i v => its.toArray[i]? = some v) (fun i h => h.IsTupleIter it a i ∧ h.IsTuple a its.toArray) := tupDraws (A := X.A.in1) hh it a hai its.toArray
    have hlt : i < its.toArray.size := by
      have := (List.getElem?_eq_some_iff.mp hu).1
      simpa using this
    refine wpAny_pyNext_enum_itemD D he ⟨hit, p⟩ hlt hne (by simp [hne, Ne.symm hae]) fun x1 h' tk hx1 ho st' hT hsz hk => ?_
    have ex : x1 = u := by
      have : its[i]? = some x1 := by simpa using hx1
      rw [hu] at this
      exact (Option.some.inj this).symm
    subst ex
    refine ⟨_, rfl, wpAny_letOwnedTupleGo_enum (s := { s with heap := h', toks := tk + 1 }) ho fun h'' he' sb => ?_⟩
    have hT2 : h''.get? s.heap.objs.size = some { cls := .type "tuple", data := .seq #[.int i tk, x1] } := (sb.2 _ (Nat.ne_of_gt hel)).trans hT
    have new : ObjOk X.prog X.w (upd H s.heap.objs.size (.tup [.int (i : Nat), x])) h'' s.heap.objs.size (.tup [.int (i : Nat), x]) :=
      ⟨by show 2 ≤ sizeLine; decide, [.int i tk, x1], .cons ⟨_, rfl⟩ (.cons ru .nil), ⟨_, hT2, rfl, _, rfl⟩⟩
    have I1 : Inv X pins σ (upd H s.heap.objs.size (.tup [.int (i : Nat), x])) { s with heap := h'', toks := tk + 1 } :=
      I.turnedNew (ch := [e, it]) (fun b ob hb q => (sb.2 b (fun z => hb (by simp [z]))).trans (hk b ob (fun z => hb (by simp [z])) (fun z => hb (by simp [z])) q)) hf (Nat.le_refl _) new
    refine ⟨.ref s.heap.objs.size, _, I1, rfl, ⟨_, x, rfl, I.hok.fresh (Nat.le_refl _), rfl, fun ys hy => by rw [I.tuple_inj hy hq]; exact hx⟩, ⟨⟨x1, ?_⟩, st'.1.at fun o q => (sb.2 it (Ne.symm hne)).trans q, hne⟩, fun b hb => ?_⟩
    · have e1 : ((i + 1 : Nat) : Int) = (i : Int) + 1 := by omega
      rw [e1]; exact he'
    · have hb' : b < s.heap.objs.size := by
        rcases List.mem_cons.mp hb with z | z
        · rw [z]; exact hel
        · rw [List.mem_singleton.mp z]; exact hil
      rw [upd_ne (Nat.ne_of_lt hb')]
      exact (hf b hb).1
  done := by
    intro X hP hw hK hc i pins s σ H E I hf st hg
    subst hP hw hK
    obtain ⟨⟨old, he⟩, hit, hne⟩ := st
    obtain ⟨xs, hq, hx⟩ := hg
    obtain ⟨its, rv, p, hz⟩ := I.tuple hq
    have hl := rv.length
    have hh : X.A.handled = none := I.ok.hd hc
    have hT : s.TypeIs (.ref e) "enumerate" := ⟨_, he, rfl⟩
    have F2 := hf it (List.mem_cons_of_mem _ List.mem_cons_self)
    unfold pyNext
    refine wpAny_bind (wpAny_attempt (wpAny_callSpecial?_slot (name := Str.ofString "__next__") hT PySem.F.slot_enumerate_next
      (wpAny_call_entry PySem.F.slot_enumerate_next hT PySem.F.entry_enumerate_next ?_ (PySem.F.args_enumerate_next_1 _))))
    show wpAny _ _ (field (.ref e) 2 >>= fun _ => _) _ _ _
    refine wpAny_bind (wpAny_field he rfl (x := .ref it) rfl ?_)
    refine wpAny_bind (RZ.nextOf_tuple_end (A := X.A.in1) hh hit p (by simp; omega) fun h' x he' hx' => ?_)
    obtain ⟨o, ho, hc'⟩ := hx'
    refine wpAny_bind (wpAny_isInstance (T := "StopIteration") (b := true) ⟨o, ho, hc'⟩ isSubtype_stop ?_)
    obtain ⟨f0, f1, f2, f3, f4, f5⟩ := F2
    exact wpAny_pure ⟨rfl, I.turned (t' := s.toks) (fun b o hb q => he' b o hb q) f0 f1 f3 f4 f5⟩
  self := fun A i s Q E st h => let ⟨⟨_, he⟩, _⟩ := st; wpAny_pyIter_enum he h
end LF
/-! LF16: enumerate of a tuple made; a star over a range; three names stored at once. -/
namespace LF
open PySem
open AutoSeq1 (wpAny_loadPart')
theorem enum_tup_new (l : Addr) (its : Array Value) (n : Nat) (dct : Option Addr) (sl : Array (Option Value)) :
    Meets (Builtin.«enumerate.__new__» ⟨[.type "enumerate", .ref l], []⟩) (fun _ R s => s.heap.get? l = some { cls := .type "tuple", dict := dct, data := .seq its n, slots := sl } ∧
      R (.ok (.ret (.ref (s.heap.push { cls := .type "tuple_iterator", data := .fields #[.ref l, .int 0 0] }).objs.size)))
        { s with heap := (s.heap.push { cls := .type "tuple_iterator", data := .fields #[.ref l, .int 0 0] }).push { cls := .type "enumerate", data := .fields #[.none, .bool false, .ref s.heap.objs.size, rawInt 0, .none, .none] } }) :=
  .of_wp fun prog w A R s h => by
    obtain ⟨hp, g, d, tk, os⟩ := s
    obtain ⟨hl, h⟩ := h
    have hsub := sub_enumerate
    have hL : Heap.IsTuple (Shared.heap ⟨hp, g, d, tk, os⟩) l its := ⟨_, hl, rfl, n, rfl⟩
    wp_walk using wpAny_loadPart' hl
    refine wpAny_stack_any fun st => wpAny_pure ?_
    split
    · rename_i c _ _ _ _ _
      cases (c == Value.type "enumerate") <;> (wp_walk using wpAny_loadPart' hl, wpAny_pyIter_tuple hL; exact ⟨_, rfl, h⟩)
    · wp_walk using wpAny_loadPart' hl, wpAny_pyIter_tuple hL
      exact ⟨_, rfl, h⟩
section
variable {prog : Program} {w : World} {A : Around} {E : Value → Shared → Prop} {s : Shared}
theorem call_enum_tup {l : Addr} {its : Array Value} {Q : Value → Shared → Prop} (hL : s.heap.IsTuple l its)
    (h : ∀ h', IsEnum h' (s.heap.objs.size + 1) s.heap.objs.size 0 .none → h'.IsTupleIter s.heap.objs.size l 0 → h'.objs.size = s.heap.objs.size + 2 → (∀ b o, s.heap.get? b = some o → h'.get? b = some o) → Q (.ref (s.heap.objs.size + 1)) { s with heap := h' }) :
    wpAny (model prog w) A (call (.type "enumerate") [.ref l]) Q E s := by
  obtain ⟨⟨c, dct, dt, sl⟩, hl, hc, n, hd⟩ := hL
  simp only at hc hd
  subst hc hd
  have z1 : ∀ o1 : Obj, (s.heap.push o1).objs.size = s.heap.objs.size + 1 := fun o1 => Heap.size_push ..
  refine callType_new F.called_enumerate (by decide) (F.typeCall_enumerate_1 _) (F.newCall_enumerate_1 _) (fun obj => F.args_object_init_2 obj _) F.entry_enumerate_new (enum_tup_new l its n dct sl) ⟨hl, ?_⟩
  show _ ∧ _
  rw [z1]
  have he : ∀ (o1 o2 : Obj) (e : o2.isFreed = false), ((s.heap.push o1).push o2).get? (s.heap.objs.size + 1) = some o2 := fun o1 o2 e => by
    have := Heap.get?_push_size (s.heap.push o1) (o := o2) e
    rwa [z1] at this
  have hen := he { cls := .type "tuple_iterator", data := .fields #[.ref l, .int 0 0] } { cls := .type "enumerate", data := .fields #[.none, .bool false, .ref s.heap.objs.size, rawInt 0, .none, .none] } rfl
  exact ⟨⟨_, hen, rfl⟩, h _ hen ⟨_, Heap.get?_push_of_some _ (Heap.get?_push_size _ rfl), rfl, rfl⟩ (by rw [Heap.size_push, z1]) fun b o x => Heap.get?_push_of_some _ (Heap.get?_push_of_some _ x)⟩
end
open PySem.Spec L2
open PyProof.Rows hiding St
def iEnumT (K : PySem.W.Frag) (ta : TA) : TI := fun σ H R => ta σ H fun vs H1 => ∃ a xs, vs = [.ref a] ∧ SqT K H1 a xs ∧ R (IteT K a) H1
theorem pi_enumT {X : Cx} {e : Expr} {ta : TA} {p pos tpos : Pos} {elts : List Expr} {kk : Nat} (hg : Gl X "enumerate") (hm : X.mg "enumerate" = none) (ha : PA X [e] ta) (hs : starEach [e] X.env = [(false, eval e X.env)] := by rfl) :
    PI X (.Tuple elts kk tpos) (.Call (.Name "enumerate" p) [e] [] pos) (iEnumT X.K ta) := by
  refine ⟨fun pins s σ H R I h => ?_⟩
  refine Call_ (ld_blt I hg hm boot_enumerate (PyProof.Rows.callWith_type1 (thn (ha.run pos pins s σ H _ I h) fun us s1 ⟨vs, H1, I1, r1, a, xs, ex, hq, q⟩ => ?_) hs rfl))
  subst ex
  obtain ⟨u, rfl, r⟩ := vals1 r1
  cases r
  obtain ⟨its, rv, p', hz⟩ := I1.tuple hq
  have lt : a < s1.heap.objs.size := by obtain ⟨o, e, _⟩ := p'; exact Heap.lt_size e
  refine call_enum_tup (show s1.heap.IsTuple a its.toArray from p') fun h' he hit hsz hk => wpAny_pyIter_enum he ?_
  refine ⟨s1.heap.objs.size + 1, [s1.heap.objs.size + 1, s1.heap.objs.size], _, _, H1, rfl, I1.kept (t' := s1.toks) hk, turn_enumT a (s1.heap.objs.size + 1) s1.heap.objs.size (Nat.ne_of_lt (Nat.lt_succ_of_lt lt)) (Nat.ne_of_lt lt), ⟨⟨.none, he⟩, hit, Nat.succ_ne_self _⟩, fun b hb => ?_, q⟩
  have hle : s1.heap.objs.size ≤ b := by
    rcases List.mem_cons.mp hb with z | z
    · rw [z]; exact Nat.le_add_right _ _
    · rw [List.mem_singleton.mp z]; exact Nat.le_refl _
  exact I1.fpOk hle (I1.hok.fresh hle)
/-- (i, x), .. -/
def numD (l : List D) : List D := (List.range l.length).zipWith (fun i d => D.tup [.int (i : Nat), d]) l
theorem num_at {l : List D} {i : Nat} {d : D} (h : (numD l)[i]? = some d) : ∃ a, l[i]? = some a ∧ d = .tup [.int (i : Nat), a] := by
  unfold numD at h
  rw [List.getElem?_zipWith] at h
  split at h
  · next j a h1 h2 =>
    have hj : j = i := by
      have := (List.getElem?_eq_some_iff.mp h1).2
      rw [List.getElem_range] at this
      exact this.symm
    subst hj
    exact ⟨a, h2, (Option.some.inj h).symm⟩
  · cases h
theorem num_len {l : List D} : (numD l).length = l.length := by unfold numD; rw [List.length_zipWith, List.length_range, Nat.min_self]
theorem wk_enumT {K : PySem.W.Frag} {a : Addr} {l : List D} : Wk K (IteT K a) [⟨.ref a, .tup l, false⟩] (numD l) (D.imms l) := by
  intro i H G g
  have g1 : Good K H (⟨.ref a, .tup l, false⟩ :: G) := g
  obtain ⟨vs, q1, l1⟩ := sq_tup g1
  refine ⟨fun hi => ⟨vs, q1, by rw [num_len] at hi; omega⟩, fun d hd => ?_⟩
  obtain ⟨da, h1, rfl⟩ := num_at hd
  have i1 := (List.getElem?_eq_some_iff.mp h1).1
  refine ⟨⟨vs, vs[i]'(by omega), q1, List.getElem?_eq_getElem _⟩, fun x H' y => ?_⟩
  obtain ⟨T, u, rfl, hT, rfl, y1⟩ := y
  have g2 := part_tup g1 h1 y1
  have g3 : Good K H (⟨.int (i : Nat), .int (i : Nat), false⟩ :: ⟨u, da, false⟩ :: ⟨.ref a, .tup l, false⟩ :: G) := g2.flatNew (.int _)
  refine (wk_pair hT g3).flag? fun z => ?_
  show (true && (da.imm && true)) = true
  rw [imms_at z h1]
  rfl
def mEnum (f : EM) : IM := fun e => match f e with
  | some (.tup l, _, e') => some (numD l, D.imms l, e')
  | _ => none
section
variable {X : Cx} {x y : Expr} {pos tpos : Pos} {elts : List Expr} {kk : Nat}
theorem ix_enum {f : EM} {p : Pos} (hg : Gl X "enumerate") (hm : X.mg "enumerate" = none) (h : EX X x f) (na : starEach [x] X.env = (false, eval x X.env) :: starEach [] X.env := by rfl) (hs : starEach [x] X.env = [(false, eval x X.env)] := by rfl) :
    IX X (.Tuple elts kk tpos) (.Call (.Name "enumerate" p) [x] [] pos) (mEnum f) := by
  refine PI.weak (pi_enumT hg hm (pa_cons h pa_nil na) hs) fun σ H R q => ?_
  obtain ⟨ps, e, F, o, ds, fl, e', hf, q⟩ := q
  unfold mEnum at hf
  split at hf
  · next l b e2 h2 =>
    cases hf
    refine ⟨ps, e, F, o, _, b, _, h2, fun v H' o' => ?_⟩
    obtain ⟨A, r⟩ := o'.good.rep
    obtain ⟨a, rfl⟩ := rep_tup r
    obtain ⟨vs, q1, _⟩ := sq_tup o'.good
    exact ⟨a, vs, rfl, q1, q _ _ _ wk_enumT (o'.lift fun its g => g.share)⟩
  · cases hf
/-! ### list(range(..)), tuple(range(..)), *range(..) -/
def mRgL (f : EM) : EM := fun e => match f e with
  | some (.int n, _, e') => if n ≤ 16777216 ∧ 0 ≤ n then some (.lst (intsD 0 1 n.toNat), true, e') else none
  | _ => none
def mRgT (f : EM) : EM := fun e => match f e with
  | some (.int n, _, e') => if n ≤ 16777216 ∧ 0 ≤ n then some (.tup (intsD 0 1 n.toNat), true, e') else none
  | _ => none
theorem rgV_intsD {K : PySem.W.Frag} {H : Hp} {n : Int} : Reps K H true (rgV 0 n) (intsD 0 1 n.toNat) [] := by
  have e1 : rgV 0 n = ((List.range n.toNat).map fun i => ((0 : Int) + (i : Nat))).map V.int := by
    unfold rgV
    rw [Int.sub_zero, List.map_map]
    rfl
  have e2 : intsD 0 1 n.toNat = ((List.range n.toNat).map fun i => ((0 : Int) + (i : Nat))).map D.int := by
    unfold intsD
    rw [List.map_map]
    apply List.map_congr_left
    intro i _
    show D.int _ = D.int _
    rw [Int.mul_one]
  rw [e1, e2]
  exact ints_reps _
theorem intsD_imm {lo c : Int} {n : Nat} : D.imms (intsD lo c n) = true := by
  rw [D.imms_all, List.all_eq_true]
  intro d hd
  unfold intsD at hd
  obtain ⟨i, _, rfl⟩ := List.mem_map.mp hd
  rfl
theorem ex_rgL {f : EM} {p p2 pos2 : Pos} (hc : X.calm = true) (hg : Gl X "list") (hm : X.mg "list" = none) (hg2 : Gl X "range") (hm2 : X.mg "range" = none) (h : EX X x f)
    (na : starEach [x] X.env = (false, eval x X.env) :: starEach [] X.env := by rfl) (nb : starEach [.Call (.Name "range" p2) [x] [] pos2] X.env = (false, eval (.Call (.Name "range" p2) [x] [] pos2) X.env) :: starEach [] X.env := by rfl) :
    EX X (.Call (.Name "list" p) [.Call (.Name "range" p2) [x] [] pos2] [] pos) (mRgL f) := by
  refine PE.weak (pe_listRg hc hg hm (prg_1 hg2 hm2 h na) nb) fun σ H Q q => ?_
  obtain ⟨ps, e, F, o, d, b, e', hf, k⟩ := q
  unfold mRgL at hf
  split at hf
  · next n bb e2 h2 =>
    split at hf
    · next hz =>
      cases hf
      refine ⟨ps, e, F, o, _, bb, _, h2, fun v H' o' => ?_⟩
      obtain ⟨A, r⟩ := o'.good.rep
      cases rep_int r
      refine ⟨n, rfl, RgOk.of_le (by omega) hz.1 (by omega) hz.2, fun q hq => k _ _ ?_⟩
      exact o'.drop.lift fun its g => g.lstImm (rgV_intsD) intsD_imm hq
    · cases hf
  · cases hf
theorem ex_rgT {f : EM} {p p2 pos2 : Pos} (hc : X.calm = true) (hg : Gl X "tuple") (hm : X.mg "tuple" = none) (hg2 : Gl X "range") (hm2 : X.mg "range" = none) (h : EX X x f)
    (na : starEach [x] X.env = (false, eval x X.env) :: starEach [] X.env := by rfl) (nb : starEach [.Call (.Name "range" p2) [x] [] pos2] X.env = (false, eval (.Call (.Name "range" p2) [x] [] pos2) X.env) :: starEach [] X.env := by rfl) :
    EX X (.Call (.Name "tuple" p) [.Call (.Name "range" p2) [x] [] pos2] [] pos) (mRgT f) := by
  refine PE.weak (pe_tupRg hc hg hm (prg_1 hg2 hm2 h na) nb) fun σ H Q q => ?_
  obtain ⟨ps, e, F, o, d, b, e', hf, k⟩ := q
  unfold mRgT at hf
  split at hf
  · next n bb e2 h2 =>
    split at hf
    · next hz =>
      cases hf
      refine ⟨ps, e, F, o, _, bb, _, h2, fun v H' o' => ?_⟩
      obtain ⟨A, r⟩ := o'.good.rep
      cases rep_int r
      refine ⟨n, rfl, RgOk.of_le (by omega) hz.1 (by omega) hz.2, fun q hq => k _ _ ?_⟩
      exact o'.drop.lift fun its g => g.tupImm (rgV_intsD) intsD_imm hq
    · cases hf
  · cases hf
/-! ### a, b, c = x, y, z -/
theorem ps_par3 {i j k : Nat} {x y z : Str} {a b c : Expr} {ta : TA} {px py pz pt : Pos} {kt k2 pt2} (hc : X.calm = true) (hN : X.N.Nodup) (hi : X.N[i]? = some x) (hj : X.N[j]? = some y) (hk : X.N[k]? = some z) (hij : i ≠ j) (hik : i ≠ k) (hjk : j ≠ k)
    (hx : X.env.scope.names.lookup x = some .local) (hy : X.env.scope.names.lookup y = some .local) (hz : X.env.scope.names.lookup z = some .local) (ha : PA X [a, b, c] ta)
    (hw : swappedStores [.Tuple [.Name x px, .Name y py, .Name z pz] kt pt] (.Tuple [a, b, c] k2 pt2) X.env = pure (some [x, y, z]))
    (hs : swapsWithSole [.Tuple [.Name x px, .Name y py, .Name z pz] kt pt] (.Tuple [a, b, c] k2 pt2) pos.line X.env = pure false := by rfl) :
    PS X (.Assign [.Tuple [.Name x px, .Name y py, .Name z pz] kt pt] (.Tuple [a, b, c] k2 pt2) pos)
      (fun D σ H => ta σ H fun vs H1 => ∃ u v w, vs = [u, v, w] ∧ D.nx (((σ.set i (some u)).set j (some v)).set k (some w)) H1) := by
  refine ⟨fun pins s σ H D I h => ?_⟩
  rw [exec_Assign_arm]
  refine wpAny_bind (wpAny_standAt ?_)
  rw [hs]
  refine wpAny_bind (wpAny_pure ?_)
  rw [if_neg (by decide)]
  refine wpAny_bind (Tuple_ (thn (ha.run _ pins s σ H _ I h) fun us s1 ⟨vs, H1, I1, r1, u, v, w, e1, q1⟩ => ?_))
  subst e1
  obtain ⟨u1, u2, u3, rfl, ru, rv, rw'⟩ : ∃ u1 u2 u3, us = [u1, u2, u3] ∧ RelV u u1 ∧ RelV v u2 ∧ RelV w u3 := by
    cases r1 with
    | cons p q =>
      cases q with
      | cons p' q' =>
        cases q' with
        | cons p'' q'' =>
          cases q''
          exact ⟨_, _, _, rfl, p, p', p''⟩
  refine wpAny_newObj_type ?_ (by show 3 ≤ sizeLine; decide)
  have I2 : Inv X pins σ H1 { s1 with heap := s1.heap.push { cls := .type "tuple", data := .seq [u1, u2, u3].toArray } } := I1.kept (t' := s1.toks) fun b o e => Heap.get?_push_of_some _ e
  rw [hw]
  refine wpAny_bind (wpAny_pure ?_)
  show wpAny (model X.prog X.w) X.A (do rule "assign.swapped-stores"; let items ← unpackItems (.ref s1.heap.objs.size) 3 none; assignInOrder [fun v => bindName X.env z v, fun v => bindName X.env y v, fun v => bindName X.env x v] items.reverse; pure Flow.next) _ _ _
  refine wpAny_bind (wpAny_rule (wpAny_bind (unpackItems_tuple (items := #[u1, u2, u3]) (I.ok.hd hc) (IsTup.new s1.heap _) fun h' hx' => ?_)))
  have I3 := I2.kept (h' := h') (t' := s1.toks) fun b o e => hx' b o (Nat.ne_of_lt (Heap.lt_size e)) e
  show wpAny _ _ (assignInOrder [fun v => bindName X.env z v, fun v => bindName X.env y v, fun v => bindName X.env x v] [u3, u2, u1] >>= fun _ => pure Flow.next) _ _ _
  refine wpAny_bind (assignInOrder_cons (wpAny_bindName (store_ok I3 hN hk (.inl hz) rw' (fun s2 I4 => ?_) (.inr hz))))
  refine assignInOrder_cons (wpAny_bindName (store_ok I4 hN hj (.inl hy) rv (fun s3 I5 => ?_) (.inr hy)))
  refine assignInOrder_cons (wpAny_bindName (store_ok I5 hN hi (.inl hx) ru (fun s4 I6 => assignInOrder_nil (wpAny_pure ?_)) (.inr hx)))
  have e : (((σ.set k (some w)).set j (some v)).set i (some u)) = (((σ.set i (some u)).set j (some v)).set k (some w)) := by
    rw [List.set_comm _ _ (Ne.symm hij), List.set_comm _ _ (Ne.symm hik)]
    rw [List.set_comm (some v) (some w) hjk]
  rw [e] at I6
  exact ⟨_, H1, I6, q1⟩
def mPar3 (i j k : Nat) (f g h : EM) : SM := fun e => match f e with
  | some (d, b, e1) => match g e1 with
    | some (d2, b2, e2) => match h e2 with
      | some (d3, b3, e3) => if i < e3.length ∧ j < e3.length ∧ k < e3.length then some (.nx, ((e3.set i (some ⟨d, b, false⟩)).set j (some ⟨d2, b2, false⟩)).set k (some ⟨d3, b3, false⟩)) else none
      | none => none
    | none => none
  | none => none
theorem sx_par3 {i j k : Nat} {s t r : Str} {a b c : Expr} {f g h : EM} {px py pz pt : Pos} {kt k2 pt2} (hc : X.calm = true) (hN : X.N.Nodup) (hi : X.N[i]? = some s) (hj : X.N[j]? = some t) (hk : X.N[k]? = some r) (hij : i ≠ j) (hik : i ≠ k) (hjk : j ≠ k)
    (hx : X.env.scope.names.lookup s = some .local) (hy : X.env.scope.names.lookup t = some .local) (hz : X.env.scope.names.lookup r = some .local) (ha : EX X a f) (hb : EX X b g) (hcc : EX X c h)
    (hsw : swappedStores [.Tuple [.Name s px, .Name t py, .Name r pz] kt pt] (.Tuple [a, b, c] k2 pt2) X.env = pure (some [s, t, r]))
    (hs : swapsWithSole [.Tuple [.Name s px, .Name t py, .Name r pz] kt pt] (.Tuple [a, b, c] k2 pt2) pos.line X.env = pure false := by rfl)
    (h1 : starEach [a, b, c] X.env = (false, eval a X.env) :: starEach [b, c] X.env := by rfl) (h2 : starEach [b, c] X.env = (false, eval b X.env) :: starEach [c] X.env := by rfl) (h3 : starEach [c] X.env = (false, eval c X.env) :: starEach [] X.env := by rfl) :
    SX X (.Assign [.Tuple [.Name s px, .Name t py, .Name r pz] kt pt] (.Tuple [a, b, c] k2 pt2) pos) (mPar3 i j k f g h) := by
  refine PS.weak (ps_par3 hc hN hi hj hk hij hik hjk hx hy hz (pa_cons ha (pa_cons hb (pa_cons hcc pa_nil h3) h2) h1) hsw hs) fun D σ H q => ?_
  obtain ⟨ps, e, F, o, fl, e', hf, q⟩ := q
  unfold mPar3 at hf
  split at hf
  · next d b e1 h1 =>
    split at hf
    · next d2 b2 e2 h2 =>
      split at hf
      · next d3 b3 e3 h3 =>
        split at hf
        · next hl =>
          cases hf
          refine ⟨ps, e, F, o, d, b, e1, h1, fun u H1 o1 => ⟨ps, e1, _, o1, d2, b2, e2, h2, fun v H2 o2 => ⟨ps, e2, _, o2, d3, b3, e3, h3, fun w H3 o3 => ⟨u, v, w, rfl, q _ _ ?_⟩⟩⟩⟩
          have o4 : Ok X.K ps H3 σ e3 (⟨u, d, b⟩ :: ⟨v, d2, b2⟩ :: ⟨w, d3, b3⟩ :: F) := o3.perm ((List.Perm.swap _ _ _).trans ((List.Perm.cons _ (List.Perm.swap _ _ _)).trans (List.Perm.swap _ _ _)))
          have o5 := o4.store hl.1
          have o6 := o5.store (j := j) (by rw [List.length_set]; exact hl.2.1)
          exact o6.store (by rw [List.length_set, List.length_set]; exact hl.2.2)
        · cases hf
      · cases hf
    · cases hf
  · cases hf
end
end LF
/-! LF17: *range(..); dicts of the module. -/
namespace LF
open PySem PySem.Spec L2
open PyProof.Rows hiding St
/-- *range(n), .. -/
def mSRange (f : EM) (g : SA) : SA := fun e => match f e with
  | some (.int n, _, e1) => if n ≤ 16777216 ∧ 0 ≤ n then (match g e1 with
      | some (ds, e2) => some (intsD 0 1 n.toNat ++ ds, e2)
      | none => none) else none
  | _ => none
section
variable {X : Cx} {x y : Expr} {pos : Pos}
theorem sa_range {es : List Expr} {f : EM} {g : SA} {p p2 pos2 : Pos} (hc : X.calm = true) (hg2 : Gl X "range") (hm2 : X.mg "range" = none) (h : EX X x f) (hr : SAX X es g)
    (na : starEach [x] X.env = (false, eval x X.env) :: starEach [] X.env := by rfl)
    (hs : starEach (.Starred (.Call (.Name "range" p2) [x] [] pos2) p :: es) X.env = (true, eval (.Call (.Name "range" p2) [x] [] pos2) X.env) :: starEach es X.env := by rfl) :
    SAX X (.Starred (.Call (.Name "range" p2) [x] [] pos2) p :: es) (mSRange f g) := by
  refine ⟨fun pos pins s σ H Q I q => ?_⟩
  obtain ⟨ps, e, F, o, ds, e', hm, k⟩ := q
  unfold mSRange at hm
  split at hm
  · next n b e1 h1 =>
    split at hm
    · next hz =>
      split at hm
      · next ds2 e2 h2 =>
        cases hm
        refine PySem.W.items_star (thn (prg_1 hg2 hm2 h na pins s σ H (fun a b H1 => a = 0 ∧ b = n ∧ Ok X.K ps H1 σ e1 F) I ⟨ps, e, F, o, _, b, e1, h1, fun v H' o' => ?_⟩) fun rv s1 ⟨r, a, b', t, u, v, H1, ex, hrg, I1, ea, eb, o1⟩ => ?_) hs
        · obtain ⟨A, r⟩ := o'.good.rep
          cases rep_int r
          exact ⟨n, rfl, rfl, rfl, o'.drop⟩
        · subst ex ea eb
          have hT : s1.TypeIs (.ref r) "range" := ⟨_, hrg, rfl⟩
          unfold PySem.W.StarOf notIterableAtAll
          refine wpAny_bind (wpAny_specialOf hT PySem.F.slot_range_iter.lookup (wpAny_pure ⟨rfl, ?_⟩))
          have nn : Builtin.Range.rangeSize 0 b' 1 = (b' - 0).toNat := rangeSize_nat 0 b'
          refine collect_range (n := (b' - 0).toNat) (I1.ok.hd hc) hrg (small_one (by omega) (by omega) (by omega) (by omega)) nn (by omega) fun h' tk acc hk hi => ?_
          have I2 : Inv X pins σ H1 { s1 with heap := h', toks := tk } := I1.kept hk
          have rep : Reps X.K H1 true (rgV 0 b') (intsD 0 1 b'.toNat) [] := rgV_intsD
          refine thn (hr.run pos pins _ σ H1 (fun vs H2 => Reps X.K H2 true vs ds2 [] ∧ Ok X.K ps H2 σ e' F) I2 ⟨ps, e1, F, o1, ds2, _, h2, fun vs H' r' o' => ⟨r', o'⟩⟩) fun ws s3 ⟨vs, H3, I3, r3, rs3, o3⟩ => ?_
          exact ⟨rgV 0 b' ++ vs, H3, I3, (vals_rg hi).append r3, k _ _ (rgV_intsD.append rs3) o3⟩
      · cases hm
    · cases hm
  · cases hm
/-! ### dicts of the module -/
/-- a written dict with text keys: what it holds -/
def KTab (K : PySem.W.Frag) (w : World) (a : Addr) (tab : List (Str × D)) : Prop :=
  ∃ es n, K.lookup a = some ⟨.type "dict", none, .dict es n, #[]⟩ ∧ PySem.W.KeysLit w.params es.toList ∧ (a == sysModules) = false ∧
    ∀ z : Str, (∀ d, (tab.find? fun kv => decide (kv.1 = z)).map (·.2) = some d → ∃ u v, PySem.W.nsIn K a z = some (some u) ∧ RelV v u ∧ ∀ H, Rep K H true v d []) ∧
      ((tab.find? fun kv => decide (kv.1 = z)).map (·.2) = none → PySem.W.nsIn K a z = some none)
def mKIn (neg : Bool) (tab : List (Str × D)) (f : EM) : EM := fun e => match f e with
  | some (.str z, _, e') => some (.bl (neg != ((tab.find? fun kv => decide (kv.1 = z)).map (·.2)).isSome), true, e')
  | _ => none
def mKIx (tab : List (Str × D)) (f : EM) : EM := fun e => match f e with
  | some (.str z, _, e') => match (tab.find? fun kv => decide (kv.1 = z)).map (·.2) with
    | some d => if d.imm then some (d, true, e') else none
    | none => none
  | _ => none
theorem ktab_ns {K : PySem.W.Frag} {w : World} {a : Addr} {tab : List (Str × D)} (h : KTab K w a tab) (z : Str) : ∃ r, PySem.W.nsIn K a z = some r ∧ r.isSome = ((tab.find? fun kv => decide (kv.1 = z)).map (·.2)).isSome := by
  obtain ⟨es, n, _, _, _, hz⟩ := h
  cases e : (tab.find? fun kv => decide (kv.1 = z)).map (·.2) with
  | none => exact ⟨none, (hz z).2 e, rfl⟩
  | some d =>
    obtain ⟨u, v, h1, _⟩ := (hz z).1 d e
    exact ⟨some u, h1, rfl⟩
theorem ex_kNotIn {f : EM} {t : Str} {p : Pos} {a : Addr} {tab : List (Str × D)} (hg : Gl X t) (hm : X.mg t = some (.ref a)) (kt : KTab X.K X.w a tab) (h : EX X x f) (hb : behindInMarks .NotIn (.Name t p) = false := by rfl) (hd : (t == ("__debug__" : Str)) = false := by decide) :
    EX X (.Compare x [.NotIn] [.Name t p] pos) (mKIn true tab f) := by
  obtain ⟨es, n, k1, k2, k3, _⟩ := id kt
  refine PE.weak (pe_cmpR (op_notIn_kd ⟨k1, k2, k3⟩) h (pe_glob (v := .ref a) hg hm rfl hd) hb) fun σ H Q q => ?_
  obtain ⟨ps, e, F, o, d, b, e', hf, k⟩ := q
  unfold mKIn at hf
  split at hf
  · next z b2 e2 h2 =>
    cases hf
    refine ⟨ps, e, F, o, _, b2, _, h2, fun v H' o' => ?_⟩
    obtain ⟨A, r⟩ := o'.good.rep
    cases rep_str r
    obtain ⟨r, h3, h4⟩ := ktab_ns kt z
    refine ⟨z, r, rfl, rfl, h3, ?_⟩
    rw [h4]
    rw [neg_t] at k
    exact k _ _ (o'.drop.flat (.bl _))
  · cases hf
theorem ex_kIn {f : EM} {t : Str} {p : Pos} {a : Addr} {tab : List (Str × D)} (hg : Gl X t) (hm : X.mg t = some (.ref a)) (kt : KTab X.K X.w a tab) (h : EX X x f) (hb : behindInMarks .In (.Name t p) = false := by rfl) (hd : (t == ("__debug__" : Str)) = false := by decide) :
    EX X (.Compare x [.In] [.Name t p] pos) (mKIn false tab f) := by
  obtain ⟨es, n, k1, k2, k3, _⟩ := id kt
  refine PE.weak (pe_cmpR (op_in_kd ⟨k1, k2, k3⟩) h (pe_glob (v := .ref a) hg hm rfl hd) hb) fun σ H Q q => ?_
  obtain ⟨ps, e, F, o, d, b, e', hf, k⟩ := q
  unfold mKIn at hf
  split at hf
  · next z b2 e2 h2 =>
    cases hf
    refine ⟨ps, e, F, o, _, b2, _, h2, fun v H' o' => ?_⟩
    obtain ⟨A, r⟩ := o'.good.rep
    cases rep_str r
    obtain ⟨r, h3, h4⟩ := ktab_ns kt z
    refine ⟨z, r, rfl, rfl, h3, ?_⟩
    rw [h4]
    rw [neg_f] at k
    exact k _ _ (o'.drop.flat (.bl _))
  · cases hf
theorem ex_kIx {f : EM} {t : Str} {p : Pos} {a : Addr} {tab : List (Str × D)} (hg : Gl X t) (hm : X.mg t = some (.ref a)) (kt : KTab X.K X.w a tab) (h : EX X x f) (hs : PlainIx x) (hd : (t == ("__debug__" : Str)) = false := by decide) :
    EX X (.Subscript (.Name t p) x pos) (mKIx tab f) := by
  obtain ⟨es, n, k1, k2, k3, kz⟩ := id kt
  refine PE.weak (pe_ix ix_kdict (pe_glob (v := .ref a) hg hm rfl hd) h hs) fun σ H Q q => ?_
  obtain ⟨ps, e, F, o, d, b, e', hf, k⟩ := q
  unfold mKIx at hf
  split at hf
  · next z b2 e2 h2 =>
    split at hf
    · next d0 hd0 =>
      split at hf
      · next im =>
        cases hf
        refine ⟨ps, e, F, o, _, b2, _, h2, fun v H' o' => ?_⟩
        obtain ⟨A, r⟩ := o'.good.rep
        cases rep_str r
        obtain ⟨u, v0, h3, h4, h5⟩ := (kz z).1 _ hd0
        exact ⟨a, z, v0, rfl, rfl, ⟨es, n, u, k1, k2, h3, h4⟩, k _ _ (o'.drop.flat (h5 _))⟩
      · cases hf
    · cases hf
  · cases hf
end
end LF
/-! LF18: what the printed texts lean on. -/
namespace LF
open PySem PySem.Spec L2
open PyProof.Rows hiding St
theorem hu64 {A : Around} {k : Nat} (hr : Room k A) : A.units + 64 < cLine := Nat.lt_of_le_of_lt (Nat.add_le_add_left (by omega : 64 ≤ 16 * k + 200) _) (by have := hr.un; omega)
theorem hu1 {A : Around} {k : Nat} (hr : Room k A) : A.units + 1 < cLine := by have := hr.un; omega
theorem bt_len : bootBuiltins "len" = some (.builtin "len") := by decide +kernel
theorem bt_all : bootBuiltins "all" = some (.builtin "all") := by decide +kernel
theorem bt_any : bootBuiltins "any" = some (.builtin "any") := by decide +kernel
theorem bt_abs : bootBuiltins "abs" = some (.builtin "abs") := by decide +kernel
theorem bt_sum : bootBuiltins "sum" = some (.builtin "sum") := by decide +kernel
theorem bt_min : bootBuiltins "min" = some (.builtin "min") := by decide +kernel
theorem bt_sorted : bootBuiltins "sorted" = some (.builtin "sorted") := by decide +kernel
theorem bt_isinstance : bootBuiltins "isinstance" = some (.builtin "isinstance") := by decide +kernel
theorem bt_int : bootBuiltins "int" = some (.type "int") := by decide +kernel
theorem bt_bool : bootBuiltins "bool" = some (.type "bool") := by decide +kernel
theorem bt_str : bootBuiltins "str" = some (.type "str") := by decide +kernel
theorem bt_list : bootBuiltins "list" = some (.type "list") := by decide +kernel
theorem bt_tuple : bootBuiltins "tuple" = some (.type "tuple") := by decide +kernel
theorem bt_dict : bootBuiltins "dict" = some (.type "dict") := by decide +kernel
/-- a constant of the module -/
def GV (K : PySem.W.Frag) (mg : Str → Option Value) (f : Str) (d : D) : Prop := ∃ v u, mg f = some u ∧ RelV v u ∧ ∀ H, Rep K H true v d []
theorem gv_str {K : PySem.W.Frag} {mg : Str → Option Value} {f x : Str} {t : Tok} (h : mg f = some (.str x t)) : GV K mg f (.str x) := ⟨.str x, _, h, ⟨t, rfl⟩, fun _ => .str x⟩
theorem gv_int {K : PySem.W.Frag} {mg : Str → Option Value} {f : Str} {x : Int} {t : Tok} (h : mg f = some (.int x t)) : GV K mg f (.int x) := ⟨.int x, _, h, ⟨t, rfl⟩, fun _ => .int x⟩
def strVs : List Str → List Value → Bool
  | [], [] => true
  | x :: xs, .str y _ :: vs => decide (x = y) && strVs xs vs
  | _, _ => false
theorem strVs_vals : ∀ {xs : List Str} {vs : List Value}, strVs xs vs = true → Vals (xs.map V.str) vs
  | [], [], _ => .nil
  | [], _ :: _, h => nomatch h
  | _ :: _, [], h => nomatch h
  | x :: xs, .str y t :: vs, h => by
    have h' := Bool.and_eq_true_iff.mp (show (decide (x = y) && strVs xs vs) = true from h)
    have e := of_decide_eq_true h'.1
    subst e
    exact .cons ⟨t, rfl⟩ (strVs_vals h'.2)
theorem strs_reps {K : PySem.W.Frag} {H : Hp} {m : Bool} : ∀ xs : List Str, Reps K H m (xs.map V.str) (xs.map D.str) []
  | [] => .nil
  | x :: xs => Reps.cons (.str x) (strs_reps xs)
/-- a written tuple of texts -/
theorem gv_strs {K : PySem.W.Frag} {mg : Str → Option Value} {f : Str} {a : Addr} {o : Obj} {its : Array Value} {n : Nat} {xs : List Str} (h : mg f = some (.ref a)) (hl : K.lookup a = some o) (hc : o.cls = .type "tuple") (hd : o.data = .seq its n) (hz : its.size ≤ sizeLine) (hv : strVs xs its.toList = true) : GV K mg f (.tup (xs.map D.str)) :=
  ⟨.ref a, _, h, rfl, fun H => .tup (.inr ⟨o, its, n, hl, hc, hd, hz, strVs_vals hv⟩) (strs_reps xs)⟩
section
variable {X : Cx} {x y : Expr} {pos : Pos}
theorem ex_globE {f : Str} {d : D} (hg : Gl X f) (g : GV X.K X.mg f d) (hd : (f == ("__debug__" : Str)) = false := by decide) : EX X (.Name f pos) (mC d) := by
  obtain ⟨v, u, h1, h2, h3⟩ := g
  exact ex_glob hg h1 h2 h3 hd
theorem ex_never : EX X x (fun _ => none) := ⟨fun pins s σ H Q I q => by obtain ⟨ps, e, F, o, d, b, e', hf, _⟩ := q; cases hf⟩
theorem tx_never : TX X x (fun _ => none) := ⟨fun pins s σ H Q I q => by obtain ⟨ps, e, F, o, d, b, hf, _⟩ := q; cases hf⟩
theorem tx_kNotIn {f : EM} {t : Str} {p : Pos} {a : Addr} {tab : List (Str × D)} (hg : Gl X t) (hm : X.mg t = some (.ref a)) (kt : KTab X.K X.w a tab) (h : EX X x f) (hb : behindInMarks .NotIn (.Name t p) = false := by rfl) (hd : (t == ("__debug__" : Str)) = false := by decide) :
    TX X (.Compare x [.NotIn] [.Name t p] pos) (tOf (mKIn true tab f)) := by
  obtain ⟨es, n, k1, k2, k3, _⟩ := id kt
  refine PT.weak (pt_cmpR (op_notIn_kd ⟨k1, k2, k3⟩) h (pe_glob (v := .ref a) hg hm rfl hd) hb) fun σ H Q q => ?_
  obtain ⟨ps, e, F, o, c, e', hf, k⟩ := q
  obtain ⟨b, hf⟩ := tOf_some hf
  unfold mKIn at hf
  split at hf
  · next z b2 e2 h2 =>
    cases hf
    refine ⟨ps, e, F, o, _, b2, _, h2, fun v H' o' => ?_⟩
    obtain ⟨A, r⟩ := o'.good.rep
    cases rep_str r
    obtain ⟨r, h3, h4⟩ := ktab_ns kt z
    refine ⟨z, r, rfl, rfl, h3, !r.isSome, rfl, ?_⟩
    rw [h4]
    rw [neg_t] at k
    exact k _ o'.drop
  · cases hf
/-- a list, a tuple, a text walked -/
def mIterA (f : EM) : IM := fun e => match f e with
  | some (.str z, _, e') => some (signsD z, true, e')
  | _ => mIter f e
theorem ix_any {tg : Expr} {f : EM} (h : EX X x f) : IX X tg x (mIterA f) := by
  refine ⟨fun pins s σ H R I q => ?_⟩
  obtain ⟨ps, e, F, o, ds, fl, e', hf, q⟩ := q
  unfold mIterA at hf
  split at hf
  · next z b e2 h2 =>
    exact (ix_str_walk h).run pins s σ H R I ⟨ps, e, F, o, ds, fl, e', by unfold mIterS; rw [h2]; exact hf, q⟩
  · exact (ix_seq h).run pins s σ H R I ⟨ps, e, F, o, ds, fl, e', hf, q⟩
/-! ### x += e -/
def fAddI : D → D → Option D
  | .int i, .int j => some (.int (i + j))
  | _, _ => none
def fSubI : D → D → Option D
  | .int i, .int j => some (.int (i - j))
  | _, _ => none
theorem pipx_add : PipX X .Add (gR2 fAddI) := by
  intro pins s σ H x y v u Q I r1 r2 h
  obtain ⟨a, b, d, A, B, ba, bb, p1, p2, hf, q, _⟩ := two h
  unfold fAddI at hf
  split at hf
  · cases hf; cases rep_int p1; cases rep_int p2
    exact ip_add pins s σ H _ _ v u Q I r1 r2 ⟨_, _, rfl, rfl, q _ (.int _)⟩
  · cases hf
theorem pipx_sub : PipX X .Sub (gR2 fSubI) := by
  intro pins s σ H x y v u Q I r1 r2 h
  obtain ⟨a, b, d, A, B, ba, bb, p1, p2, hf, q, _⟩ := two h
  unfold fSubI at hf
  split at hf
  · cases hf; cases rep_int p1; cases rep_int p2
    exact ip_sub pins s σ H _ _ v u Q I r1 r2 ⟨_, _, rfl, rfl, q _ (.int _)⟩
  · cases hf
/-! ### sum of a list of ints -/
def gSum : PM := gR1 fun d => match d with
  | .lst l => (intsOf l).map fun is => .int is.sum
  | _ => none
theorem fx_sum (hc : X.calm = true) : FnX X (.builtin "sum") gSum := by
  intro pins s σ H xs us Q I r h
  obtain ⟨x, rfl⟩ := spR_1 h gR1_len
  obtain ⟨a, d, A, ba, rp, hf, q, _⟩ := one h
  split at hf
  · next l =>
    obtain ⟨bs, h1, h2⟩ := Option.map_eq_some_iff.mp hf
    subst h2
    obtain ⟨a1, vs, A1, rfl, q1, _, s1⟩ := rep_lstS rp
    have e := reps_ints s1 h1
    subst e
    exact cr_sum hc pins s σ H _ us Q I r ⟨_, bs, rfl, .inl q1, q _ (.int _)⟩
  · cases hf
end
section
variable {P : Program} {w : World} {K : PySem.W.Frag} {mg : Str → Option Value} {base : Heap}
theorem def_mk {f : Str} {st : Stmt} {a : Addr} {fd : FuncData} {N pn : List Str} {k n : Nat} {body : SM} (F : L2.Fun K f f st a fd) (hm : mg f = some (.ref a)) (S : FnScope N pn (defScope st)) (bs : L2.Binds K fd pn []) (hn : pn.length = n)
    (hb : ∀ (cdv : Value), PySem.W.codeIn K cdv f = true → ∀ (A : Around) (outer : List Env) (s : Shared) (H : Hp) (E : XK), Room k (A.deeper (envOfC f (defScope st) s.heap.objs.size a cdv)) → BX (cxOf CX0 P w K mg base N f (defScope st) a cdv A outer s H E).nox (defBody st) body) :
    Def P w K mg base (k + 1) f n (mkF N.length body) := by
  subst hn
  exact ⟨a, fd, pn, rfl, fn_ok F S hb, hm, F.kp, bs⟩
end
end LF
/-! LF19: set(x) != {0}. -/
namespace LF
open PySem PySem.Spec L2
open PyProof.Rows hiding St
def gSetNe0 : PM := gR1 fun d => match d with
  | .tup l => if l.length < 4000 then (intsOf l).map fun is => .bl (!(!is.isEmpty && is.all fun i => decide (i = 0))) else none
  | _ => none
theorem entry_set_neq : entryFor table "set.__ne__" = some Builtin.«frozenset.__ne__» :=
  entryFor_alias (id' := "frozenset.__ne__") (by kernel_rfl) (by decide +kernel) (by decide +kernel) (by kernel_rfl)
section
variable {P : Program} {w : World} {A : Around} {E : Value → Shared → Prop} {s : Shared} {a b : Addr} {S S' : Int → Bool} {n n' : Nat}
theorem setR_type (R : SetR w s.heap a S n) : s.TypeIs (.ref a) "set" := by
  obtain ⟨o, es, ep, t, ho, hx, _⟩ := R
  exact ⟨o, ho, hx.1⟩
theorem size_set {Q : Nat → Shared → Prop} (R : SetR w s.heap a S n) (h : Q n s) : wpAny (model P w) A (Builtin.Frozenset.sizeOf a) Q E s := by
  obtain ⟨o, es, ep, t, ho, hx, hd, _, _, _, _, hf, hn, _⟩ := R
  unfold Builtin.Frozenset.sizeOf
  refine wpAny_bind (wpAny_setEntries_of ho hd hf (wpAny_pure ?_))
  rw [hn]
  exact h
theorem anySet_set {Q : Bool → Shared → Prop} (hT : s.TypeIs (.ref a) "set") (h : Q true s) : wpAny (model P w) A (Builtin.Frozenset.isAnySet (.ref a)) Q E s := by
  unfold Builtin.Frozenset.isAnySet
  refine wpAny_bind (wpAny_isInstance (T := "set") (b := true) hT (by rw [isSubtype_type]; kernel_rfl) ?_)
  exact wpAny_pure h
theorem quiet_int {i : Int} {t : Tok} {Q : Bool → Shared → Prop} (h : Q true s) : wpAny (model P w) A (Builtin.Frozenset.quietEq (.int i t)) Q E s := by
  unfold Builtin.Frozenset.quietEq
  exact wpAny_pure h
theorem walk_unseen {es es' : Array (Int × Value)} {o o' : Obj} {ep ep' : Nat} {t t' : SetTable} {Q : List (Int × Value) → Shared → Prop} (ho : s.heap.get? a = some o) (hd : o.data = .set es ep t) (hf : t.fits es.size = true)
    (ho' : s.heap.get? b = some o') (hd' : o'.data = .set es' ep' t') (hf' : t'.fits es'.size = true) (g : ∀ e ∈ es.toList, GoodE e) (g' : ∀ e ∈ es'.toList, GoodE e) (h : Q es.toList s) :
    wpAny (model P w) A (Builtin.Frozenset.walkUnseen a b) Q E s := by
  unfold Builtin.Frozenset.walkUnseen
  refine wpAny_bind (wpAny_setEntries_of ho hd hf (wpAny_bind (wpAny_setEntries_of ho' hd' hf' ?_)))
  have all : ∀ e ∈ es.toList ++ es'.toList, GoodE e := fun e he => (List.mem_append.mp he).elim (g e) (g' e)
  generalize es.toList ++ es'.toList = l at all
  refine wpAny_bind (wpAny_forIn_list _ (fun l' acc s' => acc = (none, ()) ∧ s' = s ∧ ∀ e ∈ l', GoodE e) _ ?_ ?_ l _ ⟨rfl, rfl, all⟩)
  · rintro ⟨hh, v⟩ rest acc s' ⟨rfl, rfl, hg⟩
    obtain ⟨k, tk, ev, _⟩ := hg _ List.mem_cons_self
    simp only at ev
    subst ev
    refine wpAny_bind (quiet_int ?_)
    exact wpAny_pure ⟨rfl, rfl, fun e he => hg e (List.mem_cons_of_mem _ he)⟩
  · rintro acc s' ⟨rfl, rfl, _⟩
    exact wpAny_pure h
/-- one set of ints is a part of another -/
theorem subset_set {nm : String} {Q : Bool → Shared → Prop} (R : SetR w s.heap a S n) (R' : SetR w s.heap b S' n') (le : n ≤ n') (h : ∀ r : Bool, (r = true ↔ ∀ k, S k = true → S' k = true) → Q r s) :
    wpAny (model P w) A (Builtin.Frozenset.subsetOf nm a b) Q E s := by
  have RS := R'.setOf (P := P)
  obtain ⟨o, es, ep, t, ho, hx, hd, g, nd, hm, hb, hf, hn, hr⟩ := id R
  obtain ⟨o', es', ep', t', ho', hx', hd', g', nd', hm', hb', hf', hn', hr'⟩ := id R'
  unfold Builtin.Frozenset.subsetOf
  refine wpAny_bind (size_set R (wpAny_bind (size_set R' ?_)))
  rw [if_neg (by omega)]
  unfold setEpoch
  refine wpAny_bind (wpAny_bind (wpAny_setState_of ho hd hf (wpAny_pure ?_)))
  refine wpAny_bind (walk_unseen ho hd hf ho' hd' hf' g g' ?_)
  have key : ∀ k, S k = true ↔ ∃ e ∈ es.toList, keyOf e = k := fun k => by rw [hm k, List.mem_map]
  refine wpAny_bind (wpAny_mono (wpAny_forIn_list _ (fun l acc s' => acc = (none, ()) ∧ s' = s ∧ (∀ e ∈ l, e ∈ es.toList) ∧ ∀ e ∈ es.toList, e ∈ l ∨ S' (keyOf e) = true) (fun acc s' => s' = s ∧ ((acc = (none, ()) ∧ ∀ k, S k = true → S' k = true) ∨ (acc = (some false, ()) ∧ ¬ ∀ k, S k = true → S' k = true))) ?_ ?_ es.toList _ ⟨rfl, rfl, fun _ h => h, fun e he => .inl he⟩) ?_ fun _ _ e => e)
  · rintro ⟨hh, v⟩ rest acc s' ⟨rfl, rfl, hg, hc⟩
    obtain ⟨k, tk, ev, eh⟩ := g _ (hg _ List.mem_cons_self)
    simp only at ev eh
    subst ev eh
    refine wpAny_bind (wpAny_holding (wpAny_setFind_of (knd := intKind P w) (intKind_is P w k tk) rfl RS fun r hrr => ?_))
    cases hS : S' k with
    | false =>
      rw [hS] at hrr
      have e : r = none := by cases r; rfl; cases hrr
      subst e
      refine wpAny_pure ⟨rfl, .inr ⟨rfl, fun all => ?_⟩⟩
      have := all k ((key k).2 ⟨_, hg _ List.mem_cons_self, rfl⟩)
      rw [hS] at this
      cases this
    | true =>
      rw [hS] at hrr
      obtain ⟨j, rfl⟩ : ∃ j, r = some j := by cases r; cases hrr; exact ⟨_, rfl⟩
      unfold Builtin.Frozenset.unchanged setEpoch
      refine wpAny_bind (wpAny_bind (wpAny_bind (wpAny_setState_of ho hd hf (wpAny_pure ?_))))
      simp only [bne_self_eq_false, Bool.false_eq_true, if_false]
      refine wpAny_pure (wpAny_pure ⟨rfl, rfl, fun e he => hg e (List.mem_cons_of_mem _ he), fun e he => ?_⟩)
      rcases hc e he with z | z
      · rcases List.mem_cons.mp z with z | z
        · subst z
          exact .inr hS
        · exact .inl z
      · exact .inr z
  · rintro acc s' ⟨rfl, rfl, _, hc⟩
    refine ⟨rfl, .inl ⟨rfl, fun k hk => ?_⟩⟩
    obtain ⟨e, he, rfl⟩ := (key k).1 hk
    rcases hc e he with z | z
    · cases z
    · exact z
  · rintro acc s' ⟨rfl, ⟨rfl, hc⟩ | ⟨rfl, hc⟩⟩
    · exact wpAny_pure (h true ⟨fun _ => hc, fun _ => rfl⟩)
    · exact wpAny_pure (h false ⟨fun z => (nomatch z), fun z => absurd z hc⟩)
/-- set != set -/
theorem set_neq {Q : Value → Shared → Prop} (R : SetR w s.heap a S n) (R' : SetR w s.heap b S' n') (h : ∀ r : Bool, (r = true ↔ n = n' ∧ ∀ k, S k = true → S' k = true) → Q (.bool (!r)) s) :
    wpAny (model P w) A (call (.builtin "set.__ne__") [.ref a, .ref b]) Q E s := by
  have T1 := setR_type R
  have T2 := setR_type R'
  refine wpAny_call_entry PySem.F.slot_set_ne T1 entry_set_neq ?_ (PySem.F.args_set_ne_2 _ _)
  unfold Builtin.«frozenset.__ne__»
  show wpAny _ _ (Builtin.Frozenset.slot1 "__ne__" _ >>= fun _ => _) _ _ _
  refine wpAny_bind (wpAny_of_eq (a := (Value.ref a, Value.ref b)) (by rfl) ?_)
  refine wpAny_bind (anySet_set T2 ?_)
  simp only [Bool.not_true, Bool.false_eq_true, if_false]
  refine wpAny_bind (wpAny_of_eq (a := a) (by rfl) (wpAny_bind (wpAny_of_eq (a := b) (by rfl) ?_)))
  refine wpAny_bind (size_set R (wpAny_bind (size_set R' ?_)))
  have fin : ∀ r : Bool, Q (.bool (!r)) s → wpAny (model P w) A.in1 (ret (.bool (!r))) (fun fin s' => ∃ v, fin = .done (.ret v) ∧ Q v s') E s := fun r q => wpAny_pure ⟨_, rfl, q⟩
  refine wpAny_bind ?_
  by_cases e : n = n'
  · rw [if_neg (by simp [e])]
    refine wpAny_bind (wpAny_bind (wpAny_isInstance (T := "set") (b := false) T1 (by rw [isSubtype_type]; kernel_rfl) (wpAny_pure ?_)))
    simp only [Bool.false_eq_true, if_false]
    refine subset_set R R' (by omega) fun r hr => fin r (h r ⟨fun z => ⟨e, hr.1 z⟩, fun z => hr.2 z.2⟩)
  · rw [if_pos (by simp [e])]
    exact wpAny_pure (fin false (h false (Iff.intro (fun z => (nomatch z)) (fun z => absurd z.1 e))))
end
theorem setR_zero {w : World} {h : Heap} {a : Addr} {ns : List Int} {n : Nat} (R : SetR w h a (fun j => decide (j ∈ ns)) n) (h0 : ∀ k ∈ ns, k = 0) (h1 : ns ≠ []) : n = 1 := by
  obtain ⟨o, es, ep, t, _, _, _, _, nd, hm, _, _, hn, _⟩ := R
  have z : ∀ k ∈ es.toList.map keyOf, k = 0 := fun k hk => h0 k (of_decide_eq_true ((hm k).2 hk))
  have hin : ∃ k, k ∈ es.toList.map keyOf := by
    cases ns with
    | nil => exact absurd rfl h1
    | cons k r => exact ⟨k, (hm k).1 (decide_eq_true List.mem_cons_self)⟩
  have hl : (es.toList.map keyOf).length = n := by rw [List.length_map, Array.length_toList, hn]
  match hks : es.toList.map keyOf, nd, z, hin, hl with
  | [], _, _, ⟨k, hk⟩, _ => cases hk
  | [k], _, _, _, hl => exact hl.symm
  | k :: k2 :: r, nd, z, _, _ =>
    have e1 := z k List.mem_cons_self
    have e2 := z k2 (List.mem_cons_of_mem _ List.mem_cons_self)
    subst e1 e2
    exact absurd List.mem_cons_self (List.nodup_cons.mp nd).1
section
variable {X : Cx} {x : Expr} {p pos pos2 pz ps : Pos} {k0 k1 : Nat} {ta : TE}
/-- set(t), t a tuple of ints -/
theorem pe_setT (hc : X.calm = true) (hg : Gl X "set") (hm : X.mg "set" = none) (ha : PE X x ta) (na : starEach [x] X.env = (false, eval x X.env) :: starEach [] X.env := by rfl) :
    PE X (.Call (.Name "set" p) [x] [] pos2) (fun σ H Q => ta σ H fun v H1 => ∃ (l : Addr) (ns : List Int), v = .ref l ∧ SqT X.K H1 l (ns.map V.int) ∧ ns.length + 1 < scanBound ∧ ∀ q n, n ≤ ns.length → ((∀ k ∈ ns, k = 0) → ns ≠ [] → n = 1) → H1 q = none → Q (.ref q) (upd H1 q (SetO X.w q (fun j => decide (j ∈ ns)) n))) := by
  refine ⟨fun pins s σ H Q I h => ?_⟩
  refine Call_ (ld_blt I hg hm PyProof.Rows.boot_set (PyProof.Rows.callWith_type1 (one_arg ha I h (fun v s2 x H2 I2 r q => ?_) na) na))
  obtain ⟨l, ns, rfl, hq, hb, q⟩ := q
  cases r
  obtain ⟨its, rv, pl, hz⟩ := I2.tuple hq
  refine call_set_tupI ns (I2.ok.hd hc) (show s2.heap.IsTuple l its.toArray from pl) (by simpa using rv.ints) hb fun h' tk c R hcn kp => ?_
  exact ⟨.ref s2.heap.objs.size, _, I2.laid (t' := tk) kp (Nat.le_refl _) (setO_new R), rfl, q _ c hcn (fun h0 h1 => setR_zero R h0 h1) (I2.hok.fresh (Nat.le_refl _))⟩
theorem op_setNe (hu : X.A.units + 64 < cLine) : OpR X (compareOp .NotEq) (fun x y H Q => ∃ a b S n S' n', x = .ref a ∧ y = .ref b ∧ H a = some (SetO X.w a S n) ∧ H b = some (SetO X.w b S' n') ∧ ∀ r : Bool, (r = true ↔ n = n' ∧ ∀ k, S k = true → S' k = true) → Q (.bl (!r)) H) := by
  intro pins s σ H x y v u Q I rx ry h
  obtain ⟨a, b, S, n, S', n', rfl, rfl, ha, hb, q⟩ := h
  cases rx
  cases ry
  have R := setO_get I ha
  have R' := setO_get I hb
  show wpAny _ _ (richCompare .NotEq _ _) _ _ _
  exact wpAny_richCompare_same_room (setR_type R) (setR_type R') PySem.F.slot_set_ne (set_neq R R' fun r hr => ⟨(fun z => nomatch z), ⟨.bl (!r), H, I, rfl, q r hr⟩⟩) (by omega)
theorem pe_set0 (hcd : PySem.W.kdsCode X.K X.env.code = true) (hs : starEach [.Constant (.int 0) k0 pz] X.env = [(false, eval (.Constant (.int 0) k0 pz) X.env)] := by rfl) :
    PE X (.Set [.Constant (.int 0) k0 pz] 0 ps) (fun σ H Q => ∀ q, H q = none → Q (.ref q) (upd H q (SetO X.w q (fun j => decide (j = 0)) 1))) := by
  refine ⟨fun pins s σ H Q I h => ?_⟩
  rw [arm_eval_Set]
  refine wpAny_bind (wpAny_standAt (wpAny_bind (PySem.W.kds_main I.kIn hcd fun b => ?_)))
  rw [hs]
  have road : displayRoad 0 [.Constant (.int 0) k0 pz] = .oneByOne := rfl
  rw [road]
  unfold setDisplay
  rw [if_neg (by decide)]
  refine wpAny_bind (PpSet.newSet_ok ?_)
  have I1 : Inv X pins σ (upd H s.heap.objs.size (SetO X.w s.heap.objs.size (fun _ => false) 0)) { s with heap := s.heap.push { cls := .type "set", dict := none, data := .set #[] 0 (.fresh 0 0 (!X.w.params.followText "set-order")) } } :=
    I.laid (t' := s.toks) (fun c o e => Heap.get?_push_of_some _ e) (Nat.le_refl _) (setO_new (setR_fresh X.w))
  have hq := h s.heap.objs.size (I.hok.fresh (Nat.le_refl _))
  generalize ({ s with heap := s.heap.push { cls := .type "set", dict := none, data := .set #[] 0 (.fresh 0 0 (!X.w.params.followText "set-order")) } } : Shared) = s1 at I1 ⊢
  generalize s.heap.objs.size = p at I1 hq ⊢
  have take1 : ∀ y : Bool × Sem Value, y.1 = false → (([y].take (if [y].length > 30 then 0 else ([y].findIdx? (·.1)).getD [y].length)).map (·.2) = [y.2] ∧ [y].drop (if [y].length > 30 then 0 else ([y].findIdx? (·.1)).getD [y].length) = []) := by
    rintro ⟨c, y⟩ rfl
    exact ⟨rfl, rfl⟩
  dsimp only
  rw [List.map_cons, List.map_nil, (take1 _ rfl).1, (take1 _ rfl).2]
  refine wpAny_bind (wpAny_holding ?_)
  refine wpAny_bind ?_
  unfold evalAll
  refine wpAny_bind (wpAny_bind (thn ((show PE X (.Constant (.int 0) k0 pz) _ from pe_int).run pins s1 σ _ (fun v H' => v = .int 0 ∧ H' = upd H p (SetO X.w p (fun _ => false) 0)) I1 ⟨rfl, rfl⟩) fun v s2 ⟨x, H2, I2, rx, ex, eH⟩ => wpAny_bind (wpAny_standAt (wpAny_pure ?_))))
  subst ex eH
  obtain ⟨tk, rfl⟩ := rx
  unfold evalAll
  refine wpAny_bind (wpAny_holding (wpAny_pure (wpAny_pure ?_)))
  refine wpAny_bind (wpAny_holding ?_)
  rw [List.forIn_cons, List.forIn_nil]
  unfold setAdd
  refine wpAny_bind (wpAny_bind (wpAny_bind (wpAny_holding (wpAny_bind ((intKind X.prog X.w).pyHash (intKind_is X.prog X.w 0 tk) ?_)))))
  have R2 : SetR X.w s2.heap p (fun _ => false) 0 := setO_get I2 upd_same
  refine setR_add_hashed (s := { s2 with toks := s2.toks + 1 }) R2 (by decide) fun h' sb R3 => ?_
  have I3 : Inv X pins σ (upd (upd H p (SetO X.w p (fun _ => false) 0)) p (SetO X.w p (fun j => decide (j = 0)) 1)) { s2 with heap := h', toks := s2.toks + 1 } := by
    have he : ∃ u, h'.get? p = some u := by
      have ⟨o, _, _, _, ho, _⟩ := R3
      exact ⟨o, ho⟩
    exact I2.write (x := p) (e := p) (t' := s2.toks + 1) (by rw [upd_same]; trivial) (.inl rfl) (fun b u hb hu => (sb.2 b hb).trans hu) he (setO_new (R3.congr fun k => by simp))
  refine wpAny_pure (wpAny_pure ?_)
  rw [if_neg (by decide)]
  refine wpAny_pure (wpAny_bind (wpAny_pure (wpAny_pure (wpAny_pure ⟨.ref p, _, I3, rfl, ?_⟩))))
  have e : upd (upd H p (SetO X.w p (fun _ => false) 0)) p (SetO X.w p (fun j => decide (j = 0)) 1) = upd H p (SetO X.w p (fun j => decide (j = 0)) 1) := by
    funext c
    by_cases hc : c = p
    · subst hc
      rw [upd_same, upd_same]
    · rw [upd_ne hc, upd_ne hc, upd_ne hc]
  rw [e]
  exact hq
/-- what set(x) != {0} reads -/
theorem ne0_read {a : Ag} {σ : L2.St} {H : Hp} {Q : VK} (q : semE X.K (mCall gSetNe0 [a]) σ H Q) :
    tOp (fun x y H Q => ∃ a b S n S' n', x = .ref a ∧ y = .ref b ∧ H a = some (SetO X.w a S n) ∧ H b = some (SetO X.w b S' n') ∧ ∀ r : Bool, (r = true ↔ n = n' ∧ ∀ k, S k = true → S' k = true) → Q (.bl (!r)) H)
      (fun σ H Q => rdA X.K a σ H fun v H1 => ∃ (l : Addr) (ns : List Int), v = .ref l ∧ SqT X.K H1 l (ns.map V.int) ∧ ns.length + 1 < scanBound ∧ ∀ q n, n ≤ ns.length → ((∀ k ∈ ns, k = 0) → ns ≠ [] → n = 1) → H1 q = none → Q (.ref q) (upd H1 q (SetO X.w q (fun j => decide (j ∈ ns)) n)))
      (fun σ H Q => ∀ q, H q = none → Q (.ref q) (upd H q (SetO X.w q (fun j => decide (j = 0)) 1))) σ H Q := by
  have q1 := call_by q (R := fun vs H1 => spR X.K gSetNe0 vs H1 Q) fun _ _ h => h
  have q2 : rdA X.K a σ H fun v H1 => spR X.K gSetNe0 [v] H1 Q := q1
  refine rdA_mono q2 fun v H1 h => ?_
  obtain ⟨d, ba, F, g, r, br, os, hg', ho, k⟩ := spR_one h
  unfold gSetNe0 gR1 at hg'
  dsimp only at hg'
  split at hg'
  · next d' hd' =>
    split at hd'
    · next l =>
      split at hd'
      · next hz =>
        obtain ⟨ns, h1, h2⟩ := Option.map_eq_some_iff.mp hd'
        subst h2
        cases hg'
        obtain ⟨A, rp⟩ := g.rep
        obtain ⟨a1, vs, rfl, q1, s1⟩ := rep_tupS rp
        have e := reps_ints s1 h1
        subst e
        have hl : ns.length = l.length := by rw [← s1.length, List.length_map]
        refine ⟨a1, ns, rfl, q1, by rw [hl]; show l.length + 1 < 4096; omega, fun q n hn h01 hq q' hq' => ?_⟩
        have nq : q ≠ q' := by
          rintro rfl
          rw [upd_same] at hq'
          cases hq'
        refine ⟨q, q', _, _, _, _, rfl, rfl, by rw [upd_ne nq, upd_same], upd_same, fun r hr => ?_⟩
        have er : r = (!ns.isEmpty && ns.all fun i => decide (i = 0)) := by
          cases r with
          | true =>
            obtain ⟨n1, h2⟩ := hr.1 rfl
            have h3 : ∀ k ∈ ns, k = 0 := fun k hk => of_decide_eq_true (h2 k (decide_eq_true hk))
            have h4 : ns ≠ [] := by
              rintro rfl
              simp at hn
              omega
            have a1 : ns.isEmpty = false := by cases ns; exact absurd rfl h4; rfl
            have a2 : (ns.all fun i => decide (i = 0)) = true := List.all_eq_true.mpr fun k hk => decide_eq_true (h3 k hk)
            rw [a1, a2]
            rfl
          | false =>
            symm
            rw [Bool.and_eq_false_iff]
            by_cases h4 : ns = []
            · subst h4; exact .inl rfl
            · refine .inr ?_
              rw [← Bool.not_eq_true]
              intro z
              have h3 : ∀ k ∈ ns, k = 0 := fun k hk => of_decide_eq_true (List.all_eq_true.mp z k hk)
              have := hr.2 ⟨h01 h3 h4, fun k hk => decide_eq_true (h3 k (of_decide_eq_true hk))⟩
              cases this
        rw [er]
        exact k _ _ (Good.flatNew ((g.new hq).new hq') (.bl _))
      · cases hd'
    · cases hd'
  · cases hg'
theorem ex_setNe0 {a : Ag} (hc : X.calm = true) (hu : X.A.units + 64 < cLine) (hcd : PySem.W.kdsCode X.K X.env.code = true) (hg : Gl X "set") (hm : X.mg "set" = none) (ha : AX X x a) (na : starEach [x] X.env = (false, eval x X.env) :: starEach [] X.env := by rfl)
    (hs : starEach [.Constant (.int 0) k0 pz] X.env = [(false, eval (.Constant (.int 0) k0 pz) X.env)] := by rfl) (hb : behindInMarks .NotEq (.Set [.Constant (.int 0) k0 pz] 0 ps) = false := by rfl) :
    EX X (.Compare (.Call (.Name "set" p) [x] [] pos2) [.NotEq] [.Set [.Constant (.int 0) k0 pz] 0 ps] pos) (mCall gSetNe0 [a]) :=
  PE.weak (pe_cmpR (op_setNe hu) (pe_setT hc hg hm ha na) (pe_set0 hcd hs) hb) fun σ H Q q => ne0_read q
theorem tx_setNe0 {a : Ag} (hc : X.calm = true) (hu : X.A.units + 64 < cLine) (hcd : PySem.W.kdsCode X.K X.env.code = true) (hg : Gl X "set") (hm : X.mg "set" = none) (ha : AX X x a) (na : starEach [x] X.env = (false, eval x X.env) :: starEach [] X.env := by rfl)
    (hs : starEach [.Constant (.int 0) k0 pz] X.env = [(false, eval (.Constant (.int 0) k0 pz) X.env)] := by rfl) (hb : behindInMarks .NotEq (.Set [.Constant (.int 0) k0 pz] 0 ps) = false := by rfl) :
    TX X (.Compare (.Call (.Name "set" p) [x] [] pos2) [.NotEq] [.Set [.Constant (.int 0) k0 pz] 0 ps] pos) (tOf (mCall gSetNe0 [a])) :=
  PT.weak (pt_cmpR (op_setNe hu) (pe_setT hc hg hm ha na) (pe_set0 hcd hs) hb) fun σ H Q q => ne0_read (semT_tB q)
end
end LF
/-! LF20: dicts of the module by their rows; the law's own end. -/
namespace LF
open PySem PySem.Spec L2
open PyProof.Rows hiding St
/-- the rows of a written dict -/
def Rows (K : PySem.W.Frag) : List DictEntry → List (Str × D) → Prop
  | [], [] => True
  | e :: es, (x, d) :: tab => (∃ t, e.key = .str x t) ∧ (∃ v, RelV v e.val ∧ ∀ H, Rep K H true v d []) ∧ Rows K es tab
  | _, _ => False
theorem rows_find {K : PySem.W.Frag} {z : Str} : ∀ {es : List DictEntry} {tab : List (Str × D)}, Rows K es tab →
    (∀ d, (tab.find? fun kv => decide (kv.1 = z)).map (·.2) = some d → ∃ e v, es.find? (·.key.isStr z) = some e ∧ RelV v e.val ∧ ∀ H, Rep K H true v d []) ∧
      ((tab.find? fun kv => decide (kv.1 = z)).map (·.2) = none → es.find? (·.key.isStr z) = none) ∧ es.any (·.refKey) = false
  | [], [], _ => ⟨fun d h => by simp at h, fun _ => rfl, rfl⟩
  | [], _ :: _, h => h.elim
  | _ :: _, [], h => h.elim
  | e :: es, (x, d0) :: tab, h => by
    obtain ⟨⟨t, hk⟩, ⟨v, hv, hr⟩, rest⟩ := h
    obtain ⟨r1, r2, r3⟩ := rows_find (z := z) rest
    have hs : e.key.isStr z = decide (x = z) := by
      rw [hk, PySem.W.isStr_of]
      show (x == z) = decide (x = z)
      by_cases hx : x = z
      · rw [hx]; simp
      · simp [hx]
    have hrk : e.refKey = false := by
      unfold DictEntry.refKey
      rw [hk]
    refine ⟨fun d hd => ?_, fun hd => ?_, ?_⟩
    · rw [List.find?_cons] at hd ⊢
      rw [hs]
      by_cases hx : x = z
      · simp only [hx, decide_true] at hd ⊢
        cases hd
        exact ⟨e, v, rfl, hv, hr⟩
      · simp only [hx, decide_false] at hd ⊢
        exact r1 d hd
    · rw [List.find?_cons] at hd ⊢
      rw [hs]
      by_cases hx : x = z
      · simp only [hx, decide_true] at hd
        cases hd
      · simp only [hx, decide_false] at hd ⊢
        exact r2 hd
    · rw [List.any_cons, hrk, r3]
      rfl
theorem ktab_of {K : PySem.W.Frag} {w : World} {a : Addr} {es : Array DictEntry} {n : Nat} {tab : List (Str × D)} (hl : K.lookup a = some ⟨.type "dict", none, .dict es n, #[]⟩) (hk : PySem.W.KeysLit w.params es.toList) (hs : (a == sysModules) = false) (hr : Rows K es.toList tab) : KTab K w a tab := by
  refine ⟨es, n, hl, hk, hs, fun z => ?_⟩
  obtain ⟨r1, r2, r3⟩ := rows_find (z := z) hr
  unfold PySem.W.nsIn
  rw [hl]
  dsimp only
  refine ⟨fun d hd => ?_, fun hd => ?_⟩
  · obtain ⟨e, v, h1, h2, h3⟩ := r1 d hd
    rw [h1]
    exact ⟨e.val, v, rfl, h2, h3⟩
  · rw [r2 hd]
    dsimp only
    rw [r3]
    rfl
/-- a written tuple of texts, as a value -/
theorem row_strs {K : PySem.W.Frag} {a : Addr} {o : Obj} {its : Array Value} {n : Nat} (xs : List Str) (hl : K.lookup a = some o) (hc : o.cls = .type "tuple") (hd : o.data = .seq its n) (hz : its.size ≤ sizeLine) (hv : strVs xs its.toList = true) : ∃ v, RelV v (.ref a) ∧ ∀ H, Rep K H true v (.tup (xs.map D.str)) [] :=
  ⟨.ref a, rfl, fun H => .tup (.inr ⟨o, its, n, hl, hc, hd, hz, strVs_vals hv⟩) (strs_reps xs)⟩
/-- what the law's call is asked, and what it promises -/
def spL (K : PySem.W.Frag) (n : Nat) : Sp := fun vs H Q _ => ∃ (a : Addr) (ns : List Int), vs = [.ref a] ∧ SqF K H a (ns.map V.int) ∧ ns.length ≤ n ∧ ∀ H', Q (.bl true) H'
theorem sqF_of {K : PySem.W.Frag} {H : Hp} {a : Addr} {xs : List V} (hO : Only H) (h : SqL K H a xs) : SqF K H a xs := by
  rcases h with (h | h) | h
  · rcases hO a with e | ⟨o, ys, e⟩
    · rw [e] at h; cases h
    · rw [e] at h; cases h
  · exact .inl h
  · exact .inr h
theorem spL_at {K : PySem.W.Frag} {n : Nat} {H : Hp} {a : Addr} {ns : List Int} (hl : ns.length ≤ n) (hO : Only H) (hS : SqL K H a (ns.map V.int)) : spL K n [.ref a] H (fun v _ => v = .bl true) fun _ _ _ => False :=
  ⟨a, ns, rfl, sqF_of hO hS, hl, fun _ => rfl⟩
/-- the plain law: what the function says of every script -/
def Plain (n : Nat) (g : PM) : Prop := ∀ ns : List Int, ns.length ≤ n → ∃ os, g [(.fro (ns.map .int), true)] = some (.bl true, true, os) ∧ os.length = 1
theorem law_end {K : PySem.W.Frag} {n : Nat} {g : PM} (plain : Plain n g) {vs : List V} {H : Hp} {Q : VK} {E : XK} (h : spL K n vs H Q E) : spF K 1 g vs H Q E := by
  obtain ⟨a, ns, rfl, hq, hl, q⟩ := h
  obtain ⟨os, h1, h2⟩ := plain ns hl
  refine ⟨rfl, [(.fro (ns.map .int), true)], [], ?_, rfl, .bl true, true, os, h1, h2, fun v H' g => ?_⟩
  · exact ⟨[] ++ [], [], .own (.fro hq (ints_reps ns)) .nil, List.nodup_nil, fun a ha => nomatch ha⟩
  · obtain ⟨A, r⟩ := g.rep
    rw [rep_bl r]
    exact q H'
end LF
/-! EVL: the words of the layer as equations at work (for simp) -/
namespace LF
open PySem
/-! what is done with a result that is there; nothing below a binder -/
abbrev ER := Option (D × Bool × En)
abbrev SR := Option (Fl × En)
abbrev TR := Option (Bool × En)
def kSeq (r : SR) (g : SM) : SR := match r with | some (.nx, e') => g e' | r => r
def kSet (i : Nat) (r : ER) : SR := match r with | some (d, b, e') => if i < e'.length then some (.nx, e'.set i (some ⟨d, b, false⟩)) else none | none => none
def kPar2 (i j : Nat) (d : D) (b : Bool) (r : ER) : SR := match r with | some (d2, b2, e2) => if i < e2.length ∧ j < e2.length then some (.nx, (e2.set i (some ⟨d, b, false⟩)).set j (some ⟨d2, b2, false⟩)) else none | none => none
def kPar (i j : Nat) (r : ER) (y : EM) : SR := match r with | some (d, b, e1) => kPar2 i j d b (y e1) | none => none
def kGive (rs : List AR) (e1 e2 : En) (n : Nat) (r : Option (D × Bool × List (Option DB))) : ER := match r with | some (d, b, os) => if os.length = n then some (d, b, give rs os e1 e2) else none | none => none
def kTake (p : PM) (rs : List AR) (e1 : En) (r : Option (List DB × En)) : ER := match r with | some (ws, e2) => kGive rs e1 e2 ws.length (p ws) | none => none
def kArgs (p : PM) (r : Option (List AR × En)) : ER := match r with | some (rs, e1) => kTake p rs e1 (take rs e1) | none => none
def kCons (a : AR) (r : Option (List AR × En)) : Option (List AR × En) := match r with | some (rs, e') => some (a :: rs, e') | none => none
def kVal (r : ER) (as : List Ag) : Option (List AR × En) := match r with | some (d, b, e1) => kCons (.val d b) (mArgs as e1) | none => none
def kVarA (i : Nat) (s : Option (Option Sl)) (as : List Ag) (e : En) : Option (List AR × En) := match s with | some (some _) => kCons (.var i) (mArgs as e) | _ => none
def kTk (w : DB) (r : Option (List DB × En)) : Option (List DB × En) := match r with | some (l, e') => some (w :: l, e') | none => none
def kTkV (i : Nat) (s : Option (Option Sl)) (r : List AR) (e : En) : Option (List DB × En) := match s with | some (some sl) => if sl.d.imm then kTk (sl.d, true) (take r e) else kTk (sl.d, sl.own) (take r (e.set i none)) | _ => none
def kGvV (i : Nat) (s : Option (Option Sl)) (o : Option DB) (r : List AR) (os : List (Option DB)) (e0 e : En) : En := match s with | some (some sl) => if sl.d.imm then give r os e0 e else (give r os (e0.set i none) e).set i (o.map fun p => ⟨p.1, p.2, sl.pin⟩) | _ => e
def kRet (r : ER) : SR := match r with | some (d, b, e') => some (.rt d b, e') | none => none
def kExpr (r : ER) : SR := match r with | some (_, _, e') => some (.nx, e') | none => none
def kIfS (r : TR) (f g : SM) : SR := match r with | some (true, e') => f e' | some (false, e') => g e' | none => none
def kIf (r : TR) (f g : EM) : ER := match r with | some (true, e') => f e' | some (false, e') => g e' | none => none
def kOf (r : ER) : TR := match r with | some (.bl c, _, e') => some (c, e') | _ => none
def kNot (r : TR) : TR := match r with | some (c, e') => some (!c, e') | none => none
def kAnd (r : TR) (u : TM) : TR := match r with | some (true, e') => u e' | some (false, e') => some (false, e') | none => none
def kOr (r : TR) (u : TM) : TR := match r with | some (false, e') => u e' | some (true, e') => some (true, e') | none => none
def kOne (r : Option En) : SR := match r with | some e => some (.nx, e) | none => none
def kAsg (r : ER) (h : GM) : SR := match r with | some (d, b, e1) => kOne (h d b e1) | none => none
def kGs (r : Option En) (hs : GMs) (l : List DB) : Option En := match r with | some e1 => hs l e1 | none => none
def kR1 (a : D) (ba : Bool) (r : Option D) : Option (D × Bool × List (Option DB)) := match r with | some d => some (d, true, [some (a, ba)]) | none => none
def kR2 (a : D) (ba : Bool) (b : D) (bb : Bool) (r : Option D) : Option (D × Bool × List (Option DB)) := match r with | some d => some (d, true, [some (a, ba), some (b, bb)]) | none => none
def kIx (a : D) (ba : Bool) (b : D) (bb : Bool) (r : Option D) : Option (D × Bool × List (Option DB)) := match r with | some d => if d.imm then some (d, true, [some (a, ba), some (b, bb)]) else some (d, false, [some (a, false), some (b, bb)]) | none => none
section
variable (f g : SM) (x y z : EM) (t u : TM) (e e' e1 e2 : En) (p q : PM) (i j k n : Nat) (as : List Ag) (ws : List DB) (d d2 : D) (b b2 c : Bool) (rs : List AR) (os : List (Option DB)) (sl : Sl) (fl : Fl)
theorem e_seq : mSeq f g e = kSeq (f e) g := rfl
theorem k_seq : kSeq (some (.nx, e)) g = g e := rfl
theorem k_seqr : kSeq (some (.rt d b, e)) g = some (.rt d b, e) := rfl
theorem e_set : mSet i x e = kSet i (x e) := rfl
theorem k_set : kSet i (some (d, b, e)) = if i < e.length then some (.nx, e.set i (some ⟨d, b, false⟩)) else none := rfl
theorem e_par : mPar i j x y e = kPar i j (x e) y := rfl
theorem k_par : kPar i j (some (d, b, e)) y = kPar2 i j d b (y e) := rfl
theorem k_par2 : kPar2 i j d b (some (d2, b2, e)) = if i < e.length ∧ j < e.length then some (.nx, (e.set i (some ⟨d, b, false⟩)).set j (some ⟨d2, b2, false⟩)) else none := rfl
theorem e_call : mCall p as e = kArgs p (mArgs as e) := by
  unfold mCall kArgs
  rcases mArgs as e with _ | ⟨rs, e1⟩
  · rfl
  dsimp only
  unfold kTake
  rcases take rs e1 with _ | ⟨ws, e2⟩
  · rfl
  dsimp only
  unfold kGive
  rcases p ws with _ | ⟨d, b, os⟩ <;> rfl
theorem k_args : kArgs p (some (rs, e)) = kTake p rs e (take rs e) := rfl
theorem k_take : kTake p rs e1 (some (ws, e2)) = kGive rs e1 e2 ws.length (p ws) := rfl
theorem k_give : kGive rs e1 e2 n (some (d, b, os)) = if os.length = n then some (d, b, give rs os e1 e2) else none := rfl
theorem a_nil : mArgs [] e = some ([], e) := rfl
theorem a_val : mArgs (.val x :: as) e = kVal (x e) as := rfl
theorem k_val : kVal (some (d, b, e)) as = kCons (.val d b) (mArgs as e) := rfl
theorem k_cons (a : AR) : kCons a (some (rs, e)) = some (a :: rs, e) := rfl
theorem a_var : mArgs (Ag.var i :: as) e = kVarA i e[i]? as e := by
  unfold mArgs kVarA kCons
  rcases e[i]? with _ | (_ | sl) <;> rfl
theorem k_varA : kVarA i (some (some sl)) as e = kCons (.var i) (mArgs as e) := rfl
theorem t_nil : take [] e = some ([], e) := rfl
theorem t_val : take (.val d b :: rs) e = kTk (d, b) (take rs e) := rfl
theorem t_var : take (AR.var i :: rs) e = kTkV i e[i]? rs e := by
  unfold take kTkV kTk
  rcases e[i]? with _ | (_ | sl) <;> rfl
theorem k_tk (w : DB) : kTk w (some (ws, e)) = some (w :: ws, e) := rfl
theorem k_tkV : kTkV i (some (some ⟨d, b, c⟩)) rs e = if d.imm then kTk (d, true) (take rs e) else kTk (d, b) (take rs (e.set i none)) := rfl
theorem g_nil : give [] os e1 e2 = e2 := by cases os <;> rfl
theorem g_val (o : Option DB) : give (.val d b :: rs) (o :: os) e1 e2 = give rs os e1 e2 := rfl
theorem g_var (o : Option DB) : give (.var i :: rs) (o :: os) e1 e2 = kGvV i e1[i]? o rs os e1 e2 := rfl
theorem k_gvV (o : Option DB) : kGvV i (some (some ⟨d, b, c⟩)) o rs os e1 e2 = if d.imm then give rs os e1 e2 else (give rs os (e1.set i none) e2).set i (o.map fun p => ⟨p.1, p.2, c⟩) := rfl
theorem e_aug (a : Ag) : mAug i p a e = kSet i (mCall p [.var i, a] e) := rfl
theorem e_var : mVar i e = match e[i]? with
  | some (some sl) => if sl.d.imm then some (sl.d, true, e) else some (sl.d, false, e.set i (some ⟨sl.d, false, sl.pin⟩))
  | _ => none := rfl
theorem e_mc : mC d e = some (d, true, e) := rfl
theorem e_ret : mRet x e = kRet (x e) := rfl
theorem k_ret : kRet (some (d, b, e)) = some (.rt d b, e) := rfl
theorem e_retV : mRetV i e = match e[i]? with | some (some sl) => some (.rt sl.d (sl.d.imm || sl.own), if sl.d.imm then e else e.set i none) | _ => none := rfl
theorem e_pass : mPass e = some (.nx, e) := rfl
theorem e_expr : mExpr x e = kExpr (x e) := rfl
theorem k_expr : kExpr (some (d, b, e)) = some (.nx, e) := rfl
theorem e_ifS : mIfS t f g e = kIfS (t e) f g := rfl
theorem k_ifT : kIfS (some (true, e)) f g = f e := rfl
theorem k_ifF : kIfS (some (false, e)) f g = g e := rfl
theorem e_if : mIf t x y e = kIf (t e) x y := rfl
theorem k_fT : kIf (some (true, e)) x y = x e := rfl
theorem k_fF : kIf (some (false, e)) x y = y e := rfl
theorem e_yes : mYes e = some (true, e) := rfl
theorem e_setI (v o i2 : Ag) : mSetItem p v o i2 e = kExpr (mCall p [v, o, i2] e) := rfl
theorem e_asg (h : GM) : mAsg x h e = kAsg (x e) h := rfl
theorem k_asg (h : GM) : kAsg (some (d, b, e)) h = kOne (h d b e) := rfl
theorem k_one : kOne (some e) = some (.nx, e) := rfl
theorem e_gname : mGName i d b e = if i < e.length then some (e.set i (some ⟨d, b, false⟩)) else none := rfl
theorem e_of : tOf x e = kOf (x e) := rfl
theorem k_of : kOf (some (.bl c, b, e)) = some (c, e) := rfl
theorem e_not : tNotM t e = kNot (t e) := rfl
theorem k_not : kNot (some (c, e)) = some (!c, e) := rfl
theorem e_and : tAndM t u e = kAnd (t e) u := rfl
theorem k_andT : kAnd (some (true, e)) u = u e := rfl
theorem k_andF : kAnd (some (false, e)) u = some (false, e) := rfl
theorem e_or : tOrM t u e = kOr (t e) u := rfl
theorem k_orT : kOr (some (true, e)) u = some (true, e) := rfl
theorem k_orF : kOr (some (false, e)) u = u e := rfl
theorem e_gtup (h : GMs) (l : List D) (b : Bool) : mGTup n h (.tup l) b e = if l.length = n then h (l.map fun d => (d, d.imm || b)) e else none := rfl
theorem e_gnil : mGNil [] e = some e := rfl
theorem e_gcons (h : GM) (hs : GMs) (r : List DB) : mGCons h hs ((d, b) :: r) e = kGs (h d b e) hs r := rfl
theorem k_gs (hs : GMs) (l : List DB) : kGs (some e) hs l = hs l e := rfl
theorem e_r1 (h : D → Option D) (a : D) (ba : Bool) : gR1 h [(a, ba)] = kR1 a ba (h a) := rfl
theorem k_r1 (a : D) (ba : Bool) : kR1 a ba (some d) = some (d, true, [some (a, ba)]) := rfl
theorem e_r2 (h : D → D → Option D) (a b : D) (ba bb : Bool) : gR2 h [(a, ba), (b, bb)] = kR2 a ba b bb (h a b) := rfl
theorem k_r2 (a b : D) (ba bb : Bool) : kR2 a ba b bb (some d) = some (d, true, [some (a, ba), some (b, bb)]) := rfl
theorem k_ix (a b : D) (ba bb : Bool) : kIx a ba b bb (some d) = if d.imm then some (d, true, [some (a, ba), some (b, bb)]) else some (d, false, [some (a, false), some (b, bb)]) := rfl
theorem e_sub (a b : Int) : fSub (.int a) (.int b) = some (.int (a - b)) := rfl
theorem e_mod (a b : Int) : fMod (.int a) (.int b) = if b = 0 then none else some (.int (a.fmod b)) := rfl
theorem e_div (a b : Int) : fDiv (.int a) (.int b) = if b = 0 ∨ 1073741824 ≤ b.natAbs then none else some (.int (a.fdiv b)) := rfl
theorem e_pow (a b : Int) : fPow (.int a) (.int b) = if 0 ≤ b ∧ b ≤ 1000000 ∧ a.natAbs < 18446744073709551616 then some (.int (a ^ b.toNat)) else none := rfl
theorem e_shl (a b : Int) : fShl (.int a) (.int b) = if 0 ≤ b ∧ b ≤ 1000000 ∧ a.natAbs < 18446744073709551616 then some (.int (a * 2 ^ b.toNat)) else none := rfl
theorem e_cmp (h : Int → Int → Bool) (a b : Int) : fCmp h (.int a) (.int b) = some (.bl (h a b)) := rfl
theorem e_lt (a b : Int) : fLt (.int a) (.int b) = some (.bl (decide (a < b))) := rfl
theorem e_add (a b : Int) (ba bb : Bool) : gAdd [(.int a, ba), (.int b, bb)] = some (.int (a + b), true, [some (.int a, ba), some (.int b, bb)]) := rfl
theorem e_addI (a b : Int) : fAddI (.int a) (.int b) = some (.int (a + b)) := rfl
theorem e_addL (a b : List D) (ba bb : Bool) : gAdd [(.lst a, ba), (.lst b, bb)] = if a.length + b.length ≤ sizeMax ∧ (D.imms a && D.imms b) = true ∧ (ba && bb) = true then some (.lst (a ++ b), true, [some (.lst a, ba), some (.lst b, bb)]) else none := rfl
theorem e_addT (a b : List D) (ba bb : Bool) : gAdd [(.tup a, ba), (.tup b, bb)] = if a.length + b.length ≤ sizeMax ∧ (D.imms a && D.imms b) = true then some (.tup (a ++ b), true, [some (.tup a, ba), some (.tup b, bb)]) else none := rfl
theorem e_mul (a b : Int) (ba bb : Bool) : gMul [(.int a, ba), (.int b, bb)] = if (-two64 < a ∧ a < two64) ∨ (-two64 < b ∧ b < two64) then some (.int (a * b), true, [some (.int a, ba), some (.int b, bb)]) else none := rfl
theorem e_mulL (l : List D) (k : Int) (ba bb : Bool) : gMul [(.lst l, ba), (.int k, bb)] = if (0 ≤ k ∧ k < two62) ∧ l.length * k.toNat ≤ sizeMax ∧ D.imms l = true ∧ ba = true then some (.lst ((List.replicate k.toNat l).flatten), true, [some (.lst l, ba), some (.int k, bb)]) else none := rfl
theorem e_len1 (l : List D) (b : Bool) : gLen [(.lst l, b)] = some (.int (l.length : Nat), true, [some (.lst l, b)]) := rfl
theorem e_len2 (l : List D) (b : Bool) : gLen [(.tup l, b)] = some (.int (l.length : Nat), true, [some (.tup l, b)]) := rfl
theorem e_len3 (l : List D) (b : Bool) : gLen [(.fro l, b)] = some (.int (l.length : Nat), true, [some (.fro l, b)]) := rfl
theorem e_int (a : Int) (b : Bool) : gInt [(.int a, b)] = some (.int a, true, [some (.int a, b)]) := rfl
theorem e_intb (a b : Bool) : gInt [(.bl a, b)] = some (.int (if a then 1 else 0), true, [some (.bl a, b)]) := rfl
theorem e_ixl (l : List D) (a : Int) (ba bb : Bool) : gIx [(.lst l, ba), (.int a, bb)] = kIx (.lst l) ba (.int a) bb (L2.atI l a) := rfl
theorem e_ixt (l : List D) (a : Int) (ba bb : Bool) : gIx [(.tup l, ba), (.int a, bb)] = kIx (.tup l) ba (.int a) bb (L2.atI l a) := rfl
theorem e_ixd1 (l : List (L2.Key × D)) (a : Int) (ba bb : Bool) : gIx [(.dic l, ba), (.int a, bb)] = kIx (.dic l) ba (.int a) bb (getK l (.inl a)) := rfl
theorem e_ixd2 (l : List (L2.Key × D)) (a : Str) (ba bb : Bool) : gIx [(.dic l, ba), (.str a, bb)] = kIx (.dic l) ba (.str a) bb (getK l (.inr a)) := rfl
theorem e_setL (v : D) (l : List D) (bv bo bi : Bool) (a : Int) : gSetL [(v, bv), (.lst l, bo), (.int a, bi)] = match L2.ixN l.length a with
    | some j => (match l[j]? with
      | some d0 => if bo && v.imm && d0.imm then some (.non, true, [none, some (.lst (l.set j v), true), some (.int a, bi)]) else none
      | none => none)
    | none => none := rfl
theorem fEq_int (a b : Int) : fEq false (.int a) (.int b) = some (.bl (decide (a = b))) := by
  unfold fEq
  simp [D.py, SeqAt.shaped, PyData.eqv, PyData.canLay0, PyData.depth]
  cases h : a == b <;> simp_all
theorem fNe_int (a b : Int) : fEq true (.int a) (.int b) = some (.bl (!decide (a = b))) := by
  unfold fEq
  simp [D.py, SeqAt.shaped, PyData.eqv, PyData.canLay0, PyData.depth]
  cases h : a == b <;> simp_all
def kFin (ws : List DB) (r : SR) : Option (D × Bool × List (Option DB)) := match r with
  | some (.rt d b, e) => some (d, b, finals e 0 ws)
  | some (.nx, e) => some (.non, true, finals e 0 ws)
  | _ => none
theorem e_mkF : mkF n f ws = kFin ws (f (startE n ws)) := rfl
theorem k_finR : kFin ws (some (.rt d b, e)) = some (d, b, finals e 0 ws) := rfl
theorem k_finN : kFin ws (some (.nx, e)) = some (.non, true, finals e 0 ws) := rfl
def kBag2 (x y : Option D) (e : En) : ER := match x, y with | some (.lst c), some (.int lo) => if D.imms c then some (.lst (cutD c (some lo) none), true, e) else none | _, _ => none
def kBag (s : Option (Option Sl)) (a b : Int) (e : En) : ER := match s with | some (some ⟨.lst l, _, _⟩) => kBag2 (L2.atI l a) (L2.atI l b) e | _ => none
theorem e_bagSl (a c : Int) : mBagSl i a c e = kBag e[i]? a c e := by
  unfold mBagSl kBag
  rcases e[i]? with _ | (_ | ⟨dd, bb, cc⟩)
  · rfl
  · rfl
  · cases dd <;> rfl
theorem k_bag (l : List D) (a c : Int) (b1 b2 : Bool) : kBag (some (some ⟨.lst l, b1, b2⟩)) a c e = kBag2 (L2.atI l a) (L2.atI l c) e := rfl
theorem k_bag2 (l : List D) (a : Int) : kBag2 (some (.lst l)) (some (.int a)) e = if D.imms l then some (.lst (cutD l (some a) none), true, e) else none := rfl
/-- an item of a list of our own grows -/
def kAug3 (i : Nat) (h : Int → Int → Int) (c : Int) (e : En) (l : List D) (b1 : Bool) (a : Int) (j : Nat) (s : Option D) : SR := match s with
  | some d0 => if d0.imm then some (.nx, e.set i (some ⟨.lst (l.set j (.int (h a c))), true, b1⟩)) else none
  | none => none
def kAug2 (i : Nat) (h : Int → Int → Int) (c : Int) (e : En) (l : List D) (b1 : Bool) (x : Option D) (y : Option Nat) : SR := match x, y with
  | some (.int a), some j => kAug3 i h c e l b1 a j l[j]?
  | _, _ => none
def kAug (i : Nat) (k1 : Int) (h : Int → Int → Int) (c : Int) (e : En) (s : Option (Option Sl)) : SR := match s with
  | some (some ⟨.lst l, true, b1⟩) => kAug2 i h c e l b1 (L2.atI l k1) (L2.ixN l.length k1)
  | _ => none
theorem e_augL (h : Int → Int → Int) (k1 c : Int) : mAugL i (mC (.int k1)) h (mC (.int c)) e = kAug i k1 h c e e[i]? := by
  unfold mAugL kAug mC
  rcases hs : e[i]? with _ | (_ | ⟨dd, bb, cc⟩)
  · rfl
  · rfl
  · cases dd <;> simp only [hs]
    next l =>
      unfold kAug2 kAug3
      cases bb
      · dsimp only
        rcases L2.atI l k1 with _ | d1
        · rfl
        · cases d1 <;> rfl
      · dsimp only
        generalize L2.atI l k1 = o1
        generalize L2.ixN l.length k1 = o2
        rcases o1 with _ | d1
        · rfl
        · rcases o2 with _ | j1
          · cases d1 <;> rfl
          · rcases hj : l[j1]? with _ | d0
            · cases d1 <;> simp [hj]
            · cases d1 <;> simp [hj]
theorem k_aug (h : Int → Int → Int) (k1 c : Int) (l : List D) (b1 : Bool) : kAug i k1 h c e (some (some ⟨.lst l, true, b1⟩)) = kAug2 i h c e l b1 (L2.atI l k1) (L2.ixN l.length k1) := rfl
theorem k_aug2 (h : Int → Int → Int) (a c : Int) (l : List D) (b1 : Bool) : kAug2 i h c e l b1 (some (.int a)) (some j) = kAug3 i h c e l b1 a j l[j]? := rfl
theorem k_aug3 (h : Int → Int → Int) (a c : Int) (l : List D) (b1 : Bool) : kAug3 i h c e l b1 a j (some d) = if d.imm then some (.nx, e.set i (some ⟨.lst (l.set j (.int (h a c))), true, b1⟩)) else none := rfl
end
/-! loops, comprehensions, walks -/
def kLp2 (g : GM) (fl : Bool) (body : SM) (ds : List D) (r : SR) : SR := match r with
      | some (.nx, e2) => loopM g fl body ds e2
      | some (.ct, e2) => loopM g fl body ds e2
      | some (.bk, e2) => some (.nx, e2)
      | some (.rt d b, e2) => some (.rt d b, e2)
      | none => none
def kLp (g : GM) (fl : Bool) (body : SM) (ds : List D) (r : Option En) : SR := match r with
    | none => none
    | some e1 => kLp2 g fl body ds (body e1)
def kFor (g : GM) (body : SM) (r : Option (List D × Bool × En)) : SR := match r with
  | some (ds, fl, e') => loopM g fl body ds e'
  | none => none
def kCmE (own : Own) (e1 : En) (r : Option (List D × En)) : ER := match r with
  | some (acc, e2) => some (.lst acc, true, unhide own e1 e2)
  | none => none
def kCm (own : Own) (g : GM) (tt : TM) (te : EM) (r : Option (List D × Bool × En)) : ER := match r with
  | none => none
  | some (ds, fl, e1) => if saveOk e1 own then kCmE own e1 (compLoop own g fl tt te ds (hideAll own e1) []) else none
def kCl3 (own : Own) (g : GM) (fl : Bool) (tt : TM) (te : EM) (ds acc : List D) (r : ER) : Option (List D × En) := match r with
  | some (y, true, e3) => if acc.length < sizeMax then compLoop own g fl tt te ds (hideAll own e3) (acc ++ [y]) else none
  | _ => none
def kCl2 (own : Own) (g : GM) (fl : Bool) (tt : TM) (te : EM) (ds acc : List D) (r : TR) : Option (List D × En) := match r with
  | none => none
  | some (false, e2) => compLoop own g fl tt te ds (hideAll own e2) acc
  | some (true, e2) => kCl3 own g fl tt te ds acc (te e2)
def kCl (own : Own) (g : GM) (fl : Bool) (tt : TM) (te : EM) (ds acc : List D) (r : Option En) : Option (List D × En) := match r with
  | none => none
  | some e1 => kCl2 own g fl tt te ds acc (tt e1)
def kR1g (r : ER) : Option (List D × Bool × En) := match r with
  | some (.int j, _, e') => if -two62 ≤ j ∧ j < two62 then some (intsD 0 1 j.toNat, true, e') else none
  | _ => none
def kItA (r : ER) : Option (List D × Bool × En) := match r with
  | some (.str z, _, e') => some (signsD z, true, e')
  | some (.lst l, _, e') => some (l, D.imms l, e')
  | some (.tup l, _, e') => some (l, D.imms l, e')
  | some (.fro l, _, e') => some (l, D.imms l, e')
  | _ => none
def kZp2 (l : List D) (tup : Bool) (r : ER) : Option (List D × Bool × En) := match r with
  | some (.lst m, _, e2) => if tup then none else some (List.zipWith (fun a b => .tup [a, b]) l m, D.imms l && D.imms m, e2)
  | some (.tup m, _, e2) => if tup then some (List.zipWith (fun a b => .tup [a, b]) l m, D.imms l && D.imms m, e2) else none
  | _ => none
def kZp (r : ER) (g : EM) : Option (List D × Bool × En) := match r with
  | some (.lst l, _, e1) => kZp2 l false (g e1)
  | some (.tup l, _, e1) => kZp2 l true (g e1)
  | _ => none
section
variable (f : SM) (x y : EM) (it : IM) (g : GM) (t : TM) (e e1 : En) (own : Own) (n : Nat) (d : D) (b fl : Bool) (ds acc : List D) (l m : List D)
theorem e_for : mFor it g f e = kFor g f (it e) := rfl
theorem k_for : kFor g f (some (ds, fl, e)) = loopM g fl f ds e := rfl
theorem e_lp0 : loopM g fl f [] e = some (.nx, e) := rfl
theorem e_lp : loopM g fl f (d :: ds) e = kLp g fl f ds (g d fl e) := rfl
theorem k_lp : kLp g fl f ds (some e) = kLp2 g fl f ds (f e) := rfl
theorem k_lpn : kLp2 g fl f ds (some (.nx, e)) = loopM g fl f ds e := rfl
theorem k_lpr : kLp2 g fl f ds (some (.rt d b, e)) = some (.rt d b, e) := rfl
theorem e_cm : mComp own it g t x e = kCm own g t x (it e) := by
  unfold mComp kCm kCmE
  rcases it e with _ | ⟨ds, fl, e1⟩ <;> rfl
theorem k_cm : kCm own g t x (some (ds, fl, e)) = if saveOk e own then kCmE own e (compLoop own g fl t x ds (hideAll own e) []) else none := rfl
theorem k_cmE : kCmE own e1 (some (acc, e)) = some (.lst acc, true, unhide own e1 e) := rfl
theorem e_cl0 : compLoop own g fl t x [] e acc = some (acc, e) := rfl
theorem e_cl : compLoop own g fl t x (d :: ds) e acc = kCl own g fl t x ds acc (g d fl e) := by
  show (match g d fl e with | none => none | some e1 => (match t e1 with | none => none | some (false, e2) => compLoop own g fl t x ds (hideAll own e2) acc | some (true, e2) => (match x e2 with | some (y, true, e3) => if acc.length < sizeMax then compLoop own g fl t x ds (hideAll own e3) (acc ++ [y]) else none | _ => none))) = _
  unfold kCl kCl2 kCl3
  rcases g d fl e with _ | e1
  · rfl
  · dsimp only
    rcases t e1 with _ | ⟨_ | _, e2⟩ <;> rfl
theorem k_cl : kCl own g fl t x ds acc (some e) = kCl2 own g fl t x ds acc (t e) := rfl
theorem k_cl2F : kCl2 own g fl t x ds acc (some (false, e)) = compLoop own g fl t x ds (hideAll own e) acc := rfl
theorem k_cl2T : kCl2 own g fl t x ds acc (some (true, e)) = kCl3 own g fl t x ds acc (x e) := rfl
theorem k_cl3 : kCl3 own g fl t x ds acc (some (d, true, e)) = if acc.length < sizeMax then compLoop own g fl t x ds (hideAll own e) (acc ++ [d]) else none := rfl
theorem e_rg1 : mRange1 x e = kR1g (x e) := rfl
theorem k_rg1 (j : Int) : kR1g (some (.int j, b, e)) = if -two62 ≤ j ∧ j < two62 then some (intsD 0 1 j.toNat, true, e) else none := rfl
theorem e_itA : mIterA x e = kItA (x e) := by
  unfold mIterA kItA mIter
  rcases h : x e with _ | ⟨d, b, e1⟩
  · simp [h]
  · cases d <;> simp [h]
theorem k_itL : kItA (some (.lst l, b, e)) = some (l, D.imms l, e) := rfl
theorem k_itT : kItA (some (.tup l, b, e)) = some (l, D.imms l, e) := rfl
theorem k_itF : kItA (some (.fro l, b, e)) = some (l, D.imms l, e) := rfl
theorem e_zip : mZip x y e = kZp (x e) y := by
  unfold mZip kZp kZp2
  rcases x e with _ | ⟨d, b, e1⟩
  · rfl
  · cases d <;> (try rfl)
    · dsimp only
      rcases y e1 with _ | ⟨d2, b2, e2⟩
      · rfl
      · cases d2 <;> rfl
    · dsimp only
      rcases y e1 with _ | ⟨d2, b2, e2⟩
      · rfl
      · cases d2 <;> rfl
theorem k_zpL : kZp (some (.lst l, b, e)) y = kZp2 l false (y e) := rfl
theorem k_zpT : kZp (some (.tup l, b, e)) y = kZp2 l true (y e) := rfl
theorem k_zp2L : kZp2 l false (some (.lst m, b, e)) = some (List.zipWith (fun a b => .tup [a, b]) l m, D.imms l && D.imms m, e) := rfl
theorem k_zp2T : kZp2 l true (some (.tup m, b, e)) = some (List.zipWith (fun a b => .tup [a, b]) l m, D.imms l && D.imms m, e) := rfl
/-! slices, methods, list, tuple -/
def kChkI (r : ER) : ER := match r with | some (.int i, b, e') => some (.int i, b, e') | _ => none
theorem e_sl (a : Ag) (lo hi : Option EM) : mSlice a lo hi e = mCall gSl [a, agP lo, agP hi] e := rfl
theorem e_agN : agP none = .val (mC .non) := rfl
theorem e_agS : agP (some x) = .val (chkI x) := rfl
theorem e_chkI : chkI x e = kChkI (x e) := rfl
theorem k_chkI (i : Int) : kChkI (some (.int i, b, e)) = some (.int i, b, e) := rfl
def kPf (a : D) (ba : Bool) (c : D) (os : List (Option DB)) (r : Option Bool) : Option (D × Bool × List (Option DB)) := match r with | some fl => some (c, fl, some (a, ba) :: os) | none => none
theorem e_slL (lo hi : D) (b1 b2 : Bool) (o1 o2 : Option Int) (h1 : optI lo = some o1) (h2 : optI hi = some o2) : gSl [(.lst l, b), (lo, b1), (hi, b2)] = kPf (.lst l) b (.lst (cutD l o1 o2)) [none, none] (partFl (cutD l o1 o2) b) := by
  unfold gSl kPf
  dsimp only
  rw [h1, h2]
  all_goals rfl
theorem e_slF (lo hi : D) (b1 b2 : Bool) (o1 o2 : Option Int) (h1 : optI lo = some o1) (h2 : optI hi = some o2) : gSl [(.fro l, b), (lo, b1), (hi, b2)] = kPf (.fro l) b (.lst (cutD l o1 o2)) [none, none] (partFl (cutD l o1 o2) b) := by
  unfold gSl kPf
  dsimp only
  rw [h1, h2]
  all_goals rfl
theorem e_slT (lo hi : D) (b1 b2 : Bool) (o1 o2 : Option Int) (h1 : optI lo = some o1) (h2 : optI hi = some o2) : gSl [(.tup l, b), (lo, b1), (hi, b2)] = kPf (.tup l) b (.tup (cutD l o1 o2)) [none, none] (partFl (cutD l o1 o2) b) := by
  unfold gSl kPf
  dsimp only
  rw [h1, h2]
  all_goals rfl
theorem e_slT00 (b1 b2 : Bool) : gSl [(.tup l, b), (.non, b1), (.non, b2)] = kPf (.tup l) b (.tup (cutD l none none)) [none, none] (partFl (cutD l none none) b) := e_slT b l _ _ _ _ _ _ rfl rfl
theorem e_slT01 (j : Int) (b1 b2 : Bool) : gSl [(.tup l, b), (.non, b1), (.int j, b2)] = kPf (.tup l) b (.tup (cutD l none (some j))) [none, none] (partFl (cutD l none (some j)) b) := e_slT b l _ _ _ _ _ _ rfl rfl
theorem e_slT10 (i : Int) (b1 b2 : Bool) : gSl [(.tup l, b), (.int i, b1), (.non, b2)] = kPf (.tup l) b (.tup (cutD l (some i) none)) [none, none] (partFl (cutD l (some i) none) b) := e_slT b l _ _ _ _ _ _ rfl rfl
theorem e_slT11 (i j : Int) (b1 b2 : Bool) : gSl [(.tup l, b), (.int i, b1), (.int j, b2)] = kPf (.tup l) b (.tup (cutD l (some i) (some j))) [none, none] (partFl (cutD l (some i) (some j)) b) := e_slT b l _ _ _ _ _ _ rfl rfl
theorem e_slF01 (j : Int) (b1 b2 : Bool) : gSl [(.fro l, b), (.non, b1), (.int j, b2)] = kPf (.fro l) b (.lst (cutD l none (some j))) [none, none] (partFl (cutD l none (some j)) b) := e_slF b l _ _ _ _ _ _ rfl rfl
theorem e_listL : gList [(.lst l, b)] = kPf (.lst l) b (.lst l) [] (partFl l b) := by
  show (partFl l b).map _ = _
  cases partFl l b <;> rfl
theorem e_listT : gList [(.tup l, b)] = kPf (.tup l) b (.lst l) [] (partFl l b) := by
  show (partFl l b).map _ = _
  cases partFl l b <;> rfl
theorem e_listF : gList [(.fro l, b)] = kPf (.fro l) b (.lst l) [] (partFl l b) := by
  show (partFl l b).map _ = _
  cases partFl l b <;> rfl
theorem e_tupL : gTuple [(.lst l, b)] = kPf (.lst l) b (.tup l) [] (partFl l b) := by
  show (partFl l b).map _ = _
  cases partFl l b <;> rfl
theorem e_tupT : gTuple [(.tup l, b)] = kPf (.tup l) b (.tup l) [] (partFl l b) := by
  show (partFl l b).map _ = _
  cases partFl l b <;> rfl
theorem k_pf (a c : D) (ba : Bool) (os : List (Option DB)) : kPf a ba c os (some fl) = some (c, fl, some (a, ba) :: os) := rfl
def kMt (k : Kd) (p : PM) (i : Nat) (as : List Ag) (e : En) (s : Option (Option Sl)) : ER := match s with
  | some (some sl) => if sl.d.kd = some k then mCall p (.var i :: as) e else none
  | _ => none
theorem e_mt (k : Kd) (p : PM) (i : Nat) (as : List Ag) : mMeth k p (.var i) as e = kMt k p i as e e[i]? := by
  unfold mMeth kMt
  dsimp only
  all_goals (rcases e[i]? with _ | (_ | sl) <;> rfl)
theorem k_mt (k : Kd) (p : PM) (i : Nat) (as : List Ag) (c : Bool) : kMt k p i as e (some (some ⟨d, b, c⟩)) = if d.kd = some k then mCall p (.var i :: as) e else none := rfl
theorem e_app (z : D) (b2 : Bool) : gAppend [(.lst l, b), (z, b2)] = if b && (b2 || z.imm) && decide (l.length < sizeMax) then some (.non, true, [some (.lst (l ++ [z]), true), if z.imm then some (z, b2) else none]) else none := rfl
theorem e_ext (b2 : Bool) : gExtend [(.lst l, b), (.lst m, b2)] = if b && b2 && D.imms m && decide (l.length + m.length ≤ sizeMax) then some (.non, true, [some (.lst (l ++ m), true), some (.lst m, true)]) else none := rfl
def kPop2 (l : List D) (i : Int) (b2 : Bool) (k : Nat) (s : Option D) : Option (D × Bool × List (Option DB)) := match s with
        | some y => if y.imm then some (y, true, [some (.lst (l.eraseIdx k), true), some (.int i, b2)]) else none
        | none => none
def kPop (l : List D) (i : Int) (b2 : Bool) (s : Option Nat) : Option (D × Bool × List (Option DB)) := match s with
      | some k => kPop2 l i b2 k l[k]?
      | none => none
theorem e_pop (i : Int) (b2 : Bool) : gPopAt [(.lst l, b), (.int i, b2)] = if b && decide (-9223372036854775808 ≤ i) && decide (i < 9223372036854775808) then kPop l i b2 (seqIndex? i l.length) else none := rfl
theorem k_pop (i : Int) (b2 : Bool) (k : Nat) : kPop l i b2 (some k) = kPop2 l i b2 k l[k]? := rfl
theorem k_pop2 (i : Int) (b2 : Bool) (k : Nat) : kPop2 l i b2 k (some d) = if d.imm then some (d, true, [some (.lst (l.eraseIdx k), true), some (.int i, b2)]) else none := rfl
theorem e_absI (i : Int) : gAbs [(.int i, b)] = some (.int (if i < 0 then -i else i), true, [some (.int i, b)]) := rfl
/-- a loop that keeps a promise -/
theorem loop_inv {I : En → Prop} : ∀ {ds : List D} {e : En}, (∀ d ∈ ds, ∀ e, I e → ∃ e1 e2, g d fl e = some e1 ∧ f e1 = some (.nx, e2) ∧ I e2) → I e → ∃ e', I e' ∧ loopM g fl f ds e = some (.nx, e')
  | [], e, _, h => ⟨e, h, rfl⟩
  | d :: ds, e, hs, h => by
    obtain ⟨e1, e2, h1, h2, h3⟩ := hs d List.mem_cons_self e h
    obtain ⟨e', h4, h5⟩ := loop_inv (I := I) (fun d hd => hs d (List.mem_cons_of_mem _ hd)) h3
    refine ⟨e', h4, ?_⟩
    rw [e_lp, h1, k_lp, h2, k_lpn, h5]
/-- a comprehension whose items keep a promise -/
theorem comp_inv {I : En → Prop} {P : D → Prop} : ∀ {ds : List D} {e : En} {acc : List D}, (∀ d ∈ ds, ∀ e, I e → ∃ e1 e2 e3 z, g d fl e = some e1 ∧ t e1 = some (true, e2) ∧ x e2 = some (z, true, e3) ∧ P z ∧ I (hideAll own e3)) → I e → acc.length + ds.length ≤ sizeMax →
    ∃ ys e', ys.length = ds.length ∧ (∀ z ∈ ys, P z) ∧ I e' ∧ compLoop own g fl t x ds e acc = some (acc ++ ys, e')
  | [], e, acc, _, h, _ => ⟨[], e, rfl, fun _ z => (List.not_mem_nil z).elim, h, by rw [List.append_nil]; rfl⟩
  | d :: ds, e, acc, hs, h, hz => by
    obtain ⟨e1, e2, e3, z, h1, h2, h3, h4, h5⟩ := hs d List.mem_cons_self e h
    rw [List.length_cons] at hz
    obtain ⟨ys, e', h6, h7, h8, h9⟩ := comp_inv (I := I) (P := P) (acc := acc ++ [z]) (fun d hd => hs d (List.mem_cons_of_mem _ hd)) h5 (by rw [List.length_append, List.length_singleton]; omega)
    refine ⟨z :: ys, e', by rw [List.length_cons, List.length_cons, h6], fun w hw => (List.mem_cons.mp hw).elim (fun q => q ▸ h4) (h7 w), h8, ?_⟩
    rw [e_cl, h1, k_cl, h2, k_cl2T, h3, k_cl3, if_pos (by omega), h9, List.append_assoc]
    rfl
end
/-! texts -/
theorem ofs_inj (a b : String) : (Str.ofString a = Str.ofString b) = (a = b) := by
  refine propext ⟨fun h => ?_, fun h => congrArg _ h⟩
  rw [Str.ofString_eq_toList, Str.ofString_eq_toList] at h
  have h1 : a.toList.map Char.toNat = b.toList.map Char.toNat := by
    injection h with h
    injection h
  have h2 : ∀ l m : List Char, l.map Char.toNat = m.map Char.toNat → l = m := by
    intro l
    induction l with
    | nil => intro m h; cases m with | nil => rfl | cons c m => cases h
    | cons c l ih =>
      intro m h
      cases m with
      | nil => cases h
      | cons c' m =>
        injection h with h3 h4
        rw [ih m h4, Char.toNat_inj.mp h3]
  exact String.toList_injective (h2 _ _ h1)
theorem ofs_ok (a : String) : PyData.strOk (Str.ofString a) = true := by
  rw [Str.ofString_eq_toList]
  simp only [PyData.strOk, List.all_toArray, List.all_map, List.all_eq_true, Function.comp_apply, decide_eq_true_eq]
  intro c _
  have := c.valid
  unfold Char.toNat
  rcases this with h | ⟨_, h⟩
  · exact Nat.lt_trans h (by decide)
  · exact h
theorem fEq_str (neg : Bool) (a b : String) : fEq neg (.str (Str.ofString a)) (.str (Str.ofString b)) = some (.bl (neg != decide (a = b))) := by
  unfold fEq
  simp [D.py, SeqAt.shaped, PyData.eqv, PyData.canLay0, PyData.depth, ofs_ok]
  by_cases h : a = b
  · simp [h]
  · have : ¬ Str.ofString a = Str.ofString b := by rw [ofs_inj]; exact h
    simp [h, this]
/-! dicts -/
def kS4 (l : List (L2.Key × D)) (k : Option L2.Key) (r : ER) : Option (D × En) := match k with
  | some k => match r with
    | some (y, _, e4) => if y.imm && D.imms (l.map (·.2)) && decide (l.length < sizeMax) then some (.dic (putD l k y), e4) else none
    | none => none
  | none => none
def kS3 (tv : EM) (l : List (L2.Key × D)) (r : ER) : Option (D × En) := match r with
  | some (kd, _, e3) => kS4 l kd.key (tv e3)
  | none => none
def kS2 (tk tv : EM) (l : List (L2.Key × D)) (r : TR) : Option (D × En) := match r with
  | some (false, e2) => some (.dic l, e2)
  | some (true, e2) => kS3 tv l (tk e2)
  | none => none
def kS1 (tt : TM) (tk tv : EM) (l : List (L2.Key × D)) (r : Option En) : Option (D × En) := match r with
  | some e1 => kS2 tk tv l (tt e1)
  | none => none
def kLg (own : Own) (fl : Bool) (stp : Stp) (ds : List D) (r : Option (D × En)) : Option (D × En) := match r with
  | some (acc', e') => loopG own fl stp ds (hideAll own e') acc'
  | none => none
def kGE (own : Own) (e1 : En) (r : Option (D × En)) : ER := match r with
  | some (acc, e2) => some (acc, true, unhide own e1 e2)
  | none => none
def kCg (own : Own) (stp : Stp) (acc0 : D) (r : Option (List D × Bool × En)) : ER := match r with
  | none => none
  | some (ds, fl, e1) => if saveOk e1 own then kGE own e1 (loopG own fl stp ds (hideAll own e1) acc0) else none
def kT3 (e3 : Option (List D × En)) : Option (D × En) := match e3 with | some (l', e4) => some (.lst l', e4) | none => none
def kT2 (vs1 : List Nat) (g1 : GM) (tt1 : TM) (te : EM) (l : List D) (r : Option (List D × Bool × En)) : Option (D × En) := match r with
        | some (ds1, fl1, e3) => kT3 (compLoop vs1 g1 fl1 tt1 te ds1 (hideAll vs1 e3) l)
        | none => none
def kT1 (vs1 : List Nat) (it1 : IM) (g1 : GM) (tt1 : TM) (te : EM) (l : List D) (r : TR) : Option (D × En) := match r with
      | some (false, e2) => some (.lst l, e2)
      | some (true, e2) => kT2 vs1 g1 tt1 te l (it1 e2)
      | none => none
def kT0 (vs1 : List Nat) (tt : TM) (it1 : IM) (g1 : GM) (tt1 : TM) (te : EM) (l : List D) (r : Option En) : Option (D × En) := match r with
    | some e1 => kT1 vs1 it1 g1 tt1 te l (tt e1)
    | none => none
section
variable (f : SM) (x y : EM) (it it1 : IM) (g g1 : GM) (t t1 : TM) (e e1 : En) (own vs1 : Own) (n : Nat) (d d2 : D) (b b2 fl : Bool) (ds acc : List D) (l m : List D) (kl km : List (L2.Key × D)) (stp : Stp) (k k2 : L2.Key)
theorem e_dc : mDComp own it g t x y e = kCg own (stpD g t x y) (.dic []) (it e) := by
  unfold mDComp mCompG kCg kGE
  rcases it e with _ | ⟨ds, fl, e1⟩ <;> rfl
theorem e_c2 : mComp2 own vs1 it g t it1 g1 t1 x e = kCg own (stp2 vs1 g t it1 g1 t1 x) (.lst []) (it e) := by
  unfold mComp2 mCompG kCg kGE
  rcases it e with _ | ⟨ds, fl, e1⟩ <;> rfl
theorem k_cg : kCg own stp d (some (ds, fl, e)) = if saveOk e own then kGE own e (loopG own fl stp ds (hideAll own e) d) else none := rfl
theorem k_ge : kGE own e1 (some (d, e)) = some (d, true, unhide own e1 e) := rfl
theorem e_lg0 : loopG own fl stp [] e d = some (d, e) := rfl
theorem e_lg : loopG own fl stp (d2 :: ds) e d = kLg own fl stp ds (stp d2 fl e d) := rfl
theorem k_lg : kLg own fl stp ds (some (d, e)) = loopG own fl stp ds (hideAll own e) d := rfl
theorem e_stpD : stpD g t x y d fl e (.dic kl) = kS1 t x y kl (g d fl e) := by
  unfold stpD kS1 kS2 kS3 kS4
  dsimp only
  rcases g d fl e with _ | e1
  · rfl
  · dsimp only
    rcases t e1 with _ | ⟨_ | _, e2⟩
    · rfl
    · rfl
    · dsimp only
      rcases x e2 with _ | ⟨kd, b, e3⟩
      · rfl
      · dsimp only
        rcases kd.key with _ | k <;> rfl
theorem k_s1 : kS1 t x y kl (some e) = kS2 x y kl (t e) := rfl
theorem k_s2 : kS2 x y kl (some (true, e)) = kS3 y kl (x e) := rfl
theorem k_s2F : kS2 x y kl (some (false, e)) = some (.dic kl, e) := rfl
theorem k_s3 : kS3 y kl (some (d, b, e)) = kS4 kl d.key (y e) := rfl
theorem k_s4 : kS4 kl (some k) (some (d, b, e)) = if d.imm && D.imms (kl.map (·.2)) && decide (kl.length < sizeMax) then some (.dic (putD kl k d), e) else none := rfl
theorem e_stp2 : stp2 vs1 g t it1 g1 t1 x d fl e (.lst l) = kT0 vs1 t it1 g1 t1 x l (g d fl e) := by
  unfold stp2 kT0 kT1 kT2 kT3
  dsimp only
  rcases g d fl e with _ | e1
  · rfl
  · dsimp only
    rcases t e1 with _ | ⟨_ | _, e2⟩ <;> rfl
theorem k_t0 : kT0 vs1 t it1 g1 t1 x l (some e) = kT1 vs1 it1 g1 t1 x l (t e) := rfl
theorem k_t1 : kT1 vs1 it1 g1 t1 x l (some (true, e)) = kT2 vs1 g1 t1 x l (it1 e) := rfl
theorem k_t2 : kT2 vs1 g1 t1 x l (some (ds, fl, e)) = kT3 (compLoop vs1 g1 fl t1 x ds (hideAll vs1 e) l) := rfl
theorem k_t3 : kT3 (some (l, e)) = some (.lst l, e) := rfl
theorem key_str (z : Str) : D.key (.str z) = some (.inr z) := rfl
theorem key_int (i : Int) : D.key (.int i) = some (.inl i) := rfl
theorem getK_nil : getK [] k = none := rfl
theorem getK_cons (z : D) : getK ((k2, z) :: kl) k = if k2 = k then some z else getK kl k := by
  unfold getK
  rw [List.find?_cons]
  by_cases h : k2 = k
  · simp [h]
  · simp [h]
theorem putD_nil : putD [] k d = [(k, d)] := rfl
theorem putD_cons (z : D) : putD ((k2, z) :: kl) k d = if k2 = k then (k2, d) :: kl.map (fun kv => if kv.1 = k then (kv.1, d) else kv) else (k2, z) :: putD kl k d := by
  unfold putD
  by_cases h : k2 = k
  · simp [h]
  · simp only [List.any_cons, List.map_cons, h, decide_false, Bool.false_or, if_false, List.cons_append]
    split <;> rfl
theorem e_upd (ba bb : Bool) : gUpd [(.dic kl, ba), (.dic km, bb)] = if ba && bb && D.imms (kl.map (·.2)) && D.imms (km.map (·.2)) && decide (kl.length + km.length ≤ sizeMax) then some (.non, true, [some (.dic (mergeD kl km), true), some (.dic km, true)]) else none := rfl
theorem merge_nil : mergeD kl [] = kl := rfl
theorem merge_cons (z : D) : mergeD kl ((k, z) :: km) = mergeD (putD kl k z) km := rfl
theorem e_inD (neg : Bool) (z : Str) : fIn neg (.str z) (.dic kl) = some (.bl (neg != (getK kl (.inr z)).isSome)) := rfl
theorem e_setD (v : D) (bv bo bi : Bool) (z : Str) : gSetL [(v, bv), (.dic kl, bo), (.str z, bi)] = if bo && v.imm && D.imms (kl.map (·.2)) && decide (kl.length < sizeMax) then some (.non, true, [none, some (.dic (putD kl (.inr z) v), true), some (.str z, bi)]) else none := rfl
theorem e_intup (neg : Bool) (a : String) : fIn neg (.str (Str.ofString a)) (.tup l) = if l.all D.flat then some (.bl (neg != inD (.str (Str.ofString a)) l)) else none := by
  show (if (true && l.all D.flat) then _ else _) = _
  rw [Bool.true_and]
theorem inD_nil : inD d [] = false := rfl
theorem inD_str (a c : String) : inD (.str (Str.ofString a)) (.str (Str.ofString c) :: l) = (decide (c = a) || inD (.str (Str.ofString a)) l) := by
  show (L2.eqV (D.v (.str (Str.ofString c))) (D.v (.str (Str.ofString a))) || l.any _) = _
  congr 1
  simp [D.v, L2.eqV]
  by_cases h : c = a
  · simp [h]
  · have : ¬ Str.ofString c = Str.ofString a := by rw [ofs_inj]; exact h
    simp [h, this]
end
theorem e_shr (a b : Int) : fShr (.int a) (.int b) = if 0 ≤ b then some (.int (a / 2 ^ b.toNat)) else none := rfl
theorem e_lzT (l m : List D) (b b2 : Bool) : gLZ [(.tup l, b), (.tup m, b2)] = if D.imms l = true ∧ D.imms m = true then some (.lst (List.zipWith pairD l m), true, [some (.tup l, b), some (.tup m, b2)]) else none := by
  show (if false = false ∧ D.imms l = true ∧ D.imms m = true then _ else _) = _
  simp
theorem e_addS (a b : Str) (ba bb : Bool) : gAdd [(.str a, ba), (.str b, bb)] = if a.length + b.length ≤ sizeMax then some (.str (a ++ b), true, [some (.str a, ba), some (.str b, bb)]) else none := rfl
theorem e_allL (l : List D) (b : Bool) : gAll [(.lst l, b)] = kR1 (.lst l) b ((allOf l).map fun bs => .bl (bs.all id)) := rfl
theorem allOf_nil : allOf [] = some [] := rfl
theorem allOf_cons (b : Bool) (l : List D) : allOf (.bl b :: l) = (allOf l).map fun bs => b :: bs := by
  show (match D.bl b, allOf l with | .bl b, some bs => some (b :: bs) | _, _ => none) = _
  cases allOf l <;> rfl
/-! displays, x[k].pop(0), get -/
def kVc (w : DB) (r : Option (List DB × En)) : Option (List DB × En) := match r with | some (l, e2) => some (w :: l, e2) | none => none
def kVals (fs : List EM) (r : ER) : Option (List DB × En) := match r with | some (d, b, e1) => kVc (d, b) (mVals fs e1) | none => none
def kDisp (ks : List L2.Key) (r : Option (List DB × En)) : ER := match r with
  | some (ws, e') => if ks.Nodup ∧ ks.length = ws.length ∧ ks.length ≤ 15 then some (.dic (ks.zip (ws.map (·.1))), flags ws, e') else none
  | none => none
def kDp3 (i : Nat) (e1 : En) (l : List (L2.Key × D)) (key : L2.Key) (c : Bool) (r : Option D) : ER := match r with
  | some (.lst (y :: ys)) => if y.imm then some (y, true, e1.set i (some ⟨.dic (repD l key (.lst ys)), true, c⟩)) else none
  | _ => none
def kDp2 (i : Nat) (e1 : En) (k : Option L2.Key) (s : Option (Option Sl)) : ER := match k with
  | some key => match s with
    | some (some ⟨.dic l, true, c⟩) => kDp3 i e1 l key c (getK l key)
    | _ => none
  | none => none
def kDp1 (i : Nat) (r : ER) : ER := match r with | some (kd, _, e1) => kDp2 i e1 kd.key e1[i]? | none => none
def kDp0 (i : Nat) (x : EM) (e : En) (s : Option (Option Sl)) : ER := match s with | some (some _) => kDp1 i (x e) | _ => none
def kGt (l : List (L2.Key × D)) (bd : Bool) (k : D) (bk : Bool) (x : D) (bx : Bool) (r : Option D) : Option (D × Bool × List (Option DB)) := match r with
      | some d => if d.imm then some (d, true, [some (.dic l, bd), some (k, bk), none]) else some (d, false, [some (.dic l, false), some (k, bk), none])
      | none => some (x, bx, [some (.dic l, bd), some (k, bk), none])
section
variable (x : EM) (fs : List EM) (e e1 : En) (i : Nat) (d : D) (b c : Bool) (ws : List DB) (ks : List L2.Key) (l : List (L2.Key × D)) (key : L2.Key) (r : List D)
theorem e_dnew : mDNew e = some (.dic [], true, e) := rfl
theorem e_vals0 : mVals [] e = some ([], e) := rfl
theorem e_vals : mVals (x :: fs) e = kVals fs (x e) := by
  show (match x e with | some (d, b, e1) => (match mVals fs e1 with | some (r, e2) => some ((d, b) :: r, e2) | none => none) | none => none) = _
  unfold kVals kVc
  rcases x e with _ | ⟨d, b, e1⟩ <;> rfl
theorem k_vals : kVals fs (some (d, b, e)) = kVc (d, b) (mVals fs e) := rfl
theorem k_vc (w : DB) : kVc w (some (ws, e)) = some (w :: ws, e) := rfl
theorem e_disp : mDisp ks fs e = kDisp ks (mVals fs e) := rfl
theorem k_disp : kDisp ks (some (ws, e)) = if ks.Nodup ∧ ks.length = ws.length ∧ ks.length ≤ 15 then some (.dic (ks.zip (ws.map (·.1))), flags ws, e) else none := rfl
theorem e_dpop : mDPop i x e = kDp0 i x e e[i]? := by
  unfold mDPop kDp0 kDp1 kDp2
  rcases e[i]? with _ | (_ | s)
  · rfl
  · rfl
  · dsimp only
    rcases x e with _ | ⟨kd, b, e1⟩
    · rfl
    · dsimp only
      rcases kd.key with _ | key
      · rfl
      · dsimp only
        rcases e1[i]? with _ | (_ | ⟨dd, bb, cc⟩)
        · rfl
        · rfl
        · cases dd <;> try rfl
          cases bb
          · rfl
          · dsimp only
            unfold kDp3
            rfl
theorem k_dp0 (s : Sl) : kDp0 i x e (some (some s)) = kDp1 i (x e) := rfl
theorem k_dp1 : kDp1 i (some (d, b, e)) = kDp2 i e d.key e[i]? := rfl
theorem k_dp2 : kDp2 i e (some key) (some (some ⟨.dic l, true, c⟩)) = kDp3 i e l key c (getK l key) := rfl
theorem k_dp3 : kDp3 i e l key c (some (.lst (d :: r))) = if d.imm then some (d, true, e.set i (some ⟨.dic (repD l key (.lst r)), true, c⟩)) else none := rfl
theorem repD_cons (k0 : L2.Key) (d0 : D) : repD ((k0, d0) :: l) key d = if k0 = key then (k0, d) :: l else (k0, d0) :: repD l key d := rfl
theorem e_get (z : Str) (bd bk bx : Bool) (y : D) : gGet [(.dic l, bd), (.str z, bk), (y, bx)] = kGt l bd (.str z) bk y bx (getK l (.inr z)) := rfl
theorem k_gtS (z y : D) (bd bk bx : Bool) : kGt l bd z bk y bx (some d) = if d.imm then some (d, true, [some (.dic l, bd), some (z, bk), none]) else some (d, false, [some (.dic l, false), some (z, bk), none]) := rfl
theorem k_gtN (z y : D) (bd bk bx : Bool) : kGt l bd z bk y bx none = some (y, bx, [some (.dic l, bd), some (z, bk), none]) := rfl
end
theorem e_ne0 (l : List D) (b : Bool) : gSetNe0 [(.tup l, b)] = kR1 (.tup l) b (if l.length < 4000 then (intsOf l).map fun is => .bl (!(!is.isEmpty && is.all fun i => decide (i = 0))) else none) := rfl
theorem intsOf_nil : intsOf [] = some [] := rfl
theorem intsOf_cons (i : Int) (l : List D) : intsOf (.int i :: l) = (intsOf l).map fun is => i :: is := by
  show (match D.int i, intsOf l with | .int i, some is => some (i :: is) | _, _ => none) = _
  cases intsOf l <;> rfl
end LF
/-! printed by gen.py: each def of the law's text as a function, and that the code keeps it -/
namespace LF
open PySem PySem.Spec L2
open PyProof.Rows hiding St
def topS (i : Nat) : Stmt := PySem.Challenge.pw_askedfew_k79_rows_the_same_but_for_order.main.body.getD i (.Pass ⟨0, 0, 0, 0⟩)
def tab_PARTS : List (Str × D) := [("told", .tup [.str "count"]), ("sealed", .tup [.str "count"]), ("ask", .tup []), ("numbers", .tup [.str "counts"]), ("add", .tup [.str "part", .str "part"]), ("sub", .tup [.str "part", .str "part"]), ("mul", .tup [.str "part", .str "part"]), ("pick", .tup [.str "part", .str "part", .str "part"]), ("sum", .tup [.str "part", .str "count"]), ("spread", .tup [.str "part", .str "count"]), ("low", .tup [.str "part"]), ("high", .tup [.str "part"]), ("join", .tup [.str "part", .str "part"]), ("turn", .tup [.str "part", .str "counts"]), ("product", .tup [.str "part", .str "part", .str "count"])]
/-- what the module's names hold -/
structure Gb (K : PySem.W.Frag) (w : World) (mg : Str → Option Value) : Prop where
  b_abs : mg "abs" = none
  b_all : mg "all" = none
  b_bool : mg "bool" = none
  b_enumerate : mg "enumerate" = none
  b_int : mg "int" = none
  b_isinstance : mg "isinstance" = none
  b_len : mg "len" = none
  b_list : mg "list" = none
  b_range : mg "range" = none
  b_set : mg "set" = none
  b_sorted : mg "sorted" = none
  b_str : mg "str" = none
  b_sum : mg "sum" = none
  b_tuple : mg "tuple" = none
  b_zip : mg "zip" = none
  c_COUNT : GV K mg "COUNT" (.str "count")
  c_LEAST_FIELD : GV K mg "LEAST_FIELD" (.int 5)
  c_LETTERS : GV K mg "LETTERS" (.str "abcdefghijklmnopqrstuvwxyz")
  c_LEVELS : GV K mg "LEVELS" (.tup [.str "a", .str "b", .str "c", .str "d", .str "e"])
  c_LIKE : GV K mg "LIKE" (.tup [.str "add", .str "sub", .str "mul", .str "pick", .str "join"])
  c_MEMBERS : GV K mg "MEMBERS" (.int 4)
  c_MOST_BITS : GV K mg "MOST_BITS" (.int 8)
  c_MOST_FIELD_forms : GV K mg "MOST_FIELD_forms" (.int 1000003)
  c_MOST_FIELD_orders : GV K mg "MOST_FIELD_orders" (.int 3000)
  c_MOST_NAME : GV K mg "MOST_NAME" (.int 8)
  c_MOST_PARTS : GV K mg "MOST_PARTS" (.int 24)
  c_PART : GV K mg "PART" (.str "part")
  c_RESERVED : GV K mg "RESERVED" (.tup [.str "add", .str "ask", .str "field", .str "high", .str "join", .str "low", .str "mul", .str "numbers", .str "output", .str "pick", .str "product", .str "sealed", .str "spread", .str "sub", .str "sum", .str "told", .str "turn", .str "zero"])
  k_PARTS : ∃ a, mg "PARTS" = some (.ref a) ∧ KTab K w a tab_PARTS
section
variable {P : Program} {w : World} {K : PySem.W.Frag} {mg : Str → Option Value} {base : Heap}
/-! ### _law_bag -/
abbrev s__law_bag : Stmt := topS 63
theorem sc__law_bag : FnScope ["script", "cell"] ["script"] (defScope s__law_bag) := ⟨rfl, rfl, rfl, by decide +kernel, rfl, by decide +kernel, by decide +kernel⟩
def b__law_bag : SM :=
  mRet (mCall gLst [.val (mC (.int 0)), .val (mC (.int 1234567891)), .val (mC (.int 0)), .val (mComp [1] (mIterA (mSlice (.var 0) none (some (mC (.int 63))))) (mGName 1) (mYes) (mCall gAbs [.var 1]))])
def py__law_bag : PM := mkF 2 b__law_bag
theorem ok__law_bag (G : Gb K w mg)  {a : Addr} {fd : FuncData} (F : L2.Fun K "_law_bag" "_law_bag" s__law_bag a fd) (hm : mg "_law_bag" = some (.ref a)) : Def P w K mg base 1 "_law_bag" 1 py__law_bag :=
  def_mk F hm sc__law_bag (F.binds (ps := ["script"]) fun _ _ _ _ _ _ us hl => match us, hl with | [_], _ => rfl) rfl fun cdv hcd A outer s H E hr =>
    (show BX _ _ b__law_bag from bx_one (sx_ret (ex_lst (as_cons (ax_val (ex_int)) (as_cons (ax_val (ex_int)) (as_cons (ax_val (ex_int)) (as_cons (ax_val (ex_lc rfl sc__law_bag.nd (ix_any (ex_slice (ax_var (pv 0)) px_none (px_some (ex_int)))) (blkOk_by (own := [("cell", 1)]) (by kernel_rfl)) (by decide) (fun _ _ _ _ _ => gx_name sc__law_bag.nd rfl (.inl rfl)) (fun _ _ _ _ _ => tsx_nil) (fun _ _ _ _ _ => ex_callB (fx_abs) (by rfl) G.b_abs bt_abs (as_cons (ax_var (pv 1)) as_nil)))) as_nil)))))))
/-! ### _law_take -/
abbrev s__law_take : Stmt := topS 64
theorem sc__law_take : FnScope ["bag", "many", "cell", "stirred", "value", "begin", "second"] ["bag", "many"] (defScope s__law_take) := ⟨rfl, rfl, rfl, by decide +kernel, rfl, by decide +kernel, by decide +kernel⟩
def b__law_take : SM :=
  mSeq (mIfS (tOf (mCall (gR2 (fEq false)) [.val (mCall gIx [.var 0, .val (mC (.int 0))]), .val (mC (.int 0))])) (mSeq (mSet 2 (mCall gIx [.val (mCall (gAdd) [.val (mBagSl 0 3 2), .val (mCall gLst [.val (mC (.int 0))])]), .val (mC (.int 0))]))
  (mSeq (mAugL 0 (mC (.int 2)) (fun i j => i + j) (mC (.int 1)))
  (mSeq (mIfS (tOf (mCall (gR2 (fCmp fun i j => decide (j ≤ i))) [.var 2, .val (mCall (gR2 fPow) [.val (mC (.int 10)), .val (mC (.int 18))])])) (mSetItem gSetL (.var 2) (.var 0) (.val (mC (.int 0)))) (mPass))
  (mSeq (mSet 3 (mCall (gAdd) [.val (mCall (gAdd) [.val (mCall (gMul) [.val (mCall gIx [.var 0, .val (mC (.int 1))]), .val (mC (.int 48271))]), .val (mCall (gR2 fMod) [.val (mCall gInt [.var 2]), .val (mC (.int 2147483647))])]), .val (mCall (gMul) [.val (mC (.int 7919)), .val (mCall gIx [.var 0, .val (mC (.int 2))])])]))
  (mSetItem gSetL (.val (mCall (gR2 fMod) [.val (mCall gInt [.var 3]), .val (mC (.int 2147483647))])) (.var 0) (.val (mC (.int 1)))))))) (mPass))
  (mSeq (mIfS (tOf (mCall (gR2 (fCmp fun i j => decide (j < i))) [.val (mCall gIx [.var 0, .val (mC (.int 0))]), .val (mC (.int 0))])) (mSeq (mSet 4 (mCall (gR2 fMod) [.val (mCall gInt [.val (mCall gIx [.var 0, .val (mC (.int 0))])]), .var 1]))
  (mSeq (mSetItem gSetL (.val (mCall (gR2 fDiv) [.val (mCall gInt [.val (mCall gIx [.var 0, .val (mC (.int 0))])]), .var 1])) (.var 0) (.val (mC (.int 0))))
  (mRetV 4))) (mPass))
  (mSeq (mSet 5 (mCall (gR2 fMod) [.val (mCall gInt [.val (mCall (gMul) [.val (mCall (gAdd) [.val (mCall gIx [.var 0, .val (mC (.int 1))]), .val (mC (.int 1))]), .val (mC (.int 39373))])]), .val (mC (.int 1000000007))]))
  (mSeq (mSet 6 (mCall (gR2 fMod) [.val (mCall gInt [.val (mCall (gMul) [.val (mCall (gR2 fMod) [.val (mCall gInt [.val (mCall (gMul) [.var 5, .var 5])]), .val (mC (.int 998244353))]), .val (mC (.int 30011))])]), .val (mC (.int 998244353))]))
  (mRet (mCall (gR2 fMod) [.val (mCall gInt [.val (mCall (gR2 fDiv) [.var 6, .val (mC (.int 7))])]), .var 1])))))
def py__law_take : PM := mkF 7 b__law_take
theorem ok__law_take (G : Gb K w mg)  {a : Addr} {fd : FuncData} (F : L2.Fun K "_law_take" "_law_take" s__law_take a fd) (hm : mg "_law_take" = some (.ref a)) : Def P w K mg base 1 "_law_take" 2 py__law_take :=
  def_mk F hm sc__law_take (F.binds (ps := ["bag", "many"]) fun _ _ _ _ _ _ us hl => match us, hl with | [_, _], _ => rfl) rfl fun cdv hcd A outer s H E hr =>
    (show BX _ _ b__law_take from bx_cons (sx_if (tx_cmp (ox_eq (hu64 hr)) (ax_val (ex_ix (iox (hu64 hr)) (ax_var (pv 0)) (ax_val (ex_int)) (fun _ _ => rfl))) (ax_val (ex_int)) (by rfl)) (bx_cons (sx_set (i := 2) sc__law_take.nd rfl (.inl rfl) (ex_ix (iox (hu64 hr)) (ax_val (ex_bin (ox_add) (ax_val (ex_bagSl (pv 0) pe_int (fun _ _ => rfl) (pv 0) pe_int (fun _ _ => rfl))) (ax_val (ex_lst (as_cons (ax_val (ex_int)) as_nil))))) (ax_val (ex_int)) (fun _ _ => rfl)))
    (bx_cons (sx_augL (pv 0) (ex_int) (ex_int) ip_add)
    (bx_cons (sx_if (tx_cmp (ox_ge) (ax_var (pv 2)) (ax_val (ex_bin (ox_pow) (ax_val (ex_int)) (ax_val (ex_int)))) (by rfl)) (bx_one (sx_setItem (ax_var (pv 2)) (ax_var (pv 0)) (ax_val (ex_int)) (setxL (hu64 hr)))) (bx_nil))
    (bx_cons (sx_set (i := 3) sc__law_take.nd rfl (.inl rfl) (ex_bin (ox_add) (ax_val (ex_bin (ox_add) (ax_val (ex_bin (ox_mul) (ax_val (ex_ix (iox (hu64 hr)) (ax_var (pv 0)) (ax_val (ex_int)) (fun _ _ => rfl))) (ax_val (ex_int)))) (ax_val (ex_bin (ox_mod) (ax_val (ex_callTy fx_int (by rfl) G.b_int bt_int (as_cons (ax_var (pv 2)) as_nil))) (ax_val (ex_int)))))) (ax_val (ex_bin (ox_mul) (ax_val (ex_int)) (ax_val (ex_ix (iox (hu64 hr)) (ax_var (pv 0)) (ax_val (ex_int)) (fun _ _ => rfl)))))))
    (bx_one (sx_setItem (ax_val (ex_bin (ox_mod) (ax_val (ex_callTy fx_int (by rfl) G.b_int bt_int (as_cons (ax_var (pv 3)) as_nil))) (ax_val (ex_int)))) (ax_var (pv 0)) (ax_val (ex_int)) (setxL (hu64 hr)))))))) (bx_nil))
    (bx_cons (sx_if (tx_cmp (ox_gt) (ax_val (ex_ix (iox (hu64 hr)) (ax_var (pv 0)) (ax_val (ex_int)) (fun _ _ => rfl))) (ax_val (ex_int)) (by rfl)) (bx_cons (sx_set (i := 4) sc__law_take.nd rfl (.inl rfl) (ex_bin (ox_mod) (ax_val (ex_callTy fx_int (by rfl) G.b_int bt_int (as_cons (ax_val (ex_ix (iox (hu64 hr)) (ax_var (pv 0)) (ax_val (ex_int)) (fun _ _ => rfl))) as_nil))) (ax_var (pv 1))))
    (bx_cons (sx_setItem (ax_val (ex_bin (ox_div) (ax_val (ex_callTy fx_int (by rfl) G.b_int bt_int (as_cons (ax_val (ex_ix (iox (hu64 hr)) (ax_var (pv 0)) (ax_val (ex_int)) (fun _ _ => rfl))) as_nil))) (ax_var (pv 1)))) (ax_var (pv 0)) (ax_val (ex_int)) (setxL (hu64 hr)))
    (bx_one (sx_retV (pv 4))))) (bx_nil))
    (bx_cons (sx_set (i := 5) sc__law_take.nd rfl (.inl rfl) (ex_bin (ox_mod) (ax_val (ex_callTy fx_int (by rfl) G.b_int bt_int (as_cons (ax_val (ex_bin (ox_mul) (ax_val (ex_bin (ox_add) (ax_val (ex_ix (iox (hu64 hr)) (ax_var (pv 0)) (ax_val (ex_int)) (fun _ _ => rfl))) (ax_val (ex_int)))) (ax_val (ex_int)))) as_nil))) (ax_val (ex_int))))
    (bx_cons (sx_set (i := 6) sc__law_take.nd rfl (.inl rfl) (ex_bin (ox_mod) (ax_val (ex_callTy fx_int (by rfl) G.b_int bt_int (as_cons (ax_val (ex_bin (ox_mul) (ax_val (ex_bin (ox_mod) (ax_val (ex_callTy fx_int (by rfl) G.b_int bt_int (as_cons (ax_val (ex_bin (ox_mul) (ax_var (pv 5)) (ax_var (pv 5)))) as_nil))) (ax_val (ex_int)))) (ax_val (ex_int)))) as_nil))) (ax_val (ex_int))))
    (bx_one (sx_ret (ex_bin (ox_mod) (ax_val (ex_callTy fx_int (by rfl) G.b_int bt_int (as_cons (ax_val (ex_bin (ox_div) (ax_var (pv 6)) (ax_val (ex_int)))) as_nil))) (ax_var (pv 1)))))))))
/-! ### _law_some -/
abbrev s__law_some : Stmt := topS 65
theorem sc__law_some : FnScope ["bag", "things"] ["bag", "things"] (defScope s__law_some) := ⟨rfl, rfl, rfl, by decide +kernel, rfl, by decide +kernel, by decide +kernel⟩
def b__law_some : SM :=
  mRet (mCall gIx [.var 1, .val (mCall py__law_take [.var 0, .val (mCall gLen [.var 1])])])
def py__law_some : PM := mkF 2 b__law_some
theorem ok__law_some (G : Gb K w mg) (D__law_take : Def P w K mg base 1 "_law_take" 2 py__law_take) {a : Addr} {fd : FuncData} (F : L2.Fun K "_law_some" "_law_some" s__law_some a fd) (hm : mg "_law_some" = some (.ref a)) : Def P w K mg base 2 "_law_some" 2 py__law_some :=
  def_mk F hm sc__law_some (F.binds (ps := ["bag", "things"]) fun _ _ _ _ _ _ us hl => match us, hl with | [_, _], _ => rfl) rfl fun cdv hcd A outer s H E hr =>
    (show BX _ _ b__law_some from bx_one (sx_ret (ex_ix (iox (hu64 hr)) (ax_var (pv 1)) (ax_val (ex_call D__law_take hr (by omega) (by rfl) (as_cons (ax_var (pv 0)) (as_cons (ax_val (ex_callB (fx_len) (by rfl) G.b_len bt_len (as_cons (ax_var (pv 1)) as_nil))) as_nil)) rfl)) (fun _ _ => rfl))))
/-! ### _law_reordered -/
abbrev s__law_reordered : Stmt := topS 74
theorem sc__law_reordered : FnScope ["p", "bits", "head", "parts", "here", "at", "sign"] ["p", "bits", "head"] (defScope s__law_reordered) := ⟨rfl, rfl, rfl, by decide +kernel, rfl, by decide +kernel, by decide +kernel⟩
def b__law_reordered : SM :=
  mSeq (mSet 3 (mCall (gAdd) [.val (mCall gList [.var 2]), .val (mCall gLst [.val (mCall gTup [.val (mC (.str "t")), .val (mCall gTup [.val (mC (.str "turn")), .val (mC (.str "j")), .val (mCall (gAdd) [.val (mCall gTup [.var 1]), .val (mRgT (mVar 1))])])]), .val (mCall gTup [.val (mC (.str "h")), .val (mCall gTup [.val (mC (.str "spread")), .val (mC (.str "g")), .val (mCall (gAdd) [.var 1, .val (mC (.int 1))])])]), .val (mCall gTup [.val (mC (.str "u")), .val (mCall gTup [.val (mC (.str "sub")), .val (mC (.str "h")), .val (mC (.str "t"))])])])]))
  (mSeq (mSet 4 (mC (.str "u")))
  (mSeq (mFor (mRange1 (mVar 1)) (mGName 5) (mSeq (mSet 6 (mCall gIx [.val (mC (.str "abcd")), .var 5]))
  (mSeq (mSet 3 (mCall (gAdd) [.var 3, .val (mCall gLst [.val (mCall gTup [.val (mCall (gAdd) [.val (mC (.str "l")), .var 6]), .val (mCall gTup [.val (mC (.str "low")), .var 4])]), .val (mCall gTup [.val (mCall (gAdd) [.val (mC (.str "h")), .var 6]), .val (mCall gTup [.val (mC (.str "high")), .var 4])]), .val (mCall gTup [.val (mCall (gAdd) [.val (mC (.str "m")), .var 6]), .val (mCall gTup [.val (mC (.str "mul")), .val (mCall (gAdd) [.val (mC (.str "l")), .var 6]), .val (mCall (gAdd) [.val (mC (.str "h")), .var 6])])])])]))
  (mSet 4 (mCall (gAdd) [.val (mC (.str "m")), .var 6])))))
  (mSeq (mSet 3 (mCall (gAdd) [.var 3, .val (mCall gLst [.val (mCall gTup [.val (mC (.str "va")), .val (mCall gTup [.val (mC (.str "low")), .var 4])]), .val (mCall gTup [.val (mC (.str "vb")), .val (mCall gTup [.val (mC (.str "high")), .var 4])]), .val (mCall gTup [.val (mC (.str "d")), .val (mCall gTup [.val (mC (.str "sub")), .val (mC (.str "va")), .val (mC (.str "vb"))])])])]))
  (mRet (mCall gTup [.var 0, .val (mCall gTuple [.var 3]), .val (mCall gTup []), .val (mCall gTup [.val (mC (.str "d"))])])))))
def py__law_reordered : PM := mkF 7 b__law_reordered
theorem ok__law_reordered (G : Gb K w mg)  {a : Addr} {fd : FuncData} (F : L2.Fun K "_law_reordered" "_law_reordered" s__law_reordered a fd) (hm : mg "_law_reordered" = some (.ref a)) : Def P w K mg base 1 "_law_reordered" 3 py__law_reordered :=
  def_mk F hm sc__law_reordered (F.binds (ps := ["p", "bits", "head"]) fun _ _ _ _ _ _ us hl => match us, hl with | [_, _, _], _ => rfl) rfl fun cdv hcd A outer s H E hr =>
    (show BX _ _ b__law_reordered from bx_cons (sx_set (i := 3) sc__law_reordered.nd rfl (.inl rfl) (ex_bin (ox_add) (ax_val (ex_callTy fx_list (by rfl) G.b_list bt_list (as_cons (ax_var (pv 2)) as_nil))) (ax_val (ex_lst (as_cons (ax_val (ex_tup (as_cons (ax_val (ex_str)) (as_cons (ax_val (ex_tup (as_cons (ax_val (ex_str)) (as_cons (ax_val (ex_str)) (as_cons (ax_val (ex_bin (ox_add) (ax_val (ex_tup (as_cons (ax_var (pv 1)) as_nil))) (ax_val (ex_rgT rfl (by rfl) G.b_tuple (by rfl) G.b_range (ex_var (pv 1)))))) as_nil))))) as_nil)))) (as_cons (ax_val (ex_tup (as_cons (ax_val (ex_str)) (as_cons (ax_val (ex_tup (as_cons (ax_val (ex_str)) (as_cons (ax_val (ex_str)) (as_cons (ax_val (ex_bin (ox_add) (ax_var (pv 1)) (ax_val (ex_int)))) as_nil))))) as_nil)))) (as_cons (ax_val (ex_tup (as_cons (ax_val (ex_str)) (as_cons (ax_val (ex_tup (as_cons (ax_val (ex_str)) (as_cons (ax_val (ex_str)) (as_cons (ax_val (ex_str)) as_nil))))) as_nil)))) as_nil)))))))
    (bx_cons (sx_set (i := 4) sc__law_reordered.nd rfl (.inl rfl) (ex_str))
    (bx_cons (sx_for PassesOwn.never rfl (ix_range1 (by rfl) G.b_range (ex_var (pv 1))) (gx_name sc__law_reordered.nd rfl (.inl rfl)) (bx_cons (sx_set (i := 6) sc__law_reordered.nd rfl (.inl rfl) (ex_ix (iox (hu64 hr)) (ax_val (ex_str)) (ax_var (pv 5)) (fun _ _ => rfl)))
    (bx_cons (sx_set (i := 3) sc__law_reordered.nd rfl (.inl rfl) (ex_bin (ox_add) (ax_var (pv 3)) (ax_val (ex_lst (as_cons (ax_val (ex_tup (as_cons (ax_val (ex_bin (ox_add) (ax_val (ex_str)) (ax_var (pv 6)))) (as_cons (ax_val (ex_tup (as_cons (ax_val (ex_str)) (as_cons (ax_var (pv 4)) as_nil)))) as_nil)))) (as_cons (ax_val (ex_tup (as_cons (ax_val (ex_bin (ox_add) (ax_val (ex_str)) (ax_var (pv 6)))) (as_cons (ax_val (ex_tup (as_cons (ax_val (ex_str)) (as_cons (ax_var (pv 4)) as_nil)))) as_nil)))) (as_cons (ax_val (ex_tup (as_cons (ax_val (ex_bin (ox_add) (ax_val (ex_str)) (ax_var (pv 6)))) (as_cons (ax_val (ex_tup (as_cons (ax_val (ex_str)) (as_cons (ax_val (ex_bin (ox_add) (ax_val (ex_str)) (ax_var (pv 6)))) (as_cons (ax_val (ex_bin (ox_add) (ax_val (ex_str)) (ax_var (pv 6)))) as_nil))))) as_nil)))) as_nil)))))))
    (bx_one (sx_set (i := 4) sc__law_reordered.nd rfl (.inl rfl) (ex_bin (ox_add) (ax_val (ex_str)) (ax_var (pv 6))))))))
    (bx_cons (sx_set (i := 3) sc__law_reordered.nd rfl (.inl rfl) (ex_bin (ox_add) (ax_var (pv 3)) (ax_val (ex_lst (as_cons (ax_val (ex_tup (as_cons (ax_val (ex_str)) (as_cons (ax_val (ex_tup (as_cons (ax_val (ex_str)) (as_cons (ax_var (pv 4)) as_nil)))) as_nil)))) (as_cons (ax_val (ex_tup (as_cons (ax_val (ex_str)) (as_cons (ax_val (ex_tup (as_cons (ax_val (ex_str)) (as_cons (ax_var (pv 4)) as_nil)))) as_nil)))) (as_cons (ax_val (ex_tup (as_cons (ax_val (ex_str)) (as_cons (ax_val (ex_tup (as_cons (ax_val (ex_str)) (as_cons (ax_val (ex_str)) (as_cons (ax_val (ex_str)) as_nil))))) as_nil)))) as_nil)))))))
    (bx_one (sx_ret (ex_tup (as_cons (ax_var (pv 0)) (as_cons (ax_val (ex_callTy fx_tuple (by rfl) G.b_tuple bt_tuple (as_cons (ax_var (pv 3)) as_nil))) (as_cons (ax_val (ex_tup as_nil)) (as_cons (ax_val (ex_tup (as_cons (ax_val (ex_str)) as_nil))) as_nil)))))))))))
/-! ### _law_alike -/
abbrev s__law_alike : Stmt := topS 67
theorem sc__law_alike : FnScope ["found", "due", "pairs", "at", "one", "other"] ["found", "due"] (defScope s__law_alike) := ⟨rfl, rfl, rfl, by decide +kernel, rfl, by decide +kernel, by decide +kernel⟩
def b__law_alike : SM :=
  mFreeze 0 (mFreeze 1 (mSeq (mPar 2 3 (mCall gLst [.val (mCall gTup [.var 0, .var 1])]) (mC (.int 0)))
  (mSeq (whileM (tOf (mCall (gR2 fLt) [.var 3, .val (mCall gLen [.var 2])])) (mSeq (mAsg (mCall gIx [.var 2, .var 3]) (mGTup 2 (mGCons (mGName 4) (mGCons (mGName 5) (mGNil)))))
  (mSeq (mAug 3 (gR2 fAddI) (.val (mC (.int 1))))
  (mSeq (mIfS (tOrM (tOf (mCall (gR2 (fEq true)) [.val (mCall (gIsi [.bl]) [.var 4]), .val (mCall (gIsi [.bl]) [.var 5])])) (tOf (mCall (gR2 (fEq true)) [.val (mCall (gIsi [.str]) [.var 4]), .val (mCall (gIsi [.str]) [.var 5])]))) (mRet (mC (.bl false))) (mPass))
  (mSeq (mIfS (tOf (mCall (gR2 (fEq true)) [.val (mCall (gIsi [.tup, .lst]) [.var 4]), .val (mCall (gIsi [.tup, .lst]) [.var 5])])) (mRet (mC (.bl false))) (mPass))
  (mIfS (tOf (mCall (gIsi [.tup, .lst]) [.var 4])) (mSeq (mIfS (tOrM (tOf (mCall (gR2 (fEq true)) [.val (mCall (gIsi [.tup]) [.var 4]), .val (mCall (gIsi [.tup]) [.var 5])])) (tOf (mCall (gR2 (fEq true)) [.val (mCall gLen [.var 4]), .val (mCall gLen [.var 5])]))) (mRet (mC (.bl false))) (mPass))
  (mExpr (mMeth .lst gExtend (.var 2) [.val (mCall gLZ [.var 4, .var 5])]))) (mIfS (tOf (mCall (gR2 (fEq true)) [.var 4, .var 5])) (mRet (mC (.bl false))) (mPass))))))) 100000)
  (mRet (mC (.bl true))))))
def py__law_alike : PM := mkF 6 b__law_alike
theorem ok__law_alike (G : Gb K w mg)  {a : Addr} {fd : FuncData} (F : L2.Fun K "_law_alike" "_law_alike" s__law_alike a fd) (hm : mg "_law_alike" = some (.ref a)) : Def P w K mg base 1 "_law_alike" 2 py__law_alike :=
  def_mk F hm sc__law_alike (F.binds (ps := ["found", "due"]) fun _ _ _ _ _ _ us hl => match us, hl with | [_, _], _ => rfl) rfl fun cdv hcd A outer s H E hr =>
    (show BX _ _ b__law_alike from bx_freeze (i := 0) (bx_freeze (i := 1) (bx_cons (sx_par (i := 2) (j := 3) rfl sc__law_alike.nd rfl rfl (by decide) rfl rfl (ex_lst (as_cons (ax_val (ex_tup (as_cons (ax_var (pv 0)) (as_cons (ax_var (pv 1)) as_nil)))) as_nil)) (ex_int) (by rfl))
    (bx_cons (sx_while 100000 PassesOwn.never (tx_cmp (ox_lt) (ax_var (pv 3)) (ax_val (ex_callB (fx_len) (by rfl) G.b_len bt_len (as_cons (ax_var (pv 2)) as_nil))) (by rfl)) (bx_cons (sx_asg (ex_ix (iox (hu64 hr)) (ax_var (pv 2)) (ax_var (pv 3)) (fun _ _ => rfl)) (gx_tup rfl (gsx_cons (gx_name sc__law_alike.nd rfl (.inl rfl)) (gsx_cons (gx_name sc__law_alike.nd rfl (.inl rfl)) gsx_nil))))
    (bx_cons (sx_aug sc__law_alike.nd rfl (.inl rfl) (ax_val (ex_int)) pipx_add)
    (bx_cons (sx_if (tx_w (wx_or (tx_cmp (ox_ne (hu64 hr)) (ax_val (ex_isi (t := .bl) (by decide) (by rfl) G.b_isinstance bt_isinstance (ax_var (pv 4)) (by rfl) G.b_bool bt_bool)) (ax_val (ex_isi (t := .bl) (by decide) (by rfl) G.b_isinstance bt_isinstance (ax_var (pv 5)) (by rfl) G.b_bool bt_bool)) (by rfl)) (wx_or1 (tx_cmp (ox_ne (hu64 hr)) (ax_val (ex_isi (t := .str) (by decide) (by rfl) G.b_isinstance bt_isinstance (ax_var (pv 4)) (by rfl) G.b_str bt_str)) (ax_val (ex_isi (t := .str) (by decide) (by rfl) G.b_isinstance bt_isinstance (ax_var (pv 5)) (by rfl) G.b_str bt_str)) (by rfl))))) (bx_one (sx_ret (ex_bl))) (bx_nil))
    (bx_cons (sx_if (tx_cmp (ox_ne (hu64 hr)) (ax_val (ex_isi2 (t := .tup) (u := .lst) (by decide) (by decide) (by rfl) G.b_isinstance bt_isinstance (ax_var (pv 4)) (by rfl) G.b_tuple bt_tuple (by rfl) G.b_list bt_list)) (ax_val (ex_isi2 (t := .tup) (u := .lst) (by decide) (by decide) (by rfl) G.b_isinstance bt_isinstance (ax_var (pv 5)) (by rfl) G.b_tuple bt_tuple (by rfl) G.b_list bt_list)) (by rfl)) (bx_one (sx_ret (ex_bl))) (bx_nil))
    (bx_one (sx_if (tx_val (ex_isi2 (t := .tup) (u := .lst) (by decide) (by decide) (by rfl) G.b_isinstance bt_isinstance (ax_var (pv 4)) (by rfl) G.b_tuple bt_tuple (by rfl) G.b_list bt_list)) (bx_cons (sx_if (tx_w (wx_or (tx_cmp (ox_ne (hu64 hr)) (ax_val (ex_isi (t := .tup) (by decide) (by rfl) G.b_isinstance bt_isinstance (ax_var (pv 4)) (by rfl) G.b_tuple bt_tuple)) (ax_val (ex_isi (t := .tup) (by decide) (by rfl) G.b_isinstance bt_isinstance (ax_var (pv 5)) (by rfl) G.b_tuple bt_tuple)) (by rfl)) (wx_or1 (tx_cmp (ox_ne (hu64 hr)) (ax_val (ex_callB (fx_len) (by rfl) G.b_len bt_len (as_cons (ax_var (pv 4)) as_nil))) (ax_val (ex_callB (fx_len) (by rfl) G.b_len bt_len (as_cons (ax_var (pv 5)) as_nil))) (by rfl))))) (bx_one (sx_ret (ex_bl))) (bx_nil))
    (bx_one (sx_expr (ex_meth (k := .lst) rfl PySem.F.plainAttrs_list PySem.F.slot_list_extend PySem.F.type_list_extend mx_extend (ax_var (pv 2)) (as_cons (ax_val (ex_listZip rfl (by rfl) G.b_list (by rfl) G.b_zip (as_cons (ax_var (pv 4)) (as_cons (ax_var (pv 5)) as_nil)))) as_nil))))) (bx_one (sx_if (tx_cmp (ox_ne (hu64 hr)) (ax_var (pv 4)) (ax_var (pv 5)) (by rfl)) (bx_one (sx_ret (ex_bl))) (bx_nil))))))))))
    (bx_one (sx_ret (ex_bl)))))))
/-! ### tree_parts -/
abbrev s_tree_parts : Stmt := topS 42
theorem sc_tree_parts : FnScope ["first", "bits", "parts", "here", "level", "low", "high", "both"] ["first", "bits"] (defScope s_tree_parts) := ⟨rfl, rfl, rfl, by decide +kernel, rfl, by decide +kernel, by decide +kernel⟩
def b_tree_parts : SM :=
  mSeq (mPar 2 3 (mCall gLst []) (mVar 0))
  (mSeq (mFor (mIterA (mSlice (.val (mC (.tup [.str "a", .str "b", .str "c", .str "d", .str "e"]))) none (some (mVar 1)))) (mGName 4) (mSeq (mPar3 5 6 7 (mJoin [mC (.str "l"), mFmt (mVar 4)] Str.empty) (mJoin [mC (.str "h"), mFmt (mVar 4)] Str.empty) (mJoin [mC (.str "m"), mFmt (mVar 4)] Str.empty))
  (mSeq (mExpr (mMeth .lst gExtend (.var 2) [.val (mCall gLst [.val (mCall gTup [.var 5, .val (mCall gTup [.val (mC (.str "low")), .var 3])]), .val (mCall gTup [.var 6, .val (mCall gTup [.val (mC (.str "high")), .var 3])]), .val (mCall gTup [.var 7, .val (mCall gTup [.val (mC (.str "mul")), .var 5, .var 6])])])]))
  (mSet 3 (mVar 7)))))
  (mRet (mCall gTup [.var 2, .var 3])))
def py_tree_parts : PM := mkF 8 b_tree_parts
theorem ok_tree_parts (G : Gb K w mg)  {a : Addr} {fd : FuncData} (F : L2.Fun K "tree_parts" "tree_parts" s_tree_parts a fd) (hm : mg "tree_parts" = some (.ref a)) : Def P w K mg base 1 "tree_parts" 2 py_tree_parts :=
  def_mk F hm sc_tree_parts (F.binds (ps := ["first", "bits"]) fun _ _ _ _ _ _ us hl => match us, hl with | [_, _], _ => rfl) rfl fun cdv hcd A outer s H E hr =>
    (show BX _ _ b_tree_parts from bx_cons (sx_par (i := 2) (j := 3) rfl sc_tree_parts.nd rfl rfl (by decide) rfl rfl (ex_lst as_nil) (ex_var (pv 0)) (by rfl))
    (bx_cons (sx_for PassesOwn.never rfl (ix_any (ex_slice (ax_val (ex_globE (by rfl) G.c_LEVELS)) px_none (px_some (ex_var (pv 1))))) (gx_name sc_tree_parts.nd rfl (.inl rfl)) (bx_cons (sx_par3 (i := 5) (j := 6) (k := 7) rfl sc_tree_parts.nd rfl rfl rfl (by decide) (by decide) (by decide) rfl rfl rfl (ex_joined (.cons (ex_str) (.cons (ex_fmt (ex_var (pv 4))) .nil))) (ex_joined (.cons (ex_str) (.cons (ex_fmt (ex_var (pv 4))) .nil))) (ex_joined (.cons (ex_str) (.cons (ex_fmt (ex_var (pv 4))) .nil))) (by rfl))
    (bx_cons (sx_expr (ex_meth (k := .lst) rfl PySem.F.plainAttrs_list PySem.F.slot_list_extend PySem.F.type_list_extend mx_extend (ax_var (pv 2)) (as_cons (ax_val (ex_lst (as_cons (ax_val (ex_tup (as_cons (ax_var (pv 5)) (as_cons (ax_val (ex_tup (as_cons (ax_val (ex_str)) (as_cons (ax_var (pv 3)) as_nil)))) as_nil)))) (as_cons (ax_val (ex_tup (as_cons (ax_var (pv 6)) (as_cons (ax_val (ex_tup (as_cons (ax_val (ex_str)) (as_cons (ax_var (pv 3)) as_nil)))) as_nil)))) (as_cons (ax_val (ex_tup (as_cons (ax_var (pv 7)) (as_cons (ax_val (ex_tup (as_cons (ax_val (ex_str)) (as_cons (ax_var (pv 5)) (as_cons (ax_var (pv 6)) as_nil))))) as_nil)))) as_nil))))) as_nil)))
    (bx_one (sx_set (i := 3) sc_tree_parts.nd rfl (.inl rfl) (ex_var (pv 7)))))))
    (bx_one (sx_ret (ex_tup (as_cons (ax_var (pv 2)) (as_cons (ax_var (pv 3)) as_nil)))))))
/-! ### compared_parts -/
abbrev s_compared_parts : Stmt := topS 43
theorem sc_compared_parts : FnScope ["one", "other", "bits", "order", "parts", "more", "last"] ["one", "other", "bits"] (defScope s_compared_parts) := ⟨rfl, rfl, rfl, by decide +kernel, rfl, by decide +kernel, by decide +kernel⟩
def b_compared_parts : SM :=
  mSeq (mSet 3 (mTupS (mSOne (mVar 2) (mSRange (mVar 2) (mSNil)))))
  (mSeq (mSet 4 (mCall gLst [.val (mCall gTup [.val (mC (.str "j")), .val (mCall gTup [.val (mC (.str "join")), .var 0, .var 1])]), .val (mCall gTup [.val (mC (.str "t")), .val (mCall gTup [.val (mC (.str "turn")), .val (mC (.str "j")), .var 3])]), .val (mCall gTup [.val (mC (.str "h")), .val (mCall gTup [.val (mC (.str "spread")), .val (mC (.str "g")), .val (mCall (gAdd) [.var 2, .val (mC (.int 1))])])])]))
  (mSeq (mExpr (mMeth .lst gAppend (.var 4) [.val (mCall gTup [.val (mC (.str "u")), .val (mCall gTup [.val (mC (.str "sub")), .val (mC (.str "h")), .val (mC (.str "t"))])])]))
  (mSeq (mAsg (mCall py_tree_parts [.val (mC (.str "u")), .var 2]) (mGTup 2 (mGCons (mGName 5) (mGCons (mGName 6) (mGNil)))))
  (mRet (mLstS (mSStar (mVar 4) (mSStar (mVar 5) (mSOne (mCall gTup [.val (mC (.str "va")), .val (mCall gTup [.val (mC (.str "low")), .var 6])]) (mSOne (mCall gTup [.val (mC (.str "vb")), .val (mCall gTup [.val (mC (.str "high")), .var 6])]) (mSOne (mCall gTup [.val (mC (.str "d")), .val (mCall gTup [.val (mC (.str "sub")), .val (mC (.str "va")), .val (mC (.str "vb"))])]) (mSNil)))))))))))
def py_compared_parts : PM := mkF 7 b_compared_parts
theorem ok_compared_parts (G : Gb K w mg) (D_tree_parts : Def P w K mg base 1 "tree_parts" 2 py_tree_parts) {a : Addr} {fd : FuncData} (F : L2.Fun K "compared_parts" "compared_parts" s_compared_parts a fd) (hm : mg "compared_parts" = some (.ref a)) : Def P w K mg base 2 "compared_parts" 3 py_compared_parts :=
  def_mk F hm sc_compared_parts (F.binds (ps := ["one", "other", "bits"]) fun _ _ _ _ _ _ us hl => match us, hl with | [_, _, _], _ => rfl) rfl fun cdv hcd A outer s H E hr =>
    (show BX _ _ b_compared_parts from bx_cons (sx_set (i := 3) sc_compared_parts.nd rfl (.inl rfl) (ex_tupS (sa_one (ex_var (pv 2)) (sa_range rfl (by rfl) G.b_range (ex_var (pv 2)) (sa_nil)))))
    (bx_cons (sx_set (i := 4) sc_compared_parts.nd rfl (.inl rfl) (ex_lst (as_cons (ax_val (ex_tup (as_cons (ax_val (ex_str)) (as_cons (ax_val (ex_tup (as_cons (ax_val (ex_str)) (as_cons (ax_var (pv 0)) (as_cons (ax_var (pv 1)) as_nil))))) as_nil)))) (as_cons (ax_val (ex_tup (as_cons (ax_val (ex_str)) (as_cons (ax_val (ex_tup (as_cons (ax_val (ex_str)) (as_cons (ax_val (ex_str)) (as_cons (ax_var (pv 3)) as_nil))))) as_nil)))) (as_cons (ax_val (ex_tup (as_cons (ax_val (ex_str)) (as_cons (ax_val (ex_tup (as_cons (ax_val (ex_str)) (as_cons (ax_val (ex_str)) (as_cons (ax_val (ex_bin (ox_add) (ax_var (pv 2)) (ax_val (ex_int)))) as_nil))))) as_nil)))) as_nil)))))
    (bx_cons (sx_expr (ex_meth (k := .lst) rfl PySem.F.plainAttrs_list PySem.F.slot_list_append PySem.F.type_list_append mx_append (ax_var (pv 4)) (as_cons (ax_val (ex_tup (as_cons (ax_val (ex_str)) (as_cons (ax_val (ex_tup (as_cons (ax_val (ex_str)) (as_cons (ax_val (ex_str)) (as_cons (ax_val (ex_str)) as_nil))))) as_nil)))) as_nil)))
    (bx_cons (sx_asg (ex_call D_tree_parts hr (by omega) (by rfl) (as_cons (ax_val (ex_str)) (as_cons (ax_var (pv 2)) as_nil)) rfl) (gx_tup rfl (gsx_cons (gx_name sc_compared_parts.nd rfl (.inl rfl)) (gsx_cons (gx_name sc_compared_parts.nd rfl (.inl rfl)) gsx_nil))))
    (bx_one (sx_ret (ex_lstS (sa_star (ex_var (pv 4)) (sa_star (ex_var (pv 5)) (sa_one (ex_tup (as_cons (ax_val (ex_str)) (as_cons (ax_val (ex_tup (as_cons (ax_val (ex_str)) (as_cons (ax_var (pv 6)) as_nil)))) as_nil))) (sa_one (ex_tup (as_cons (ax_val (ex_str)) (as_cons (ax_val (ex_tup (as_cons (ax_val (ex_str)) (as_cons (ax_var (pv 6)) as_nil)))) as_nil))) (sa_one (ex_tup (as_cons (ax_val (ex_str)) (as_cons (ax_val (ex_tup (as_cons (ax_val (ex_str)) (as_cons (ax_val (ex_str)) (as_cons (ax_val (ex_str)) as_nil))))) as_nil))) (sa_nil)))))))))))))
/-! ### is_integer -/
abbrev s_is_integer : Stmt := topS 11
theorem sc_is_integer : FnScope ["thing"] ["thing"] (defScope s_is_integer) := ⟨rfl, rfl, rfl, by decide +kernel, rfl, by decide +kernel, by decide +kernel⟩
def b_is_integer : SM :=
  mRet (mAnd (mCall (gIsi [.int]) [.var 0]) (mNot (mCall (gIsi [.bl]) [.var 0])))
def py_is_integer : PM := mkF 1 b_is_integer
theorem ok_is_integer (G : Gb K w mg)  {a : Addr} {fd : FuncData} (F : L2.Fun K "is_integer" "is_integer" s_is_integer a fd) (hm : mg "is_integer" = some (.ref a)) : Def P w K mg base 1 "is_integer" 1 py_is_integer :=
  def_mk F hm sc_is_integer (F.binds (ps := ["thing"]) fun _ _ _ _ _ _ us hl => match us, hl with | [_], _ => rfl) rfl fun cdv hcd A outer s H E hr =>
    (show BX _ _ b_is_integer from bx_one (sx_ret (ex_and (ex_isi (t := .int) (by decide) (by rfl) G.b_isinstance bt_isinstance (ax_var (pv 0)) (by rfl) G.b_int bt_int) (ex_one (ex_not (ex_isi (t := .bl) (by decide) (by rfl) G.b_isinstance bt_isinstance (ax_var (pv 0)) (by rfl) G.b_bool bt_bool))))))
/-! ### is_within -/
abbrev s_is_within : Stmt := topS 12
theorem sc_is_within : FnScope ["thing", "least", "most"] ["thing", "least", "most"] (defScope s_is_within) := ⟨rfl, rfl, rfl, by decide +kernel, rfl, by decide +kernel, by decide +kernel⟩
def b_is_within : SM :=
  mRet (mAnd (mCall py_is_integer [.var 0]) (mChain (fun i j => decide (i ≤ j)) (fun i j => decide (i ≤ j)) (mVar 1) (mVar 0) (mVar 2)))
def py_is_within : PM := mkF 3 b_is_within
theorem ok_is_within (G : Gb K w mg) (D_is_integer : Def P w K mg base 1 "is_integer" 1 py_is_integer) {a : Addr} {fd : FuncData} (F : L2.Fun K "is_within" "is_within" s_is_within a fd) (hm : mg "is_within" = some (.ref a)) : Def P w K mg base 2 "is_within" 3 py_is_within :=
  def_mk F hm sc_is_within (F.binds (ps := ["thing", "least", "most"]) fun _ _ _ _ _ _ us hl => match us, hl with | [_, _, _], _ => rfl) rfl fun cdv hcd A outer s H E hr =>
    (show BX _ _ b_is_within from bx_one (sx_ret (ex_and (ex_call D_is_integer hr (by omega) (by rfl) (as_cons (ax_var (pv 0)) as_nil) rfl) (ex_one (ex_chain cx_le cx_le (ex_var (pv 1)) (ex_var (pv 0)) (ex_var (pv 2)))))))
/-! ### is_prime -/
abbrev s_is_prime : Stmt := topS 15
theorem sc_is_prime : FnScope ["number", "part"] ["number"] (defScope s_is_prime) := ⟨rfl, rfl, rfl, by decide +kernel, rfl, by decide +kernel, by decide +kernel⟩
def b_is_prime : SM :=
  mSeq (mIfS (tOf (mCall (gR2 fLt) [.var 0, .val (mC (.int 2))])) (mRet (mC (.bl false))) (mPass))
  (mSeq (mSet 1 (mC (.int 2)))
  (mSeq (whileM (tOf (mCall (gR2 (fCmp fun i j => decide (i ≤ j))) [.val (mCall (gMul) [.var 1, .var 1]), .var 0])) (mSeq (mIfS (tOf (mCall (gR2 (fEq false)) [.val (mCall (gR2 fMod) [.var 0, .var 1]), .val (mC (.int 0))])) (mRet (mC (.bl false))) (mPass))
  (mAug 1 (gR2 fAddI) (.val (mC (.int 1))))) 100000)
  (mRet (mC (.bl true)))))
def py_is_prime : PM := mkF 2 b_is_prime
theorem ok_is_prime (G : Gb K w mg)  {a : Addr} {fd : FuncData} (F : L2.Fun K "is_prime" "is_prime" s_is_prime a fd) (hm : mg "is_prime" = some (.ref a)) : Def P w K mg base 1 "is_prime" 1 py_is_prime :=
  def_mk F hm sc_is_prime (F.binds (ps := ["number"]) fun _ _ _ _ _ _ us hl => match us, hl with | [_], _ => rfl) rfl fun cdv hcd A outer s H E hr =>
    (show BX _ _ b_is_prime from bx_cons (sx_if (tx_cmp (ox_lt) (ax_var (pv 0)) (ax_val (ex_int)) (by rfl)) (bx_one (sx_ret (ex_bl))) (bx_nil))
    (bx_cons (sx_set (i := 1) sc_is_prime.nd rfl (.inl rfl) (ex_int))
    (bx_cons (sx_while 100000 PassesOwn.never (tx_cmp (ox_le) (ax_val (ex_bin (ox_mul) (ax_var (pv 1)) (ax_var (pv 1)))) (ax_var (pv 0)) (by rfl)) (bx_cons (sx_if (tx_cmp (ox_eq (hu64 hr)) (ax_val (ex_bin (ox_mod) (ax_var (pv 0)) (ax_var (pv 1)))) (ax_val (ex_int)) (by rfl)) (bx_one (sx_ret (ex_bl))) (bx_nil))
    (bx_one (sx_aug sc_is_prime.nd rfl (.inl rfl) (ax_val (ex_int)) pipx_add))))
    (bx_one (sx_ret (ex_bl))))))
/-! ### is_field -/
abbrev s_is_field : Stmt := topS 16
theorem sc_is_field : FnScope ["thing"] ["thing"] (defScope s_is_field) := ⟨rfl, rfl, rfl, by decide +kernel, rfl, by decide +kernel, by decide +kernel⟩
def b_is_field : SM :=
  mRet (mAnd (mCall py_is_within [.var 0, .val (mC (.int 5)), .val (mC (.int 1000003))]) (mCall py_is_prime [.var 0]))
def py_is_field : PM := mkF 1 b_is_field
theorem ok_is_field (G : Gb K w mg) (D_is_within : Def P w K mg base 2 "is_within" 3 py_is_within) (D_is_prime : Def P w K mg base 1 "is_prime" 1 py_is_prime) {a : Addr} {fd : FuncData} (F : L2.Fun K "is_field" "is_field" s_is_field a fd) (hm : mg "is_field" = some (.ref a)) : Def P w K mg base 3 "is_field" 1 py_is_field :=
  def_mk F hm sc_is_field (F.binds (ps := ["thing"]) fun _ _ _ _ _ _ us hl => match us, hl with | [_], _ => rfl) rfl fun cdv hcd A outer s H E hr =>
    (show BX _ _ b_is_field from bx_one (sx_ret (ex_and (ex_call D_is_within hr (by omega) (by rfl) (as_cons (ax_var (pv 0)) (as_cons (ax_val (ex_globE (by rfl) G.c_LEAST_FIELD)) (as_cons (ax_val (ex_globE (by rfl) G.c_MOST_FIELD_forms)) as_nil))) rfl) (ex_one (ex_call D_is_prime hr (by omega) (by rfl) (as_cons (ax_var (pv 0)) as_nil) rfl)))))
/-! ### are_integers -/
abbrev s_are_integers : Stmt := topS 14
theorem sc_are_integers : FnScope ["thing", "one"] ["thing"] (defScope s_are_integers) := ⟨rfl, rfl, rfl, by decide +kernel, rfl, by decide +kernel, by decide +kernel⟩
def b_are_integers : SM :=
  mRet (mAnd (mCall (gIsi [.tup]) [.var 0]) (mCall gAll [.val (mComp [1] (mIterA (mVar 0)) (mGName 1) (mYes) (mCall py_is_integer [.var 1]))]))
def py_are_integers : PM := mkF 2 b_are_integers
theorem ok_are_integers (G : Gb K w mg) (D_is_integer : Def P w K mg base 1 "is_integer" 1 py_is_integer) {a : Addr} {fd : FuncData} (F : L2.Fun K "are_integers" "are_integers" s_are_integers a fd) (hm : mg "are_integers" = some (.ref a)) : Def P w K mg base 2 "are_integers" 1 py_are_integers :=
  def_mk F hm sc_are_integers (F.binds (ps := ["thing"]) fun _ _ _ _ _ _ us hl => match us, hl with | [_], _ => rfl) rfl fun cdv hcd A outer s H E hr =>
    (show BX _ _ b_are_integers from bx_one (sx_ret (ex_and (ex_isi (t := .tup) (by decide) (by rfl) G.b_isinstance bt_isinstance (ax_var (pv 0)) (by rfl) G.b_tuple bt_tuple) (ex_one (ex_callB (fx_all rfl) (by rfl) G.b_all bt_all (as_cons (ax_val (ex_lc rfl sc_are_integers.nd (ix_any (ex_var (pv 0))) (blkOk_by (own := [("one", 1)]) (by kernel_rfl)) (by decide) (fun _ _ _ _ _ => gx_name sc_are_integers.nd rfl (.inl rfl)) (fun _ _ _ _ _ => tsx_nil) (fun _ _ _ _ _ => ex_call D_is_integer hr (by omega) (by rfl) (as_cons (ax_var (pv 1)) as_nil) rfl))) as_nil))))))
/-! ### is_kind -/
abbrev s_is_kind : Stmt := topS 27
theorem sc_is_kind : FnScope ["kind", "thing"] ["kind", "thing"] (defScope s_is_kind) := ⟨rfl, rfl, rfl, by decide +kernel, rfl, by decide +kernel, by decide +kernel⟩
def b_is_kind : SM :=
  mSeq (mIfS (tOf (mCall (gR2 (fEq false)) [.var 0, .val (mC (.str "part"))])) (mRet (mCall (gIsi [.str]) [.var 1])) (mPass))
  (mRet (mIf (tOf (mCall (gR2 (fEq false)) [.var 0, .val (mC (.str "count"))])) (mCall py_is_integer [.var 1]) (mCall py_are_integers [.var 1])))
def py_is_kind : PM := mkF 2 b_is_kind
theorem ok_is_kind (G : Gb K w mg) (D_is_integer : Def P w K mg base 1 "is_integer" 1 py_is_integer) (D_are_integers : Def P w K mg base 2 "are_integers" 1 py_are_integers) {a : Addr} {fd : FuncData} (F : L2.Fun K "is_kind" "is_kind" s_is_kind a fd) (hm : mg "is_kind" = some (.ref a)) : Def P w K mg base 3 "is_kind" 2 py_is_kind :=
  def_mk F hm sc_is_kind (F.binds (ps := ["kind", "thing"]) fun _ _ _ _ _ _ us hl => match us, hl with | [_, _], _ => rfl) rfl fun cdv hcd A outer s H E hr =>
    (show BX _ _ b_is_kind from bx_cons (sx_if (tx_cmp (ox_eq (hu64 hr)) (ax_var (pv 0)) (ax_val (ex_globE (by rfl) G.c_PART)) (by rfl)) (bx_one (sx_ret (ex_isi (t := .str) (by decide) (by rfl) G.b_isinstance bt_isinstance (ax_var (pv 1)) (by rfl) G.b_str bt_str))) (bx_nil))
    (bx_one (sx_ret (ex_if (tx_cmp (ox_eq (hu64 hr)) (ax_var (pv 0)) (ax_val (ex_globE (by rfl) G.c_COUNT)) (by rfl)) (ex_call D_is_integer hr (by omega) (by rfl) (as_cons (ax_var (pv 1)) as_nil) rfl) (ex_call D_are_integers hr (by omega) (by rfl) (as_cons (ax_var (pv 1)) as_nil) rfl)))))
/-! ### is_form -/
abbrev s_is_form : Stmt := topS 28
theorem sc_is_form : FnScope ["thing", "kinds", "kind", "one"] ["thing"] (defScope s_is_form) := ⟨rfl, rfl, rfl, by decide +kernel, rfl, by decide +kernel, by decide +kernel⟩
def b_is_form : SM :=
  mSeq (mIfS (tOrM (tNotM (tOf (mCall (gIsi [.tup]) [.var 0]))) (tOrM (tOf (mCall (gR2 (fEq false)) [.var 0, .val (mCall gTup [])])) (tOrM (tNotM (tOf (mCall (gIsi [.str]) [.val (mCall gIx [.var 0, .val (mC (.int 0))])]))) (tOf (mKIn true tab_PARTS (mCall gIx [.var 0, .val (mC (.int 0))])))))) (mRet (mC (.bl false))) (mPass))
  (mSeq (mSet 1 (mKIx tab_PARTS (mCall gIx [.var 0, .val (mC (.int 0))])))
  (mRet (mAnd (mCall (gR2 (fEq false)) [.val (mCall gLen [.var 0]), .val (mCall (gAdd) [.val (mC (.int 1)), .val (mCall gLen [.var 1])])]) (mCall gAll [.val (mComp [2, 3] (mZip (mVar 1) (mSlice (.var 0) (some (mC (.int 1))) none)) (mGTup 2 (mGCons (mGName 2) (mGCons (mGName 3) (mGNil)))) (mYes) (mCall py_is_kind [.var 2, .var 3]))]))))
def py_is_form : PM := mkF 4 b_is_form
theorem ok_is_form (G : Gb K w mg) (D_is_kind : Def P w K mg base 3 "is_kind" 2 py_is_kind) {a : Addr} {fd : FuncData} (F : L2.Fun K "is_form" "is_form" s_is_form a fd) (hm : mg "is_form" = some (.ref a)) : Def P w K mg base 4 "is_form" 1 py_is_form :=
  def_mk F hm sc_is_form (F.binds (ps := ["thing"]) fun _ _ _ _ _ _ us hl => match us, hl with | [_], _ => rfl) rfl fun cdv hcd A outer s H E hr =>
    (show BX _ _ b_is_form from bx_cons (sx_if (tx_w (wx_or (tx_not (tx_val (ex_isi (t := .tup) (by decide) (by rfl) G.b_isinstance bt_isinstance (ax_var (pv 0)) (by rfl) G.b_tuple bt_tuple))) (wx_or (tx_cmp (ox_eq (hu64 hr)) (ax_var (pv 0)) (ax_val (ex_tup as_nil)) (by rfl)) (wx_or (tx_not (tx_val (ex_isi (t := .str) (by decide) (by rfl) G.b_isinstance bt_isinstance (ax_val (ex_ix (iox (hu64 hr)) (ax_var (pv 0)) (ax_val (ex_int)) (fun _ _ => rfl))) (by rfl) G.b_str bt_str))) (wx_or1 (tx_kNotIn (by rfl) G.k_PARTS.choose_spec.1 G.k_PARTS.choose_spec.2 (ex_ix (iox (hu64 hr)) (ax_var (pv 0)) (ax_val (ex_int)) (fun _ _ => rfl)))))))) (bx_one (sx_ret (ex_bl))) (bx_nil))
    (bx_cons (sx_set (i := 1) sc_is_form.nd rfl (.inl rfl) (ex_kIx (by rfl) G.k_PARTS.choose_spec.1 G.k_PARTS.choose_spec.2 (ex_ix (iox (hu64 hr)) (ax_var (pv 0)) (ax_val (ex_int)) (fun _ _ => rfl)) (fun _ _ => rfl)))
    (bx_one (sx_ret (ex_and (ex_cmp (ox_eq (hu64 hr)) (ax_val (ex_callB (fx_len) (by rfl) G.b_len bt_len (as_cons (ax_var (pv 0)) as_nil))) (ax_val (ex_bin (ox_add) (ax_val (ex_int)) (ax_val (ex_callB (fx_len) (by rfl) G.b_len bt_len (as_cons (ax_var (pv 1)) as_nil))))) (by rfl)) (ex_one (ex_callB (fx_all rfl) (by rfl) G.b_all bt_all (as_cons (ax_val (ex_lc rfl sc_is_form.nd (ix_zip (by rfl) G.b_zip (ex_var (pv 1)) (ex_slice (ax_var (pv 0)) (px_some (ex_int)) px_none)) (blkOk_by (own := [("kind", 2), ("one", 3)]) (by kernel_rfl)) (by decide) (fun _ _ _ _ _ => gx_tup rfl (gsx_cons (gx_name sc_is_form.nd rfl (.inl rfl)) (gsx_cons (gx_name sc_is_form.nd rfl (.inl rfl)) gsx_nil))) (fun _ _ _ _ _ => tsx_nil) (fun _ _ _ _ _ => ex_call D_is_kind hr (by omega) (by rfl) (as_cons (ax_var (pv 2)) (as_cons (ax_var (pv 3)) as_nil)) rfl))) as_nil))))))))
/-! ### is_part_form -/
abbrev s_is_part_form : Stmt := topS 29
theorem sc_is_part_form : FnScope ["thing"] ["thing"] (defScope s_is_part_form) := ⟨rfl, rfl, rfl, by decide +kernel, rfl, by decide +kernel, by decide +kernel⟩
def b_is_part_form : SM :=
  mRet (mAnd (mCall (gIsi [.tup]) [.var 0]) (mAnd (mCall (gR2 (fEq false)) [.val (mCall gLen [.var 0]), .val (mC (.int 2))]) (mAnd (mCall (gIsi [.str]) [.val (mCall gIx [.var 0, .val (mC (.int 0))])]) (mCall py_is_form [.val (mCall gIx [.var 0, .val (mC (.int 1))])]))))
def py_is_part_form : PM := mkF 1 b_is_part_form
theorem ok_is_part_form (G : Gb K w mg) (D_is_form : Def P w K mg base 4 "is_form" 1 py_is_form) {a : Addr} {fd : FuncData} (F : L2.Fun K "is_part_form" "is_part_form" s_is_part_form a fd) (hm : mg "is_part_form" = some (.ref a)) : Def P w K mg base 5 "is_part_form" 1 py_is_part_form :=
  def_mk F hm sc_is_part_form (F.binds (ps := ["thing"]) fun _ _ _ _ _ _ us hl => match us, hl with | [_], _ => rfl) rfl fun cdv hcd A outer s H E hr =>
    (show BX _ _ b_is_part_form from bx_one (sx_ret (ex_and (ex_isi (t := .tup) (by decide) (by rfl) G.b_isinstance bt_isinstance (ax_var (pv 0)) (by rfl) G.b_tuple bt_tuple) (ex_and (ex_cmp (ox_eq (hu64 hr)) (ax_val (ex_callB (fx_len) (by rfl) G.b_len bt_len (as_cons (ax_var (pv 0)) as_nil))) (ax_val (ex_int)) (by rfl)) (ex_and (ex_isi (t := .str) (by decide) (by rfl) G.b_isinstance bt_isinstance (ax_val (ex_ix (iox (hu64 hr)) (ax_var (pv 0)) (ax_val (ex_int)) (fun _ _ => rfl))) (by rfl) G.b_str bt_str) (ex_one (ex_call D_is_form hr (by omega) (by rfl) (as_cons (ax_val (ex_ix (iox (hu64 hr)) (ax_var (pv 0)) (ax_val (ex_int)) (fun _ _ => rfl))) as_nil) rfl)))))))
/-! ### is_name -/
abbrev s_is_name : Stmt := topS 13
theorem sc_is_name : FnScope ["thing", "sign"] ["thing"] (defScope s_is_name) := ⟨rfl, rfl, rfl, by decide +kernel, rfl, by decide +kernel, by decide +kernel⟩
def b_is_name : SM :=
  mSeq (mIfS (tOrM (tNotM (tOf (mCall (gIsi [.str]) [.var 0]))) (tOrM (tNotM (tOf (mChain (fun i j => decide (i ≤ j)) (fun i j => decide (i ≤ j)) (mC (.int 1)) (mCall gLen [.var 0]) (mC (.int 8))))) (tOf (mCall (gR2 (fIn false)) [.var 0, .val (mC (.tup [.str "add", .str "ask", .str "field", .str "high", .str "join", .str "low", .str "mul", .str "numbers", .str "output", .str "pick", .str "product", .str "sealed", .str "spread", .str "sub", .str "sum", .str "told", .str "turn", .str "zero"]))])))) (mRet (mC (.bl false))) (mPass))
  (mRet (mCall gAll [.val (mComp [1] (mIterA (mVar 0)) (mGName 1) (mYes) (mCall (gR2 (fIn false)) [.var 1, .val (mC (.str "abcdefghijklmnopqrstuvwxyz"))]))]))
def py_is_name : PM := mkF 2 b_is_name
theorem ok_is_name (G : Gb K w mg)  {a : Addr} {fd : FuncData} (F : L2.Fun K "is_name" "is_name" s_is_name a fd) (hm : mg "is_name" = some (.ref a)) : Def P w K mg base 1 "is_name" 1 py_is_name :=
  def_mk F hm sc_is_name (F.binds (ps := ["thing"]) fun _ _ _ _ _ _ us hl => match us, hl with | [_], _ => rfl) rfl fun cdv hcd A outer s H E hr =>
    (show BX _ _ b_is_name from bx_cons (sx_if (tx_w (wx_or (tx_not (tx_val (ex_isi (t := .str) (by decide) (by rfl) G.b_isinstance bt_isinstance (ax_var (pv 0)) (by rfl) G.b_str bt_str))) (wx_or (tx_not (tx_chain cx_le cx_le (ex_int) (ex_callB (fx_len) (by rfl) G.b_len bt_len (as_cons (ax_var (pv 0)) as_nil)) (ex_globE (by rfl) G.c_MOST_NAME))) (wx_or1 (tx_cmp (ox_in (hu64 hr)) (ax_var (pv 0)) (ax_val (ex_globE (by rfl) G.c_RESERVED)) (by rfl)))))) (bx_one (sx_ret (ex_bl))) (bx_nil))
    (bx_one (sx_ret (ex_callB (fx_all rfl) (by rfl) G.b_all bt_all (as_cons (ax_val (ex_lc rfl sc_is_name.nd (ix_any (ex_var (pv 0))) (blkOk_by (own := [("sign", 1)]) (by kernel_rfl)) (by decide) (fun _ _ _ _ _ => gx_name sc_is_name.nd rfl (.inl rfl)) (fun _ _ _ _ _ => tsx_nil) (fun _ _ _ _ _ => ex_cmp (ox_in (hu64 hr)) (ax_var (pv 1)) (ax_val (ex_globE (by rfl) G.c_LETTERS)) (by rfl)))) as_nil)))))
/-! ### names_in -/
abbrev s_names_in : Stmt := topS 30
theorem sc_names_in : FnScope ["form", "kind", "one"] ["form"] (defScope s_names_in) := ⟨rfl, rfl, rfl, by decide +kernel, rfl, by decide +kernel, by decide +kernel⟩
def b_names_in : SM :=
  mRet (mCall gTuple [.val (mComp [1, 2] (mZip (mKIx tab_PARTS (mCall gIx [.var 0, .val (mC (.int 0))])) (mSlice (.var 0) (some (mC (.int 1))) none)) (mGTup 2 (mGCons (mGName 1) (mGCons (mGName 2) (mGNil)))) (tOf (mCall (gR2 (fEq false)) [.var 1, .val (mC (.str "part"))])) (mVar 2))])
def py_names_in : PM := mkF 3 b_names_in
theorem ok_names_in (G : Gb K w mg)  {a : Addr} {fd : FuncData} (F : L2.Fun K "names_in" "names_in" s_names_in a fd) (hm : mg "names_in" = some (.ref a)) : Def P w K mg base 1 "names_in" 1 py_names_in :=
  def_mk F hm sc_names_in (F.binds (ps := ["form"]) fun _ _ _ _ _ _ us hl => match us, hl with | [_], _ => rfl) rfl fun cdv hcd A outer s H E hr =>
    (show BX _ _ b_names_in from bx_one (sx_ret (ex_callTy fx_tuple (by rfl) G.b_tuple bt_tuple (as_cons (ax_val (ex_lc rfl sc_names_in.nd (ix_zip (by rfl) G.b_zip (ex_kIx (by rfl) G.k_PARTS.choose_spec.1 G.k_PARTS.choose_spec.2 (ex_ix (iox (hu64 hr)) (ax_var (pv 0)) (ax_val (ex_int)) (fun _ _ => rfl)) (fun _ _ => rfl)) (ex_slice (ax_var (pv 0)) (px_some (ex_int)) px_none)) (blkOk_by (own := [("kind", 1), ("one", 2)]) (by kernel_rfl)) (by decide) (fun _ _ _ _ _ => gx_tup rfl (gsx_cons (gx_name sc_names_in.nd rfl (.inl rfl)) (gsx_cons (gx_name sc_names_in.nd rfl (.inl rfl)) gsx_nil))) (fun _ _ _ _ _ => tsx_one (tx_cmp (ox_eq (hu64 hr)) (ax_var (pv 1)) (ax_val (ex_globE (by rfl) G.c_PART)) (by rfl))) (fun _ _ _ _ _ => ex_var (pv 2)))) as_nil))))
/-! ### are_numbers -/
abbrev s_are_numbers : Stmt := topS 17
theorem sc_are_numbers : FnScope ["p", "thing", "one"] ["p", "thing"] (defScope s_are_numbers) := ⟨rfl, rfl, rfl, by decide +kernel, rfl, by decide +kernel, by decide +kernel⟩
def b_are_numbers : SM :=
  mRet (mAnd (mCall py_are_integers [.var 1]) (mCall gAll [.val (mComp [2] (mIterA (mVar 1)) (mGName 2) (mYes) (mChain (fun i j => decide (i ≤ j)) (fun i j => decide (i < j)) (mC (.int 0)) (mVar 2) (mVar 0)))]))
def py_are_numbers : PM := mkF 3 b_are_numbers
theorem ok_are_numbers (G : Gb K w mg) (D_are_integers : Def P w K mg base 2 "are_integers" 1 py_are_integers) {a : Addr} {fd : FuncData} (F : L2.Fun K "are_numbers" "are_numbers" s_are_numbers a fd) (hm : mg "are_numbers" = some (.ref a)) : Def P w K mg base 3 "are_numbers" 2 py_are_numbers :=
  def_mk F hm sc_are_numbers (F.binds (ps := ["p", "thing"]) fun _ _ _ _ _ _ us hl => match us, hl with | [_, _], _ => rfl) rfl fun cdv hcd A outer s H E hr =>
    (show BX _ _ b_are_numbers from bx_one (sx_ret (ex_and (ex_call D_are_integers hr (by omega) (by rfl) (as_cons (ax_var (pv 1)) as_nil) rfl) (ex_one (ex_callB (fx_all rfl) (by rfl) G.b_all bt_all (as_cons (ax_val (ex_lc rfl sc_are_numbers.nd (ix_any (ex_var (pv 1))) (blkOk_by (own := [("one", 2)]) (by kernel_rfl)) (by decide) (fun _ _ _ _ _ => gx_name sc_are_numbers.nd rfl (.inl rfl)) (fun _ _ _ _ _ => tsx_nil) (fun _ _ _ _ _ => ex_chain cx_le cx_lt (ex_int) (ex_var (pv 2)) (ex_var (pv 0))))) as_nil))))))
/-! ### table_bits -/
abbrev s_table_bits : Stmt := topS 31
theorem sc_table_bits : FnScope ["table", "found"] ["table"] (defScope s_table_bits) := ⟨rfl, rfl, rfl, by decide +kernel, rfl, by decide +kernel, by decide +kernel⟩
def b_table_bits : SM :=
  mSeq (mSet 1 (mC (.int 0)))
  (mSeq (whileM (tOf (mCall (gR2 fLt) [.val (mCall (gR2 fShl) [.val (mC (.int 1)), .var 1]), .val (mCall gLen [.var 0])])) (mAug 1 (gR2 fAddI) (.val (mC (.int 1)))) 100000)
  (mRet (mIf (tOf (mCall (gR2 (fEq false)) [.val (mCall (gR2 fShl) [.val (mC (.int 1)), .var 1]), .val (mCall gLen [.var 0])])) (mVar 1) (mC .non))))
def py_table_bits : PM := mkF 2 b_table_bits
theorem ok_table_bits (G : Gb K w mg)  {a : Addr} {fd : FuncData} (F : L2.Fun K "table_bits" "table_bits" s_table_bits a fd) (hm : mg "table_bits" = some (.ref a)) : Def P w K mg base 1 "table_bits" 1 py_table_bits :=
  def_mk F hm sc_table_bits (F.binds (ps := ["table"]) fun _ _ _ _ _ _ us hl => match us, hl with | [_], _ => rfl) rfl fun cdv hcd A outer s H E hr =>
    (show BX _ _ b_table_bits from bx_cons (sx_set (i := 1) sc_table_bits.nd rfl (.inl rfl) (ex_int))
    (bx_cons (sx_while 100000 PassesOwn.never (tx_cmp (ox_lt) (ax_val (ex_bin (ox_shl) (ax_val (ex_int)) (ax_var (pv 1)))) (ax_val (ex_callB (fx_len) (by rfl) G.b_len bt_len (as_cons (ax_var (pv 0)) as_nil))) (by rfl)) (bx_one (sx_aug sc_table_bits.nd rfl (.inl rfl) (ax_val (ex_int)) pipx_add)))
    (bx_one (sx_ret (ex_if (tx_cmp (ox_eq (hu64 hr)) (ax_val (ex_bin (ox_shl) (ax_val (ex_int)) (ax_var (pv 1)))) (ax_val (ex_callB (fx_len) (by rfl) G.b_len bt_len (as_cons (ax_var (pv 0)) as_nil))) (by rfl)) (ex_var (pv 1)) (ex_non))))))
/-! ### are_order -/
abbrev s_are_order : Stmt := topS 18
theorem sc_are_order : FnScope ["thing"] ["thing"] (defScope s_are_order) := ⟨rfl, rfl, rfl, by decide +kernel, rfl, by decide +kernel, by decide +kernel⟩
def b_are_order : SM :=
  mRet (mAnd (mCall py_are_integers [.var 0]) (mCall (gR2 (fEq false)) [.val (mCall gSorted [.var 0]), .val (mRgL (mCall gLen [.var 0]))]))
def py_are_order : PM := mkF 1 b_are_order
theorem ok_are_order (G : Gb K w mg) (D_are_integers : Def P w K mg base 2 "are_integers" 1 py_are_integers) {a : Addr} {fd : FuncData} (F : L2.Fun K "are_order" "are_order" s_are_order a fd) (hm : mg "are_order" = some (.ref a)) : Def P w K mg base 3 "are_order" 1 py_are_order :=
  def_mk F hm sc_are_order (F.binds (ps := ["thing"]) fun _ _ _ _ _ _ us hl => match us, hl with | [_], _ => rfl) rfl fun cdv hcd A outer s H E hr =>
    (show BX _ _ b_are_order from bx_one (sx_ret (ex_and (ex_call D_are_integers hr (by omega) (by rfl) (as_cons (ax_var (pv 0)) as_nil) rfl) (ex_one (ex_cmp (ox_eq (hu64 hr)) (ax_val (ex_callB (fx_sorted) (by rfl) G.b_sorted bt_sorted (as_cons (ax_var (pv 0)) as_nil))) (ax_val (ex_rgL rfl (by rfl) G.b_list (by rfl) G.b_range (ex_callB (fx_len) (by rfl) G.b_len bt_len (as_cons (ax_var (pv 0)) as_nil)))) (by rfl))))))
/-! ### one_bits -/
abbrev s_one_bits : Stmt := topS 32
theorem sc_one_bits : FnScope ["form", "mine", "word"] ["form", "mine"] (defScope s_one_bits) := ⟨rfl, rfl, rfl, by decide +kernel, rfl, by decide +kernel, by decide +kernel⟩
def b_one_bits : SM :=
  mSeq (mSet 2 (mCall gIx [.var 0, .val (mC (.int 0))]))
  (mSeq (mIfS (tOf (mCall (gR2 (fIn false)) [.var 2, .val (mCall gTup [.val (mC (.str "low")), .val (mC (.str "high"))])])) (mRet (mIf (tOf (mCall (gR2 (fCmp fun i j => decide (j < i))) [.var 1, .val (mC (.int 0))])) (mCall (gR2 fSub) [.var 1, .val (mC (.int 1))]) (mC .non))) (mPass))
  (mSeq (mIfS (tOf (mCall (gR2 (fEq false)) [.var 2, .val (mC (.str "turn"))])) (mRet (mIf (tAndM (tOf (mCall (gR2 (fEq false)) [.val (mCall gLen [.val (mCall gIx [.var 0, .val (mC (.int 2))])]), .var 1])) (tOf (mCall py_are_order [.val (mCall gIx [.var 0, .val (mC (.int 2))])]))) (mVar 1) (mC .non))) (mPass))
  (mSeq (mIfS (tOf (mCall (gR2 (fEq false)) [.var 2, .val (mC (.str "sum"))])) (mRet (mIf (tOf (mChain (fun i j => decide (i ≤ j)) (fun i j => decide (i ≤ j)) (mC (.int 1)) (mCall gIx [.var 0, .val (mC (.int 2))]) (mVar 1))) (mCall (gR2 fSub) [.var 1, .val (mCall gIx [.var 0, .val (mC (.int 2))])]) (mC .non))) (mPass))
  (mRet (mIf (tOf (mCall (gR2 (fCmp fun i j => decide (j ≤ i))) [.val (mCall gIx [.var 0, .val (mC (.int 2))]), .val (mC (.int 1))])) (mCall (gAdd) [.var 1, .val (mCall gIx [.var 0, .val (mC (.int 2))])]) (mC .non))))))
def py_one_bits : PM := mkF 3 b_one_bits
theorem ok_one_bits (G : Gb K w mg) (D_are_order : Def P w K mg base 3 "are_order" 1 py_are_order) {a : Addr} {fd : FuncData} (F : L2.Fun K "one_bits" "one_bits" s_one_bits a fd) (hm : mg "one_bits" = some (.ref a)) : Def P w K mg base 4 "one_bits" 2 py_one_bits :=
  def_mk F hm sc_one_bits (F.binds (ps := ["form", "mine"]) fun _ _ _ _ _ _ us hl => match us, hl with | [_, _], _ => rfl) rfl fun cdv hcd A outer s H E hr =>
    (show BX _ _ b_one_bits from bx_cons (sx_set (i := 2) sc_one_bits.nd rfl (.inl rfl) (ex_ix (iox (hu64 hr)) (ax_var (pv 0)) (ax_val (ex_int)) (fun _ _ => rfl)))
    (bx_cons (sx_if (tx_cmp (ox_in (hu64 hr)) (ax_var (pv 2)) (ax_val (ex_tup (as_cons (ax_val (ex_str)) (as_cons (ax_val (ex_str)) as_nil)))) (by rfl)) (bx_one (sx_ret (ex_if (tx_cmp (ox_gt) (ax_var (pv 1)) (ax_val (ex_int)) (by rfl)) (ex_bin (ox_sub) (ax_var (pv 1)) (ax_val (ex_int))) (ex_non)))) (bx_nil))
    (bx_cons (sx_if (tx_cmp (ox_eq (hu64 hr)) (ax_var (pv 2)) (ax_val (ex_str)) (by rfl)) (bx_one (sx_ret (ex_if (tx_w (wx_and (tx_cmp (ox_eq (hu64 hr)) (ax_val (ex_callB (fx_len) (by rfl) G.b_len bt_len (as_cons (ax_val (ex_ix (iox (hu64 hr)) (ax_var (pv 0)) (ax_val (ex_int)) (fun _ _ => rfl))) as_nil))) (ax_var (pv 1)) (by rfl)) (wx_and1 (tx_val (ex_call D_are_order hr (by omega) (by rfl) (as_cons (ax_val (ex_ix (iox (hu64 hr)) (ax_var (pv 0)) (ax_val (ex_int)) (fun _ _ => rfl))) as_nil) rfl))))) (ex_var (pv 1)) (ex_non)))) (bx_nil))
    (bx_cons (sx_if (tx_cmp (ox_eq (hu64 hr)) (ax_var (pv 2)) (ax_val (ex_str)) (by rfl)) (bx_one (sx_ret (ex_if (tx_chain cx_le cx_le (ex_int) (ex_ix (iox (hu64 hr)) (ax_var (pv 0)) (ax_val (ex_int)) (fun _ _ => rfl)) (ex_var (pv 1))) (ex_bin (ox_sub) (ax_var (pv 1)) (ax_val (ex_ix (iox (hu64 hr)) (ax_var (pv 0)) (ax_val (ex_int)) (fun _ _ => rfl)))) (ex_non)))) (bx_nil))
    (bx_one (sx_ret (ex_if (tx_cmp (ox_ge) (ax_val (ex_ix (iox (hu64 hr)) (ax_var (pv 0)) (ax_val (ex_int)) (fun _ _ => rfl))) (ax_val (ex_int)) (by rfl)) (ex_bin (ox_add) (ax_var (pv 1)) (ax_val (ex_ix (iox (hu64 hr)) (ax_var (pv 0)) (ax_val (ex_int)) (fun _ _ => rfl)))) (ex_non))))))))
/-! ### form_bits -/
abbrev s_form_bits : Stmt := topS 33
theorem sc_form_bits : FnScope ["form", "bits", "word", "some", "name"] ["form", "bits"] (defScope s_form_bits) := ⟨rfl, rfl, rfl, by decide +kernel, rfl, by decide +kernel, by decide +kernel⟩
def b_form_bits : SM :=
  mSeq (mPar 2 3 (mCall gIx [.var 0, .val (mC (.int 0))]) (mComp [4] (mIterA (mCall py_names_in [.var 0])) (mGName 4) (mYes) (mCall gIx [.var 1, .var 4])))
  (mSeq (mIfS (tOf (mCall (gR2 (fIn false)) [.var 2, .val (mCall gTup [.val (mC (.str "told")), .val (mC (.str "sealed"))])])) (mRet (mIf (tOf (mCall (gR2 (fCmp fun i j => decide (j ≤ i))) [.val (mCall gIx [.var 0, .val (mC (.int 1))]), .val (mC (.int 0))])) (mCall gIx [.var 0, .val (mC (.int 1))]) (mC .non))) (mPass))
  (mSeq (mIfS (tOf (mCall (gR2 (fEq false)) [.var 2, .val (mC (.str "ask"))])) (mRet (mC (.int 0))) (mPass))
  (mSeq (mIfS (tOf (mCall (gR2 (fIn false)) [.var 2, .val (mC (.tup [.str "add", .str "sub", .str "mul", .str "pick", .str "join"]))])) (mSeq (mIfS (tOf (mCall (gR2 (fEq true)) [.var 3, .val (mCall (gMul) [.val (mCall gLst [.val (mCall gIx [.var 3, .val (mC (.int 0))])]), .val (mCall gLen [.var 3])])])) (mRet (mC .non)) (mPass))
  (mRet (mIf (tOf (mCall (gR2 (fEq false)) [.var 2, .val (mC (.str "join"))])) (mCall (gAdd) [.val (mCall gIx [.var 3, .val (mC (.int 0))]), .val (mC (.int 1))]) (mCall gIx [.var 3, .val (mC (.int 0))])))) (mPass))
  (mSeq (mIfS (tOf (mCall (gR2 (fEq false)) [.var 2, .val (mC (.str "product"))])) (mRet (mIf (fun _ => none) (mCall (gR2 fSub) [.val (mCall (gAdd) [.val (mCall gIx [.var 3, .val (mC (.int 0))]), .val (mCall gIx [.var 3, .val (mC (.int 1))])]), .val (mCall (gMul) [.val (mC (.int 2)), .val (mCall gIx [.var 0, .val (mC (.int 3))])])]) (mC .non))) (mPass))
  (mRet (mIf (tOf (mCall (gR2 (fEq false)) [.var 2, .val (mC (.str "numbers"))])) (mCall py_table_bits [.val (mCall gIx [.var 0, .val (mC (.int 1))])]) (mCall py_one_bits [.var 0, .val (mCall gIx [.var 3, .val (mC (.int 0))])])))))))
def py_form_bits : PM := mkF 5 b_form_bits
theorem ok_form_bits (G : Gb K w mg) (D_names_in : Def P w K mg base 1 "names_in" 1 py_names_in) (D_table_bits : Def P w K mg base 1 "table_bits" 1 py_table_bits) (D_one_bits : Def P w K mg base 4 "one_bits" 2 py_one_bits) {a : Addr} {fd : FuncData} (F : L2.Fun K "form_bits" "form_bits" s_form_bits a fd) (hm : mg "form_bits" = some (.ref a)) : Def P w K mg base 5 "form_bits" 2 py_form_bits :=
  def_mk F hm sc_form_bits (F.binds (ps := ["form", "bits"]) fun _ _ _ _ _ _ us hl => match us, hl with | [_, _], _ => rfl) rfl fun cdv hcd A outer s H E hr =>
    (show BX _ _ b_form_bits from bx_cons (sx_par (i := 2) (j := 3) rfl sc_form_bits.nd rfl rfl (by decide) rfl rfl (ex_ix (iox (hu64 hr)) (ax_var (pv 0)) (ax_val (ex_int)) (fun _ _ => rfl)) (ex_lc rfl sc_form_bits.nd (ix_any (ex_call D_names_in hr (by omega) (by rfl) (as_cons (ax_var (pv 0)) as_nil) rfl)) (blkOk_by (own := [("name", 4)]) (by kernel_rfl)) (by decide) (fun _ _ _ _ _ => gx_name sc_form_bits.nd rfl (.inl rfl)) (fun _ _ _ _ _ => tsx_nil) (fun _ _ _ _ _ => ex_ix (iox (hu64 hr)) (ax_var (pv 1)) (ax_var (pv 4)) (fun _ _ => rfl))) (by rfl))
    (bx_cons (sx_if (tx_cmp (ox_in (hu64 hr)) (ax_var (pv 2)) (ax_val (ex_tup (as_cons (ax_val (ex_str)) (as_cons (ax_val (ex_str)) as_nil)))) (by rfl)) (bx_one (sx_ret (ex_if (tx_cmp (ox_ge) (ax_val (ex_ix (iox (hu64 hr)) (ax_var (pv 0)) (ax_val (ex_int)) (fun _ _ => rfl))) (ax_val (ex_int)) (by rfl)) (ex_ix (iox (hu64 hr)) (ax_var (pv 0)) (ax_val (ex_int)) (fun _ _ => rfl)) (ex_non)))) (bx_nil))
    (bx_cons (sx_if (tx_cmp (ox_eq (hu64 hr)) (ax_var (pv 2)) (ax_val (ex_str)) (by rfl)) (bx_one (sx_ret (ex_int))) (bx_nil))
    (bx_cons (sx_if (tx_cmp (ox_in (hu64 hr)) (ax_var (pv 2)) (ax_val (ex_globE (by rfl) G.c_LIKE)) (by rfl)) (bx_cons (sx_if (tx_cmp (ox_ne (hu64 hr)) (ax_var (pv 3)) (ax_val (ex_bin (ox_mul) (ax_val (ex_lst (as_cons (ax_val (ex_ix (iox (hu64 hr)) (ax_var (pv 3)) (ax_val (ex_int)) (fun _ _ => rfl))) as_nil))) (ax_val (ex_callB (fx_len) (by rfl) G.b_len bt_len (as_cons (ax_var (pv 3)) as_nil))))) (by rfl)) (bx_one (sx_ret (ex_non))) (bx_nil))
    (bx_one (sx_ret (ex_if (tx_cmp (ox_eq (hu64 hr)) (ax_var (pv 2)) (ax_val (ex_str)) (by rfl)) (ex_bin (ox_add) (ax_val (ex_ix (iox (hu64 hr)) (ax_var (pv 3)) (ax_val (ex_int)) (fun _ _ => rfl))) (ax_val (ex_int))) (ex_ix (iox (hu64 hr)) (ax_var (pv 3)) (ax_val (ex_int)) (fun _ _ => rfl)))))) (bx_nil))
    (bx_cons (sx_if (tx_cmp (ox_eq (hu64 hr)) (ax_var (pv 2)) (ax_val (ex_str)) (by rfl)) (bx_one (sx_ret (ex_if (tx_never) (ex_bin (ox_sub) (ax_val (ex_bin (ox_add) (ax_val (ex_ix (iox (hu64 hr)) (ax_var (pv 3)) (ax_val (ex_int)) (fun _ _ => rfl))) (ax_val (ex_ix (iox (hu64 hr)) (ax_var (pv 3)) (ax_val (ex_int)) (fun _ _ => rfl))))) (ax_val (ex_bin (ox_mul) (ax_val (ex_int)) (ax_val (ex_ix (iox (hu64 hr)) (ax_var (pv 0)) (ax_val (ex_int)) (fun _ _ => rfl)))))) (ex_non)))) (bx_nil))
    (bx_one (sx_ret (ex_if (tx_cmp (ox_eq (hu64 hr)) (ax_var (pv 2)) (ax_val (ex_str)) (by rfl)) (ex_call D_table_bits hr (by omega) (by rfl) (as_cons (ax_val (ex_ix (iox (hu64 hr)) (ax_var (pv 0)) (ax_val (ex_int)) (fun _ _ => rfl))) as_nil) rfl) (ex_call D_one_bits hr (by omega) (by rfl) (as_cons (ax_var (pv 0)) (as_cons (ax_val (ex_ix (iox (hu64 hr)) (ax_var (pv 3)) (ax_val (ex_int)) (fun _ _ => rfl))) as_nil)) rfl)))))))))
/-! ### part_fault -/
abbrev s_part_fault : Stmt := topS 34
theorem sc_part_fault : FnScope ["p", "part", "bits", "has_ask", "name", "form", "is_fine", "found", "one"] ["p", "part", "bits", "has_ask"] (defScope s_part_fault) := ⟨rfl, rfl, rfl, by decide +kernel, rfl, by decide +kernel, by decide +kernel⟩
def b_part_fault : SM :=
  mSeq (mIfS (tNotM (tOf (mCall py_is_part_form [.var 1]))) (mRet (mC (.str "form"))) (mPass))
  (mSeq (mAsg (mVar 1) (mGTup 2 (mGCons (mGName 4) (mGCons (mGName 5) (mGNil)))))
  (mSeq (mIfS (tOrM (tNotM (tOf (mCall py_is_name [.var 4]))) (tOf (mCall (gR2 (fIn false)) [.var 4, .var 2]))) (mRet (mC (.str "name"))) (mPass))
  (mSeq (mIfS (tAndM (tOf (mCall (gR2 (fEq false)) [.val (mCall gIx [.var 5, .val (mC (.int 0))]), .val (mC (.str "sealed"))])) (tOf (mVar 3))) (mRet (mC (.str "late"))) (mPass))
  (mSeq (mIfS (tNotM (tOf (mCall gAll [.val (mComp [8] (mIterA (mCall py_names_in [.var 5])) (mGName 8) (mYes) (mCall (gR2 (fIn false)) [.var 8, .var 2]))]))) (mRet (mC (.str "unknown"))) (mPass))
  (mSeq (mIfS (tOf (mCall (gR2 (fEq false)) [.val (mCall gIx [.var 5, .val (mC (.int 0))]), .val (mC (.str "numbers"))])) (mSeq (mSet 6 (mAnd (mCall py_are_numbers [.var 0, .val (mCall gIx [.var 5, .val (mC (.int 1))])]) (mAnd (mCall (gR2 (fCmp fun i j => decide (i ≤ j))) [.val (mCall gLen [.val (mCall gIx [.var 5, .val (mC (.int 1))])]), .val (mCall (gR2 fShl) [.val (mC (.int 1)), .val (mC (.int 8))])]) (mCall (gR2 fNotN) [.val (mCall py_table_bits [.val (mCall gIx [.var 5, .val (mC (.int 1))])]), .val (mC .non)]))))
  (mRet (mIf (tOf (mVar 6)) (mC .non) (mC (.str "numbers"))))) (mPass))
  (mSeq (mSet 7 (mCall py_form_bits [.var 5, .var 2]))
  (mRet (mIf (tOrM (tOf (mCall (gR2 fIsN) [.var 7, .val (mC .non)])) (tOf (mCall (gR2 (fCmp fun i j => decide (j < i))) [.var 7, .val (mC (.int 8))]))) (mC (.str "bits")) (mC .non)))))))))
def py_part_fault : PM := mkF 9 b_part_fault
theorem ok_part_fault (G : Gb K w mg) (D_is_part_form : Def P w K mg base 5 "is_part_form" 1 py_is_part_form) (D_is_name : Def P w K mg base 1 "is_name" 1 py_is_name) (D_names_in : Def P w K mg base 1 "names_in" 1 py_names_in) (D_are_numbers : Def P w K mg base 3 "are_numbers" 2 py_are_numbers) (D_table_bits : Def P w K mg base 1 "table_bits" 1 py_table_bits) (D_form_bits : Def P w K mg base 5 "form_bits" 2 py_form_bits) {a : Addr} {fd : FuncData} (F : L2.Fun K "part_fault" "part_fault" s_part_fault a fd) (hm : mg "part_fault" = some (.ref a)) : Def P w K mg base 6 "part_fault" 4 py_part_fault :=
  def_mk F hm sc_part_fault (F.binds (ps := ["p", "part", "bits", "has_ask"]) fun _ _ _ _ _ _ us hl => match us, hl with | [_, _, _, _], _ => rfl) rfl fun cdv hcd A outer s H E hr =>
    (show BX _ _ b_part_fault from bx_cons (sx_if (tx_not (tx_val (ex_call D_is_part_form hr (by omega) (by rfl) (as_cons (ax_var (pv 1)) as_nil) rfl))) (bx_one (sx_ret (ex_str))) (bx_nil))
    (bx_cons (sx_asg (ex_var (pv 1)) (gx_tup rfl (gsx_cons (gx_name sc_part_fault.nd rfl (.inl rfl)) (gsx_cons (gx_name sc_part_fault.nd rfl (.inl rfl)) gsx_nil))))
    (bx_cons (sx_if (tx_w (wx_or (tx_not (tx_val (ex_call D_is_name hr (by omega) (by rfl) (as_cons (ax_var (pv 4)) as_nil) rfl))) (wx_or1 (tx_cmp (ox_in (hu64 hr)) (ax_var (pv 4)) (ax_var (pv 2)) (by rfl))))) (bx_one (sx_ret (ex_str))) (bx_nil))
    (bx_cons (sx_if (tx_w (wx_and (tx_cmp (ox_eq (hu64 hr)) (ax_val (ex_ix (iox (hu64 hr)) (ax_var (pv 5)) (ax_val (ex_int)) (fun _ _ => rfl))) (ax_val (ex_str)) (by rfl)) (wx_and1 (tx_val (ex_var (pv 3)))))) (bx_one (sx_ret (ex_str))) (bx_nil))
    (bx_cons (sx_if (tx_not (tx_val (ex_callB (fx_all rfl) (by rfl) G.b_all bt_all (as_cons (ax_val (ex_lc rfl sc_part_fault.nd (ix_any (ex_call D_names_in hr (by omega) (by rfl) (as_cons (ax_var (pv 5)) as_nil) rfl)) (blkOk_by (own := [("one", 8)]) (by kernel_rfl)) (by decide) (fun _ _ _ _ _ => gx_name sc_part_fault.nd rfl (.inl rfl)) (fun _ _ _ _ _ => tsx_nil) (fun _ _ _ _ _ => ex_cmp (ox_in (hu64 hr)) (ax_var (pv 8)) (ax_var (pv 2)) (by rfl)))) as_nil)))) (bx_one (sx_ret (ex_str))) (bx_nil))
    (bx_cons (sx_if (tx_cmp (ox_eq (hu64 hr)) (ax_val (ex_ix (iox (hu64 hr)) (ax_var (pv 5)) (ax_val (ex_int)) (fun _ _ => rfl))) (ax_val (ex_str)) (by rfl)) (bx_cons (sx_set (i := 6) sc_part_fault.nd rfl (.inl rfl) (ex_and (ex_call D_are_numbers hr (by omega) (by rfl) (as_cons (ax_var (pv 0)) (as_cons (ax_val (ex_ix (iox (hu64 hr)) (ax_var (pv 5)) (ax_val (ex_int)) (fun _ _ => rfl))) as_nil)) rfl) (ex_and (ex_cmp (ox_le) (ax_val (ex_callB (fx_len) (by rfl) G.b_len bt_len (as_cons (ax_val (ex_ix (iox (hu64 hr)) (ax_var (pv 5)) (ax_val (ex_int)) (fun _ _ => rfl))) as_nil))) (ax_val (ex_bin (ox_shl) (ax_val (ex_int)) (ax_val (ex_globE (by rfl) G.c_MOST_BITS)))) (by rfl)) (ex_one (ex_cmp (ox_notN) (ax_val (ex_call D_table_bits hr (by omega) (by rfl) (as_cons (ax_val (ex_ix (iox (hu64 hr)) (ax_var (pv 5)) (ax_val (ex_int)) (fun _ _ => rfl))) as_nil) rfl)) (ax_val (ex_non)) (by rfl))))))
    (bx_one (sx_ret (ex_if (tx_val (ex_var (pv 6))) (ex_non) (ex_str))))) (bx_nil))
    (bx_cons (sx_set (i := 7) sc_part_fault.nd rfl (.inl rfl) (ex_call D_form_bits hr (by omega) (by rfl) (as_cons (ax_var (pv 5)) (as_cons (ax_var (pv 2)) as_nil)) rfl))
    (bx_one (sx_ret (ex_if (tx_w (wx_or (tx_cmp (ox_isN) (ax_var (pv 7)) (ax_val (ex_non)) (by rfl)) (wx_or1 (tx_cmp (ox_gt) (ax_var (pv 7)) (ax_val (ex_globE (by rfl) G.c_MOST_BITS)) (by rfl))))) (ex_str) (ex_non)))))))))))
/-! ### check_parts -/
abbrev s_check_parts : Stmt := topS 35
theorem sc_check_parts : FnScope ["p", "parts", "bits", "has_ask", "at", "part", "fault"] ["p", "parts"] (defScope s_check_parts) := ⟨rfl, rfl, rfl, by decide +kernel, rfl, by decide +kernel, by decide +kernel⟩
def b_check_parts : SM :=
  mSeq (mPar 2 3 (mDNew) (mC (.bl false)))
  (mSeq (mFor (mEnum (mVar 1)) (mGTup 2 (mGCons (mGName 4) (mGCons (mGName 5) (mGNil)))) (mSeq (mSet 6 (mCall py_part_fault [.var 0, .var 5, .var 2, .var 3]))
  (mSeq (mIfS (tOf (mCall (gR2 fNotN) [.var 6, .val (mC .non)])) (mNever) (mPass))
  (mSeq (mSetItem gSetL (.val (mCall py_form_bits [.val (mCall gIx [.var 5, .val (mC (.int 1))]), .var 2])) (.var 2) (.val (mCall gIx [.var 5, .val (mC (.int 0))])))
  (mSet 3 (mOr (mVar 3) (mCall (gR2 (fEq false)) [.val (mCall gIx [.val (mCall gIx [.var 5, .val (mC (.int 1))]), .val (mC (.int 0))]), .val (mC (.str "ask"))])))))))
  (mRetV 2))
def py_check_parts : PM := mkF 7 b_check_parts
theorem ok_check_parts (G : Gb K w mg) (D_part_fault : Def P w K mg base 6 "part_fault" 4 py_part_fault) (D_form_bits : Def P w K mg base 5 "form_bits" 2 py_form_bits) {a : Addr} {fd : FuncData} (F : L2.Fun K "check_parts" "check_parts" s_check_parts a fd) (hm : mg "check_parts" = some (.ref a)) : Def P w K mg base 7 "check_parts" 2 py_check_parts :=
  def_mk F hm sc_check_parts (F.binds (ps := ["p", "parts"]) fun _ _ _ _ _ _ us hl => match us, hl with | [_, _], _ => rfl) rfl fun cdv hcd A outer s H E hr =>
    (show BX _ _ b_check_parts from bx_cons (sx_par (i := 2) (j := 3) rfl sc_check_parts.nd rfl rfl (by decide) rfl rfl (ex_dnew) (ex_bl) (by rfl))
    (bx_cons (sx_for PassesOwn.never rfl (ix_enum (by rfl) G.b_enumerate (ex_var (pv 1))) (gx_tup rfl (gsx_cons (gx_name sc_check_parts.nd rfl (.inl rfl)) (gsx_cons (gx_name sc_check_parts.nd rfl (.inl rfl)) gsx_nil))) (bx_cons (sx_set (i := 6) sc_check_parts.nd rfl (.inl rfl) (ex_call D_part_fault hr (by omega) (by rfl) (as_cons (ax_var (pv 0)) (as_cons (ax_var (pv 5)) (as_cons (ax_var (pv 2)) (as_cons (ax_var (pv 3)) as_nil)))) rfl))
    (bx_cons (sx_if (tx_cmp (ox_notN) (ax_var (pv 6)) (ax_val (ex_non)) (by rfl)) (bx_never) (bx_nil))
    (bx_cons (sx_setItem (ax_val (ex_call D_form_bits hr (by omega) (by rfl) (as_cons (ax_val (ex_ix (iox (hu64 hr)) (ax_var (pv 5)) (ax_val (ex_int)) (fun _ _ => rfl))) (as_cons (ax_var (pv 2)) as_nil)) rfl)) (ax_var (pv 2)) (ax_val (ex_ix (iox (hu64 hr)) (ax_var (pv 5)) (ax_val (ex_int)) (fun _ _ => rfl))) (setxL (hu64 hr)))
    (bx_one (sx_set (i := 3) sc_check_parts.nd rfl (.inl rfl) (ex_or (ex_var (pv 3)) (ex_one (ex_cmp (ox_eq (hu64 hr)) (ax_val (ex_ix (iox (hu64 hr)) (ax_val (ex_ix (iox (hu64 hr)) (ax_var (pv 5)) (ax_val (ex_int)) (fun _ _ => rfl))) (ax_val (ex_int)) (fun _ _ => rfl))) (ax_val (ex_str)) (by rfl))))))))))
    (bx_one (sx_retV (pv 2)))))
/-! ### are_goals -/
abbrev s_are_goals : Stmt := topS 36
theorem sc_are_goals : FnScope ["thing", "bits", "one", "other"] ["thing", "bits"] (defScope s_are_goals) := ⟨rfl, rfl, rfl, by decide +kernel, rfl, by decide +kernel, by decide +kernel⟩
def b_are_goals : SM :=
  mSeq (mIfS (tOrM (tNotM (tOf (mCall (gIsi [.tup]) [.var 0]))) (tNotM (tOf (mCall gAll [.val (mComp [2] (mIterA (mVar 0)) (mGName 2) (mYes) (mAnd (mCall (gIsi [.str]) [.var 2]) (mCall (gR2 (fIn false)) [.var 2, .var 1])))])))) (mRet (mC (.bl false))) (mPass))
  (mRet (mCall gAll [.val (mComp [2, 3] (mZip (mVar 0) (mSlice (.var 0) (some (mC (.int 1))) none)) (mGTup 2 (mGCons (mGName 2) (mGCons (mGName 3) (mGNil)))) (mYes) (mCall (gR2 fLt) [.var 2, .var 3]))]))
def py_are_goals : PM := mkF 4 b_are_goals
theorem ok_are_goals (G : Gb K w mg)  {a : Addr} {fd : FuncData} (F : L2.Fun K "are_goals" "are_goals" s_are_goals a fd) (hm : mg "are_goals" = some (.ref a)) : Def P w K mg base 1 "are_goals" 2 py_are_goals :=
  def_mk F hm sc_are_goals (F.binds (ps := ["thing", "bits"]) fun _ _ _ _ _ _ us hl => match us, hl with | [_, _], _ => rfl) rfl fun cdv hcd A outer s H E hr =>
    (show BX _ _ b_are_goals from bx_cons (sx_if (tx_w (wx_or (tx_not (tx_val (ex_isi (t := .tup) (by decide) (by rfl) G.b_isinstance bt_isinstance (ax_var (pv 0)) (by rfl) G.b_tuple bt_tuple))) (wx_or1 (tx_not (tx_val (ex_callB (fx_all rfl) (by rfl) G.b_all bt_all (as_cons (ax_val (ex_lc rfl sc_are_goals.nd (ix_any (ex_var (pv 0))) (blkOk_by (own := [("one", 2)]) (by kernel_rfl)) (by decide) (fun _ _ _ _ _ => gx_name sc_are_goals.nd rfl (.inl rfl)) (fun _ _ _ _ _ => tsx_nil) (fun _ _ _ _ _ => ex_and (ex_isi (t := .str) (by decide) (by rfl) G.b_isinstance bt_isinstance (ax_var (pv 2)) (by rfl) G.b_str bt_str) (ex_one (ex_cmp (ox_in (hu64 hr)) (ax_var (pv 2)) (ax_var (pv 1)) (by rfl)))))) as_nil))))))) (bx_one (sx_ret (ex_bl))) (bx_nil))
    (bx_one (sx_ret (ex_callB (fx_all rfl) (by rfl) G.b_all bt_all (as_cons (ax_val (ex_lc rfl sc_are_goals.nd (ix_zip (by rfl) G.b_zip (ex_var (pv 0)) (ex_slice (ax_var (pv 0)) (px_some (ex_int)) px_none)) (blkOk_by (own := [("one", 2), ("other", 3)]) (by kernel_rfl)) (by decide) (fun _ _ _ _ _ => gx_tup rfl (gsx_cons (gx_name sc_are_goals.nd rfl (.inl rfl)) (gsx_cons (gx_name sc_are_goals.nd rfl (.inl rfl)) gsx_nil))) (fun _ _ _ _ _ => tsx_nil) (fun _ _ _ _ _ => ex_cmp (ox_lt) (ax_var (pv 2)) (ax_var (pv 3)) (by rfl)))) as_nil)))))
/-! ### checked_program -/
abbrev s_checked_program : Stmt := topS 37
theorem sc_checked_program : FnScope ["thing", "bits"] ["thing"] (defScope s_checked_program) := ⟨rfl, rfl, rfl, by decide +kernel, rfl, by decide +kernel, by decide +kernel⟩
def b_checked_program : SM :=
  mSeq (mIfS (tOrM (tNotM (tOf (mCall (gIsi [.tup]) [.var 0]))) (tOf (mCall (gR2 (fEq true)) [.val (mCall gLen [.var 0]), .val (mC (.int 4))]))) (mNever) (mPass))
  (mSeq (mIfS (tNotM (tOf (mCall py_is_field [.val (mCall gIx [.var 0, .val (mC (.int 0))])]))) (mNever) (mPass))
  (mSeq (mIfS (tNotM (tOf (mCall (gIsi [.tup]) [.val (mCall gIx [.var 0, .val (mC (.int 1))])]))) (mNever) (mPass))
  (mSeq (mIfS (tNotM (tOf (mChain (fun i j => decide (i ≤ j)) (fun i j => decide (i ≤ j)) (mC (.int 1)) (mCall gLen [.val (mCall gIx [.var 0, .val (mC (.int 1))])]) (mC (.int 24))))) (mNever) (mPass))
  (mSeq (mSet 1 (mCall py_check_parts [.val (mCall gIx [.var 0, .val (mC (.int 0))]), .val (mCall gIx [.var 0, .val (mC (.int 1))])]))
  (mSeq (mIfS (tNotM (tOf (mCall py_are_goals [.val (mCall gIx [.var 0, .val (mC (.int 2))]), .var 1]))) (mNever) (mPass))
  (mSeq (mIfS (tNotM (tOf (mCall py_are_goals [.val (mCall gIx [.var 0, .val (mC (.int 3))]), .var 1]))) (mNever) (mPass))
  (mSeq (mIfS (tAndM (tOf (mCall (gR2 (fEq false)) [.val (mCall gIx [.var 0, .val (mC (.int 2))]), .val (mCall gTup [])])) (tOf (mCall (gR2 (fEq false)) [.val (mCall gIx [.var 0, .val (mC (.int 3))]), .val (mCall gTup [])]))) (mNever) (mPass))
  (mRetV 0))))))))
def py_checked_program : PM := mkF 2 b_checked_program
theorem ok_checked_program (G : Gb K w mg) (D_is_field : Def P w K mg base 3 "is_field" 1 py_is_field) (D_check_parts : Def P w K mg base 7 "check_parts" 2 py_check_parts) (D_are_goals : Def P w K mg base 1 "are_goals" 2 py_are_goals) {a : Addr} {fd : FuncData} (F : L2.Fun K "checked_program" "checked_program" s_checked_program a fd) (hm : mg "checked_program" = some (.ref a)) : Def P w K mg base 8 "checked_program" 1 py_checked_program :=
  def_mk F hm sc_checked_program (F.binds (ps := ["thing"]) fun _ _ _ _ _ _ us hl => match us, hl with | [_], _ => rfl) rfl fun cdv hcd A outer s H E hr =>
    (show BX _ _ b_checked_program from bx_cons (sx_if (tx_w (wx_or (tx_not (tx_val (ex_isi (t := .tup) (by decide) (by rfl) G.b_isinstance bt_isinstance (ax_var (pv 0)) (by rfl) G.b_tuple bt_tuple))) (wx_or1 (tx_cmp (ox_ne (hu64 hr)) (ax_val (ex_callB (fx_len) (by rfl) G.b_len bt_len (as_cons (ax_var (pv 0)) as_nil))) (ax_val (ex_globE (by rfl) G.c_MEMBERS)) (by rfl))))) (bx_never) (bx_nil))
    (bx_cons (sx_if (tx_not (tx_val (ex_call D_is_field hr (by omega) (by rfl) (as_cons (ax_val (ex_ix (iox (hu64 hr)) (ax_var (pv 0)) (ax_val (ex_int)) (fun _ _ => rfl))) as_nil) rfl))) (bx_never) (bx_nil))
    (bx_cons (sx_if (tx_not (tx_val (ex_isi (t := .tup) (by decide) (by rfl) G.b_isinstance bt_isinstance (ax_val (ex_ix (iox (hu64 hr)) (ax_var (pv 0)) (ax_val (ex_int)) (fun _ _ => rfl))) (by rfl) G.b_tuple bt_tuple))) (bx_never) (bx_nil))
    (bx_cons (sx_if (tx_not (tx_chain cx_le cx_le (ex_int) (ex_callB (fx_len) (by rfl) G.b_len bt_len (as_cons (ax_val (ex_ix (iox (hu64 hr)) (ax_var (pv 0)) (ax_val (ex_int)) (fun _ _ => rfl))) as_nil)) (ex_globE (by rfl) G.c_MOST_PARTS))) (bx_never) (bx_nil))
    (bx_cons (sx_set (i := 1) sc_checked_program.nd rfl (.inl rfl) (ex_call D_check_parts hr (by omega) (by rfl) (as_cons (ax_val (ex_ix (iox (hu64 hr)) (ax_var (pv 0)) (ax_val (ex_int)) (fun _ _ => rfl))) (as_cons (ax_val (ex_ix (iox (hu64 hr)) (ax_var (pv 0)) (ax_val (ex_int)) (fun _ _ => rfl))) as_nil)) rfl))
    (bx_cons (sx_if (tx_not (tx_val (ex_call D_are_goals hr (by omega) (by rfl) (as_cons (ax_val (ex_ix (iox (hu64 hr)) (ax_var (pv 0)) (ax_val (ex_int)) (fun _ _ => rfl))) (as_cons (ax_var (pv 1)) as_nil)) rfl))) (bx_never) (bx_nil))
    (bx_cons (sx_if (tx_not (tx_val (ex_call D_are_goals hr (by omega) (by rfl) (as_cons (ax_val (ex_ix (iox (hu64 hr)) (ax_var (pv 0)) (ax_val (ex_int)) (fun _ _ => rfl))) (as_cons (ax_var (pv 1)) as_nil)) rfl))) (bx_never) (bx_nil))
    (bx_cons (sx_if (tx_w (wx_and (tx_cmp (ox_eq (hu64 hr)) (ax_val (ex_ix (iox (hu64 hr)) (ax_var (pv 0)) (ax_val (ex_int)) (fun _ _ => rfl))) (ax_val (ex_tup as_nil)) (by rfl)) (wx_and1 (tx_cmp (ox_eq (hu64 hr)) (ax_val (ex_ix (iox (hu64 hr)) (ax_var (pv 0)) (ax_val (ex_int)) (fun _ _ => rfl))) (ax_val (ex_tup as_nil)) (by rfl))))) (bx_never) (bx_nil))
    (bx_one (sx_retV (pv 0)))))))))))
/-! ### reordered_program -/
abbrev s_reordered_program : Stmt := topS 44
theorem sc_reordered_program : FnScope ["p", "bits", "parts"] ["p", "bits"] (defScope s_reordered_program) := ⟨rfl, rfl, rfl, by decide +kernel, rfl, by decide +kernel, by decide +kernel⟩
def b_reordered_program : SM :=
  mSeq (mSet 2 (mLstS (mSOne (mCall gTup [.val (mC (.str "a")), .val (mCall gTup [.val (mC (.str "told")), .var 1])]) (mSOne (mCall gTup [.val (mC (.str "b")), .val (mCall gTup [.val (mC (.str "told")), .var 1])]) (mSOne (mCall gTup [.val (mC (.str "g")), .val (mCall gTup [.val (mC (.str "ask"))])]) (mSStar (mCall py_compared_parts [.val (mC (.str "a")), .val (mC (.str "b")), .var 1]) (mSNil)))))))
  (mRet (mCall py_checked_program [.val (mCall gTup [.var 0, .val (mCall gTuple [.var 2]), .val (mCall gTup []), .val (mCall gTup [.val (mC (.str "d"))])])]))
def py_reordered_program : PM := mkF 3 b_reordered_program
theorem ok_reordered_program (G : Gb K w mg) (D_compared_parts : Def P w K mg base 2 "compared_parts" 3 py_compared_parts) (D_checked_program : Def P w K mg base 8 "checked_program" 1 py_checked_program) {a : Addr} {fd : FuncData} (F : L2.Fun K "reordered_program" "reordered_program" s_reordered_program a fd) (hm : mg "reordered_program" = some (.ref a)) : Def P w K mg base 9 "reordered_program" 2 py_reordered_program :=
  def_mk F hm sc_reordered_program (F.binds (ps := ["p", "bits"]) fun _ _ _ _ _ _ us hl => match us, hl with | [_, _], _ => rfl) rfl fun cdv hcd A outer s H E hr =>
    (show BX _ _ b_reordered_program from bx_cons (sx_set (i := 2) sc_reordered_program.nd rfl (.inl rfl) (ex_lstS (sa_one (ex_tup (as_cons (ax_val (ex_str)) (as_cons (ax_val (ex_tup (as_cons (ax_val (ex_str)) (as_cons (ax_var (pv 1)) as_nil)))) as_nil))) (sa_one (ex_tup (as_cons (ax_val (ex_str)) (as_cons (ax_val (ex_tup (as_cons (ax_val (ex_str)) (as_cons (ax_var (pv 1)) as_nil)))) as_nil))) (sa_one (ex_tup (as_cons (ax_val (ex_str)) (as_cons (ax_val (ex_tup (as_cons (ax_val (ex_str)) as_nil))) as_nil))) (sa_star (ex_call D_compared_parts hr (by omega) (by rfl) (as_cons (ax_val (ex_str)) (as_cons (ax_val (ex_str)) (as_cons (ax_var (pv 1)) as_nil))) rfl) (sa_nil)))))))
    (bx_one (sx_ret (ex_call D_checked_program hr (by omega) (by rfl) (as_cons (ax_val (ex_tup (as_cons (ax_var (pv 0)) (as_cons (ax_val (ex_callTy fx_tuple (by rfl) G.b_tuple bt_tuple (as_cons (ax_var (pv 2)) as_nil))) (as_cons (ax_val (ex_tup as_nil)) (as_cons (ax_val (ex_tup (as_cons (ax_val (ex_str)) as_nil))) as_nil)))))) as_nil) rfl))))
/-! ### _law_mixed -/
abbrev s__law_mixed : Stmt := topS 66
theorem sc__law_mixed : FnScope ["bag", "things", "left", "found"] ["bag", "things"] (defScope s__law_mixed) := ⟨rfl, rfl, rfl, by decide +kernel, rfl, by decide +kernel, by decide +kernel⟩
def b__law_mixed : SM :=
  mSeq (mPar 2 3 (mCall gList [.var 1]) (mCall gLst []))
  (mSeq (whileM (tOf (mCall (gR2 (fEq true)) [.var 2, .val (mCall gLst [])])) (mExpr (mMeth .lst gAppend (.var 3) [.val (mMeth .lst gPopAt (.var 2) [.val (mCall py__law_take [.var 0, .val (mCall gLen [.var 2])])])])) 100000)
  (mRetV 3))
def py__law_mixed : PM := mkF 4 b__law_mixed
theorem ok__law_mixed (G : Gb K w mg) (D__law_take : Def P w K mg base 1 "_law_take" 2 py__law_take) {a : Addr} {fd : FuncData} (F : L2.Fun K "_law_mixed" "_law_mixed" s__law_mixed a fd) (hm : mg "_law_mixed" = some (.ref a)) : Def P w K mg base 2 "_law_mixed" 2 py__law_mixed :=
  def_mk F hm sc__law_mixed (F.binds (ps := ["bag", "things"]) fun _ _ _ _ _ _ us hl => match us, hl with | [_, _], _ => rfl) rfl fun cdv hcd A outer s H E hr =>
    (show BX _ _ b__law_mixed from bx_cons (sx_par (i := 2) (j := 3) rfl sc__law_mixed.nd rfl rfl (by decide) rfl rfl (ex_callTy fx_list (by rfl) G.b_list bt_list (as_cons (ax_var (pv 1)) as_nil)) (ex_lst as_nil) (by rfl))
    (bx_cons (sx_while 100000 PassesOwn.never (tx_cmp (ox_ne (hu64 hr)) (ax_var (pv 2)) (ax_val (ex_lst as_nil)) (by rfl)) (bx_one (sx_expr (ex_meth (k := .lst) rfl PySem.F.plainAttrs_list PySem.F.slot_list_append PySem.F.type_list_append mx_append (ax_var (pv 3)) (as_cons (ax_val (ex_meth (k := .lst) rfl PySem.F.plainAttrs_list PySem.F.slot_list_pop PySem.F.type_list_pop mx_popAt (ax_var (pv 2)) (as_cons (ax_val (ex_call D__law_take hr (by omega) (by rfl) (as_cons (ax_var (pv 0)) (as_cons (ax_val (ex_callB (fx_len) (by rfl) G.b_len bt_len (as_cons (ax_var (pv 2)) as_nil))) as_nil)) rfl)) as_nil))) as_nil)))))
    (bx_one (sx_retV (pv 3)))))
/-! ### _law_same_asks -/
abbrev s__law_same_asks : Stmt := topS 75
theorem sc__law_same_asks : FnScope ["p", "one", "other", "found", "number", "mine", "its", "a", "b"] ["p", "one", "other"] (defScope s__law_same_asks) := ⟨rfl, rfl, rfl, by decide +kernel, rfl, by decide +kernel, by decide +kernel⟩
def b__law_same_asks : SM :=
  mSeq (mSet 3 (mCall gLst []))
  (mSeq (mFor (mRange1 (mVar 0)) (mGName 4) (mSeq (mAsg (mCall gTup [.val (mC (.int 1)), .val (mC (.int 1))]) (mGTup 2 (mGCons (mGName 5) (mGCons (mGName 6) (mGNil)))))
  (mSeq (mFor (mZip (mVar 1) (mVar 2)) (mGTup 2 (mGCons (mGName 7) (mGCons (mGName 8) (mGNil)))) (mPar 5 6 (mCall (gR2 fMod) [.val (mCall gInt [.val (mCall (gMul) [.var 5, .val (mCall (gR2 fSub) [.var 4, .var 7])])]), .var 0]) (mCall (gR2 fMod) [.val (mCall gInt [.val (mCall (gMul) [.var 6, .val (mCall (gR2 fSub) [.var 4, .var 8])])]), .var 0])))
  (mSet 3 (mCall (gAdd) [.var 3, .val (mCall (gMul) [.val (mCall gLst [.var 4]), .val (mCall gInt [.val (mCall (gR2 (fEq false)) [.var 5, .var 6])])])])))))
  (mRetV 3))
def py__law_same_asks : PM := mkF 9 b__law_same_asks
theorem ok__law_same_asks (G : Gb K w mg)  {a : Addr} {fd : FuncData} (F : L2.Fun K "_law_same_asks" "_law_same_asks" s__law_same_asks a fd) (hm : mg "_law_same_asks" = some (.ref a)) : Def P w K mg base 1 "_law_same_asks" 3 py__law_same_asks :=
  def_mk F hm sc__law_same_asks (F.binds (ps := ["p", "one", "other"]) fun _ _ _ _ _ _ us hl => match us, hl with | [_, _, _], _ => rfl) rfl fun cdv hcd A outer s H E hr =>
    (show BX _ _ b__law_same_asks from bx_cons (sx_set (i := 3) sc__law_same_asks.nd rfl (.inl rfl) (ex_lst as_nil))
    (bx_cons (sx_for PassesOwn.never rfl (ix_range1 (by rfl) G.b_range (ex_var (pv 0))) (gx_name sc__law_same_asks.nd rfl (.inl rfl)) (bx_cons (sx_asg (ex_tup (as_cons (ax_val (ex_int)) (as_cons (ax_val (ex_int)) as_nil))) (gx_tup rfl (gsx_cons (gx_name sc__law_same_asks.nd rfl (.inl rfl)) (gsx_cons (gx_name sc__law_same_asks.nd rfl (.inl rfl)) gsx_nil))))
    (bx_cons (sx_for PassesOwn.never rfl (ix_zip (by rfl) G.b_zip (ex_var (pv 1)) (ex_var (pv 2))) (gx_tup rfl (gsx_cons (gx_name sc__law_same_asks.nd rfl (.inl rfl)) (gsx_cons (gx_name sc__law_same_asks.nd rfl (.inl rfl)) gsx_nil))) (bx_one (sx_par (i := 5) (j := 6) rfl sc__law_same_asks.nd rfl rfl (by decide) rfl rfl (ex_bin (ox_mod) (ax_val (ex_callTy fx_int (by rfl) G.b_int bt_int (as_cons (ax_val (ex_bin (ox_mul) (ax_var (pv 5)) (ax_val (ex_bin (ox_sub) (ax_var (pv 4)) (ax_var (pv 7)))))) as_nil))) (ax_var (pv 0))) (ex_bin (ox_mod) (ax_val (ex_callTy fx_int (by rfl) G.b_int bt_int (as_cons (ax_val (ex_bin (ox_mul) (ax_var (pv 6)) (ax_val (ex_bin (ox_sub) (ax_var (pv 4)) (ax_var (pv 8)))))) as_nil))) (ax_var (pv 0))) (by rfl))))
    (bx_one (sx_set (i := 3) sc__law_same_asks.nd rfl (.inl rfl) (ex_bin (ox_add) (ax_var (pv 3)) (ax_val (ex_bin (ox_mul) (ax_val (ex_lst (as_cons (ax_var (pv 4)) as_nil))) (ax_val (ex_callTy fx_int (by rfl) G.b_int bt_int (as_cons (ax_val (ex_cmp (ox_eq (hu64 hr)) (ax_var (pv 5)) (ax_var (pv 6)) (by rfl))) as_nil)))))))))))
    (bx_one (sx_retV (pv 3)))))
/-! ### are_reordered -/
abbrev s_are_reordered : Stmt := topS 45
theorem sc_are_reordered : FnScope ["one", "other"] ["one", "other"] (defScope s_are_reordered) := ⟨rfl, rfl, rfl, by decide +kernel, rfl, by decide +kernel, by decide +kernel⟩
def b_are_reordered : SM :=
  mRet (mCall (gR2 (fEq false)) [.val (mCall gSorted [.var 0]), .val (mCall gSorted [.var 1])])
def py_are_reordered : PM := mkF 2 b_are_reordered
theorem ok_are_reordered (G : Gb K w mg)  {a : Addr} {fd : FuncData} (F : L2.Fun K "are_reordered" "are_reordered" s_are_reordered a fd) (hm : mg "are_reordered" = some (.ref a)) : Def P w K mg base 1 "are_reordered" 2 py_are_reordered :=
  def_mk F hm sc_are_reordered (F.binds (ps := ["one", "other"]) fun _ _ _ _ _ _ us hl => match us, hl with | [_, _], _ => rfl) rfl fun cdv hcd A outer s H E hr =>
    (show BX _ _ b_are_reordered from bx_one (sx_ret (ex_cmp (ox_eq (hu64 hr)) (ax_val (ex_callB (fx_sorted) (by rfl) G.b_sorted bt_sorted (as_cons (ax_var (pv 0)) as_nil))) (ax_val (ex_callB (fx_sorted) (by rfl) G.b_sorted bt_sorted (as_cons (ax_var (pv 1)) as_nil))) (by rfl))))
/-! ### asks_for -/
abbrev s_asks_for : Stmt := topS 46
theorem sc_asks_for : FnScope ["p", "one", "other", "found", "number", "mine", "its", "left", "right"] ["p", "one", "other"] (defScope s_asks_for) := ⟨rfl, rfl, rfl, by decide +kernel, rfl, by decide +kernel, by decide +kernel⟩
def b_asks_for : SM :=
  mSeq (mIfS (tOf (mCall (gR2 (fCmp fun i j => decide (j < i))) [.var 0, .val (mC (.int 3000))])) (mNever) (mPass))
  (mSeq (mSet 3 (mCall gLst []))
  (mSeq (mFor (mRange1 (mVar 0)) (mGName 4) (mSeq (mAsg (mCall gTup [.val (mC (.int 1)), .val (mC (.int 1))]) (mGTup 2 (mGCons (mGName 5) (mGCons (mGName 6) (mGNil)))))
  (mSeq (mFor (mZip (mVar 1) (mVar 2)) (mGTup 2 (mGCons (mGName 7) (mGCons (mGName 8) (mGNil)))) (mPar 5 6 (mCall (gR2 fMod) [.val (mCall (gMul) [.var 5, .val (mCall (gR2 fSub) [.var 4, .var 7])]), .var 0]) (mCall (gR2 fMod) [.val (mCall (gMul) [.var 6, .val (mCall (gR2 fSub) [.var 4, .var 8])]), .var 0])))
  (mIfS (tOf (mCall (gR2 (fEq false)) [.var 5, .var 6])) (mExpr (mMeth .lst gAppend (.var 3) [.var 4])) (mPass)))))
  (mRet (mCall gTuple [.var 3]))))
def py_asks_for : PM := mkF 9 b_asks_for
theorem ok_asks_for (G : Gb K w mg)  {a : Addr} {fd : FuncData} (F : L2.Fun K "asks_for" "asks_for" s_asks_for a fd) (hm : mg "asks_for" = some (.ref a)) : Def P w K mg base 1 "asks_for" 3 py_asks_for :=
  def_mk F hm sc_asks_for (F.binds (ps := ["p", "one", "other"]) fun _ _ _ _ _ _ us hl => match us, hl with | [_, _, _], _ => rfl) rfl fun cdv hcd A outer s H E hr =>
    (show BX _ _ b_asks_for from bx_cons (sx_if (tx_cmp (ox_gt) (ax_var (pv 0)) (ax_val (ex_globE (by rfl) G.c_MOST_FIELD_orders)) (by rfl)) (bx_never) (bx_nil))
    (bx_cons (sx_set (i := 3) sc_asks_for.nd rfl (.inl rfl) (ex_lst as_nil))
    (bx_cons (sx_for PassesOwn.never rfl (ix_range1 (by rfl) G.b_range (ex_var (pv 0))) (gx_name sc_asks_for.nd rfl (.inl rfl)) (bx_cons (sx_asg (ex_tup (as_cons (ax_val (ex_int)) (as_cons (ax_val (ex_int)) as_nil))) (gx_tup rfl (gsx_cons (gx_name sc_asks_for.nd rfl (.inl rfl)) (gsx_cons (gx_name sc_asks_for.nd rfl (.inl rfl)) gsx_nil))))
    (bx_cons (sx_for PassesOwn.never rfl (ix_zip (by rfl) G.b_zip (ex_var (pv 1)) (ex_var (pv 2))) (gx_tup rfl (gsx_cons (gx_name sc_asks_for.nd rfl (.inl rfl)) (gsx_cons (gx_name sc_asks_for.nd rfl (.inl rfl)) gsx_nil))) (bx_one (sx_par (i := 5) (j := 6) rfl sc_asks_for.nd rfl rfl (by decide) rfl rfl (ex_bin (ox_mod) (ax_val (ex_bin (ox_mul) (ax_var (pv 5)) (ax_val (ex_bin (ox_sub) (ax_var (pv 4)) (ax_var (pv 7)))))) (ax_var (pv 0))) (ex_bin (ox_mod) (ax_val (ex_bin (ox_mul) (ax_var (pv 6)) (ax_val (ex_bin (ox_sub) (ax_var (pv 4)) (ax_var (pv 8)))))) (ax_var (pv 0))) (by rfl))))
    (bx_one (sx_if (tx_cmp (ox_eq (hu64 hr)) (ax_var (pv 5)) (ax_var (pv 6)) (by rfl)) (bx_one (sx_expr (ex_meth (k := .lst) rfl PySem.F.plainAttrs_list PySem.F.slot_list_append PySem.F.type_list_append mx_append (ax_var (pv 3)) (as_cons (ax_var (pv 4)) as_nil)))) (bx_nil))))))
    (bx_one (sx_ret (ex_callTy fx_tuple (by rfl) G.b_tuple bt_tuple (as_cons (ax_var (pv 3)) as_nil)))))))
/-! ### named -/
abbrev s_named : Stmt := topS 38
theorem sc_named : FnScope ["program", "word", "name", "form"] ["program", "word"] (defScope s_named) := ⟨rfl, rfl, rfl, by decide +kernel, rfl, by decide +kernel, by decide +kernel⟩
def b_named : SM :=
  mRet (mCall gTuple [.val (mComp [2, 3] (mIterA (mCall gIx [.var 0, .val (mC (.int 1))])) (mGTup 2 (mGCons (mGName 2) (mGCons (mGName 3) (mGNil)))) (tOf (mCall (gR2 (fEq false)) [.val (mCall gIx [.var 3, .val (mC (.int 0))]), .var 1])) (mVar 2))])
def py_named : PM := mkF 4 b_named
theorem ok_named (G : Gb K w mg)  {a : Addr} {fd : FuncData} (F : L2.Fun K "named" "named" s_named a fd) (hm : mg "named" = some (.ref a)) : Def P w K mg base 1 "named" 2 py_named :=
  def_mk F hm sc_named (F.binds (ps := ["program", "word"]) fun _ _ _ _ _ _ us hl => match us, hl with | [_, _], _ => rfl) rfl fun cdv hcd A outer s H E hr =>
    (show BX _ _ b_named from bx_one (sx_ret (ex_callTy fx_tuple (by rfl) G.b_tuple bt_tuple (as_cons (ax_val (ex_lc rfl sc_named.nd (ix_any (ex_ix (iox (hu64 hr)) (ax_var (pv 0)) (ax_val (ex_int)) (fun _ _ => rfl))) (blkOk_by (own := [("name", 2), ("form", 3)]) (by kernel_rfl)) (by decide) (fun _ _ _ _ _ => gx_tup rfl (gsx_cons (gx_name sc_named.nd rfl (.inl rfl)) (gsx_cons (gx_name sc_named.nd rfl (.inl rfl)) gsx_nil))) (fun _ _ _ _ _ => tsx_one (tx_cmp (ox_eq (hu64 hr)) (ax_val (ex_ix (iox (hu64 hr)) (ax_var (pv 3)) (ax_val (ex_int)) (fun _ _ => rfl))) (ax_var (pv 1)) (by rfl))) (fun _ _ _ _ _ => ex_var (pv 2)))) as_nil))))
/-! ### together -/
abbrev s_together : Stmt := topS 56
theorem sc_together : FnScope ["p", "word", "one", "other", "couples", "mine", "its"] ["p", "word", "one", "other"] (defScope s_together) := ⟨rfl, rfl, rfl, by decide +kernel, rfl, by decide +kernel, by decide +kernel⟩
def b_together : SM :=
  mSeq (mSet 4 (mCall gLZ [.var 2, .var 3]))
  (mSeq (mIfS (tOf (mCall (gR2 (fEq false)) [.var 1, .val (mC (.str "add"))])) (mRet (mCall gTuple [.val (mComp [5, 6] (mIterA (mVar 4)) (mGTup 2 (mGCons (mGName 5) (mGCons (mGName 6) (mGNil)))) (mYes) (mCall (gR2 fMod) [.val (mCall (gAdd) [.var 5, .var 6]), .var 0]))])) (mPass))
  (mSeq (mIfS (tOf (mCall (gR2 (fEq false)) [.var 1, .val (mC (.str "sub"))])) (mRet (mCall gTuple [.val (mComp [5, 6] (mIterA (mVar 4)) (mGTup 2 (mGCons (mGName 5) (mGCons (mGName 6) (mGNil)))) (mYes) (mCall (gR2 fMod) [.val (mCall (gR2 fSub) [.var 5, .var 6]), .var 0]))])) (mPass))
  (mRet (mCall gTuple [.val (mComp [5, 6] (mIterA (mVar 4)) (mGTup 2 (mGCons (mGName 5) (mGCons (mGName 6) (mGNil)))) (mYes) (mCall (gR2 fMod) [.val (mCall (gMul) [.var 5, .var 6]), .var 0]))]))))
def py_together : PM := mkF 7 b_together
theorem ok_together (G : Gb K w mg)  {a : Addr} {fd : FuncData} (F : L2.Fun K "together" "together" s_together a fd) (hm : mg "together" = some (.ref a)) : Def P w K mg base 1 "together" 4 py_together :=
  def_mk F hm sc_together (F.binds (ps := ["p", "word", "one", "other"]) fun _ _ _ _ _ _ us hl => match us, hl with | [_, _, _, _], _ => rfl) rfl fun cdv hcd A outer s H E hr =>
    (show BX _ _ b_together from bx_cons (sx_set (i := 4) sc_together.nd rfl (.inl rfl) (ex_listZip rfl (by rfl) G.b_list (by rfl) G.b_zip (as_cons (ax_var (pv 2)) (as_cons (ax_var (pv 3)) as_nil))))
    (bx_cons (sx_if (tx_cmp (ox_eq (hu64 hr)) (ax_var (pv 1)) (ax_val (ex_str)) (by rfl)) (bx_one (sx_ret (ex_callTy fx_tuple (by rfl) G.b_tuple bt_tuple (as_cons (ax_val (ex_lc rfl sc_together.nd (ix_any (ex_var (pv 4))) (blkOk_by (own := [("mine", 5), ("its", 6)]) (by kernel_rfl)) (by decide) (fun _ _ _ _ _ => gx_tup rfl (gsx_cons (gx_name sc_together.nd rfl (.inl rfl)) (gsx_cons (gx_name sc_together.nd rfl (.inl rfl)) gsx_nil))) (fun _ _ _ _ _ => tsx_nil) (fun _ _ _ _ _ => ex_bin (ox_mod) (ax_val (ex_bin (ox_add) (ax_var (pv 5)) (ax_var (pv 6)))) (ax_var (pv 0))))) as_nil)))) (bx_nil))
    (bx_cons (sx_if (tx_cmp (ox_eq (hu64 hr)) (ax_var (pv 1)) (ax_val (ex_str)) (by rfl)) (bx_one (sx_ret (ex_callTy fx_tuple (by rfl) G.b_tuple bt_tuple (as_cons (ax_val (ex_lc rfl sc_together.nd (ix_any (ex_var (pv 4))) (blkOk_by (own := [("mine", 5), ("its", 6)]) (by kernel_rfl)) (by decide) (fun _ _ _ _ _ => gx_tup rfl (gsx_cons (gx_name sc_together.nd rfl (.inl rfl)) (gsx_cons (gx_name sc_together.nd rfl (.inl rfl)) gsx_nil))) (fun _ _ _ _ _ => tsx_nil) (fun _ _ _ _ _ => ex_bin (ox_mod) (ax_val (ex_bin (ox_sub) (ax_var (pv 5)) (ax_var (pv 6)))) (ax_var (pv 0))))) as_nil)))) (bx_nil))
    (bx_one (sx_ret (ex_callTy fx_tuple (by rfl) G.b_tuple bt_tuple (as_cons (ax_val (ex_lc rfl sc_together.nd (ix_any (ex_var (pv 4))) (blkOk_by (own := [("mine", 5), ("its", 6)]) (by kernel_rfl)) (by decide) (fun _ _ _ _ _ => gx_tup rfl (gsx_cons (gx_name sc_together.nd rfl (.inl rfl)) (gsx_cons (gx_name sc_together.nd rfl (.inl rfl)) gsx_nil))) (fun _ _ _ _ _ => tsx_nil) (fun _ _ _ _ _ => ex_bin (ox_mod) (ax_val (ex_bin (ox_mul) (ax_var (pv 5)) (ax_var (pv 6)))) (ax_var (pv 0))))) as_nil)))))))
/-! ### picked -/
abbrev s_picked : Stmt := topS 57
theorem sc_picked : FnScope ["p", "choice", "one", "other", "bit", "mine", "its"] ["p", "choice", "one", "other"] (defScope s_picked) := ⟨rfl, rfl, rfl, by decide +kernel, rfl, by decide +kernel, by decide +kernel⟩
def b_picked : SM :=
  mRet (mCall gTuple [.val (fun _ => none)])
def py_picked : PM := mkF 7 b_picked
theorem ok_picked (G : Gb K w mg)  {a : Addr} {fd : FuncData} (F : L2.Fun K "picked" "picked" s_picked a fd) (hm : mg "picked" = some (.ref a)) : Def P w K mg base 1 "picked" 4 py_picked :=
  def_mk F hm sc_picked (F.binds (ps := ["p", "choice", "one", "other"]) fun _ _ _ _ _ _ us hl => match us, hl with | [_, _, _, _], _ => rfl) rfl fun cdv hcd A outer s H E hr =>
    (show BX _ _ b_picked from bx_one (sx_ret (ex_callTy fx_tuple (by rfl) G.b_tuple bt_tuple (as_cons (ax_val (ex_never)) as_nil))))
/-! ### folded -/
abbrev s_folded : Stmt := topS 50
theorem sc_folded : FnScope ["p", "table", "bits", "many", "first"] ["p", "table", "bits"] (defScope s_folded) := ⟨rfl, rfl, rfl, by decide +kernel, rfl, by decide +kernel, by decide +kernel⟩
def b_folded : SM :=
  mSeq (mSet 3 (mCall (gR2 fShl) [.val (mC (.int 1)), .var 2]))
  (mRet (mCall gTuple [.val (fun _ => none)]))
def py_folded : PM := mkF 5 b_folded
theorem ok_folded (G : Gb K w mg)  {a : Addr} {fd : FuncData} (F : L2.Fun K "folded" "folded" s_folded a fd) (hm : mg "folded" = some (.ref a)) : Def P w K mg base 1 "folded" 3 py_folded :=
  def_mk F hm sc_folded (F.binds (ps := ["p", "table", "bits"]) fun _ _ _ _ _ _ us hl => match us, hl with | [_, _, _], _ => rfl) rfl fun cdv hcd A outer s H E hr =>
    (show BX _ _ b_folded from bx_cons (sx_set (i := 3) sc_folded.nd rfl (.inr rfl) (ex_bin (ox_shl) (ax_val (ex_int)) (ax_var (pv 2))))
    (bx_one (sx_ret (ex_callTy fx_tuple (by rfl) G.b_tuple bt_tuple (as_cons (ax_val (ex_never)) as_nil)))))
/-! ### spread -/
abbrev s_spread : Stmt := topS 51
theorem sc_spread : FnScope ["table", "bits", "number", "turn"] ["table", "bits"] (defScope s_spread) := ⟨rfl, rfl, rfl, by decide +kernel, rfl, by decide +kernel, by decide +kernel⟩
def b_spread : SM :=
  mRet (mCall gTuple [.val (mComp2 [2, 3] [3] (mIterA (mVar 0)) (mGName 2) (mYes) (mRange1 (mCall (gR2 fShl) [.val (mC (.int 1)), .var 1])) (mGName 3) (mYes) (mVar 2))])
def py_spread : PM := mkF 4 b_spread
theorem ok_spread (G : Gb K w mg)  {a : Addr} {fd : FuncData} (F : L2.Fun K "spread" "spread" s_spread a fd) (hm : mg "spread" = some (.ref a)) : Def P w K mg base 1 "spread" 2 py_spread :=
  def_mk F hm sc_spread (F.binds (ps := ["table", "bits"]) fun _ _ _ _ _ _ us hl => match us, hl with | [_, _], _ => rfl) rfl fun cdv hcd A outer s H E hr =>
    (show BX _ _ b_spread from bx_one (sx_ret (ex_callTy fx_tuple (by rfl) G.b_tuple bt_tuple (as_cons (ax_val (ex_lc2 (vs1 := [3]) rfl sc_spread.nd (ix_any (ex_var (pv 0))) (blkOk_by (own := [("number", 2), ("turn", 3)]) (by kernel_rfl)) (by decide) (by decide) (by decide) (fun _ _ _ _ _ => gx_name sc_spread.nd rfl (.inl rfl)) (fun _ _ _ _ _ => tsx_nil) (fun _ _ _ _ _ => ix_range1 (by rfl) G.b_range (ex_bin (ox_shl) (ax_val (ex_int)) (ax_var (pv 1)))) (fun _ _ _ _ _ => gx_name sc_spread.nd rfl (.inl rfl)) (fun _ _ _ _ _ => tsx_nil) (fun _ _ _ _ _ => ex_var (pv 2)))) as_nil))))
/-! ### half_of -/
abbrev s_half_of : Stmt := topS 52
theorem sc_half_of : FnScope ["table", "bit", "half"] ["table", "bit"] (defScope s_half_of) := ⟨rfl, rfl, rfl, by decide +kernel, rfl, by decide +kernel, by decide +kernel⟩
def b_half_of : SM :=
  mSeq (mSet 2 (mCall (gR2 fDiv) [.val (mCall gLen [.var 0]), .val (mC (.int 2))]))
  (mRet (mIf (tOf (mCall (gR2 (fEq false)) [.var 1, .val (mC (.int 1))])) (mSlice (.var 0) (some (mVar 2)) none) (mSlice (.var 0) none (some (mVar 2)))))
def py_half_of : PM := mkF 3 b_half_of
theorem ok_half_of (G : Gb K w mg)  {a : Addr} {fd : FuncData} (F : L2.Fun K "half_of" "half_of" s_half_of a fd) (hm : mg "half_of" = some (.ref a)) : Def P w K mg base 1 "half_of" 2 py_half_of :=
  def_mk F hm sc_half_of (F.binds (ps := ["table", "bit"]) fun _ _ _ _ _ _ us hl => match us, hl with | [_, _], _ => rfl) rfl fun cdv hcd A outer s H E hr =>
    (show BX _ _ b_half_of from bx_cons (sx_set (i := 2) sc_half_of.nd rfl (.inl rfl) (ex_bin (ox_div) (ax_val (ex_callB (fx_len) (by rfl) G.b_len bt_len (as_cons (ax_var (pv 0)) as_nil))) (ax_val (ex_int))))
    (bx_one (sx_ret (ex_if (tx_cmp (ox_eq (hu64 hr)) (ax_var (pv 1)) (ax_val (ex_int)) (by rfl)) (ex_slice (ax_var (pv 0)) (px_some (ex_var (pv 2))) px_none) (ex_slice (ax_var (pv 0)) px_none (px_some (ex_var (pv 2))))))))
/-! ### moved_index -/
abbrev s_moved_index : Stmt := topS 53
theorem sc_moved_index : FnScope ["index", "order", "found", "last", "place"] ["index", "order"] (defScope s_moved_index) := ⟨rfl, rfl, rfl, by decide +kernel, rfl, by decide +kernel, by decide +kernel⟩
def b_moved_index : SM :=
  mSeq (mPar 2 3 (mC (.int 0)) (mCall (gR2 fSub) [.val (mCall gLen [.var 1]), .val (mC (.int 1))]))
  (mSeq (mFor (mIterA (mVar 1)) (mGName 4) (mSet 2 (mCall (gAdd) [.val (mCall (gMul) [.var 2, .val (mC (.int 2))]), .val (mCall (gR2 fAnd) [.val (mCall (gR2 fShr) [.var 0, .val (mCall (gR2 fSub) [.var 3, .var 4])]), .val (mC (.int 1))])])))
  (mRetV 2))
def py_moved_index : PM := mkF 5 b_moved_index
theorem ok_moved_index (G : Gb K w mg)  {a : Addr} {fd : FuncData} (F : L2.Fun K "moved_index" "moved_index" s_moved_index a fd) (hm : mg "moved_index" = some (.ref a)) : Def P w K mg base 1 "moved_index" 2 py_moved_index :=
  def_mk F hm sc_moved_index (F.binds (ps := ["index", "order"]) fun _ _ _ _ _ _ us hl => match us, hl with | [_, _], _ => rfl) rfl fun cdv hcd A outer s H E hr =>
    (show BX _ _ b_moved_index from bx_cons (sx_par (i := 2) (j := 3) rfl sc_moved_index.nd rfl rfl (by decide) rfl rfl (ex_int) (ex_bin (ox_sub) (ax_val (ex_callB (fx_len) (by rfl) G.b_len bt_len (as_cons (ax_var (pv 1)) as_nil))) (ax_val (ex_int))) (by rfl))
    (bx_cons (sx_for PassesOwn.never rfl (ix_any (ex_var (pv 1))) (gx_name sc_moved_index.nd rfl (.inl rfl)) (bx_one (sx_set (i := 2) sc_moved_index.nd rfl (.inl rfl) (ex_bin (ox_add) (ax_val (ex_bin (ox_mul) (ax_var (pv 2)) (ax_val (ex_int)))) (ax_val (ex_bin (ox_and) (ax_val (ex_bin (ox_shr) (ax_var (pv 0)) (ax_val (ex_bin (ox_sub) (ax_var (pv 3)) (ax_var (pv 4)))))) (ax_val (ex_int))))))))
    (bx_one (sx_retV (pv 2)))))
/-! ### turned -/
abbrev s_turned : Stmt := topS 54
theorem sc_turned : FnScope ["table", "order", "index"] ["table", "order"] (defScope s_turned) := ⟨rfl, rfl, rfl, by decide +kernel, rfl, by decide +kernel, by decide +kernel⟩
def b_turned : SM :=
  mRet (mCall gTuple [.val (mComp [2] (mRange1 (mCall gLen [.var 0])) (mGName 2) (mYes) (mCall gIx [.var 0, .val (mCall py_moved_index [.var 2, .var 1])]))])
def py_turned : PM := mkF 3 b_turned
theorem ok_turned (G : Gb K w mg) (D_moved_index : Def P w K mg base 1 "moved_index" 2 py_moved_index) {a : Addr} {fd : FuncData} (F : L2.Fun K "turned" "turned" s_turned a fd) (hm : mg "turned" = some (.ref a)) : Def P w K mg base 2 "turned" 2 py_turned :=
  def_mk F hm sc_turned (F.binds (ps := ["table", "order"]) fun _ _ _ _ _ _ us hl => match us, hl with | [_, _], _ => rfl) rfl fun cdv hcd A outer s H E hr =>
    (show BX _ _ b_turned from bx_one (sx_ret (ex_callTy fx_tuple (by rfl) G.b_tuple bt_tuple (as_cons (ax_val (ex_lc rfl sc_turned.nd (ix_range1 (by rfl) G.b_range (ex_callB (fx_len) (by rfl) G.b_len bt_len (as_cons (ax_var (pv 0)) as_nil))) (blkOk_by (own := [("index", 2)]) (by kernel_rfl)) (by decide) (fun _ _ _ _ _ => gx_name sc_turned.nd rfl (.inl rfl)) (fun _ _ _ _ _ => tsx_nil) (fun _ _ _ _ _ => ex_ix (iox (hu64 hr)) (ax_var (pv 0)) (ax_val (ex_call D_moved_index hr (by omega) (by rfl) (as_cons (ax_var (pv 2)) (as_cons (ax_var (pv 1)) as_nil)) rfl)) (fun _ _ => rfl)))) as_nil))))
/-! ### multiplied -/
abbrev s_multiplied : Stmt := topS 55
theorem sc_multiplied : FnScope ["p", "one", "other", "bits", "many", "wide", "found", "first", "last", "at"] ["p", "one", "other", "bits"] (defScope s_multiplied) := ⟨rfl, rfl, rfl, by decide +kernel, rfl, by decide +kernel, by decide +kernel⟩
def b_multiplied : SM :=
  mSeq (mSet 4 (mCall (gR2 fShl) [.val (mC (.int 1)), .var 3]))
  (mSeq (mAsg (mCall gTup [.val (mCall (gR2 fDiv) [.val (mCall gLen [.var 2]), .var 4]), .val (mCall gLst [])]) (mGTup 2 (mGCons (mGName 5) (mGCons (mGName 6) (mGNil)))))
  (mSeq (mNever)
  (mRet (mCall gTuple [.var 6]))))
def py_multiplied : PM := mkF 10 b_multiplied
theorem ok_multiplied (G : Gb K w mg)  {a : Addr} {fd : FuncData} (F : L2.Fun K "multiplied" "multiplied" s_multiplied a fd) (hm : mg "multiplied" = some (.ref a)) : Def P w K mg base 1 "multiplied" 4 py_multiplied :=
  def_mk F hm sc_multiplied (F.binds (ps := ["p", "one", "other", "bits"]) fun _ _ _ _ _ _ us hl => match us, hl with | [_, _, _, _], _ => rfl) rfl fun cdv hcd A outer s H E hr =>
    (show BX _ _ b_multiplied from bx_cons (sx_set (i := 4) sc_multiplied.nd rfl (.inl rfl) (ex_bin (ox_shl) (ax_val (ex_int)) (ax_var (pv 3))))
    (bx_cons (sx_asg (ex_tup (as_cons (ax_val (ex_bin (ox_div) (ax_val (ex_callB (fx_len) (by rfl) G.b_len bt_len (as_cons (ax_var (pv 2)) as_nil))) (ax_var (pv 4)))) (as_cons (ax_val (ex_lst as_nil)) as_nil))) (gx_tup rfl (gsx_cons (gx_name sc_multiplied.nd rfl (.inr rfl)) (gsx_cons (gx_name sc_multiplied.nd rfl (.inl rfl)) gsx_nil))))
    (bx_cons (sx_never)
    (bx_one (sx_ret (ex_callTy fx_tuple (by rfl) G.b_tuple bt_tuple (as_cons (ax_var (pv 6)) as_nil)))))))
/-! ### form_table -/
abbrev s_form_table : Stmt := topS 59
theorem sc_form_table : FnScope ["p", "form", "tables", "word", "one"] ["p", "form", "tables"] (defScope s_form_table) := ⟨rfl, rfl, rfl, by decide +kernel, rfl, by decide +kernel, by decide +kernel⟩
def b_form_table : SM :=
  mSeq (mPar 3 4 (mCall gIx [.var 1, .val (mC (.int 0))]) (mCall gIx [.var 2, .val (mCall gIx [.var 1, .val (mC (.int 1))])]))
  (mSeq (mIfS (tOf (mCall (gR2 (fIn false)) [.var 3, .val (mCall gTup [.val (mC (.str "add")), .val (mC (.str "sub")), .val (mC (.str "mul"))])])) (mRet (mCall py_together [.var 0, .var 3, .var 4, .val (mCall gIx [.var 2, .val (mCall gIx [.var 1, .val (mC (.int 2))])])])) (mPass))
  (mSeq (mIfS (tOf (mCall (gR2 (fEq false)) [.var 3, .val (mC (.str "pick"))])) (mRet (mCall py_picked [.var 0, .var 4, .val (mCall gIx [.var 2, .val (mCall gIx [.var 1, .val (mC (.int 2))])]), .val (mCall gIx [.var 2, .val (mCall gIx [.var 1, .val (mC (.int 3))])])])) (mPass))
  (mSeq (mIfS (tOf (mCall (gR2 (fEq false)) [.var 3, .val (mC (.str "sum"))])) (mRet (mCall py_folded [.var 0, .var 4, .val (mCall gIx [.var 1, .val (mC (.int 2))])])) (mPass))
  (mSeq (mIfS (tOf (mCall (gR2 (fEq false)) [.var 3, .val (mC (.str "spread"))])) (mRet (mCall py_spread [.var 4, .val (mCall gIx [.var 1, .val (mC (.int 2))])])) (mPass))
  (mSeq (mIfS (tOf (mCall (gR2 (fIn false)) [.var 3, .val (mCall gTup [.val (mC (.str "low")), .val (mC (.str "high"))])])) (mRet (mCall py_half_of [.var 4, .val (mCall gInt [.val (mCall (gR2 (fEq false)) [.var 3, .val (mC (.str "high"))])])])) (mPass))
  (mSeq (mIfS (tOf (mCall (gR2 (fEq false)) [.var 3, .val (mC (.str "join"))])) (mRet (mCall (gAdd) [.var 4, .val (mCall gIx [.var 2, .val (mCall gIx [.var 1, .val (mC (.int 2))])])])) (mPass))
  (mRet (mIf (tOf (mCall (gR2 (fEq false)) [.var 3, .val (mC (.str "turn"))])) (mCall py_turned [.var 4, .val (mCall gIx [.var 1, .val (mC (.int 2))])]) (mCall py_multiplied [.var 0, .var 4, .val (mCall gIx [.var 2, .val (mCall gIx [.var 1, .val (mC (.int 2))])]), .val (mCall gIx [.var 1, .val (mC (.int 3))])])))))))))
def py_form_table : PM := mkF 5 b_form_table
theorem ok_form_table (G : Gb K w mg) (D_together : Def P w K mg base 1 "together" 4 py_together) (D_picked : Def P w K mg base 1 "picked" 4 py_picked) (D_folded : Def P w K mg base 1 "folded" 3 py_folded) (D_spread : Def P w K mg base 1 "spread" 2 py_spread) (D_half_of : Def P w K mg base 1 "half_of" 2 py_half_of) (D_turned : Def P w K mg base 2 "turned" 2 py_turned) (D_multiplied : Def P w K mg base 1 "multiplied" 4 py_multiplied) {a : Addr} {fd : FuncData} (F : L2.Fun K "form_table" "form_table" s_form_table a fd) (hm : mg "form_table" = some (.ref a)) : Def P w K mg base 3 "form_table" 3 py_form_table :=
  def_mk F hm sc_form_table (F.binds (ps := ["p", "form", "tables"]) fun _ _ _ _ _ _ us hl => match us, hl with | [_, _, _], _ => rfl) rfl fun cdv hcd A outer s H E hr =>
    (show BX _ _ b_form_table from bx_cons (sx_par (i := 3) (j := 4) rfl sc_form_table.nd rfl rfl (by decide) rfl rfl (ex_ix (iox (hu64 hr)) (ax_var (pv 1)) (ax_val (ex_int)) (fun _ _ => rfl)) (ex_ix (iox (hu64 hr)) (ax_var (pv 2)) (ax_val (ex_ix (iox (hu64 hr)) (ax_var (pv 1)) (ax_val (ex_int)) (fun _ _ => rfl))) (fun _ _ => rfl)) (by rfl))
    (bx_cons (sx_if (tx_cmp (ox_in (hu64 hr)) (ax_var (pv 3)) (ax_val (ex_tup (as_cons (ax_val (ex_str)) (as_cons (ax_val (ex_str)) (as_cons (ax_val (ex_str)) as_nil))))) (by rfl)) (bx_one (sx_ret (ex_call D_together hr (by omega) (by rfl) (as_cons (ax_var (pv 0)) (as_cons (ax_var (pv 3)) (as_cons (ax_var (pv 4)) (as_cons (ax_val (ex_ix (iox (hu64 hr)) (ax_var (pv 2)) (ax_val (ex_ix (iox (hu64 hr)) (ax_var (pv 1)) (ax_val (ex_int)) (fun _ _ => rfl))) (fun _ _ => rfl))) as_nil)))) rfl))) (bx_nil))
    (bx_cons (sx_if (tx_cmp (ox_eq (hu64 hr)) (ax_var (pv 3)) (ax_val (ex_str)) (by rfl)) (bx_one (sx_ret (ex_call D_picked hr (by omega) (by rfl) (as_cons (ax_var (pv 0)) (as_cons (ax_var (pv 4)) (as_cons (ax_val (ex_ix (iox (hu64 hr)) (ax_var (pv 2)) (ax_val (ex_ix (iox (hu64 hr)) (ax_var (pv 1)) (ax_val (ex_int)) (fun _ _ => rfl))) (fun _ _ => rfl))) (as_cons (ax_val (ex_ix (iox (hu64 hr)) (ax_var (pv 2)) (ax_val (ex_ix (iox (hu64 hr)) (ax_var (pv 1)) (ax_val (ex_int)) (fun _ _ => rfl))) (fun _ _ => rfl))) as_nil)))) rfl))) (bx_nil))
    (bx_cons (sx_if (tx_cmp (ox_eq (hu64 hr)) (ax_var (pv 3)) (ax_val (ex_str)) (by rfl)) (bx_one (sx_ret (ex_call D_folded hr (by omega) (by rfl) (as_cons (ax_var (pv 0)) (as_cons (ax_var (pv 4)) (as_cons (ax_val (ex_ix (iox (hu64 hr)) (ax_var (pv 1)) (ax_val (ex_int)) (fun _ _ => rfl))) as_nil))) rfl))) (bx_nil))
    (bx_cons (sx_if (tx_cmp (ox_eq (hu64 hr)) (ax_var (pv 3)) (ax_val (ex_str)) (by rfl)) (bx_one (sx_ret (ex_call D_spread hr (by omega) (by rfl) (as_cons (ax_var (pv 4)) (as_cons (ax_val (ex_ix (iox (hu64 hr)) (ax_var (pv 1)) (ax_val (ex_int)) (fun _ _ => rfl))) as_nil)) rfl))) (bx_nil))
    (bx_cons (sx_if (tx_cmp (ox_in (hu64 hr)) (ax_var (pv 3)) (ax_val (ex_tup (as_cons (ax_val (ex_str)) (as_cons (ax_val (ex_str)) as_nil)))) (by rfl)) (bx_one (sx_ret (ex_call D_half_of hr (by omega) (by rfl) (as_cons (ax_var (pv 4)) (as_cons (ax_val (ex_callTy fx_int (by rfl) G.b_int bt_int (as_cons (ax_val (ex_cmp (ox_eq (hu64 hr)) (ax_var (pv 3)) (ax_val (ex_str)) (by rfl))) as_nil))) as_nil)) rfl))) (bx_nil))
    (bx_cons (sx_if (tx_cmp (ox_eq (hu64 hr)) (ax_var (pv 3)) (ax_val (ex_str)) (by rfl)) (bx_one (sx_ret (ex_bin (ox_add) (ax_var (pv 4)) (ax_val (ex_ix (iox (hu64 hr)) (ax_var (pv 2)) (ax_val (ex_ix (iox (hu64 hr)) (ax_var (pv 1)) (ax_val (ex_int)) (fun _ _ => rfl))) (fun _ _ => rfl)))))) (bx_nil))
    (bx_one (sx_ret (ex_if (tx_cmp (ox_eq (hu64 hr)) (ax_var (pv 3)) (ax_val (ex_str)) (by rfl)) (ex_call D_turned hr (by omega) (by rfl) (as_cons (ax_var (pv 4)) (as_cons (ax_val (ex_ix (iox (hu64 hr)) (ax_var (pv 1)) (ax_val (ex_int)) (fun _ _ => rfl))) as_nil)) rfl) (ex_call D_multiplied hr (by omega) (by rfl) (as_cons (ax_var (pv 0)) (as_cons (ax_var (pv 4)) (as_cons (ax_val (ex_ix (iox (hu64 hr)) (ax_var (pv 2)) (ax_val (ex_ix (iox (hu64 hr)) (ax_var (pv 1)) (ax_val (ex_int)) (fun _ _ => rfl))) (fun _ _ => rfl))) (as_cons (ax_val (ex_ix (iox (hu64 hr)) (ax_var (pv 1)) (ax_val (ex_int)) (fun _ _ => rfl))) as_nil)))) rfl)))))))))))
/-! ### run -/
abbrev s_run : Stmt := topS 60
theorem sc_run : FnScope ["program", "told", "sealed", "asks", "found", "name", "form", "table", "number"] ["program", "told", "sealed", "asks"] (defScope s_run) := ⟨rfl, rfl, rfl, by decide +kernel, rfl, by decide +kernel, by decide +kernel⟩
def b_run : SM :=
  mSeq (mSet 4 (mDComp [5, 7] (mZip (mCall py_named [.var 0, .val (mC (.str "told"))]) (mVar 1)) (mGTup 2 (mGCons (mGName 5) (mGCons (mGName 7) (mGNil)))) (mYes) (mVar 5) (mVar 7)))
  (mSeq (mExpr (mMeth .dic gUpd (.var 4) [.val (mDComp [5, 7] (mZip (mCall py_named [.var 0, .val (mC (.str "sealed"))]) (mVar 2)) (mGTup 2 (mGCons (mGName 5) (mGCons (mGName 7) (mGNil)))) (mYes) (mVar 5) (mVar 7))]))
  (mSeq (mExpr (mMeth .dic gUpd (.var 4) [.val (mDComp [5, 8] (mZip (mCall py_named [.var 0, .val (mC (.str "ask"))]) (mVar 3)) (mGTup 2 (mGCons (mGName 5) (mGCons (mGName 8) (mGNil)))) (mYes) (mVar 5) (mCall gTup [.var 8]))]))
  (mSeq (mFor (mIterA (mCall gIx [.var 0, .val (mC (.int 1))])) (mGTup 2 (mGCons (mGName 5) (mGCons (mGName 6) (mGNil)))) (mIfS (tOf (mCall (gR2 (fEq false)) [.val (mCall gIx [.var 6, .val (mC (.int 0))]), .val (mC (.str "numbers"))])) (mSetItem gSetL (.val (mCall gIx [.var 6, .val (mC (.int 1))])) (.var 4) (.var 5)) (mIfS (tOf (mCall (gR2 (fIn true)) [.var 5, .var 4])) (mSetItem gSetL (.val (mCall py_form_table [.val (mCall gIx [.var 0, .val (mC (.int 0))]), .var 6, .var 4])) (.var 4) (.var 5)) (mPass))))
  (mRet (mDComp [5, 6] (mIterA (mCall gIx [.var 0, .val (mC (.int 1))])) (mGTup 2 (mGCons (mGName 5) (mGCons (mGName 6) (mGNil)))) (mYes) (mVar 5) (mCall gIx [.var 4, .var 5]))))))
def py_run : PM := mkF 9 b_run
theorem ok_run (G : Gb K w mg) (D_named : Def P w K mg base 1 "named" 2 py_named) (D_form_table : Def P w K mg base 3 "form_table" 3 py_form_table) {a : Addr} {fd : FuncData} (F : L2.Fun K "run" "run" s_run a fd) (hm : mg "run" = some (.ref a)) : Def P w K mg base 4 "run" 4 py_run :=
  def_mk F hm sc_run (F.binds (ps := ["program", "told", "sealed", "asks"]) fun _ _ _ _ _ _ us hl => match us, hl with | [_, _, _, _], _ => rfl) rfl fun cdv hcd A outer s H E hr =>
    (show BX _ _ b_run from bx_cons (sx_set (i := 4) sc_run.nd rfl (.inr rfl) (ex_dc rfl sc_run.nd (ix_zip (by rfl) G.b_zip (ex_call D_named hr (by omega) (by rfl) (as_cons (ax_var (pv 0)) (as_cons (ax_val (ex_str)) as_nil)) rfl) (ex_var (pv 1))) (blkOk_by (own := [("name", 5), ("table", 7)]) (by kernel_rfl)) (by decide) (fun _ _ _ _ _ => gx_tup rfl (gsx_cons (gx_name sc_run.nd rfl (.inl rfl)) (gsx_cons (gx_name sc_run.nd rfl (.inl rfl)) gsx_nil))) (fun _ _ _ _ _ => tsx_nil) (fun _ _ _ _ _ => ex_var (pv 5)) (fun _ _ _ _ _ => ex_var (pv 7))))
    (bx_cons (sx_expr (ex_meth (k := .dic) rfl PySem.F.plainAttrs_dict PySem.F.slot_dict_update PySem.F.type_dict_update mx_update (ax_var (pv 4)) (as_cons (ax_val (ex_dc rfl sc_run.nd (ix_zip (by rfl) G.b_zip (ex_call D_named hr (by omega) (by rfl) (as_cons (ax_var (pv 0)) (as_cons (ax_val (ex_str)) as_nil)) rfl) (ex_var (pv 2))) (blkOk_by (own := [("name", 5), ("table", 7)]) (by kernel_rfl)) (by decide) (fun _ _ _ _ _ => gx_tup rfl (gsx_cons (gx_name sc_run.nd rfl (.inl rfl)) (gsx_cons (gx_name sc_run.nd rfl (.inl rfl)) gsx_nil))) (fun _ _ _ _ _ => tsx_nil) (fun _ _ _ _ _ => ex_var (pv 5)) (fun _ _ _ _ _ => ex_var (pv 7)))) as_nil)))
    (bx_cons (sx_expr (ex_meth (k := .dic) rfl PySem.F.plainAttrs_dict PySem.F.slot_dict_update PySem.F.type_dict_update mx_update (ax_var (pv 4)) (as_cons (ax_val (ex_dc rfl sc_run.nd (ix_zip (by rfl) G.b_zip (ex_call D_named hr (by omega) (by rfl) (as_cons (ax_var (pv 0)) (as_cons (ax_val (ex_str)) as_nil)) rfl) (ex_var (pv 3))) (blkOk_by (own := [("name", 5), ("number", 8)]) (by kernel_rfl)) (by decide) (fun _ _ _ _ _ => gx_tup rfl (gsx_cons (gx_name sc_run.nd rfl (.inl rfl)) (gsx_cons (gx_name sc_run.nd rfl (.inl rfl)) gsx_nil))) (fun _ _ _ _ _ => tsx_nil) (fun _ _ _ _ _ => ex_var (pv 5)) (fun _ _ _ _ _ => ex_tup (as_cons (ax_var (pv 8)) as_nil)))) as_nil)))
    (bx_cons (sx_for PassesOwn.never rfl (ix_any (ex_ix (iox (hu64 hr)) (ax_var (pv 0)) (ax_val (ex_int)) (fun _ _ => rfl))) (gx_tup rfl (gsx_cons (gx_name sc_run.nd rfl (.inl rfl)) (gsx_cons (gx_name sc_run.nd rfl (.inl rfl)) gsx_nil))) (bx_one (sx_if (tx_cmp (ox_eq (hu64 hr)) (ax_val (ex_ix (iox (hu64 hr)) (ax_var (pv 6)) (ax_val (ex_int)) (fun _ _ => rfl))) (ax_val (ex_str)) (by rfl)) (bx_one (sx_setItem (ax_val (ex_ix (iox (hu64 hr)) (ax_var (pv 6)) (ax_val (ex_int)) (fun _ _ => rfl))) (ax_var (pv 4)) (ax_var (pv 5)) (setxL (hu64 hr)))) (bx_one (sx_if (tx_cmp (ox_notIn (hu64 hr)) (ax_var (pv 5)) (ax_var (pv 4)) (by rfl)) (bx_one (sx_setItem (ax_val (ex_call D_form_table hr (by omega) (by rfl) (as_cons (ax_val (ex_ix (iox (hu64 hr)) (ax_var (pv 0)) (ax_val (ex_int)) (fun _ _ => rfl))) (as_cons (ax_var (pv 6)) (as_cons (ax_var (pv 4)) as_nil))) rfl)) (ax_var (pv 4)) (ax_var (pv 5)) (setxL (hu64 hr)))) (bx_nil))))))
    (bx_one (sx_ret (ex_dc rfl sc_run.nd (ix_any (ex_ix (iox (hu64 hr)) (ax_var (pv 0)) (ax_val (ex_int)) (fun _ _ => rfl))) (blkOk_by (own := [("name", 5), ("form", 6)]) (by kernel_rfl)) (by decide) (fun _ _ _ _ _ => gx_tup rfl (gsx_cons (gx_name sc_run.nd rfl (.inl rfl)) (gsx_cons (gx_name sc_run.nd rfl (.inl rfl)) gsx_nil))) (fun _ _ _ _ _ => tsx_nil) (fun _ _ _ _ _ => ex_var (pv 5)) (fun _ _ _ _ _ => ex_ix (iox (hu64 hr)) (ax_var (pv 4)) (ax_var (pv 5)) (fun _ _ => rfl)))))))))
/-! ### is_true -/
abbrev s_is_true : Stmt := topS 61
theorem sc_is_true : FnScope ["program", "claim", "asks", "tables", "name", "number"] ["program", "claim", "asks"] (defScope s_is_true) := ⟨rfl, rfl, rfl, by decide +kernel, rfl, by decide +kernel, by decide +kernel⟩
def b_is_true : SM :=
  mSeq (mSet 3 (mCall py_run [.var 0, .val (mCall gIx [.var 1, .val (mC (.int 0))]), .val (mCall gIx [.var 1, .val (mC (.int 1))]), .var 2]))
  (mSeq (mIfS (tOf (mCall (gR2 (fEq true)) [.val (mCall gTuple [.val (mComp [4] (mIterA (mCall gIx [.var 0, .val (mC (.int 2))])) (mGName 4) (mYes) (mCall gIx [.var 3, .var 4]))]), .val (mCall gIx [.var 1, .val (mC (.int 2))])])) (mRet (mC (.bl false))) (mPass))
  (mRet (mCall gAll [.val (mComp2 [4, 5] [5] (mIterA (mCall gIx [.var 0, .val (mC (.int 3))])) (mGName 4) (mYes) (mIterA (mCall gIx [.var 3, .var 4])) (mGName 5) (mYes) (mCall (gR2 (fEq false)) [.var 5, .val (mC (.int 0))]))])))
def py_is_true : PM := mkF 6 b_is_true
theorem ok_is_true (G : Gb K w mg) (D_run : Def P w K mg base 4 "run" 4 py_run) {a : Addr} {fd : FuncData} (F : L2.Fun K "is_true" "is_true" s_is_true a fd) (hm : mg "is_true" = some (.ref a)) : Def P w K mg base 5 "is_true" 3 py_is_true :=
  def_mk F hm sc_is_true (F.binds (ps := ["program", "claim", "asks"]) fun _ _ _ _ _ _ us hl => match us, hl with | [_, _, _], _ => rfl) rfl fun cdv hcd A outer s H E hr =>
    (show BX _ _ b_is_true from bx_cons (sx_set (i := 3) sc_is_true.nd rfl (.inr rfl) (ex_call D_run hr (by omega) (by rfl) (as_cons (ax_var (pv 0)) (as_cons (ax_val (ex_ix (iox (hu64 hr)) (ax_var (pv 1)) (ax_val (ex_int)) (fun _ _ => rfl))) (as_cons (ax_val (ex_ix (iox (hu64 hr)) (ax_var (pv 1)) (ax_val (ex_int)) (fun _ _ => rfl))) (as_cons (ax_var (pv 2)) as_nil)))) rfl))
    (bx_cons (sx_if (tx_cmp (ox_ne (hu64 hr)) (ax_val (ex_callTy fx_tuple (by rfl) G.b_tuple bt_tuple (as_cons (ax_val (ex_lc rfl sc_is_true.nd (ix_any (ex_ix (iox (hu64 hr)) (ax_var (pv 0)) (ax_val (ex_int)) (fun _ _ => rfl))) (blkOk_by (own := [("name", 4)]) (by kernel_rfl)) (by decide) (fun _ _ _ _ _ => gx_name sc_is_true.nd rfl (.inl rfl)) (fun _ _ _ _ _ => tsx_nil) (fun _ _ _ _ _ => ex_ix (iox (hu64 hr)) (ax_var (pv 3)) (ax_var (pv 4)) (fun _ _ => rfl)))) as_nil))) (ax_val (ex_ix (iox (hu64 hr)) (ax_var (pv 1)) (ax_val (ex_int)) (fun _ _ => rfl))) (by rfl)) (bx_one (sx_ret (ex_bl))) (bx_nil))
    (bx_one (sx_ret (ex_callB (fx_all rfl) (by rfl) G.b_all bt_all (as_cons (ax_val (ex_lc2 (vs1 := [5]) rfl sc_is_true.nd (ix_any (ex_ix (iox (hu64 hr)) (ax_var (pv 0)) (ax_val (ex_int)) (fun _ _ => rfl))) (blkOk_by (own := [("name", 4), ("number", 5)]) (by kernel_rfl)) (by decide) (by decide) (by decide) (fun _ _ _ _ _ => gx_name sc_is_true.nd rfl (.inl rfl)) (fun _ _ _ _ _ => tsx_nil) (fun _ _ _ _ _ => ix_any (ex_ix (iox (hu64 hr)) (ax_var (pv 3)) (ax_var (pv 4)) (fun _ _ => rfl))) (fun _ _ _ _ _ => gx_name sc_is_true.nd rfl (.inl rfl)) (fun _ _ _ _ _ => tsx_nil) (fun _ _ _ _ _ => ex_cmp (ox_eq (hu64 hr)) (ax_var (pv 5)) (ax_val (ex_int)) (by rfl)))) as_nil))))))
/-! ### _law_size -/
abbrev s__law_size : Stmt := topS 70
theorem sc__law_size : FnScope ["table", "found", "many"] ["table"] (defScope s__law_size) := ⟨rfl, rfl, rfl, by decide +kernel, rfl, by decide +kernel, by decide +kernel⟩
def b__law_size : SM :=
  mSeq (mAsg (mCall gTup [.val (mC (.int 0)), .val (mC (.int 1))]) (mGTup 2 (mGCons (mGName 1) (mGCons (mGName 2) (mGNil)))))
  (mSeq (whileM (tOf (mCall (gR2 fLt) [.var 2, .val (mCall gLen [.var 0])])) (mPar 1 2 (mCall (gAdd) [.var 1, .val (mC (.int 1))]) (mCall (gMul) [.var 2, .val (mC (.int 2))])) 100000)
  (mRetV 1))
def py__law_size : PM := mkF 3 b__law_size
theorem ok__law_size (G : Gb K w mg)  {a : Addr} {fd : FuncData} (F : L2.Fun K "_law_size" "_law_size" s__law_size a fd) (hm : mg "_law_size" = some (.ref a)) : Def P w K mg base 1 "_law_size" 1 py__law_size :=
  def_mk F hm sc__law_size (F.binds (ps := ["table"]) fun _ _ _ _ _ _ us hl => match us, hl with | [_], _ => rfl) rfl fun cdv hcd A outer s H E hr =>
    (show BX _ _ b__law_size from bx_cons (sx_asg (ex_tup (as_cons (ax_val (ex_int)) (as_cons (ax_val (ex_int)) as_nil))) (gx_tup rfl (gsx_cons (gx_name sc__law_size.nd rfl (.inl rfl)) (gsx_cons (gx_name sc__law_size.nd rfl (.inl rfl)) gsx_nil))))
    (bx_cons (sx_while 100000 PassesOwn.never (tx_cmp (ox_lt) (ax_var (pv 2)) (ax_val (ex_callB (fx_len) (by rfl) G.b_len bt_len (as_cons (ax_var (pv 0)) as_nil))) (by rfl)) (bx_one (sx_par (i := 1) (j := 2) rfl sc__law_size.nd rfl rfl (by decide) rfl rfl (ex_bin (ox_add) (ax_var (pv 1)) (ax_val (ex_int))) (ex_bin (ox_mul) (ax_var (pv 2)) (ax_val (ex_int))) (by rfl))))
    (bx_one (sx_retV (pv 1)))))
/-! ### _law_bits -/
abbrev s__law_bits : Stmt := topS 68
theorem sc__law_bits : FnScope ["index", "many", "at"] ["index", "many"] (defScope s__law_bits) := ⟨rfl, rfl, rfl, by decide +kernel, rfl, by decide +kernel, by decide +kernel⟩
def b__law_bits : SM :=
  mRet (mComp [2] (mRange1 (mVar 1)) (mGName 2) (mYes) (mCall (gR2 fMod) [.val (mCall gInt [.val (mCall (gR2 fShr) [.var 0, .val (mCall (gR2 fSub) [.val (mCall (gR2 fSub) [.var 1, .val (mC (.int 1))]), .var 2])])]), .val (mC (.int 2))]))
def py__law_bits : PM := mkF 3 b__law_bits
theorem ok__law_bits (G : Gb K w mg)  {a : Addr} {fd : FuncData} (F : L2.Fun K "_law_bits" "_law_bits" s__law_bits a fd) (hm : mg "_law_bits" = some (.ref a)) : Def P w K mg base 1 "_law_bits" 2 py__law_bits :=
  def_mk F hm sc__law_bits (F.binds (ps := ["index", "many"]) fun _ _ _ _ _ _ us hl => match us, hl with | [_, _], _ => rfl) rfl fun cdv hcd A outer s H E hr =>
    (show BX _ _ b__law_bits from bx_one (sx_ret (ex_lc rfl sc__law_bits.nd (ix_range1 (by rfl) G.b_range (ex_var (pv 1))) (blkOk_by (own := [("at", 2)]) (by kernel_rfl)) (by decide) (fun _ _ _ _ _ => gx_name sc__law_bits.nd rfl (.inl rfl)) (fun _ _ _ _ _ => tsx_nil) (fun _ _ _ _ _ => ex_bin (ox_mod) (ax_val (ex_callTy fx_int (by rfl) G.b_int bt_int (as_cons (ax_val (ex_bin (ox_shr) (ax_var (pv 0)) (ax_val (ex_bin (ox_sub) (ax_val (ex_bin (ox_sub) (ax_var (pv 1)) (ax_val (ex_int)))) (ax_var (pv 2)))))) as_nil))) (ax_val (ex_int))))))
/-! ### _law_index -/
abbrev s__law_index : Stmt := topS 69
theorem sc__law_index : FnScope ["bits", "found", "bit"] ["bits"] (defScope s__law_index) := ⟨rfl, rfl, rfl, by decide +kernel, rfl, by decide +kernel, by decide +kernel⟩
def b__law_index : SM :=
  mSeq (mSet 1 (mC (.int 0)))
  (mSeq (mFor (mIterA (mVar 0)) (mGName 2) (mSet 1 (mCall (gAdd) [.val (mCall (gMul) [.var 1, .val (mC (.int 2))]), .var 2])))
  (mRetV 1))
def py__law_index : PM := mkF 3 b__law_index
theorem ok__law_index (G : Gb K w mg)  {a : Addr} {fd : FuncData} (F : L2.Fun K "_law_index" "_law_index" s__law_index a fd) (hm : mg "_law_index" = some (.ref a)) : Def P w K mg base 1 "_law_index" 1 py__law_index :=
  def_mk F hm sc__law_index (F.binds (ps := ["bits"]) fun _ _ _ _ _ _ us hl => match us, hl with | [_], _ => rfl) rfl fun cdv hcd A outer s H E hr =>
    (show BX _ _ b__law_index from bx_cons (sx_set (i := 1) sc__law_index.nd rfl (.inl rfl) (ex_int))
    (bx_cons (sx_for PassesOwn.never rfl (ix_any (ex_var (pv 0))) (gx_name sc__law_index.nd rfl (.inl rfl)) (bx_one (sx_set (i := 1) sc__law_index.nd rfl (.inl rfl) (ex_bin (ox_add) (ax_val (ex_bin (ox_mul) (ax_var (pv 1)) (ax_val (ex_int)))) (ax_var (pv 2))))))
    (bx_one (sx_retV (pv 1)))))
/-! ### _law_part_table -/
abbrev s__law_part_table : Stmt := topS 71
theorem sc__law_part_table : FnScope ["p", "form", "tables", "word", "one", "mine", "other", "ways", "many", "half", "found", "at", "bits", "wide", "last", "a", "b", "c", "place", "j"] ["p", "form", "tables"] (defScope s__law_part_table) := ⟨rfl, rfl, rfl, by decide +kernel, rfl, by decide +kernel, by decide +kernel⟩
def b__law_part_table : SM :=
  mSeq (mAsg (mCall gTup [.val (mCall gIx [.var 1, .val (mC (.int 0))]), .val (mCall gIx [.var 2, .val (mCall gIx [.var 1, .val (mC (.int 1))])])]) (mGTup 2 (mGCons (mGName 3) (mGCons (mGName 4) (mGNil)))))
  (mSeq (mSet 5 (mCall py__law_size [.var 4]))
  (mSeq (mIfS (tOf (mCall (gR2 (fIn false)) [.var 3, .val (mCall gTup [.val (mC (.str "add")), .val (mC (.str "sub")), .val (mC (.str "mul"))])])) (mSeq (mSet 6 (mCall gIx [.var 2, .val (mCall gIx [.var 1, .val (mC (.int 2))])]))
  (mSeq (mSet 7 (mDisp [.inr "add", .inr "sub"] [mComp [15, 16] (mZip (mVar 4) (mVar 6)) (mGTup 2 (mGCons (mGName 15) (mGCons (mGName 16) (mGNil)))) (mYes) (mCall (gAdd) [.var 15, .var 16]), mComp [15, 16] (mZip (mVar 4) (mVar 6)) (mGTup 2 (mGCons (mGName 15) (mGCons (mGName 16) (mGNil)))) (mYes) (mCall (gR2 fSub) [.var 15, .var 16])]))
  (mRet (mCall gTuple [.val (mComp [15] (mIterA (mMeth .dic gGet (.var 7) [.var 3, .val (mComp [15, 16] (mZip (mVar 4) (mVar 6)) (mGTup 2 (mGCons (mGName 15) (mGCons (mGName 16) (mGNil)))) (mYes) (mCall (gMul) [.var 15, .var 16]))])) (mGName 15) (mYes) (mCall (gR2 fMod) [.val (mCall gInt [.var 15]), .var 0]))])))) (mPass))
  (mSeq (mIfS (tOf (mCall (gR2 (fEq false)) [.var 3, .val (mC (.str "pick"))])) (mRet (mCall gTuple [.val (fun _ => none)])) (mPass))
  (mSeq (mIfS (tOf (mCall (gR2 (fEq false)) [.var 3, .val (mC (.str "sum"))])) (mSeq (mSet 8 (mCall (gR2 fShl) [.val (mC (.int 1)), .val (mCall gIx [.var 1, .val (mC (.int 2))])]))
  (mRet (mCall gTuple [.val (fun _ => none)]))) (mPass))
  (mSeq (mIfS (tOf (mCall (gR2 (fEq false)) [.var 3, .val (mC (.str "spread"))])) (mRet (mCall gTuple [.val (mComp [11] (mRange1 (mCall (gMul) [.val (mCall gLen [.var 4]), .val (mCall (gR2 fShl) [.val (mC (.int 1)), .val (mCall gIx [.var 1, .val (mC (.int 2))])])])) (mGName 11) (mYes) (mCall gIx [.var 4, .val (mCall (gR2 fDiv) [.val (mCall gInt [.var 11]), .val (mCall (gR2 fShl) [.val (mC (.int 1)), .val (mCall gIx [.var 1, .val (mC (.int 2))])])])]))])) (mPass))
  (mSeq (mIfS (tOf (mCall (gR2 (fIn false)) [.var 3, .val (mCall gTup [.val (mC (.str "low")), .val (mC (.str "high"))])])) (mSeq (mSet 9 (mCall (gR2 fDiv) [.val (mCall gInt [.val (mCall gLen [.var 4])]), .val (mC (.int 2))]))
  (mRet (mIf (tOf (mCall (gR2 (fEq false)) [.var 3, .val (mC (.str "low"))])) (mSlice (.var 4) none (some (mVar 9))) (mSlice (.var 4) (some (mVar 9)) none)))) (mPass))
  (mSeq (mIfS (tOf (mCall (gR2 (fEq false)) [.var 3, .val (mC (.str "join"))])) (mRet (mCall (gAdd) [.var 4, .val (mCall gIx [.var 2, .val (mCall gIx [.var 1, .val (mC (.int 2))])])])) (mPass))
  (mSeq (mIfS (tOf (mCall (gR2 (fEq false)) [.var 3, .val (mC (.str "turn"))])) (mSeq (mSet 10 (mCall gLst []))
  (mSeq (mFor (mRange1 (mCall gLen [.var 4])) (mGName 11) (mSeq (mSet 12 (mCall py__law_bits [.var 11, .var 5]))
  (mExpr (mMeth .lst gAppend (.var 10) [.val (mCall gIx [.var 4, .val (mCall py__law_index [.val (mComp [18] (mIterA (mCall gIx [.var 1, .val (mC (.int 2))])) (mGName 18) (mYes) (mCall gIx [.var 12, .var 18]))])])]))))
  (mRet (mCall gTuple [.var 10])))) (mPass))
  (mSeq (mAsg (mCall gTup [.val (mCall gIx [.var 2, .val (mCall gIx [.var 1, .val (mC (.int 2))])]), .val (mCall (gR2 fShl) [.val (mC (.int 1)), .val (mCall gIx [.var 1, .val (mC (.int 3))])])]) (mGTup 2 (mGCons (mGName 6) (mGCons (mGName 8) (mGNil)))))
  (mSeq (mAsg (mCall gTup [.val (mCall (gR2 fDiv) [.val (mCall gInt [.val (mCall gLen [.var 6])]), .var 8]), .val (mCall gLst [])]) (mGTup 2 (mGCons (mGName 13) (mGCons (mGName 10) (mGNil)))))
  (mSeq (mFor (mRange1 (mCall (gR2 fDiv) [.val (mCall gInt [.val (mCall gLen [.var 4])]), .var 8])) (mGName 11) (mFor (mRange1 (mVar 13)) (mGName 14) (mExpr (mMeth .lst gAppend (.var 10) [.val (mCall (gR2 fMod) [.val (mCall gInt [.val (mCall gSum [.val (mComp [19] (mRange1 (mVar 8)) (mGName 19) (mYes) (mCall (gMul) [.val (mCall gIx [.var 4, .val (mCall (gAdd) [.val (mCall (gMul) [.var 11, .var 8]), .var 19])]), .val (mCall gIx [.var 6, .val (mCall (gAdd) [.val (mCall (gMul) [.var 19, .var 13]), .var 14])])]))])]), .var 0])]))))
  (mRet (mCall gTuple [.var 10])))))))))))))
def py__law_part_table : PM := mkF 20 b__law_part_table
theorem ok__law_part_table (G : Gb K w mg) (D__law_size : Def P w K mg base 1 "_law_size" 1 py__law_size) (D__law_bits : Def P w K mg base 1 "_law_bits" 2 py__law_bits) (D__law_index : Def P w K mg base 1 "_law_index" 1 py__law_index) {a : Addr} {fd : FuncData} (F : L2.Fun K "_law_part_table" "_law_part_table" s__law_part_table a fd) (hm : mg "_law_part_table" = some (.ref a)) : Def P w K mg base 2 "_law_part_table" 3 py__law_part_table :=
  def_mk F hm sc__law_part_table (F.binds (ps := ["p", "form", "tables"]) fun _ _ _ _ _ _ us hl => match us, hl with | [_, _, _], _ => rfl) rfl fun cdv hcd A outer s H E hr =>
    (show BX _ _ b__law_part_table from bx_cons (sx_asg (ex_tup (as_cons (ax_val (ex_ix (iox (hu64 hr)) (ax_var (pv 1)) (ax_val (ex_int)) (fun _ _ => rfl))) (as_cons (ax_val (ex_ix (iox (hu64 hr)) (ax_var (pv 2)) (ax_val (ex_ix (iox (hu64 hr)) (ax_var (pv 1)) (ax_val (ex_int)) (fun _ _ => rfl))) (fun _ _ => rfl))) as_nil))) (gx_tup rfl (gsx_cons (gx_name sc__law_part_table.nd rfl (.inl rfl)) (gsx_cons (gx_name sc__law_part_table.nd rfl (.inr rfl)) gsx_nil))))
    (bx_cons (sx_set (i := 5) sc__law_part_table.nd rfl (.inl rfl) (ex_call D__law_size hr (by omega) (by rfl) (as_cons (ax_var (pv 4)) as_nil) rfl))
    (bx_cons (sx_if (tx_cmp (ox_in (hu64 hr)) (ax_var (pv 3)) (ax_val (ex_tup (as_cons (ax_val (ex_str)) (as_cons (ax_val (ex_str)) (as_cons (ax_val (ex_str)) as_nil))))) (by rfl)) (bx_cons (sx_set (i := 6) sc__law_part_table.nd rfl (.inr rfl) (ex_ix (iox (hu64 hr)) (ax_var (pv 2)) (ax_val (ex_ix (iox (hu64 hr)) (ax_var (pv 1)) (ax_val (ex_int)) (fun _ _ => rfl))) (fun _ _ => rfl)))
    (bx_cons (sx_set (i := 7) sc__law_part_table.nd rfl (.inl rfl) (ex_disp (.cons pe_str (ex_lc rfl sc__law_part_table.nd (ix_zip (by rfl) G.b_zip (ex_var (pv 4)) (ex_var (pv 6))) (blkOk_by (own := [("a", 15), ("b", 16)]) (by kernel_rfl)) (by decide) (fun _ _ _ _ _ => gx_tup rfl (gsx_cons (gx_name sc__law_part_table.nd rfl (.inl rfl)) (gsx_cons (gx_name sc__law_part_table.nd rfl (.inl rfl)) gsx_nil))) (fun _ _ _ _ _ => tsx_nil) (fun _ _ _ _ _ => ex_bin (ox_add) (ax_var (pv 15)) (ax_var (pv 16)))) (.cons pe_str (ex_lc rfl sc__law_part_table.nd (ix_zip (by rfl) G.b_zip (ex_var (pv 4)) (ex_var (pv 6))) (blkOk_by (own := [("a", 15), ("b", 16)]) (by kernel_rfl)) (by decide) (fun _ _ _ _ _ => gx_tup rfl (gsx_cons (gx_name sc__law_part_table.nd rfl (.inl rfl)) (gsx_cons (gx_name sc__law_part_table.nd rfl (.inl rfl)) gsx_nil))) (fun _ _ _ _ _ => tsx_nil) (fun _ _ _ _ _ => ex_bin (ox_sub) (ax_var (pv 15)) (ax_var (pv 16)))) .nil)) (by decide)))
    (bx_one (sx_ret (ex_callTy fx_tuple (by rfl) G.b_tuple bt_tuple (as_cons (ax_val (ex_lc rfl sc__law_part_table.nd (ix_any (ex_meth (k := .dic) rfl PySem.F.plainAttrs_dict PySem.F.slot_dict_get PySem.F.type_dict_get (mx_get (hu1 hr)) (ax_var (pv 7)) (as_cons (ax_var (pv 3)) (as_cons (ax_val (ex_lc rfl sc__law_part_table.nd (ix_zip (by rfl) G.b_zip (ex_var (pv 4)) (ex_var (pv 6))) (blkOk_by (own := [("a", 15), ("b", 16)]) (by kernel_rfl)) (by decide) (fun _ _ _ _ _ => gx_tup rfl (gsx_cons (gx_name sc__law_part_table.nd rfl (.inl rfl)) (gsx_cons (gx_name sc__law_part_table.nd rfl (.inl rfl)) gsx_nil))) (fun _ _ _ _ _ => tsx_nil) (fun _ _ _ _ _ => ex_bin (ox_mul) (ax_var (pv 15)) (ax_var (pv 16))))) as_nil)))) (blkOk_by (own := [("a", 15)]) (by kernel_rfl)) (by decide) (fun _ _ _ _ _ => gx_name sc__law_part_table.nd rfl (.inl rfl)) (fun _ _ _ _ _ => tsx_nil) (fun _ _ _ _ _ => ex_bin (ox_mod) (ax_val (ex_callTy fx_int (by rfl) G.b_int bt_int (as_cons (ax_var (pv 15)) as_nil))) (ax_var (pv 0))))) as_nil)))))) (bx_nil))
    (bx_cons (sx_if (tx_cmp (ox_eq (hu64 hr)) (ax_var (pv 3)) (ax_val (ex_str)) (by rfl)) (bx_one (sx_ret (ex_callTy fx_tuple (by rfl) G.b_tuple bt_tuple (as_cons (ax_val (ex_never)) as_nil)))) (bx_nil))
    (bx_cons (sx_if (tx_cmp (ox_eq (hu64 hr)) (ax_var (pv 3)) (ax_val (ex_str)) (by rfl)) (bx_cons (sx_set (i := 8) sc__law_part_table.nd rfl (.inr rfl) (ex_bin (ox_shl) (ax_val (ex_int)) (ax_val (ex_ix (iox (hu64 hr)) (ax_var (pv 1)) (ax_val (ex_int)) (fun _ _ => rfl)))))
    (bx_one (sx_ret (ex_callTy fx_tuple (by rfl) G.b_tuple bt_tuple (as_cons (ax_val (ex_never)) as_nil))))) (bx_nil))
    (bx_cons (sx_if (tx_cmp (ox_eq (hu64 hr)) (ax_var (pv 3)) (ax_val (ex_str)) (by rfl)) (bx_one (sx_ret (ex_callTy fx_tuple (by rfl) G.b_tuple bt_tuple (as_cons (ax_val (ex_lc rfl sc__law_part_table.nd (ix_range1 (by rfl) G.b_range (ex_bin (ox_mul) (ax_val (ex_callB (fx_len) (by rfl) G.b_len bt_len (as_cons (ax_var (pv 4)) as_nil))) (ax_val (ex_bin (ox_shl) (ax_val (ex_int)) (ax_val (ex_ix (iox (hu64 hr)) (ax_var (pv 1)) (ax_val (ex_int)) (fun _ _ => rfl))))))) (blkOk_by (own := [("at", 11)]) (by kernel_rfl)) (by decide) (fun _ _ _ _ _ => gx_name sc__law_part_table.nd rfl (.inl rfl)) (fun _ _ _ _ _ => tsx_nil) (fun _ _ _ _ _ => ex_ix (iox (hu64 hr)) (ax_var (pv 4)) (ax_val (ex_bin (ox_div) (ax_val (ex_callTy fx_int (by rfl) G.b_int bt_int (as_cons (ax_var (pv 11)) as_nil))) (ax_val (ex_bin (ox_shl) (ax_val (ex_int)) (ax_val (ex_ix (iox (hu64 hr)) (ax_var (pv 1)) (ax_val (ex_int)) (fun _ _ => rfl))))))) (fun _ _ => rfl)))) as_nil)))) (bx_nil))
    (bx_cons (sx_if (tx_cmp (ox_in (hu64 hr)) (ax_var (pv 3)) (ax_val (ex_tup (as_cons (ax_val (ex_str)) (as_cons (ax_val (ex_str)) as_nil)))) (by rfl)) (bx_cons (sx_set (i := 9) sc__law_part_table.nd rfl (.inl rfl) (ex_bin (ox_div) (ax_val (ex_callTy fx_int (by rfl) G.b_int bt_int (as_cons (ax_val (ex_callB (fx_len) (by rfl) G.b_len bt_len (as_cons (ax_var (pv 4)) as_nil))) as_nil))) (ax_val (ex_int))))
    (bx_one (sx_ret (ex_if (tx_cmp (ox_eq (hu64 hr)) (ax_var (pv 3)) (ax_val (ex_str)) (by rfl)) (ex_slice (ax_var (pv 4)) px_none (px_some (ex_var (pv 9)))) (ex_slice (ax_var (pv 4)) (px_some (ex_var (pv 9))) px_none))))) (bx_nil))
    (bx_cons (sx_if (tx_cmp (ox_eq (hu64 hr)) (ax_var (pv 3)) (ax_val (ex_str)) (by rfl)) (bx_one (sx_ret (ex_bin (ox_add) (ax_var (pv 4)) (ax_val (ex_ix (iox (hu64 hr)) (ax_var (pv 2)) (ax_val (ex_ix (iox (hu64 hr)) (ax_var (pv 1)) (ax_val (ex_int)) (fun _ _ => rfl))) (fun _ _ => rfl)))))) (bx_nil))
    (bx_cons (sx_if (tx_cmp (ox_eq (hu64 hr)) (ax_var (pv 3)) (ax_val (ex_str)) (by rfl)) (bx_cons (sx_set (i := 10) sc__law_part_table.nd rfl (.inl rfl) (ex_lst as_nil))
    (bx_cons (sx_for PassesOwn.never rfl (ix_range1 (by rfl) G.b_range (ex_callB (fx_len) (by rfl) G.b_len bt_len (as_cons (ax_var (pv 4)) as_nil))) (gx_name sc__law_part_table.nd rfl (.inr rfl)) (bx_cons (sx_set (i := 12) sc__law_part_table.nd rfl (.inr rfl) (ex_call D__law_bits hr (by omega) (by rfl) (as_cons (ax_var (pv 11)) (as_cons (ax_var (pv 5)) as_nil)) rfl))
    (bx_one (sx_expr (ex_meth (k := .lst) rfl PySem.F.plainAttrs_list PySem.F.slot_list_append PySem.F.type_list_append mx_append (ax_var (pv 10)) (as_cons (ax_val (ex_ix (iox (hu64 hr)) (ax_var (pv 4)) (ax_val (ex_call D__law_index hr (by omega) (by rfl) (as_cons (ax_val (ex_lc rfl sc__law_part_table.nd (ix_any (ex_ix (iox (hu64 hr)) (ax_var (pv 1)) (ax_val (ex_int)) (fun _ _ => rfl))) (blkOk_by (own := [("place", 18)]) (by kernel_rfl)) (by decide) (fun _ _ _ _ _ => gx_name sc__law_part_table.nd rfl (.inl rfl)) (fun _ _ _ _ _ => tsx_nil) (fun _ _ _ _ _ => ex_ix (iox (hu64 hr)) (ax_var (pv 12)) (ax_var (pv 18)) (fun _ _ => rfl)))) as_nil) rfl)) (fun _ _ => rfl))) as_nil))))))
    (bx_one (sx_ret (ex_callTy fx_tuple (by rfl) G.b_tuple bt_tuple (as_cons (ax_var (pv 10)) as_nil)))))) (bx_nil))
    (bx_cons (sx_asg (ex_tup (as_cons (ax_val (ex_ix (iox (hu64 hr)) (ax_var (pv 2)) (ax_val (ex_ix (iox (hu64 hr)) (ax_var (pv 1)) (ax_val (ex_int)) (fun _ _ => rfl))) (fun _ _ => rfl))) (as_cons (ax_val (ex_bin (ox_shl) (ax_val (ex_int)) (ax_val (ex_ix (iox (hu64 hr)) (ax_var (pv 1)) (ax_val (ex_int)) (fun _ _ => rfl))))) as_nil))) (gx_tup rfl (gsx_cons (gx_name sc__law_part_table.nd rfl (.inr rfl)) (gsx_cons (gx_name sc__law_part_table.nd rfl (.inr rfl)) gsx_nil))))
    (bx_cons (sx_asg (ex_tup (as_cons (ax_val (ex_bin (ox_div) (ax_val (ex_callTy fx_int (by rfl) G.b_int bt_int (as_cons (ax_val (ex_callB (fx_len) (by rfl) G.b_len bt_len (as_cons (ax_var (pv 6)) as_nil))) as_nil))) (ax_var (pv 8)))) (as_cons (ax_val (ex_lst as_nil)) as_nil))) (gx_tup rfl (gsx_cons (gx_name sc__law_part_table.nd rfl (.inr rfl)) (gsx_cons (gx_name sc__law_part_table.nd rfl (.inl rfl)) gsx_nil))))
    (bx_cons (sx_for PassesOwn.never rfl (ix_range1 (by rfl) G.b_range (ex_bin (ox_div) (ax_val (ex_callTy fx_int (by rfl) G.b_int bt_int (as_cons (ax_val (ex_callB (fx_len) (by rfl) G.b_len bt_len (as_cons (ax_var (pv 4)) as_nil))) as_nil))) (ax_var (pv 8)))) (gx_name sc__law_part_table.nd rfl (.inr rfl)) (bx_one (sx_for PassesOwn.never rfl (ix_range1 (by rfl) G.b_range (ex_var (pv 13))) (gx_name sc__law_part_table.nd rfl (.inr rfl)) (bx_one (sx_expr (ex_meth (k := .lst) rfl PySem.F.plainAttrs_list PySem.F.slot_list_append PySem.F.type_list_append mx_append (ax_var (pv 10)) (as_cons (ax_val (ex_bin (ox_mod) (ax_val (ex_callTy fx_int (by rfl) G.b_int bt_int (as_cons (ax_val (ex_callB (fx_sum rfl) (by rfl) G.b_sum bt_sum (as_cons (ax_val (ex_lc rfl sc__law_part_table.nd (ix_range1 (by rfl) G.b_range (ex_var (pv 8))) (blkOk_by (own := [("j", 19)]) (by kernel_rfl)) (by decide) (fun _ _ _ _ _ => gx_name sc__law_part_table.nd rfl (.inl rfl)) (fun _ _ _ _ _ => tsx_nil) (fun _ _ _ _ _ => ex_bin (ox_mul) (ax_val (ex_ix (iox (hu64 hr)) (ax_var (pv 4)) (ax_val (ex_bin (ox_add) (ax_val (ex_bin (ox_mul) (ax_var (pv 11)) (ax_var (pv 8)))) (ax_var (pv 19)))) (fun _ _ => rfl))) (ax_val (ex_ix (iox (hu64 hr)) (ax_var (pv 6)) (ax_val (ex_bin (ox_add) (ax_val (ex_bin (ox_mul) (ax_var (pv 19)) (ax_var (pv 13)))) (ax_var (pv 14)))) (fun _ _ => rfl)))))) as_nil))) as_nil))) (ax_var (pv 0)))) as_nil)))))))
    (bx_one (sx_ret (ex_callTy fx_tuple (by rfl) G.b_tuple bt_tuple (as_cons (ax_var (pv 10)) as_nil))))))))))))))))
/-! ### _law_tables -/
abbrev s__law_tables : Stmt := topS 72
theorem sc__law_tables : FnScope ["program", "told", "sealed", "asks", "p", "found", "handed", "name", "form", "number"] ["program", "told", "sealed", "asks"] (defScope s__law_tables) := ⟨rfl, rfl, rfl, by decide +kernel, rfl, by decide +kernel, by decide +kernel⟩
def b__law_tables : SM :=
  mSeq (mPar 4 5 (mCall gIx [.var 0, .val (mC (.int 0))]) (mDNew))
  (mSeq (mSet 6 (mDisp [.inr "told", .inr "sealed", .inr "ask"] [mCall gList [.var 1], mCall gList [.var 2], mComp [9] (mIterA (mVar 3)) (mGName 9) (mYes) (mCall gTup [.var 9])]))
  (mSeq (mFor (mIterA (mCall gIx [.var 0, .val (mC (.int 1))])) (mGTup 2 (mGCons (mGName 7) (mGCons (mGName 8) (mGNil)))) (mIfS (tOf (mCall (gR2 (fIn false)) [.val (mCall gIx [.var 8, .val (mC (.int 0))]), .var 6])) (mSetItem gSetL (.val (mDPop 6 (mCall gIx [.var 8, .val (mC (.int 0))]))) (.var 5) (.var 7)) (mSetItem gSetL (.val (mIf (tOf (mCall (gR2 (fEq false)) [.val (mCall gIx [.var 8, .val (mC (.int 0))]), .val (mC (.str "numbers"))])) (mCall gIx [.var 8, .val (mC (.int 1))]) (mCall py__law_part_table [.var 4, .var 8, .var 5]))) (.var 5) (.var 7))))
  (mRetV 5)))
def py__law_tables : PM := mkF 10 b__law_tables
theorem ok__law_tables (G : Gb K w mg) (D__law_part_table : Def P w K mg base 2 "_law_part_table" 3 py__law_part_table) {a : Addr} {fd : FuncData} (F : L2.Fun K "_law_tables" "_law_tables" s__law_tables a fd) (hm : mg "_law_tables" = some (.ref a)) : Def P w K mg base 3 "_law_tables" 4 py__law_tables :=
  def_mk F hm sc__law_tables (F.binds (ps := ["program", "told", "sealed", "asks"]) fun _ _ _ _ _ _ us hl => match us, hl with | [_, _, _, _], _ => rfl) rfl fun cdv hcd A outer s H E hr =>
    (show BX _ _ b__law_tables from bx_cons (sx_par (i := 4) (j := 5) rfl sc__law_tables.nd rfl rfl (by decide) rfl rfl (ex_ix (iox (hu64 hr)) (ax_var (pv 0)) (ax_val (ex_int)) (fun _ _ => rfl)) (ex_dnew) (by rfl))
    (bx_cons (sx_set (i := 6) sc__law_tables.nd rfl (.inl rfl) (ex_disp (.cons pe_str (ex_callTy fx_list (by rfl) G.b_list bt_list (as_cons (ax_var (pv 1)) as_nil)) (.cons pe_str (ex_callTy fx_list (by rfl) G.b_list bt_list (as_cons (ax_var (pv 2)) as_nil)) (.cons pe_str (ex_lc rfl sc__law_tables.nd (ix_any (ex_var (pv 3))) (blkOk_by (own := [("number", 9)]) (by kernel_rfl)) (by decide) (fun _ _ _ _ _ => gx_name sc__law_tables.nd rfl (.inl rfl)) (fun _ _ _ _ _ => tsx_nil) (fun _ _ _ _ _ => ex_tup (as_cons (ax_var (pv 9)) as_nil))) .nil))) (by decide)))
    (bx_cons (sx_for PassesOwn.never rfl (ix_any (ex_ix (iox (hu64 hr)) (ax_var (pv 0)) (ax_val (ex_int)) (fun _ _ => rfl))) (gx_tup rfl (gsx_cons (gx_name sc__law_tables.nd rfl (.inl rfl)) (gsx_cons (gx_name sc__law_tables.nd rfl (.inl rfl)) gsx_nil))) (bx_one (sx_if (tx_cmp (ox_in (hu64 hr)) (ax_val (ex_ix (iox (hu64 hr)) (ax_var (pv 8)) (ax_val (ex_int)) (fun _ _ => rfl))) (ax_var (pv 6)) (by rfl)) (bx_one (sx_setItem (ax_val (ex_dpop (hu1 hr) (pv 6) (ex_ix (iox (hu64 hr)) (ax_var (pv 8)) (ax_val (ex_int)) (fun _ _ => rfl)) (fun _ _ => rfl))) (ax_var (pv 5)) (ax_var (pv 7)) (setxL (hu64 hr)))) (bx_one (sx_setItem (ax_val (ex_if (tx_cmp (ox_eq (hu64 hr)) (ax_val (ex_ix (iox (hu64 hr)) (ax_var (pv 8)) (ax_val (ex_int)) (fun _ _ => rfl))) (ax_val (ex_str)) (by rfl)) (ex_ix (iox (hu64 hr)) (ax_var (pv 8)) (ax_val (ex_int)) (fun _ _ => rfl)) (ex_call D__law_part_table hr (by omega) (by rfl) (as_cons (ax_var (pv 4)) (as_cons (ax_var (pv 8)) (as_cons (ax_var (pv 5)) as_nil))) rfl))) (ax_var (pv 5)) (ax_var (pv 7)) (setxL (hu64 hr)))))))
    (bx_one (sx_retV (pv 5))))))
/-! ### _law_is_true -/
abbrev s__law_is_true : Stmt := topS 73
theorem sc__law_is_true : FnScope ["program", "claim", "asks", "tables", "name"] ["program", "claim", "asks"] (defScope s__law_is_true) := ⟨rfl, rfl, rfl, by decide +kernel, rfl, by decide +kernel, by decide +kernel⟩
def b__law_is_true : SM :=
  mSeq (mSet 3 (mCall py__law_tables [.var 0, .val (mCall gIx [.var 1, .val (mC (.int 0))]), .val (mCall gIx [.var 1, .val (mC (.int 1))]), .var 2]))
  (mSeq (mIfS (tOf (mCall (gR2 (fEq true)) [.val (mCall gTuple [.val (mComp [4] (mIterA (mCall gIx [.var 0, .val (mC (.int 2))])) (mGName 4) (mYes) (mCall gIx [.var 3, .var 4]))]), .val (mCall gIx [.var 1, .val (mC (.int 2))])])) (mRet (mC (.bl false))) (mPass))
  (mRet (mCall (gR2 (fEq false)) [.val (mComp [4] (mIterA (mCall gIx [.var 0, .val (mC (.int 3))])) (mGName 4) (tOf (mCall gSetNe0 [.val (mCall gIx [.var 3, .var 4])])) (mC (.int 1))), .val (mCall gLst [])])))
def py__law_is_true : PM := mkF 5 b__law_is_true
theorem ok__law_is_true (G : Gb K w mg) (D__law_tables : Def P w K mg base 3 "_law_tables" 4 py__law_tables) {a : Addr} {fd : FuncData} (F : L2.Fun K "_law_is_true" "_law_is_true" s__law_is_true a fd) (hm : mg "_law_is_true" = some (.ref a)) : Def P w K mg base 4 "_law_is_true" 3 py__law_is_true :=
  def_mk F hm sc__law_is_true (F.binds (ps := ["program", "claim", "asks"]) fun _ _ _ _ _ _ us hl => match us, hl with | [_, _, _], _ => rfl) rfl fun cdv hcd A outer s H E hr =>
    (show BX _ _ b__law_is_true from bx_cons (sx_set (i := 3) sc__law_is_true.nd rfl (.inr rfl) (ex_call D__law_tables hr (by omega) (by rfl) (as_cons (ax_var (pv 0)) (as_cons (ax_val (ex_ix (iox (hu64 hr)) (ax_var (pv 1)) (ax_val (ex_int)) (fun _ _ => rfl))) (as_cons (ax_val (ex_ix (iox (hu64 hr)) (ax_var (pv 1)) (ax_val (ex_int)) (fun _ _ => rfl))) (as_cons (ax_var (pv 2)) as_nil)))) rfl))
    (bx_cons (sx_if (tx_cmp (ox_ne (hu64 hr)) (ax_val (ex_callTy fx_tuple (by rfl) G.b_tuple bt_tuple (as_cons (ax_val (ex_lc rfl sc__law_is_true.nd (ix_any (ex_ix (iox (hu64 hr)) (ax_var (pv 0)) (ax_val (ex_int)) (fun _ _ => rfl))) (blkOk_by (own := [("name", 4)]) (by kernel_rfl)) (by decide) (fun _ _ _ _ _ => gx_name sc__law_is_true.nd rfl (.inl rfl)) (fun _ _ _ _ _ => tsx_nil) (fun _ _ _ _ _ => ex_ix (iox (hu64 hr)) (ax_var (pv 3)) (ax_var (pv 4)) (fun _ _ => rfl)))) as_nil))) (ax_val (ex_ix (iox (hu64 hr)) (ax_var (pv 1)) (ax_val (ex_int)) (fun _ _ => rfl))) (by rfl)) (bx_one (sx_ret (ex_bl))) (bx_nil))
    (bx_one (sx_ret (ex_cmp (ox_eq (hu64 hr)) (ax_val (ex_lc rfl sc__law_is_true.nd (ix_any (ex_ix (iox (hu64 hr)) (ax_var (pv 0)) (ax_val (ex_int)) (fun _ _ => rfl))) (blkOk_by (own := [("name", 4)]) (by kernel_rfl)) (by decide) (fun _ _ _ _ _ => gx_name sc__law_is_true.nd rfl (.inl rfl)) (fun _ _ _ _ _ => tsx_one (tx_setNe0 rfl (hu64 hr) (kdsCode_of hcd) (by rfl) G.b_set (ax_val (ex_ix (iox (hu64 hr)) (ax_var (pv 3)) (ax_var (pv 4)) (fun _ _ => rfl))))) (fun _ _ _ _ _ => ex_int))) (ax_val (ex_lst as_nil)) (by rfl))))))
/-! ### law -/
abbrev s_law : Stmt := topS 76
theorem sc_law : FnScope ["script", "bag", "turn", "p", "bits", "program", "one", "at", "near", "other", "same", "asks", "claim", "number", "due", "again"] ["script"] (defScope s_law) := ⟨rfl, rfl, rfl, by decide +kernel, rfl, by decide +kernel, by decide +kernel⟩
def b_law : SM :=
  mSeq (mSet 1 (mCall py__law_bag [.var 0]))
  (mSeq (mFor (mRange1 (mC (.int 4))) (mGName 2) (mSeq (mAsg (mCall gTup [.val (mCall py__law_some [.var 1, .val (mCall gLst [.val (mC (.int 5)), .val (mC (.int 7)), .val (mC (.int 11)), .val (mC (.int 31))])]), .val (mCall py__law_take [.var 1, .val (mC (.int 3))])]) (mGTup 2 (mGCons (mGName 3) (mGCons (mGName 4) (mGNil)))))
  (mSeq (mSet 5 (mCall py__law_reordered [.var 3, .var 4, .val (mCall gTup [.val (mCall gTup [.val (mC (.str "a")), .val (mCall gTup [.val (mC (.str "told")), .var 4])]), .val (mCall gTup [.val (mC (.str "b")), .val (mCall gTup [.val (mC (.str "told")), .var 4])]), .val (mCall gTup [.val (mC (.str "g")), .val (mCall gTup [.val (mC (.str "ask"))])]), .val (mCall gTup [.val (mC (.str "j")), .val (mCall gTup [.val (mC (.str "join")), .val (mC (.str "a")), .val (mC (.str "b"))])])])]))
  (mSeq (mIfS (tNotM (tOf (mCall py__law_alike [.val (mCall py_reordered_program [.var 3, .var 4]), .var 5]))) (mRet (mC (.bl false))) (mPass))
  (mSeq (mSet 6 (mCall gTuple [.val (mComp [7] (mRange1 (mCall (gR2 fShl) [.val (mC (.int 1)), .var 4])) (mGName 7) (mYes) (mCall py__law_take [.var 1, .var 3]))]))
  (mSeq (mSet 7 (mCall py__law_take [.var 1, .val (mCall gLen [.var 6])]))
  (mSeq (mSet 8 (mCall gLst [.val (mCall gTuple [.val (mCall py__law_mixed [.var 1, .val (mCall gList [.var 6])])]), .val (mCall (gAdd) [.val (mCall (gAdd) [.val (mSlice (.var 6) none (some (mVar 7))), .val (mCall gTup [.val (mCall (gR2 fMod) [.val (mCall gInt [.val (mCall (gAdd) [.val (mCall gIx [.var 6, .var 7]), .val (mC (.int 1))])]), .var 3])])]), .val (mSlice (.var 6) (some (mCall (gAdd) [.var 7, .val (mC (.int 1))])) none)]), .val (mCall gTuple [.val (mComp [15] (mIterA (mVar 6)) (mGName 15) (mYes) (mCall py__law_take [.var 1, .var 3]))])]))
  (mFor (mIterA (mVar 8)) (mGName 9) (mSeq (mPar 10 11 (mCall (gR2 (fEq false)) [.val (mCall gSorted [.var 6]), .val (mCall gSorted [.var 9])]) (mCall py__law_same_asks [.var 3, .var 6, .var 9]))
  (mSeq (mIfS (tNotM (tOf (mCall py__law_alike [.val (mCall gLst [.val (mCall py_are_reordered [.var 6, .var 9]), .val (mCall py_asks_for [.var 3, .var 6, .var 9])]), .val (mCall gLst [.var 10, .val (mCall gTuple [.var 11])])]))) (mRet (mC (.bl false))) (mPass))
  (mSeq (mIfS (tOrM (tOf (mCall (gR2 (fEq true)) [.var 10, .val (mCall (gR2 (fEq false)) [.val (mCall gLen [.var 11]), .var 3])])) (tAndM (tNotM (tOf (mVar 10))) (tAndM (tOf (mCall (gR2 (fCmp fun i j => decide (j < i))) [.val (mCall gLen [.var 11]), .val (mCall (gR2 fSub) [.val (mCall (gR2 fShl) [.val (mC (.int 1)), .var 4]), .val (mC (.int 1))])])) (tOf (mCall (gR2 (fCmp fun i j => decide (j ≤ i))) [.var 3, .val (mCall (gR2 fShl) [.val (mC (.int 1)), .var 4])]))))) (mRet (mC (.bl false))) (mPass))
  (mSeq (mSet 12 (mCall gTup [.val (mCall gTup [.var 6, .var 9]), .val (mCall gTup []), .val (mCall gTup [])]))
  (mFor (mRange1 (mVar 3)) (mGName 13) (mSeq (mSet 14 (mCall (gR2 (fIn false)) [.var 13, .var 11]))
  (mIfS (tNotM (tOf (mCall py__law_alike [.val (mCall gLst [.val (mCall py_is_true [.var 5, .var 12, .val (mCall gTup [.var 13])]), .val (mCall py__law_is_true [.var 5, .var 12, .val (mCall gTup [.var 13])])]), .val (mCall gLst [.var 14, .var 14])]))) (mRet (mC (.bl false))) (mPass))))))))))))))))
  (mRet (mC (.bl true))))
def py_law : PM := mkF 16 b_law
theorem ok_law (G : Gb K w mg) (D__law_bag : Def P w K mg base 1 "_law_bag" 1 py__law_bag) (D__law_some : Def P w K mg base 2 "_law_some" 2 py__law_some) (D__law_take : Def P w K mg base 1 "_law_take" 2 py__law_take) (D__law_reordered : Def P w K mg base 1 "_law_reordered" 3 py__law_reordered) (D__law_alike : Def P w K mg base 1 "_law_alike" 2 py__law_alike) (D_reordered_program : Def P w K mg base 9 "reordered_program" 2 py_reordered_program) (D__law_mixed : Def P w K mg base 2 "_law_mixed" 2 py__law_mixed) (D__law_same_asks : Def P w K mg base 1 "_law_same_asks" 3 py__law_same_asks) (D_are_reordered : Def P w K mg base 1 "are_reordered" 2 py_are_reordered) (D_asks_for : Def P w K mg base 1 "asks_for" 3 py_asks_for) (D_is_true : Def P w K mg base 5 "is_true" 3 py_is_true) (D__law_is_true : Def P w K mg base 4 "_law_is_true" 3 py__law_is_true) {a : Addr} {fd : FuncData} (F : L2.Fun K "law" "law" s_law a fd) (hm : mg "law" = some (.ref a)) : Def P w K mg base 10 "law" 1 py_law :=
  def_mk F hm sc_law (F.binds (ps := ["script"]) fun _ _ _ _ _ _ us hl => match us, hl with | [_], _ => rfl) rfl fun cdv hcd A outer s H E hr =>
    (show BX _ _ b_law from bx_cons (sx_set (i := 1) sc_law.nd rfl (.inr rfl) (ex_call D__law_bag hr (by omega) (by rfl) (as_cons (ax_var (pv 0)) as_nil) rfl))
    (bx_cons (sx_for PassesOwn.never rfl (ix_range1 (by rfl) G.b_range (ex_int)) (gx_name sc_law.nd rfl (.inl rfl)) (bx_cons (sx_asg (ex_tup (as_cons (ax_val (ex_call D__law_some hr (by omega) (by rfl) (as_cons (ax_var (pv 1)) (as_cons (ax_val (ex_lst (as_cons (ax_val (ex_int)) (as_cons (ax_val (ex_int)) (as_cons (ax_val (ex_int)) (as_cons (ax_val (ex_int)) as_nil)))))) as_nil)) rfl)) (as_cons (ax_val (ex_call D__law_take hr (by omega) (by rfl) (as_cons (ax_var (pv 1)) (as_cons (ax_val (ex_int)) as_nil)) rfl)) as_nil))) (gx_tup rfl (gsx_cons (gx_name sc_law.nd rfl (.inr rfl)) (gsx_cons (gx_name sc_law.nd rfl (.inl rfl)) gsx_nil))))
    (bx_cons (sx_set (i := 5) sc_law.nd rfl (.inl rfl) (ex_call D__law_reordered hr (by omega) (by rfl) (as_cons (ax_var (pv 3)) (as_cons (ax_var (pv 4)) (as_cons (ax_val (ex_tup (as_cons (ax_val (ex_tup (as_cons (ax_val (ex_str)) (as_cons (ax_val (ex_tup (as_cons (ax_val (ex_str)) (as_cons (ax_var (pv 4)) as_nil)))) as_nil)))) (as_cons (ax_val (ex_tup (as_cons (ax_val (ex_str)) (as_cons (ax_val (ex_tup (as_cons (ax_val (ex_str)) (as_cons (ax_var (pv 4)) as_nil)))) as_nil)))) (as_cons (ax_val (ex_tup (as_cons (ax_val (ex_str)) (as_cons (ax_val (ex_tup (as_cons (ax_val (ex_str)) as_nil))) as_nil)))) (as_cons (ax_val (ex_tup (as_cons (ax_val (ex_str)) (as_cons (ax_val (ex_tup (as_cons (ax_val (ex_str)) (as_cons (ax_val (ex_str)) (as_cons (ax_val (ex_str)) as_nil))))) as_nil)))) as_nil)))))) as_nil))) rfl))
    (bx_cons (sx_if (tx_not (tx_val (ex_call D__law_alike hr (by omega) (by rfl) (as_cons (ax_val (ex_call D_reordered_program hr (by omega) (by rfl) (as_cons (ax_var (pv 3)) (as_cons (ax_var (pv 4)) as_nil)) rfl)) (as_cons (ax_var (pv 5)) as_nil)) rfl))) (bx_one (sx_ret (ex_bl))) (bx_nil))
    (bx_cons (sx_set (i := 6) sc_law.nd rfl (.inl rfl) (ex_callTy fx_tuple (by rfl) G.b_tuple bt_tuple (as_cons (ax_val (ex_lc rfl sc_law.nd (ix_range1 (by rfl) G.b_range (ex_bin (ox_shl) (ax_val (ex_int)) (ax_var (pv 4)))) (blkOk_by (own := [("at", 7)]) (by kernel_rfl)) (by decide) (fun _ _ _ _ _ => gx_name sc_law.nd rfl (.inl rfl)) (fun _ _ _ _ _ => tsx_nil) (fun _ _ _ _ _ => ex_call D__law_take hr (by omega) (by rfl) (as_cons (ax_var (pv 1)) (as_cons (ax_var (pv 3)) as_nil)) rfl))) as_nil)))
    (bx_cons (sx_set (i := 7) sc_law.nd rfl (.inl rfl) (ex_call D__law_take hr (by omega) (by rfl) (as_cons (ax_var (pv 1)) (as_cons (ax_val (ex_callB (fx_len) (by rfl) G.b_len bt_len (as_cons (ax_var (pv 6)) as_nil))) as_nil)) rfl))
    (bx_cons (sx_set (i := 8) sc_law.nd rfl (.inl rfl) (ex_lst (as_cons (ax_val (ex_callTy fx_tuple (by rfl) G.b_tuple bt_tuple (as_cons (ax_val (ex_call D__law_mixed hr (by omega) (by rfl) (as_cons (ax_var (pv 1)) (as_cons (ax_val (ex_callTy fx_list (by rfl) G.b_list bt_list (as_cons (ax_var (pv 6)) as_nil))) as_nil)) rfl)) as_nil))) (as_cons (ax_val (ex_bin (ox_add) (ax_val (ex_bin (ox_add) (ax_val (ex_slice (ax_var (pv 6)) px_none (px_some (ex_var (pv 7))))) (ax_val (ex_tup (as_cons (ax_val (ex_bin (ox_mod) (ax_val (ex_callTy fx_int (by rfl) G.b_int bt_int (as_cons (ax_val (ex_bin (ox_add) (ax_val (ex_ix (iox (hu64 hr)) (ax_var (pv 6)) (ax_var (pv 7)) (fun _ _ => rfl))) (ax_val (ex_int)))) as_nil))) (ax_var (pv 3)))) as_nil))))) (ax_val (ex_slice (ax_var (pv 6)) (px_some (ex_bin (ox_add) (ax_var (pv 7)) (ax_val (ex_int)))) px_none)))) (as_cons (ax_val (ex_callTy fx_tuple (by rfl) G.b_tuple bt_tuple (as_cons (ax_val (ex_lc rfl sc_law.nd (ix_any (ex_var (pv 6))) (blkOk_by (own := [("again", 15)]) (by kernel_rfl)) (by decide) (fun _ _ _ _ _ => gx_name sc_law.nd rfl (.inl rfl)) (fun _ _ _ _ _ => tsx_nil) (fun _ _ _ _ _ => ex_call D__law_take hr (by omega) (by rfl) (as_cons (ax_var (pv 1)) (as_cons (ax_var (pv 3)) as_nil)) rfl))) as_nil))) as_nil)))))
    (bx_one (sx_for PassesOwn.never rfl (ix_any (ex_var (pv 8))) (gx_name sc_law.nd rfl (.inl rfl)) (bx_cons (sx_par (i := 10) (j := 11) rfl sc_law.nd rfl rfl (by decide) rfl rfl (ex_cmp (ox_eq (hu64 hr)) (ax_val (ex_callB (fx_sorted) (by rfl) G.b_sorted bt_sorted (as_cons (ax_var (pv 6)) as_nil))) (ax_val (ex_callB (fx_sorted) (by rfl) G.b_sorted bt_sorted (as_cons (ax_var (pv 9)) as_nil))) (by rfl)) (ex_call D__law_same_asks hr (by omega) (by rfl) (as_cons (ax_var (pv 3)) (as_cons (ax_var (pv 6)) (as_cons (ax_var (pv 9)) as_nil))) rfl) (by rfl))
    (bx_cons (sx_if (tx_not (tx_val (ex_call D__law_alike hr (by omega) (by rfl) (as_cons (ax_val (ex_lst (as_cons (ax_val (ex_call D_are_reordered hr (by omega) (by rfl) (as_cons (ax_var (pv 6)) (as_cons (ax_var (pv 9)) as_nil)) rfl)) (as_cons (ax_val (ex_call D_asks_for hr (by omega) (by rfl) (as_cons (ax_var (pv 3)) (as_cons (ax_var (pv 6)) (as_cons (ax_var (pv 9)) as_nil))) rfl)) as_nil)))) (as_cons (ax_val (ex_lst (as_cons (ax_var (pv 10)) (as_cons (ax_val (ex_callTy fx_tuple (by rfl) G.b_tuple bt_tuple (as_cons (ax_var (pv 11)) as_nil))) as_nil)))) as_nil)) rfl))) (bx_one (sx_ret (ex_bl))) (bx_nil))
    (bx_cons (sx_if (tx_w (wx_or (tx_cmp (ox_ne (hu64 hr)) (ax_var (pv 10)) (ax_val (ex_cmp (ox_eq (hu64 hr)) (ax_val (ex_callB (fx_len) (by rfl) G.b_len bt_len (as_cons (ax_var (pv 11)) as_nil))) (ax_var (pv 3)) (by rfl))) (by rfl)) (wx_or1 (tx_w (wx_and (tx_not (tx_val (ex_var (pv 10)))) (wx_and (tx_cmp (ox_gt) (ax_val (ex_callB (fx_len) (by rfl) G.b_len bt_len (as_cons (ax_var (pv 11)) as_nil))) (ax_val (ex_bin (ox_sub) (ax_val (ex_bin (ox_shl) (ax_val (ex_int)) (ax_var (pv 4)))) (ax_val (ex_int)))) (by rfl)) (wx_and1 (tx_cmp (ox_ge) (ax_var (pv 3)) (ax_val (ex_bin (ox_shl) (ax_val (ex_int)) (ax_var (pv 4)))) (by rfl))))))))) (bx_one (sx_ret (ex_bl))) (bx_nil))
    (bx_cons (sx_set (i := 12) sc_law.nd rfl (.inl rfl) (ex_tup (as_cons (ax_val (ex_tup (as_cons (ax_var (pv 6)) (as_cons (ax_var (pv 9)) as_nil)))) (as_cons (ax_val (ex_tup as_nil)) (as_cons (ax_val (ex_tup as_nil)) as_nil)))))
    (bx_one (sx_for PassesOwn.never rfl (ix_range1 (by rfl) G.b_range (ex_var (pv 3))) (gx_name sc_law.nd rfl (.inl rfl)) (bx_cons (sx_set (i := 14) sc_law.nd rfl (.inl rfl) (ex_cmp (ox_in (hu64 hr)) (ax_var (pv 13)) (ax_var (pv 11)) (by rfl)))
    (bx_one (sx_if (tx_not (tx_val (ex_call D__law_alike hr (by omega) (by rfl) (as_cons (ax_val (ex_lst (as_cons (ax_val (ex_call D_is_true hr (by omega) (by rfl) (as_cons (ax_var (pv 5)) (as_cons (ax_var (pv 12)) (as_cons (ax_val (ex_tup (as_cons (ax_var (pv 13)) as_nil))) as_nil))) rfl)) (as_cons (ax_val (ex_call D__law_is_true hr (by omega) (by rfl) (as_cons (ax_var (pv 5)) (as_cons (ax_var (pv 12)) (as_cons (ax_val (ex_tup (as_cons (ax_var (pv 13)) as_nil))) as_nil))) rfl)) as_nil)))) (as_cons (ax_val (ex_lst (as_cons (ax_var (pv 14)) (as_cons (ax_var (pv 14)) as_nil)))) as_nil)) rfl))) (bx_one (sx_ret (ex_bl))) (bx_nil)))))))))))))))))))
    (bx_one (sx_ret (ex_bl)))))
theorem fnk_law (G : Gb K w mg) (D__law_bag : Def P w K mg base 1 "_law_bag" 1 py__law_bag) (D__law_some : Def P w K mg base 2 "_law_some" 2 py__law_some) (D__law_take : Def P w K mg base 1 "_law_take" 2 py__law_take) (D__law_reordered : Def P w K mg base 1 "_law_reordered" 3 py__law_reordered) (D__law_alike : Def P w K mg base 1 "_law_alike" 2 py__law_alike) (D_reordered_program : Def P w K mg base 9 "reordered_program" 2 py_reordered_program) (D__law_mixed : Def P w K mg base 2 "_law_mixed" 2 py__law_mixed) (D__law_same_asks : Def P w K mg base 1 "_law_same_asks" 3 py__law_same_asks) (D_are_reordered : Def P w K mg base 1 "are_reordered" 2 py_are_reordered) (D_asks_for : Def P w K mg base 1 "asks_for" 3 py_asks_for) (D_is_true : Def P w K mg base 5 "is_true" 3 py_is_true) (D__law_is_true : Def P w K mg base 4 "_law_is_true" 3 py__law_is_true) {a : Addr} {fd : FuncData} (F : L2.Fun K "law" "law" s_law a fd) : FnOk P w K mg base CX0 10 a fd ["script"] (spF K 1 py_law) :=
  fn_ok F sc_law fun cdv hcd A outer s H E hr => (show BX _ _ b_law from bx_cons (sx_set (i := 1) sc_law.nd rfl (.inr rfl) (ex_call D__law_bag hr (by omega) (by rfl) (as_cons (ax_var (pv 0)) as_nil) rfl))
    (bx_cons (sx_for PassesOwn.never rfl (ix_range1 (by rfl) G.b_range (ex_int)) (gx_name sc_law.nd rfl (.inl rfl)) (bx_cons (sx_asg (ex_tup (as_cons (ax_val (ex_call D__law_some hr (by omega) (by rfl) (as_cons (ax_var (pv 1)) (as_cons (ax_val (ex_lst (as_cons (ax_val (ex_int)) (as_cons (ax_val (ex_int)) (as_cons (ax_val (ex_int)) (as_cons (ax_val (ex_int)) as_nil)))))) as_nil)) rfl)) (as_cons (ax_val (ex_call D__law_take hr (by omega) (by rfl) (as_cons (ax_var (pv 1)) (as_cons (ax_val (ex_int)) as_nil)) rfl)) as_nil))) (gx_tup rfl (gsx_cons (gx_name sc_law.nd rfl (.inr rfl)) (gsx_cons (gx_name sc_law.nd rfl (.inl rfl)) gsx_nil))))
    (bx_cons (sx_set (i := 5) sc_law.nd rfl (.inl rfl) (ex_call D__law_reordered hr (by omega) (by rfl) (as_cons (ax_var (pv 3)) (as_cons (ax_var (pv 4)) (as_cons (ax_val (ex_tup (as_cons (ax_val (ex_tup (as_cons (ax_val (ex_str)) (as_cons (ax_val (ex_tup (as_cons (ax_val (ex_str)) (as_cons (ax_var (pv 4)) as_nil)))) as_nil)))) (as_cons (ax_val (ex_tup (as_cons (ax_val (ex_str)) (as_cons (ax_val (ex_tup (as_cons (ax_val (ex_str)) (as_cons (ax_var (pv 4)) as_nil)))) as_nil)))) (as_cons (ax_val (ex_tup (as_cons (ax_val (ex_str)) (as_cons (ax_val (ex_tup (as_cons (ax_val (ex_str)) as_nil))) as_nil)))) (as_cons (ax_val (ex_tup (as_cons (ax_val (ex_str)) (as_cons (ax_val (ex_tup (as_cons (ax_val (ex_str)) (as_cons (ax_val (ex_str)) (as_cons (ax_val (ex_str)) as_nil))))) as_nil)))) as_nil)))))) as_nil))) rfl))
    (bx_cons (sx_if (tx_not (tx_val (ex_call D__law_alike hr (by omega) (by rfl) (as_cons (ax_val (ex_call D_reordered_program hr (by omega) (by rfl) (as_cons (ax_var (pv 3)) (as_cons (ax_var (pv 4)) as_nil)) rfl)) (as_cons (ax_var (pv 5)) as_nil)) rfl))) (bx_one (sx_ret (ex_bl))) (bx_nil))
    (bx_cons (sx_set (i := 6) sc_law.nd rfl (.inl rfl) (ex_callTy fx_tuple (by rfl) G.b_tuple bt_tuple (as_cons (ax_val (ex_lc rfl sc_law.nd (ix_range1 (by rfl) G.b_range (ex_bin (ox_shl) (ax_val (ex_int)) (ax_var (pv 4)))) (blkOk_by (own := [("at", 7)]) (by kernel_rfl)) (by decide) (fun _ _ _ _ _ => gx_name sc_law.nd rfl (.inl rfl)) (fun _ _ _ _ _ => tsx_nil) (fun _ _ _ _ _ => ex_call D__law_take hr (by omega) (by rfl) (as_cons (ax_var (pv 1)) (as_cons (ax_var (pv 3)) as_nil)) rfl))) as_nil)))
    (bx_cons (sx_set (i := 7) sc_law.nd rfl (.inl rfl) (ex_call D__law_take hr (by omega) (by rfl) (as_cons (ax_var (pv 1)) (as_cons (ax_val (ex_callB (fx_len) (by rfl) G.b_len bt_len (as_cons (ax_var (pv 6)) as_nil))) as_nil)) rfl))
    (bx_cons (sx_set (i := 8) sc_law.nd rfl (.inl rfl) (ex_lst (as_cons (ax_val (ex_callTy fx_tuple (by rfl) G.b_tuple bt_tuple (as_cons (ax_val (ex_call D__law_mixed hr (by omega) (by rfl) (as_cons (ax_var (pv 1)) (as_cons (ax_val (ex_callTy fx_list (by rfl) G.b_list bt_list (as_cons (ax_var (pv 6)) as_nil))) as_nil)) rfl)) as_nil))) (as_cons (ax_val (ex_bin (ox_add) (ax_val (ex_bin (ox_add) (ax_val (ex_slice (ax_var (pv 6)) px_none (px_some (ex_var (pv 7))))) (ax_val (ex_tup (as_cons (ax_val (ex_bin (ox_mod) (ax_val (ex_callTy fx_int (by rfl) G.b_int bt_int (as_cons (ax_val (ex_bin (ox_add) (ax_val (ex_ix (iox (hu64 hr)) (ax_var (pv 6)) (ax_var (pv 7)) (fun _ _ => rfl))) (ax_val (ex_int)))) as_nil))) (ax_var (pv 3)))) as_nil))))) (ax_val (ex_slice (ax_var (pv 6)) (px_some (ex_bin (ox_add) (ax_var (pv 7)) (ax_val (ex_int)))) px_none)))) (as_cons (ax_val (ex_callTy fx_tuple (by rfl) G.b_tuple bt_tuple (as_cons (ax_val (ex_lc rfl sc_law.nd (ix_any (ex_var (pv 6))) (blkOk_by (own := [("again", 15)]) (by kernel_rfl)) (by decide) (fun _ _ _ _ _ => gx_name sc_law.nd rfl (.inl rfl)) (fun _ _ _ _ _ => tsx_nil) (fun _ _ _ _ _ => ex_call D__law_take hr (by omega) (by rfl) (as_cons (ax_var (pv 1)) (as_cons (ax_var (pv 3)) as_nil)) rfl))) as_nil))) as_nil)))))
    (bx_one (sx_for PassesOwn.never rfl (ix_any (ex_var (pv 8))) (gx_name sc_law.nd rfl (.inl rfl)) (bx_cons (sx_par (i := 10) (j := 11) rfl sc_law.nd rfl rfl (by decide) rfl rfl (ex_cmp (ox_eq (hu64 hr)) (ax_val (ex_callB (fx_sorted) (by rfl) G.b_sorted bt_sorted (as_cons (ax_var (pv 6)) as_nil))) (ax_val (ex_callB (fx_sorted) (by rfl) G.b_sorted bt_sorted (as_cons (ax_var (pv 9)) as_nil))) (by rfl)) (ex_call D__law_same_asks hr (by omega) (by rfl) (as_cons (ax_var (pv 3)) (as_cons (ax_var (pv 6)) (as_cons (ax_var (pv 9)) as_nil))) rfl) (by rfl))
    (bx_cons (sx_if (tx_not (tx_val (ex_call D__law_alike hr (by omega) (by rfl) (as_cons (ax_val (ex_lst (as_cons (ax_val (ex_call D_are_reordered hr (by omega) (by rfl) (as_cons (ax_var (pv 6)) (as_cons (ax_var (pv 9)) as_nil)) rfl)) (as_cons (ax_val (ex_call D_asks_for hr (by omega) (by rfl) (as_cons (ax_var (pv 3)) (as_cons (ax_var (pv 6)) (as_cons (ax_var (pv 9)) as_nil))) rfl)) as_nil)))) (as_cons (ax_val (ex_lst (as_cons (ax_var (pv 10)) (as_cons (ax_val (ex_callTy fx_tuple (by rfl) G.b_tuple bt_tuple (as_cons (ax_var (pv 11)) as_nil))) as_nil)))) as_nil)) rfl))) (bx_one (sx_ret (ex_bl))) (bx_nil))
    (bx_cons (sx_if (tx_w (wx_or (tx_cmp (ox_ne (hu64 hr)) (ax_var (pv 10)) (ax_val (ex_cmp (ox_eq (hu64 hr)) (ax_val (ex_callB (fx_len) (by rfl) G.b_len bt_len (as_cons (ax_var (pv 11)) as_nil))) (ax_var (pv 3)) (by rfl))) (by rfl)) (wx_or1 (tx_w (wx_and (tx_not (tx_val (ex_var (pv 10)))) (wx_and (tx_cmp (ox_gt) (ax_val (ex_callB (fx_len) (by rfl) G.b_len bt_len (as_cons (ax_var (pv 11)) as_nil))) (ax_val (ex_bin (ox_sub) (ax_val (ex_bin (ox_shl) (ax_val (ex_int)) (ax_var (pv 4)))) (ax_val (ex_int)))) (by rfl)) (wx_and1 (tx_cmp (ox_ge) (ax_var (pv 3)) (ax_val (ex_bin (ox_shl) (ax_val (ex_int)) (ax_var (pv 4)))) (by rfl))))))))) (bx_one (sx_ret (ex_bl))) (bx_nil))
    (bx_cons (sx_set (i := 12) sc_law.nd rfl (.inl rfl) (ex_tup (as_cons (ax_val (ex_tup (as_cons (ax_var (pv 6)) (as_cons (ax_var (pv 9)) as_nil)))) (as_cons (ax_val (ex_tup as_nil)) (as_cons (ax_val (ex_tup as_nil)) as_nil)))))
    (bx_one (sx_for PassesOwn.never rfl (ix_range1 (by rfl) G.b_range (ex_var (pv 3))) (gx_name sc_law.nd rfl (.inl rfl)) (bx_cons (sx_set (i := 14) sc_law.nd rfl (.inl rfl) (ex_cmp (ox_in (hu64 hr)) (ax_var (pv 13)) (ax_var (pv 11)) (by rfl)))
    (bx_one (sx_if (tx_not (tx_val (ex_call D__law_alike hr (by omega) (by rfl) (as_cons (ax_val (ex_lst (as_cons (ax_val (ex_call D_is_true hr (by omega) (by rfl) (as_cons (ax_var (pv 5)) (as_cons (ax_var (pv 12)) (as_cons (ax_val (ex_tup (as_cons (ax_var (pv 13)) as_nil))) as_nil))) rfl)) (as_cons (ax_val (ex_call D__law_is_true hr (by omega) (by rfl) (as_cons (ax_var (pv 5)) (as_cons (ax_var (pv 12)) (as_cons (ax_val (ex_tup (as_cons (ax_var (pv 13)) as_nil))) as_nil))) rfl)) as_nil)))) (as_cons (ax_val (ex_lst (as_cons (ax_var (pv 14)) (as_cons (ax_var (pv 14)) as_nil)))) as_nil)) rfl))) (bx_one (sx_ret (ex_bl))) (bx_nil)))))))))))))))))))
    (bx_one (sx_ret (ex_bl)))))
end
/-! ### what the top has written; the law's own head -/
theorem all_mk {l : PySem.W.OpenLaw} {w : World} {K : PySem.W.Frag} {h : Heap} {mg : Str → Option Value} {fa : Addr} (plain : Plain 63 py_law) (X : K.In h) (N : h.Ns mainGlobals mg) (hfa : mg "law" = some (.ref fa))
    {t_COUNT : Tok}
    {t_LEAST_FIELD : Tok}
    {t_LETTERS : Tok}
    {a_LEVELS : Addr} {o_LEVELS : Obj} {i_LEVELS : Array Value} {n_LEVELS : Nat}
    {a_LIKE : Addr} {o_LIKE : Obj} {i_LIKE : Array Value} {n_LIKE : Nat}
    {t_MEMBERS : Tok}
    {t_MOST_BITS : Tok}
    {t_MOST_FIELD_forms : Tok}
    {t_MOST_FIELD_orders : Tok}
    {t_MOST_NAME : Tok}
    {t_MOST_PARTS : Tok}
    {t_PART : Tok}
    {a_RESERVED : Addr} {o_RESERVED : Obj} {i_RESERVED : Array Value} {n_RESERVED : Nat}
    {a_PARTS : Addr}
    {f0 : Addr} {od0 an0 : Option Addr} {sl0 : Array (Option Value)} {oc0 kV0 dc0 pm0 cd0 ct0 : Value}
    {f1 : Addr} {od1 an1 : Option Addr} {sl1 : Array (Option Value)} {oc1 kV1 dc1 pm1 cd1 ct1 : Value}
    {f2 : Addr} {od2 an2 : Option Addr} {sl2 : Array (Option Value)} {oc2 kV2 dc2 pm2 cd2 ct2 : Value}
    {f3 : Addr} {od3 an3 : Option Addr} {sl3 : Array (Option Value)} {oc3 kV3 dc3 pm3 cd3 ct3 : Value}
    {f4 : Addr} {od4 an4 : Option Addr} {sl4 : Array (Option Value)} {oc4 kV4 dc4 pm4 cd4 ct4 : Value}
    {f5 : Addr} {od5 an5 : Option Addr} {sl5 : Array (Option Value)} {oc5 kV5 dc5 pm5 cd5 ct5 : Value}
    {f6 : Addr} {od6 an6 : Option Addr} {sl6 : Array (Option Value)} {oc6 kV6 dc6 pm6 cd6 ct6 : Value}
    {f7 : Addr} {od7 an7 : Option Addr} {sl7 : Array (Option Value)} {oc7 kV7 dc7 pm7 cd7 ct7 : Value}
    {f8 : Addr} {od8 an8 : Option Addr} {sl8 : Array (Option Value)} {oc8 kV8 dc8 pm8 cd8 ct8 : Value}
    {f9 : Addr} {od9 an9 : Option Addr} {sl9 : Array (Option Value)} {oc9 kV9 dc9 pm9 cd9 ct9 : Value}
    {f10 : Addr} {od10 an10 : Option Addr} {sl10 : Array (Option Value)} {oc10 kV10 dc10 pm10 cd10 ct10 : Value}
    {f11 : Addr} {od11 an11 : Option Addr} {sl11 : Array (Option Value)} {oc11 kV11 dc11 pm11 cd11 ct11 : Value}
    {f12 : Addr} {od12 an12 : Option Addr} {sl12 : Array (Option Value)} {oc12 kV12 dc12 pm12 cd12 ct12 : Value}
    {f13 : Addr} {od13 an13 : Option Addr} {sl13 : Array (Option Value)} {oc13 kV13 dc13 pm13 cd13 ct13 : Value}
    {f14 : Addr} {od14 an14 : Option Addr} {sl14 : Array (Option Value)} {oc14 kV14 dc14 pm14 cd14 ct14 : Value}
    {f15 : Addr} {od15 an15 : Option Addr} {sl15 : Array (Option Value)} {oc15 kV15 dc15 pm15 cd15 ct15 : Value}
    {f16 : Addr} {od16 an16 : Option Addr} {sl16 : Array (Option Value)} {oc16 kV16 dc16 pm16 cd16 ct16 : Value}
    {f17 : Addr} {od17 an17 : Option Addr} {sl17 : Array (Option Value)} {oc17 kV17 dc17 pm17 cd17 ct17 : Value}
    {f18 : Addr} {od18 an18 : Option Addr} {sl18 : Array (Option Value)} {oc18 kV18 dc18 pm18 cd18 ct18 : Value}
    {f19 : Addr} {od19 an19 : Option Addr} {sl19 : Array (Option Value)} {oc19 kV19 dc19 pm19 cd19 ct19 : Value}
    {f20 : Addr} {od20 an20 : Option Addr} {sl20 : Array (Option Value)} {oc20 kV20 dc20 pm20 cd20 ct20 : Value}
    {f21 : Addr} {od21 an21 : Option Addr} {sl21 : Array (Option Value)} {oc21 kV21 dc21 pm21 cd21 ct21 : Value}
    {f22 : Addr} {od22 an22 : Option Addr} {sl22 : Array (Option Value)} {oc22 kV22 dc22 pm22 cd22 ct22 : Value}
    {f23 : Addr} {od23 an23 : Option Addr} {sl23 : Array (Option Value)} {oc23 kV23 dc23 pm23 cd23 ct23 : Value}
    {f24 : Addr} {od24 an24 : Option Addr} {sl24 : Array (Option Value)} {oc24 kV24 dc24 pm24 cd24 ct24 : Value}
    {f25 : Addr} {od25 an25 : Option Addr} {sl25 : Array (Option Value)} {oc25 kV25 dc25 pm25 cd25 ct25 : Value}
    {f26 : Addr} {od26 an26 : Option Addr} {sl26 : Array (Option Value)} {oc26 kV26 dc26 pm26 cd26 ct26 : Value}
    {f27 : Addr} {od27 an27 : Option Addr} {sl27 : Array (Option Value)} {oc27 kV27 dc27 pm27 cd27 ct27 : Value}
    {f28 : Addr} {od28 an28 : Option Addr} {sl28 : Array (Option Value)} {oc28 kV28 dc28 pm28 cd28 ct28 : Value}
    {f29 : Addr} {od29 an29 : Option Addr} {sl29 : Array (Option Value)} {oc29 kV29 dc29 pm29 cd29 ct29 : Value}
    {f30 : Addr} {od30 an30 : Option Addr} {sl30 : Array (Option Value)} {oc30 kV30 dc30 pm30 cd30 ct30 : Value}
    {f31 : Addr} {od31 an31 : Option Addr} {sl31 : Array (Option Value)} {oc31 kV31 dc31 pm31 cd31 ct31 : Value}
    {f32 : Addr} {od32 an32 : Option Addr} {sl32 : Array (Option Value)} {oc32 kV32 dc32 pm32 cd32 ct32 : Value}
    {f33 : Addr} {od33 an33 : Option Addr} {sl33 : Array (Option Value)} {oc33 kV33 dc33 pm33 cd33 ct33 : Value}
    {f34 : Addr} {od34 an34 : Option Addr} {sl34 : Array (Option Value)} {oc34 kV34 dc34 pm34 cd34 ct34 : Value}
    {f35 : Addr} {od35 an35 : Option Addr} {sl35 : Array (Option Value)} {oc35 kV35 dc35 pm35 cd35 ct35 : Value}
    {f36 : Addr} {od36 an36 : Option Addr} {sl36 : Array (Option Value)} {oc36 kV36 dc36 pm36 cd36 ct36 : Value}
    {f37 : Addr} {od37 an37 : Option Addr} {sl37 : Array (Option Value)} {oc37 kV37 dc37 pm37 cd37 ct37 : Value}
    {f38 : Addr} {od38 an38 : Option Addr} {sl38 : Array (Option Value)} {oc38 kV38 dc38 pm38 cd38 ct38 : Value}
    {f39 : Addr} {od39 an39 : Option Addr} {sl39 : Array (Option Value)} {oc39 kV39 dc39 pm39 cd39 ct39 : Value}
    {f40 : Addr} {od40 an40 : Option Addr} {sl40 : Array (Option Value)} {oc40 kV40 dc40 pm40 cd40 ct40 : Value}
    {f41 : Addr} {od41 an41 : Option Addr} {sl41 : Array (Option Value)} {oc41 kV41 dc41 pm41 cd41 ct41 : Value}
    {f42 : Addr} {od42 an42 : Option Addr} {sl42 : Array (Option Value)} {oc42 kV42 dc42 pm42 cd42 ct42 : Value}
    {f43 : Addr} {od43 an43 : Option Addr} {sl43 : Array (Option Value)} {oc43 kV43 dc43 pm43 cd43 ct43 : Value}
    {f44 : Addr} {od44 an44 : Option Addr} {sl44 : Array (Option Value)} {oc44 kV44 dc44 pm44 cd44 ct44 : Value}
    {f45 : Addr} {od45 an45 : Option Addr} {sl45 : Array (Option Value)} {oc45 kV45 dc45 pm45 cd45 ct45 : Value}
    {f46 : Addr} {od46 an46 : Option Addr} {sl46 : Array (Option Value)} {oc46 kV46 dc46 pm46 cd46 ct46 : Value}
    {f47 : Addr} {od47 an47 : Option Addr} {sl47 : Array (Option Value)} {oc47 kV47 dc47 pm47 cd47 ct47 : Value}
    {f48 : Addr} {od48 an48 : Option Addr} {sl48 : Array (Option Value)} {oc48 kV48 dc48 pm48 cd48 ct48 : Value}
    {f49 : Addr} {od49 an49 : Option Addr} {sl49 : Array (Option Value)} {oc49 kV49 dc49 pm49 cd49 ct49 : Value}
    (z_abs : PySem.W.nsIn K mainGlobals "abs" = some none)
    (z_all : PySem.W.nsIn K mainGlobals "all" = some none)
    (z_bool : PySem.W.nsIn K mainGlobals "bool" = some none)
    (z_enumerate : PySem.W.nsIn K mainGlobals "enumerate" = some none)
    (z_int : PySem.W.nsIn K mainGlobals "int" = some none)
    (z_isinstance : PySem.W.nsIn K mainGlobals "isinstance" = some none)
    (z_len : PySem.W.nsIn K mainGlobals "len" = some none)
    (z_list : PySem.W.nsIn K mainGlobals "list" = some none)
    (z_range : PySem.W.nsIn K mainGlobals "range" = some none)
    (z_set : PySem.W.nsIn K mainGlobals "set" = some none)
    (z_sorted : PySem.W.nsIn K mainGlobals "sorted" = some none)
    (z_str : PySem.W.nsIn K mainGlobals "str" = some none)
    (z_sum : PySem.W.nsIn K mainGlobals "sum" = some none)
    (z_tuple : PySem.W.nsIn K mainGlobals "tuple" = some none)
    (z_zip : PySem.W.nsIn K mainGlobals "zip" = some none)
    (c_COUNT : PySem.W.nsIn K mainGlobals "COUNT" = some (some (.str "count" t_COUNT)))
    (c_LEAST_FIELD : PySem.W.nsIn K mainGlobals "LEAST_FIELD" = some (some (.int 5 t_LEAST_FIELD)))
    (c_LETTERS : PySem.W.nsIn K mainGlobals "LETTERS" = some (some (.str "abcdefghijklmnopqrstuvwxyz" t_LETTERS)))
    (c_LEVELS : PySem.W.nsIn K mainGlobals "LEVELS" = some (some (.ref a_LEVELS)))
    (l_LEVELS : K.lookup a_LEVELS = some o_LEVELS)
    (s_LEVELS : o_LEVELS.cls = .type "tuple")
    (d_LEVELS : o_LEVELS.data = .seq i_LEVELS n_LEVELS)
    (v_LEVELS : i_LEVELS.size ≤ sizeLine)
    (w_LEVELS : strVs ["a", "b", "c", "d", "e"] i_LEVELS.toList = true)
    (c_LIKE : PySem.W.nsIn K mainGlobals "LIKE" = some (some (.ref a_LIKE)))
    (l_LIKE : K.lookup a_LIKE = some o_LIKE)
    (s_LIKE : o_LIKE.cls = .type "tuple")
    (d_LIKE : o_LIKE.data = .seq i_LIKE n_LIKE)
    (v_LIKE : i_LIKE.size ≤ sizeLine)
    (w_LIKE : strVs ["add", "sub", "mul", "pick", "join"] i_LIKE.toList = true)
    (c_MEMBERS : PySem.W.nsIn K mainGlobals "MEMBERS" = some (some (.int 4 t_MEMBERS)))
    (c_MOST_BITS : PySem.W.nsIn K mainGlobals "MOST_BITS" = some (some (.int 8 t_MOST_BITS)))
    (c_MOST_FIELD_forms : PySem.W.nsIn K mainGlobals "MOST_FIELD_forms" = some (some (.int 1000003 t_MOST_FIELD_forms)))
    (c_MOST_FIELD_orders : PySem.W.nsIn K mainGlobals "MOST_FIELD_orders" = some (some (.int 3000 t_MOST_FIELD_orders)))
    (c_MOST_NAME : PySem.W.nsIn K mainGlobals "MOST_NAME" = some (some (.int 8 t_MOST_NAME)))
    (c_MOST_PARTS : PySem.W.nsIn K mainGlobals "MOST_PARTS" = some (some (.int 24 t_MOST_PARTS)))
    (c_PART : PySem.W.nsIn K mainGlobals "PART" = some (some (.str "part" t_PART)))
    (c_RESERVED : PySem.W.nsIn K mainGlobals "RESERVED" = some (some (.ref a_RESERVED)))
    (l_RESERVED : K.lookup a_RESERVED = some o_RESERVED)
    (s_RESERVED : o_RESERVED.cls = .type "tuple")
    (d_RESERVED : o_RESERVED.data = .seq i_RESERVED n_RESERVED)
    (v_RESERVED : i_RESERVED.size ≤ sizeLine)
    (w_RESERVED : strVs ["add", "ask", "field", "high", "join", "low", "mul", "numbers", "output", "pick", "product", "sealed", "spread", "sub", "sum", "told", "turn", "zero"] i_RESERVED.toList = true)
    (c_PARTS : PySem.W.nsIn K mainGlobals "PARTS" = some (some (.ref a_PARTS)))
    (k_PARTS : KTab K w a_PARTS tab_PARTS)
    (fa0 : PySem.W.nsIn K mainGlobals "_law_bag" = some (some (.ref f0)))
    (fl0 : K.lookup f0 = some ⟨oc0, od0, .func (PySem.W.fnOf "_law_bag" "_law_bag" (defArgs s__law_bag) (defBody s__law_bag) (defScope s__law_bag) .none kV0 dc0 pm0 an0 cd0 ct0), sl0⟩)
    (fc0 : PySem.W.codeIn K cd0 "_law_bag" = true)
    (fk0 : PySem.W.keepIn K (.ref f0) = true)
    (fa1 : PySem.W.nsIn K mainGlobals "_law_take" = some (some (.ref f1)))
    (fl1 : K.lookup f1 = some ⟨oc1, od1, .func (PySem.W.fnOf "_law_take" "_law_take" (defArgs s__law_take) (defBody s__law_take) (defScope s__law_take) .none kV1 dc1 pm1 an1 cd1 ct1), sl1⟩)
    (fc1 : PySem.W.codeIn K cd1 "_law_take" = true)
    (fk1 : PySem.W.keepIn K (.ref f1) = true)
    (fa2 : PySem.W.nsIn K mainGlobals "_law_some" = some (some (.ref f2)))
    (fl2 : K.lookup f2 = some ⟨oc2, od2, .func (PySem.W.fnOf "_law_some" "_law_some" (defArgs s__law_some) (defBody s__law_some) (defScope s__law_some) .none kV2 dc2 pm2 an2 cd2 ct2), sl2⟩)
    (fc2 : PySem.W.codeIn K cd2 "_law_some" = true)
    (fk2 : PySem.W.keepIn K (.ref f2) = true)
    (fa3 : PySem.W.nsIn K mainGlobals "_law_reordered" = some (some (.ref f3)))
    (fl3 : K.lookup f3 = some ⟨oc3, od3, .func (PySem.W.fnOf "_law_reordered" "_law_reordered" (defArgs s__law_reordered) (defBody s__law_reordered) (defScope s__law_reordered) .none kV3 dc3 pm3 an3 cd3 ct3), sl3⟩)
    (fc3 : PySem.W.codeIn K cd3 "_law_reordered" = true)
    (fk3 : PySem.W.keepIn K (.ref f3) = true)
    (fa4 : PySem.W.nsIn K mainGlobals "_law_alike" = some (some (.ref f4)))
    (fl4 : K.lookup f4 = some ⟨oc4, od4, .func (PySem.W.fnOf "_law_alike" "_law_alike" (defArgs s__law_alike) (defBody s__law_alike) (defScope s__law_alike) .none kV4 dc4 pm4 an4 cd4 ct4), sl4⟩)
    (fc4 : PySem.W.codeIn K cd4 "_law_alike" = true)
    (fk4 : PySem.W.keepIn K (.ref f4) = true)
    (fa5 : PySem.W.nsIn K mainGlobals "tree_parts" = some (some (.ref f5)))
    (fl5 : K.lookup f5 = some ⟨oc5, od5, .func (PySem.W.fnOf "tree_parts" "tree_parts" (defArgs s_tree_parts) (defBody s_tree_parts) (defScope s_tree_parts) .none kV5 dc5 pm5 an5 cd5 ct5), sl5⟩)
    (fc5 : PySem.W.codeIn K cd5 "tree_parts" = true)
    (fk5 : PySem.W.keepIn K (.ref f5) = true)
    (fa6 : PySem.W.nsIn K mainGlobals "compared_parts" = some (some (.ref f6)))
    (fl6 : K.lookup f6 = some ⟨oc6, od6, .func (PySem.W.fnOf "compared_parts" "compared_parts" (defArgs s_compared_parts) (defBody s_compared_parts) (defScope s_compared_parts) .none kV6 dc6 pm6 an6 cd6 ct6), sl6⟩)
    (fc6 : PySem.W.codeIn K cd6 "compared_parts" = true)
    (fk6 : PySem.W.keepIn K (.ref f6) = true)
    (fa7 : PySem.W.nsIn K mainGlobals "is_integer" = some (some (.ref f7)))
    (fl7 : K.lookup f7 = some ⟨oc7, od7, .func (PySem.W.fnOf "is_integer" "is_integer" (defArgs s_is_integer) (defBody s_is_integer) (defScope s_is_integer) .none kV7 dc7 pm7 an7 cd7 ct7), sl7⟩)
    (fc7 : PySem.W.codeIn K cd7 "is_integer" = true)
    (fk7 : PySem.W.keepIn K (.ref f7) = true)
    (fa8 : PySem.W.nsIn K mainGlobals "is_within" = some (some (.ref f8)))
    (fl8 : K.lookup f8 = some ⟨oc8, od8, .func (PySem.W.fnOf "is_within" "is_within" (defArgs s_is_within) (defBody s_is_within) (defScope s_is_within) .none kV8 dc8 pm8 an8 cd8 ct8), sl8⟩)
    (fc8 : PySem.W.codeIn K cd8 "is_within" = true)
    (fk8 : PySem.W.keepIn K (.ref f8) = true)
    (fa9 : PySem.W.nsIn K mainGlobals "is_prime" = some (some (.ref f9)))
    (fl9 : K.lookup f9 = some ⟨oc9, od9, .func (PySem.W.fnOf "is_prime" "is_prime" (defArgs s_is_prime) (defBody s_is_prime) (defScope s_is_prime) .none kV9 dc9 pm9 an9 cd9 ct9), sl9⟩)
    (fc9 : PySem.W.codeIn K cd9 "is_prime" = true)
    (fk9 : PySem.W.keepIn K (.ref f9) = true)
    (fa10 : PySem.W.nsIn K mainGlobals "is_field" = some (some (.ref f10)))
    (fl10 : K.lookup f10 = some ⟨oc10, od10, .func (PySem.W.fnOf "is_field" "is_field" (defArgs s_is_field) (defBody s_is_field) (defScope s_is_field) .none kV10 dc10 pm10 an10 cd10 ct10), sl10⟩)
    (fc10 : PySem.W.codeIn K cd10 "is_field" = true)
    (fk10 : PySem.W.keepIn K (.ref f10) = true)
    (fa11 : PySem.W.nsIn K mainGlobals "are_integers" = some (some (.ref f11)))
    (fl11 : K.lookup f11 = some ⟨oc11, od11, .func (PySem.W.fnOf "are_integers" "are_integers" (defArgs s_are_integers) (defBody s_are_integers) (defScope s_are_integers) .none kV11 dc11 pm11 an11 cd11 ct11), sl11⟩)
    (fc11 : PySem.W.codeIn K cd11 "are_integers" = true)
    (fk11 : PySem.W.keepIn K (.ref f11) = true)
    (fa12 : PySem.W.nsIn K mainGlobals "is_kind" = some (some (.ref f12)))
    (fl12 : K.lookup f12 = some ⟨oc12, od12, .func (PySem.W.fnOf "is_kind" "is_kind" (defArgs s_is_kind) (defBody s_is_kind) (defScope s_is_kind) .none kV12 dc12 pm12 an12 cd12 ct12), sl12⟩)
    (fc12 : PySem.W.codeIn K cd12 "is_kind" = true)
    (fk12 : PySem.W.keepIn K (.ref f12) = true)
    (fa13 : PySem.W.nsIn K mainGlobals "is_form" = some (some (.ref f13)))
    (fl13 : K.lookup f13 = some ⟨oc13, od13, .func (PySem.W.fnOf "is_form" "is_form" (defArgs s_is_form) (defBody s_is_form) (defScope s_is_form) .none kV13 dc13 pm13 an13 cd13 ct13), sl13⟩)
    (fc13 : PySem.W.codeIn K cd13 "is_form" = true)
    (fk13 : PySem.W.keepIn K (.ref f13) = true)
    (fa14 : PySem.W.nsIn K mainGlobals "is_part_form" = some (some (.ref f14)))
    (fl14 : K.lookup f14 = some ⟨oc14, od14, .func (PySem.W.fnOf "is_part_form" "is_part_form" (defArgs s_is_part_form) (defBody s_is_part_form) (defScope s_is_part_form) .none kV14 dc14 pm14 an14 cd14 ct14), sl14⟩)
    (fc14 : PySem.W.codeIn K cd14 "is_part_form" = true)
    (fk14 : PySem.W.keepIn K (.ref f14) = true)
    (fa15 : PySem.W.nsIn K mainGlobals "is_name" = some (some (.ref f15)))
    (fl15 : K.lookup f15 = some ⟨oc15, od15, .func (PySem.W.fnOf "is_name" "is_name" (defArgs s_is_name) (defBody s_is_name) (defScope s_is_name) .none kV15 dc15 pm15 an15 cd15 ct15), sl15⟩)
    (fc15 : PySem.W.codeIn K cd15 "is_name" = true)
    (fk15 : PySem.W.keepIn K (.ref f15) = true)
    (fa16 : PySem.W.nsIn K mainGlobals "names_in" = some (some (.ref f16)))
    (fl16 : K.lookup f16 = some ⟨oc16, od16, .func (PySem.W.fnOf "names_in" "names_in" (defArgs s_names_in) (defBody s_names_in) (defScope s_names_in) .none kV16 dc16 pm16 an16 cd16 ct16), sl16⟩)
    (fc16 : PySem.W.codeIn K cd16 "names_in" = true)
    (fk16 : PySem.W.keepIn K (.ref f16) = true)
    (fa17 : PySem.W.nsIn K mainGlobals "are_numbers" = some (some (.ref f17)))
    (fl17 : K.lookup f17 = some ⟨oc17, od17, .func (PySem.W.fnOf "are_numbers" "are_numbers" (defArgs s_are_numbers) (defBody s_are_numbers) (defScope s_are_numbers) .none kV17 dc17 pm17 an17 cd17 ct17), sl17⟩)
    (fc17 : PySem.W.codeIn K cd17 "are_numbers" = true)
    (fk17 : PySem.W.keepIn K (.ref f17) = true)
    (fa18 : PySem.W.nsIn K mainGlobals "table_bits" = some (some (.ref f18)))
    (fl18 : K.lookup f18 = some ⟨oc18, od18, .func (PySem.W.fnOf "table_bits" "table_bits" (defArgs s_table_bits) (defBody s_table_bits) (defScope s_table_bits) .none kV18 dc18 pm18 an18 cd18 ct18), sl18⟩)
    (fc18 : PySem.W.codeIn K cd18 "table_bits" = true)
    (fk18 : PySem.W.keepIn K (.ref f18) = true)
    (fa19 : PySem.W.nsIn K mainGlobals "are_order" = some (some (.ref f19)))
    (fl19 : K.lookup f19 = some ⟨oc19, od19, .func (PySem.W.fnOf "are_order" "are_order" (defArgs s_are_order) (defBody s_are_order) (defScope s_are_order) .none kV19 dc19 pm19 an19 cd19 ct19), sl19⟩)
    (fc19 : PySem.W.codeIn K cd19 "are_order" = true)
    (fk19 : PySem.W.keepIn K (.ref f19) = true)
    (fa20 : PySem.W.nsIn K mainGlobals "one_bits" = some (some (.ref f20)))
    (fl20 : K.lookup f20 = some ⟨oc20, od20, .func (PySem.W.fnOf "one_bits" "one_bits" (defArgs s_one_bits) (defBody s_one_bits) (defScope s_one_bits) .none kV20 dc20 pm20 an20 cd20 ct20), sl20⟩)
    (fc20 : PySem.W.codeIn K cd20 "one_bits" = true)
    (fk20 : PySem.W.keepIn K (.ref f20) = true)
    (fa21 : PySem.W.nsIn K mainGlobals "form_bits" = some (some (.ref f21)))
    (fl21 : K.lookup f21 = some ⟨oc21, od21, .func (PySem.W.fnOf "form_bits" "form_bits" (defArgs s_form_bits) (defBody s_form_bits) (defScope s_form_bits) .none kV21 dc21 pm21 an21 cd21 ct21), sl21⟩)
    (fc21 : PySem.W.codeIn K cd21 "form_bits" = true)
    (fk21 : PySem.W.keepIn K (.ref f21) = true)
    (fa22 : PySem.W.nsIn K mainGlobals "part_fault" = some (some (.ref f22)))
    (fl22 : K.lookup f22 = some ⟨oc22, od22, .func (PySem.W.fnOf "part_fault" "part_fault" (defArgs s_part_fault) (defBody s_part_fault) (defScope s_part_fault) .none kV22 dc22 pm22 an22 cd22 ct22), sl22⟩)
    (fc22 : PySem.W.codeIn K cd22 "part_fault" = true)
    (fk22 : PySem.W.keepIn K (.ref f22) = true)
    (fa23 : PySem.W.nsIn K mainGlobals "check_parts" = some (some (.ref f23)))
    (fl23 : K.lookup f23 = some ⟨oc23, od23, .func (PySem.W.fnOf "check_parts" "check_parts" (defArgs s_check_parts) (defBody s_check_parts) (defScope s_check_parts) .none kV23 dc23 pm23 an23 cd23 ct23), sl23⟩)
    (fc23 : PySem.W.codeIn K cd23 "check_parts" = true)
    (fk23 : PySem.W.keepIn K (.ref f23) = true)
    (fa24 : PySem.W.nsIn K mainGlobals "are_goals" = some (some (.ref f24)))
    (fl24 : K.lookup f24 = some ⟨oc24, od24, .func (PySem.W.fnOf "are_goals" "are_goals" (defArgs s_are_goals) (defBody s_are_goals) (defScope s_are_goals) .none kV24 dc24 pm24 an24 cd24 ct24), sl24⟩)
    (fc24 : PySem.W.codeIn K cd24 "are_goals" = true)
    (fk24 : PySem.W.keepIn K (.ref f24) = true)
    (fa25 : PySem.W.nsIn K mainGlobals "checked_program" = some (some (.ref f25)))
    (fl25 : K.lookup f25 = some ⟨oc25, od25, .func (PySem.W.fnOf "checked_program" "checked_program" (defArgs s_checked_program) (defBody s_checked_program) (defScope s_checked_program) .none kV25 dc25 pm25 an25 cd25 ct25), sl25⟩)
    (fc25 : PySem.W.codeIn K cd25 "checked_program" = true)
    (fk25 : PySem.W.keepIn K (.ref f25) = true)
    (fa26 : PySem.W.nsIn K mainGlobals "reordered_program" = some (some (.ref f26)))
    (fl26 : K.lookup f26 = some ⟨oc26, od26, .func (PySem.W.fnOf "reordered_program" "reordered_program" (defArgs s_reordered_program) (defBody s_reordered_program) (defScope s_reordered_program) .none kV26 dc26 pm26 an26 cd26 ct26), sl26⟩)
    (fc26 : PySem.W.codeIn K cd26 "reordered_program" = true)
    (fk26 : PySem.W.keepIn K (.ref f26) = true)
    (fa27 : PySem.W.nsIn K mainGlobals "_law_mixed" = some (some (.ref f27)))
    (fl27 : K.lookup f27 = some ⟨oc27, od27, .func (PySem.W.fnOf "_law_mixed" "_law_mixed" (defArgs s__law_mixed) (defBody s__law_mixed) (defScope s__law_mixed) .none kV27 dc27 pm27 an27 cd27 ct27), sl27⟩)
    (fc27 : PySem.W.codeIn K cd27 "_law_mixed" = true)
    (fk27 : PySem.W.keepIn K (.ref f27) = true)
    (fa28 : PySem.W.nsIn K mainGlobals "_law_same_asks" = some (some (.ref f28)))
    (fl28 : K.lookup f28 = some ⟨oc28, od28, .func (PySem.W.fnOf "_law_same_asks" "_law_same_asks" (defArgs s__law_same_asks) (defBody s__law_same_asks) (defScope s__law_same_asks) .none kV28 dc28 pm28 an28 cd28 ct28), sl28⟩)
    (fc28 : PySem.W.codeIn K cd28 "_law_same_asks" = true)
    (fk28 : PySem.W.keepIn K (.ref f28) = true)
    (fa29 : PySem.W.nsIn K mainGlobals "are_reordered" = some (some (.ref f29)))
    (fl29 : K.lookup f29 = some ⟨oc29, od29, .func (PySem.W.fnOf "are_reordered" "are_reordered" (defArgs s_are_reordered) (defBody s_are_reordered) (defScope s_are_reordered) .none kV29 dc29 pm29 an29 cd29 ct29), sl29⟩)
    (fc29 : PySem.W.codeIn K cd29 "are_reordered" = true)
    (fk29 : PySem.W.keepIn K (.ref f29) = true)
    (fa30 : PySem.W.nsIn K mainGlobals "asks_for" = some (some (.ref f30)))
    (fl30 : K.lookup f30 = some ⟨oc30, od30, .func (PySem.W.fnOf "asks_for" "asks_for" (defArgs s_asks_for) (defBody s_asks_for) (defScope s_asks_for) .none kV30 dc30 pm30 an30 cd30 ct30), sl30⟩)
    (fc30 : PySem.W.codeIn K cd30 "asks_for" = true)
    (fk30 : PySem.W.keepIn K (.ref f30) = true)
    (fa31 : PySem.W.nsIn K mainGlobals "named" = some (some (.ref f31)))
    (fl31 : K.lookup f31 = some ⟨oc31, od31, .func (PySem.W.fnOf "named" "named" (defArgs s_named) (defBody s_named) (defScope s_named) .none kV31 dc31 pm31 an31 cd31 ct31), sl31⟩)
    (fc31 : PySem.W.codeIn K cd31 "named" = true)
    (fk31 : PySem.W.keepIn K (.ref f31) = true)
    (fa32 : PySem.W.nsIn K mainGlobals "together" = some (some (.ref f32)))
    (fl32 : K.lookup f32 = some ⟨oc32, od32, .func (PySem.W.fnOf "together" "together" (defArgs s_together) (defBody s_together) (defScope s_together) .none kV32 dc32 pm32 an32 cd32 ct32), sl32⟩)
    (fc32 : PySem.W.codeIn K cd32 "together" = true)
    (fk32 : PySem.W.keepIn K (.ref f32) = true)
    (fa33 : PySem.W.nsIn K mainGlobals "picked" = some (some (.ref f33)))
    (fl33 : K.lookup f33 = some ⟨oc33, od33, .func (PySem.W.fnOf "picked" "picked" (defArgs s_picked) (defBody s_picked) (defScope s_picked) .none kV33 dc33 pm33 an33 cd33 ct33), sl33⟩)
    (fc33 : PySem.W.codeIn K cd33 "picked" = true)
    (fk33 : PySem.W.keepIn K (.ref f33) = true)
    (fa34 : PySem.W.nsIn K mainGlobals "folded" = some (some (.ref f34)))
    (fl34 : K.lookup f34 = some ⟨oc34, od34, .func (PySem.W.fnOf "folded" "folded" (defArgs s_folded) (defBody s_folded) (defScope s_folded) .none kV34 dc34 pm34 an34 cd34 ct34), sl34⟩)
    (fc34 : PySem.W.codeIn K cd34 "folded" = true)
    (fk34 : PySem.W.keepIn K (.ref f34) = true)
    (fa35 : PySem.W.nsIn K mainGlobals "spread" = some (some (.ref f35)))
    (fl35 : K.lookup f35 = some ⟨oc35, od35, .func (PySem.W.fnOf "spread" "spread" (defArgs s_spread) (defBody s_spread) (defScope s_spread) .none kV35 dc35 pm35 an35 cd35 ct35), sl35⟩)
    (fc35 : PySem.W.codeIn K cd35 "spread" = true)
    (fk35 : PySem.W.keepIn K (.ref f35) = true)
    (fa36 : PySem.W.nsIn K mainGlobals "half_of" = some (some (.ref f36)))
    (fl36 : K.lookup f36 = some ⟨oc36, od36, .func (PySem.W.fnOf "half_of" "half_of" (defArgs s_half_of) (defBody s_half_of) (defScope s_half_of) .none kV36 dc36 pm36 an36 cd36 ct36), sl36⟩)
    (fc36 : PySem.W.codeIn K cd36 "half_of" = true)
    (fk36 : PySem.W.keepIn K (.ref f36) = true)
    (fa37 : PySem.W.nsIn K mainGlobals "moved_index" = some (some (.ref f37)))
    (fl37 : K.lookup f37 = some ⟨oc37, od37, .func (PySem.W.fnOf "moved_index" "moved_index" (defArgs s_moved_index) (defBody s_moved_index) (defScope s_moved_index) .none kV37 dc37 pm37 an37 cd37 ct37), sl37⟩)
    (fc37 : PySem.W.codeIn K cd37 "moved_index" = true)
    (fk37 : PySem.W.keepIn K (.ref f37) = true)
    (fa38 : PySem.W.nsIn K mainGlobals "turned" = some (some (.ref f38)))
    (fl38 : K.lookup f38 = some ⟨oc38, od38, .func (PySem.W.fnOf "turned" "turned" (defArgs s_turned) (defBody s_turned) (defScope s_turned) .none kV38 dc38 pm38 an38 cd38 ct38), sl38⟩)
    (fc38 : PySem.W.codeIn K cd38 "turned" = true)
    (fk38 : PySem.W.keepIn K (.ref f38) = true)
    (fa39 : PySem.W.nsIn K mainGlobals "multiplied" = some (some (.ref f39)))
    (fl39 : K.lookup f39 = some ⟨oc39, od39, .func (PySem.W.fnOf "multiplied" "multiplied" (defArgs s_multiplied) (defBody s_multiplied) (defScope s_multiplied) .none kV39 dc39 pm39 an39 cd39 ct39), sl39⟩)
    (fc39 : PySem.W.codeIn K cd39 "multiplied" = true)
    (fk39 : PySem.W.keepIn K (.ref f39) = true)
    (fa40 : PySem.W.nsIn K mainGlobals "form_table" = some (some (.ref f40)))
    (fl40 : K.lookup f40 = some ⟨oc40, od40, .func (PySem.W.fnOf "form_table" "form_table" (defArgs s_form_table) (defBody s_form_table) (defScope s_form_table) .none kV40 dc40 pm40 an40 cd40 ct40), sl40⟩)
    (fc40 : PySem.W.codeIn K cd40 "form_table" = true)
    (fk40 : PySem.W.keepIn K (.ref f40) = true)
    (fa41 : PySem.W.nsIn K mainGlobals "run" = some (some (.ref f41)))
    (fl41 : K.lookup f41 = some ⟨oc41, od41, .func (PySem.W.fnOf "run" "run" (defArgs s_run) (defBody s_run) (defScope s_run) .none kV41 dc41 pm41 an41 cd41 ct41), sl41⟩)
    (fc41 : PySem.W.codeIn K cd41 "run" = true)
    (fk41 : PySem.W.keepIn K (.ref f41) = true)
    (fa42 : PySem.W.nsIn K mainGlobals "is_true" = some (some (.ref f42)))
    (fl42 : K.lookup f42 = some ⟨oc42, od42, .func (PySem.W.fnOf "is_true" "is_true" (defArgs s_is_true) (defBody s_is_true) (defScope s_is_true) .none kV42 dc42 pm42 an42 cd42 ct42), sl42⟩)
    (fc42 : PySem.W.codeIn K cd42 "is_true" = true)
    (fk42 : PySem.W.keepIn K (.ref f42) = true)
    (fa43 : PySem.W.nsIn K mainGlobals "_law_size" = some (some (.ref f43)))
    (fl43 : K.lookup f43 = some ⟨oc43, od43, .func (PySem.W.fnOf "_law_size" "_law_size" (defArgs s__law_size) (defBody s__law_size) (defScope s__law_size) .none kV43 dc43 pm43 an43 cd43 ct43), sl43⟩)
    (fc43 : PySem.W.codeIn K cd43 "_law_size" = true)
    (fk43 : PySem.W.keepIn K (.ref f43) = true)
    (fa44 : PySem.W.nsIn K mainGlobals "_law_bits" = some (some (.ref f44)))
    (fl44 : K.lookup f44 = some ⟨oc44, od44, .func (PySem.W.fnOf "_law_bits" "_law_bits" (defArgs s__law_bits) (defBody s__law_bits) (defScope s__law_bits) .none kV44 dc44 pm44 an44 cd44 ct44), sl44⟩)
    (fc44 : PySem.W.codeIn K cd44 "_law_bits" = true)
    (fk44 : PySem.W.keepIn K (.ref f44) = true)
    (fa45 : PySem.W.nsIn K mainGlobals "_law_index" = some (some (.ref f45)))
    (fl45 : K.lookup f45 = some ⟨oc45, od45, .func (PySem.W.fnOf "_law_index" "_law_index" (defArgs s__law_index) (defBody s__law_index) (defScope s__law_index) .none kV45 dc45 pm45 an45 cd45 ct45), sl45⟩)
    (fc45 : PySem.W.codeIn K cd45 "_law_index" = true)
    (fk45 : PySem.W.keepIn K (.ref f45) = true)
    (fa46 : PySem.W.nsIn K mainGlobals "_law_part_table" = some (some (.ref f46)))
    (fl46 : K.lookup f46 = some ⟨oc46, od46, .func (PySem.W.fnOf "_law_part_table" "_law_part_table" (defArgs s__law_part_table) (defBody s__law_part_table) (defScope s__law_part_table) .none kV46 dc46 pm46 an46 cd46 ct46), sl46⟩)
    (fc46 : PySem.W.codeIn K cd46 "_law_part_table" = true)
    (fk46 : PySem.W.keepIn K (.ref f46) = true)
    (fa47 : PySem.W.nsIn K mainGlobals "_law_tables" = some (some (.ref f47)))
    (fl47 : K.lookup f47 = some ⟨oc47, od47, .func (PySem.W.fnOf "_law_tables" "_law_tables" (defArgs s__law_tables) (defBody s__law_tables) (defScope s__law_tables) .none kV47 dc47 pm47 an47 cd47 ct47), sl47⟩)
    (fc47 : PySem.W.codeIn K cd47 "_law_tables" = true)
    (fk47 : PySem.W.keepIn K (.ref f47) = true)
    (fa48 : PySem.W.nsIn K mainGlobals "_law_is_true" = some (some (.ref f48)))
    (fl48 : K.lookup f48 = some ⟨oc48, od48, .func (PySem.W.fnOf "_law_is_true" "_law_is_true" (defArgs s__law_is_true) (defBody s__law_is_true) (defScope s__law_is_true) .none kV48 dc48 pm48 an48 cd48 ct48), sl48⟩)
    (fc48 : PySem.W.codeIn K cd48 "_law_is_true" = true)
    (fk48 : PySem.W.keepIn K (.ref f48) = true)
    (fa49 : PySem.W.nsIn K mainGlobals "law" = some (some (.ref f49)))
    (fl49 : K.lookup f49 = some ⟨oc49, od49, .func (PySem.W.fnOf "law" "law" (defArgs s_law) (defBody s_law) (defScope s_law) .none kV49 dc49 pm49 an49 cd49 ct49), sl49⟩)
    (fc49 : PySem.W.codeIn K cd49 "law" = true)
    (fk49 : PySem.W.keepIn K (.ref f49) = true)
    : ∃ fd : FuncData, (∀ (s : Shared) (v : Value), BindsTo s fd ⟨[v], []⟩ [("script", v)]) ∧ ∀ base : Heap, K.In base → base.Ns mainGlobals mg → FnOk l.prog w K mg base CX0 10 fa fd ["script"] (spL K 63) := by
  have G : Gb K w mg := ⟨PySem.W.mg_none_of X N z_abs, PySem.W.mg_none_of X N z_all, PySem.W.mg_none_of X N z_bool, PySem.W.mg_none_of X N z_enumerate, PySem.W.mg_none_of X N z_int, PySem.W.mg_none_of X N z_isinstance, PySem.W.mg_none_of X N z_len, PySem.W.mg_none_of X N z_list, PySem.W.mg_none_of X N z_range, PySem.W.mg_none_of X N z_set, PySem.W.mg_none_of X N z_sorted, PySem.W.mg_none_of X N z_str, PySem.W.mg_none_of X N z_sum, PySem.W.mg_none_of X N z_tuple, PySem.W.mg_none_of X N z_zip, gv_str (PySem.W.mg_of X N c_COUNT), gv_int (PySem.W.mg_of X N c_LEAST_FIELD), gv_str (PySem.W.mg_of X N c_LETTERS), gv_strs (PySem.W.mg_of X N c_LEVELS) l_LEVELS s_LEVELS d_LEVELS v_LEVELS w_LEVELS, gv_strs (PySem.W.mg_of X N c_LIKE) l_LIKE s_LIKE d_LIKE v_LIKE w_LIKE, gv_int (PySem.W.mg_of X N c_MEMBERS), gv_int (PySem.W.mg_of X N c_MOST_BITS), gv_int (PySem.W.mg_of X N c_MOST_FIELD_forms), gv_int (PySem.W.mg_of X N c_MOST_FIELD_orders), gv_int (PySem.W.mg_of X N c_MOST_NAME), gv_int (PySem.W.mg_of X N c_MOST_PARTS), gv_str (PySem.W.mg_of X N c_PART), gv_strs (PySem.W.mg_of X N c_RESERVED) l_RESERVED s_RESERVED d_RESERVED v_RESERVED w_RESERVED, ⟨_, PySem.W.mg_of X N c_PARTS, k_PARTS⟩⟩
  have e := hfa.symm.trans (PySem.W.mg_of X N fa49)
  cases e
  have F0 := fun_mk (st := s__law_bag) fl0 fc0 fk0
  have F1 := fun_mk (st := s__law_take) fl1 fc1 fk1
  have F2 := fun_mk (st := s__law_some) fl2 fc2 fk2
  have F3 := fun_mk (st := s__law_reordered) fl3 fc3 fk3
  have F4 := fun_mk (st := s__law_alike) fl4 fc4 fk4
  have F5 := fun_mk (st := s_tree_parts) fl5 fc5 fk5
  have F6 := fun_mk (st := s_compared_parts) fl6 fc6 fk6
  have F7 := fun_mk (st := s_is_integer) fl7 fc7 fk7
  have F8 := fun_mk (st := s_is_within) fl8 fc8 fk8
  have F9 := fun_mk (st := s_is_prime) fl9 fc9 fk9
  have F10 := fun_mk (st := s_is_field) fl10 fc10 fk10
  have F11 := fun_mk (st := s_are_integers) fl11 fc11 fk11
  have F12 := fun_mk (st := s_is_kind) fl12 fc12 fk12
  have F13 := fun_mk (st := s_is_form) fl13 fc13 fk13
  have F14 := fun_mk (st := s_is_part_form) fl14 fc14 fk14
  have F15 := fun_mk (st := s_is_name) fl15 fc15 fk15
  have F16 := fun_mk (st := s_names_in) fl16 fc16 fk16
  have F17 := fun_mk (st := s_are_numbers) fl17 fc17 fk17
  have F18 := fun_mk (st := s_table_bits) fl18 fc18 fk18
  have F19 := fun_mk (st := s_are_order) fl19 fc19 fk19
  have F20 := fun_mk (st := s_one_bits) fl20 fc20 fk20
  have F21 := fun_mk (st := s_form_bits) fl21 fc21 fk21
  have F22 := fun_mk (st := s_part_fault) fl22 fc22 fk22
  have F23 := fun_mk (st := s_check_parts) fl23 fc23 fk23
  have F24 := fun_mk (st := s_are_goals) fl24 fc24 fk24
  have F25 := fun_mk (st := s_checked_program) fl25 fc25 fk25
  have F26 := fun_mk (st := s_reordered_program) fl26 fc26 fk26
  have F27 := fun_mk (st := s__law_mixed) fl27 fc27 fk27
  have F28 := fun_mk (st := s__law_same_asks) fl28 fc28 fk28
  have F29 := fun_mk (st := s_are_reordered) fl29 fc29 fk29
  have F30 := fun_mk (st := s_asks_for) fl30 fc30 fk30
  have F31 := fun_mk (st := s_named) fl31 fc31 fk31
  have F32 := fun_mk (st := s_together) fl32 fc32 fk32
  have F33 := fun_mk (st := s_picked) fl33 fc33 fk33
  have F34 := fun_mk (st := s_folded) fl34 fc34 fk34
  have F35 := fun_mk (st := s_spread) fl35 fc35 fk35
  have F36 := fun_mk (st := s_half_of) fl36 fc36 fk36
  have F37 := fun_mk (st := s_moved_index) fl37 fc37 fk37
  have F38 := fun_mk (st := s_turned) fl38 fc38 fk38
  have F39 := fun_mk (st := s_multiplied) fl39 fc39 fk39
  have F40 := fun_mk (st := s_form_table) fl40 fc40 fk40
  have F41 := fun_mk (st := s_run) fl41 fc41 fk41
  have F42 := fun_mk (st := s_is_true) fl42 fc42 fk42
  have F43 := fun_mk (st := s__law_size) fl43 fc43 fk43
  have F44 := fun_mk (st := s__law_bits) fl44 fc44 fk44
  have F45 := fun_mk (st := s__law_index) fl45 fc45 fk45
  have F46 := fun_mk (st := s__law_part_table) fl46 fc46 fk46
  have F47 := fun_mk (st := s__law_tables) fl47 fc47 fk47
  have F48 := fun_mk (st := s__law_is_true) fl48 fc48 fk48
  have F49 := fun_mk (st := s_law) fl49 fc49 fk49
  refine ⟨PySem.W.fnOf "law" "law" (defArgs s_law) (defBody s_law) (defScope s_law) .none kV49 dc49 pm49 an49 cd49 ct49, fun s v => .of_eq rfl, fun base _ _ => ?_⟩
  have D__law_bag := ok__law_bag (P := l.prog) (base := base) G  F0 (PySem.W.mg_of X N fa0)
  have D__law_take := ok__law_take (P := l.prog) (base := base) G  F1 (PySem.W.mg_of X N fa1)
  have D__law_some := ok__law_some (P := l.prog) (base := base) G D__law_take F2 (PySem.W.mg_of X N fa2)
  have D__law_reordered := ok__law_reordered (P := l.prog) (base := base) G  F3 (PySem.W.mg_of X N fa3)
  have D__law_alike := ok__law_alike (P := l.prog) (base := base) G  F4 (PySem.W.mg_of X N fa4)
  have D_tree_parts := ok_tree_parts (P := l.prog) (base := base) G  F5 (PySem.W.mg_of X N fa5)
  have D_compared_parts := ok_compared_parts (P := l.prog) (base := base) G D_tree_parts F6 (PySem.W.mg_of X N fa6)
  have D_is_integer := ok_is_integer (P := l.prog) (base := base) G  F7 (PySem.W.mg_of X N fa7)
  have D_is_within := ok_is_within (P := l.prog) (base := base) G D_is_integer F8 (PySem.W.mg_of X N fa8)
  have D_is_prime := ok_is_prime (P := l.prog) (base := base) G  F9 (PySem.W.mg_of X N fa9)
  have D_is_field := ok_is_field (P := l.prog) (base := base) G D_is_within D_is_prime F10 (PySem.W.mg_of X N fa10)
  have D_are_integers := ok_are_integers (P := l.prog) (base := base) G D_is_integer F11 (PySem.W.mg_of X N fa11)
  have D_is_kind := ok_is_kind (P := l.prog) (base := base) G D_is_integer D_are_integers F12 (PySem.W.mg_of X N fa12)
  have D_is_form := ok_is_form (P := l.prog) (base := base) G D_is_kind F13 (PySem.W.mg_of X N fa13)
  have D_is_part_form := ok_is_part_form (P := l.prog) (base := base) G D_is_form F14 (PySem.W.mg_of X N fa14)
  have D_is_name := ok_is_name (P := l.prog) (base := base) G  F15 (PySem.W.mg_of X N fa15)
  have D_names_in := ok_names_in (P := l.prog) (base := base) G  F16 (PySem.W.mg_of X N fa16)
  have D_are_numbers := ok_are_numbers (P := l.prog) (base := base) G D_are_integers F17 (PySem.W.mg_of X N fa17)
  have D_table_bits := ok_table_bits (P := l.prog) (base := base) G  F18 (PySem.W.mg_of X N fa18)
  have D_are_order := ok_are_order (P := l.prog) (base := base) G D_are_integers F19 (PySem.W.mg_of X N fa19)
  have D_one_bits := ok_one_bits (P := l.prog) (base := base) G D_are_order F20 (PySem.W.mg_of X N fa20)
  have D_form_bits := ok_form_bits (P := l.prog) (base := base) G D_names_in D_table_bits D_one_bits F21 (PySem.W.mg_of X N fa21)
  have D_part_fault := ok_part_fault (P := l.prog) (base := base) G D_is_part_form D_is_name D_names_in D_are_numbers D_table_bits D_form_bits F22 (PySem.W.mg_of X N fa22)
  have D_check_parts := ok_check_parts (P := l.prog) (base := base) G D_part_fault D_form_bits F23 (PySem.W.mg_of X N fa23)
  have D_are_goals := ok_are_goals (P := l.prog) (base := base) G  F24 (PySem.W.mg_of X N fa24)
  have D_checked_program := ok_checked_program (P := l.prog) (base := base) G D_is_field D_check_parts D_are_goals F25 (PySem.W.mg_of X N fa25)
  have D_reordered_program := ok_reordered_program (P := l.prog) (base := base) G D_compared_parts D_checked_program F26 (PySem.W.mg_of X N fa26)
  have D__law_mixed := ok__law_mixed (P := l.prog) (base := base) G D__law_take F27 (PySem.W.mg_of X N fa27)
  have D__law_same_asks := ok__law_same_asks (P := l.prog) (base := base) G  F28 (PySem.W.mg_of X N fa28)
  have D_are_reordered := ok_are_reordered (P := l.prog) (base := base) G  F29 (PySem.W.mg_of X N fa29)
  have D_asks_for := ok_asks_for (P := l.prog) (base := base) G  F30 (PySem.W.mg_of X N fa30)
  have D_named := ok_named (P := l.prog) (base := base) G  F31 (PySem.W.mg_of X N fa31)
  have D_together := ok_together (P := l.prog) (base := base) G  F32 (PySem.W.mg_of X N fa32)
  have D_picked := ok_picked (P := l.prog) (base := base) G  F33 (PySem.W.mg_of X N fa33)
  have D_folded := ok_folded (P := l.prog) (base := base) G  F34 (PySem.W.mg_of X N fa34)
  have D_spread := ok_spread (P := l.prog) (base := base) G  F35 (PySem.W.mg_of X N fa35)
  have D_half_of := ok_half_of (P := l.prog) (base := base) G  F36 (PySem.W.mg_of X N fa36)
  have D_moved_index := ok_moved_index (P := l.prog) (base := base) G  F37 (PySem.W.mg_of X N fa37)
  have D_turned := ok_turned (P := l.prog) (base := base) G D_moved_index F38 (PySem.W.mg_of X N fa38)
  have D_multiplied := ok_multiplied (P := l.prog) (base := base) G  F39 (PySem.W.mg_of X N fa39)
  have D_form_table := ok_form_table (P := l.prog) (base := base) G D_together D_picked D_folded D_spread D_half_of D_turned D_multiplied F40 (PySem.W.mg_of X N fa40)
  have D_run := ok_run (P := l.prog) (base := base) G D_named D_form_table F41 (PySem.W.mg_of X N fa41)
  have D_is_true := ok_is_true (P := l.prog) (base := base) G D_run F42 (PySem.W.mg_of X N fa42)
  have D__law_size := ok__law_size (P := l.prog) (base := base) G  F43 (PySem.W.mg_of X N fa43)
  have D__law_bits := ok__law_bits (P := l.prog) (base := base) G  F44 (PySem.W.mg_of X N fa44)
  have D__law_index := ok__law_index (P := l.prog) (base := base) G  F45 (PySem.W.mg_of X N fa45)
  have D__law_part_table := ok__law_part_table (P := l.prog) (base := base) G D__law_size D__law_bits D__law_index F46 (PySem.W.mg_of X N fa46)
  have D__law_tables := ok__law_tables (P := l.prog) (base := base) G D__law_part_table F47 (PySem.W.mg_of X N fa47)
  have D__law_is_true := ok__law_is_true (P := l.prog) (base := base) G D__law_tables F48 (PySem.W.mg_of X N fa48)
  exact (fnk_law G D__law_bag D__law_some D__law_take D__law_reordered D__law_alike D_reordered_program D__law_mixed D__law_same_asks D_are_reordered D_asks_for D_is_true D__law_is_true F49).imp fun vs H Q E h => law_end plain h
end LF
/-! PL1: reading the functions: simp's words, loops as maps. -/
namespace LF
open PySem
/-- a comprehension's loop that takes each item to a value -/
theorem compLoop_map {α : Type} {own : Own} {g : GM} {fl : Bool} {tt : TM} {te : EM} {e : En} {mk f : α → D} : ∀ (as : List α) (acc : List D),
    (∀ a ∈ as, ∃ e1 e2 e3, g (mk a) fl e = some e1 ∧ tt e1 = some (true, e2) ∧ te e2 = some (f a, true, e3) ∧ hideAll own e3 = e) → acc.length + as.length ≤ sizeMax →
    compLoop own g fl tt te (as.map mk) e acc = some (acc ++ as.map f, e)
  | [], acc, _, _ => by
    rw [List.map_nil, List.map_nil, List.append_nil]
    rfl
  | a :: as, acc, h, hz => by
    obtain ⟨e1, e2, e3, h1, h2, h3, h4⟩ := h a List.mem_cons_self
    rw [List.length_cons] at hz
    rw [List.map_cons, List.map_cons]
    unfold compLoop
    rw [h1]
    dsimp only
    rw [h2]
    dsimp only
    rw [h3]
    dsimp only
    rw [if_pos (by omega), h4, compLoop_map as (acc ++ [f a]) (fun b hb => h b (List.mem_cons_of_mem _ hb)) (by rw [List.length_append, List.length_singleton]; omega), List.append_assoc]
    rfl
/-- .. that takes some of them -/
theorem compLoop_filter {α : Type} {own : Own} {g : GM} {fl : Bool} {tt : TM} {te : EM} {e : En} {mk f : α → D} {p : α → Bool} : ∀ (as : List α) (acc : List D),
    (∀ a ∈ as, ∃ e1 e2, g (mk a) fl e = some e1 ∧ tt e1 = some (p a, e2) ∧ (p a = false → hideAll own e2 = e) ∧ (p a = true → ∃ e3, te e2 = some (f a, true, e3) ∧ hideAll own e3 = e)) → acc.length + as.length ≤ sizeMax →
    compLoop own g fl tt te (as.map mk) e acc = some (acc ++ (as.filter p).map f, e)
  | [], acc, _, _ => by
    rw [List.filter_nil, List.map_nil, List.map_nil, List.append_nil]
    rfl
  | a :: as, acc, h, hz => by
    obtain ⟨e1, e2, h1, h2, h3, h4⟩ := h a List.mem_cons_self
    rw [List.length_cons] at hz
    rw [List.map_cons]
    unfold compLoop
    rw [h1]
    dsimp only
    rw [h2]
    cases hp : p a with
    | false =>
      dsimp only
      rw [h3 hp, compLoop_filter as acc (fun b hb => h b (List.mem_cons_of_mem _ hb)) (by omega), List.filter_cons, hp]
      rfl
    | true =>
      obtain ⟨e3, h5, h6⟩ := h4 hp
      dsimp only
      rw [h5]
      dsimp only
      rw [if_pos (by omega), h6, compLoop_filter as (acc ++ [f a]) (fun b hb => h b (List.mem_cons_of_mem _ hb)) (by rw [List.length_append, List.length_singleton]; omega), List.append_assoc, List.filter_cons, hp]
      rfl
theorem imms_ints (xs : List Int) : D.imms (xs.map D.int) = true := ints_imm xs
theorem imms_strs : ∀ xs : List Str, D.imms (xs.map D.str) = true
  | [] => rfl
  | x :: xs => imms_strs xs
theorem intsOf_map : ∀ xs : List Int, intsOf (xs.map D.int) = some xs
  | [] => rfl
  | x :: xs => by
    show (match D.int x, intsOf (xs.map D.int) with | .int i, some is => some (i :: is) | _, _ => none) = _
    rw [intsOf_map xs]
theorem allOf_map : ∀ xs : List Bool, allOf (xs.map D.bl) = some xs
  | [] => rfl
  | x :: xs => by
    show (match D.bl x, allOf (xs.map D.bl) with | .bl i, some is => some (i :: is) | _, _ => none) = _
    rw [allOf_map xs]
/-- ints as a tuple, as a list -/
def tupI (xs : List Int) : D := .tup (xs.map .int)
theorem zip_ints (xs ys : List Int) : List.zipWith pairD (xs.map .int) (ys.map .int) = (xs.zip ys).map fun q => pairD (.int q.1) (.int q.2) := by
  rw [List.zip, List.map_zipWith, List.zipWith_map]
theorem imms_pairs : ∀ qs : List (Int × Int), D.imms (qs.map fun q => pairD (.int q.1) (.int q.2)) = true
  | [] => rfl
  | q :: qs => imms_pairs qs
theorem partFl_imm {l : List D} {b : Bool} (h : D.imms l = true) : partFl l b = some true := by unfold partFl; rw [if_pos h]
end LF
namespace LF
open PySem
/-- the law's bag -/
def bagD (a s c : Int) (xs : List Int) : D := .lst [.int a, .int s, .int c, .lst (xs.map .int)]
theorem bag_take2 (a s c m : Int) (xs : List Int) (ha : 0 < a) (hm : 0 < m) (hm2 : m < 1073741824) :
    py__law_take [(bagD a s c xs, true), (.int m, true)] = some (.int (a.fmod m), true, [some (bagD (a.fdiv m) s c xs, true), some (.int m, true)]) := by
  have h0 : a ≠ 0 := by omega
  have h2 : m ≠ 0 := by omega
  have h3 : ¬ 1073741824 ≤ m.natAbs := by omega
  simp [e_dnew, e_vals0, e_vals, k_vals, k_vc, e_disp, k_disp, e_dpop, k_dp0, k_dp1, k_dp2, k_dp3, repD_cons, e_get, k_gtS, k_gtN, D.flat, ofs_inj, fEq_str, e_dc, e_c2, k_cg, k_ge, e_lg0, e_lg, k_lg, e_stpD, k_s1, k_s2, k_s2F, k_s3, k_s4, e_stp2, k_t0, k_t1, k_t2, k_t3, key_str, key_int, getK_nil, getK_cons, putD_nil, putD_cons, e_upd, merge_nil, merge_cons, e_inD, e_setD, e_intup, inD_nil, inD_str, saveOk, hideAll, unhide, isTy, List.any_cons, List.any_nil, D.kd, e_for, k_for, e_lp0, k_lp, k_lpn, k_lpr, e_cm, k_cm, k_cmE, k_cl, k_cl2F, k_cl2T, k_cl3, e_rg1, k_rg1, e_itA, k_itL, k_itT, k_itF, e_zip, k_zpL, k_zpT, k_zp2L, k_zp2T, e_sl, e_agN, e_agS, e_chkI, k_chkI, e_slT00, e_slT01, e_slT10, e_slT11, e_slF01, e_listL, e_listT, e_listF, e_tupL, e_tupT, k_pf, e_mt, k_mt, e_app, e_ext, e_pop, k_pop, k_pop2, e_absI, e_augL, k_aug, k_aug2, k_aug3, e_mkF, k_finR, k_finN, e_bagSl, k_bag, k_bag2, startE, finals, e_seq, k_seq, k_seqr, e_set, k_set, e_par, k_par, k_par2, e_call, k_args, k_take, k_give, a_nil, a_val, k_val, k_cons, a_var, k_varA, t_nil, t_val, t_var, k_tk, k_tkV, g_nil, g_val, g_var, k_gvV, e_aug, e_var, e_mc, e_ret, k_ret, e_retV, e_pass, e_expr, k_expr, e_ifS, k_ifT, k_ifF, e_if, k_fT, k_fF, e_yes, e_setI, e_asg, k_asg, k_one, e_gname, e_of, k_of, e_not, k_not, e_and, k_andT, k_andF, e_or, k_orT, k_orF, e_gtup, e_gnil, e_gcons, k_gs, e_r1, k_r1, e_r2, k_r2, k_ix, e_sub, e_mod, e_div, e_pow, e_shl, e_cmp, e_lt, e_add, e_addI, e_addL, e_addT, e_mul, e_mulL, e_len1, e_len2, e_len3, e_int, e_intb, e_ixl, e_ixt, e_ixd1, e_ixd2, e_setL, fEq_int, fNe_int, gTup, gLst, flags, D.imm, D.imms, imms_ints, L2.atI, L2.ixN, two64, two62, sizeMax, py__law_take, b__law_take, bagD, ha, h0, h2, h3]
theorem cut_ints (xs : List Int) (lo hi : Option Int) : ∃ ys : List Int, ys.length ≤ xs.length ∧ cutD (xs.map .int) lo hi = ys.map .int := by
  refine ⟨(xs.drop (HT.sIx (xs.map D.int).length 0 lo)).take (HT.sIx (xs.map D.int).length (xs.map D.int).length hi - HT.sIx (xs.map D.int).length 0 lo), ?_, ?_⟩
  · rw [List.length_take, List.length_drop]
    omega
  · unfold cutD
    rw [List.map_take, List.map_drop]
theorem fmod_lo (a : Int) {k : Int} (h : 0 < k) : (-18446744073709551616 < a.fmod k) = True := by
  have := Int.fmod_nonneg_of_pos a h
  exact eq_true (by omega)
theorem fmod_hi (a : Int) {k : Int} (h : 0 < k) (h2 : k < 18446744073709551616) : (a.fmod k < 18446744073709551616) = True := by
  have := Int.fmod_lt_of_pos a h
  exact eq_true (by omega)
theorem bag_take1 (s c m : Int) (xs : List Int) (hx : xs.length ≤ 63) (hm : 0 < m) (hm2 : m < 1073741824) :
    ∃ v a' s', 0 ≤ v ∧ v < m ∧ 0 ≤ a' ∧ py__law_take [(bagD 0 s c xs, true), (.int m, true)] = some (.int v, true, [some (bagD a' s' (c + 1) xs, true), some (.int m, true)]) := by
  have h2 : m ≠ 0 := by omega
  have h3 : ¬ 1073741824 ≤ m.natAbs := by omega
  obtain ⟨ys, hy, hc⟩ := cut_ints xs (some c) none
  obtain ⟨cell, zs, hz, hl⟩ : ∃ cell zs, (ys.map D.int ++ [D.int 0] : List D) = D.int cell :: zs ∧ zs.length ≤ 63 := by
    cases ys with
    | nil => exact ⟨0, [], rfl, by decide⟩
    | cons y ys => exact ⟨y, _, rfl, by simp at hy ⊢; omega⟩
  have hl2 : ys.length ≤ 16777215 := by omega
  have f1 := fun a : Int => fmod_lo a (k := 1000000007) (by decide)
  have f2 := fun a : Int => fmod_hi a (k := 1000000007) (by decide) (by decide)
  by_cases hb : (1000000000000000000 : Int) ≤ cell
  · have hb0 : 0 < cell := by omega
    refine ⟨cell.fmod m, cell.fdiv m, (s * 48271 + cell.fmod 2147483647 + 7919 * (c + 1)).fmod 2147483647, Int.fmod_nonneg_of_pos _ hm, Int.fmod_lt_of_pos _ hm, ?_, ?_⟩
    · rw [Int.fdiv_eq_ediv_of_nonneg _ (by omega)]
      exact Int.ediv_nonneg (by omega) (by omega)
    · simp [e_dnew, e_vals0, e_vals, k_vals, k_vc, e_disp, k_disp, e_dpop, k_dp0, k_dp1, k_dp2, k_dp3, repD_cons, e_get, k_gtS, k_gtN, D.flat, ofs_inj, fEq_str, e_dc, e_c2, k_cg, k_ge, e_lg0, e_lg, k_lg, e_stpD, k_s1, k_s2, k_s2F, k_s3, k_s4, e_stp2, k_t0, k_t1, k_t2, k_t3, key_str, key_int, getK_nil, getK_cons, putD_nil, putD_cons, e_upd, merge_nil, merge_cons, e_inD, e_setD, e_intup, inD_nil, inD_str, saveOk, hideAll, unhide, isTy, List.any_cons, List.any_nil, D.kd, e_for, k_for, e_lp0, k_lp, k_lpn, k_lpr, e_cm, k_cm, k_cmE, k_cl, k_cl2F, k_cl2T, k_cl3, e_rg1, k_rg1, e_itA, k_itL, k_itT, k_itF, e_zip, k_zpL, k_zpT, k_zp2L, k_zp2T, e_sl, e_agN, e_agS, e_chkI, k_chkI, e_slT00, e_slT01, e_slT10, e_slT11, e_slF01, e_listL, e_listT, e_listF, e_tupL, e_tupT, k_pf, e_mt, k_mt, e_app, e_ext, e_pop, k_pop, k_pop2, e_absI, e_augL, k_aug, k_aug2, k_aug3, e_mkF, k_finR, k_finN, e_bagSl, k_bag, k_bag2, startE, finals, e_seq, k_seq, k_seqr, e_set, k_set, e_par, k_par, k_par2, e_call, k_args, k_take, k_give, a_nil, a_val, k_val, k_cons, a_var, k_varA, t_nil, t_val, t_var, k_tk, k_tkV, g_nil, g_val, g_var, k_gvV, e_aug, e_var, e_mc, e_ret, k_ret, e_retV, e_pass, e_expr, k_expr, e_ifS, k_ifT, k_ifF, e_if, k_fT, k_fF, e_yes, e_setI, e_asg, k_asg, k_one, e_gname, e_of, k_of, e_not, k_not, e_and, k_andT, k_andF, e_or, k_orT, k_orF, e_gtup, e_gnil, e_gcons, k_gs, e_r1, k_r1, e_r2, k_r2, k_ix, e_sub, e_mod, e_div, e_pow, e_shl, e_cmp, e_lt, e_add, e_addI, e_addL, e_addT, e_mul, e_mulL, e_len1, e_len2, e_len3, e_int, e_intb, e_ixl, e_ixt, e_ixd1, e_ixd2, e_setL, fEq_int, fNe_int, gTup, gLst, flags, D.imm, D.imms, imms_ints, L2.atI, L2.ixN, two64, two62, sizeMax, py__law_take, b__law_take, bagD, hc, hz, hl2, hb, hb0, h2, h3, f1, f2]
  · have hb0 : cell < 1000000000000000000 := by omega
    refine ⟨(((((((s * 48271 + cell.fmod 2147483647 + 7919 * (c + 1)).fmod 2147483647 + 1) * 39373).fmod 1000000007 * (((s * 48271 + cell.fmod 2147483647 + 7919 * (c + 1)).fmod 2147483647 + 1) * 39373).fmod 1000000007).fmod 998244353 * 30011).fmod 998244353).fdiv 7).fmod m, 0, (s * 48271 + cell.fmod 2147483647 + 7919 * (c + 1)).fmod 2147483647, Int.fmod_nonneg_of_pos _ hm, Int.fmod_lt_of_pos _ hm, by decide, ?_⟩
    · simp [e_dnew, e_vals0, e_vals, k_vals, k_vc, e_disp, k_disp, e_dpop, k_dp0, k_dp1, k_dp2, k_dp3, repD_cons, e_get, k_gtS, k_gtN, D.flat, ofs_inj, fEq_str, e_dc, e_c2, k_cg, k_ge, e_lg0, e_lg, k_lg, e_stpD, k_s1, k_s2, k_s2F, k_s3, k_s4, e_stp2, k_t0, k_t1, k_t2, k_t3, key_str, key_int, getK_nil, getK_cons, putD_nil, putD_cons, e_upd, merge_nil, merge_cons, e_inD, e_setD, e_intup, inD_nil, inD_str, saveOk, hideAll, unhide, isTy, List.any_cons, List.any_nil, D.kd, e_for, k_for, e_lp0, k_lp, k_lpn, k_lpr, e_cm, k_cm, k_cmE, k_cl, k_cl2F, k_cl2T, k_cl3, e_rg1, k_rg1, e_itA, k_itL, k_itT, k_itF, e_zip, k_zpL, k_zpT, k_zp2L, k_zp2T, e_sl, e_agN, e_agS, e_chkI, k_chkI, e_slT00, e_slT01, e_slT10, e_slT11, e_slF01, e_listL, e_listT, e_listF, e_tupL, e_tupT, k_pf, e_mt, k_mt, e_app, e_ext, e_pop, k_pop, k_pop2, e_absI, e_augL, k_aug, k_aug2, k_aug3, e_mkF, k_finR, k_finN, e_bagSl, k_bag, k_bag2, startE, finals, e_seq, k_seq, k_seqr, e_set, k_set, e_par, k_par, k_par2, e_call, k_args, k_take, k_give, a_nil, a_val, k_val, k_cons, a_var, k_varA, t_nil, t_val, t_var, k_tk, k_tkV, g_nil, g_val, g_var, k_gvV, e_aug, e_var, e_mc, e_ret, k_ret, e_retV, e_pass, e_expr, k_expr, e_ifS, k_ifT, k_ifF, e_if, k_fT, k_fF, e_yes, e_setI, e_asg, k_asg, k_one, e_gname, e_of, k_of, e_not, k_not, e_and, k_andT, k_andF, e_or, k_orT, k_orF, e_gtup, e_gnil, e_gcons, k_gs, e_r1, k_r1, e_r2, k_r2, k_ix, e_sub, e_mod, e_div, e_pow, e_shl, e_cmp, e_lt, e_add, e_addI, e_addL, e_addT, e_mul, e_mulL, e_len1, e_len2, e_len3, e_int, e_intb, e_ixl, e_ixt, e_ixd1, e_ixd2, e_setL, fEq_int, fNe_int, gTup, gLst, flags, D.imm, D.imms, imms_ints, L2.atI, L2.ixN, two64, two62, sizeMax, py__law_take, b__law_take, bagD, hc, hz, hl2, hb, hb0, h2, h3, f1, f2]
end LF
namespace LF
open PySem
/-- a bag as the law keeps it -/
def Bag (b : D) : Prop := ∃ a s c xs, 0 ≤ a ∧ xs.length ≤ 63 ∧ b = bagD a s c xs
theorem Bag.imm {b : D} (h : Bag b) : b.imm = false := by
  obtain ⟨a, s, c, xs, _, _, rfl⟩ := h
  rfl
theorem bag_take {b : D} {m : Int} (hb : Bag b) (hm : 0 < m) (hm2 : m < 1073741824) :
    ∃ v b', 0 ≤ v ∧ v < m ∧ Bag b' ∧ py__law_take [(b, true), (.int m, true)] = some (.int v, true, [some (b', true), some (.int m, true)]) := by
  obtain ⟨a, s, c, xs, ha, hx, rfl⟩ := hb
  by_cases h0 : a = 0
  · subst h0
    obtain ⟨v, a', s', h1, h2, h3, h4⟩ := bag_take1 s c m xs hx hm hm2
    exact ⟨v, _, h1, h2, ⟨_, _, _, _, h3, hx, rfl⟩, h4⟩
  · refine ⟨_, _, Int.fmod_nonneg_of_pos a hm, Int.fmod_lt_of_pos a hm, ⟨_, _, _, _, ?_, hx, rfl⟩, bag_take2 a s c m xs (by omega) hm hm2⟩
    rw [Int.fdiv_eq_ediv_of_nonneg _ (by omega)]
    exact Int.ediv_nonneg (by omega) (by omega)
theorem law_bag (ns : List Int) (hn : ns.length ≤ 63) : ∃ b, Bag b ∧ py__law_bag [(.fro (ns.map .int), true)] = some (b, true, [some (.fro (ns.map .int), true)]) := by
  obtain ⟨ys, hy, hc⟩ := cut_ints ns none (some 63)
  have hl : ys.length ≤ 63 := by omega
  refine ⟨bagD 0 1234567891 0 (ys.map fun i => if i < 0 then -i else i), ⟨_, _, _, _, by decide, by simpa using hl, rfl⟩, ?_⟩
  have hcl : compLoop [1] (mGName 1) true mYes (mCall gAbs [.var 1]) (ys.map .int) [some ⟨.fro (ns.map .int), true, false⟩, none] [] = some ([] ++ ys.map fun i => .int (if i < 0 then -i else i), [some ⟨.fro (ns.map .int), true, false⟩, none]) := by
    refine compLoop_map ys [] (fun a _ => ⟨_, _, _, rfl, rfl, rfl, rfl⟩) ?_
    simp [sizeMax]
    omega
  simp [e_dnew, e_vals0, e_vals, k_vals, k_vc, e_disp, k_disp, e_dpop, k_dp0, k_dp1, k_dp2, k_dp3, repD_cons, e_get, k_gtS, k_gtN, D.flat, ofs_inj, fEq_str, e_dc, e_c2, k_cg, k_ge, e_lg0, e_lg, k_lg, e_stpD, k_s1, k_s2, k_s2F, k_s3, k_s4, e_stp2, k_t0, k_t1, k_t2, k_t3, key_str, key_int, getK_nil, getK_cons, putD_nil, putD_cons, e_upd, merge_nil, merge_cons, e_inD, e_setD, e_intup, inD_nil, inD_str, saveOk, hideAll, unhide, isTy, List.any_cons, List.any_nil, D.kd, e_for, k_for, e_lp0, k_lp, k_lpn, k_lpr, e_cm, k_cm, k_cmE, k_cl, k_cl2F, k_cl2T, k_cl3, e_rg1, k_rg1, e_itA, k_itL, k_itT, k_itF, e_zip, k_zpL, k_zpT, k_zp2L, k_zp2T, e_sl, e_agN, e_agS, e_chkI, k_chkI, e_slT00, e_slT01, e_slT10, e_slT11, e_slF01, e_listL, e_listT, e_listF, e_tupL, e_tupT, k_pf, e_mt, k_mt, e_app, e_ext, e_pop, k_pop, k_pop2, e_absI, e_augL, k_aug, k_aug2, k_aug3, e_mkF, k_finR, k_finN, e_bagSl, k_bag, k_bag2, startE, finals, e_seq, k_seq, k_seqr, e_set, k_set, e_par, k_par, k_par2, e_call, k_args, k_take, k_give, a_nil, a_val, k_val, k_cons, a_var, k_varA, t_nil, t_val, t_var, k_tk, k_tkV, g_nil, g_val, g_var, k_gvV, e_aug, e_var, e_mc, e_ret, k_ret, e_retV, e_pass, e_expr, k_expr, e_ifS, k_ifT, k_ifF, e_if, k_fT, k_fF, e_yes, e_setI, e_asg, k_asg, k_one, e_gname, e_of, k_of, e_not, k_not, e_and, k_andT, k_andF, e_or, k_orT, k_orF, e_gtup, e_gnil, e_gcons, k_gs, e_r1, k_r1, e_r2, k_r2, k_ix, e_sub, e_mod, e_div, e_pow, e_shl, e_cmp, e_lt, e_add, e_addI, e_addL, e_addT, e_mul, e_mulL, e_len1, e_len2, e_len3, e_int, e_intb, e_ixl, e_ixt, e_ixd1, e_ixd2, e_setL, fEq_int, fNe_int, gTup, gLst, flags, D.imm, D.imms, imms_ints, L2.atI, L2.ixN, two64, two62, sizeMax, py__law_bag, b__law_bag, bagD, hc, partFl, saveOk, hideAll, unhide, hcl]
theorem pys_ints : ∀ xs : List Int, D.pys (xs.map .int) = some (xs.map .int)
  | [] => rfl
  | x :: xs => by
    show (match D.py (.int x), D.pys (xs.map .int) with | some x, some xs => some (x :: xs) | _, _ => none) = _
    rw [pys_ints xs]
    rfl
theorem lay_ints : ∀ xs : List Int, PyData.canLayAll0 (xs.map .int) = true
  | [] => by simp [PyData.canLayAll0]
  | x :: xs => by
    have := lay_ints xs
    simp [PyData.canLayAll0, PyData.canLay0] at this ⊢
    try exact this
theorem dep_ints : ∀ xs : List Int, PyData.depthAll (xs.map .int) ≤ 1
  | [] => by simp [PyData.depthAll]
  | x :: xs => by
    have := dep_ints xs
    simp [PyData.depthAll, PyData.depth] at this ⊢
    try exact this
theorem eqv_ints : ∀ xs ys : List Int, PyData.eqvAll (xs.map .int) (ys.map .int) = decide (xs = ys)
  | [], [] => by simp [PyData.eqvAll]
  | [], y :: ys => by simp [PyData.eqvAll]
  | x :: xs, [] => by simp [PyData.eqvAll]
  | x :: xs, y :: ys => by
    have := eqv_ints xs ys
    simp [PyData.eqvAll, PyData.eqv] at this ⊢
    rw [this]
    by_cases h1 : x = y <;> by_cases h2 : xs = ys <;> simp [h1, h2]
theorem fEq_lints (neg : Bool) (xs ys : List Int) : fEq neg (.lst (xs.map .int)) (.lst (ys.map .int)) = some (.bl (neg != decide (xs = ys))) := by
  unfold fEq
  have h := dep_ints xs
  have h2 := dep_ints ys
  simp [D.py, pys_ints, SeqAt.shaped, PyData.eqv, PyData.canLay0, PyData.depth, lay_ints, eqv_ints]
  exact ⟨by omega, by omega⟩
theorem fEq_tints (neg : Bool) (xs ys : List Int) : fEq neg (.tup (xs.map .int)) (.tup (ys.map .int)) = some (.bl (neg != decide (xs = ys))) := by
  unfold fEq
  have h := dep_ints xs
  have h2 := dep_ints ys
  simp [D.py, pys_ints, SeqAt.shaped, PyData.eqv, PyData.canLay0, PyData.depth, lay_ints, eqv_ints]
  exact ⟨by omega, by omega⟩
theorem fNe_nil (xs : List Int) : fEq true (.lst (xs.map .int)) (.lst []) = some (.bl (!decide (xs = []))) := by
  rw [show (D.lst [] : D) = D.lst (([] : List Int).map .int) from rfl, fEq_lints]
  simp
theorem wh_step {t : TM} {f : SM} {e e1 e2 : En} {n : Nat} (h : t e = some (true, e1)) (h2 : f e1 = some (.nx, e2)) : whileM t f (n + 1) e = whileM t f n e2 := by
  show (match t e with | some (false, e1) => _ | some (true, e1) => _ | none => none) = _
  rw [h]
  dsimp only
  rw [h2]
theorem wh_stop {t : TM} {f : SM} {e e1 : En} {n : Nat} (h : t e = some (false, e1)) : whileM t f (n + 1) e = some (.nx, e1) := by
  show (match t e with | some (false, e1) => _ | some (true, e1) => _ | none => none) = _
  rw [h]
theorem perm_erase {l : List Int} {j : Nat} {v : Int} (h : l[j]? = some v) : l.Perm (v :: l.eraseIdx j) := by
  induction l generalizing j with
  | nil => simp at h
  | cons x l ih =>
    cases j with
    | zero =>
      simp at h
      subst h
      exact .refl _
    | succ j =>
      have h' : l[j]? = some v := by simpa using h
      rw [List.eraseIdx_cons_succ]
      exact (List.Perm.cons x (ih h')).trans (List.Perm.swap _ _ _)
theorem map_erase {α β : Type} (f : α → β) : ∀ (l : List α) (j : Nat), (l.map f).eraseIdx j = (l.eraseIdx j).map f
  | [], _ => rfl
  | _ :: _, 0 => rfl
  | x :: l, j + 1 => by
    show f x :: (l.map f).eraseIdx j = f x :: (l.eraseIdx j).map f
    rw [map_erase f l j]
theorem mixed_loop (L : D) (hL : L.imm = false) : ∀ (n : Nat) (ls ys : List Int) (b : D), Bag b → ls.length < n → ls.length + ys.length ≤ 1000 →
    ∃ (b' : D) (zs : List Int), Bag b' ∧ zs.Perm (ls ++ ys) ∧ whileM (tOf (mCall (gR2 (fEq true)) [.var 2, .val (mCall gLst [])])) (mExpr (mMeth .lst gAppend (.var 3) [.val (mMeth .lst gPopAt (.var 2) [.val (mCall py__law_take [.var 0, .val (mCall gLen [.var 2])])])])) n
      [some ⟨b, true, true⟩, some ⟨L, true, true⟩, some ⟨.lst (ls.map .int), true, false⟩, some ⟨.lst (ys.map .int), true, false⟩] =
      some (.nx, [some ⟨b', true, true⟩, some ⟨L, true, true⟩, some ⟨.lst [], true, false⟩, some ⟨.lst (zs.map .int), true, false⟩])
  | 0, _, _, _, _, h, _ => absurd h (Nat.not_lt_zero _)
  | n + 1, ls, ys, b, hb, hn, hz => by
    have hbi := hb.imm
    have h := fNe_nil ls
    by_cases he : ls = []
    · subst he
      refine ⟨b, ys, hb, .refl _, wh_stop ?_⟩
      simp at h
      simp [e_dnew, e_vals0, e_vals, k_vals, k_vc, e_disp, k_disp, e_dpop, k_dp0, k_dp1, k_dp2, k_dp3, repD_cons, e_get, k_gtS, k_gtN, D.flat, ofs_inj, fEq_str, e_dc, e_c2, k_cg, k_ge, e_lg0, e_lg, k_lg, e_stpD, k_s1, k_s2, k_s2F, k_s3, k_s4, e_stp2, k_t0, k_t1, k_t2, k_t3, key_str, key_int, getK_nil, getK_cons, putD_nil, putD_cons, e_upd, merge_nil, merge_cons, e_inD, e_setD, e_intup, inD_nil, inD_str, saveOk, hideAll, unhide, isTy, List.any_cons, List.any_nil, D.kd, e_for, k_for, e_lp0, k_lp, k_lpn, k_lpr, e_cm, k_cm, k_cmE, k_cl, k_cl2F, k_cl2T, k_cl3, e_rg1, k_rg1, e_itA, k_itL, k_itT, k_itF, e_zip, k_zpL, k_zpT, k_zp2L, k_zp2T, e_sl, e_agN, e_agS, e_chkI, k_chkI, e_slT00, e_slT01, e_slT10, e_slT11, e_slF01, e_listL, e_listT, e_listF, e_tupL, e_tupT, k_pf, e_mt, k_mt, e_app, e_ext, e_pop, k_pop, k_pop2, e_absI, e_augL, k_aug, k_aug2, k_aug3, e_mkF, k_finR, k_finN, e_bagSl, k_bag, k_bag2, startE, finals, e_seq, k_seq, k_seqr, e_set, k_set, e_par, k_par, k_par2, e_call, k_args, k_take, k_give, a_nil, a_val, k_val, k_cons, a_var, k_varA, t_nil, t_val, t_var, k_tk, k_tkV, g_nil, g_val, g_var, k_gvV, e_aug, e_var, e_mc, e_ret, k_ret, e_retV, e_pass, e_expr, k_expr, e_ifS, k_ifT, k_ifF, e_if, k_fT, k_fF, e_yes, e_setI, e_asg, k_asg, k_one, e_gname, e_of, k_of, e_not, k_not, e_and, k_andT, k_andF, e_or, k_orT, k_orF, e_gtup, e_gnil, e_gcons, k_gs, e_r1, k_r1, e_r2, k_r2, k_ix, e_sub, e_mod, e_div, e_pow, e_shl, e_cmp, e_lt, e_add, e_addI, e_addL, e_addT, e_mul, e_mulL, e_len1, e_len2, e_len3, e_int, e_intb, e_ixl, e_ixt, e_ixd1, e_ixd2, e_setL, fEq_int, fNe_int, gTup, gLst, flags, D.imm, D.imms, imms_ints, L2.atI, L2.ixN, two64, two62, sizeMax, hbi, hL, h]
    have hlen : 0 < ls.length := List.length_pos_iff.mpr he
    obtain ⟨v, b', h0, h1, hb', ht⟩ := bag_take (m := (ls.length : Int)) hb (by omega) (by omega)
    have hv : v.toNat < ls.length := by omega
    have hj : ls[v.toNat]? = some ls[v.toNat] := List.getElem?_eq_getElem hv
    generalize ls[v.toNat] = w at hj
    have hp := perm_erase hj
    have hl : (ls.eraseIdx v.toNat).length = ls.length - 1 := by rw [List.length_eraseIdx_of_lt hv]
    obtain ⟨b2, zs, g1, g2, g3⟩ := mixed_loop L hL n (ls.eraseIdx v.toNat) (ys ++ [w]) b' hb' (by omega) (by rw [List.length_append, List.length_singleton]; omega)
    refine ⟨b2, zs, g1, ?_, ?_⟩
    · refine g2.trans (List.Perm.trans ?_ (hp.append_right ys).symm)
      show (ls.eraseIdx v.toNat ++ (ys ++ [w])).Perm (w :: (ls.eraseIdx v.toNat ++ ys))
      rw [← List.append_assoc]
      exact List.perm_append_comm
    · rw [← g3]
      have hbi' := hb'.imm
      have hk : seqIndex? v ls.length = some v.toNat := by
        unfold seqIndex?
        simp [show ¬ v < 0 by omega, h0, h1]
      have hget : (ls.map D.int)[v.toNat]? = some (.int w) := by rw [List.getElem?_map, hj]; rfl
      have hmap : (ls.map D.int).eraseIdx v.toNat = (ls.eraseIdx v.toNat).map D.int := map_erase _ _ _
      have b1 : (-9223372036854775808 : Int) ≤ v := by omega
      have b2 : v < 9223372036854775808 := by omega
      have b3 : ys.length < 16777216 := by omega
      refine wh_step (e1 := [some ⟨b, true, true⟩, some ⟨L, true, true⟩, some ⟨.lst (ls.map .int), true, false⟩, some ⟨.lst (ys.map .int), true, false⟩]) ?_ ?_
      · simp [he] at h
        simp [e_dnew, e_vals0, e_vals, k_vals, k_vc, e_disp, k_disp, e_dpop, k_dp0, k_dp1, k_dp2, k_dp3, repD_cons, e_get, k_gtS, k_gtN, D.flat, ofs_inj, fEq_str, e_dc, e_c2, k_cg, k_ge, e_lg0, e_lg, k_lg, e_stpD, k_s1, k_s2, k_s2F, k_s3, k_s4, e_stp2, k_t0, k_t1, k_t2, k_t3, key_str, key_int, getK_nil, getK_cons, putD_nil, putD_cons, e_upd, merge_nil, merge_cons, e_inD, e_setD, e_intup, inD_nil, inD_str, saveOk, hideAll, unhide, isTy, List.any_cons, List.any_nil, D.kd, e_for, k_for, e_lp0, k_lp, k_lpn, k_lpr, e_cm, k_cm, k_cmE, k_cl, k_cl2F, k_cl2T, k_cl3, e_rg1, k_rg1, e_itA, k_itL, k_itT, k_itF, e_zip, k_zpL, k_zpT, k_zp2L, k_zp2T, e_sl, e_agN, e_agS, e_chkI, k_chkI, e_slT00, e_slT01, e_slT10, e_slT11, e_slF01, e_listL, e_listT, e_listF, e_tupL, e_tupT, k_pf, e_mt, k_mt, e_app, e_ext, e_pop, k_pop, k_pop2, e_absI, e_augL, k_aug, k_aug2, k_aug3, e_mkF, k_finR, k_finN, e_bagSl, k_bag, k_bag2, startE, finals, e_seq, k_seq, k_seqr, e_set, k_set, e_par, k_par, k_par2, e_call, k_args, k_take, k_give, a_nil, a_val, k_val, k_cons, a_var, k_varA, t_nil, t_val, t_var, k_tk, k_tkV, g_nil, g_val, g_var, k_gvV, e_aug, e_var, e_mc, e_ret, k_ret, e_retV, e_pass, e_expr, k_expr, e_ifS, k_ifT, k_ifF, e_if, k_fT, k_fF, e_yes, e_setI, e_asg, k_asg, k_one, e_gname, e_of, k_of, e_not, k_not, e_and, k_andT, k_andF, e_or, k_orT, k_orF, e_gtup, e_gnil, e_gcons, k_gs, e_r1, k_r1, e_r2, k_r2, k_ix, e_sub, e_mod, e_div, e_pow, e_shl, e_cmp, e_lt, e_add, e_addI, e_addL, e_addT, e_mul, e_mulL, e_len1, e_len2, e_len3, e_int, e_intb, e_ixl, e_ixt, e_ixd1, e_ixd2, e_setL, fEq_int, fNe_int, gTup, gLst, flags, D.imm, D.imms, imms_ints, L2.atI, L2.ixN, two64, two62, sizeMax, hbi, hL, h]
      · simp [e_dnew, e_vals0, e_vals, k_vals, k_vc, e_disp, k_disp, e_dpop, k_dp0, k_dp1, k_dp2, k_dp3, repD_cons, e_get, k_gtS, k_gtN, D.flat, ofs_inj, fEq_str, e_dc, e_c2, k_cg, k_ge, e_lg0, e_lg, k_lg, e_stpD, k_s1, k_s2, k_s2F, k_s3, k_s4, e_stp2, k_t0, k_t1, k_t2, k_t3, key_str, key_int, getK_nil, getK_cons, putD_nil, putD_cons, e_upd, merge_nil, merge_cons, e_inD, e_setD, e_intup, inD_nil, inD_str, saveOk, hideAll, unhide, isTy, List.any_cons, List.any_nil, D.kd, e_for, k_for, e_lp0, k_lp, k_lpn, k_lpr, e_cm, k_cm, k_cmE, k_cl, k_cl2F, k_cl2T, k_cl3, e_rg1, k_rg1, e_itA, k_itL, k_itT, k_itF, e_zip, k_zpL, k_zpT, k_zp2L, k_zp2T, e_sl, e_agN, e_agS, e_chkI, k_chkI, e_slT00, e_slT01, e_slT10, e_slT11, e_slF01, e_listL, e_listT, e_listF, e_tupL, e_tupT, k_pf, e_mt, k_mt, e_app, e_ext, e_pop, k_pop, k_pop2, e_absI, e_augL, k_aug, k_aug2, k_aug3, e_mkF, k_finR, k_finN, e_bagSl, k_bag, k_bag2, startE, finals, e_seq, k_seq, k_seqr, e_set, k_set, e_par, k_par, k_par2, e_call, k_args, k_take, k_give, a_nil, a_val, k_val, k_cons, a_var, k_varA, t_nil, t_val, t_var, k_tk, k_tkV, g_nil, g_val, g_var, k_gvV, e_aug, e_var, e_mc, e_ret, k_ret, e_retV, e_pass, e_expr, k_expr, e_ifS, k_ifT, k_ifF, e_if, k_fT, k_fF, e_yes, e_setI, e_asg, k_asg, k_one, e_gname, e_of, k_of, e_not, k_not, e_and, k_andT, k_andF, e_or, k_orT, k_orF, e_gtup, e_gnil, e_gcons, k_gs, e_r1, k_r1, e_r2, k_r2, k_ix, e_sub, e_mod, e_div, e_pow, e_shl, e_cmp, e_lt, e_add, e_addI, e_addL, e_addT, e_mul, e_mulL, e_len1, e_len2, e_len3, e_int, e_intb, e_ixl, e_ixt, e_ixd1, e_ixd2, e_setL, fEq_int, fNe_int, gTup, gLst, flags, D.imm, D.imms, imms_ints, L2.atI, L2.ixN, two64, two62, sizeMax, hbi, hbi', hL, ht, hk, hget, hmap, b1, b2, b3]
theorem law_mixed {b : D} (hb : Bag b) (xs : List Int) (hx : xs.length ≤ 500) : ∃ (b' : D) (zs : List Int), Bag b' ∧ zs.Perm xs ∧ py__law_mixed [(b, true), (.lst (xs.map .int), true)] = some (.lst (zs.map .int), true, [some (b', true), some (.lst (xs.map .int), true)]) := by
  obtain ⟨b', zs, h1, h2, h3⟩ := mixed_loop (.lst (xs.map .int)) rfl 100000 xs [] b hb (by omega) (by simp; omega)
  have hbi := hb.imm
  have hbi' := h1.imm
  refine ⟨b', zs, h1, by rwa [List.append_nil] at h2, ?_⟩
  simp only [List.map_nil] at h3
  simp [e_dnew, e_vals0, e_vals, k_vals, k_vc, e_disp, k_disp, e_dpop, k_dp0, k_dp1, k_dp2, k_dp3, repD_cons, e_get, k_gtS, k_gtN, D.flat, ofs_inj, fEq_str, e_dc, e_c2, k_cg, k_ge, e_lg0, e_lg, k_lg, e_stpD, k_s1, k_s2, k_s2F, k_s3, k_s4, e_stp2, k_t0, k_t1, k_t2, k_t3, key_str, key_int, getK_nil, getK_cons, putD_nil, putD_cons, e_upd, merge_nil, merge_cons, e_inD, e_setD, e_intup, inD_nil, inD_str, saveOk, hideAll, unhide, isTy, List.any_cons, List.any_nil, D.kd, e_for, k_for, e_lp0, k_lp, k_lpn, k_lpr, e_cm, k_cm, k_cmE, k_cl, k_cl2F, k_cl2T, k_cl3, e_rg1, k_rg1, e_itA, k_itL, k_itT, k_itF, e_zip, k_zpL, k_zpT, k_zp2L, k_zp2T, e_sl, e_agN, e_agS, e_chkI, k_chkI, e_slT00, e_slT01, e_slT10, e_slT11, e_slF01, e_listL, e_listT, e_listF, e_tupL, e_tupT, k_pf, e_mt, k_mt, e_app, e_ext, e_pop, k_pop, k_pop2, e_absI, e_augL, k_aug, k_aug2, k_aug3, e_mkF, k_finR, k_finN, e_bagSl, k_bag, k_bag2, startE, finals, e_seq, k_seq, k_seqr, e_set, k_set, e_par, k_par, k_par2, e_call, k_args, k_take, k_give, a_nil, a_val, k_val, k_cons, a_var, k_varA, t_nil, t_val, t_var, k_tk, k_tkV, g_nil, g_val, g_var, k_gvV, e_aug, e_var, e_mc, e_ret, k_ret, e_retV, e_pass, e_expr, k_expr, e_ifS, k_ifT, k_ifF, e_if, k_fT, k_fF, e_yes, e_setI, e_asg, k_asg, k_one, e_gname, e_of, k_of, e_not, k_not, e_and, k_andT, k_andF, e_or, k_orT, k_orF, e_gtup, e_gnil, e_gcons, k_gs, e_r1, k_r1, e_r2, k_r2, k_ix, e_sub, e_mod, e_div, e_pow, e_shl, e_cmp, e_lt, e_add, e_addI, e_addL, e_addT, e_mul, e_mulL, e_len1, e_len2, e_len3, e_int, e_intb, e_ixl, e_ixt, e_ixd1, e_ixd2, e_setL, fEq_int, fNe_int, gTup, gLst, flags, D.imm, D.imms, imms_ints, L2.atI, L2.ixN, two64, two62, sizeMax, py__law_mixed, b__law_mixed, hbi, hbi', partFl, h3]
theorem law_some {b : D} (hb : Bag b) (xs : List Int) (hx : xs.length ≤ 500) (h0 : xs ≠ []) : ∃ (b' : D) (x : Int), Bag b' ∧ x ∈ xs ∧ py__law_some [(b, true), (.lst (xs.map .int), true)] = some (.int x, true, [some (b', true), some (.lst (xs.map .int), true)]) := by
  have hlen : 0 < xs.length := List.length_pos_iff.mpr h0
  obtain ⟨v, b', h0, h1, hb', ht⟩ := bag_take (m := (xs.length : Int)) hb (by omega) (by omega)
  have hv : v.toNat < xs.length := by omega
  have hj : xs[v.toNat]? = some xs[v.toNat] := List.getElem?_eq_getElem hv
  have hmem : xs[v.toNat] ∈ xs := List.getElem_mem hv
  generalize xs[v.toNat] = w at hj hmem
  have hbi := hb.imm
  have hbi' := hb'.imm
  refine ⟨b', w, hb', hmem, ?_⟩
  simp [e_dnew, e_vals0, e_vals, k_vals, k_vc, e_disp, k_disp, e_dpop, k_dp0, k_dp1, k_dp2, k_dp3, repD_cons, e_get, k_gtS, k_gtN, D.flat, ofs_inj, fEq_str, e_dc, e_c2, k_cg, k_ge, e_lg0, e_lg, k_lg, e_stpD, k_s1, k_s2, k_s2F, k_s3, k_s4, e_stp2, k_t0, k_t1, k_t2, k_t3, key_str, key_int, getK_nil, getK_cons, putD_nil, putD_cons, e_upd, merge_nil, merge_cons, e_inD, e_setD, e_intup, inD_nil, inD_str, saveOk, hideAll, unhide, isTy, List.any_cons, List.any_nil, D.kd, e_for, k_for, e_lp0, k_lp, k_lpn, k_lpr, e_cm, k_cm, k_cmE, k_cl, k_cl2F, k_cl2T, k_cl3, e_rg1, k_rg1, e_itA, k_itL, k_itT, k_itF, e_zip, k_zpL, k_zpT, k_zp2L, k_zp2T, e_sl, e_agN, e_agS, e_chkI, k_chkI, e_slT00, e_slT01, e_slT10, e_slT11, e_slF01, e_listL, e_listT, e_listF, e_tupL, e_tupT, k_pf, e_mt, k_mt, e_app, e_ext, e_pop, k_pop, k_pop2, e_absI, e_augL, k_aug, k_aug2, k_aug3, e_mkF, k_finR, k_finN, e_bagSl, k_bag, k_bag2, startE, finals, e_seq, k_seq, k_seqr, e_set, k_set, e_par, k_par, k_par2, e_call, k_args, k_take, k_give, a_nil, a_val, k_val, k_cons, a_var, k_varA, t_nil, t_val, t_var, k_tk, k_tkV, g_nil, g_val, g_var, k_gvV, e_aug, e_var, e_mc, e_ret, k_ret, e_retV, e_pass, e_expr, k_expr, e_ifS, k_ifT, k_ifF, e_if, k_fT, k_fF, e_yes, e_setI, e_asg, k_asg, k_one, e_gname, e_of, k_of, e_not, k_not, e_and, k_andT, k_andF, e_or, k_orT, k_orF, e_gtup, e_gnil, e_gcons, k_gs, e_r1, k_r1, e_r2, k_r2, k_ix, e_sub, e_mod, e_div, e_pow, e_shl, e_cmp, e_lt, e_add, e_addI, e_addL, e_addT, e_mul, e_mulL, e_len1, e_len2, e_len3, e_int, e_intb, e_ixl, e_ixt, e_ixd1, e_ixd2, e_setL, fEq_int, fNe_int, gTup, gLst, flags, D.imm, D.imms, imms_ints, L2.atI, L2.ixN, two64, two62, sizeMax, py__law_some, b__law_some, hbi, hbi', ht, h0, h1, hj]
  exact (List.getElem?_eq_some_iff.mp hj).2
end LF
namespace LF
open PySem
mutual
/-- the knots of a tree -/
def D.knots : D → Nat
  | .tup l => 1 + D.knotsL l
  | .fro l => 1 + D.knotsL l
  | _ => 1
def D.knotsL : List D → Nat
  | [] => 0
  | d :: l => d.knots + D.knotsL l
end
theorem knotsL_append : ∀ {l m : List D}, D.knotsL (l ++ m) = D.knotsL l + D.knotsL m
  | [], m => by rw [List.nil_append]; show _ = 0 + _; omega
  | d :: l, m => by
    show d.knots + D.knotsL (l ++ m) = d.knots + D.knotsL l + D.knotsL m
    rw [knotsL_append]
    omega
theorem knots_pos : ∀ d : D, 1 ≤ d.knots
  | .non | .bl _ | .int _ | .str _ | .lst _ | .dic _ | .ins _ _ => Nat.le_refl 1
  | .tup l => Nat.le_add_right _ _
  | .fro l => Nat.le_add_right _ _
theorem knotsL_len : ∀ l : List D, l.length ≤ D.knotsL l
  | [] => Nat.le_refl _
  | d :: l => by
    have := knotsL_len l
    have := knots_pos d
    show l.length + 1 ≤ d.knots + D.knotsL l
    omega
mutual
/-- the texts in it are of the usual kind -/
def D.okS : D → Bool
  | .str x => PyData.strOk x
  | .tup l => D.okSs l
  | .fro l => D.okSs l
  | _ => true
def D.okSs : List D → Bool
  | [] => true
  | d :: l => d.okS && D.okSs l
end
theorem okSs_append : ∀ {l m : List D}, D.okSs (l ++ m) = (D.okSs l && D.okSs m)
  | [], m => by rw [List.nil_append]; rfl
  | d :: l, m => by
    show (d.okS && D.okSs (l ++ m)) = ((d.okS && D.okSs l) && D.okSs m)
    rw [okSs_append, Bool.and_assoc]
def twin (d : D) : D := .tup [d, d]
theorem zip_twin : ∀ l : List D, List.zipWith pairD l l = l.map twin
  | [] => rfl
  | d :: l => by
    show pairD d d :: List.zipWith pairD l l = twin d :: l.map twin
    rw [zip_twin l]
    rfl
theorem imms_twin : ∀ {l : List D}, D.imms l = true → D.imms (l.map twin) = true
  | [], _ => rfl
  | d :: l, h => by
    have h' := Bool.and_eq_true_iff.mp (show (d.imm && D.imms l) = true from h)
    show ((d.imm && (d.imm && true)) && D.imms (l.map twin)) = true
    rw [h'.1, imms_twin h'.2]
    rfl
theorem fNe_bl (a b : Bool) : fEq true (.bl a) (.bl b) = some (.bl (!decide (a = b))) := by
  unfold fEq
  cases a <;> cases b <;> simp [D.py, SeqAt.shaped, PyData.eqv, PyData.canLay0, PyData.depth]
def kIs (ts : List Kd) (d : D) (b : Bool) (k : Option Kd) : Option (D × Bool × List (Option DB)) := match k with
    | some k => some (.bl (ts.any (isTy k)), true, [some (d, b)])
    | none => none
theorem e_isi (ts : List Kd) (d : D) (b : Bool) : gIsi ts [(d, b)] = kIs ts d b d.kd := rfl
theorem k_is (ts : List Kd) (d : D) (b : Bool) (k : Kd) : kIs ts d b (some k) = some (.bl (ts.any (isTy k)), true, [some (d, b)]) := rfl
theorem fNe_str (x : Str) (h : PyData.strOk x = true) : fEq true (.str x) (.str x) = some (.bl false) := by
  unfold fEq
  simp [D.py, SeqAt.shaped, PyData.eqv, PyData.canLay0, PyData.depth, h]
theorem fNe_non : fEq true .non .non = some (.bl false) := by
  unfold fEq
  simp [D.py, SeqAt.shaped, PyData.eqv, PyData.canLay0, PyData.depth]
theorem at_mid {α : Type} (xs ys : List α) (x : α) : L2.atI (xs ++ x :: ys) (xs.length : Int) = some x := by
  unfold L2.atI L2.ixN
  rw [if_pos (by omega), if_pos (by rw [List.length_append, List.length_cons]; omega)]
  simp
def alT : TM := (tOf (mCall (gR2 fLt) [.var 3, .val (mCall gLen [.var 2])]))
def alB : SM := (mSeq (mAsg (mCall gIx [.var 2, .var 3]) (mGTup 2 (mGCons (mGName 4) (mGCons (mGName 5) (mGNil)))))
  (mSeq (mAug 3 (gR2 fAddI) (.val (mC (.int 1))))
  (mSeq (mIfS (tOrM (tOf (mCall (gR2 (fEq true)) [.val (mCall (gIsi [.bl]) [.var 4]), .val (mCall (gIsi [.bl]) [.var 5])])) (tOf (mCall (gR2 (fEq true)) [.val (mCall (gIsi [.str]) [.var 4]), .val (mCall (gIsi [.str]) [.var 5])]))) (mRet (mC (.bl false))) (mPass))
  (mSeq (mIfS (tOf (mCall (gR2 (fEq true)) [.val (mCall (gIsi [.tup, .lst]) [.var 4]), .val (mCall (gIsi [.tup, .lst]) [.var 5])])) (mRet (mC (.bl false))) (mPass))
  (mIfS (tOf (mCall (gIsi [.tup, .lst]) [.var 4])) (mSeq (mIfS (tOrM (tOf (mCall (gR2 (fEq true)) [.val (mCall (gIsi [.tup]) [.var 4]), .val (mCall (gIsi [.tup]) [.var 5])])) (tOf (mCall (gR2 (fEq true)) [.val (mCall gLen [.var 4]), .val (mCall gLen [.var 5])]))) (mRet (mC (.bl false))) (mPass))
  (mExpr (mMeth .lst gExtend (.var 2) [.val (mCall gLZ [.var 4, .var 5])]))) (mIfS (tOf (mCall (gR2 (fEq true)) [.var 4, .var 5])) (mRet (mC (.bl false))) (mPass)))))))
theorem alike_is : b__law_alike = mFreeze 0 (mFreeze 1 (mSeq (mPar 2 3 (mCall gLst [.val (mCall gTup [.var 0, .var 1])]) (mC (.int 0))) (mSeq (whileM alT alB 100000) (mRet (mC (.bl true)))))) := rfl
theorem al_more {s0 s1 x4 x5 : Option Sl} {ps : List D} {i : Int} (h : i < ps.length) : alT [s0, s1, some ⟨.lst ps, true, false⟩, some ⟨.int i, true, false⟩, x4, x5] = some (true, [s0, s1, some ⟨.lst ps, true, false⟩, some ⟨.int i, true, false⟩, x4, x5]) := by
  simp [e_dnew, e_vals0, e_vals, k_vals, k_vc, e_disp, k_disp, e_dpop, k_dp0, k_dp1, k_dp2, k_dp3, repD_cons, e_get, k_gtS, k_gtN, D.flat, ofs_inj, fEq_str, e_dc, e_c2, k_cg, k_ge, e_lg0, e_lg, k_lg, e_stpD, k_s1, k_s2, k_s2F, k_s3, k_s4, e_stp2, k_t0, k_t1, k_t2, k_t3, key_str, key_int, getK_nil, getK_cons, putD_nil, putD_cons, e_upd, merge_nil, merge_cons, e_inD, e_setD, e_intup, inD_nil, inD_str, saveOk, hideAll, unhide, isTy, List.any_cons, List.any_nil, D.kd, e_for, k_for, e_lp0, k_lp, k_lpn, k_lpr, e_cm, k_cm, k_cmE, k_cl, k_cl2F, k_cl2T, k_cl3, e_rg1, k_rg1, e_itA, k_itL, k_itT, k_itF, e_zip, k_zpL, k_zpT, k_zp2L, k_zp2T, e_sl, e_agN, e_agS, e_chkI, k_chkI, e_slT00, e_slT01, e_slT10, e_slT11, e_slF01, e_listL, e_listT, e_listF, e_tupL, e_tupT, k_pf, e_mt, k_mt, e_app, e_ext, e_pop, k_pop, k_pop2, e_absI, e_augL, k_aug, k_aug2, k_aug3, e_mkF, k_finR, k_finN, e_bagSl, k_bag, k_bag2, startE, finals, e_seq, k_seq, k_seqr, e_set, k_set, e_par, k_par, k_par2, e_call, k_args, k_take, k_give, a_nil, a_val, k_val, k_cons, a_var, k_varA, t_nil, t_val, t_var, k_tk, k_tkV, g_nil, g_val, g_var, k_gvV, e_aug, e_var, e_mc, e_ret, k_ret, e_retV, e_pass, e_expr, k_expr, e_ifS, k_ifT, k_ifF, e_if, k_fT, k_fF, e_yes, e_setI, e_asg, k_asg, k_one, e_gname, e_of, k_of, e_not, k_not, e_and, k_andT, k_andF, e_or, k_orT, k_orF, e_gtup, e_gnil, e_gcons, k_gs, e_r1, k_r1, e_r2, k_r2, k_ix, e_sub, e_mod, e_div, e_pow, e_shl, e_cmp, e_lt, e_add, e_addI, e_addL, e_addT, e_mul, e_mulL, e_len1, e_len2, e_len3, e_int, e_intb, e_ixl, e_ixt, e_ixd1, e_ixd2, e_setL, fEq_int, fNe_int, gTup, gLst, flags, D.imm, D.imms, imms_ints, L2.atI, L2.ixN, two64, two62, sizeMax, alT, h]
theorem al_stop {s0 s1 x4 x5 : Option Sl} {ps : List D} {i : Int} (h : i = ps.length) : alT [s0, s1, some ⟨.lst ps, true, false⟩, some ⟨.int i, true, false⟩, x4, x5] = some (false, [s0, s1, some ⟨.lst ps, true, false⟩, some ⟨.int i, true, false⟩, x4, x5]) := by
  subst h
  simp [e_dnew, e_vals0, e_vals, k_vals, k_vc, e_disp, k_disp, e_dpop, k_dp0, k_dp1, k_dp2, k_dp3, repD_cons, e_get, k_gtS, k_gtN, D.flat, ofs_inj, fEq_str, e_dc, e_c2, k_cg, k_ge, e_lg0, e_lg, k_lg, e_stpD, k_s1, k_s2, k_s2F, k_s3, k_s4, e_stp2, k_t0, k_t1, k_t2, k_t3, key_str, key_int, getK_nil, getK_cons, putD_nil, putD_cons, e_upd, merge_nil, merge_cons, e_inD, e_setD, e_intup, inD_nil, inD_str, saveOk, hideAll, unhide, isTy, List.any_cons, List.any_nil, D.kd, e_for, k_for, e_lp0, k_lp, k_lpn, k_lpr, e_cm, k_cm, k_cmE, k_cl, k_cl2F, k_cl2T, k_cl3, e_rg1, k_rg1, e_itA, k_itL, k_itT, k_itF, e_zip, k_zpL, k_zpT, k_zp2L, k_zp2T, e_sl, e_agN, e_agS, e_chkI, k_chkI, e_slT00, e_slT01, e_slT10, e_slT11, e_slF01, e_listL, e_listT, e_listF, e_tupL, e_tupT, k_pf, e_mt, k_mt, e_app, e_ext, e_pop, k_pop, k_pop2, e_absI, e_augL, k_aug, k_aug2, k_aug3, e_mkF, k_finR, k_finN, e_bagSl, k_bag, k_bag2, startE, finals, e_seq, k_seq, k_seqr, e_set, k_set, e_par, k_par, k_par2, e_call, k_args, k_take, k_give, a_nil, a_val, k_val, k_cons, a_var, k_varA, t_nil, t_val, t_var, k_tk, k_tkV, g_nil, g_val, g_var, k_gvV, e_aug, e_var, e_mc, e_ret, k_ret, e_retV, e_pass, e_expr, k_expr, e_ifS, k_ifT, k_ifF, e_if, k_fT, k_fF, e_yes, e_setI, e_asg, k_asg, k_one, e_gname, e_of, k_of, e_not, k_not, e_and, k_andT, k_andF, e_or, k_orT, k_orF, e_gtup, e_gnil, e_gcons, k_gs, e_r1, k_r1, e_r2, k_r2, k_ix, e_sub, e_mod, e_div, e_pow, e_shl, e_cmp, e_lt, e_add, e_addI, e_addL, e_addT, e_mul, e_mulL, e_len1, e_len2, e_len3, e_int, e_intb, e_ixl, e_ixt, e_ixd1, e_ixd2, e_setL, fEq_int, fNe_int, gTup, gLst, flags, D.imm, D.imms, imms_ints, L2.atI, L2.ixN, two64, two62, sizeMax, alT]
/-- one turn -/
theorem al_leaf {s0 s1 x4 x5 : Option Sl} {ps : List D} {i : Int} {x : D} (hat : L2.atI ps i = some (twin x)) (hk : D.imms ps = true) (hx : x = .non ∨ (∃ b, x = .bl b) ∨ (∃ j, x = .int j) ∨ (∃ z, x = .str z ∧ PyData.strOk z = true)) :
    alB [s0, s1, some ⟨.lst ps, true, false⟩, some ⟨.int i, true, false⟩, x4, x5] = some (.nx, [s0, s1, some ⟨.lst ps, true, false⟩, some ⟨.int (i + 1), true, false⟩, some ⟨x, true, false⟩, some ⟨x, true, false⟩]) := by
  rcases hx with rfl | ⟨b, rfl⟩ | ⟨j, rfl⟩ | ⟨z, rfl, hz⟩
  · simp [e_dnew, e_vals0, e_vals, k_vals, k_vc, e_disp, k_disp, e_dpop, k_dp0, k_dp1, k_dp2, k_dp3, repD_cons, e_get, k_gtS, k_gtN, D.flat, ofs_inj, fEq_str, e_dc, e_c2, k_cg, k_ge, e_lg0, e_lg, k_lg, e_stpD, k_s1, k_s2, k_s2F, k_s3, k_s4, e_stp2, k_t0, k_t1, k_t2, k_t3, key_str, key_int, getK_nil, getK_cons, putD_nil, putD_cons, e_upd, merge_nil, merge_cons, e_inD, e_setD, e_intup, inD_nil, inD_str, saveOk, hideAll, unhide, isTy, List.any_cons, List.any_nil, D.kd, e_for, k_for, e_lp0, k_lp, k_lpn, k_lpr, e_cm, k_cm, k_cmE, k_cl, k_cl2F, k_cl2T, k_cl3, e_rg1, k_rg1, e_itA, k_itL, k_itT, k_itF, e_zip, k_zpL, k_zpT, k_zp2L, k_zp2T, e_sl, e_agN, e_agS, e_chkI, k_chkI, e_slT00, e_slT01, e_slT10, e_slT11, e_slF01, e_listL, e_listT, e_listF, e_tupL, e_tupT, k_pf, e_mt, k_mt, e_app, e_ext, e_pop, k_pop, k_pop2, e_absI, e_augL, k_aug, k_aug2, k_aug3, e_mkF, k_finR, k_finN, e_bagSl, k_bag, k_bag2, startE, finals, e_seq, k_seq, k_seqr, e_set, k_set, e_par, k_par, k_par2, e_call, k_args, k_take, k_give, a_nil, a_val, k_val, k_cons, a_var, k_varA, t_nil, t_val, t_var, k_tk, k_tkV, g_nil, g_val, g_var, k_gvV, e_aug, e_var, e_mc, e_ret, k_ret, e_retV, e_pass, e_expr, k_expr, e_ifS, k_ifT, k_ifF, e_if, k_fT, k_fF, e_yes, e_setI, e_asg, k_asg, k_one, e_gname, e_of, k_of, e_not, k_not, e_and, k_andT, k_andF, e_or, k_orT, k_orF, e_gtup, e_gnil, e_gcons, k_gs, e_r1, k_r1, e_r2, k_r2, k_ix, e_sub, e_mod, e_div, e_pow, e_shl, e_cmp, e_lt, e_add, e_addI, e_addL, e_addT, e_mul, e_mulL, e_len1, e_len2, e_len3, e_int, e_intb, e_ixl, e_ixt, e_ixd1, e_ixd2, e_setL, fEq_int, fNe_int, gTup, gLst, flags, D.imm, D.imms, imms_ints, two64, two62, sizeMax, alB, hat, hk, twin, e_isi, k_is, fNe_bl, fNe_non]
  · simp [e_dnew, e_vals0, e_vals, k_vals, k_vc, e_disp, k_disp, e_dpop, k_dp0, k_dp1, k_dp2, k_dp3, repD_cons, e_get, k_gtS, k_gtN, D.flat, ofs_inj, fEq_str, e_dc, e_c2, k_cg, k_ge, e_lg0, e_lg, k_lg, e_stpD, k_s1, k_s2, k_s2F, k_s3, k_s4, e_stp2, k_t0, k_t1, k_t2, k_t3, key_str, key_int, getK_nil, getK_cons, putD_nil, putD_cons, e_upd, merge_nil, merge_cons, e_inD, e_setD, e_intup, inD_nil, inD_str, saveOk, hideAll, unhide, isTy, List.any_cons, List.any_nil, D.kd, e_for, k_for, e_lp0, k_lp, k_lpn, k_lpr, e_cm, k_cm, k_cmE, k_cl, k_cl2F, k_cl2T, k_cl3, e_rg1, k_rg1, e_itA, k_itL, k_itT, k_itF, e_zip, k_zpL, k_zpT, k_zp2L, k_zp2T, e_sl, e_agN, e_agS, e_chkI, k_chkI, e_slT00, e_slT01, e_slT10, e_slT11, e_slF01, e_listL, e_listT, e_listF, e_tupL, e_tupT, k_pf, e_mt, k_mt, e_app, e_ext, e_pop, k_pop, k_pop2, e_absI, e_augL, k_aug, k_aug2, k_aug3, e_mkF, k_finR, k_finN, e_bagSl, k_bag, k_bag2, startE, finals, e_seq, k_seq, k_seqr, e_set, k_set, e_par, k_par, k_par2, e_call, k_args, k_take, k_give, a_nil, a_val, k_val, k_cons, a_var, k_varA, t_nil, t_val, t_var, k_tk, k_tkV, g_nil, g_val, g_var, k_gvV, e_aug, e_var, e_mc, e_ret, k_ret, e_retV, e_pass, e_expr, k_expr, e_ifS, k_ifT, k_ifF, e_if, k_fT, k_fF, e_yes, e_setI, e_asg, k_asg, k_one, e_gname, e_of, k_of, e_not, k_not, e_and, k_andT, k_andF, e_or, k_orT, k_orF, e_gtup, e_gnil, e_gcons, k_gs, e_r1, k_r1, e_r2, k_r2, k_ix, e_sub, e_mod, e_div, e_pow, e_shl, e_cmp, e_lt, e_add, e_addI, e_addL, e_addT, e_mul, e_mulL, e_len1, e_len2, e_len3, e_int, e_intb, e_ixl, e_ixt, e_ixd1, e_ixd2, e_setL, fEq_int, fNe_int, gTup, gLst, flags, D.imm, D.imms, imms_ints, two64, two62, sizeMax, alB, hat, hk, twin, e_isi, k_is, fNe_bl]
  · simp [e_dnew, e_vals0, e_vals, k_vals, k_vc, e_disp, k_disp, e_dpop, k_dp0, k_dp1, k_dp2, k_dp3, repD_cons, e_get, k_gtS, k_gtN, D.flat, ofs_inj, fEq_str, e_dc, e_c2, k_cg, k_ge, e_lg0, e_lg, k_lg, e_stpD, k_s1, k_s2, k_s2F, k_s3, k_s4, e_stp2, k_t0, k_t1, k_t2, k_t3, key_str, key_int, getK_nil, getK_cons, putD_nil, putD_cons, e_upd, merge_nil, merge_cons, e_inD, e_setD, e_intup, inD_nil, inD_str, saveOk, hideAll, unhide, isTy, List.any_cons, List.any_nil, D.kd, e_for, k_for, e_lp0, k_lp, k_lpn, k_lpr, e_cm, k_cm, k_cmE, k_cl, k_cl2F, k_cl2T, k_cl3, e_rg1, k_rg1, e_itA, k_itL, k_itT, k_itF, e_zip, k_zpL, k_zpT, k_zp2L, k_zp2T, e_sl, e_agN, e_agS, e_chkI, k_chkI, e_slT00, e_slT01, e_slT10, e_slT11, e_slF01, e_listL, e_listT, e_listF, e_tupL, e_tupT, k_pf, e_mt, k_mt, e_app, e_ext, e_pop, k_pop, k_pop2, e_absI, e_augL, k_aug, k_aug2, k_aug3, e_mkF, k_finR, k_finN, e_bagSl, k_bag, k_bag2, startE, finals, e_seq, k_seq, k_seqr, e_set, k_set, e_par, k_par, k_par2, e_call, k_args, k_take, k_give, a_nil, a_val, k_val, k_cons, a_var, k_varA, t_nil, t_val, t_var, k_tk, k_tkV, g_nil, g_val, g_var, k_gvV, e_aug, e_var, e_mc, e_ret, k_ret, e_retV, e_pass, e_expr, k_expr, e_ifS, k_ifT, k_ifF, e_if, k_fT, k_fF, e_yes, e_setI, e_asg, k_asg, k_one, e_gname, e_of, k_of, e_not, k_not, e_and, k_andT, k_andF, e_or, k_orT, k_orF, e_gtup, e_gnil, e_gcons, k_gs, e_r1, k_r1, e_r2, k_r2, k_ix, e_sub, e_mod, e_div, e_pow, e_shl, e_cmp, e_lt, e_add, e_addI, e_addL, e_addT, e_mul, e_mulL, e_len1, e_len2, e_len3, e_int, e_intb, e_ixl, e_ixt, e_ixd1, e_ixd2, e_setL, fEq_int, fNe_int, gTup, gLst, flags, D.imm, D.imms, imms_ints, two64, two62, sizeMax, alB, hat, hk, twin, e_isi, k_is, fNe_bl]
  · simp [e_dnew, e_vals0, e_vals, k_vals, k_vc, e_disp, k_disp, e_dpop, k_dp0, k_dp1, k_dp2, k_dp3, repD_cons, e_get, k_gtS, k_gtN, D.flat, ofs_inj, fEq_str, e_dc, e_c2, k_cg, k_ge, e_lg0, e_lg, k_lg, e_stpD, k_s1, k_s2, k_s2F, k_s3, k_s4, e_stp2, k_t0, k_t1, k_t2, k_t3, key_str, key_int, getK_nil, getK_cons, putD_nil, putD_cons, e_upd, merge_nil, merge_cons, e_inD, e_setD, e_intup, inD_nil, inD_str, saveOk, hideAll, unhide, isTy, List.any_cons, List.any_nil, D.kd, e_for, k_for, e_lp0, k_lp, k_lpn, k_lpr, e_cm, k_cm, k_cmE, k_cl, k_cl2F, k_cl2T, k_cl3, e_rg1, k_rg1, e_itA, k_itL, k_itT, k_itF, e_zip, k_zpL, k_zpT, k_zp2L, k_zp2T, e_sl, e_agN, e_agS, e_chkI, k_chkI, e_slT00, e_slT01, e_slT10, e_slT11, e_slF01, e_listL, e_listT, e_listF, e_tupL, e_tupT, k_pf, e_mt, k_mt, e_app, e_ext, e_pop, k_pop, k_pop2, e_absI, e_augL, k_aug, k_aug2, k_aug3, e_mkF, k_finR, k_finN, e_bagSl, k_bag, k_bag2, startE, finals, e_seq, k_seq, k_seqr, e_set, k_set, e_par, k_par, k_par2, e_call, k_args, k_take, k_give, a_nil, a_val, k_val, k_cons, a_var, k_varA, t_nil, t_val, t_var, k_tk, k_tkV, g_nil, g_val, g_var, k_gvV, e_aug, e_var, e_mc, e_ret, k_ret, e_retV, e_pass, e_expr, k_expr, e_ifS, k_ifT, k_ifF, e_if, k_fT, k_fF, e_yes, e_setI, e_asg, k_asg, k_one, e_gname, e_of, k_of, e_not, k_not, e_and, k_andT, k_andF, e_or, k_orT, k_orF, e_gtup, e_gnil, e_gcons, k_gs, e_r1, k_r1, e_r2, k_r2, k_ix, e_sub, e_mod, e_div, e_pow, e_shl, e_cmp, e_lt, e_add, e_addI, e_addL, e_addT, e_mul, e_mulL, e_len1, e_len2, e_len3, e_int, e_intb, e_ixl, e_ixt, e_ixd1, e_ixd2, e_setL, fEq_int, fNe_int, gTup, gLst, flags, D.imm, D.imms, imms_ints, two64, two62, sizeMax, alB, hat, hk, twin, e_isi, k_is, fNe_bl, fNe_str, hz]
theorem al_tup {s0 s1 x4 x5 : Option Sl} {ps l : List D} {i : Int} (hat : L2.atI ps i = some (twin (.tup l))) (hk : D.imms ps = true) (hl : D.imms l = true) (hz : ps.length + l.length ≤ 1000000) :
    alB [s0, s1, some ⟨.lst ps, true, false⟩, some ⟨.int i, true, false⟩, x4, x5] = some (.nx, [s0, s1, some ⟨.lst (ps ++ l.map twin), true, false⟩, some ⟨.int (i + 1), true, false⟩, some ⟨.tup l, true, false⟩, some ⟨.tup l, true, false⟩]) := by
  have h1 : ps.length + l.length ≤ 16777216 := by omega
  have h3 : D.imms (l.map fun a => pairD a a) = true := imms_twin hl
  simp [e_dnew, e_vals0, e_vals, k_vals, k_vc, e_disp, k_disp, e_dpop, k_dp0, k_dp1, k_dp2, k_dp3, repD_cons, e_get, k_gtS, k_gtN, D.flat, ofs_inj, fEq_str, e_dc, e_c2, k_cg, k_ge, e_lg0, e_lg, k_lg, e_stpD, k_s1, k_s2, k_s2F, k_s3, k_s4, e_stp2, k_t0, k_t1, k_t2, k_t3, key_str, key_int, getK_nil, getK_cons, putD_nil, putD_cons, e_upd, merge_nil, merge_cons, e_inD, e_setD, e_intup, inD_nil, inD_str, saveOk, hideAll, unhide, isTy, List.any_cons, List.any_nil, D.kd, e_for, k_for, e_lp0, k_lp, k_lpn, k_lpr, e_cm, k_cm, k_cmE, k_cl, k_cl2F, k_cl2T, k_cl3, e_rg1, k_rg1, e_itA, k_itL, k_itT, k_itF, e_zip, k_zpL, k_zpT, k_zp2L, k_zp2T, e_sl, e_agN, e_agS, e_chkI, k_chkI, e_slT00, e_slT01, e_slT10, e_slT11, e_slF01, e_listL, e_listT, e_listF, e_tupL, e_tupT, k_pf, e_mt, k_mt, e_app, e_ext, e_pop, k_pop, k_pop2, e_absI, e_augL, k_aug, k_aug2, k_aug3, e_mkF, k_finR, k_finN, e_bagSl, k_bag, k_bag2, startE, finals, e_seq, k_seq, k_seqr, e_set, k_set, e_par, k_par, k_par2, e_call, k_args, k_take, k_give, a_nil, a_val, k_val, k_cons, a_var, k_varA, t_nil, t_val, t_var, k_tk, k_tkV, g_nil, g_val, g_var, k_gvV, e_aug, e_var, e_mc, e_ret, k_ret, e_retV, e_pass, e_expr, k_expr, e_ifS, k_ifT, k_ifF, e_if, k_fT, k_fF, e_yes, e_setI, e_asg, k_asg, k_one, e_gname, e_of, k_of, e_not, k_not, e_and, k_andT, k_andF, e_or, k_orT, k_orF, e_gtup, e_gnil, e_gcons, k_gs, e_r1, k_r1, e_r2, k_r2, k_ix, e_sub, e_mod, e_div, e_pow, e_shl, e_cmp, e_lt, e_add, e_addI, e_addL, e_addT, e_mul, e_mulL, e_len1, e_len2, e_len3, e_int, e_intb, e_ixl, e_ixt, e_ixd1, e_ixd2, e_setL, fEq_int, fNe_int, gTup, gLst, flags, D.imm, D.imms, imms_ints, two64, two62, sizeMax, alB, hat, hk, twin, e_isi, k_is, fNe_bl, hl, gLZ, seqK, h3, h1]
  exact fun a _ => rfl
theorem al_fro {s0 s1 x4 x5 : Option Sl} {ps l : List D} {i : Int} (hat : L2.atI ps i = some (twin (.fro l))) (hk : D.imms ps = true) (hl : D.imms l = true) (hz : ps.length + l.length ≤ 1000000) :
    alB [s0, s1, some ⟨.lst ps, true, false⟩, some ⟨.int i, true, false⟩, x4, x5] = some (.nx, [s0, s1, some ⟨.lst (ps ++ l.map twin), true, false⟩, some ⟨.int (i + 1), true, false⟩, some ⟨.fro l, true, false⟩, some ⟨.fro l, true, false⟩]) := by
  have h1 : ps.length + l.length ≤ 16777216 := by omega
  have h3 : D.imms (l.map fun a => pairD a a) = true := imms_twin hl
  simp [e_dnew, e_vals0, e_vals, k_vals, k_vc, e_disp, k_disp, e_dpop, k_dp0, k_dp1, k_dp2, k_dp3, repD_cons, e_get, k_gtS, k_gtN, D.flat, ofs_inj, fEq_str, e_dc, e_c2, k_cg, k_ge, e_lg0, e_lg, k_lg, e_stpD, k_s1, k_s2, k_s2F, k_s3, k_s4, e_stp2, k_t0, k_t1, k_t2, k_t3, key_str, key_int, getK_nil, getK_cons, putD_nil, putD_cons, e_upd, merge_nil, merge_cons, e_inD, e_setD, e_intup, inD_nil, inD_str, saveOk, hideAll, unhide, isTy, List.any_cons, List.any_nil, D.kd, e_for, k_for, e_lp0, k_lp, k_lpn, k_lpr, e_cm, k_cm, k_cmE, k_cl, k_cl2F, k_cl2T, k_cl3, e_rg1, k_rg1, e_itA, k_itL, k_itT, k_itF, e_zip, k_zpL, k_zpT, k_zp2L, k_zp2T, e_sl, e_agN, e_agS, e_chkI, k_chkI, e_slT00, e_slT01, e_slT10, e_slT11, e_slF01, e_listL, e_listT, e_listF, e_tupL, e_tupT, k_pf, e_mt, k_mt, e_app, e_ext, e_pop, k_pop, k_pop2, e_absI, e_augL, k_aug, k_aug2, k_aug3, e_mkF, k_finR, k_finN, e_bagSl, k_bag, k_bag2, startE, finals, e_seq, k_seq, k_seqr, e_set, k_set, e_par, k_par, k_par2, e_call, k_args, k_take, k_give, a_nil, a_val, k_val, k_cons, a_var, k_varA, t_nil, t_val, t_var, k_tk, k_tkV, g_nil, g_val, g_var, k_gvV, e_aug, e_var, e_mc, e_ret, k_ret, e_retV, e_pass, e_expr, k_expr, e_ifS, k_ifT, k_ifF, e_if, k_fT, k_fF, e_yes, e_setI, e_asg, k_asg, k_one, e_gname, e_of, k_of, e_not, k_not, e_and, k_andT, k_andF, e_or, k_orT, k_orF, e_gtup, e_gnil, e_gcons, k_gs, e_r1, k_r1, e_r2, k_r2, k_ix, e_sub, e_mod, e_div, e_pow, e_shl, e_cmp, e_lt, e_add, e_addI, e_addL, e_addT, e_mul, e_mulL, e_len1, e_len2, e_len3, e_int, e_intb, e_ixl, e_ixt, e_ixd1, e_ixd2, e_setL, fEq_int, fNe_int, gTup, gLst, flags, D.imm, D.imms, imms_ints, two64, two62, sizeMax, alB, hat, hk, twin, e_isi, k_is, fNe_bl, hl, gLZ, seqK, h3, h1]
  exact fun a _ => rfl
theorem imms_mid {l m : List D} {x : D} (h : D.imms (l ++ x :: m) = true) : D.imms l = true ∧ x.imm = true ∧ D.imms m = true := by
  rw [D.imms_append] at h
  have h' := Bool.and_eq_true_iff.mp h
  have h2 := Bool.and_eq_true_iff.mp (show (x.imm && D.imms m) = true from h'.2)
  exact ⟨h'.1, h2.1, h2.2⟩
theorem imms_join {l m : List D} (h : D.imms l = true) (h2 : D.imms m = true) : D.imms (l ++ m) = true := by
  rw [D.imms_append, h, h2]
  rfl
theorem alike_loop (s0 s1 : Option Sl) : ∀ (n : Nat) (done todo : List D) (x4 x5 : Option Sl), D.imms (done ++ todo) = true → D.okSs todo = true → D.knotsL todo < n → done.length + D.knotsL todo ≤ 1000000 →
    ∃ e', whileM alT alB n [s0, s1, some ⟨.lst ((done ++ todo).map twin), true, false⟩, some ⟨.int (done.length : Nat), true, false⟩, x4, x5] = some (.nx, e')
  | 0, _, _, _, _, _, _, h, _ => absurd h (Nat.not_lt_zero _)
  | n + 1, done, [], x4, x5, _, _, _, _ => ⟨_, wh_stop (al_stop (by rw [List.append_nil, List.length_map]))⟩
  | n + 1, done, x :: todo, x4, x5, him, hs, hn, hz => by
    obtain ⟨i1, i2, i3⟩ := imms_mid him
    have hs' := Bool.and_eq_true_iff.mp (show (x.okS && D.okSs todo) = true from hs)
    have hkn : D.knotsL (x :: todo) = x.knots + D.knotsL todo := rfl
    have hkl := knotsL_len todo
    have hkp := knots_pos x
    rw [hkn] at hn hz
    have hat : L2.atI ((done ++ x :: todo).map twin) (done.length : Int) = some (twin x) := by
      have := at_mid (done.map twin) (todo.map twin) (twin x)
      simpa using this
    have e0 : D.imms ((done ++ x :: todo).map twin) = true := imms_twin him
    have hlt : (done.length : Int) < ((done ++ x :: todo).map twin).length := by
      rw [List.length_map, List.length_append, List.length_cons]
      omega
    have key : ∀ more : List D, D.imms more = true → D.okSs more = true → D.knotsL more + 1 ≤ x.knots → ∃ e', whileM alT alB n [s0, s1, some ⟨.lst ((done ++ x :: todo).map twin ++ more.map twin), true, false⟩, some ⟨.int ((done.length : Int) + 1), true, false⟩, some ⟨x, true, false⟩, some ⟨x, true, false⟩] = some (.nx, e') := by
      intro more hm ho hk
      have := alike_loop s0 s1 n (done ++ [x]) (todo ++ more) (some ⟨x, true, false⟩) (some ⟨x, true, false⟩) (by
          rw [List.append_assoc]
          exact imms_join i1 (imms_join (l := [x]) (by show (x.imm && true) = true; rw [i2]; rfl) (imms_join i3 hm))) (by rw [okSs_append, hs'.2, ho]; rfl) (by rw [knotsL_append]; omega) (by rw [knotsL_append, List.length_append, List.length_singleton]; omega)
      simpa using this
    have leaf : (x = .non ∨ (∃ b, x = .bl b) ∨ (∃ j, x = .int j) ∨ (∃ z, x = .str z ∧ PyData.strOk z = true)) → ∃ e', whileM alT alB (n + 1) [s0, s1, some ⟨.lst ((done ++ x :: todo).map twin), true, false⟩, some ⟨.int (done.length : Nat), true, false⟩, x4, x5] = some (.nx, e') := by
      intro hx
      obtain ⟨e', h⟩ := key [] rfl rfl (show 0 + 1 ≤ x.knots by omega)
      rw [List.map_nil, List.append_nil] at h
      exact ⟨e', (wh_step (al_more hlt) (al_leaf hat e0 hx)).trans h⟩
    have hll : ((done ++ x :: todo).map twin).length = done.length + (todo.length + 1) := by rw [List.length_map, List.length_append, List.length_cons]
    cases x with
    | non => exact leaf (.inl rfl)
    | bl b => exact leaf (.inr (.inl ⟨b, rfl⟩))
    | int j => exact leaf (.inr (.inr (.inl ⟨j, rfl⟩)))
    | str z => exact leaf (.inr (.inr (.inr ⟨z, rfl, hs'.1⟩)))
    | tup l =>
      have hk2 : (D.tup l).knots = 1 + D.knotsL l := rfl
      have := knotsL_len l
      obtain ⟨e', h⟩ := key l i2 hs'.1 (by omega)
      exact ⟨e', (wh_step (al_more hlt) (al_tup hat e0 i2 (by rw [hll]; omega))).trans h⟩
    | fro l =>
      have hk2 : (D.fro l).knots = 1 + D.knotsL l := rfl
      have := knotsL_len l
      obtain ⟨e', h⟩ := key l i2 hs'.1 (by omega)
      exact ⟨e', (wh_step (al_more hlt) (al_fro hat e0 i2 (by rw [hll]; omega))).trans h⟩
    | lst l => cases i2
    | dic l => cases i2
    | ins C l => cases i2
/-- what is alike is found alike -/
theorem law_alike {d d2 : D} {b b2 : Bool} (h : d.plain = true) (h2 : d2.plain = true) (he : d.fz = d2.fz) (hs : d.fz.okS = true) (hk : d.fz.knots < 100000) :
    ∃ o1 o2, py__law_alike [(d, b), (d2, b2)] = some (.bl true, true, [o1, o2]) := by
  have i1 := fz_imm h
  obtain ⟨e', g⟩ := alike_loop (some ⟨d.fz, true, !d.imm⟩) (some ⟨d.fz, true, !d2.imm⟩) 100000 [] [d.fz] none none (by show (d.fz.imm && true) = true; rw [i1]; rfl) (by show (d.fz.okS && true) = true; rw [hs]; rfl) (by show d.fz.knots + 0 < _; omega) (by show 0 + (d.fz.knots + 0) ≤ _; omega)
  have hh : mSeq (mPar 2 3 (mCall gLst [.val (mCall gTup [.var 0, .var 1])]) (mC (.int 0))) (mSeq (whileM alT alB 100000) (mRet (mC (.bl true)))) [some ⟨d.fz, true, !d.imm⟩, some ⟨d.fz, true, !d2.imm⟩, none, none, none, none] = some (.rt (.bl true) true, e') := by
    simp only [List.nil_append, List.map_cons, List.map_nil, twin, List.length_nil] at g
    simp [e_dnew, e_vals0, e_vals, k_vals, k_vc, e_disp, k_disp, e_dpop, k_dp0, k_dp1, k_dp2, k_dp3, repD_cons, e_get, k_gtS, k_gtN, D.flat, ofs_inj, fEq_str, e_dc, e_c2, k_cg, k_ge, e_lg0, e_lg, k_lg, e_stpD, k_s1, k_s2, k_s2F, k_s3, k_s4, e_stp2, k_t0, k_t1, k_t2, k_t3, key_str, key_int, getK_nil, getK_cons, putD_nil, putD_cons, e_upd, merge_nil, merge_cons, e_inD, e_setD, e_intup, inD_nil, inD_str, saveOk, hideAll, unhide, isTy, List.any_cons, List.any_nil, D.kd, e_for, k_for, e_lp0, k_lp, k_lpn, k_lpr, e_cm, k_cm, k_cmE, k_cl, k_cl2F, k_cl2T, k_cl3, e_rg1, k_rg1, e_itA, k_itL, k_itT, k_itF, e_zip, k_zpL, k_zpT, k_zp2L, k_zp2T, e_sl, e_agN, e_agS, e_chkI, k_chkI, e_slT00, e_slT01, e_slT10, e_slT11, e_slF01, e_listL, e_listT, e_listF, e_tupL, e_tupT, k_pf, e_mt, k_mt, e_app, e_ext, e_pop, k_pop, k_pop2, e_absI, e_augL, k_aug, k_aug2, k_aug3, e_mkF, k_finR, k_finN, e_bagSl, k_bag, k_bag2, startE, finals, e_seq, k_seq, k_seqr, e_set, k_set, e_par, k_par, k_par2, e_call, k_args, k_take, k_give, a_nil, a_val, k_val, k_cons, a_var, k_varA, t_nil, t_val, t_var, k_tk, k_tkV, g_nil, g_val, g_var, k_gvV, e_aug, e_var, e_mc, e_ret, k_ret, e_retV, e_pass, e_expr, k_expr, e_ifS, k_ifT, k_ifF, e_if, k_fT, k_fF, e_yes, e_setI, e_asg, k_asg, k_one, e_gname, e_of, k_of, e_not, k_not, e_and, k_andT, k_andF, e_or, k_orT, k_orF, e_gtup, e_gnil, e_gcons, k_gs, e_r1, k_r1, e_r2, k_r2, k_ix, e_sub, e_mod, e_div, e_pow, e_shl, e_cmp, e_lt, e_add, e_addI, e_addL, e_addT, e_mul, e_mulL, e_len1, e_len2, e_len3, e_int, e_intb, e_ixl, e_ixt, e_ixd1, e_ixd2, e_setL, fEq_int, fNe_int, gTup, gLst, flags, D.imm, D.imms, imms_ints, L2.atI, L2.ixN, two64, two62, sizeMax, i1]
    rw [show ((0 : Nat) : Int) = 0 from rfl] at g
    rw [g]
    rfl
  have key : py__law_alike [(d, b), (d2, b2)] = some (.bl true, true, finals e' 0 [(d, b), (d2, b2)]) := by
    unfold py__law_alike
    rw [alike_is, e_mkF]
    simp only [startE, mFreeze, List.map_cons, List.map_nil, List.length_cons, List.length_nil, List.cons_append, List.nil_append, List.getElem?_cons_zero, List.getElem?_cons_succ, h, h2, if_true, List.set_cons_zero, List.set_cons_succ, ← he]
    exact congrArg (kFin [(d, b), (d2, b2)]) hh
  exact ⟨_, _, key⟩
end LF
namespace LF
open PySem
/-- the numbers below n -/
def nums (n : Nat) : List Int := (List.range n).map fun i => (0 : Int) + (i : Nat) * 1
theorem intsD_nums (n : Nat) : intsD 0 1 n = (nums n).map .int := by
  unfold intsD nums
  rw [List.map_map]
  rfl
/-- the product of what n is away from xs, mod p -/
def prd (p n m : Int) (xs : List Int) : Int := xs.foldl (fun m a => (m * (n - a)).fmod p) m
def asL (p : Int) (xs ys : List Int) (ns : List Int) : List Int := ns.filter fun n => decide (prd p n 1 xs = prd p n 1 ys)
def inB : SM := (mPar 5 6 (mCall (gR2 fMod) [.val (mCall (gMul) [.var 5, .val (mCall (gR2 fSub) [.var 4, .var 7])]), .var 0]) (mCall (gR2 fMod) [.val (mCall (gMul) [.var 6, .val (mCall (gR2 fSub) [.var 4, .var 8])]), .var 0]))
def inG : GM := (mGTup 2 (mGCons (mGName 7) (mGCons (mGName 8) (mGNil))))
def inC : SM := (mPar 5 6 (mCall (gR2 fMod) [.val (mCall gInt [.val (mCall (gMul) [.var 5, .val (mCall (gR2 fSub) [.var 4, .var 7])])]), .var 0]) (mCall (gR2 fMod) [.val (mCall gInt [.val (mCall (gMul) [.var 6, .val (mCall (gR2 fSub) [.var 4, .var 8])])]), .var 0]))
theorem asks_in {p n : Int} (hp : 0 < p) (hp2 : p < 1073741824) (X1 X2 X3 : Option Sl) : ∀ (xs ys : List Int) (m1 m2 : Int) (x7 x8 : Option Sl), xs.length = ys.length → (-two64 < m1 ∧ m1 < two64) → (-two64 < m2 ∧ m2 < two64) →
    ∃ x7' x8', loopM inG true inB (List.zipWith (fun a b => .tup [a, b]) (xs.map .int) (ys.map .int)) [some ⟨.int p, true, false⟩, X1, X2, X3, some ⟨.int n, true, false⟩, some ⟨.int m1, true, false⟩, some ⟨.int m2, true, false⟩, x7, x8] = some (.nx, [some ⟨.int p, true, false⟩, X1, X2, X3, some ⟨.int n, true, false⟩, some ⟨.int (prd p n m1 xs), true, false⟩, some ⟨.int (prd p n m2 ys), true, false⟩, x7', x8'])
  | [], [], m1, m2, x7, x8, _, _, _ => ⟨x7, x8, rfl⟩
  | [], _ :: _, _, _, _, _, h, _, _ => nomatch h
  | _ :: _, [], _, _, _, _, h, _, _ => nomatch h
  | x :: xs, y :: ys, m1, m2, x7, x8, h, h1, h2 => by
    have h0 : p ≠ 0 := by omega
    have g1 := Int.fmod_nonneg_of_pos (m1 * (n - x)) hp
    have g2 := Int.fmod_lt_of_pos (m1 * (n - x)) hp
    have g3 := Int.fmod_nonneg_of_pos (m2 * (n - y)) hp
    have g4 := Int.fmod_lt_of_pos (m2 * (n - y)) hp
    obtain ⟨x7', x8', h5⟩ := asks_in hp hp2 X1 X2 X3 (n := n) xs ys ((m1 * (n - x)).fmod p) ((m2 * (n - y)).fmod p) (some ⟨.int x, true, false⟩) (some ⟨.int y, true, false⟩) (Nat.succ.inj h) (by unfold two64; omega) (by unfold two64; omega)
    refine ⟨x7', x8', Eq.trans ?_ h5⟩
    have h1' : -18446744073709551616 < m1 ∧ m1 < 18446744073709551616 := h1
    have h2' : -18446744073709551616 < m2 ∧ m2 < 18446744073709551616 := h2
    show loopM inG true inB (.tup [.int x, .int y] :: _) _ = _
    rw [e_lp]
    simp [e_dnew, e_vals0, e_vals, k_vals, k_vc, e_disp, k_disp, e_dpop, k_dp0, k_dp1, k_dp2, k_dp3, repD_cons, e_get, k_gtS, k_gtN, D.flat, ofs_inj, fEq_str, e_dc, e_c2, k_cg, k_ge, e_lg0, e_lg, k_lg, e_stpD, k_s1, k_s2, k_s2F, k_s3, k_s4, e_stp2, k_t0, k_t1, k_t2, k_t3, key_str, key_int, getK_nil, getK_cons, putD_nil, putD_cons, e_upd, merge_nil, merge_cons, e_inD, e_setD, e_intup, inD_nil, inD_str, saveOk, hideAll, unhide, isTy, List.any_cons, List.any_nil, D.kd, e_for, k_for, e_lp0, k_lp, k_lpn, k_lpr, e_cm, k_cm, k_cmE, k_cl, k_cl2F, k_cl2T, k_cl3, e_rg1, k_rg1, e_itA, k_itL, k_itT, k_itF, e_zip, k_zpL, k_zpT, k_zp2L, k_zp2T, e_sl, e_agN, e_agS, e_chkI, k_chkI, e_slT00, e_slT01, e_slT10, e_slT11, e_slF01, e_listL, e_listT, e_listF, e_tupL, e_tupT, k_pf, e_mt, k_mt, e_app, e_ext, e_pop, k_pop, k_pop2, e_absI, e_augL, k_aug, k_aug2, k_aug3, e_mkF, k_finR, k_finN, e_bagSl, k_bag, k_bag2, startE, finals, e_seq, k_seq, k_seqr, e_set, k_set, e_par, k_par, k_par2, e_call, k_args, k_take, k_give, a_nil, a_val, k_val, k_cons, a_var, k_varA, t_nil, t_val, t_var, k_tk, k_tkV, g_nil, g_val, g_var, k_gvV, e_aug, e_var, e_mc, e_ret, k_ret, e_retV, e_pass, e_expr, k_expr, e_ifS, k_ifT, k_ifF, e_if, k_fT, k_fF, e_yes, e_setI, e_asg, k_asg, k_one, e_gname, e_of, k_of, e_not, k_not, e_and, k_andT, k_andF, e_or, k_orT, k_orF, e_gtup, e_gnil, e_gcons, k_gs, e_r1, k_r1, e_r2, k_r2, k_ix, e_sub, e_mod, e_div, e_pow, e_shl, e_cmp, e_lt, e_add, e_addI, e_addL, e_addT, e_mul, e_mulL, e_len1, e_len2, e_len3, e_int, e_intb, e_ixl, e_ixt, e_ixd1, e_ixd2, e_setL, fEq_int, fNe_int, gTup, gLst, flags, D.imm, D.imms, imms_ints, L2.atI, L2.ixN, two64, two62, sizeMax, inG, inB, h0, h1'.1, h1'.2, h2'.1, h2'.2]
theorem asks_in2 {p n : Int} (hp : 0 < p) (hp2 : p < 1073741824) (X1 X2 X3 : Option Sl) : ∀ (xs ys : List Int) (m1 m2 : Int) (x7 x8 : Option Sl), xs.length = ys.length → (-two64 < m1 ∧ m1 < two64) → (-two64 < m2 ∧ m2 < two64) →
    ∃ x7' x8', loopM inG true inC (List.zipWith (fun a b => .tup [a, b]) (xs.map .int) (ys.map .int)) [some ⟨.int p, true, false⟩, X1, X2, X3, some ⟨.int n, true, false⟩, some ⟨.int m1, true, false⟩, some ⟨.int m2, true, false⟩, x7, x8] = some (.nx, [some ⟨.int p, true, false⟩, X1, X2, X3, some ⟨.int n, true, false⟩, some ⟨.int (prd p n m1 xs), true, false⟩, some ⟨.int (prd p n m2 ys), true, false⟩, x7', x8'])
  | [], [], m1, m2, x7, x8, _, _, _ => ⟨x7, x8, rfl⟩
  | [], _ :: _, _, _, _, _, h, _, _ => nomatch h
  | _ :: _, [], _, _, _, _, h, _, _ => nomatch h
  | x :: xs, y :: ys, m1, m2, x7, x8, h, h1, h2 => by
    have h0 : p ≠ 0 := by omega
    have g1 := Int.fmod_nonneg_of_pos (m1 * (n - x)) hp
    have g2 := Int.fmod_lt_of_pos (m1 * (n - x)) hp
    have g3 := Int.fmod_nonneg_of_pos (m2 * (n - y)) hp
    have g4 := Int.fmod_lt_of_pos (m2 * (n - y)) hp
    obtain ⟨x7', x8', h5⟩ := asks_in2 hp hp2 X1 X2 X3 (n := n) xs ys ((m1 * (n - x)).fmod p) ((m2 * (n - y)).fmod p) (some ⟨.int x, true, false⟩) (some ⟨.int y, true, false⟩) (Nat.succ.inj h) (by unfold two64; omega) (by unfold two64; omega)
    refine ⟨x7', x8', Eq.trans ?_ h5⟩
    have h1' : -18446744073709551616 < m1 ∧ m1 < 18446744073709551616 := h1
    have h2' : -18446744073709551616 < m2 ∧ m2 < 18446744073709551616 := h2
    show loopM inG true inC (.tup [.int x, .int y] :: _) _ = _
    rw [e_lp]
    simp [e_dnew, e_vals0, e_vals, k_vals, k_vc, e_disp, k_disp, e_dpop, k_dp0, k_dp1, k_dp2, k_dp3, repD_cons, e_get, k_gtS, k_gtN, D.flat, ofs_inj, fEq_str, e_dc, e_c2, k_cg, k_ge, e_lg0, e_lg, k_lg, e_stpD, k_s1, k_s2, k_s2F, k_s3, k_s4, e_stp2, k_t0, k_t1, k_t2, k_t3, key_str, key_int, getK_nil, getK_cons, putD_nil, putD_cons, e_upd, merge_nil, merge_cons, e_inD, e_setD, e_intup, inD_nil, inD_str, saveOk, hideAll, unhide, isTy, List.any_cons, List.any_nil, D.kd, e_for, k_for, e_lp0, k_lp, k_lpn, k_lpr, e_cm, k_cm, k_cmE, k_cl, k_cl2F, k_cl2T, k_cl3, e_rg1, k_rg1, e_itA, k_itL, k_itT, k_itF, e_zip, k_zpL, k_zpT, k_zp2L, k_zp2T, e_sl, e_agN, e_agS, e_chkI, k_chkI, e_slT00, e_slT01, e_slT10, e_slT11, e_slF01, e_listL, e_listT, e_listF, e_tupL, e_tupT, k_pf, e_mt, k_mt, e_app, e_ext, e_pop, k_pop, k_pop2, e_absI, e_augL, k_aug, k_aug2, k_aug3, e_mkF, k_finR, k_finN, e_bagSl, k_bag, k_bag2, startE, finals, e_seq, k_seq, k_seqr, e_set, k_set, e_par, k_par, k_par2, e_call, k_args, k_take, k_give, a_nil, a_val, k_val, k_cons, a_var, k_varA, t_nil, t_val, t_var, k_tk, k_tkV, g_nil, g_val, g_var, k_gvV, e_aug, e_var, e_mc, e_ret, k_ret, e_retV, e_pass, e_expr, k_expr, e_ifS, k_ifT, k_ifF, e_if, k_fT, k_fF, e_yes, e_setI, e_asg, k_asg, k_one, e_gname, e_of, k_of, e_not, k_not, e_and, k_andT, k_andF, e_or, k_orT, k_orF, e_gtup, e_gnil, e_gcons, k_gs, e_r1, k_r1, e_r2, k_r2, k_ix, e_sub, e_mod, e_div, e_pow, e_shl, e_cmp, e_lt, e_add, e_addI, e_addL, e_addT, e_mul, e_mulL, e_len1, e_len2, e_len3, e_int, e_intb, e_ixl, e_ixt, e_ixd1, e_ixd2, e_setL, fEq_int, fNe_int, gTup, gLst, flags, D.imm, D.imms, imms_ints, L2.atI, L2.ixN, two64, two62, sizeMax, inG, inC, h0, h1'.1, h1'.2, h2'.1, h2'.2]
def outB : SM := (mSeq (mAsg (mCall gTup [.val (mC (.int 1)), .val (mC (.int 1))]) (mGTup 2 (mGCons (mGName 5) (mGCons (mGName 6) (mGNil)))))
  (mSeq (mFor (mZip (mVar 1) (mVar 2)) inG inB)
  (mIfS (tOf (mCall (gR2 (fEq false)) [.var 5, .var 6])) (mExpr (mMeth .lst gAppend (.var 3) [.var 4])) (mPass))))
theorem asks_out {p : Int} (hp : 0 < p) (hp2 : p < 1073741824) (xs ys : List Int) (hl : xs.length = ys.length) : ∀ (ns acc : List Int) (x4 x5 x6 x7 x8 : Option Sl), acc.length + ns.length ≤ 10000 →
    ∃ x4' x5' x6' x7' x8', loopM (mGName 4) true outB (ns.map .int) [some ⟨.int p, true, false⟩, some ⟨.tup (xs.map .int), true, false⟩, some ⟨.tup (ys.map .int), true, false⟩, some ⟨.lst (acc.map .int), true, false⟩, x4, x5, x6, x7, x8] =
      some (.nx, [some ⟨.int p, true, false⟩, some ⟨.tup (xs.map .int), true, false⟩, some ⟨.tup (ys.map .int), true, false⟩, some ⟨.lst ((acc ++ asL p xs ys ns).map .int), true, false⟩, x4', x5', x6', x7', x8'])
  | [], acc, x4, x5, x6, x7, x8, _ => ⟨x4, x5, x6, x7, x8, by rw [show asL p xs ys [] = [] from rfl, List.append_nil]; rfl⟩
  | n :: ns, acc, x4, x5, x6, x7, x8, hz => by
    have hz' : acc.length + (ns.length + 1) ≤ 10000 := hz
    obtain ⟨x7', x8', h5⟩ := asks_in hp hp2 (some ⟨.tup (xs.map .int), true, false⟩) (some ⟨.tup (ys.map .int), true, false⟩) (some ⟨.lst (acc.map .int), true, false⟩) (n := n) xs ys 1 1 x7 x8 hl (by decide) (by decide)
    have ha : acc.length < 16777216 := by omega
    rw [List.zipWith_map] at h5
    have hb : outB [some ⟨.int p, true, false⟩, some ⟨.tup (xs.map .int), true, false⟩, some ⟨.tup (ys.map .int), true, false⟩, some ⟨.lst (acc.map .int), true, false⟩, some ⟨.int n, true, false⟩, x5, x6, x7, x8] =
      some (.nx, [some ⟨.int p, true, false⟩, some ⟨.tup (xs.map .int), true, false⟩, some ⟨.tup (ys.map .int), true, false⟩, some ⟨.lst ((acc ++ asL p xs ys [n]).map .int), true, false⟩, some ⟨.int n, true, false⟩, some ⟨.int (prd p n 1 xs), true, false⟩, some ⟨.int (prd p n 1 ys), true, false⟩, x7', x8']) := by
      by_cases hc : prd p n 1 xs = prd p n 1 ys
      · simp [e_dnew, e_vals0, e_vals, k_vals, k_vc, e_disp, k_disp, e_dpop, k_dp0, k_dp1, k_dp2, k_dp3, repD_cons, e_get, k_gtS, k_gtN, D.flat, ofs_inj, fEq_str, e_dc, e_c2, k_cg, k_ge, e_lg0, e_lg, k_lg, e_stpD, k_s1, k_s2, k_s2F, k_s3, k_s4, e_stp2, k_t0, k_t1, k_t2, k_t3, key_str, key_int, getK_nil, getK_cons, putD_nil, putD_cons, e_upd, merge_nil, merge_cons, e_inD, e_setD, e_intup, inD_nil, inD_str, saveOk, hideAll, unhide, isTy, List.any_cons, List.any_nil, D.kd, e_for, k_for, e_lp0, k_lp, k_lpn, k_lpr, e_cm, k_cm, k_cmE, k_cl, k_cl2F, k_cl2T, k_cl3, e_rg1, k_rg1, e_itA, k_itL, k_itT, k_itF, e_zip, k_zpL, k_zpT, k_zp2L, k_zp2T, e_sl, e_agN, e_agS, e_chkI, k_chkI, e_slT00, e_slT01, e_slT10, e_slT11, e_slF01, e_listL, e_listT, e_listF, e_tupL, e_tupT, k_pf, e_mt, k_mt, e_app, e_ext, e_pop, k_pop, k_pop2, e_absI, e_augL, k_aug, k_aug2, k_aug3, e_mkF, k_finR, k_finN, e_bagSl, k_bag, k_bag2, startE, finals, e_seq, k_seq, k_seqr, e_set, k_set, e_par, k_par, k_par2, e_call, k_args, k_take, k_give, a_nil, a_val, k_val, k_cons, a_var, k_varA, t_nil, t_val, t_var, k_tk, k_tkV, g_nil, g_val, g_var, k_gvV, e_aug, e_var, e_mc, e_ret, k_ret, e_retV, e_pass, e_expr, k_expr, e_ifS, k_ifT, k_ifF, e_if, k_fT, k_fF, e_yes, e_setI, e_asg, k_asg, k_one, e_gname, e_of, k_of, e_not, k_not, e_and, k_andT, k_andF, e_or, k_orT, k_orF, e_gtup, e_gnil, e_gcons, k_gs, e_r1, k_r1, e_r2, k_r2, k_ix, e_sub, e_mod, e_div, e_pow, e_shl, e_cmp, e_lt, e_add, e_addI, e_addL, e_addT, e_mul, e_mulL, e_len1, e_len2, e_len3, e_int, e_intb, e_ixl, e_ixt, e_ixd1, e_ixd2, e_setL, fEq_int, fNe_int, gTup, gLst, flags, D.imm, D.imms, imms_ints, L2.atI, L2.ixN, two64, two62, sizeMax, outB, h5, hc, asL, ha]
      · simp [e_dnew, e_vals0, e_vals, k_vals, k_vc, e_disp, k_disp, e_dpop, k_dp0, k_dp1, k_dp2, k_dp3, repD_cons, e_get, k_gtS, k_gtN, D.flat, ofs_inj, fEq_str, e_dc, e_c2, k_cg, k_ge, e_lg0, e_lg, k_lg, e_stpD, k_s1, k_s2, k_s2F, k_s3, k_s4, e_stp2, k_t0, k_t1, k_t2, k_t3, key_str, key_int, getK_nil, getK_cons, putD_nil, putD_cons, e_upd, merge_nil, merge_cons, e_inD, e_setD, e_intup, inD_nil, inD_str, saveOk, hideAll, unhide, isTy, List.any_cons, List.any_nil, D.kd, e_for, k_for, e_lp0, k_lp, k_lpn, k_lpr, e_cm, k_cm, k_cmE, k_cl, k_cl2F, k_cl2T, k_cl3, e_rg1, k_rg1, e_itA, k_itL, k_itT, k_itF, e_zip, k_zpL, k_zpT, k_zp2L, k_zp2T, e_sl, e_agN, e_agS, e_chkI, k_chkI, e_slT00, e_slT01, e_slT10, e_slT11, e_slF01, e_listL, e_listT, e_listF, e_tupL, e_tupT, k_pf, e_mt, k_mt, e_app, e_ext, e_pop, k_pop, k_pop2, e_absI, e_augL, k_aug, k_aug2, k_aug3, e_mkF, k_finR, k_finN, e_bagSl, k_bag, k_bag2, startE, finals, e_seq, k_seq, k_seqr, e_set, k_set, e_par, k_par, k_par2, e_call, k_args, k_take, k_give, a_nil, a_val, k_val, k_cons, a_var, k_varA, t_nil, t_val, t_var, k_tk, k_tkV, g_nil, g_val, g_var, k_gvV, e_aug, e_var, e_mc, e_ret, k_ret, e_retV, e_pass, e_expr, k_expr, e_ifS, k_ifT, k_ifF, e_if, k_fT, k_fF, e_yes, e_setI, e_asg, k_asg, k_one, e_gname, e_of, k_of, e_not, k_not, e_and, k_andT, k_andF, e_or, k_orT, k_orF, e_gtup, e_gnil, e_gcons, k_gs, e_r1, k_r1, e_r2, k_r2, k_ix, e_sub, e_mod, e_div, e_pow, e_shl, e_cmp, e_lt, e_add, e_addI, e_addL, e_addT, e_mul, e_mulL, e_len1, e_len2, e_len3, e_int, e_intb, e_ixl, e_ixt, e_ixd1, e_ixd2, e_setL, fEq_int, fNe_int, gTup, gLst, flags, D.imm, D.imms, imms_ints, L2.atI, L2.ixN, two64, two62, sizeMax, outB, h5, hc, asL, ha]
    have hs : asL p xs ys (n :: ns) = asL p xs ys [n] ++ asL p xs ys ns := by
      unfold asL
      rw [← List.filter_append]
      rfl
    obtain ⟨y4, y5, y6, y7, y8, h6⟩ := asks_out hp hp2 xs ys hl ns (acc ++ asL p xs ys [n]) (some ⟨.int n, true, false⟩) (some ⟨.int (prd p n 1 xs), true, false⟩) (some ⟨.int (prd p n 1 ys), true, false⟩) x7' x8' (by
      have : (asL p xs ys [n]).length ≤ 1 := List.length_filter_le _ [n]
      rw [List.length_append]
      omega)
    refine ⟨y4, y5, y6, y7, y8, ?_⟩
    rw [hs, ← List.append_assoc, ← h6, List.map_cons, e_lp]
    show kLp _ _ _ _ (some [_, _, _, _, some ⟨.int n, true, false⟩, x5, x6, x7, x8]) = _
    rw [k_lp, hb, k_lpn]
theorem asks_for_is {p : Int} (hp : 0 < p) (hp2 : p ≤ 3000) (xs ys : List Int) (hl : xs.length = ys.length) : py_asks_for [(.int p, true), (.tup (xs.map .int), true), (.tup (ys.map .int), true)] =
    some (.tup ((asL p xs ys (nums p.toNat)).map .int), true, [some (.int p, true), some (.tup (xs.map .int), true), some (.tup (ys.map .int), true)]) := by
  obtain ⟨y4, y5, y6, y7, y8, h6⟩ := asks_out hp (by omega) xs ys hl (nums p.toNat) [] none none none none none (by unfold nums; rw [List.length_map, List.length_range]; simp; omega)
  have h1 : ¬ 3000 < p := by omega
  have h2 : (-4611686018427387904 : Int) ≤ p := by omega
  have h3 : p < 4611686018427387904 := by omega
  simp only [List.map_nil, List.nil_append] at h6
  have hb : b_asks_for = mSeq (mIfS (tOf (mCall (gR2 (fCmp fun i j => decide (j < i))) [.var 0, .val (mC (.int 3000))])) (mNever) (mPass)) (mSeq (mSet 3 (mCall gLst [])) (mSeq (mFor (mRange1 (mVar 0)) (mGName 4) outB) (mRet (mCall gTuple [.var 3])))) := rfl
  simp [e_dnew, e_vals0, e_vals, k_vals, k_vc, e_disp, k_disp, e_dpop, k_dp0, k_dp1, k_dp2, k_dp3, repD_cons, e_get, k_gtS, k_gtN, D.flat, ofs_inj, fEq_str, e_dc, e_c2, k_cg, k_ge, e_lg0, e_lg, k_lg, e_stpD, k_s1, k_s2, k_s2F, k_s3, k_s4, e_stp2, k_t0, k_t1, k_t2, k_t3, key_str, key_int, getK_nil, getK_cons, putD_nil, putD_cons, e_upd, merge_nil, merge_cons, e_inD, e_setD, e_intup, inD_nil, inD_str, saveOk, hideAll, unhide, isTy, List.any_cons, List.any_nil, D.kd, e_for, k_for, e_lp0, k_lp, k_lpn, k_lpr, e_cm, k_cm, k_cmE, k_cl, k_cl2F, k_cl2T, k_cl3, e_rg1, k_rg1, e_itA, k_itL, k_itT, k_itF, e_zip, k_zpL, k_zpT, k_zp2L, k_zp2T, e_sl, e_agN, e_agS, e_chkI, k_chkI, e_slT00, e_slT01, e_slT10, e_slT11, e_slF01, e_listL, e_listT, e_listF, e_tupL, e_tupT, k_pf, e_mt, k_mt, e_app, e_ext, e_pop, k_pop, k_pop2, e_absI, e_augL, k_aug, k_aug2, k_aug3, e_mkF, k_finR, k_finN, e_bagSl, k_bag, k_bag2, startE, finals, e_seq, k_seq, k_seqr, e_set, k_set, e_par, k_par, k_par2, e_call, k_args, k_take, k_give, a_nil, a_val, k_val, k_cons, a_var, k_varA, t_nil, t_val, t_var, k_tk, k_tkV, g_nil, g_val, g_var, k_gvV, e_aug, e_var, e_mc, e_ret, k_ret, e_retV, e_pass, e_expr, k_expr, e_ifS, k_ifT, k_ifF, e_if, k_fT, k_fF, e_yes, e_setI, e_asg, k_asg, k_one, e_gname, e_of, k_of, e_not, k_not, e_and, k_andT, k_andF, e_or, k_orT, k_orF, e_gtup, e_gnil, e_gcons, k_gs, e_r1, k_r1, e_r2, k_r2, k_ix, e_sub, e_mod, e_div, e_pow, e_shl, e_cmp, e_lt, e_add, e_addI, e_addL, e_addT, e_mul, e_mulL, e_len1, e_len2, e_len3, e_int, e_intb, e_ixl, e_ixt, e_ixd1, e_ixd2, e_setL, fEq_int, fNe_int, gTup, gLst, flags, D.imm, D.imms, imms_ints, L2.atI, L2.ixN, two64, two62, sizeMax, py_asks_for, hb, h1, h2, h3, intsD_nums, h6, partFl]
def outC : SM := (mSeq (mAsg (mCall gTup [.val (mC (.int 1)), .val (mC (.int 1))]) (mGTup 2 (mGCons (mGName 5) (mGCons (mGName 6) (mGNil)))))
  (mSeq (mFor (mZip (mVar 1) (mVar 2)) inG inC)
  (mSet 3 (mCall (gAdd) [.var 3, .val (mCall (gMul) [.val (mCall gLst [.var 4]), .val (mCall gInt [.val (mCall (gR2 (fEq false)) [.var 5, .var 6])])])]))))
theorem asks_out2 {p : Int} (hp : 0 < p) (hp2 : p < 1073741824) (xs ys : List Int) (hl : xs.length = ys.length) : ∀ (ns acc : List Int) (x4 x5 x6 x7 x8 : Option Sl), acc.length + ns.length ≤ 10000 →
    ∃ x4' x5' x6' x7' x8', loopM (mGName 4) true outC (ns.map .int) [some ⟨.int p, true, false⟩, some ⟨.tup (xs.map .int), true, false⟩, some ⟨.tup (ys.map .int), true, false⟩, some ⟨.lst (acc.map .int), true, false⟩, x4, x5, x6, x7, x8] =
      some (.nx, [some ⟨.int p, true, false⟩, some ⟨.tup (xs.map .int), true, false⟩, some ⟨.tup (ys.map .int), true, false⟩, some ⟨.lst ((acc ++ asL p xs ys ns).map .int), true, false⟩, x4', x5', x6', x7', x8'])
  | [], acc, x4, x5, x6, x7, x8, _ => ⟨x4, x5, x6, x7, x8, by rw [show asL p xs ys [] = [] from rfl, List.append_nil]; rfl⟩
  | n :: ns, acc, x4, x5, x6, x7, x8, hz => by
    have hz' : acc.length + (ns.length + 1) ≤ 10000 := hz
    obtain ⟨x7', x8', h5⟩ := asks_in2 hp hp2 (some ⟨.tup (xs.map .int), true, false⟩) (some ⟨.tup (ys.map .int), true, false⟩) (some ⟨.lst (acc.map .int), true, false⟩) (n := n) xs ys 1 1 x7 x8 hl (by decide) (by decide)
    have ha : acc.length < 16777216 := by omega
    have ha1 : acc.length ≤ 16777215 := by omega
    have ha2 : acc.length ≤ 16777216 := by omega
    rw [List.zipWith_map] at h5
    have hb : outC [some ⟨.int p, true, false⟩, some ⟨.tup (xs.map .int), true, false⟩, some ⟨.tup (ys.map .int), true, false⟩, some ⟨.lst (acc.map .int), true, false⟩, some ⟨.int n, true, false⟩, x5, x6, x7, x8] =
      some (.nx, [some ⟨.int p, true, false⟩, some ⟨.tup (xs.map .int), true, false⟩, some ⟨.tup (ys.map .int), true, false⟩, some ⟨.lst ((acc ++ asL p xs ys [n]).map .int), true, false⟩, some ⟨.int n, true, false⟩, some ⟨.int (prd p n 1 xs), true, false⟩, some ⟨.int (prd p n 1 ys), true, false⟩, x7', x8']) := by
      by_cases hc : prd p n 1 xs = prd p n 1 ys
      · simp [e_dnew, e_vals0, e_vals, k_vals, k_vc, e_disp, k_disp, e_dpop, k_dp0, k_dp1, k_dp2, k_dp3, repD_cons, e_get, k_gtS, k_gtN, D.flat, ofs_inj, fEq_str, e_dc, e_c2, k_cg, k_ge, e_lg0, e_lg, k_lg, e_stpD, k_s1, k_s2, k_s2F, k_s3, k_s4, e_stp2, k_t0, k_t1, k_t2, k_t3, key_str, key_int, getK_nil, getK_cons, putD_nil, putD_cons, e_upd, merge_nil, merge_cons, e_inD, e_setD, e_intup, inD_nil, inD_str, saveOk, hideAll, unhide, isTy, List.any_cons, List.any_nil, D.kd, e_for, k_for, e_lp0, k_lp, k_lpn, k_lpr, e_cm, k_cm, k_cmE, k_cl, k_cl2F, k_cl2T, k_cl3, e_rg1, k_rg1, e_itA, k_itL, k_itT, k_itF, e_zip, k_zpL, k_zpT, k_zp2L, k_zp2T, e_sl, e_agN, e_agS, e_chkI, k_chkI, e_slT00, e_slT01, e_slT10, e_slT11, e_slF01, e_listL, e_listT, e_listF, e_tupL, e_tupT, k_pf, e_mt, k_mt, e_app, e_ext, e_pop, k_pop, k_pop2, e_absI, e_augL, k_aug, k_aug2, k_aug3, e_mkF, k_finR, k_finN, e_bagSl, k_bag, k_bag2, startE, finals, e_seq, k_seq, k_seqr, e_set, k_set, e_par, k_par, k_par2, e_call, k_args, k_take, k_give, a_nil, a_val, k_val, k_cons, a_var, k_varA, t_nil, t_val, t_var, k_tk, k_tkV, g_nil, g_val, g_var, k_gvV, e_aug, e_var, e_mc, e_ret, k_ret, e_retV, e_pass, e_expr, k_expr, e_ifS, k_ifT, k_ifF, e_if, k_fT, k_fF, e_yes, e_setI, e_asg, k_asg, k_one, e_gname, e_of, k_of, e_not, k_not, e_and, k_andT, k_andF, e_or, k_orT, k_orF, e_gtup, e_gnil, e_gcons, k_gs, e_r1, k_r1, e_r2, k_r2, k_ix, e_sub, e_mod, e_div, e_pow, e_shl, e_cmp, e_lt, e_add, e_addI, e_addL, e_addT, e_mul, e_mulL, e_len1, e_len2, e_len3, e_int, e_intb, e_ixl, e_ixt, e_ixd1, e_ixd2, e_setL, fEq_int, fNe_int, gTup, gLst, flags, D.imm, D.imms, imms_ints, L2.atI, L2.ixN, two64, two62, sizeMax, outC, h5, hc, asL, ha, ha1, ha2]
      · simp [e_dnew, e_vals0, e_vals, k_vals, k_vc, e_disp, k_disp, e_dpop, k_dp0, k_dp1, k_dp2, k_dp3, repD_cons, e_get, k_gtS, k_gtN, D.flat, ofs_inj, fEq_str, e_dc, e_c2, k_cg, k_ge, e_lg0, e_lg, k_lg, e_stpD, k_s1, k_s2, k_s2F, k_s3, k_s4, e_stp2, k_t0, k_t1, k_t2, k_t3, key_str, key_int, getK_nil, getK_cons, putD_nil, putD_cons, e_upd, merge_nil, merge_cons, e_inD, e_setD, e_intup, inD_nil, inD_str, saveOk, hideAll, unhide, isTy, List.any_cons, List.any_nil, D.kd, e_for, k_for, e_lp0, k_lp, k_lpn, k_lpr, e_cm, k_cm, k_cmE, k_cl, k_cl2F, k_cl2T, k_cl3, e_rg1, k_rg1, e_itA, k_itL, k_itT, k_itF, e_zip, k_zpL, k_zpT, k_zp2L, k_zp2T, e_sl, e_agN, e_agS, e_chkI, k_chkI, e_slT00, e_slT01, e_slT10, e_slT11, e_slF01, e_listL, e_listT, e_listF, e_tupL, e_tupT, k_pf, e_mt, k_mt, e_app, e_ext, e_pop, k_pop, k_pop2, e_absI, e_augL, k_aug, k_aug2, k_aug3, e_mkF, k_finR, k_finN, e_bagSl, k_bag, k_bag2, startE, finals, e_seq, k_seq, k_seqr, e_set, k_set, e_par, k_par, k_par2, e_call, k_args, k_take, k_give, a_nil, a_val, k_val, k_cons, a_var, k_varA, t_nil, t_val, t_var, k_tk, k_tkV, g_nil, g_val, g_var, k_gvV, e_aug, e_var, e_mc, e_ret, k_ret, e_retV, e_pass, e_expr, k_expr, e_ifS, k_ifT, k_ifF, e_if, k_fT, k_fF, e_yes, e_setI, e_asg, k_asg, k_one, e_gname, e_of, k_of, e_not, k_not, e_and, k_andT, k_andF, e_or, k_orT, k_orF, e_gtup, e_gnil, e_gcons, k_gs, e_r1, k_r1, e_r2, k_r2, k_ix, e_sub, e_mod, e_div, e_pow, e_shl, e_cmp, e_lt, e_add, e_addI, e_addL, e_addT, e_mul, e_mulL, e_len1, e_len2, e_len3, e_int, e_intb, e_ixl, e_ixt, e_ixd1, e_ixd2, e_setL, fEq_int, fNe_int, gTup, gLst, flags, D.imm, D.imms, imms_ints, L2.atI, L2.ixN, two64, two62, sizeMax, outC, h5, hc, asL, ha, ha1, ha2]
    have hs : asL p xs ys (n :: ns) = asL p xs ys [n] ++ asL p xs ys ns := by
      unfold asL
      rw [← List.filter_append]
      rfl
    obtain ⟨y4, y5, y6, y7, y8, h6⟩ := asks_out2 hp hp2 xs ys hl ns (acc ++ asL p xs ys [n]) (some ⟨.int n, true, false⟩) (some ⟨.int (prd p n 1 xs), true, false⟩) (some ⟨.int (prd p n 1 ys), true, false⟩) x7' x8' (by
      have : (asL p xs ys [n]).length ≤ 1 := List.length_filter_le _ [n]
      rw [List.length_append]
      omega)
    refine ⟨y4, y5, y6, y7, y8, ?_⟩
    rw [hs, ← List.append_assoc, ← h6, List.map_cons, e_lp]
    show kLp _ _ _ _ (some [_, _, _, _, some ⟨.int n, true, false⟩, x5, x6, x7, x8]) = _
    rw [k_lp, hb, k_lpn]
theorem same_asks_is {p : Int} (hp : 0 < p) (hp2 : p ≤ 3000) (xs ys : List Int) (hl : xs.length = ys.length) : py__law_same_asks [(.int p, true), (.tup (xs.map .int), true), (.tup (ys.map .int), true)] =
    some (.lst ((asL p xs ys (nums p.toNat)).map .int), true, [some (.int p, true), some (.tup (xs.map .int), true), some (.tup (ys.map .int), true)]) := by
  obtain ⟨y4, y5, y6, y7, y8, h6⟩ := asks_out2 hp (by omega) xs ys hl (nums p.toNat) [] none none none none none (by unfold nums; rw [List.length_map, List.length_range]; simp; omega)
  have h2 : (-4611686018427387904 : Int) ≤ p := by omega
  have h3 : p < 4611686018427387904 := by omega
  simp only [List.map_nil, List.nil_append] at h6
  have hb : b__law_same_asks = mSeq (mSet 3 (mCall gLst [])) (mSeq (mFor (mRange1 (mVar 0)) (mGName 4) outC) (mRetV 3)) := rfl
  simp [e_dnew, e_vals0, e_vals, k_vals, k_vc, e_disp, k_disp, e_dpop, k_dp0, k_dp1, k_dp2, k_dp3, repD_cons, e_get, k_gtS, k_gtN, D.flat, ofs_inj, fEq_str, e_dc, e_c2, k_cg, k_ge, e_lg0, e_lg, k_lg, e_stpD, k_s1, k_s2, k_s2F, k_s3, k_s4, e_stp2, k_t0, k_t1, k_t2, k_t3, key_str, key_int, getK_nil, getK_cons, putD_nil, putD_cons, e_upd, merge_nil, merge_cons, e_inD, e_setD, e_intup, inD_nil, inD_str, saveOk, hideAll, unhide, isTy, List.any_cons, List.any_nil, D.kd, e_for, k_for, e_lp0, k_lp, k_lpn, k_lpr, e_cm, k_cm, k_cmE, k_cl, k_cl2F, k_cl2T, k_cl3, e_rg1, k_rg1, e_itA, k_itL, k_itT, k_itF, e_zip, k_zpL, k_zpT, k_zp2L, k_zp2T, e_sl, e_agN, e_agS, e_chkI, k_chkI, e_slT00, e_slT01, e_slT10, e_slT11, e_slF01, e_listL, e_listT, e_listF, e_tupL, e_tupT, k_pf, e_mt, k_mt, e_app, e_ext, e_pop, k_pop, k_pop2, e_absI, e_augL, k_aug, k_aug2, k_aug3, e_mkF, k_finR, k_finN, e_bagSl, k_bag, k_bag2, startE, finals, e_seq, k_seq, k_seqr, e_set, k_set, e_par, k_par, k_par2, e_call, k_args, k_take, k_give, a_nil, a_val, k_val, k_cons, a_var, k_varA, t_nil, t_val, t_var, k_tk, k_tkV, g_nil, g_val, g_var, k_gvV, e_aug, e_var, e_mc, e_ret, k_ret, e_retV, e_pass, e_expr, k_expr, e_ifS, k_ifT, k_ifF, e_if, k_fT, k_fF, e_yes, e_setI, e_asg, k_asg, k_one, e_gname, e_of, k_of, e_not, k_not, e_and, k_andT, k_andF, e_or, k_orT, k_orF, e_gtup, e_gnil, e_gcons, k_gs, e_r1, k_r1, e_r2, k_r2, k_ix, e_sub, e_mod, e_div, e_pow, e_shl, e_cmp, e_lt, e_add, e_addI, e_addL, e_addT, e_mul, e_mulL, e_len1, e_len2, e_len3, e_int, e_intb, e_ixl, e_ixt, e_ixd1, e_ixd2, e_setL, fEq_int, fNe_int, gTup, gLst, flags, D.imm, D.imms, imms_ints, L2.atI, L2.ixN, two64, two62, sizeMax, py__law_same_asks, hb, h2, h3, intsD_nums, h6]
theorem reordered_is (xs ys : List Int) : py_are_reordered [(.tup (xs.map .int), true), (.tup (ys.map .int), true)] = some (.bl (decide (srtI xs = srtI ys)), true, [some (.tup (xs.map .int), true), some (.tup (ys.map .int), true)]) := by
  simp [e_dnew, e_vals0, e_vals, k_vals, k_vc, e_disp, k_disp, e_dpop, k_dp0, k_dp1, k_dp2, k_dp3, repD_cons, e_get, k_gtS, k_gtN, D.flat, ofs_inj, fEq_str, e_dc, e_c2, k_cg, k_ge, e_lg0, e_lg, k_lg, e_stpD, k_s1, k_s2, k_s2F, k_s3, k_s4, e_stp2, k_t0, k_t1, k_t2, k_t3, key_str, key_int, getK_nil, getK_cons, putD_nil, putD_cons, e_upd, merge_nil, merge_cons, e_inD, e_setD, e_intup, inD_nil, inD_str, saveOk, hideAll, unhide, isTy, List.any_cons, List.any_nil, D.kd, e_for, k_for, e_lp0, k_lp, k_lpn, k_lpr, e_cm, k_cm, k_cmE, k_cl, k_cl2F, k_cl2T, k_cl3, e_rg1, k_rg1, e_itA, k_itL, k_itT, k_itF, e_zip, k_zpL, k_zpT, k_zp2L, k_zp2T, e_sl, e_agN, e_agS, e_chkI, k_chkI, e_slT00, e_slT01, e_slT10, e_slT11, e_slF01, e_listL, e_listT, e_listF, e_tupL, e_tupT, k_pf, e_mt, k_mt, e_app, e_ext, e_pop, k_pop, k_pop2, e_absI, e_augL, k_aug, k_aug2, k_aug3, e_mkF, k_finR, k_finN, e_bagSl, k_bag, k_bag2, startE, finals, e_seq, k_seq, k_seqr, e_set, k_set, e_par, k_par, k_par2, e_call, k_args, k_take, k_give, a_nil, a_val, k_val, k_cons, a_var, k_varA, t_nil, t_val, t_var, k_tk, k_tkV, g_nil, g_val, g_var, k_gvV, e_aug, e_var, e_mc, e_ret, k_ret, e_retV, e_pass, e_expr, k_expr, e_ifS, k_ifT, k_ifF, e_if, k_fT, k_fF, e_yes, e_setI, e_asg, k_asg, k_one, e_gname, e_of, k_of, e_not, k_not, e_and, k_andT, k_andF, e_or, k_orT, k_orF, e_gtup, e_gnil, e_gcons, k_gs, e_r1, k_r1, e_r2, k_r2, k_ix, e_sub, e_mod, e_div, e_pow, e_shl, e_cmp, e_lt, e_add, e_addI, e_addL, e_addT, e_mul, e_mulL, e_len1, e_len2, e_len3, e_int, e_intb, e_ixl, e_ixt, e_ixd1, e_ixd2, e_setL, fEq_int, fNe_int, gTup, gLst, flags, D.imm, D.imms, imms_ints, L2.atI, L2.ixN, two64, two62, sizeMax, py_are_reordered, b_are_reordered, gSorted, intsOf_map, fEq_lints]
end LF
namespace LF
/-- a product of differences -/
def pr (n : Int) : List Int → Int
  | [] => 1
  | x :: xs => (n - x) * pr n xs
/-- a polynomial's value -/
def pv (n : Int) : List Int → Int
  | [] => 0
  | a :: c => a + n * pv n c
theorem prd_mod {p n : Int} (hp : 0 < p) : ∀ (xs : List Int) (m : Int), 0 ≤ m → m < p → prd p n m xs = (m * pr n xs) % p
  | [], m, h, h2 => by
    show m = (m * 1) % p
    rw [Int.mul_one, Int.emod_eq_of_lt h h2]
  | x :: xs, m, h, h2 => by
    show prd p n ((m * (n - x)).fmod p) xs = (m * ((n - x) * pr n xs)) % p
    have h3 : (m * (n - x)).fmod p = (m * (n - x)) % p := Int.fmod_eq_emod_of_nonneg _ (by omega)
    rw [h3, prd_mod hp xs _ (Int.emod_nonneg _ (by omega)) (Int.emod_lt_of_pos _ hp), ← Int.mul_assoc, Int.mul_emod, Int.emod_emod, ← Int.mul_emod]
theorem pv_add : ∀ (c d : List Int), c.length = d.length → ∃ e : List Int, e.length = c.length ∧ ∀ n, pv n e = pv n c + pv n d
  | [], [], _ => ⟨[], rfl, fun _ => rfl⟩
  | [], _ :: _, h => nomatch h
  | _ :: _, [], h => nomatch h
  | a :: c, b :: d, h => by
    obtain ⟨e, h1, h2⟩ := pv_add c d (Nat.succ.inj h)
    refine ⟨(a + b) :: e, by rw [List.length_cons, List.length_cons, h1], fun n => ?_⟩
    show a + b + n * pv n e = a + n * pv n c + (b + n * pv n d)
    rw [h2, Int.mul_add]
    omega
theorem pv_scale (k : Int) : ∀ (c : List Int), ∃ e : List Int, e.length = c.length ∧ ∀ n, pv n e = k * pv n c
  | [] => ⟨[], rfl, fun _ => by show (0 : Int) = k * 0; omega⟩
  | a :: c => by
    obtain ⟨e, h1, h2⟩ := pv_scale k c
    refine ⟨(k * a) :: e, by rw [List.length_cons, List.length_cons, h1], fun n => ?_⟩
    show k * a + n * pv n e = k * (a + n * pv n c)
    rw [h2, Int.mul_add, Int.mul_left_comm]
theorem pv_mulx (x : Int) : ∀ (c : List Int), ∃ e : List Int, e.length = c.length + 1 ∧ ∀ n, pv n e = (n - x) * pv n c
  | [] => ⟨[0], rfl, fun n => by show 0 + n * 0 = (n - x) * 0; omega⟩
  | a :: c => by
    obtain ⟨e, h1, h2⟩ := pv_mulx x c
    cases e with
    | nil => cases h1
    | cons h t =>
      refine ⟨(-(x * a)) :: (h + a) :: t, by simpa using h1, fun n => ?_⟩
      have h3 := h2 n
      change h + n * pv n t = (n - x) * pv n c at h3
      show -(x * a) + n * (h + a + n * pv n t) = (n - x) * (a + n * pv n c)
      have h4 : h + a + n * pv n t = (n - x) * pv n c + a := by omega
      rw [h4, Int.mul_add, Int.mul_add, Int.sub_mul n x a, Int.mul_left_comm]
      omega
theorem pr_pv : ∀ xs : List Int, ∃ c : List Int, c.length = xs.length + 1 ∧ ∀ n, pv n c = pr n xs
  | [] => ⟨[1], rfl, fun n => by show 1 + n * 0 = 1; omega⟩
  | x :: xs => by
    obtain ⟨c, h1, h2⟩ := pr_pv xs
    obtain ⟨e, h3, h4⟩ := pv_mulx x c
    exact ⟨e, by rw [h3, h1]; rfl, fun n => by rw [h4, h2]; rfl⟩
theorem pr_diff : ∀ xs ys : List Int, xs.length = ys.length → ∃ c : List Int, c.length = xs.length ∧ ∀ n, pv n c = pr n xs - pr n ys
  | [], [], _ => ⟨[], rfl, fun n => by show (0 : Int) = 1 - 1; omega⟩
  | [], _ :: _, h => nomatch h
  | _ :: _, [], h => nomatch h
  | x :: xs, y :: ys, h => by
    obtain ⟨c, h1, h2⟩ := pr_diff xs ys (Nat.succ.inj h)
    obtain ⟨e, h3, h4⟩ := pv_mulx x c
    obtain ⟨b, h5, h6⟩ := pr_pv ys
    obtain ⟨s, h7, h8⟩ := pv_scale (y - x) b
    have hl : xs.length = ys.length := Nat.succ.inj h
    obtain ⟨d, h9, h10⟩ := pv_add e s (by omega)
    refine ⟨d, by rw [h9, h3, h1]; rfl, fun n => ?_⟩
    show pv n d = (n - x) * pr n xs - (n - y) * pr n ys
    rw [h10, h4, h2, h8, h6, Int.mul_sub, Int.sub_mul n y, Int.sub_mul n x (pr n ys), Int.sub_mul y x]
    omega
theorem pv_div (r : Int) : ∀ c : List Int, ∃ q : List Int, q.length = c.length - 1 ∧ ∀ n, pv n c = (n - r) * pv n q + pv r c
  | [] => ⟨[], rfl, fun n => by show (0 : Int) = (n - r) * 0 + 0; omega⟩
  | [a] => ⟨[], rfl, fun n => by show a + n * 0 = (n - r) * 0 + (a + r * 0); omega⟩
  | a :: b :: c => by
    obtain ⟨q, h1, h2⟩ := pv_div r (b :: c)
    refine ⟨pv r (b :: c) :: q, by rw [List.length_cons, h1]; rfl, fun n => ?_⟩
    show a + n * pv n (b :: c) = (n - r) * (pv r (b :: c) + n * pv n q) + (a + r * pv r (b :: c))
    rw [h2 n, Int.mul_add, Int.mul_add, Int.mul_left_comm, Int.sub_mul n r (pv r (b :: c))]
    omega
/-- p divides one of the two where it divides the product -/
def Prm (p : Int) : Prop := ∀ x y : Int, p ∣ x * y → p ∣ x ∨ p ∣ y
theorem small_dvd {p d : Int} (h : p ∣ d) (h1 : -p < d) (h2 : d < p) : d = 0 := by
  rcases Int.lt_trichotomy d 0 with z | z | z
  · have := Int.le_of_dvd (by omega) (Int.dvd_neg.mpr h)
    omega
  · exact z
  · have := Int.le_of_dvd z h
    omega
theorem few_roots {p : Int} (hP : Prm p) : ∀ (k : Nat) (c rs : List Int), c.length = k → k ≤ rs.length → rs.Nodup → (∀ r ∈ rs, 0 ≤ r ∧ r < p ∧ p ∣ pv r c) → ∀ n, p ∣ pv n c
  | 0, c, rs, hc, _, _, _, n => by
    have : c = [] := List.length_eq_zero_iff.mp hc
    subst this
    exact Int.dvd_zero p
  | k + 1, c, [], hc, hk, _, _, n => absurd hk (by simp)
  | k + 1, c, r :: rs, hc, hk, hn, hr, n => by
    obtain ⟨q, h1, h2⟩ := pv_div r c
    have hn' := List.nodup_cons.mp hn
    have h0 := hr r List.mem_cons_self
    have hq : ∀ m, p ∣ pv m q := few_roots hP k q rs (by omega) (by simpa using hk) hn'.2 (fun s hs => by
      have h3 := hr s (List.mem_cons_of_mem _ hs)
      refine ⟨h3.1, h3.2.1, ?_⟩
      have h4 := h3.2.2
      rw [h2 s] at h4
      have h5 : p ∣ (s - r) * pv s q := (Int.dvd_iff_dvd_of_dvd_add h4).mpr h0.2.2
      rcases hP _ _ h5 with z | z
      · have := small_dvd z (by omega) (by omega)
        have e : s = r := by omega
        exact absurd (e ▸ hs) hn'.1
      · exact z)
    rw [h2 n]
    exact Int.dvd_add (Int.dvd_mul_of_dvd_right (hq n)) h0.2.2
theorem pr_perm {n : Int} {xs ys : List Int} (h : xs.Perm ys) : pr n xs = pr n ys := by
  induction h with
  | nil => rfl
  | cons x _ ih => show (n - x) * _ = (n - x) * _; rw [ih]
  | swap x y l => show (n - y) * ((n - x) * _) = (n - x) * ((n - y) * _); rw [Int.mul_left_comm]
  | trans _ _ h1 h2 => rw [h1, h2]
theorem pr_root {p n : Int} (hP : Prm p) (h1 : ¬ p ∣ 1) : ∀ ys : List Int, p ∣ pr n ys → ∃ y ∈ ys, p ∣ n - y
  | [], h => absurd h h1
  | y :: ys, h => by
    rcases hP _ _ h with z | z
    · exact ⟨y, List.mem_cons_self, z⟩
    · obtain ⟨w, hw, hz⟩ := pr_root hP h1 ys z
      exact ⟨w, List.mem_cons_of_mem _ hw, hz⟩
theorem nums_mem {n : Nat} {i : Int} : i ∈ nums n ↔ 0 ≤ i ∧ i < n := by
  unfold nums
  rw [List.mem_map]
  constructor
  · rintro ⟨a, ha, rfl⟩
    have := List.mem_range.mp ha
    omega
  · rintro ⟨h1, h2⟩
    exact ⟨i.toNat, List.mem_range.mpr (by omega), by omega⟩
theorem nums_nodup (n : Nat) : (nums n).Nodup := by
  unfold nums
  refine List.Pairwise.map _ ?_ (List.nodup_range (n := n))
  intro a b h z
  omega
theorem nums_len (n : Nat) : (nums n).length = n := by
  unfold nums
  rw [List.length_map, List.length_range]
theorem perm_all {p : Nat} (hP : Prm p) (hp : 1 < p) : ∀ (k : Nat) (xs ys : List Int), xs.length = k → ys.length = k → k ≤ p → (∀ x ∈ xs, 0 ≤ x ∧ x < p) → (∀ y ∈ ys, 0 ≤ y ∧ y < p) → (∀ n, (p : Int) ∣ pr n xs - pr n ys) → xs.Perm ys
  | 0, xs, ys, h1, h2, _, _, _, _ => by
    rw [List.length_eq_zero_iff.mp h1, List.length_eq_zero_iff.mp h2]
  | k + 1, [], ys, h1, _, _, _, _, _ => nomatch h1
  | k + 1, x :: xs, ys, h1, h2, hk, hx, hy, h => by
    have hx0 := hx x List.mem_cons_self
    have n1 : ¬ (p : Int) ∣ 1 := fun z => by have := Int.le_of_dvd (by decide) z; omega
    have h3 : (p : Int) ∣ pr x ys := by
      have := h x
      rw [show pr x (x :: xs) = 0 by show (x - x) * _ = 0; rw [Int.sub_self, Int.zero_mul]] at this
      have h4 := Int.dvd_neg.mpr this
      rwa [show -(0 - pr x ys) = pr x ys by omega] at h4
    obtain ⟨y, hy1, hy2⟩ := pr_root hP n1 ys h3
    have hy0 := hy y hy1
    have e : x = y := by have := small_dvd hy2 (by omega) (by omega); omega
    subst e
    have hp1 := List.perm_cons_erase hy1
    have hl : (ys.erase x).length = k := by rw [List.length_erase_of_mem hy1]; omega
    refine List.Perm.trans (List.Perm.cons x ?_) hp1.symm
    have hz : ∀ n, n ≠ x → 0 ≤ n → n < p → (p : Int) ∣ pr n xs - pr n (ys.erase x) := by
      intro n hne g1 g2
      have h5 := h n
      rw [pr_perm hp1] at h5
      change (p : Int) ∣ (n - x) * pr n xs - (n - x) * pr n (ys.erase x) at h5
      rw [← Int.mul_sub] at h5
      rcases hP _ _ h5 with z | z
      · have := small_dvd z (by omega) (by omega)
        omega
      · exact z
    obtain ⟨c, c1, c2⟩ := pr_diff xs (ys.erase x) (by rw [hl]; exact Nat.succ.inj h1)
    have hall := few_roots hP k c ((nums p).erase x) (by rw [c1]; exact Nat.succ.inj h1) (by rw [List.length_erase_of_mem (nums_mem.mpr hx0), nums_len]; omega) ((nums_nodup p).erase x) (fun r hr => by
      have h6 := (List.Nodup.mem_erase_iff (nums_nodup p)).mp hr
      have h7 := nums_mem.mp h6.2
      exact ⟨h7.1, h7.2, by rw [c2]; exact hz r h6.1 h7.1 h7.2⟩)
    exact perm_all hP hp k xs (ys.erase x) (Nat.succ.inj h1) hl (by omega) (fun z hz => hx z (List.mem_cons_of_mem _ hz)) (fun z hz => hy z (List.mem_of_mem_erase hz)) (fun n => by rw [← c2]; exact hall n)
theorem prm_of {p : Nat} (hp : 0 < p) (h : ∀ x < p, ∀ y < p, (x * y) % p = 0 → x = 0 ∨ y = 0) : Prm p := by
  intro x y hd
  have e1 : ∀ z : Int, (p : Int) ∣ z ↔ (z % p).toNat = 0 := by
    intro z
    have := Int.emod_nonneg z (b := (p : Int)) (by omega)
    rw [Int.dvd_iff_emod_eq_zero]
    omega
  have hx := Int.emod_nonneg x (b := (p : Int)) (by omega)
  have hy := Int.emod_nonneg y (b := (p : Int)) (by omega)
  have hx2 := Int.emod_lt_of_pos x (b := (p : Int)) (by omega)
  have hy2 := Int.emod_lt_of_pos y (b := (p : Int)) (by omega)
  rw [e1, e1]
  refine h _ (by omega) _ (by omega) ?_
  have h2 := Int.emod_eq_zero_of_dvd hd
  rw [Int.mul_emod] at h2
  have h3 : (((x % p).toNat * (y % p).toNat : Nat) : Int) % p = 0 := by
    rw [Int.natCast_mul, Int.toNat_of_nonneg hx, Int.toNat_of_nonneg hy]
    exact h2
  exact_mod_cast h3
theorem prm5 : Prm (5 : Nat) := prm_of (by decide) (by decide)
theorem prm7 : Prm (7 : Nat) := prm_of (by decide) (by decide)
theorem prm11 : Prm (11 : Nat) := prm_of (by decide) (by decide)
theorem prm31 : Prm (31 : Nat) := prm_of (by decide) (by decide +kernel)
end LF
namespace LF
open PySem
theorem dvd_sub_of_emod {p a b : Int} (h : a % p = b % p) : p ∣ a - b := by
  rw [Int.dvd_iff_emod_eq_zero]
  exact Int.emod_eq_emod_iff_emod_sub_eq_zero.mp h
theorem srt_perm {xs ys : List Int} : srtI xs = srtI ys ↔ xs.Perm ys := by
  constructor
  · intro h
    exact (srtI_perm xs).symm.trans (h ▸ srtI_perm ys)
  · intro h
    exact srtI_uniq ((srtI_perm xs).trans h) (srtI_sorted xs)
theorem as_all {p : Nat} (hp : 1 < p) {xs ys : List Int} (h : xs.Perm ys) : asL p xs ys (nums p) = nums p := by
  unfold asL
  rw [List.filter_eq_self]
  intro n _
  rw [prd_mod (by omega) xs 1 (by omega) (by omega), prd_mod (by omega) ys 1 (by omega) (by omega), pr_perm h]
  exact decide_eq_true rfl
theorem as_perm {p : Nat} (hP : Prm p) (hp : 1 < p) {xs ys : List Int} (hl : xs.length = ys.length) (hk : xs.length ≤ p) (hx : ∀ x ∈ xs, 0 ≤ x ∧ x < p) (hy : ∀ y ∈ ys, 0 ≤ y ∧ y < p) (h : xs.length ≤ (asL p xs ys (nums p)).length) : xs.Perm ys := by
  obtain ⟨c, c1, c2⟩ := pr_diff xs ys hl
  have hall := few_roots hP xs.length c (asL p xs ys (nums p)) c1 h ((nums_nodup p).sublist List.filter_sublist) (fun r hr => by
    obtain ⟨h1, h2⟩ := List.mem_filter.mp hr
    have h3 := nums_mem.mp h1
    refine ⟨h3.1, h3.2, ?_⟩
    have h4 := of_decide_eq_true h2
    rw [prd_mod (by omega) xs 1 (by omega) (by omega), prd_mod (by omega) ys 1 (by omega) (by omega), Int.one_mul, Int.one_mul] at h4
    rw [c2]
    exact dvd_sub_of_emod h4)
  exact perm_all hP hp xs.length xs ys rfl hl.symm hk hx hy (fun n => by rw [← c2]; exact hall n)
/-- same, and all asked; or not, and few -/
theorem as_law {p : Nat} (hP : Prm p) (hp : 1 < p) {xs ys : List Int} (hl : xs.length = ys.length) (hk : xs.length ≤ p) (hx : ∀ x ∈ xs, 0 ≤ x ∧ x < p) (hy : ∀ y ∈ ys, 0 ≤ y ∧ y < p) :
    (srtI xs = srtI ys ∧ (asL p xs ys (nums p)).length = p) ∨ (srtI xs ≠ srtI ys ∧ (asL p xs ys (nums p)).length < xs.length) := by
  by_cases h : srtI xs = srtI ys
  · exact .inl ⟨h, by rw [as_all hp (srt_perm.mp h), nums_len]⟩
  · refine .inr ⟨h, ?_⟩
    rcases Nat.lt_or_ge (asL p xs ys (nums p)).length xs.length with z | z
    · exact z
    · exact absurd (srt_perm.mpr (as_perm hP hp hl hk hx hy z)) h
/-- the last test of the program is the test of the asks -/
theorem fm {a p : Int} (hp : 0 < p) : a.fmod p = a % p := Int.fmod_eq_emod_of_nonneg _ (by omega)
theorem test_eq {p A B X Y : Int} (hp : 0 < p) (hA : A = X % p) (hB : B = Y % p) : decide ((A - B).fmod p = 0) = decide (X % p = Y % p) := by
  subst hA hB
  rw [fm hp]
  have h := Int.emod_emod_of_dvd X (Int.dvd_refl p)
  have h2 := Int.emod_emod_of_dvd Y (Int.dvd_refl p)
  by_cases h3 : X % p = Y % p
  · rw [decide_eq_true h3, h3, Int.sub_self, Int.zero_emod]
    rfl
  · rw [decide_eq_false h3]
    refine decide_eq_false fun z => h3 ?_
    have := Int.emod_eq_emod_iff_emod_sub_eq_zero.mpr z
    rwa [h, h2] at this
end LF
namespace LF
open PySem
/-- a part of a program -/
def pt (n : String) (f : List D) : D := .tup [.str n, .tup f]
def w2 (w a b : String) : List D := [.str w, .str a, .str b]
def w1 (w a : String) : List D := [.str w, .str a]
def headP (b : Int) (order : List Int) : List D := [pt "a" [.str "told", .int b], pt "b" [.str "told", .int b], pt "g" [.str "ask"], pt "j" (w2 "join" "a" "b"), pt "t" [.str "turn", .str "j", .tup (order.map .int)], pt "h" [.str "spread", .str "g", .int (b + 1)], pt "u" (w2 "sub" "h" "t")]
def lastP (h : String) : List D := [pt "va" (w1 "low" h), pt "vb" (w1 "high" h), pt "d" (w2 "sub" "va" "vb")]
def partsP : Nat → List D
  | 0 => headP 0 [0] ++ lastP "u"
  | 1 => headP 1 [1, 0] ++ [pt "la" (w1 "low" "u"), pt "ha" (w1 "high" "u"), pt "ma" (w2 "mul" "la" "ha")] ++ lastP "ma"
  | _ => headP 2 [2, 0, 1] ++ [pt "la" (w1 "low" "u"), pt "ha" (w1 "high" "u"), pt "ma" (w2 "mul" "la" "ha"), pt "lb" (w1 "low" "ma"), pt "hb" (w1 "high" "ma"), pt "mb" (w2 "mul" "lb" "hb")] ++ lastP "mb"
def progP (p : Int) (k : Nat) : D := .tup [.int p, .tup (partsP k), .tup [], .tup [.str "d"]]
theorem turned1 (a b : D) (h : (a.imm && b.imm) = true) : True := trivial
theorem law_re0 (p : Int) : (py__law_reordered [(.int p, true), (.int 0, true), (.tup [pt "a" [.str "told", .int 0], pt "b" [.str "told", .int 0], pt "g" [.str "ask"], pt "j" (w2 "join" "a" "b")], true)]).map (fun r => (r.1, r.2.1)) = some (progP p 0, true) := by kernel_rfl
theorem law_re1 (p : Int) : (py__law_reordered [(.int p, true), (.int 1, true), (.tup [pt "a" [.str "told", .int 1], pt "b" [.str "told", .int 1], pt "g" [.str "ask"], pt "j" (w2 "join" "a" "b")], true)]).map (fun r => (r.1, r.2.1)) = some (progP p 1, true) := by kernel_rfl
theorem law_re2 (p : Int) : (py__law_reordered [(.int p, true), (.int 2, true), (.tup [pt "a" [.str "told", .int 2], pt "b" [.str "told", .int 2], pt "g" [.str "ask"], pt "j" (w2 "join" "a" "b")], true)]).map (fun r => (r.1, r.2.1)) = some (progP p 2, true) := by kernel_rfl
section
variable (p : Int) (b c : Bool)
theorem P_imm0 : (progP p 0).imm = true := by kernel_rfl
theorem P_00 : gIx [(progP p 0, b), (.int 0, c)] = some (.int p, true, [some (progP p 0, b), some (.int 0, c)]) := rfl
theorem P_01 : gIx [(progP p 0, b), (.int 1, c)] = some (.tup (partsP 0), true, [some (progP p 0, b), some (.int 1, c)]) := by kernel_rfl
theorem P_02 : gIx [(progP p 0, b), (.int 2, c)] = some (.tup [], true, [some (progP p 0, b), some (.int 2, c)]) := rfl
theorem P_03 : gIx [(progP p 0, b), (.int 3, c)] = some (.tup [.str "d"], true, [some (progP p 0, b), some (.int 3, c)]) := rfl
theorem N_0t : py_named [(progP p 0, true), (.str "told", true)] = some (.tup [.str "a", .str "b"], true, [some (progP p 0, true), some (.str "told", true)]) := by kernel_rfl
theorem N_0s : py_named [(progP p 0, true), (.str "sealed", true)] = some (.tup [], true, [some (progP p 0, true), some (.str "sealed", true)]) := by kernel_rfl
theorem N_0a : py_named [(progP p 0, true), (.str "ask", true)] = some (.tup [.str "g"], true, [some (progP p 0, true), some (.str "ask", true)]) := by kernel_rfl
end
section
variable (p : Int) (b c : Bool)
theorem P_imm1 : (progP p 1).imm = true := by kernel_rfl
theorem P_10 : gIx [(progP p 1, b), (.int 0, c)] = some (.int p, true, [some (progP p 1, b), some (.int 0, c)]) := rfl
theorem P_11 : gIx [(progP p 1, b), (.int 1, c)] = some (.tup (partsP 1), true, [some (progP p 1, b), some (.int 1, c)]) := by kernel_rfl
theorem P_12 : gIx [(progP p 1, b), (.int 2, c)] = some (.tup [], true, [some (progP p 1, b), some (.int 2, c)]) := rfl
theorem P_13 : gIx [(progP p 1, b), (.int 3, c)] = some (.tup [.str "d"], true, [some (progP p 1, b), some (.int 3, c)]) := rfl
theorem N_1t : py_named [(progP p 1, true), (.str "told", true)] = some (.tup [.str "a", .str "b"], true, [some (progP p 1, true), some (.str "told", true)]) := by kernel_rfl
theorem N_1s : py_named [(progP p 1, true), (.str "sealed", true)] = some (.tup [], true, [some (progP p 1, true), some (.str "sealed", true)]) := by kernel_rfl
theorem N_1a : py_named [(progP p 1, true), (.str "ask", true)] = some (.tup [.str "g"], true, [some (progP p 1, true), some (.str "ask", true)]) := by kernel_rfl
end
section
variable (p : Int) (b c : Bool)
theorem P_imm2 : (progP p 2).imm = true := by kernel_rfl
theorem P_20 : gIx [(progP p 2, b), (.int 0, c)] = some (.int p, true, [some (progP p 2, b), some (.int 0, c)]) := rfl
theorem P_21 : gIx [(progP p 2, b), (.int 1, c)] = some (.tup (partsP 2), true, [some (progP p 2, b), some (.int 1, c)]) := by kernel_rfl
theorem P_22 : gIx [(progP p 2, b), (.int 2, c)] = some (.tup [], true, [some (progP p 2, b), some (.int 2, c)]) := rfl
theorem P_23 : gIx [(progP p 2, b), (.int 3, c)] = some (.tup [.str "d"], true, [some (progP p 2, b), some (.int 3, c)]) := rfl
theorem N_2t : py_named [(progP p 2, true), (.str "told", true)] = some (.tup [.str "a", .str "b"], true, [some (progP p 2, true), some (.str "told", true)]) := by kernel_rfl
theorem N_2s : py_named [(progP p 2, true), (.str "sealed", true)] = some (.tup [], true, [some (progP p 2, true), some (.str "sealed", true)]) := by kernel_rfl
theorem N_2a : py_named [(progP p 2, true), (.str "ask", true)] = some (.tup [.str "g"], true, [some (progP p 2, true), some (.str "ask", true)]) := by kernel_rfl
end
theorem fEq_tnil (neg : Bool) : fEq neg (.tup []) (.tup []) = some (.bl (!neg)) := by
  have := fEq_tints neg [] []
  simp only [List.map_nil] at this
  rw [this]
  cases neg <;> simp
theorem q_run (ws : List DB) : py_run ws = kFin ws (b_run (startE 9 ws)) := rfl
theorem q_form_table (ws : List DB) : py_form_table ws = kFin ws (b_form_table (startE 5 ws)) := rfl
theorem q_together (ws : List DB) : py_together ws = kFin ws (b_together (startE 7 ws)) := rfl
theorem q_half_of (ws : List DB) : py_half_of ws = kFin ws (b_half_of (startE 3 ws)) := rfl
theorem q_spread (ws : List DB) : py_spread ws = kFin ws (b_spread (startE 4 ws)) := rfl
theorem q_is_true (ws : List DB) : py_is_true ws = kFin ws (b_is_true (startE 6 ws)) := rfl
theorem turn0 (x0 y0 : Int) : py_turned [(.tup [.int x0, .int y0], true), (.tup [.int 0], true)] = some (.tup [.int x0, .int y0], true, [some (.tup [.int x0, .int y0], true), some (.tup [.int 0], true)]) := by kernel_rfl
theorem ist0 (p n x0 y0 : Int) (hp : 0 < p) (hp2 : p < 1073741824) :
    py_is_true [(progP p 0, true), (.tup [.tup [.tup [.int x0], .tup [.int y0]], .tup [], .tup []], true), (.tup [.int n], true)] = some (.bl (decide (((n - x0).fmod p - (n - y0).fmod p).fmod p = 0)), true, [some (progP p 0, true), some (.tup [.tup [.tup [.int x0], .tup [.int y0]], .tup [], .tup []], true), some (.tup [.int n], true)]) := by
  have h0 : p ≠ 0 := by omega
  have f1 := fun a : Int => fmod_lo a hp
  have f2 := fun a : Int => fmod_hi a hp (by omega)
  simp [e_dnew, e_vals0, e_vals, k_vals, k_vc, e_disp, k_disp, e_dpop, k_dp0, k_dp1, k_dp2, k_dp3, repD_cons, e_get, k_gtS, k_gtN, D.flat, ofs_inj, fEq_str, e_dc, e_c2, k_cg, k_ge, e_lg0, e_lg, k_lg, e_stpD, k_s1, k_s2, k_s2F, k_s3, k_s4, e_stp2, k_t0, k_t1, k_t2, k_t3, key_str, key_int, getK_nil, getK_cons, putD_nil, putD_cons, e_upd, merge_nil, merge_cons, e_inD, e_setD, e_intup, inD_nil, inD_str, saveOk, hideAll, unhide, isTy, List.any_cons, List.any_nil, D.kd, e_for, k_for, e_lp0, k_lp, k_lpn, k_lpr, e_cm, k_cm, k_cmE, k_cl, k_cl2F, k_cl2T, k_cl3, e_rg1, k_rg1, e_itA, k_itL, k_itT, k_itF, e_zip, k_zpL, k_zpT, k_zp2L, k_zp2T, e_sl, e_agN, e_agS, e_chkI, k_chkI, e_slT00, e_slT01, e_slT10, e_slT11, e_slF01, e_listL, e_listT, e_listF, e_tupL, e_tupT, k_pf, e_mt, k_mt, e_app, e_ext, e_pop, k_pop, k_pop2, e_absI, e_augL, k_aug, k_aug2, k_aug3, e_mkF, k_finR, k_finN, e_bagSl, k_bag, k_bag2, startE, finals, e_seq, k_seq, k_seqr, e_set, k_set, e_par, k_par, k_par2, e_call, k_args, k_take, k_give, a_nil, a_val, k_val, k_cons, a_var, k_varA, t_nil, t_val, t_var, k_tk, k_tkV, g_nil, g_val, g_var, k_gvV, e_aug, e_var, e_mc, e_ret, k_ret, e_retV, e_pass, e_expr, k_expr, e_ifS, k_ifT, k_ifF, e_if, k_fT, k_fF, e_yes, e_setI, e_asg, k_asg, k_one, e_gname, e_of, k_of, e_not, k_not, e_and, k_andT, k_andF, e_or, k_orT, k_orF, e_gtup, e_gnil, e_gcons, k_gs, e_r1, k_r1, e_r2, k_r2, k_ix, e_sub, e_mod, e_div, e_pow, e_shl, e_cmp, e_lt, e_add, e_addI, e_addL, e_addT, e_mul, e_mulL, e_len1, e_len2, e_len3, e_int, e_intb, e_ixl, e_ixt, e_ixd1, e_ixd2, e_setL, fEq_int, fNe_int, gTup, gLst, flags, D.imm, D.imms, imms_ints, L2.atI, L2.ixN, two64, two62, sizeMax, q_is_true, b_is_true, q_run, b_run, P_imm0, P_00, P_01, P_02, P_03, N_0t, N_0s, N_0a, e_lp, e_cl0, e_cl, partsP, headP, lastP, pt, w2, w1, q_form_table, b_form_table, q_together, b_together, q_half_of, b_half_of, q_spread, b_spread, turn0, h0, f1, f2, e_lzT, pairD, cutD, HT.sIx, partFl, intsD, List.range, List.range.loop, e_allL, allOf_nil, allOf_cons, fEq_tnil]
theorem turn1 (x0 x1 y0 y1 : Int) : py_turned [(.tup [.int x0, .int x1, .int y0, .int y1], true), (.tup [.int 1, .int 0], true)] = some (.tup [.int x0, .int y0, .int x1, .int y1], true, [some (.tup [.int x0, .int x1, .int y0, .int y1], true), some (.tup [.int 1, .int 0], true)]) := by kernel_rfl
theorem ist1 (p n x0 x1 y0 y1 : Int) (hp : 0 < p) (hp2 : p < 1073741824) :
    py_is_true [(progP p 1, true), (.tup [.tup [.tup [.int x0, .int x1], .tup [.int y0, .int y1]], .tup [], .tup []], true), (.tup [.int n], true)] = some (.bl (decide ((((n - x0).fmod p * (n - x1).fmod p).fmod p - ((n - y0).fmod p * (n - y1).fmod p).fmod p).fmod p = 0)), true, [some (progP p 1, true), some (.tup [.tup [.tup [.int x0, .int x1], .tup [.int y0, .int y1]], .tup [], .tup []], true), some (.tup [.int n], true)]) := by
  have h0 : p ≠ 0 := by omega
  have f1 := fun a : Int => fmod_lo a hp
  have f2 := fun a : Int => fmod_hi a hp (by omega)
  simp [e_dnew, e_vals0, e_vals, k_vals, k_vc, e_disp, k_disp, e_dpop, k_dp0, k_dp1, k_dp2, k_dp3, repD_cons, e_get, k_gtS, k_gtN, D.flat, ofs_inj, fEq_str, e_dc, e_c2, k_cg, k_ge, e_lg0, e_lg, k_lg, e_stpD, k_s1, k_s2, k_s2F, k_s3, k_s4, e_stp2, k_t0, k_t1, k_t2, k_t3, key_str, key_int, getK_nil, getK_cons, putD_nil, putD_cons, e_upd, merge_nil, merge_cons, e_inD, e_setD, e_intup, inD_nil, inD_str, saveOk, hideAll, unhide, isTy, List.any_cons, List.any_nil, D.kd, e_for, k_for, e_lp0, k_lp, k_lpn, k_lpr, e_cm, k_cm, k_cmE, k_cl, k_cl2F, k_cl2T, k_cl3, e_rg1, k_rg1, e_itA, k_itL, k_itT, k_itF, e_zip, k_zpL, k_zpT, k_zp2L, k_zp2T, e_sl, e_agN, e_agS, e_chkI, k_chkI, e_slT00, e_slT01, e_slT10, e_slT11, e_slF01, e_listL, e_listT, e_listF, e_tupL, e_tupT, k_pf, e_mt, k_mt, e_app, e_ext, e_pop, k_pop, k_pop2, e_absI, e_augL, k_aug, k_aug2, k_aug3, e_mkF, k_finR, k_finN, e_bagSl, k_bag, k_bag2, startE, finals, e_seq, k_seq, k_seqr, e_set, k_set, e_par, k_par, k_par2, e_call, k_args, k_take, k_give, a_nil, a_val, k_val, k_cons, a_var, k_varA, t_nil, t_val, t_var, k_tk, k_tkV, g_nil, g_val, g_var, k_gvV, e_aug, e_var, e_mc, e_ret, k_ret, e_retV, e_pass, e_expr, k_expr, e_ifS, k_ifT, k_ifF, e_if, k_fT, k_fF, e_yes, e_setI, e_asg, k_asg, k_one, e_gname, e_of, k_of, e_not, k_not, e_and, k_andT, k_andF, e_or, k_orT, k_orF, e_gtup, e_gnil, e_gcons, k_gs, e_r1, k_r1, e_r2, k_r2, k_ix, e_sub, e_mod, e_div, e_pow, e_shl, e_cmp, e_lt, e_add, e_addI, e_addL, e_addT, e_mul, e_mulL, e_len1, e_len2, e_len3, e_int, e_intb, e_ixl, e_ixt, e_ixd1, e_ixd2, e_setL, fEq_int, fNe_int, gTup, gLst, flags, D.imm, D.imms, imms_ints, L2.atI, L2.ixN, two64, two62, sizeMax, q_is_true, b_is_true, q_run, b_run, P_imm1, P_10, P_11, P_12, P_13, N_1t, N_1s, N_1a, e_lp, e_cl0, e_cl, partsP, headP, lastP, pt, w2, w1, q_form_table, b_form_table, q_together, b_together, q_half_of, b_half_of, q_spread, b_spread, turn1, h0, f1, f2, e_lzT, pairD, cutD, HT.sIx, partFl, intsD, List.range, List.range.loop, e_allL, allOf_nil, allOf_cons, fEq_tnil]
theorem turn2 (x0 x1 x2 x3 y0 y1 y2 y3 : Int) : py_turned [(.tup [.int x0, .int x1, .int x2, .int x3, .int y0, .int y1, .int y2, .int y3], true), (.tup [.int 2, .int 0, .int 1], true)] = some (.tup [.int x0, .int y0, .int x1, .int y1, .int x2, .int y2, .int x3, .int y3], true, [some (.tup [.int x0, .int x1, .int x2, .int x3, .int y0, .int y1, .int y2, .int y3], true), some (.tup [.int 2, .int 0, .int 1], true)]) := by kernel_rfl
theorem ist2 (p n x0 x1 x2 x3 y0 y1 y2 y3 : Int) (hp : 0 < p) (hp2 : p < 1073741824) :
    py_is_true [(progP p 2, true), (.tup [.tup [.tup [.int x0, .int x1, .int x2, .int x3], .tup [.int y0, .int y1, .int y2, .int y3]], .tup [], .tup []], true), (.tup [.int n], true)] = some (.bl (decide (((((n - x0).fmod p * (n - x2).fmod p).fmod p * ((n - x1).fmod p * (n - x3).fmod p).fmod p).fmod p - (((n - y0).fmod p * (n - y2).fmod p).fmod p * ((n - y1).fmod p * (n - y3).fmod p).fmod p).fmod p).fmod p = 0)), true, [some (progP p 2, true), some (.tup [.tup [.tup [.int x0, .int x1, .int x2, .int x3], .tup [.int y0, .int y1, .int y2, .int y3]], .tup [], .tup []], true), some (.tup [.int n], true)]) := by
  have h0 : p ≠ 0 := by omega
  have f1 := fun a : Int => fmod_lo a hp
  have f2 := fun a : Int => fmod_hi a hp (by omega)
  simp [e_dnew, e_vals0, e_vals, k_vals, k_vc, e_disp, k_disp, e_dpop, k_dp0, k_dp1, k_dp2, k_dp3, repD_cons, e_get, k_gtS, k_gtN, D.flat, ofs_inj, fEq_str, e_dc, e_c2, k_cg, k_ge, e_lg0, e_lg, k_lg, e_stpD, k_s1, k_s2, k_s2F, k_s3, k_s4, e_stp2, k_t0, k_t1, k_t2, k_t3, key_str, key_int, getK_nil, getK_cons, putD_nil, putD_cons, e_upd, merge_nil, merge_cons, e_inD, e_setD, e_intup, inD_nil, inD_str, saveOk, hideAll, unhide, isTy, List.any_cons, List.any_nil, D.kd, e_for, k_for, e_lp0, k_lp, k_lpn, k_lpr, e_cm, k_cm, k_cmE, k_cl, k_cl2F, k_cl2T, k_cl3, e_rg1, k_rg1, e_itA, k_itL, k_itT, k_itF, e_zip, k_zpL, k_zpT, k_zp2L, k_zp2T, e_sl, e_agN, e_agS, e_chkI, k_chkI, e_slT00, e_slT01, e_slT10, e_slT11, e_slF01, e_listL, e_listT, e_listF, e_tupL, e_tupT, k_pf, e_mt, k_mt, e_app, e_ext, e_pop, k_pop, k_pop2, e_absI, e_augL, k_aug, k_aug2, k_aug3, e_mkF, k_finR, k_finN, e_bagSl, k_bag, k_bag2, startE, finals, e_seq, k_seq, k_seqr, e_set, k_set, e_par, k_par, k_par2, e_call, k_args, k_take, k_give, a_nil, a_val, k_val, k_cons, a_var, k_varA, t_nil, t_val, t_var, k_tk, k_tkV, g_nil, g_val, g_var, k_gvV, e_aug, e_var, e_mc, e_ret, k_ret, e_retV, e_pass, e_expr, k_expr, e_ifS, k_ifT, k_ifF, e_if, k_fT, k_fF, e_yes, e_setI, e_asg, k_asg, k_one, e_gname, e_of, k_of, e_not, k_not, e_and, k_andT, k_andF, e_or, k_orT, k_orF, e_gtup, e_gnil, e_gcons, k_gs, e_r1, k_r1, e_r2, k_r2, k_ix, e_sub, e_mod, e_div, e_pow, e_shl, e_cmp, e_lt, e_add, e_addI, e_addL, e_addT, e_mul, e_mulL, e_len1, e_len2, e_len3, e_int, e_intb, e_ixl, e_ixt, e_ixd1, e_ixd2, e_setL, fEq_int, fNe_int, gTup, gLst, flags, D.imm, D.imms, imms_ints, L2.atI, L2.ixN, two64, two62, sizeMax, q_is_true, b_is_true, q_run, b_run, P_imm2, P_20, P_21, P_22, P_23, N_2t, N_2s, N_2a, e_lp, e_cl0, e_cl, partsP, headP, lastP, pt, w2, w1, q_form_table, b_form_table, q_together, b_together, q_half_of, b_half_of, q_spread, b_spread, turn2, h0, f1, f2, e_lzT, pairD, cutD, HT.sIx, partFl, intsD, List.range, List.range.loop, e_allL, allOf_nil, allOf_cons, fEq_tnil]
end LF
namespace LF
open PySem
theorem q__law_is_true (ws : List DB) : py__law_is_true ws = kFin ws (b__law_is_true (startE 5 ws)) := rfl
theorem q__law_tables (ws : List DB) : py__law_tables ws = kFin ws (b__law_tables (startE 10 ws)) := rfl
theorem q__law_part_table (ws : List DB) : py__law_part_table ws = kFin ws (b__law_part_table (startE 20 ws)) := rfl
theorem fEq_l1 : fEq false (.lst [.int 1]) (.lst []) = some (.bl false) := by kernel_rfl
theorem fEq_l0 : fEq false (.lst []) (.lst []) = some (.bl true) := by kernel_rfl
theorem size1 (x0 : Int) : py__law_size [(.tup [.int x0], true)] = some (.int 0, true, [some (.tup [.int x0], true)]) := by kernel_rfl
theorem size2 (x0 x1 : Int) : py__law_size [(.tup [.int x0, .int x1], true)] = some (.int 1, true, [some (.tup [.int x0, .int x1], true)]) := by kernel_rfl
theorem size4 (x0 x1 x2 x3 : Int) : py__law_size [(.tup [.int x0, .int x1, .int x2, .int x3], true)] = some (.int 2, true, [some (.tup [.int x0, .int x1, .int x2, .int x3], true)]) := by kernel_rfl
theorem size8 (x0 x1 x2 x3 x4 x5 x6 x7 : Int) : py__law_size [(.tup [.int x0, .int x1, .int x2, .int x3, .int x4, .int x5, .int x6, .int x7], true)] = some (.int 3, true, [some (.tup [.int x0, .int x1, .int x2, .int x3, .int x4, .int x5, .int x6, .int x7], true)]) := by kernel_rfl
theorem bits0_0 : py__law_bits [(.int 0, true), (.int 1, true)] = some (.lst [.int 0], true, [some (.int 0, true), some (.int 1, true)]) := by kernel_rfl
theorem idx0_0 : py__law_index [(.lst [.int 0], true)] = some (.int 0, true, [some (.lst [.int 0], false)]) := by kernel_rfl
theorem bits0_1 : py__law_bits [(.int 1, true), (.int 1, true)] = some (.lst [.int 1], true, [some (.int 1, true), some (.int 1, true)]) := by kernel_rfl
theorem idx0_1 : py__law_index [(.lst [.int 1], true)] = some (.int 1, true, [some (.lst [.int 1], false)]) := by kernel_rfl
theorem lst0 (p n x0 y0 : Int) (hp : 0 < p) (hp2 : p < 1073741824) (hn : 0 ≤ n ∧ n < p) (hx0 : 0 ≤ x0 ∧ x0 < p) (hy0 : 0 ≤ y0 ∧ y0 < p) :
    py__law_is_true [(progP p 0, true), (.tup [.tup [.tup [.int x0], .tup [.int y0]], .tup [], .tup []], true), (.tup [.int n], true)] = some (.bl (decide (((n - x0).fmod p - (n - y0).fmod p).fmod p = 0)), true, [some (progP p 0, true), some (.tup [.tup [.tup [.int x0], .tup [.int y0]], .tup [], .tup []], true), some (.tup [.int n], true)]) := by
  have h0 : p ≠ 0 := by omega
  have f1 := fun a : Int => fmod_lo a hp
  have f2 := fun a : Int => fmod_hi a hp (by omega)
  have bn1 : -18446744073709551616 < n := by omega
  have bn2 : n < 18446744073709551616 := by omega
  have bx01 : -18446744073709551616 < x0 := by omega
  have bx02 : x0 < 18446744073709551616 := by omega
  have by01 : -18446744073709551616 < y0 := by omega
  have by02 : y0 < 18446744073709551616 := by omega
  simp [e_dnew, e_vals0, e_vals, k_vals, k_vc, e_disp, k_disp, e_dpop, k_dp0, k_dp1, k_dp2, k_dp3, repD_cons, e_get, k_gtS, k_gtN, D.flat, ofs_inj, fEq_str, e_dc, e_c2, k_cg, k_ge, e_lg0, e_lg, k_lg, e_stpD, k_s1, k_s2, k_s2F, k_s3, k_s4, e_stp2, k_t0, k_t1, k_t2, k_t3, key_str, key_int, getK_nil, getK_cons, putD_nil, putD_cons, e_upd, merge_nil, merge_cons, e_inD, e_setD, e_intup, inD_nil, inD_str, saveOk, hideAll, unhide, isTy, List.any_cons, List.any_nil, D.kd, e_for, k_for, e_lp0, k_lp, k_lpn, k_lpr, e_cm, k_cm, k_cmE, k_cl, k_cl2F, k_cl2T, k_cl3, e_rg1, k_rg1, e_itA, k_itL, k_itT, k_itF, e_zip, k_zpL, k_zpT, k_zp2L, k_zp2T, e_sl, e_agN, e_agS, e_chkI, k_chkI, e_slT00, e_slT01, e_slT10, e_slT11, e_slF01, e_listL, e_listT, e_listF, e_tupL, e_tupT, k_pf, e_mt, k_mt, e_app, e_ext, e_pop, k_pop, k_pop2, e_absI, e_augL, k_aug, k_aug2, k_aug3, e_mkF, k_finR, k_finN, e_bagSl, k_bag, k_bag2, startE, finals, e_seq, k_seq, k_seqr, e_set, k_set, e_par, k_par, k_par2, e_call, k_args, k_take, k_give, a_nil, a_val, k_val, k_cons, a_var, k_varA, t_nil, t_val, t_var, k_tk, k_tkV, g_nil, g_val, g_var, k_gvV, e_aug, e_var, e_mc, e_ret, k_ret, e_retV, e_pass, e_expr, k_expr, e_ifS, k_ifT, k_ifF, e_if, k_fT, k_fF, e_yes, e_setI, e_asg, k_asg, k_one, e_gname, e_of, k_of, e_not, k_not, e_and, k_andT, k_andF, e_or, k_orT, k_orF, e_gtup, e_gnil, e_gcons, k_gs, e_r1, k_r1, e_r2, k_r2, k_ix, e_sub, e_mod, e_div, e_pow, e_shl, e_cmp, e_lt, e_add, e_addI, e_addL, e_addT, e_mul, e_mulL, e_len1, e_len2, e_len3, e_int, e_intb, e_ixl, e_ixt, e_ixd1, e_ixd2, e_setL, fEq_int, fNe_int, gTup, gLst, flags, D.imm, D.imms, imms_ints, L2.atI, L2.ixN, two64, two62, sizeMax, q__law_is_true, b__law_is_true, q__law_tables, b__law_tables, P_imm0, P_00, P_01, P_02, P_03, e_lp, e_cl0, e_cl, partsP, headP, lastP, pt, w2, w1, q__law_part_table, b__law_part_table, size1, size2, size4, size8, h0, f1, f2, e_lzT, pairD, cutD, HT.sIx, partFl, intsD, List.range, List.range.loop, fEq_tnil, e_ne0, intsOf_nil, intsOf_cons, bits0_0, idx0_0, bits0_1, idx0_1, bn1, bn2, bx01, bx02, by01, by02]
  by_cases hd : ((n - x0).fmod p - (n - y0).fmod p).fmod p = 0 <;> simp [e_dnew, e_vals0, e_vals, k_vals, k_vc, e_disp, k_disp, e_dpop, k_dp0, k_dp1, k_dp2, k_dp3, repD_cons, e_get, k_gtS, k_gtN, D.flat, ofs_inj, fEq_str, e_dc, e_c2, k_cg, k_ge, e_lg0, e_lg, k_lg, e_stpD, k_s1, k_s2, k_s2F, k_s3, k_s4, e_stp2, k_t0, k_t1, k_t2, k_t3, key_str, key_int, getK_nil, getK_cons, putD_nil, putD_cons, e_upd, merge_nil, merge_cons, e_inD, e_setD, e_intup, inD_nil, inD_str, saveOk, hideAll, unhide, isTy, List.any_cons, List.any_nil, D.kd, e_for, k_for, e_lp0, k_lp, k_lpn, k_lpr, e_cm, k_cm, k_cmE, k_cl, k_cl2F, k_cl2T, k_cl3, e_rg1, k_rg1, e_itA, k_itL, k_itT, k_itF, e_zip, k_zpL, k_zpT, k_zp2L, k_zp2T, e_sl, e_agN, e_agS, e_chkI, k_chkI, e_slT00, e_slT01, e_slT10, e_slT11, e_slF01, e_listL, e_listT, e_listF, e_tupL, e_tupT, k_pf, e_mt, k_mt, e_app, e_ext, e_pop, k_pop, k_pop2, e_absI, e_augL, k_aug, k_aug2, k_aug3, e_mkF, k_finR, k_finN, e_bagSl, k_bag, k_bag2, startE, finals, e_seq, k_seq, k_seqr, e_set, k_set, e_par, k_par, k_par2, e_call, k_args, k_take, k_give, a_nil, a_val, k_val, k_cons, a_var, k_varA, t_nil, t_val, t_var, k_tk, k_tkV, g_nil, g_val, g_var, k_gvV, e_aug, e_var, e_mc, e_ret, k_ret, e_retV, e_pass, e_expr, k_expr, e_ifS, k_ifT, k_ifF, e_if, k_fT, k_fF, e_yes, e_setI, e_asg, k_asg, k_one, e_gname, e_of, k_of, e_not, k_not, e_and, k_andT, k_andF, e_or, k_orT, k_orF, e_gtup, e_gnil, e_gcons, k_gs, e_r1, k_r1, e_r2, k_r2, k_ix, e_sub, e_mod, e_div, e_pow, e_shl, e_cmp, e_lt, e_add, e_addI, e_addL, e_addT, e_mul, e_mulL, e_len1, e_len2, e_len3, e_int, e_intb, e_ixl, e_ixt, e_ixd1, e_ixd2, e_setL, fEq_int, fNe_int, gTup, gLst, flags, D.imm, D.imms, imms_ints, L2.atI, L2.ixN, two64, two62, sizeMax, hd, P_imm0, e_cl0, e_cl, fEq_l1, fEq_l0]
theorem bits1_0 : py__law_bits [(.int 0, true), (.int 2, true)] = some (.lst [.int 0, .int 0], true, [some (.int 0, true), some (.int 2, true)]) := by kernel_rfl
theorem idx1_0 : py__law_index [(.lst [.int 0, .int 0], true)] = some (.int 0, true, [some (.lst [.int 0, .int 0], false)]) := by kernel_rfl
theorem bits1_1 : py__law_bits [(.int 1, true), (.int 2, true)] = some (.lst [.int 0, .int 1], true, [some (.int 1, true), some (.int 2, true)]) := by kernel_rfl
theorem idx1_1 : py__law_index [(.lst [.int 1, .int 0], true)] = some (.int 2, true, [some (.lst [.int 1, .int 0], false)]) := by kernel_rfl
theorem bits1_2 : py__law_bits [(.int 2, true), (.int 2, true)] = some (.lst [.int 1, .int 0], true, [some (.int 2, true), some (.int 2, true)]) := by kernel_rfl
theorem idx1_2 : py__law_index [(.lst [.int 0, .int 1], true)] = some (.int 1, true, [some (.lst [.int 0, .int 1], false)]) := by kernel_rfl
theorem bits1_3 : py__law_bits [(.int 3, true), (.int 2, true)] = some (.lst [.int 1, .int 1], true, [some (.int 3, true), some (.int 2, true)]) := by kernel_rfl
theorem idx1_3 : py__law_index [(.lst [.int 1, .int 1], true)] = some (.int 3, true, [some (.lst [.int 1, .int 1], false)]) := by kernel_rfl
theorem lst1 (p n x0 x1 y0 y1 : Int) (hp : 0 < p) (hp2 : p < 1073741824) (hn : 0 ≤ n ∧ n < p) (hx0 : 0 ≤ x0 ∧ x0 < p) (hx1 : 0 ≤ x1 ∧ x1 < p) (hy0 : 0 ≤ y0 ∧ y0 < p) (hy1 : 0 ≤ y1 ∧ y1 < p) :
    py__law_is_true [(progP p 1, true), (.tup [.tup [.tup [.int x0, .int x1], .tup [.int y0, .int y1]], .tup [], .tup []], true), (.tup [.int n], true)] = some (.bl (decide ((((n - x0).fmod p * (n - x1).fmod p).fmod p - ((n - y0).fmod p * (n - y1).fmod p).fmod p).fmod p = 0)), true, [some (progP p 1, true), some (.tup [.tup [.tup [.int x0, .int x1], .tup [.int y0, .int y1]], .tup [], .tup []], true), some (.tup [.int n], true)]) := by
  have h0 : p ≠ 0 := by omega
  have f1 := fun a : Int => fmod_lo a hp
  have f2 := fun a : Int => fmod_hi a hp (by omega)
  have bn1 : -18446744073709551616 < n := by omega
  have bn2 : n < 18446744073709551616 := by omega
  have bx01 : -18446744073709551616 < x0 := by omega
  have bx02 : x0 < 18446744073709551616 := by omega
  have bx11 : -18446744073709551616 < x1 := by omega
  have bx12 : x1 < 18446744073709551616 := by omega
  have by01 : -18446744073709551616 < y0 := by omega
  have by02 : y0 < 18446744073709551616 := by omega
  have by11 : -18446744073709551616 < y1 := by omega
  have by12 : y1 < 18446744073709551616 := by omega
  simp [e_dnew, e_vals0, e_vals, k_vals, k_vc, e_disp, k_disp, e_dpop, k_dp0, k_dp1, k_dp2, k_dp3, repD_cons, e_get, k_gtS, k_gtN, D.flat, ofs_inj, fEq_str, e_dc, e_c2, k_cg, k_ge, e_lg0, e_lg, k_lg, e_stpD, k_s1, k_s2, k_s2F, k_s3, k_s4, e_stp2, k_t0, k_t1, k_t2, k_t3, key_str, key_int, getK_nil, getK_cons, putD_nil, putD_cons, e_upd, merge_nil, merge_cons, e_inD, e_setD, e_intup, inD_nil, inD_str, saveOk, hideAll, unhide, isTy, List.any_cons, List.any_nil, D.kd, e_for, k_for, e_lp0, k_lp, k_lpn, k_lpr, e_cm, k_cm, k_cmE, k_cl, k_cl2F, k_cl2T, k_cl3, e_rg1, k_rg1, e_itA, k_itL, k_itT, k_itF, e_zip, k_zpL, k_zpT, k_zp2L, k_zp2T, e_sl, e_agN, e_agS, e_chkI, k_chkI, e_slT00, e_slT01, e_slT10, e_slT11, e_slF01, e_listL, e_listT, e_listF, e_tupL, e_tupT, k_pf, e_mt, k_mt, e_app, e_ext, e_pop, k_pop, k_pop2, e_absI, e_augL, k_aug, k_aug2, k_aug3, e_mkF, k_finR, k_finN, e_bagSl, k_bag, k_bag2, startE, finals, e_seq, k_seq, k_seqr, e_set, k_set, e_par, k_par, k_par2, e_call, k_args, k_take, k_give, a_nil, a_val, k_val, k_cons, a_var, k_varA, t_nil, t_val, t_var, k_tk, k_tkV, g_nil, g_val, g_var, k_gvV, e_aug, e_var, e_mc, e_ret, k_ret, e_retV, e_pass, e_expr, k_expr, e_ifS, k_ifT, k_ifF, e_if, k_fT, k_fF, e_yes, e_setI, e_asg, k_asg, k_one, e_gname, e_of, k_of, e_not, k_not, e_and, k_andT, k_andF, e_or, k_orT, k_orF, e_gtup, e_gnil, e_gcons, k_gs, e_r1, k_r1, e_r2, k_r2, k_ix, e_sub, e_mod, e_div, e_pow, e_shl, e_cmp, e_lt, e_add, e_addI, e_addL, e_addT, e_mul, e_mulL, e_len1, e_len2, e_len3, e_int, e_intb, e_ixl, e_ixt, e_ixd1, e_ixd2, e_setL, fEq_int, fNe_int, gTup, gLst, flags, D.imm, D.imms, imms_ints, L2.atI, L2.ixN, two64, two62, sizeMax, q__law_is_true, b__law_is_true, q__law_tables, b__law_tables, P_imm1, P_10, P_11, P_12, P_13, e_lp, e_cl0, e_cl, partsP, headP, lastP, pt, w2, w1, q__law_part_table, b__law_part_table, size1, size2, size4, size8, h0, f1, f2, e_lzT, pairD, cutD, HT.sIx, partFl, intsD, List.range, List.range.loop, fEq_tnil, e_ne0, intsOf_nil, intsOf_cons, bits1_0, idx1_0, bits1_1, idx1_1, bits1_2, idx1_2, bits1_3, idx1_3, bn1, bn2, bx01, bx02, bx11, bx12, by01, by02, by11, by12]
  by_cases hd : (((n - x0).fmod p * (n - x1).fmod p).fmod p - ((n - y0).fmod p * (n - y1).fmod p).fmod p).fmod p = 0 <;> simp [e_dnew, e_vals0, e_vals, k_vals, k_vc, e_disp, k_disp, e_dpop, k_dp0, k_dp1, k_dp2, k_dp3, repD_cons, e_get, k_gtS, k_gtN, D.flat, ofs_inj, fEq_str, e_dc, e_c2, k_cg, k_ge, e_lg0, e_lg, k_lg, e_stpD, k_s1, k_s2, k_s2F, k_s3, k_s4, e_stp2, k_t0, k_t1, k_t2, k_t3, key_str, key_int, getK_nil, getK_cons, putD_nil, putD_cons, e_upd, merge_nil, merge_cons, e_inD, e_setD, e_intup, inD_nil, inD_str, saveOk, hideAll, unhide, isTy, List.any_cons, List.any_nil, D.kd, e_for, k_for, e_lp0, k_lp, k_lpn, k_lpr, e_cm, k_cm, k_cmE, k_cl, k_cl2F, k_cl2T, k_cl3, e_rg1, k_rg1, e_itA, k_itL, k_itT, k_itF, e_zip, k_zpL, k_zpT, k_zp2L, k_zp2T, e_sl, e_agN, e_agS, e_chkI, k_chkI, e_slT00, e_slT01, e_slT10, e_slT11, e_slF01, e_listL, e_listT, e_listF, e_tupL, e_tupT, k_pf, e_mt, k_mt, e_app, e_ext, e_pop, k_pop, k_pop2, e_absI, e_augL, k_aug, k_aug2, k_aug3, e_mkF, k_finR, k_finN, e_bagSl, k_bag, k_bag2, startE, finals, e_seq, k_seq, k_seqr, e_set, k_set, e_par, k_par, k_par2, e_call, k_args, k_take, k_give, a_nil, a_val, k_val, k_cons, a_var, k_varA, t_nil, t_val, t_var, k_tk, k_tkV, g_nil, g_val, g_var, k_gvV, e_aug, e_var, e_mc, e_ret, k_ret, e_retV, e_pass, e_expr, k_expr, e_ifS, k_ifT, k_ifF, e_if, k_fT, k_fF, e_yes, e_setI, e_asg, k_asg, k_one, e_gname, e_of, k_of, e_not, k_not, e_and, k_andT, k_andF, e_or, k_orT, k_orF, e_gtup, e_gnil, e_gcons, k_gs, e_r1, k_r1, e_r2, k_r2, k_ix, e_sub, e_mod, e_div, e_pow, e_shl, e_cmp, e_lt, e_add, e_addI, e_addL, e_addT, e_mul, e_mulL, e_len1, e_len2, e_len3, e_int, e_intb, e_ixl, e_ixt, e_ixd1, e_ixd2, e_setL, fEq_int, fNe_int, gTup, gLst, flags, D.imm, D.imms, imms_ints, L2.atI, L2.ixN, two64, two62, sizeMax, hd, P_imm1, e_cl0, e_cl, fEq_l1, fEq_l0]
theorem bits2_0 : py__law_bits [(.int 0, true), (.int 3, true)] = some (.lst [.int 0, .int 0, .int 0], true, [some (.int 0, true), some (.int 3, true)]) := by kernel_rfl
theorem idx2_0 : py__law_index [(.lst [.int 0, .int 0, .int 0], true)] = some (.int 0, true, [some (.lst [.int 0, .int 0, .int 0], false)]) := by kernel_rfl
theorem bits2_1 : py__law_bits [(.int 1, true), (.int 3, true)] = some (.lst [.int 0, .int 0, .int 1], true, [some (.int 1, true), some (.int 3, true)]) := by kernel_rfl
theorem idx2_1 : py__law_index [(.lst [.int 1, .int 0, .int 0], true)] = some (.int 4, true, [some (.lst [.int 1, .int 0, .int 0], false)]) := by kernel_rfl
theorem bits2_2 : py__law_bits [(.int 2, true), (.int 3, true)] = some (.lst [.int 0, .int 1, .int 0], true, [some (.int 2, true), some (.int 3, true)]) := by kernel_rfl
theorem idx2_2 : py__law_index [(.lst [.int 0, .int 0, .int 1], true)] = some (.int 1, true, [some (.lst [.int 0, .int 0, .int 1], false)]) := by kernel_rfl
theorem bits2_3 : py__law_bits [(.int 3, true), (.int 3, true)] = some (.lst [.int 0, .int 1, .int 1], true, [some (.int 3, true), some (.int 3, true)]) := by kernel_rfl
theorem idx2_3 : py__law_index [(.lst [.int 1, .int 0, .int 1], true)] = some (.int 5, true, [some (.lst [.int 1, .int 0, .int 1], false)]) := by kernel_rfl
theorem bits2_4 : py__law_bits [(.int 4, true), (.int 3, true)] = some (.lst [.int 1, .int 0, .int 0], true, [some (.int 4, true), some (.int 3, true)]) := by kernel_rfl
theorem idx2_4 : py__law_index [(.lst [.int 0, .int 1, .int 0], true)] = some (.int 2, true, [some (.lst [.int 0, .int 1, .int 0], false)]) := by kernel_rfl
theorem bits2_5 : py__law_bits [(.int 5, true), (.int 3, true)] = some (.lst [.int 1, .int 0, .int 1], true, [some (.int 5, true), some (.int 3, true)]) := by kernel_rfl
theorem idx2_5 : py__law_index [(.lst [.int 1, .int 1, .int 0], true)] = some (.int 6, true, [some (.lst [.int 1, .int 1, .int 0], false)]) := by kernel_rfl
theorem bits2_6 : py__law_bits [(.int 6, true), (.int 3, true)] = some (.lst [.int 1, .int 1, .int 0], true, [some (.int 6, true), some (.int 3, true)]) := by kernel_rfl
theorem idx2_6 : py__law_index [(.lst [.int 0, .int 1, .int 1], true)] = some (.int 3, true, [some (.lst [.int 0, .int 1, .int 1], false)]) := by kernel_rfl
theorem bits2_7 : py__law_bits [(.int 7, true), (.int 3, true)] = some (.lst [.int 1, .int 1, .int 1], true, [some (.int 7, true), some (.int 3, true)]) := by kernel_rfl
theorem idx2_7 : py__law_index [(.lst [.int 1, .int 1, .int 1], true)] = some (.int 7, true, [some (.lst [.int 1, .int 1, .int 1], false)]) := by kernel_rfl
theorem lst2 (p n x0 x1 x2 x3 y0 y1 y2 y3 : Int) (hp : 0 < p) (hp2 : p < 1073741824) (hn : 0 ≤ n ∧ n < p) (hx0 : 0 ≤ x0 ∧ x0 < p) (hx1 : 0 ≤ x1 ∧ x1 < p) (hx2 : 0 ≤ x2 ∧ x2 < p) (hx3 : 0 ≤ x3 ∧ x3 < p) (hy0 : 0 ≤ y0 ∧ y0 < p) (hy1 : 0 ≤ y1 ∧ y1 < p) (hy2 : 0 ≤ y2 ∧ y2 < p) (hy3 : 0 ≤ y3 ∧ y3 < p) :
    py__law_is_true [(progP p 2, true), (.tup [.tup [.tup [.int x0, .int x1, .int x2, .int x3], .tup [.int y0, .int y1, .int y2, .int y3]], .tup [], .tup []], true), (.tup [.int n], true)] = some (.bl (decide (((((n - x0).fmod p * (n - x2).fmod p).fmod p * ((n - x1).fmod p * (n - x3).fmod p).fmod p).fmod p - (((n - y0).fmod p * (n - y2).fmod p).fmod p * ((n - y1).fmod p * (n - y3).fmod p).fmod p).fmod p).fmod p = 0)), true, [some (progP p 2, true), some (.tup [.tup [.tup [.int x0, .int x1, .int x2, .int x3], .tup [.int y0, .int y1, .int y2, .int y3]], .tup [], .tup []], true), some (.tup [.int n], true)]) := by
  have h0 : p ≠ 0 := by omega
  have f1 := fun a : Int => fmod_lo a hp
  have f2 := fun a : Int => fmod_hi a hp (by omega)
  have bn1 : -18446744073709551616 < n := by omega
  have bn2 : n < 18446744073709551616 := by omega
  have bx01 : -18446744073709551616 < x0 := by omega
  have bx02 : x0 < 18446744073709551616 := by omega
  have bx11 : -18446744073709551616 < x1 := by omega
  have bx12 : x1 < 18446744073709551616 := by omega
  have bx21 : -18446744073709551616 < x2 := by omega
  have bx22 : x2 < 18446744073709551616 := by omega
  have bx31 : -18446744073709551616 < x3 := by omega
  have bx32 : x3 < 18446744073709551616 := by omega
  have by01 : -18446744073709551616 < y0 := by omega
  have by02 : y0 < 18446744073709551616 := by omega
  have by11 : -18446744073709551616 < y1 := by omega
  have by12 : y1 < 18446744073709551616 := by omega
  have by21 : -18446744073709551616 < y2 := by omega
  have by22 : y2 < 18446744073709551616 := by omega
  have by31 : -18446744073709551616 < y3 := by omega
  have by32 : y3 < 18446744073709551616 := by omega
  simp [e_dnew, e_vals0, e_vals, k_vals, k_vc, e_disp, k_disp, e_dpop, k_dp0, k_dp1, k_dp2, k_dp3, repD_cons, e_get, k_gtS, k_gtN, D.flat, ofs_inj, fEq_str, e_dc, e_c2, k_cg, k_ge, e_lg0, e_lg, k_lg, e_stpD, k_s1, k_s2, k_s2F, k_s3, k_s4, e_stp2, k_t0, k_t1, k_t2, k_t3, key_str, key_int, getK_nil, getK_cons, putD_nil, putD_cons, e_upd, merge_nil, merge_cons, e_inD, e_setD, e_intup, inD_nil, inD_str, saveOk, hideAll, unhide, isTy, List.any_cons, List.any_nil, D.kd, e_for, k_for, e_lp0, k_lp, k_lpn, k_lpr, e_cm, k_cm, k_cmE, k_cl, k_cl2F, k_cl2T, k_cl3, e_rg1, k_rg1, e_itA, k_itL, k_itT, k_itF, e_zip, k_zpL, k_zpT, k_zp2L, k_zp2T, e_sl, e_agN, e_agS, e_chkI, k_chkI, e_slT00, e_slT01, e_slT10, e_slT11, e_slF01, e_listL, e_listT, e_listF, e_tupL, e_tupT, k_pf, e_mt, k_mt, e_app, e_ext, e_pop, k_pop, k_pop2, e_absI, e_augL, k_aug, k_aug2, k_aug3, e_mkF, k_finR, k_finN, e_bagSl, k_bag, k_bag2, startE, finals, e_seq, k_seq, k_seqr, e_set, k_set, e_par, k_par, k_par2, e_call, k_args, k_take, k_give, a_nil, a_val, k_val, k_cons, a_var, k_varA, t_nil, t_val, t_var, k_tk, k_tkV, g_nil, g_val, g_var, k_gvV, e_aug, e_var, e_mc, e_ret, k_ret, e_retV, e_pass, e_expr, k_expr, e_ifS, k_ifT, k_ifF, e_if, k_fT, k_fF, e_yes, e_setI, e_asg, k_asg, k_one, e_gname, e_of, k_of, e_not, k_not, e_and, k_andT, k_andF, e_or, k_orT, k_orF, e_gtup, e_gnil, e_gcons, k_gs, e_r1, k_r1, e_r2, k_r2, k_ix, e_sub, e_mod, e_div, e_pow, e_shl, e_cmp, e_lt, e_add, e_addI, e_addL, e_addT, e_mul, e_mulL, e_len1, e_len2, e_len3, e_int, e_intb, e_ixl, e_ixt, e_ixd1, e_ixd2, e_setL, fEq_int, fNe_int, gTup, gLst, flags, D.imm, D.imms, imms_ints, L2.atI, L2.ixN, two64, two62, sizeMax, q__law_is_true, b__law_is_true, q__law_tables, b__law_tables, P_imm2, P_20, P_21, P_22, P_23, e_lp, e_cl0, e_cl, partsP, headP, lastP, pt, w2, w1, q__law_part_table, b__law_part_table, size1, size2, size4, size8, h0, f1, f2, e_lzT, pairD, cutD, HT.sIx, partFl, intsD, List.range, List.range.loop, fEq_tnil, e_ne0, intsOf_nil, intsOf_cons, bits2_0, idx2_0, bits2_1, idx2_1, bits2_2, idx2_2, bits2_3, idx2_3, bits2_4, idx2_4, bits2_5, idx2_5, bits2_6, idx2_6, bits2_7, idx2_7, bn1, bn2, bx01, bx02, bx11, bx12, bx21, bx22, bx31, bx32, by01, by02, by11, by12, by21, by22, by31, by32]
  by_cases hd : ((((n - x0).fmod p * (n - x2).fmod p).fmod p * ((n - x1).fmod p * (n - x3).fmod p).fmod p).fmod p - (((n - y0).fmod p * (n - y2).fmod p).fmod p * ((n - y1).fmod p * (n - y3).fmod p).fmod p).fmod p).fmod p = 0 <;> simp [e_dnew, e_vals0, e_vals, k_vals, k_vc, e_disp, k_disp, e_dpop, k_dp0, k_dp1, k_dp2, k_dp3, repD_cons, e_get, k_gtS, k_gtN, D.flat, ofs_inj, fEq_str, e_dc, e_c2, k_cg, k_ge, e_lg0, e_lg, k_lg, e_stpD, k_s1, k_s2, k_s2F, k_s3, k_s4, e_stp2, k_t0, k_t1, k_t2, k_t3, key_str, key_int, getK_nil, getK_cons, putD_nil, putD_cons, e_upd, merge_nil, merge_cons, e_inD, e_setD, e_intup, inD_nil, inD_str, saveOk, hideAll, unhide, isTy, List.any_cons, List.any_nil, D.kd, e_for, k_for, e_lp0, k_lp, k_lpn, k_lpr, e_cm, k_cm, k_cmE, k_cl, k_cl2F, k_cl2T, k_cl3, e_rg1, k_rg1, e_itA, k_itL, k_itT, k_itF, e_zip, k_zpL, k_zpT, k_zp2L, k_zp2T, e_sl, e_agN, e_agS, e_chkI, k_chkI, e_slT00, e_slT01, e_slT10, e_slT11, e_slF01, e_listL, e_listT, e_listF, e_tupL, e_tupT, k_pf, e_mt, k_mt, e_app, e_ext, e_pop, k_pop, k_pop2, e_absI, e_augL, k_aug, k_aug2, k_aug3, e_mkF, k_finR, k_finN, e_bagSl, k_bag, k_bag2, startE, finals, e_seq, k_seq, k_seqr, e_set, k_set, e_par, k_par, k_par2, e_call, k_args, k_take, k_give, a_nil, a_val, k_val, k_cons, a_var, k_varA, t_nil, t_val, t_var, k_tk, k_tkV, g_nil, g_val, g_var, k_gvV, e_aug, e_var, e_mc, e_ret, k_ret, e_retV, e_pass, e_expr, k_expr, e_ifS, k_ifT, k_ifF, e_if, k_fT, k_fF, e_yes, e_setI, e_asg, k_asg, k_one, e_gname, e_of, k_of, e_not, k_not, e_and, k_andT, k_andF, e_or, k_orT, k_orF, e_gtup, e_gnil, e_gcons, k_gs, e_r1, k_r1, e_r2, k_r2, k_ix, e_sub, e_mod, e_div, e_pow, e_shl, e_cmp, e_lt, e_add, e_addI, e_addL, e_addT, e_mul, e_mulL, e_len1, e_len2, e_len3, e_int, e_intb, e_ixl, e_ixt, e_ixd1, e_ixd2, e_setL, fEq_int, fNe_int, gTup, gLst, flags, D.imm, D.imms, imms_ints, L2.atI, L2.ixN, two64, two62, sizeMax, hd, P_imm2, e_cl0, e_cl, fEq_l1, fEq_l0]
end LF
namespace LF
open PySem
def hdP (b : Int) : D := .tup [pt "a" [.str "told", .int b], pt "b" [.str "told", .int b], pt "g" [.str "ask"], pt "j" (w2 "join" "a" "b")]
theorem lre0 (p : Int) : py__law_reordered [(.int p, true), (.int 0, true), (hdP 0, true)] = some (progP p 0, true, [some (.int p, true), some (.int 0, true), some (hdP 0, true)]) := by kernel_rfl
theorem lre1 (p : Int) : py__law_reordered [(.int p, true), (.int 1, true), (hdP 1, true)] = some (progP p 1, true, [some (.int p, true), some (.int 1, true), some (hdP 1, true)]) := by kernel_rfl
theorem lre2 (p : Int) : py__law_reordered [(.int p, true), (.int 2, true), (hdP 2, true)] = some (progP p 2, true, [some (.int p, true), some (.int 2, true), some (hdP 2, true)]) := by kernel_rfl
theorem re_5_0 : py_reordered_program [(.int 5, true), (.int 0, true)] = some (progP 5 0, true, [some (.int 5, true), some (.int 0, true)]) := by kernel_rfl
theorem re_5_1 : py_reordered_program [(.int 5, true), (.int 1, true)] = some (progP 5 1, true, [some (.int 5, true), some (.int 1, true)]) := by kernel_rfl
theorem re_5_2 : py_reordered_program [(.int 5, true), (.int 2, true)] = some (progP 5 2, true, [some (.int 5, true), some (.int 2, true)]) := by kernel_rfl
theorem re_7_0 : py_reordered_program [(.int 7, true), (.int 0, true)] = some (progP 7 0, true, [some (.int 7, true), some (.int 0, true)]) := by kernel_rfl
theorem re_7_1 : py_reordered_program [(.int 7, true), (.int 1, true)] = some (progP 7 1, true, [some (.int 7, true), some (.int 1, true)]) := by kernel_rfl
theorem re_7_2 : py_reordered_program [(.int 7, true), (.int 2, true)] = some (progP 7 2, true, [some (.int 7, true), some (.int 2, true)]) := by kernel_rfl
theorem re_11_0 : py_reordered_program [(.int 11, true), (.int 0, true)] = some (progP 11 0, true, [some (.int 11, true), some (.int 0, true)]) := by kernel_rfl
theorem re_11_1 : py_reordered_program [(.int 11, true), (.int 1, true)] = some (progP 11 1, true, [some (.int 11, true), some (.int 1, true)]) := by kernel_rfl
theorem re_11_2 : py_reordered_program [(.int 11, true), (.int 2, true)] = some (progP 11 2, true, [some (.int 11, true), some (.int 2, true)]) := by kernel_rfl
theorem re_31_0 : py_reordered_program [(.int 31, true), (.int 0, true)] = some (progP 31 0, true, [some (.int 31, true), some (.int 0, true)]) := by kernel_rfl
theorem re_31_1 : py_reordered_program [(.int 31, true), (.int 1, true)] = some (progP 31 1, true, [some (.int 31, true), some (.int 1, true)]) := by kernel_rfl
theorem re_31_2 : py_reordered_program [(.int 31, true), (.int 2, true)] = some (progP 31 2, true, [some (.int 31, true), some (.int 2, true)]) := by kernel_rfl
/-- a number among numbers -/
theorem inD_int (n : Int) : ∀ l : List Int, inD (.int n) (l.map .int) = decide (n ∈ l)
  | [] => by simp [inD]
  | x :: l => by
    have h := inD_int n l
    show (L2.eqV (.int x) (.int n) || inD (.int n) (l.map .int)) = _
    rw [h]
    simp [L2.eqV]
    by_cases h2 : x = n
    · simp [h2]
    · simp [h2, Ne.symm h2]
theorem flat_ints : ∀ l : List Int, (l.map D.int).all D.flat = true
  | [] => rfl
  | x :: l => flat_ints l
theorem in_ints (n : Int) (l : List Int) : fIn false (.int n) (.lst (l.map .int)) = some (.bl (decide (n ∈ l))) := by
  show (if (true && (l.map D.int).all D.flat) = true then some (D.bl (false != inD (.int n) (l.map .int))) else none) = _
  rw [flat_ints, inD_int]
  simp
theorem as_mem {p n : Int} {xs ys : List Int} {P : Nat} (hp : 1 < p) (hP : p = P) (hn : 0 ≤ n ∧ n < p) : decide (n ∈ asL p xs ys (nums P)) = decide (pr n xs % p = pr n ys % p) := by
  have h1 : n ∈ nums P := nums_mem.mpr (by omega)
  have e : n ∈ asL p xs ys (nums P) ↔ pr n xs % p = pr n ys % p := by
    unfold asL
    rw [List.mem_filter]
    rw [prd_mod (by omega) xs 1 (by omega) (by omega), prd_mod (by omega) ys 1 (by omega) (by omega), Int.one_mul, Int.one_mul, decide_eq_true_eq]
    exact ⟨fun z => z.2, fun z => ⟨h1, z⟩⟩
  exact decide_eq_decide.mpr e
theorem mm (a b p : Int) : (a % p * (b % p)) % p = (a * b) % p := (Int.mul_emod a b p).symm
theorem ist_0 {p n x0 y0 : Int} (hp : 0 < p) : decide (((n - x0).fmod p - (n - y0).fmod p).fmod p = 0) = decide (pr n [x0] % p = pr n [y0] % p) := test_eq hp (by rw [fm hp]; simp [pr]) (by rw [fm hp]; simp [pr])
theorem ist_1 {p n x0 x1 y0 y1 : Int} (hp : 0 < p) : decide ((((n - x0).fmod p * (n - x1).fmod p).fmod p - ((n - y0).fmod p * (n - y1).fmod p).fmod p).fmod p = 0) = decide (pr n [x0, x1] % p = pr n [y0, y1] % p) := test_eq hp (by simp only [fm hp, mm]; simp [pr]) (by simp only [fm hp, mm]; simp [pr])
theorem ist_2 {p n x0 x1 x2 x3 y0 y1 y2 y3 : Int} (hp : 0 < p) : decide (((((n - x0).fmod p * (n - x2).fmod p).fmod p * ((n - x1).fmod p * (n - x3).fmod p).fmod p).fmod p - (((n - y0).fmod p * (n - y2).fmod p).fmod p * ((n - y1).fmod p * (n - y3).fmod p).fmod p).fmod p).fmod p = 0) = decide (pr n [x0, x1, x2, x3] % p = pr n [y0, y1, y2, y3] % p) := test_eq hp (by simp only [fm hp, mm]; congr 1; simp [pr, Int.mul_assoc, Int.mul_left_comm]) (by simp only [fm hp, mm]; congr 1; simp [pr, Int.mul_assoc, Int.mul_left_comm])
end LF
namespace LF
open PySem
/-- one number is asked -/
def nB : SM := (mSeq (mSet 14 (mCall (gR2 (fIn false)) [.var 13, .var 11]))
  (mIfS (tNotM (tOf (mCall py__law_alike [.val (mCall gLst [.val (mCall py_is_true [.var 5, .var 12, .val (mCall gTup [.var 13])]), .val (mCall py__law_is_true [.var 5, .var 12, .val (mCall gTup [.var 13])])]), .val (mCall gLst [.var 14, .var 14])]))) (mRet (mC (.bl false))) (mPass)))
theorem nB_ok {P C : D} {ask : List Int} {n : Int} {d : Bool} (hP : P.imm = true) (hC : C.imm = true) (hd : decide (n ∈ ask) = d)
    (h2 : py_is_true [(P, true), (C, true), (.tup [.int n], true)] = some (.bl d, true, [some (P, true), some (C, true), some (.tup [.int n], true)]))
    (h3 : py__law_is_true [(P, true), (C, true), (.tup [.int n], true)] = some (.bl d, true, [some (P, true), some (C, true), some (.tup [.int n], true)]))
    (s0 s1 s2 s3 s4 s6 s7 s8 s9 s10 s14 s15 : Option Sl) :
    nB [s0, s1, s2, s3, s4, some ⟨P, true, false⟩, s6, s7, s8, s9, s10, some ⟨.lst (ask.map .int), true, false⟩, some ⟨C, true, false⟩, some ⟨.int n, true, false⟩, s14, s15] =
      some (.nx, [s0, s1, s2, s3, s4, some ⟨P, true, false⟩, s6, s7, s8, s9, s10, some ⟨.lst (ask.map .int), true, false⟩, some ⟨C, true, false⟩, some ⟨.int n, true, false⟩, some ⟨.bl d, true, false⟩, s15]) := by
  have hin := in_ints n ask
  rw [hd] at hin
  obtain ⟨o1, o2, ha⟩ := law_alike (d := .lst [.bl d, .bl d]) (d2 := .lst [.bl d, .bl d]) (b := true) (b2 := true) rfl rfl rfl rfl (by cases d <;> decide)
  simp [e_dnew, e_vals0, e_vals, k_vals, k_vc, e_disp, k_disp, e_dpop, k_dp0, k_dp1, k_dp2, k_dp3, repD_cons, e_get, k_gtS, k_gtN, D.flat, ofs_inj, fEq_str, e_dc, e_c2, k_cg, k_ge, e_lg0, e_lg, k_lg, e_stpD, k_s1, k_s2, k_s2F, k_s3, k_s4, e_stp2, k_t0, k_t1, k_t2, k_t3, key_str, key_int, getK_nil, getK_cons, putD_nil, putD_cons, e_upd, merge_nil, merge_cons, e_inD, e_setD, e_intup, inD_nil, inD_str, saveOk, hideAll, unhide, isTy, List.any_cons, List.any_nil, D.kd, e_for, k_for, e_lp0, k_lp, k_lpn, k_lpr, e_cm, k_cm, k_cmE, k_cl, k_cl2F, k_cl2T, k_cl3, e_rg1, k_rg1, e_itA, k_itL, k_itT, k_itF, e_zip, k_zpL, k_zpT, k_zp2L, k_zp2T, e_sl, e_agN, e_agS, e_chkI, k_chkI, e_slT00, e_slT01, e_slT10, e_slT11, e_slF01, e_listL, e_listT, e_listF, e_tupL, e_tupT, k_pf, e_mt, k_mt, e_app, e_ext, e_pop, k_pop, k_pop2, e_absI, e_augL, k_aug, k_aug2, k_aug3, e_mkF, k_finR, k_finN, e_bagSl, k_bag, k_bag2, startE, finals, e_seq, k_seq, k_seqr, e_set, k_set, e_par, k_par, k_par2, e_call, k_args, k_take, k_give, a_nil, a_val, k_val, k_cons, a_var, k_varA, t_nil, t_val, t_var, k_tk, k_tkV, g_nil, g_val, g_var, k_gvV, e_aug, e_var, e_mc, e_ret, k_ret, e_retV, e_pass, e_expr, k_expr, e_ifS, k_ifT, k_ifF, e_if, k_fT, k_fF, e_yes, e_setI, e_asg, k_asg, k_one, e_gname, e_of, k_of, e_not, k_not, e_and, k_andT, k_andF, e_or, k_orT, k_orF, e_gtup, e_gnil, e_gcons, k_gs, e_r1, k_r1, e_r2, k_r2, k_ix, e_sub, e_mod, e_div, e_pow, e_shl, e_cmp, e_lt, e_add, e_addI, e_addL, e_addT, e_mul, e_mulL, e_len1, e_len2, e_len3, e_int, e_intb, e_ixl, e_ixt, e_ixd1, e_ixd2, e_setL, fEq_int, fNe_int, gTup, gLst, flags, D.imm, D.imms, imms_ints, L2.atI, L2.ixN, two64, two62, sizeMax, nB, hP, hC, hin, h2, h3, ha]
theorem nums_loop {P C : D} {ask : List Int} {p : Nat} {dd : Int → Bool} (hP : P.imm = true) (hC : C.imm = true) (hd : ∀ n : Int, 0 ≤ n → n < p → decide (n ∈ ask) = dd n)
    (h2 : ∀ n : Int, 0 ≤ n → n < p → py_is_true [(P, true), (C, true), (.tup [.int n], true)] = some (.bl (dd n), true, [some (P, true), some (C, true), some (.tup [.int n], true)]))
    (h3 : ∀ n : Int, 0 ≤ n → n < p → py__law_is_true [(P, true), (C, true), (.tup [.int n], true)] = some (.bl (dd n), true, [some (P, true), some (C, true), some (.tup [.int n], true)]))
    (s0 s1 s2 s3 s4 s6 s7 s8 s9 s10 s13 s14 s15 : Option Sl) :
    ∃ t13 t14, loopM (mGName 13) true nB ((nums p).map .int) [s0, s1, s2, s3, s4, some ⟨P, true, false⟩, s6, s7, s8, s9, s10, some ⟨.lst (ask.map .int), true, false⟩, some ⟨C, true, false⟩, s13, s14, s15] =
      some (.nx, [s0, s1, s2, s3, s4, some ⟨P, true, false⟩, s6, s7, s8, s9, s10, some ⟨.lst (ask.map .int), true, false⟩, some ⟨C, true, false⟩, t13, t14, s15]) := by
  obtain ⟨e', ⟨t13, t14, rfl⟩, h⟩ := loop_inv (f := nB) (g := mGName 13) (fl := true) (I := fun e => ∃ t13 t14, e = [s0, s1, s2, s3, s4, some ⟨P, true, false⟩, s6, s7, s8, s9, s10, some ⟨.lst (ask.map .int), true, false⟩, some ⟨C, true, false⟩, t13, t14, s15]) (ds := (nums p).map .int) (e := [s0, s1, s2, s3, s4, some ⟨P, true, false⟩, s6, s7, s8, s9, s10, some ⟨.lst (ask.map .int), true, false⟩, some ⟨C, true, false⟩, s13, s14, s15]) (fun d hd' e he => by
    obtain ⟨t13, t14, rfl⟩ := he
    obtain ⟨n, hn, rfl⟩ := List.mem_map.mp hd'
    have hn' := nums_mem.mp hn
    exact ⟨_, _, rfl, nB_ok hP hC (hd n hn'.1 hn'.2) (h2 n hn'.1 hn'.2) (h3 n hn'.1 hn'.2) _ _ _ _ _ _ _ _ _ _ _ _, _, _, rfl⟩) ⟨_, _, rfl⟩
  exact ⟨t13, t14, h⟩
/-- one other row -/
def oB1 : SM := (mPar 10 11 (mCall (gR2 (fEq false)) [.val (mCall gSorted [.var 6]), .val (mCall gSorted [.var 9])]) (mCall py__law_same_asks [.var 3, .var 6, .var 9]))
def oB2 : SM := (mIfS (tNotM (tOf (mCall py__law_alike [.val (mCall gLst [.val (mCall py_are_reordered [.var 6, .var 9]), .val (mCall py_asks_for [.var 3, .var 6, .var 9])]), .val (mCall gLst [.var 10, .val (mCall gTuple [.var 11])])]))) (mRet (mC (.bl false))) (mPass))
def oB3 : SM := (mIfS (tOrM (tOf (mCall (gR2 (fEq true)) [.var 10, .val (mCall (gR2 (fEq false)) [.val (mCall gLen [.var 11]), .var 3])])) (tAndM (tNotM (tOf (mVar 10))) (tAndM (tOf (mCall (gR2 (fCmp fun i j => decide (j < i))) [.val (mCall gLen [.var 11]), .val (mCall (gR2 fSub) [.val (mCall (gR2 fShl) [.val (mC (.int 1)), .var 4]), .val (mC (.int 1))])])) (tOf (mCall (gR2 (fCmp fun i j => decide (j ≤ i))) [.var 3, .val (mCall (gR2 fShl) [.val (mC (.int 1)), .var 4])]))))) (mRet (mC (.bl false))) (mPass))
def oB4 : SM := (mSet 12 (mCall gTup [.val (mCall gTup [.var 6, .var 9]), .val (mCall gTup []), .val (mCall gTup [])]))
def oB5 : SM := (mFor (mRange1 (mVar 3)) (mGName 13) nB)
def oB : SM := mSeq oB1 (mSeq oB2 (mSeq oB3 (mSeq oB4 oB5)))
def clm (xs ys : List Int) : D := .tup [.tup [.tup (xs.map .int), .tup (ys.map .int)], .tup [], .tup []]
theorem fzs_ints : ∀ l : List Int, D.fzs (l.map .int) = l.map .int
  | [] => rfl
  | x :: l => by show D.fz (.int x) :: D.fzs (l.map .int) = _; rw [fzs_ints l]; rfl
theorem plains_ints : ∀ l : List Int, D.plains (l.map .int) = true
  | [] => rfl
  | x :: l => by show (true && D.plains (l.map .int)) = true; rw [plains_ints l]; rfl
theorem okSs_ints : ∀ l : List Int, D.okSs (l.map .int) = true
  | [] => rfl
  | x :: l => by show (true && D.okSs (l.map .int)) = true; rw [okSs_ints l]; rfl
theorem knots_ints : ∀ l : List Int, D.knotsL (l.map .int) = l.length
  | [] => rfl
  | x :: l => by show 1 + D.knotsL (l.map .int) = l.length + 1; rw [knots_ints l]; omega
theorem oB1_ok {P : D} {p : Nat} {K : Int} {xs ys : List Int} (hp : 1 < p) (hp2 : p ≤ 3000) (hl : xs.length = ys.length) (s0 s1 s2 s7 s8 s10 s11 s12 s13 s14 s15 : Option Sl) : oB1 [s0, s1, s2, some ⟨.int p, true, false⟩, some ⟨.int K, true, false⟩, some ⟨P, true, false⟩, some ⟨.tup (xs.map .int), true, false⟩, s7, s8, some ⟨.tup (ys.map .int), true, false⟩, s10, s11, s12, s13, s14, s15] = some (.nx, [s0, s1, s2, some ⟨.int p, true, false⟩, some ⟨.int K, true, false⟩, some ⟨P, true, false⟩, some ⟨.tup (xs.map .int), true, false⟩, s7, s8, some ⟨.tup (ys.map .int), true, false⟩, some ⟨.bl (decide (srtI xs = srtI ys)), true, false⟩, some ⟨.lst ((asL p xs ys (nums p)).map .int), true, false⟩, s12, s13, s14, s15]) := by
  have e1 := same_asks_is (p := (p : Int)) (by omega) (by omega) xs ys hl
  rw [Int.toNat_natCast] at e1
  simp [e_dnew, e_vals0, e_vals, k_vals, k_vc, e_disp, k_disp, e_dpop, k_dp0, k_dp1, k_dp2, k_dp3, repD_cons, e_get, k_gtS, k_gtN, D.flat, ofs_inj, fEq_str, e_dc, e_c2, k_cg, k_ge, e_lg0, e_lg, k_lg, e_stpD, k_s1, k_s2, k_s2F, k_s3, k_s4, e_stp2, k_t0, k_t1, k_t2, k_t3, key_str, key_int, getK_nil, getK_cons, putD_nil, putD_cons, e_upd, merge_nil, merge_cons, e_inD, e_setD, e_intup, inD_nil, inD_str, saveOk, hideAll, unhide, isTy, List.any_cons, List.any_nil, D.kd, e_for, k_for, e_lp0, k_lp, k_lpn, k_lpr, e_cm, k_cm, k_cmE, k_cl, k_cl2F, k_cl2T, k_cl3, e_rg1, k_rg1, e_itA, k_itL, k_itT, k_itF, e_zip, k_zpL, k_zpT, k_zp2L, k_zp2T, e_sl, e_agN, e_agS, e_chkI, k_chkI, e_slT00, e_slT01, e_slT10, e_slT11, e_slF01, e_listL, e_listT, e_listF, e_tupL, e_tupT, k_pf, e_mt, k_mt, e_app, e_ext, e_pop, k_pop, k_pop2, e_absI, e_augL, k_aug, k_aug2, k_aug3, e_mkF, k_finR, k_finN, e_bagSl, k_bag, k_bag2, startE, finals, e_seq, k_seq, k_seqr, e_set, k_set, e_par, k_par, k_par2, e_call, k_args, k_take, k_give, a_nil, a_val, k_val, k_cons, a_var, k_varA, t_nil, t_val, t_var, k_tk, k_tkV, g_nil, g_val, g_var, k_gvV, e_aug, e_var, e_mc, e_ret, k_ret, e_retV, e_pass, e_expr, k_expr, e_ifS, k_ifT, k_ifF, e_if, k_fT, k_fF, e_yes, e_setI, e_asg, k_asg, k_one, e_gname, e_of, k_of, e_not, k_not, e_and, k_andT, k_andF, e_or, k_orT, k_orF, e_gtup, e_gnil, e_gcons, k_gs, e_r1, k_r1, e_r2, k_r2, k_ix, e_sub, e_mod, e_div, e_pow, e_shl, e_cmp, e_lt, e_add, e_addI, e_addL, e_addT, e_mul, e_mulL, e_len1, e_len2, e_len3, e_int, e_intb, e_ixl, e_ixt, e_ixd1, e_ixd2, e_setL, fEq_int, fNe_int, gTup, gLst, flags, D.imm, D.imms, imms_ints, L2.atI, L2.ixN, two64, two62, sizeMax, oB1, gSorted, intsOf_map, fEq_lints, e1]
theorem oB2_ok {P : D} {p : Nat} {K : Int} {xs ys : List Int} (hp : 1 < p) (hp2 : p ≤ 3000) (hl : xs.length = ys.length) (hP : P.imm = true) (s0 s1 s2 s7 s8 s10 s11 s12 s13 s14 s15 : Option Sl) : oB2 [s0, s1, s2, some ⟨.int p, true, false⟩, some ⟨.int K, true, false⟩, some ⟨P, true, false⟩, some ⟨.tup (xs.map .int), true, false⟩, s7, s8, some ⟨.tup (ys.map .int), true, false⟩, some ⟨.bl (decide (srtI xs = srtI ys)), true, false⟩, some ⟨.lst ((asL p xs ys (nums p)).map .int), true, false⟩, s12, s13, s14, s15] = some (.nx, [s0, s1, s2, some ⟨.int p, true, false⟩, some ⟨.int K, true, false⟩, some ⟨P, true, false⟩, some ⟨.tup (xs.map .int), true, false⟩, s7, s8, some ⟨.tup (ys.map .int), true, false⟩, some ⟨.bl (decide (srtI xs = srtI ys)), true, false⟩, some ⟨.lst ((asL p xs ys (nums p)).map .int), true, false⟩, s12, s13, s14, s15]) := by
  have hal : (asL p xs ys (nums p)).length ≤ p := by
    have := List.length_filter_le (fun n => decide (prd p n 1 xs = prd p n 1 ys)) (nums p)
    rw [nums_len] at this
    exact this
  have e2 := asks_for_is (p := (p : Int)) (by omega) (by omega) xs ys hl
  have e3 := reordered_is xs ys
  rw [Int.toNat_natCast] at e2
  obtain ⟨o1, o2, e4⟩ := law_alike (d := .lst [.bl (decide (srtI xs = srtI ys)), .tup ((asL p xs ys (nums p)).map .int)]) (d2 := .lst [.bl (decide (srtI xs = srtI ys)), .tup ((asL p xs ys (nums p)).map .int)]) (b := true) (b2 := true) (by simp [D.plain, D.plains, plains_ints]) (by simp [D.plain, D.plains, plains_ints]) rfl (by simp [D.fz, D.fzs, fzs_ints, D.okS, D.okSs, okSs_ints]) (by
    show 1 + (1 + ((1 + D.knotsL (D.fzs ((asL p xs ys (nums p)).map .int))) + 0)) < 100000
    rw [fzs_ints, knots_ints]
    omega)
  generalize decide (srtI xs = srtI ys) = sm at *
  generalize asL p xs ys (nums p) = ask at *
  simp [e_dnew, e_vals0, e_vals, k_vals, k_vc, e_disp, k_disp, e_dpop, k_dp0, k_dp1, k_dp2, k_dp3, repD_cons, e_get, k_gtS, k_gtN, D.flat, ofs_inj, fEq_str, e_dc, e_c2, k_cg, k_ge, e_lg0, e_lg, k_lg, e_stpD, k_s1, k_s2, k_s2F, k_s3, k_s4, e_stp2, k_t0, k_t1, k_t2, k_t3, key_str, key_int, getK_nil, getK_cons, putD_nil, putD_cons, e_upd, merge_nil, merge_cons, e_inD, e_setD, e_intup, inD_nil, inD_str, saveOk, hideAll, unhide, isTy, List.any_cons, List.any_nil, D.kd, e_for, k_for, e_lp0, k_lp, k_lpn, k_lpr, e_cm, k_cm, k_cmE, k_cl, k_cl2F, k_cl2T, k_cl3, e_rg1, k_rg1, e_itA, k_itL, k_itT, k_itF, e_zip, k_zpL, k_zpT, k_zp2L, k_zp2T, e_sl, e_agN, e_agS, e_chkI, k_chkI, e_slT00, e_slT01, e_slT10, e_slT11, e_slF01, e_listL, e_listT, e_listF, e_tupL, e_tupT, k_pf, e_mt, k_mt, e_app, e_ext, e_pop, k_pop, k_pop2, e_absI, e_augL, k_aug, k_aug2, k_aug3, e_mkF, k_finR, k_finN, e_bagSl, k_bag, k_bag2, startE, finals, e_seq, k_seq, k_seqr, e_set, k_set, e_par, k_par, k_par2, e_call, k_args, k_take, k_give, a_nil, a_val, k_val, k_cons, a_var, k_varA, t_nil, t_val, t_var, k_tk, k_tkV, g_nil, g_val, g_var, k_gvV, e_aug, e_var, e_mc, e_ret, k_ret, e_retV, e_pass, e_expr, k_expr, e_ifS, k_ifT, k_ifF, e_if, k_fT, k_fF, e_yes, e_setI, e_asg, k_asg, k_one, e_gname, e_of, k_of, e_not, k_not, e_and, k_andT, k_andF, e_or, k_orT, k_orF, e_gtup, e_gnil, e_gcons, k_gs, e_r1, k_r1, e_r2, k_r2, k_ix, e_sub, e_mod, e_div, e_pow, e_shl, e_cmp, e_lt, e_add, e_addI, e_addL, e_addT, e_mul, e_mulL, e_len1, e_len2, e_len3, e_int, e_intb, e_ixl, e_ixt, e_ixd1, e_ixd2, e_setL, fEq_int, fNe_int, gTup, gLst, flags, D.imm, D.imms, imms_ints, L2.atI, L2.ixN, two64, two62, sizeMax, oB2, e2, e3, e4, partFl]
theorem oB3_ok {P : D} {p : Nat} {K : Int} {xs ys ask : List Int} {sm : Bool} (hK : (2 : Int) ^ K.toNat = xs.length) (hK1 : 0 ≤ K) (hK2 : K ≤ 1000000)
    (hlaw : (sm = true ∧ ask.length = p) ∨ (sm = false ∧ ask.length < xs.length)) (hxp : xs.length ≤ p) (s0 s1 s2 s7 s8 s10 s11 s12 s13 s14 s15 : Option Sl) :
    oB3 [s0, s1, s2, some ⟨.int p, true, false⟩, some ⟨.int K, true, false⟩, some ⟨P, true, false⟩, some ⟨.tup (xs.map .int), true, false⟩, s7, s8, some ⟨.tup (ys.map .int), true, false⟩, some ⟨.bl sm, true, false⟩, some ⟨.lst (ask.map .int), true, false⟩, s12, s13, s14, s15] = some (.nx, [s0, s1, s2, some ⟨.int p, true, false⟩, some ⟨.int K, true, false⟩, some ⟨P, true, false⟩, some ⟨.tup (xs.map .int), true, false⟩, s7, s8, some ⟨.tup (ys.map .int), true, false⟩, some ⟨.bl sm, true, false⟩, some ⟨.lst (ask.map .int), true, false⟩, s12, s13, s14, s15]) := by
  have hS : fShl (.int 1) (.int K) = some (.int (xs.length : Nat)) := by
    rw [e_shl, if_pos ⟨hK1, hK2, by decide⟩, Int.one_mul, hK]
  rcases hlaw with ⟨rfl, hlen⟩ | ⟨rfl, hlen⟩
  · have h1 : (ask.length : Int) = p := by omega
    simp [e_dnew, e_vals0, e_vals, k_vals, k_vc, e_disp, k_disp, e_dpop, k_dp0, k_dp1, k_dp2, k_dp3, repD_cons, e_get, k_gtS, k_gtN, D.flat, ofs_inj, fEq_str, e_dc, e_c2, k_cg, k_ge, e_lg0, e_lg, k_lg, e_stpD, k_s1, k_s2, k_s2F, k_s3, k_s4, e_stp2, k_t0, k_t1, k_t2, k_t3, key_str, key_int, getK_nil, getK_cons, putD_nil, putD_cons, e_upd, merge_nil, merge_cons, e_inD, e_setD, e_intup, inD_nil, inD_str, saveOk, hideAll, unhide, isTy, List.any_cons, List.any_nil, D.kd, e_for, k_for, e_lp0, k_lp, k_lpn, k_lpr, e_cm, k_cm, k_cmE, k_cl, k_cl2F, k_cl2T, k_cl3, e_rg1, k_rg1, e_itA, k_itL, k_itT, k_itF, e_zip, k_zpL, k_zpT, k_zp2L, k_zp2T, e_sl, e_agN, e_agS, e_chkI, k_chkI, e_slT00, e_slT01, e_slT10, e_slT11, e_slF01, e_listL, e_listT, e_listF, e_tupL, e_tupT, k_pf, e_mt, k_mt, e_app, e_ext, e_pop, k_pop, k_pop2, e_absI, e_augL, k_aug, k_aug2, k_aug3, e_mkF, k_finR, k_finN, e_bagSl, k_bag, k_bag2, startE, finals, e_seq, k_seq, k_seqr, e_set, k_set, e_par, k_par, k_par2, e_call, k_args, k_take, k_give, a_nil, a_val, k_val, k_cons, a_var, k_varA, t_nil, t_val, t_var, k_tk, k_tkV, g_nil, g_val, g_var, k_gvV, e_aug, e_var, e_mc, e_ret, k_ret, e_retV, e_pass, e_expr, k_expr, e_ifS, k_ifT, k_ifF, e_if, k_fT, k_fF, e_yes, e_setI, e_asg, k_asg, k_one, e_gname, e_of, k_of, e_not, k_not, e_and, k_andT, k_andF, e_or, k_orT, k_orF, e_gtup, e_gnil, e_gcons, k_gs, e_r1, k_r1, e_r2, k_r2, k_ix, e_sub, e_mod, e_div, e_pow, e_cmp, e_lt, e_add, e_addI, e_addL, e_addT, e_mul, e_mulL, e_len1, e_len2, e_len3, e_int, e_intb, e_ixl, e_ixt, e_ixd1, e_ixd2, e_setL, fEq_int, fNe_int, gTup, gLst, flags, D.imm, D.imms, imms_ints, L2.atI, L2.ixN, two64, two62, sizeMax, oB3, fNe_bl, h1]
  · have hlt : ((ask.length : Int) = p) = False := eq_false (by omega)
    have hlt2 : ¬ ((xs.length : Int) - 1 < ask.length) := by omega
    simp [e_dnew, e_vals0, e_vals, k_vals, k_vc, e_disp, k_disp, e_dpop, k_dp0, k_dp1, k_dp2, k_dp3, repD_cons, e_get, k_gtS, k_gtN, D.flat, ofs_inj, fEq_str, e_dc, e_c2, k_cg, k_ge, e_lg0, e_lg, k_lg, e_stpD, k_s1, k_s2, k_s2F, k_s3, k_s4, e_stp2, k_t0, k_t1, k_t2, k_t3, key_str, key_int, getK_nil, getK_cons, putD_nil, putD_cons, e_upd, merge_nil, merge_cons, e_inD, e_setD, e_intup, inD_nil, inD_str, saveOk, hideAll, unhide, isTy, List.any_cons, List.any_nil, D.kd, e_for, k_for, e_lp0, k_lp, k_lpn, k_lpr, e_cm, k_cm, k_cmE, k_cl, k_cl2F, k_cl2T, k_cl3, e_rg1, k_rg1, e_itA, k_itL, k_itT, k_itF, e_zip, k_zpL, k_zpT, k_zp2L, k_zp2T, e_sl, e_agN, e_agS, e_chkI, k_chkI, e_slT00, e_slT01, e_slT10, e_slT11, e_slF01, e_listL, e_listT, e_listF, e_tupL, e_tupT, k_pf, e_mt, k_mt, e_app, e_ext, e_pop, k_pop, k_pop2, e_absI, e_augL, k_aug, k_aug2, k_aug3, e_mkF, k_finR, k_finN, e_bagSl, k_bag, k_bag2, startE, finals, e_seq, k_seq, k_seqr, e_set, k_set, e_par, k_par, k_par2, e_call, k_args, k_take, k_give, a_nil, a_val, k_val, k_cons, a_var, k_varA, t_nil, t_val, t_var, k_tk, k_tkV, g_nil, g_val, g_var, k_gvV, e_aug, e_var, e_mc, e_ret, k_ret, e_retV, e_pass, e_expr, k_expr, e_ifS, k_ifT, k_ifF, e_if, k_fT, k_fF, e_yes, e_setI, e_asg, k_asg, k_one, e_gname, e_of, k_of, e_not, k_not, e_and, k_andT, k_andF, e_or, k_orT, k_orF, e_gtup, e_gnil, e_gcons, k_gs, e_r1, k_r1, e_r2, k_r2, k_ix, e_sub, e_mod, e_div, e_pow, e_cmp, e_lt, e_add, e_addI, e_addL, e_addT, e_mul, e_mulL, e_len1, e_len2, e_len3, e_int, e_intb, e_ixl, e_ixt, e_ixd1, e_ixd2, e_setL, fEq_int, fNe_int, gTup, gLst, flags, D.imm, D.imms, imms_ints, L2.atI, L2.ixN, two64, two62, sizeMax, oB3, fNe_bl, hlt, hlt2, hS]
theorem oB4_ok {P : D} {p : Nat} {K : Int} {xs ys : List Int} (s0 s1 s2 s7 s8 s10 s11 s12 s13 s14 s15 : Option Sl) : oB4 [s0, s1, s2, some ⟨.int p, true, false⟩, some ⟨.int K, true, false⟩, some ⟨P, true, false⟩, some ⟨.tup (xs.map .int), true, false⟩, s7, s8, some ⟨.tup (ys.map .int), true, false⟩, s10, s11, s12, s13, s14, s15] = some (.nx, [s0, s1, s2, some ⟨.int p, true, false⟩, some ⟨.int K, true, false⟩, some ⟨P, true, false⟩, some ⟨.tup (xs.map .int), true, false⟩, s7, s8, some ⟨.tup (ys.map .int), true, false⟩, s10, s11, some ⟨clm xs ys, true, false⟩, s13, s14, s15]) := by
  simp [e_dnew, e_vals0, e_vals, k_vals, k_vc, e_disp, k_disp, e_dpop, k_dp0, k_dp1, k_dp2, k_dp3, repD_cons, e_get, k_gtS, k_gtN, D.flat, ofs_inj, fEq_str, e_dc, e_c2, k_cg, k_ge, e_lg0, e_lg, k_lg, e_stpD, k_s1, k_s2, k_s2F, k_s3, k_s4, e_stp2, k_t0, k_t1, k_t2, k_t3, key_str, key_int, getK_nil, getK_cons, putD_nil, putD_cons, e_upd, merge_nil, merge_cons, e_inD, e_setD, e_intup, inD_nil, inD_str, saveOk, hideAll, unhide, isTy, List.any_cons, List.any_nil, D.kd, e_for, k_for, e_lp0, k_lp, k_lpn, k_lpr, e_cm, k_cm, k_cmE, k_cl, k_cl2F, k_cl2T, k_cl3, e_rg1, k_rg1, e_itA, k_itL, k_itT, k_itF, e_zip, k_zpL, k_zpT, k_zp2L, k_zp2T, e_sl, e_agN, e_agS, e_chkI, k_chkI, e_slT00, e_slT01, e_slT10, e_slT11, e_slF01, e_listL, e_listT, e_listF, e_tupL, e_tupT, k_pf, e_mt, k_mt, e_app, e_ext, e_pop, k_pop, k_pop2, e_absI, e_augL, k_aug, k_aug2, k_aug3, e_mkF, k_finR, k_finN, e_bagSl, k_bag, k_bag2, startE, finals, e_seq, k_seq, k_seqr, e_set, k_set, e_par, k_par, k_par2, e_call, k_args, k_take, k_give, a_nil, a_val, k_val, k_cons, a_var, k_varA, t_nil, t_val, t_var, k_tk, k_tkV, g_nil, g_val, g_var, k_gvV, e_aug, e_var, e_mc, e_ret, k_ret, e_retV, e_pass, e_expr, k_expr, e_ifS, k_ifT, k_ifF, e_if, k_fT, k_fF, e_yes, e_setI, e_asg, k_asg, k_one, e_gname, e_of, k_of, e_not, k_not, e_and, k_andT, k_andF, e_or, k_orT, k_orF, e_gtup, e_gnil, e_gcons, k_gs, e_r1, k_r1, e_r2, k_r2, k_ix, e_sub, e_mod, e_div, e_pow, e_shl, e_cmp, e_lt, e_add, e_addI, e_addL, e_addT, e_mul, e_mulL, e_len1, e_len2, e_len3, e_int, e_intb, e_ixl, e_ixt, e_ixd1, e_ixd2, e_setL, fEq_int, fNe_int, gTup, gLst, flags, D.imm, D.imms, imms_ints, L2.atI, L2.ixN, two64, two62, sizeMax, oB4, clm]
theorem oB_ok {P : D} {p : Nat} {K : Int} {xs ys : List Int} (hp : 1 < p) (hp2 : p ≤ 3000) (hl : xs.length = ys.length) (hK : (2 : Int) ^ K.toNat = xs.length) (hK1 : 0 ≤ K) (hK2 : K ≤ 1000000)
    (hlaw : (srtI xs = srtI ys ∧ (asL p xs ys (nums p)).length = p) ∨ (srtI xs ≠ srtI ys ∧ (asL p xs ys (nums p)).length < xs.length)) (hxp : xs.length ≤ p) (hP : P.imm = true)
    (h2 : ∀ n : Int, 0 ≤ n → n < p → py_is_true [(P, true), (clm xs ys, true), (.tup [.int n], true)] = some (.bl (decide (n ∈ asL p xs ys (nums p))), true, [some (P, true), some (clm xs ys, true), some (.tup [.int n], true)]))
    (h3 : ∀ n : Int, 0 ≤ n → n < p → py__law_is_true [(P, true), (clm xs ys, true), (.tup [.int n], true)] = some (.bl (decide (n ∈ asL p xs ys (nums p))), true, [some (P, true), some (clm xs ys, true), some (.tup [.int n], true)]))
    (s0 s1 s2 s7 s8 s10 s11 s12 s13 s14 s15 : Option Sl) :
    ∃ t10 t11 t12 t13 t14, oB [s0, s1, s2, some ⟨.int p, true, false⟩, some ⟨.int K, true, false⟩, some ⟨P, true, false⟩, some ⟨.tup (xs.map .int), true, false⟩, s7, s8, some ⟨.tup (ys.map .int), true, false⟩, s10, s11, s12, s13, s14, s15] = some (.nx, [s0, s1, s2, some ⟨.int p, true, false⟩, some ⟨.int K, true, false⟩, some ⟨P, true, false⟩, some ⟨.tup (xs.map .int), true, false⟩, s7, s8, some ⟨.tup (ys.map .int), true, false⟩, t10, t11, t12, t13, t14, s15]) := by
  have hCi : (clm xs ys).imm = true := by simp [clm, D.imm, D.imms, imms_ints]
  obtain ⟨t13, t14, hn⟩ := nums_loop (P := P) (C := clm xs ys) (ask := asL p xs ys (nums p)) (p := p) (dd := fun n => decide (n ∈ asL p xs ys (nums p))) hP hCi (fun n _ _ => rfl) h2 h3 s0 s1 s2 (some ⟨.int p, true, false⟩) (some ⟨.int K, true, false⟩) (some ⟨.tup (xs.map .int), true, false⟩) s7 s8 (some ⟨.tup (ys.map .int), true, false⟩) (some ⟨.bl (decide (srtI xs = srtI ys)), true, false⟩) s13 s14 s15
  have g1 : (-4611686018427387904 : Int) ≤ p := by omega
  have g2 : (p : Int) < 4611686018427387904 := by omega
  have h5 : oB5 [s0, s1, s2, some ⟨.int p, true, false⟩, some ⟨.int K, true, false⟩, some ⟨P, true, false⟩, some ⟨.tup (xs.map .int), true, false⟩, s7, s8, some ⟨.tup (ys.map .int), true, false⟩, some ⟨.bl (decide (srtI xs = srtI ys)), true, false⟩, some ⟨.lst ((asL p xs ys (nums p)).map .int), true, false⟩, some ⟨clm xs ys, true, false⟩, s13, s14, s15] = some (.nx, [s0, s1, s2, some ⟨.int p, true, false⟩, some ⟨.int K, true, false⟩, some ⟨P, true, false⟩, some ⟨.tup (xs.map .int), true, false⟩, s7, s8, some ⟨.tup (ys.map .int), true, false⟩, some ⟨.bl (decide (srtI xs = srtI ys)), true, false⟩, some ⟨.lst ((asL p xs ys (nums p)).map .int), true, false⟩, some ⟨clm xs ys, true, false⟩, t13, t14, s15]) := by
    rw [← hn]
    show mFor _ _ _ _ = _
    rw [e_for, e_rg1]
    show kFor _ _ (kR1g (some (.int p, true, _))) = _
    rw [k_rg1, if_pos ⟨g1, g2⟩, k_for, Int.toNat_natCast, intsD_nums]
  refine ⟨some ⟨.bl (decide (srtI xs = srtI ys)), true, false⟩, some ⟨.lst ((asL p xs ys (nums p)).map .int), true, false⟩, some ⟨clm xs ys, true, false⟩, t13, t14, ?_⟩
  · unfold oB
    rw [e_seq, oB1_ok hp hp2 hl, k_seq, e_seq, oB2_ok hp hp2 hl hP, k_seq, e_seq, oB3_ok hK hK1 hK2 (hlaw.elim (fun z => .inl ⟨decide_eq_true z.1, z.2⟩) (fun z => .inr ⟨decide_eq_false z.1, z.2⟩)) hxp, k_seq, e_seq, oB4_ok, k_seq, h5]
    all_goals exact none
end LF
namespace LF
open PySem
def tB1 : SM := (mAsg (mCall gTup [.val (mCall py__law_some [.var 1, .val (mCall gLst [.val (mC (.int 5)), .val (mC (.int 7)), .val (mC (.int 11)), .val (mC (.int 31))])]), .val (mCall py__law_take [.var 1, .val (mC (.int 3))])]) (mGTup 2 (mGCons (mGName 3) (mGCons (mGName 4) (mGNil)))))
def tB2 : SM := (mSet 5 (mCall py__law_reordered [.var 3, .var 4, .val (mCall gTup [.val (mCall gTup [.val (mC (.str "a")), .val (mCall gTup [.val (mC (.str "told")), .var 4])]), .val (mCall gTup [.val (mC (.str "b")), .val (mCall gTup [.val (mC (.str "told")), .var 4])]), .val (mCall gTup [.val (mC (.str "g")), .val (mCall gTup [.val (mC (.str "ask"))])]), .val (mCall gTup [.val (mC (.str "j")), .val (mCall gTup [.val (mC (.str "join")), .val (mC (.str "a")), .val (mC (.str "b"))])])])]))
def tB3 : SM := (mIfS (tNotM (tOf (mCall py__law_alike [.val (mCall py_reordered_program [.var 3, .var 4]), .var 5]))) (mRet (mC (.bl false))) (mPass))
def tB4 : SM := (mSet 6 (mCall gTuple [.val (mComp [7] (mRange1 (mCall (gR2 fShl) [.val (mC (.int 1)), .var 4])) (mGName 7) (mYes) (mCall py__law_take [.var 1, .var 3]))]))
def tB5 : SM := (mSet 7 (mCall py__law_take [.var 1, .val (mCall gLen [.var 6])]))
def tB6 : SM := (mSet 8 (mCall gLst [.val (mCall gTuple [.val (mCall py__law_mixed [.var 1, .val (mCall gList [.var 6])])]), .val (mCall (gAdd) [.val (mCall (gAdd) [.val (mSlice (.var 6) none (some (mVar 7))), .val (mCall gTup [.val (mCall (gR2 fMod) [.val (mCall gInt [.val (mCall (gAdd) [.val (mCall gIx [.var 6, .var 7]), .val (mC (.int 1))])]), .var 3])])]), .val (mSlice (.var 6) (some (mCall (gAdd) [.var 7, .val (mC (.int 1))])) none)]), .val (mCall gTuple [.val (mComp [15] (mIterA (mVar 6)) (mGName 15) (mYes) (mCall py__law_take [.var 1, .var 3]))])]))
def tB7 : SM := (mFor (mIterA (mVar 8)) (mGName 9) oB)
def tB : SM := mSeq tB1 (mSeq tB2 (mSeq tB3 (mSeq tB4 (mSeq tB5 (mSeq tB6 tB7)))))
theorem law_is : b_law = mSeq (mSet 1 (mCall py__law_bag [.var 0])) (mSeq (mFor (mRange1 (mC (.int 4))) (mGName 2) tB) (mRet (mC (.bl true)))) := rfl
section
variable {b : D} (s0 s2 s3 s4 s5 s6 s7 s8 s9 s10 s11 s12 s13 s14 s15 : Option Sl)
theorem tB1_ok (hb : Bag b) : ∃ (b' : D) (p K : Int), Bag b' ∧ p ∈ [(5 : Int), 7, 11, 31] ∧ 0 ≤ K ∧ K < 3 ∧ tB1 [s0, some ⟨b, true, false⟩, s2, s3, s4, s5, s6, s7, s8, s9, s10, s11, s12, s13, s14, s15] =
    some (.nx, [s0, some ⟨b', true, false⟩, s2, some ⟨.int p, true, false⟩, some ⟨.int K, true, false⟩, s5, s6, s7, s8, s9, s10, s11, s12, s13, s14, s15]) := by
  obtain ⟨b1, p, hb1, hp, h1⟩ := law_some hb [5, 7, 11, 31] (by decide) (by decide)
  obtain ⟨K, b2, hK0, hK1, hb2, h2⟩ := bag_take (m := 3) hb1 (by decide) (by decide)
  have i0 := hb.imm
  have i1 := hb1.imm
  have i2 := hb2.imm
  refine ⟨b2, p, K, hb2, hp, hK0, hK1, ?_⟩
  simp only [List.map_cons, List.map_nil] at h1
  simp [e_dnew, e_vals0, e_vals, k_vals, k_vc, e_disp, k_disp, e_dpop, k_dp0, k_dp1, k_dp2, k_dp3, repD_cons, e_get, k_gtS, k_gtN, D.flat, ofs_inj, fEq_str, e_dc, e_c2, k_cg, k_ge, e_lg0, e_lg, k_lg, e_stpD, k_s1, k_s2, k_s2F, k_s3, k_s4, e_stp2, k_t0, k_t1, k_t2, k_t3, key_str, key_int, getK_nil, getK_cons, putD_nil, putD_cons, e_upd, merge_nil, merge_cons, e_inD, e_setD, e_intup, inD_nil, inD_str, saveOk, hideAll, unhide, isTy, List.any_cons, List.any_nil, D.kd, e_for, k_for, e_lp0, k_lp, k_lpn, k_lpr, e_cm, k_cm, k_cmE, k_cl, k_cl2F, k_cl2T, k_cl3, e_rg1, k_rg1, e_itA, k_itL, k_itT, k_itF, e_zip, k_zpL, k_zpT, k_zp2L, k_zp2T, e_sl, e_agN, e_agS, e_chkI, k_chkI, e_slT00, e_slT01, e_slT10, e_slT11, e_slF01, e_listL, e_listT, e_listF, e_tupL, e_tupT, k_pf, e_mt, k_mt, e_app, e_ext, e_pop, k_pop, k_pop2, e_absI, e_augL, k_aug, k_aug2, k_aug3, e_mkF, k_finR, k_finN, e_bagSl, k_bag, k_bag2, startE, finals, e_seq, k_seq, k_seqr, e_set, k_set, e_par, k_par, k_par2, e_call, k_args, k_take, k_give, a_nil, a_val, k_val, k_cons, a_var, k_varA, t_nil, t_val, t_var, k_tk, k_tkV, g_nil, g_val, g_var, k_gvV, e_aug, e_var, e_mc, e_ret, k_ret, e_retV, e_pass, e_expr, k_expr, e_ifS, k_ifT, k_ifF, e_if, k_fT, k_fF, e_yes, e_setI, e_asg, k_asg, k_one, e_gname, e_of, k_of, e_not, k_not, e_and, k_andT, k_andF, e_or, k_orT, k_orF, e_gtup, e_gnil, e_gcons, k_gs, e_r1, k_r1, e_r2, k_r2, k_ix, e_sub, e_mod, e_div, e_pow, e_shl, e_cmp, e_lt, e_add, e_addI, e_addL, e_addT, e_mul, e_mulL, e_len1, e_len2, e_len3, e_int, e_intb, e_ixl, e_ixt, e_ixd1, e_ixd2, e_setL, fEq_int, fNe_int, gTup, gLst, flags, D.imm, D.imms, imms_ints, L2.atI, L2.ixN, two64, two62, sizeMax, tB1, i0, i1, i2, h1, h2]
theorem tB2_ok {p : Int} {k : Nat} (hk : k < 3) : tB2 [s0, s2, s3, some ⟨.int p, true, false⟩, some ⟨.int (k : Nat), true, false⟩, s5, s6, s7, s8, s9, s10, s11, s12, s13, s14, s15] =
    some (.nx, [s0, s2, s3, some ⟨.int p, true, false⟩, some ⟨.int (k : Nat), true, false⟩, some ⟨progP p k, true, false⟩, s6, s7, s8, s9, s10, s11, s12, s13, s14, s15]) := by
  have h : k = 0 ∨ k = 1 ∨ k = 2 := by omega
  have a0 := lre0 p
  have a1 := lre1 p
  have a2 := lre2 p
  simp only [hdP, pt, w2] at a0 a1 a2
  rcases h with rfl | rfl | rfl
  · simp [e_dnew, e_vals0, e_vals, k_vals, k_vc, e_disp, k_disp, e_dpop, k_dp0, k_dp1, k_dp2, k_dp3, repD_cons, e_get, k_gtS, k_gtN, D.flat, ofs_inj, fEq_str, e_dc, e_c2, k_cg, k_ge, e_lg0, e_lg, k_lg, e_stpD, k_s1, k_s2, k_s2F, k_s3, k_s4, e_stp2, k_t0, k_t1, k_t2, k_t3, key_str, key_int, getK_nil, getK_cons, putD_nil, putD_cons, e_upd, merge_nil, merge_cons, e_inD, e_setD, e_intup, inD_nil, inD_str, saveOk, hideAll, unhide, isTy, List.any_cons, List.any_nil, D.kd, e_for, k_for, e_lp0, k_lp, k_lpn, k_lpr, e_cm, k_cm, k_cmE, k_cl, k_cl2F, k_cl2T, k_cl3, e_rg1, k_rg1, e_itA, k_itL, k_itT, k_itF, e_zip, k_zpL, k_zpT, k_zp2L, k_zp2T, e_sl, e_agN, e_agS, e_chkI, k_chkI, e_slT00, e_slT01, e_slT10, e_slT11, e_slF01, e_listL, e_listT, e_listF, e_tupL, e_tupT, k_pf, e_mt, k_mt, e_app, e_ext, e_pop, k_pop, k_pop2, e_absI, e_augL, k_aug, k_aug2, k_aug3, e_mkF, k_finR, k_finN, e_bagSl, k_bag, k_bag2, startE, finals, e_seq, k_seq, k_seqr, e_set, k_set, e_par, k_par, k_par2, e_call, k_args, k_take, k_give, a_nil, a_val, k_val, k_cons, a_var, k_varA, t_nil, t_val, t_var, k_tk, k_tkV, g_nil, g_val, g_var, k_gvV, e_aug, e_var, e_mc, e_ret, k_ret, e_retV, e_pass, e_expr, k_expr, e_ifS, k_ifT, k_ifF, e_if, k_fT, k_fF, e_yes, e_setI, e_asg, k_asg, k_one, e_gname, e_of, k_of, e_not, k_not, e_and, k_andT, k_andF, e_or, k_orT, k_orF, e_gtup, e_gnil, e_gcons, k_gs, e_r1, k_r1, e_r2, k_r2, k_ix, e_sub, e_mod, e_div, e_pow, e_shl, e_cmp, e_lt, e_add, e_addI, e_addL, e_addT, e_mul, e_mulL, e_len1, e_len2, e_len3, e_int, e_intb, e_ixl, e_ixt, e_ixd1, e_ixd2, e_setL, fEq_int, fNe_int, gTup, gLst, flags, D.imm, D.imms, imms_ints, L2.atI, L2.ixN, two64, two62, sizeMax, tB2, a0]
  · simp [e_dnew, e_vals0, e_vals, k_vals, k_vc, e_disp, k_disp, e_dpop, k_dp0, k_dp1, k_dp2, k_dp3, repD_cons, e_get, k_gtS, k_gtN, D.flat, ofs_inj, fEq_str, e_dc, e_c2, k_cg, k_ge, e_lg0, e_lg, k_lg, e_stpD, k_s1, k_s2, k_s2F, k_s3, k_s4, e_stp2, k_t0, k_t1, k_t2, k_t3, key_str, key_int, getK_nil, getK_cons, putD_nil, putD_cons, e_upd, merge_nil, merge_cons, e_inD, e_setD, e_intup, inD_nil, inD_str, saveOk, hideAll, unhide, isTy, List.any_cons, List.any_nil, D.kd, e_for, k_for, e_lp0, k_lp, k_lpn, k_lpr, e_cm, k_cm, k_cmE, k_cl, k_cl2F, k_cl2T, k_cl3, e_rg1, k_rg1, e_itA, k_itL, k_itT, k_itF, e_zip, k_zpL, k_zpT, k_zp2L, k_zp2T, e_sl, e_agN, e_agS, e_chkI, k_chkI, e_slT00, e_slT01, e_slT10, e_slT11, e_slF01, e_listL, e_listT, e_listF, e_tupL, e_tupT, k_pf, e_mt, k_mt, e_app, e_ext, e_pop, k_pop, k_pop2, e_absI, e_augL, k_aug, k_aug2, k_aug3, e_mkF, k_finR, k_finN, e_bagSl, k_bag, k_bag2, startE, finals, e_seq, k_seq, k_seqr, e_set, k_set, e_par, k_par, k_par2, e_call, k_args, k_take, k_give, a_nil, a_val, k_val, k_cons, a_var, k_varA, t_nil, t_val, t_var, k_tk, k_tkV, g_nil, g_val, g_var, k_gvV, e_aug, e_var, e_mc, e_ret, k_ret, e_retV, e_pass, e_expr, k_expr, e_ifS, k_ifT, k_ifF, e_if, k_fT, k_fF, e_yes, e_setI, e_asg, k_asg, k_one, e_gname, e_of, k_of, e_not, k_not, e_and, k_andT, k_andF, e_or, k_orT, k_orF, e_gtup, e_gnil, e_gcons, k_gs, e_r1, k_r1, e_r2, k_r2, k_ix, e_sub, e_mod, e_div, e_pow, e_shl, e_cmp, e_lt, e_add, e_addI, e_addL, e_addT, e_mul, e_mulL, e_len1, e_len2, e_len3, e_int, e_intb, e_ixl, e_ixt, e_ixd1, e_ixd2, e_setL, fEq_int, fNe_int, gTup, gLst, flags, D.imm, D.imms, imms_ints, L2.atI, L2.ixN, two64, two62, sizeMax, tB2, a1]
  · simp [e_dnew, e_vals0, e_vals, k_vals, k_vc, e_disp, k_disp, e_dpop, k_dp0, k_dp1, k_dp2, k_dp3, repD_cons, e_get, k_gtS, k_gtN, D.flat, ofs_inj, fEq_str, e_dc, e_c2, k_cg, k_ge, e_lg0, e_lg, k_lg, e_stpD, k_s1, k_s2, k_s2F, k_s3, k_s4, e_stp2, k_t0, k_t1, k_t2, k_t3, key_str, key_int, getK_nil, getK_cons, putD_nil, putD_cons, e_upd, merge_nil, merge_cons, e_inD, e_setD, e_intup, inD_nil, inD_str, saveOk, hideAll, unhide, isTy, List.any_cons, List.any_nil, D.kd, e_for, k_for, e_lp0, k_lp, k_lpn, k_lpr, e_cm, k_cm, k_cmE, k_cl, k_cl2F, k_cl2T, k_cl3, e_rg1, k_rg1, e_itA, k_itL, k_itT, k_itF, e_zip, k_zpL, k_zpT, k_zp2L, k_zp2T, e_sl, e_agN, e_agS, e_chkI, k_chkI, e_slT00, e_slT01, e_slT10, e_slT11, e_slF01, e_listL, e_listT, e_listF, e_tupL, e_tupT, k_pf, e_mt, k_mt, e_app, e_ext, e_pop, k_pop, k_pop2, e_absI, e_augL, k_aug, k_aug2, k_aug3, e_mkF, k_finR, k_finN, e_bagSl, k_bag, k_bag2, startE, finals, e_seq, k_seq, k_seqr, e_set, k_set, e_par, k_par, k_par2, e_call, k_args, k_take, k_give, a_nil, a_val, k_val, k_cons, a_var, k_varA, t_nil, t_val, t_var, k_tk, k_tkV, g_nil, g_val, g_var, k_gvV, e_aug, e_var, e_mc, e_ret, k_ret, e_retV, e_pass, e_expr, k_expr, e_ifS, k_ifT, k_ifF, e_if, k_fT, k_fF, e_yes, e_setI, e_asg, k_asg, k_one, e_gname, e_of, k_of, e_not, k_not, e_and, k_andT, k_andF, e_or, k_orT, k_orF, e_gtup, e_gnil, e_gcons, k_gs, e_r1, k_r1, e_r2, k_r2, k_ix, e_sub, e_mod, e_div, e_pow, e_shl, e_cmp, e_lt, e_add, e_addI, e_addL, e_addT, e_mul, e_mulL, e_len1, e_len2, e_len3, e_int, e_intb, e_ixl, e_ixt, e_ixd1, e_ixd2, e_setL, fEq_int, fNe_int, gTup, gLst, flags, D.imm, D.imms, imms_ints, L2.atI, L2.ixN, two64, two62, sizeMax, tB2, a2]
theorem P_plain {p : Int} {k : Nat} (hk : k < 3) : (progP p k).plain = true ∧ (progP p k).fz.okS = true ∧ (progP p k).fz.knots < 100000 ∧ (progP p k).imm = true := by
  have h : k = 0 ∨ k = 1 ∨ k = 2 := by omega
  rcases h with rfl | rfl | rfl
  · exact ⟨by kernel_rfl, by kernel_rfl, Nat.lt_of_le_of_lt (Nat.le_of_eq (show _ = (progP 5 0).fz.knots by kernel_rfl)) (by decide +kernel), P_imm0 p⟩
  · exact ⟨by kernel_rfl, by kernel_rfl, Nat.lt_of_le_of_lt (Nat.le_of_eq (show _ = (progP 5 1).fz.knots by kernel_rfl)) (by decide +kernel), P_imm1 p⟩
  · exact ⟨by kernel_rfl, by kernel_rfl, Nat.lt_of_le_of_lt (Nat.le_of_eq (show _ = (progP 5 2).fz.knots by kernel_rfl)) (by decide +kernel), P_imm2 p⟩
theorem re_all {p : Int} {k : Nat} (hp : p ∈ [(5 : Int), 7, 11, 31]) (hk : k < 3) : py_reordered_program [(.int p, true), (.int (k : Nat), true)] = some (progP p k, true, [some (.int p, true), some (.int (k : Nat), true)]) := by
  have h : k = 0 ∨ k = 1 ∨ k = 2 := by omega
  simp only [List.mem_cons, List.not_mem_nil, or_false] at hp
  rcases hp with rfl | rfl | rfl | rfl <;> rcases h with rfl | rfl | rfl
  · exact re_5_0
  · exact re_5_1
  · exact re_5_2
  · exact re_7_0
  · exact re_7_1
  · exact re_7_2
  · exact re_11_0
  · exact re_11_1
  · exact re_11_2
  · exact re_31_0
  · exact re_31_1
  · exact re_31_2
theorem tB3_ok {p : Int} {k : Nat} (hp : p ∈ [(5 : Int), 7, 11, 31]) (hk : k < 3) : tB3 [s0, s2, s3, some ⟨.int p, true, false⟩, some ⟨.int (k : Nat), true, false⟩, some ⟨progP p k, true, false⟩, s6, s7, s8, s9, s10, s11, s12, s13, s14, s15] =
    some (.nx, [s0, s2, s3, some ⟨.int p, true, false⟩, some ⟨.int (k : Nat), true, false⟩, some ⟨progP p k, true, false⟩, s6, s7, s8, s9, s10, s11, s12, s13, s14, s15]) := by
  obtain ⟨h1, h2, h3, h4⟩ := P_plain (p := p) hk
  obtain ⟨o1, o2, ha⟩ := law_alike (d := progP p k) (d2 := progP p k) (b := true) (b2 := true) h1 h1 rfl h2 h3
  have hr := re_all hp hk
  simp [e_dnew, e_vals0, e_vals, k_vals, k_vc, e_disp, k_disp, e_dpop, k_dp0, k_dp1, k_dp2, k_dp3, repD_cons, e_get, k_gtS, k_gtN, D.flat, ofs_inj, fEq_str, e_dc, e_c2, k_cg, k_ge, e_lg0, e_lg, k_lg, e_stpD, k_s1, k_s2, k_s2F, k_s3, k_s4, e_stp2, k_t0, k_t1, k_t2, k_t3, key_str, key_int, getK_nil, getK_cons, putD_nil, putD_cons, e_upd, merge_nil, merge_cons, e_inD, e_setD, e_intup, inD_nil, inD_str, saveOk, hideAll, unhide, isTy, List.any_cons, List.any_nil, D.kd, e_for, k_for, e_lp0, k_lp, k_lpn, k_lpr, e_cm, k_cm, k_cmE, k_cl, k_cl2F, k_cl2T, k_cl3, e_rg1, k_rg1, e_itA, k_itL, k_itT, k_itF, e_zip, k_zpL, k_zpT, k_zp2L, k_zp2T, e_sl, e_agN, e_agS, e_chkI, k_chkI, e_slT00, e_slT01, e_slT10, e_slT11, e_slF01, e_listL, e_listT, e_listF, e_tupL, e_tupT, k_pf, e_mt, k_mt, e_app, e_ext, e_pop, k_pop, k_pop2, e_absI, e_augL, k_aug, k_aug2, k_aug3, e_mkF, k_finR, k_finN, e_bagSl, k_bag, k_bag2, startE, finals, e_seq, k_seq, k_seqr, e_set, k_set, e_par, k_par, k_par2, e_call, k_args, k_take, k_give, a_nil, a_val, k_val, k_cons, a_var, k_varA, t_nil, t_val, t_var, k_tk, k_tkV, g_nil, g_val, g_var, k_gvV, e_aug, e_var, e_mc, e_ret, k_ret, e_retV, e_pass, e_expr, k_expr, e_ifS, k_ifT, k_ifF, e_if, k_fT, k_fF, e_yes, e_setI, e_asg, k_asg, k_one, e_gname, e_of, k_of, e_not, k_not, e_and, k_andT, k_andF, e_or, k_orT, k_orF, e_gtup, e_gnil, e_gcons, k_gs, e_r1, k_r1, e_r2, k_r2, k_ix, e_sub, e_mod, e_div, e_pow, e_shl, e_cmp, e_lt, e_add, e_addI, e_addL, e_addT, e_mul, e_mulL, e_len1, e_len2, e_len3, e_int, e_intb, e_ixl, e_ixt, e_ixd1, e_ixd2, e_setL, fEq_int, fNe_int, gTup, gLst, flags, D.imm, D.imms, imms_ints, L2.atI, L2.ixN, two64, two62, sizeMax, tB3, hr, ha, h4]
/-- draws in a row -/
theorem draws_ok {p : Int} (hp : 0 < p) (hp2 : p < 1073741824) (hb : Bag b) (ds : List Int) (hz : ds.length ≤ 1000) : ∃ (b' : D) (xs : List Int), Bag b' ∧ xs.length = ds.length ∧ (∀ x ∈ xs, 0 ≤ x ∧ x < p) ∧
    compLoop [7] (mGName 7) true mYes (mCall py__law_take [.var 1, .var 3]) (ds.map .int) [s0, some ⟨b, true, false⟩, s2, some ⟨.int p, true, false⟩, s4, s5, s6, none, s8, s9, s10, s11, s12, s13, s14, s15] [] =
      some (xs.map .int, [s0, some ⟨b', true, false⟩, s2, some ⟨.int p, true, false⟩, s4, s5, s6, none, s8, s9, s10, s11, s12, s13, s14, s15]) := by
  obtain ⟨ys, e', h1, h2, ⟨b', hb', rfl⟩, h4⟩ := comp_inv (own := [7]) (g := mGName 7) (fl := true) (t := mYes) (x := mCall py__law_take [.var 1, .var 3]) (ds := ds.map .int) (acc := []) (e := [s0, some ⟨b, true, false⟩, s2, some ⟨.int p, true, false⟩, s4, s5, s6, none, s8, s9, s10, s11, s12, s13, s14, s15])
    (I := fun e => ∃ b, Bag b ∧ e = [s0, some ⟨b, true, false⟩, s2, some ⟨.int p, true, false⟩, s4, s5, s6, none, s8, s9, s10, s11, s12, s13, s14, s15]) (P := fun d => ∃ x : Int, d = .int x ∧ 0 ≤ x ∧ x < p) (fun d hd e he => by
      obtain ⟨b1, hb1, rfl⟩ := he
      obtain ⟨v, b2, g0, g1, hb2, g2⟩ := bag_take hb1 hp hp2
      have i1 := hb1.imm
      have i2 := hb2.imm
      refine ⟨_, _, [s0, some ⟨b2, true, false⟩, s2, some ⟨.int p, true, false⟩, s4, s5, s6, some ⟨d, true, false⟩, s8, s9, s10, s11, s12, s13, s14, s15], .int v, rfl, rfl, ?_, ⟨v, rfl, g0, g1⟩, ⟨b2, hb2, rfl⟩⟩
      simp [e_dnew, e_vals0, e_vals, k_vals, k_vc, e_disp, k_disp, e_dpop, k_dp0, k_dp1, k_dp2, k_dp3, repD_cons, e_get, k_gtS, k_gtN, D.flat, ofs_inj, fEq_str, e_dc, e_c2, k_cg, k_ge, e_lg0, e_lg, k_lg, e_stpD, k_s1, k_s2, k_s2F, k_s3, k_s4, e_stp2, k_t0, k_t1, k_t2, k_t3, key_str, key_int, getK_nil, getK_cons, putD_nil, putD_cons, e_upd, merge_nil, merge_cons, e_inD, e_setD, e_intup, inD_nil, inD_str, saveOk, hideAll, unhide, isTy, List.any_cons, List.any_nil, D.kd, e_for, k_for, e_lp0, k_lp, k_lpn, k_lpr, e_cm, k_cm, k_cmE, k_cl, k_cl2F, k_cl2T, k_cl3, e_rg1, k_rg1, e_itA, k_itL, k_itT, k_itF, e_zip, k_zpL, k_zpT, k_zp2L, k_zp2T, e_sl, e_agN, e_agS, e_chkI, k_chkI, e_slT00, e_slT01, e_slT10, e_slT11, e_slF01, e_listL, e_listT, e_listF, e_tupL, e_tupT, k_pf, e_mt, k_mt, e_app, e_ext, e_pop, k_pop, k_pop2, e_absI, e_augL, k_aug, k_aug2, k_aug3, e_mkF, k_finR, k_finN, e_bagSl, k_bag, k_bag2, startE, finals, e_seq, k_seq, k_seqr, e_set, k_set, e_par, k_par, k_par2, e_call, k_args, k_take, k_give, a_nil, a_val, k_val, k_cons, a_var, k_varA, t_nil, t_val, t_var, k_tk, k_tkV, g_nil, g_val, g_var, k_gvV, e_aug, e_var, e_mc, e_ret, k_ret, e_retV, e_pass, e_expr, k_expr, e_ifS, k_ifT, k_ifF, e_if, k_fT, k_fF, e_yes, e_setI, e_asg, k_asg, k_one, e_gname, e_of, k_of, e_not, k_not, e_and, k_andT, k_andF, e_or, k_orT, k_orF, e_gtup, e_gnil, e_gcons, k_gs, e_r1, k_r1, e_r2, k_r2, k_ix, e_sub, e_mod, e_div, e_pow, e_shl, e_cmp, e_lt, e_add, e_addI, e_addL, e_addT, e_mul, e_mulL, e_len1, e_len2, e_len3, e_int, e_intb, e_ixl, e_ixt, e_ixd1, e_ixd2, e_setL, fEq_int, fNe_int, gTup, gLst, flags, D.imm, D.imms, imms_ints, L2.atI, L2.ixN, two64, two62, sizeMax, i1, i2, g2]) ⟨b, hb, rfl⟩ (by simp [sizeMax]; omega)
  have : ∃ xs : List Int, ys = xs.map .int ∧ ∀ x ∈ xs, 0 ≤ x ∧ x < p := by
    clear h1 h4
    induction ys with
    | nil => exact ⟨[], rfl, fun x z => (List.not_mem_nil z).elim⟩
    | cons y ys ih =>
      obtain ⟨x, rfl, hx⟩ := h2 y List.mem_cons_self
      obtain ⟨xs, rfl, hxs⟩ := ih (fun z hz => h2 z (List.mem_cons_of_mem _ hz))
      exact ⟨x :: xs, rfl, fun z hz => (List.mem_cons.mp hz).elim (fun e => e ▸ hx) (hxs z)⟩
  obtain ⟨xs, rfl, hxs⟩ := this
  exact ⟨b', xs, hb', by simpa using h1, hxs, by simpa using h4⟩
theorem tB4_ok {p : Int} {k : Nat} (hp : 0 < p) (hp2 : p < 1073741824) (hk : k < 3) (hb : Bag b) (h7 : s7 = none ∨ ∃ i, s7 = some ⟨.int i, true, false⟩) : ∃ (b' : D) (xs : List Int), Bag b' ∧ xs.length = 2 ^ k ∧ (∀ x ∈ xs, 0 ≤ x ∧ x < p) ∧
    tB4 [s0, some ⟨b, true, false⟩, s2, some ⟨.int p, true, false⟩, some ⟨.int (k : Nat), true, false⟩, s5, s6, s7, s8, s9, s10, s11, s12, s13, s14, s15] =
    some (.nx, [s0, some ⟨b', true, false⟩, s2, some ⟨.int p, true, false⟩, some ⟨.int (k : Nat), true, false⟩, s5, some ⟨.tup (xs.map .int), true, false⟩, s7, s8, s9, s10, s11, s12, s13, s14, s15]) := by
  obtain ⟨b', xs, hb', hl, hx, hc⟩ := draws_ok (b := b) s0 s2 (some ⟨.int (k : Nat), true, false⟩) s5 s6 s8 s9 s10 s11 s12 s13 s14 s15 hp hp2 hb (nums (2 ^ k)) (by
    rw [nums_len]
    have h : k = 0 ∨ k = 1 ∨ k = 2 := by omega
    rcases h with rfl | rfl | rfl <;> decide)
  rw [nums_len] at hl
  refine ⟨b', xs, hb', hl, hx, ?_⟩
  have hS : fShl (.int 1) (.int (k : Nat)) = some (.int ((2 ^ k : Nat) : Int)) := by
    have h : k = 0 ∨ k = 1 ∨ k = 2 := by omega
    rcases h with rfl | rfl | rfl <;> rfl
  have g1 : (-4611686018427387904 : Int) ≤ ((2 ^ k : Nat) : Int) := by omega
  have g2 : ((2 ^ k : Nat) : Int) < 4611686018427387904 := by
    have h : k = 0 ∨ k = 1 ∨ k = 2 := by omega
    rcases h with rfl | rfl | rfl <;> decide
  generalize (2 ^ k : Nat) = m at *
  rcases h7 with rfl | ⟨i, rfl⟩
  · simp [e_dnew, e_vals0, e_vals, k_vals, k_vc, e_disp, k_disp, e_dpop, k_dp0, k_dp1, k_dp2, k_dp3, repD_cons, e_get, k_gtS, k_gtN, D.flat, ofs_inj, fEq_str, e_dc, e_c2, k_cg, k_ge, e_lg0, e_lg, k_lg, e_stpD, k_s1, k_s2, k_s2F, k_s3, k_s4, e_stp2, k_t0, k_t1, k_t2, k_t3, key_str, key_int, getK_nil, getK_cons, putD_nil, putD_cons, e_upd, merge_nil, merge_cons, e_inD, e_setD, e_intup, inD_nil, inD_str, saveOk, hideAll, unhide, isTy, List.any_cons, List.any_nil, D.kd, e_for, k_for, e_lp0, k_lp, k_lpn, k_lpr, e_cm, k_cm, k_cmE, k_cl, k_cl2F, k_cl2T, k_cl3, e_rg1, k_rg1, e_itA, k_itL, k_itT, k_itF, e_zip, k_zpL, k_zpT, k_zp2L, k_zp2T, e_sl, e_agN, e_agS, e_chkI, k_chkI, e_slT00, e_slT01, e_slT10, e_slT11, e_slF01, e_listL, e_listT, e_listF, e_tupL, e_tupT, k_pf, e_mt, k_mt, e_app, e_ext, e_pop, k_pop, k_pop2, e_absI, e_augL, k_aug, k_aug2, k_aug3, e_mkF, k_finR, k_finN, e_bagSl, k_bag, k_bag2, startE, finals, e_seq, k_seq, k_seqr, e_set, k_set, e_par, k_par, k_par2, e_call, k_args, k_take, k_give, a_nil, a_val, k_val, k_cons, a_var, k_varA, t_nil, t_val, t_var, k_tk, k_tkV, g_nil, g_val, g_var, k_gvV, e_aug, e_var, e_mc, e_ret, k_ret, e_retV, e_pass, e_expr, k_expr, e_ifS, k_ifT, k_ifF, e_if, k_fT, k_fF, e_yes, e_setI, e_asg, k_asg, k_one, e_gname, e_of, k_of, e_not, k_not, e_and, k_andT, k_andF, e_or, k_orT, k_orF, e_gtup, e_gnil, e_gcons, k_gs, e_r1, k_r1, e_r2, k_r2, k_ix, e_sub, e_mod, e_div, e_pow, e_cmp, e_lt, e_add, e_addI, e_addL, e_addT, e_mul, e_mulL, e_len1, e_len2, e_len3, e_int, e_intb, e_ixl, e_ixt, e_ixd1, e_ixd2, e_setL, fEq_int, fNe_int, gTup, gLst, flags, D.imm, D.imms, imms_ints, L2.atI, L2.ixN, two64, two62, sizeMax, tB4, hS, g1, g2, intsD_nums, hc, partFl]
  · simp [e_dnew, e_vals0, e_vals, k_vals, k_vc, e_disp, k_disp, e_dpop, k_dp0, k_dp1, k_dp2, k_dp3, repD_cons, e_get, k_gtS, k_gtN, D.flat, ofs_inj, fEq_str, e_dc, e_c2, k_cg, k_ge, e_lg0, e_lg, k_lg, e_stpD, k_s1, k_s2, k_s2F, k_s3, k_s4, e_stp2, k_t0, k_t1, k_t2, k_t3, key_str, key_int, getK_nil, getK_cons, putD_nil, putD_cons, e_upd, merge_nil, merge_cons, e_inD, e_setD, e_intup, inD_nil, inD_str, saveOk, hideAll, unhide, isTy, List.any_cons, List.any_nil, D.kd, e_for, k_for, e_lp0, k_lp, k_lpn, k_lpr, e_cm, k_cm, k_cmE, k_cl, k_cl2F, k_cl2T, k_cl3, e_rg1, k_rg1, e_itA, k_itL, k_itT, k_itF, e_zip, k_zpL, k_zpT, k_zp2L, k_zp2T, e_sl, e_agN, e_agS, e_chkI, k_chkI, e_slT00, e_slT01, e_slT10, e_slT11, e_slF01, e_listL, e_listT, e_listF, e_tupL, e_tupT, k_pf, e_mt, k_mt, e_app, e_ext, e_pop, k_pop, k_pop2, e_absI, e_augL, k_aug, k_aug2, k_aug3, e_mkF, k_finR, k_finN, e_bagSl, k_bag, k_bag2, startE, finals, e_seq, k_seq, k_seqr, e_set, k_set, e_par, k_par, k_par2, e_call, k_args, k_take, k_give, a_nil, a_val, k_val, k_cons, a_var, k_varA, t_nil, t_val, t_var, k_tk, k_tkV, g_nil, g_val, g_var, k_gvV, e_aug, e_var, e_mc, e_ret, k_ret, e_retV, e_pass, e_expr, k_expr, e_ifS, k_ifT, k_ifF, e_if, k_fT, k_fF, e_yes, e_setI, e_asg, k_asg, k_one, e_gname, e_of, k_of, e_not, k_not, e_and, k_andT, k_andF, e_or, k_orT, k_orF, e_gtup, e_gnil, e_gcons, k_gs, e_r1, k_r1, e_r2, k_r2, k_ix, e_sub, e_mod, e_div, e_pow, e_cmp, e_lt, e_add, e_addI, e_addL, e_addT, e_mul, e_mulL, e_len1, e_len2, e_len3, e_int, e_intb, e_ixl, e_ixt, e_ixd1, e_ixd2, e_setL, fEq_int, fNe_int, gTup, gLst, flags, D.imm, D.imms, imms_ints, L2.atI, L2.ixN, two64, two62, sizeMax, tB4, hS, g1, g2, intsD_nums, hc, partFl]
theorem tB5_ok {xs : List Int} (hb : Bag b) (h0 : 0 < xs.length) (h1 : xs.length ≤ 100) : ∃ (b' : D) (i : Int), Bag b' ∧ 0 ≤ i ∧ i < xs.length ∧
    tB5 [s0, some ⟨b, true, false⟩, s2, s3, s4, s5, some ⟨.tup (xs.map .int), true, false⟩, s7, s8, s9, s10, s11, s12, s13, s14, s15] =
    some (.nx, [s0, some ⟨b', true, false⟩, s2, s3, s4, s5, some ⟨.tup (xs.map .int), true, false⟩, some ⟨.int i, true, false⟩, s8, s9, s10, s11, s12, s13, s14, s15]) := by
  obtain ⟨i, b', g0, g1, hb', h⟩ := bag_take (m := (xs.length : Nat)) hb (by omega) (by omega)
  have i1 := hb.imm
  have i2 := hb'.imm
  refine ⟨b', i, hb', g0, g1, ?_⟩
  simp [e_dnew, e_vals0, e_vals, k_vals, k_vc, e_disp, k_disp, e_dpop, k_dp0, k_dp1, k_dp2, k_dp3, repD_cons, e_get, k_gtS, k_gtN, D.flat, ofs_inj, fEq_str, e_dc, e_c2, k_cg, k_ge, e_lg0, e_lg, k_lg, e_stpD, k_s1, k_s2, k_s2F, k_s3, k_s4, e_stp2, k_t0, k_t1, k_t2, k_t3, key_str, key_int, getK_nil, getK_cons, putD_nil, putD_cons, e_upd, merge_nil, merge_cons, e_inD, e_setD, e_intup, inD_nil, inD_str, saveOk, hideAll, unhide, isTy, List.any_cons, List.any_nil, D.kd, e_for, k_for, e_lp0, k_lp, k_lpn, k_lpr, e_cm, k_cm, k_cmE, k_cl, k_cl2F, k_cl2T, k_cl3, e_rg1, k_rg1, e_itA, k_itL, k_itT, k_itF, e_zip, k_zpL, k_zpT, k_zp2L, k_zp2T, e_sl, e_agN, e_agS, e_chkI, k_chkI, e_slT00, e_slT01, e_slT10, e_slT11, e_slF01, e_listL, e_listT, e_listF, e_tupL, e_tupT, k_pf, e_mt, k_mt, e_app, e_ext, e_pop, k_pop, k_pop2, e_absI, e_augL, k_aug, k_aug2, k_aug3, e_mkF, k_finR, k_finN, e_bagSl, k_bag, k_bag2, startE, finals, e_seq, k_seq, k_seqr, e_set, k_set, e_par, k_par, k_par2, e_call, k_args, k_take, k_give, a_nil, a_val, k_val, k_cons, a_var, k_varA, t_nil, t_val, t_var, k_tk, k_tkV, g_nil, g_val, g_var, k_gvV, e_aug, e_var, e_mc, e_ret, k_ret, e_retV, e_pass, e_expr, k_expr, e_ifS, k_ifT, k_ifF, e_if, k_fT, k_fF, e_yes, e_setI, e_asg, k_asg, k_one, e_gname, e_of, k_of, e_not, k_not, e_and, k_andT, k_andF, e_or, k_orT, k_orF, e_gtup, e_gnil, e_gcons, k_gs, e_r1, k_r1, e_r2, k_r2, k_ix, e_sub, e_mod, e_div, e_pow, e_shl, e_cmp, e_lt, e_add, e_addI, e_addL, e_addT, e_mul, e_mulL, e_len1, e_len2, e_len3, e_int, e_intb, e_ixl, e_ixt, e_ixd1, e_ixd2, e_setL, fEq_int, fNe_int, gTup, gLst, flags, D.imm, D.imms, imms_ints, L2.atI, L2.ixN, two64, two62, sizeMax, tB5, i1, i2, h]
/-- the same, in the last slot -/
theorem draws15_ok {p : Int} (hp : 0 < p) (hp2 : p < 1073741824) (hb : Bag b) (ds : List Int) (hz : ds.length ≤ 1000) : ∃ (b' : D) (xs : List Int), Bag b' ∧ xs.length = ds.length ∧ (∀ x ∈ xs, 0 ≤ x ∧ x < p) ∧
    compLoop [15] (mGName 15) true mYes (mCall py__law_take [.var 1, .var 3]) (ds.map .int) [s0, some ⟨b, true, false⟩, s2, some ⟨.int p, true, false⟩, s4, s5, s6, s7, s8, s9, s10, s11, s12, s13, s14, none] [] =
      some (xs.map .int, [s0, some ⟨b', true, false⟩, s2, some ⟨.int p, true, false⟩, s4, s5, s6, s7, s8, s9, s10, s11, s12, s13, s14, none]) := by
  obtain ⟨ys, e', h1, h2, ⟨b', hb', rfl⟩, h4⟩ := comp_inv (own := [15]) (g := mGName 15) (fl := true) (t := mYes) (x := mCall py__law_take [.var 1, .var 3]) (ds := ds.map .int) (acc := []) (e := [s0, some ⟨b, true, false⟩, s2, some ⟨.int p, true, false⟩, s4, s5, s6, s7, s8, s9, s10, s11, s12, s13, s14, none])
    (I := fun e => ∃ b, Bag b ∧ e = [s0, some ⟨b, true, false⟩, s2, some ⟨.int p, true, false⟩, s4, s5, s6, s7, s8, s9, s10, s11, s12, s13, s14, none]) (P := fun d => ∃ x : Int, d = .int x ∧ 0 ≤ x ∧ x < p) (fun d hd e he => by
      obtain ⟨b1, hb1, rfl⟩ := he
      obtain ⟨v, b2, g0, g1, hb2, g2⟩ := bag_take hb1 hp hp2
      have i1 := hb1.imm
      have i2 := hb2.imm
      refine ⟨_, _, [s0, some ⟨b2, true, false⟩, s2, some ⟨.int p, true, false⟩, s4, s5, s6, s7, s8, s9, s10, s11, s12, s13, s14, some ⟨d, true, false⟩], .int v, rfl, rfl, ?_, ⟨v, rfl, g0, g1⟩, ⟨b2, hb2, rfl⟩⟩
      simp [e_dnew, e_vals0, e_vals, k_vals, k_vc, e_disp, k_disp, e_dpop, k_dp0, k_dp1, k_dp2, k_dp3, repD_cons, e_get, k_gtS, k_gtN, D.flat, ofs_inj, fEq_str, e_dc, e_c2, k_cg, k_ge, e_lg0, e_lg, k_lg, e_stpD, k_s1, k_s2, k_s2F, k_s3, k_s4, e_stp2, k_t0, k_t1, k_t2, k_t3, key_str, key_int, getK_nil, getK_cons, putD_nil, putD_cons, e_upd, merge_nil, merge_cons, e_inD, e_setD, e_intup, inD_nil, inD_str, saveOk, hideAll, unhide, isTy, List.any_cons, List.any_nil, D.kd, e_for, k_for, e_lp0, k_lp, k_lpn, k_lpr, e_cm, k_cm, k_cmE, k_cl, k_cl2F, k_cl2T, k_cl3, e_rg1, k_rg1, e_itA, k_itL, k_itT, k_itF, e_zip, k_zpL, k_zpT, k_zp2L, k_zp2T, e_sl, e_agN, e_agS, e_chkI, k_chkI, e_slT00, e_slT01, e_slT10, e_slT11, e_slF01, e_listL, e_listT, e_listF, e_tupL, e_tupT, k_pf, e_mt, k_mt, e_app, e_ext, e_pop, k_pop, k_pop2, e_absI, e_augL, k_aug, k_aug2, k_aug3, e_mkF, k_finR, k_finN, e_bagSl, k_bag, k_bag2, startE, finals, e_seq, k_seq, k_seqr, e_set, k_set, e_par, k_par, k_par2, e_call, k_args, k_take, k_give, a_nil, a_val, k_val, k_cons, a_var, k_varA, t_nil, t_val, t_var, k_tk, k_tkV, g_nil, g_val, g_var, k_gvV, e_aug, e_var, e_mc, e_ret, k_ret, e_retV, e_pass, e_expr, k_expr, e_ifS, k_ifT, k_ifF, e_if, k_fT, k_fF, e_yes, e_setI, e_asg, k_asg, k_one, e_gname, e_of, k_of, e_not, k_not, e_and, k_andT, k_andF, e_or, k_orT, k_orF, e_gtup, e_gnil, e_gcons, k_gs, e_r1, k_r1, e_r2, k_r2, k_ix, e_sub, e_mod, e_div, e_pow, e_shl, e_cmp, e_lt, e_add, e_addI, e_addL, e_addT, e_mul, e_mulL, e_len1, e_len2, e_len3, e_int, e_intb, e_ixl, e_ixt, e_ixd1, e_ixd2, e_setL, fEq_int, fNe_int, gTup, gLst, flags, D.imm, D.imms, imms_ints, L2.atI, L2.ixN, two64, two62, sizeMax, i1, i2, g2]) ⟨b, hb, rfl⟩ (by simp [sizeMax]; omega)
  have : ∃ xs : List Int, ys = xs.map .int ∧ ∀ x ∈ xs, 0 ≤ x ∧ x < p := by
    clear h1 h4
    induction ys with
    | nil => exact ⟨[], rfl, fun x z => (List.not_mem_nil z).elim⟩
    | cons y ys ih =>
      obtain ⟨x, rfl, hx⟩ := h2 y List.mem_cons_self
      obtain ⟨xs, rfl, hxs⟩ := ih (fun z hz => h2 z (List.mem_cons_of_mem _ hz))
      exact ⟨x :: xs, rfl, fun z hz => (List.mem_cons.mp hz).elim (fun e => e ▸ hx) (hxs z)⟩
  obtain ⟨xs, rfl, hxs⟩ := this
  exact ⟨b', xs, hb', by simpa using h1, hxs, by simpa using h4⟩
theorem cut_to {l : List D} {i : Int} (h0 : 0 ≤ i) (h1 : i ≤ l.length) : cutD l none (some i) = l.take i.toNat := by
  unfold cutD HT.sIx
  dsimp only
  rw [if_neg (by omega), Nat.min_eq_left (by omega), List.drop_zero, Nat.sub_zero]
theorem cut_from {l : List D} {i : Int} (h0 : 0 ≤ i) (h1 : i ≤ l.length) : cutD l (some i) none = l.drop i.toNat := by
  unfold cutD HT.sIx
  dsimp only
  rw [if_neg (by omega), Nat.min_eq_left (by omega)]
  exact List.take_of_length_le (by rw [List.length_drop]; omega)
theorem tB6_ok {p i : Int} {xs : List Int} (hp : 0 < p) (hp2 : p < 1073741824) (hb : Bag b) (h0 : 0 ≤ i) (h1 : i < xs.length) (hx : xs.length ≤ 100) (hr : ∀ x ∈ xs, 0 ≤ x ∧ x < p) : ∃ (b' : D) (ys zs ws : List Int), Bag b' ∧
    (∀ l ∈ [ys, zs, ws], l.length = xs.length ∧ ∀ x ∈ l, 0 ≤ x ∧ x < p) ∧
    tB6 [s0, some ⟨b, true, false⟩, s2, some ⟨.int p, true, false⟩, s4, s5, some ⟨.tup (xs.map .int), true, false⟩, some ⟨.int i, true, false⟩, s8, s9, s10, s11, s12, s13, s14, none] =
    some (.nx, [s0, some ⟨b', true, false⟩, s2, some ⟨.int p, true, false⟩, s4, s5, some ⟨.tup (xs.map .int), true, false⟩, some ⟨.int i, true, false⟩, some ⟨.lst ([ys, zs, ws].map fun l => .tup (l.map .int)), true, false⟩, s9, s10, s11, s12, s13, s14, none]) := by
  obtain ⟨b1, ys, hb1, hy, e1⟩ := law_mixed hb xs (by omega)
  obtain ⟨b2, ws, hb2, hw, hw2, e3⟩ := draws15_ok (b := b1) s0 s2 s4 s5 (some ⟨.tup (xs.map .int), true, false⟩) (some ⟨.int i, true, false⟩) s8 s9 s10 s11 s12 s13 s14 hp hp2 hb1 xs (by omega)
  have hi : i.toNat < xs.length := by omega
  have hv := hr _ (List.getElem_mem hi)
  have hg : xs[i.toNat]? = some xs[i.toNat] := List.getElem?_eq_getElem hi
  generalize xs[i.toNat] = v at hv hg
  have hat : L2.atI (xs.map D.int) i = some (.int v) := by
    unfold L2.atI L2.ixN
    rw [if_pos h0, List.length_map, if_pos h1]
    show (xs.map D.int)[i.toNat]? = _
    rw [List.getElem?_map, hg]
    rfl
  have c1 : cutD (xs.map D.int) none (some i) = (xs.take i.toNat).map .int := by
    rw [cut_to h0 (by rw [List.length_map]; omega), List.map_take]
  have c2 : cutD (xs.map D.int) (some (i + 1)) none = (xs.drop (i + 1).toNat).map .int := by
    rw [cut_from (by omega) (by rw [List.length_map]; omega), List.map_drop]
  have t1 : (xs.take i.toNat).length = i.toNat := by rw [List.length_take]; omega
  have t2 : (xs.drop (i + 1).toNat).length = xs.length - (i + 1).toNat := List.length_drop
  have hvm := Int.fmod_nonneg_of_pos (v + 1) hp
  have hvm2 := Int.fmod_lt_of_pos (v + 1) hp
  refine ⟨b2, ys, xs.take i.toNat ++ [(v + 1).fmod p] ++ xs.drop (i + 1).toNat, ws, hb2, ?_, ?_⟩
  · intro l hl
    simp only [List.mem_cons, List.not_mem_nil, or_false] at hl
    rcases hl with rfl | rfl | rfl
    · exact ⟨hy.length_eq, fun x hx => hr x (hy.mem_iff.mp hx)⟩
    · refine ⟨by rw [List.length_append, List.length_append, t1, t2, List.length_singleton]; omega, fun x hx => ?_⟩
      rcases List.mem_append.mp hx with hx | hx
      · rcases List.mem_append.mp hx with hx | hx
        · exact hr x (List.mem_of_mem_take hx)
        · rw [List.mem_singleton.mp hx]
          exact ⟨hvm, hvm2⟩
      · exact hr x (List.mem_of_mem_drop hx)
    · exact ⟨hw, hw2⟩
  · have i0 := hb.imm
    have i1 := hb1.imm
    have i2 := hb2.imm
    have z0 : p ≠ 0 := by omega
    generalize xs.take i.toNat = ta at *
    generalize xs.drop (i + 1).toNat = tb at *
    have z1 : ta.length ≤ 16777215 := by omega
    have z2 : ta.length + 1 + tb.length ≤ 16777216 := by omega
    have z3 : ta.length + (1 + tb.length) ≤ 16777216 := by omega
    have z4 : ta.length + (tb.length + 1) ≤ 16777216 := by omega
    simp [e_dnew, e_vals0, e_vals, k_vals, k_vc, e_disp, k_disp, e_dpop, k_dp0, k_dp1, k_dp2, k_dp3, repD_cons, e_get, k_gtS, k_gtN, D.flat, ofs_inj, fEq_str, e_dc, e_c2, k_cg, k_ge, e_lg0, e_lg, k_lg, e_stpD, k_s1, k_s2, k_s2F, k_s3, k_s4, e_stp2, k_t0, k_t1, k_t2, k_t3, key_str, key_int, getK_nil, getK_cons, putD_nil, putD_cons, e_upd, merge_nil, merge_cons, e_inD, e_setD, e_intup, inD_nil, inD_str, saveOk, hideAll, unhide, isTy, List.any_cons, List.any_nil, D.kd, e_for, k_for, e_lp0, k_lp, k_lpn, k_lpr, e_cm, k_cm, k_cmE, k_cl, k_cl2F, k_cl2T, k_cl3, e_rg1, k_rg1, e_itA, k_itL, k_itT, k_itF, e_zip, k_zpL, k_zpT, k_zp2L, k_zp2T, e_sl, e_agN, e_agS, e_chkI, k_chkI, e_slT00, e_slT01, e_slT10, e_slT11, e_slF01, e_listL, e_listT, e_listF, e_tupL, e_tupT, k_pf, e_mt, k_mt, e_app, e_ext, e_pop, k_pop, k_pop2, e_absI, e_augL, k_aug, k_aug2, k_aug3, e_mkF, k_finR, k_finN, e_bagSl, k_bag, k_bag2, startE, finals, e_seq, k_seq, k_seqr, e_set, k_set, e_par, k_par, k_par2, e_call, k_args, k_take, k_give, a_nil, a_val, k_val, k_cons, a_var, k_varA, t_nil, t_val, t_var, k_tk, k_tkV, g_nil, g_val, g_var, k_gvV, e_aug, e_var, e_mc, e_ret, k_ret, e_retV, e_pass, e_expr, k_expr, e_ifS, k_ifT, k_ifF, e_if, k_fT, k_fF, e_yes, e_setI, e_asg, k_asg, k_one, e_gname, e_of, k_of, e_not, k_not, e_and, k_andT, k_andF, e_or, k_orT, k_orF, e_gtup, e_gnil, e_gcons, k_gs, e_r1, k_r1, e_r2, k_r2, k_ix, e_sub, e_mod, e_div, e_pow, e_shl, e_cmp, e_lt, e_add, e_addI, e_addL, e_addT, e_mul, e_mulL, e_len1, e_len2, e_len3, e_int, e_intb, e_ixl, e_ixt, e_ixd1, e_ixd2, e_setL, fEq_int, fNe_int, gTup, gLst, flags, D.imm, D.imms, imms_ints, two64, two62, sizeMax, tB6, i0, i1, i2, e1, e3, hat, c1, c2, partFl, z0, z1, z2, z3, z4, D.imms_append]
end
end LF
namespace LF
open PySem
theorem p_cases {P : Nat → Prop} {p : Nat} (hp : (p : Int) ∈ [(5 : Int), 7, 11, 31]) (h5 : P 5) (h7 : P 7) (h11 : P 11) (h31 : P 31) : P p := by
  simp only [List.mem_cons, List.not_mem_nil, or_false] at hp
  have : p = 5 ∨ p = 7 ∨ p = 11 ∨ p = 31 := by omega
  rcases this with rfl | rfl | rfl | rfl
  · exact h5
  · exact h7
  · exact h11
  · exact h31
theorem p_prm {p : Nat} (hp : (p : Int) ∈ [(5 : Int), 7, 11, 31]) : Prm p := p_cases (P := fun p => Prm p) hp prm5 prm7 prm11 prm31
theorem p_lo {p : Nat} (hp : (p : Int) ∈ [(5 : Int), 7, 11, 31]) : 5 ≤ p := p_cases (P := fun p => 5 ≤ p) hp (by decide) (by decide) (by decide) (by decide)
theorem p_hi {p : Nat} (hp : (p : Int) ∈ [(5 : Int), 7, 11, 31]) : p ≤ 31 := p_cases (P := fun p => p ≤ 31) hp (by decide) (by decide) (by decide) (by decide)
def In (p : Nat) (xs : List Int) : Prop := ∀ x ∈ xs, 0 ≤ x ∧ x < (p : Int)
/-- both ways of asking tell the asks of asL -/
theorem both_0 {p : Nat} {n : Int} {xs ys : List Int} (hp : 1 < p) (hp2 : p ≤ 3000) (hx : xs.length = 1) (hy : ys.length = 1) (rx : In p xs) (ry : In p ys) (h0 : 0 ≤ n) (h1 : n < p) :
    py_is_true [(progP p 0, true), (clm xs ys, true), (.tup [.int n], true)] = some (.bl (decide (n ∈ asL p xs ys (nums p))), true, [some (progP p 0, true), some (clm xs ys, true), some (.tup [.int n], true)]) ∧
    py__law_is_true [(progP p 0, true), (clm xs ys, true), (.tup [.int n], true)] = some (.bl (decide (n ∈ asL p xs ys (nums p))), true, [some (progP p 0, true), some (clm xs ys, true), some (.tup [.int n], true)]) := by
  match xs, hx, ys, hy with
  | [x0], _, [y0], _ =>
    have e := as_mem (p := (p : Int)) (n := n) (xs := [x0]) (ys := [y0]) (P := p) (by omega) rfl ⟨h0, h1⟩
    rw [e, ← ist_0 (by omega)]
    exact ⟨ist0 p n x0 y0 (by omega) (by omega), lst0 p n x0 y0 (by omega) (by omega) ⟨h0, h1⟩ (rx x0 (by simp)) (ry y0 (by simp))⟩
theorem both_1 {p : Nat} {n : Int} {xs ys : List Int} (hp : 1 < p) (hp2 : p ≤ 3000) (hx : xs.length = 2) (hy : ys.length = 2) (rx : In p xs) (ry : In p ys) (h0 : 0 ≤ n) (h1 : n < p) :
    py_is_true [(progP p 1, true), (clm xs ys, true), (.tup [.int n], true)] = some (.bl (decide (n ∈ asL p xs ys (nums p))), true, [some (progP p 1, true), some (clm xs ys, true), some (.tup [.int n], true)]) ∧
    py__law_is_true [(progP p 1, true), (clm xs ys, true), (.tup [.int n], true)] = some (.bl (decide (n ∈ asL p xs ys (nums p))), true, [some (progP p 1, true), some (clm xs ys, true), some (.tup [.int n], true)]) := by
  match xs, hx, ys, hy with
  | [x0, x1], _, [y0, y1], _ =>
    have e := as_mem (p := (p : Int)) (n := n) (xs := [x0, x1]) (ys := [y0, y1]) (P := p) (by omega) rfl ⟨h0, h1⟩
    rw [e, ← ist_1 (by omega)]
    exact ⟨ist1 p n x0 x1 y0 y1 (by omega) (by omega), lst1 p n x0 x1 y0 y1 (by omega) (by omega) ⟨h0, h1⟩ (rx x0 (by simp)) (rx x1 (by simp)) (ry y0 (by simp)) (ry y1 (by simp))⟩
theorem both_2 {p : Nat} {n : Int} {xs ys : List Int} (hp : 1 < p) (hp2 : p ≤ 3000) (hx : xs.length = 4) (hy : ys.length = 4) (rx : In p xs) (ry : In p ys) (h0 : 0 ≤ n) (h1 : n < p) :
    py_is_true [(progP p 2, true), (clm xs ys, true), (.tup [.int n], true)] = some (.bl (decide (n ∈ asL p xs ys (nums p))), true, [some (progP p 2, true), some (clm xs ys, true), some (.tup [.int n], true)]) ∧
    py__law_is_true [(progP p 2, true), (clm xs ys, true), (.tup [.int n], true)] = some (.bl (decide (n ∈ asL p xs ys (nums p))), true, [some (progP p 2, true), some (clm xs ys, true), some (.tup [.int n], true)]) := by
  match xs, hx, ys, hy with
  | [x0, x1, x2, x3], _, [y0, y1, y2, y3], _ =>
    have e := as_mem (p := (p : Int)) (n := n) (xs := [x0, x1, x2, x3]) (ys := [y0, y1, y2, y3]) (P := p) (by omega) rfl ⟨h0, h1⟩
    rw [e, ← ist_2 (by omega)]
    exact ⟨ist2 p n x0 x1 x2 x3 y0 y1 y2 y3 (by omega) (by omega), lst2 p n x0 x1 x2 x3 y0 y1 y2 y3 (by omega) (by omega) ⟨h0, h1⟩ (rx x0 (by simp)) (rx x1 (by simp)) (rx x2 (by simp)) (rx x3 (by simp)) (ry y0 (by simp)) (ry y1 (by simp)) (ry y2 (by simp)) (ry y3 (by simp))⟩
theorem both_k {p k : Nat} {n : Int} {xs ys : List Int} (hp : 1 < p) (hp2 : p ≤ 3000) (hk : k < 3) (hx : xs.length = 2 ^ k) (hy : ys.length = 2 ^ k) (rx : In p xs) (ry : In p ys) (h0 : 0 ≤ n) (h1 : n < p) :
    py_is_true [(progP p k, true), (clm xs ys, true), (.tup [.int n], true)] = some (.bl (decide (n ∈ asL p xs ys (nums p))), true, [some (progP p k, true), some (clm xs ys, true), some (.tup [.int n], true)]) ∧
    py__law_is_true [(progP p k, true), (clm xs ys, true), (.tup [.int n], true)] = some (.bl (decide (n ∈ asL p xs ys (nums p))), true, [some (progP p k, true), some (clm xs ys, true), some (.tup [.int n], true)]) := by
  have h : k = 0 ∨ k = 1 ∨ k = 2 := by omega
  rcases h with rfl | rfl | rfl
  · exact both_0 hp hp2 hx hy rx ry h0 h1
  · exact both_1 hp hp2 hx hy rx ry h0 h1
  · exact both_2 hp hp2 hx hy rx ry h0 h1
theorem two_k {k : Nat} (hk : k < 3) : 2 ^ k ≤ 4 := by
  have h : k = 0 ∨ k = 1 ∨ k = 2 := by omega
  rcases h with rfl | rfl | rfl <;> decide
theorem imms_rows : ∀ ls : List (List Int), D.imms (ls.map fun l => .tup (l.map .int)) = true
  | [] => rfl
  | l :: ls => by
    show (D.imms (l.map .int) && D.imms (ls.map fun l => .tup (l.map .int))) = true
    rw [imms_ints, imms_rows ls]
    rfl
section
variable {b : D} (s0 s1 s2 s3 s4 s5 s6 s7 s8 s9 s10 s11 s12 s13 s14 s15 : Option Sl)
theorem rows_loop {p k : Nat} {xs : List Int} {ls : List (List Int)} (hp : (p : Int) ∈ [(5 : Int), 7, 11, 31]) (hk : k < 3) (hxl : xs.length = 2 ^ k) (hx : In p xs) (hls : ∀ l ∈ ls, l.length = xs.length ∧ In p l) :
    ∃ t9 t10 t11 t12 t13 t14, loopM (mGName 9) true oB (ls.map fun l => .tup (l.map .int)) [s0, s1, s2, some ⟨.int p, true, false⟩, some ⟨.int (k : Nat), true, false⟩, some ⟨progP p k, true, false⟩, some ⟨.tup (xs.map .int), true, false⟩, s7, s8, s9, s10, s11, s12, s13, s14, s15] =
      some (.nx, [s0, s1, s2, some ⟨.int p, true, false⟩, some ⟨.int (k : Nat), true, false⟩, some ⟨progP p k, true, false⟩, some ⟨.tup (xs.map .int), true, false⟩, s7, s8, t9, t10, t11, t12, t13, t14, s15]) := by
  have p5 := p_lo hp
  have p31 := p_hi hp
  have k4 := two_k hk
  obtain ⟨e', ⟨t9, t10, t11, t12, t13, t14, rfl⟩, h⟩ := loop_inv (f := oB) (g := mGName 9) (fl := true) (I := fun e => ∃ t9 t10 t11 t12 t13 t14, e = [s0, s1, s2, some ⟨.int p, true, false⟩, some ⟨.int (k : Nat), true, false⟩, some ⟨progP p k, true, false⟩, some ⟨.tup (xs.map .int), true, false⟩, s7, s8, t9, t10, t11, t12, t13, t14, s15]) (ds := ls.map fun l => .tup (l.map .int)) (e := [s0, s1, s2, some ⟨.int p, true, false⟩, some ⟨.int (k : Nat), true, false⟩, some ⟨progP p k, true, false⟩, some ⟨.tup (xs.map .int), true, false⟩, s7, s8, s9, s10, s11, s12, s13, s14, s15]) (fun d hd e he => by
    obtain ⟨t9, t10, t11, t12, t13, t14, rfl⟩ := he
    obtain ⟨ys, hys, rfl⟩ := List.mem_map.mp hd
    obtain ⟨hyl, hy⟩ := hls ys hys
    have hb := fun (n : Int) (h0 : 0 ≤ n) (h1 : n < p) => both_k (p := p) (k := k) (n := n) (xs := xs) (ys := ys) (by omega) (by omega) hk hxl (hyl.trans hxl) hx hy h0 h1
    obtain ⟨u10, u11, u12, u13, u14, hu⟩ := oB_ok (P := progP p k) (p := p) (K := (k : Nat)) (xs := xs) (ys := ys) (by omega) (by omega) hyl.symm (by rw [hxl, Int.toNat_natCast]; norm_cast) (by omega) (by omega)
      (as_law (p_prm hp) (by omega) hyl.symm (by omega) hx hy) (by omega) (P_plain (p := p) hk).2.2.2 (fun n h0 h1 => (hb n h0 h1).1) (fun n h0 h1 => (hb n h0 h1).2) s0 s1 s2 s7 s8 t10 t11 t12 t13 t14 s15
    exact ⟨_, _, rfl, hu, _, _, _, _, _, _, rfl⟩) ⟨_, _, _, _, _, _, rfl⟩
  exact ⟨t9, t10, t11, t12, t13, t14, h⟩
theorem tB7_ok {p k : Nat} {xs : List Int} {ls : List (List Int)} (hp : (p : Int) ∈ [(5 : Int), 7, 11, 31]) (hk : k < 3) (hxl : xs.length = 2 ^ k) (hx : In p xs) (hls : ∀ l ∈ ls, l.length = xs.length ∧ In p l) :
    ∃ t8 t9 t10 t11 t12 t13 t14, tB7 [s0, s1, s2, some ⟨.int p, true, false⟩, some ⟨.int (k : Nat), true, false⟩, some ⟨progP p k, true, false⟩, some ⟨.tup (xs.map .int), true, false⟩, s7, some ⟨.lst (ls.map fun l => .tup (l.map .int)), true, false⟩, s9, s10, s11, s12, s13, s14, s15] =
      some (.nx, [s0, s1, s2, some ⟨.int p, true, false⟩, some ⟨.int (k : Nat), true, false⟩, some ⟨progP p k, true, false⟩, some ⟨.tup (xs.map .int), true, false⟩, s7, t8, t9, t10, t11, t12, t13, t14, s15]) := by
  obtain ⟨t9, t10, t11, t12, t13, t14, h⟩ := rows_loop s0 s1 s2 s7 (some ⟨.lst (ls.map fun l => .tup (l.map .int)), false, false⟩) s9 s10 s11 s12 s13 s14 s15 hp hk hxl hx hls
  refine ⟨some ⟨.lst (ls.map fun l => .tup (l.map .int)), false, false⟩, t9, t10, t11, t12, t13, t14, ?_⟩
  rw [← h]
  show mFor _ _ _ _ = _
  rw [e_for, e_itA]
  show kFor _ _ (kItA (some (.lst (ls.map fun l => .tup (l.map .int)), false, _))) = _
  rw [k_itL, k_for, imms_rows]
  rfl
/-- one turn -/
theorem tB_ok (hb : Bag b) (h7 : s7 = none ∨ ∃ i, s7 = some ⟨.int i, true, false⟩) : ∃ b' t3 t4 t5 t6 t7 t8 t9 t10 t11 t12 t13 t14, Bag b' ∧ (t7 = none ∨ ∃ i, t7 = some ⟨.int i, true, false⟩) ∧
    tB [s0, some ⟨b, true, false⟩, s2, s3, s4, s5, s6, s7, s8, s9, s10, s11, s12, s13, s14, none] = some (.nx, [s0, some ⟨b', true, false⟩, s2, t3, t4, t5, t6, t7, t8, t9, t10, t11, t12, t13, t14, none]) := by
  obtain ⟨b1, p', K, hb1, hp', hK0, hK3, e1⟩ := tB1_ok (b := b) s0 s2 s3 s4 s5 s6 s7 s8 s9 s10 s11 s12 s13 s14 none hb
  obtain ⟨p, rfl⟩ : ∃ p : Nat, p' = (p : Int) := ⟨p'.toNat, by
    simp only [List.mem_cons, List.not_mem_nil, or_false] at hp'
    omega⟩
  obtain ⟨k, rfl⟩ : ∃ k : Nat, K = (k : Int) := ⟨K.toNat, by omega⟩
  have hk : k < 3 := by omega
  have p5 := p_lo hp'
  have p31 := p_hi hp'
  have k4 := two_k hk
  have k1 : 0 < 2 ^ k := Nat.pow_pos (by decide)
  have e2 := tB2_ok (p := (p : Int)) (k := k) s0 (some ⟨b1, true, false⟩) s2 s5 s6 s7 s8 s9 s10 s11 s12 s13 s14 none hk
  have e3 := tB3_ok (p := (p : Int)) (k := k) s0 (some ⟨b1, true, false⟩) s2 s6 s7 s8 s9 s10 s11 s12 s13 s14 none hp' hk
  obtain ⟨b4, xs, hb4, hxl, hx, e4⟩ := tB4_ok (b := b1) (p := (p : Int)) (k := k) s0 s2 (some ⟨progP p k, true, false⟩) s6 s7 s8 s9 s10 s11 s12 s13 s14 none (by omega) (by omega) hk hb1 h7
  obtain ⟨b5, i, hb5, hi0, hi1, e5⟩ := tB5_ok (b := b4) s0 s2 (some ⟨.int p, true, false⟩) (some ⟨.int (k : Nat), true, false⟩) (some ⟨progP p k, true, false⟩) s7 s8 s9 s10 s11 s12 s13 s14 none (xs := xs) hb4 (by omega) (by omega)
  obtain ⟨b6, ys, zs, ws, hb6, hl, e6⟩ := tB6_ok (b := b5) s0 s2 (some ⟨.int (k : Nat), true, false⟩) (some ⟨progP p k, true, false⟩) s8 s9 s10 s11 s12 s13 s14 (p := (p : Int)) (i := i) (xs := xs) (by omega) (by omega) hb5 hi0 hi1 (by omega) hx
  obtain ⟨t8, t9, t10, t11, t12, t13, t14, e7⟩ := tB7_ok s0 (some ⟨b6, true, false⟩) s2 (some ⟨.int i, true, false⟩) s9 s10 s11 s12 s13 s14 none (p := p) (k := k) (xs := xs) (ls := [ys, zs, ws]) hp' hk hxl hx hl
  refine ⟨b6, some ⟨.int p, true, false⟩, some ⟨.int (k : Nat), true, false⟩, some ⟨progP p k, true, false⟩, some ⟨.tup (xs.map .int), true, false⟩, some ⟨.int i, true, false⟩, t8, t9, t10, t11, t12, t13, t14, hb6, .inr ⟨i, rfl⟩, ?_⟩
  unfold tB
  rw [e_seq, e1, k_seq, e_seq, e2, k_seq, e_seq, e3, k_seq, e_seq, e4, k_seq, e_seq, e5, k_seq, e_seq, e6, k_seq, e7]
end
theorem turns_ok (s0 : Option Sl) {b : D} (hb : Bag b) (ds : List D) : ∃ e', loopM (mGName 2) true tB ds [s0, some ⟨b, true, false⟩, none, none, none, none, none, none, none, none, none, none, none, none, none, none] = some (.nx, s0 :: e') := by
  obtain ⟨e', ⟨b', t2, t3, t4, t5, t6, t7, t8, t9, t10, t11, t12, t13, t14, _, _, rfl⟩, h⟩ := loop_inv (f := tB) (g := mGName 2) (fl := true) (I := fun e => ∃ b t2 t3 t4 t5 t6 t7 t8 t9 t10 t11 t12 t13 t14, Bag b ∧ (t7 = none ∨ ∃ i, t7 = some ⟨.int i, true, false⟩) ∧ e = [s0, some ⟨b, true, false⟩, t2, t3, t4, t5, t6, t7, t8, t9, t10, t11, t12, t13, t14, none]) (ds := ds)
    (e := [s0, some ⟨b, true, false⟩, none, none, none, none, none, none, none, none, none, none, none, none, none, none]) (fun d _ e he => by
      obtain ⟨b, t2, t3, t4, t5, t6, t7, t8, t9, t10, t11, t12, t13, t14, hb, h7, rfl⟩ := he
      obtain ⟨b', u3, u4, u5, u6, u7, u8, u9, u10, u11, u12, u13, u14, hb', hu7, hu⟩ := tB_ok (b := b) s0 (some ⟨d, true, false⟩) t3 t4 t5 t6 t7 t8 t9 t10 t11 t12 t13 t14 hb h7
      exact ⟨_, _, rfl, hu, b', _, _, _, _, _, _, _, _, _, _, _, _, _, hb', hu7, rfl⟩) ⟨b, _, _, _, _, _, _, _, _, _, _, _, _, _, hb, .inl rfl, rfl⟩
  exact ⟨_, h⟩
theorem plain_law : Plain 63 py_law := by
  intro ns hn
  obtain ⟨b, hb, hbg⟩ := law_bag ns hn
  have hbi := hb.imm
  obtain ⟨e', ht⟩ := turns_ok (some ⟨.fro (ns.map .int), true, false⟩) hb (intsD 0 1 4)
  refine ⟨[some (.fro (ns.map .int), true)], ?_, rfl⟩
  show mkF 16 b_law _ = _
  rw [law_is, e_mkF]
  have h1 : mSet 1 (mCall py__law_bag [.var 0]) (startE 16 [(.fro (ns.map .int), true)]) = some (.nx, [some ⟨.fro (ns.map .int), true, false⟩, some ⟨b, true, false⟩, none, none, none, none, none, none, none, none, none, none, none, none, none, none]) := by
    simp [e_dnew, e_vals0, e_vals, k_vals, k_vc, e_disp, k_disp, e_dpop, k_dp0, k_dp1, k_dp2, k_dp3, repD_cons, e_get, k_gtS, k_gtN, D.flat, ofs_inj, fEq_str, e_dc, e_c2, k_cg, k_ge, e_lg0, e_lg, k_lg, e_stpD, k_s1, k_s2, k_s2F, k_s3, k_s4, e_stp2, k_t0, k_t1, k_t2, k_t3, key_str, key_int, getK_nil, getK_cons, putD_nil, putD_cons, e_upd, merge_nil, merge_cons, e_inD, e_setD, e_intup, inD_nil, inD_str, saveOk, hideAll, unhide, isTy, List.any_cons, List.any_nil, D.kd, e_for, k_for, e_lp0, k_lp, k_lpn, k_lpr, e_cm, k_cm, k_cmE, k_cl, k_cl2F, k_cl2T, k_cl3, e_rg1, k_rg1, e_itA, k_itL, k_itT, k_itF, e_zip, k_zpL, k_zpT, k_zp2L, k_zp2T, e_sl, e_agN, e_agS, e_chkI, k_chkI, e_slT00, e_slT01, e_slT10, e_slT11, e_slF01, e_listL, e_listT, e_listF, e_tupL, e_tupT, k_pf, e_mt, k_mt, e_app, e_ext, e_pop, k_pop, k_pop2, e_absI, e_augL, k_aug, k_aug2, k_aug3, e_mkF, k_finR, k_finN, e_bagSl, k_bag, k_bag2, startE, finals, e_seq, k_seq, k_seqr, e_set, k_set, e_par, k_par, k_par2, e_call, k_args, k_take, k_give, a_nil, a_val, k_val, k_cons, a_var, k_varA, t_nil, t_val, t_var, k_tk, k_tkV, g_nil, g_val, g_var, k_gvV, e_aug, e_var, e_mc, e_ret, k_ret, e_retV, e_pass, e_expr, k_expr, e_ifS, k_ifT, k_ifF, e_if, k_fT, k_fF, e_yes, e_setI, e_asg, k_asg, k_one, e_gname, e_of, k_of, e_not, k_not, e_and, k_andT, k_andF, e_or, k_orT, k_orF, e_gtup, e_gnil, e_gcons, k_gs, e_r1, k_r1, e_r2, k_r2, k_ix, e_sub, e_mod, e_div, e_pow, e_shl, e_cmp, e_lt, e_add, e_addI, e_addL, e_addT, e_mul, e_mulL, e_len1, e_len2, e_len3, e_int, e_intb, e_ixl, e_ixt, e_ixd1, e_ixd2, e_setL, fEq_int, fNe_int, gTup, gLst, flags, D.imm, D.imms, imms_ints, L2.atI, L2.ixN, two64, two62, sizeMax, hbg, List.replicate]
  have h2 : mFor (mRange1 (mC (.int 4))) (mGName 2) tB [some ⟨.fro (ns.map .int), true, false⟩, some ⟨b, true, false⟩, none, none, none, none, none, none, none, none, none, none, none, none, none, none] = some (.nx, some ⟨.fro (ns.map .int), true, false⟩ :: e') := by
    rw [← ht, e_for, e_rg1, e_mc, k_rg1, if_pos (by decide), k_for]
    rfl
  rw [e_seq, h1, k_seq, e_seq, h2, k_seq, e_ret, e_mc, k_ret, k_finR]
  simp [finals, D.imm, imms_ints]
end LF
namespace LF
end LF
open PySem PySem.W PyProof.Rows
set_option maxRecDepth 100000 in
set_option maxHeartbeats 0 in
theorem PySem.Challenge.cw_askedfew_k79_rows_the_same_but_for_order_holds : PySem.Challenge.rw_askedfew_k79_rows_the_same_but_for_order.Holds := by
  w_on; o_law; k_head; (case hw => w_witness2)
  k_fill
  refine L2.walk_of (l := PySem.Challenge.rw_askedfew_k79_rows_the_same_but_for_order) (n := 63) (k := 10) (x := "script") (CX := fun _ => L2.CX0) (sp := fun w => LF.spL _ 63) rfl (by decide) rfl ⟨rfl, by decide, by decide⟩ (fun w h Y => PySem.W.kIn_of Y) ?F (fun _ _ a ns hl hO hS => LF.spL_at hl hO hS) (fun _ _ _ _ _ h => h)
  case F =>
    intro w mg fa h KX G hmg
    refine' LF.all_mk LF.plain_law KX G hmg ?z_abs ?z_all ?z_bool ?z_enumerate ?z_int ?z_isinstance ?z_len ?z_list ?z_range ?z_set ?z_sorted ?z_str ?z_sum ?z_tuple ?z_zip ?c_COUNT ?c_LEAST_FIELD ?c_LETTERS ?c_LEVELS ?l_LEVELS ?s_LEVELS ?d_LEVELS ?v_LEVELS ?w_LEVELS ?c_LIKE ?l_LIKE ?s_LIKE ?d_LIKE ?v_LIKE ?w_LIKE ?c_MEMBERS ?c_MOST_BITS ?c_MOST_FIELD_forms ?c_MOST_FIELD_orders ?c_MOST_NAME ?c_MOST_PARTS ?c_PART ?c_RESERVED ?l_RESERVED ?s_RESERVED ?d_RESERVED ?v_RESERVED ?w_RESERVED ?c_PARTS ?k_PARTS ?fa0 ?fl0 ?fc0 ?fk0 ?fa1 ?fl1 ?fc1 ?fk1 ?fa2 ?fl2 ?fc2 ?fk2 ?fa3 ?fl3 ?fc3 ?fk3 ?fa4 ?fl4 ?fc4 ?fk4 ?fa5 ?fl5 ?fc5 ?fk5 ?fa6 ?fl6 ?fc6 ?fk6 ?fa7 ?fl7 ?fc7 ?fk7 ?fa8 ?fl8 ?fc8 ?fk8 ?fa9 ?fl9 ?fc9 ?fk9 ?fa10 ?fl10 ?fc10 ?fk10 ?fa11 ?fl11 ?fc11 ?fk11 ?fa12 ?fl12 ?fc12 ?fk12 ?fa13 ?fl13 ?fc13 ?fk13 ?fa14 ?fl14 ?fc14 ?fk14 ?fa15 ?fl15 ?fc15 ?fk15 ?fa16 ?fl16 ?fc16 ?fk16 ?fa17 ?fl17 ?fc17 ?fk17 ?fa18 ?fl18 ?fc18 ?fk18 ?fa19 ?fl19 ?fc19 ?fk19 ?fa20 ?fl20 ?fc20 ?fk20 ?fa21 ?fl21 ?fc21 ?fk21 ?fa22 ?fl22 ?fc22 ?fk22 ?fa23 ?fl23 ?fc23 ?fk23 ?fa24 ?fl24 ?fc24 ?fk24 ?fa25 ?fl25 ?fc25 ?fk25 ?fa26 ?fl26 ?fc26 ?fk26 ?fa27 ?fl27 ?fc27 ?fk27 ?fa28 ?fl28 ?fc28 ?fk28 ?fa29 ?fl29 ?fc29 ?fk29 ?fa30 ?fl30 ?fc30 ?fk30 ?fa31 ?fl31 ?fc31 ?fk31 ?fa32 ?fl32 ?fc32 ?fk32 ?fa33 ?fl33 ?fc33 ?fk33 ?fa34 ?fl34 ?fc34 ?fk34 ?fa35 ?fl35 ?fc35 ?fk35 ?fa36 ?fl36 ?fc36 ?fk36 ?fa37 ?fl37 ?fc37 ?fk37 ?fa38 ?fl38 ?fc38 ?fk38 ?fa39 ?fl39 ?fc39 ?fk39 ?fa40 ?fl40 ?fc40 ?fk40 ?fa41 ?fl41 ?fc41 ?fk41 ?fa42 ?fl42 ?fc42 ?fk42 ?fa43 ?fl43 ?fc43 ?fk43 ?fa44 ?fl44 ?fc44 ?fk44 ?fa45 ?fl45 ?fc45 ?fk45 ?fa46 ?fl46 ?fc46 ?fk46 ?fa47 ?fl47 ?fc47 ?fk47 ?fa48 ?fl48 ?fc48 ?fk48 ?fa49 ?fl49 ?fc49 ?fk49
    (case z_abs => k_is)
    (case z_all => k_is)
    (case z_bool => k_is)
    (case z_enumerate => k_is)
    (case z_int => k_is)
    (case z_isinstance => k_is)
    (case z_len => k_is)
    (case z_list => k_is)
    (case z_range => k_is)
    (case z_set => k_is)
    (case z_sorted => k_is)
    (case z_str => k_is)
    (case z_sum => k_is)
    (case z_tuple => k_is)
    (case z_zip => k_is)
    (case c_COUNT => k_is)
    (case c_LEAST_FIELD => k_is)
    (case c_LETTERS => k_is)
    (case c_LEVELS => k_is)
    (case l_LEVELS => k_is)
    (case s_LEVELS => exact rfl)
    (case d_LEVELS => exact rfl)
    (case v_LEVELS => exact by decide)
    (case w_LEVELS => exact by kernel_rfl)
    (case c_LIKE => k_is)
    (case l_LIKE => k_is)
    (case s_LIKE => exact rfl)
    (case d_LIKE => exact rfl)
    (case v_LIKE => exact by decide)
    (case w_LIKE => exact by kernel_rfl)
    (case c_MEMBERS => k_is)
    (case c_MOST_BITS => k_is)
    (case c_MOST_FIELD_forms => k_is)
    (case c_MOST_FIELD_orders => k_is)
    (case c_MOST_NAME => k_is)
    (case c_MOST_PARTS => k_is)
    (case c_PART => k_is)
    (case c_RESERVED => k_is)
    (case l_RESERVED => k_is)
    (case s_RESERVED => exact rfl)
    (case d_RESERVED => exact rfl)
    (case v_RESERVED => exact by decide)
    (case w_RESERVED => exact by kernel_rfl)
    (case c_PARTS => k_is)
    (case k_PARTS =>
      refine LF.ktab_of (by k_is) ?kl (by decide) ?rw
      (case kl =>
      refine ⟨⟨_, _, rfl, rfl⟩, ?_⟩
      refine ⟨⟨_, _, rfl, rfl⟩, ?_⟩
      refine ⟨⟨_, _, rfl, rfl⟩, ?_⟩
      refine ⟨⟨_, _, rfl, rfl⟩, ?_⟩
      refine ⟨⟨_, _, rfl, rfl⟩, ?_⟩
      refine ⟨⟨_, _, rfl, rfl⟩, ?_⟩
      refine ⟨⟨_, _, rfl, rfl⟩, ?_⟩
      refine ⟨⟨_, _, rfl, rfl⟩, ?_⟩
      refine ⟨⟨_, _, rfl, rfl⟩, ?_⟩
      refine ⟨⟨_, _, rfl, rfl⟩, ?_⟩
      refine ⟨⟨_, _, rfl, rfl⟩, ?_⟩
      refine ⟨⟨_, _, rfl, rfl⟩, ?_⟩
      refine ⟨⟨_, _, rfl, rfl⟩, ?_⟩
      refine ⟨⟨_, _, rfl, rfl⟩, ?_⟩
      refine ⟨⟨_, _, rfl, rfl⟩, ?_⟩
      exact True.intro)
      (case rw =>
      refine ⟨⟨_, rfl⟩, LF.row_strs ["count"] (by k_is) rfl rfl (by decide) (by kernel_rfl), ?_⟩
      refine ⟨⟨_, rfl⟩, LF.row_strs ["count"] (by k_is) rfl rfl (by decide) (by kernel_rfl), ?_⟩
      refine ⟨⟨_, rfl⟩, LF.row_strs [] (by k_is) rfl rfl (by decide) (by kernel_rfl), ?_⟩
      refine ⟨⟨_, rfl⟩, LF.row_strs ["counts"] (by k_is) rfl rfl (by decide) (by kernel_rfl), ?_⟩
      refine ⟨⟨_, rfl⟩, LF.row_strs ["part", "part"] (by k_is) rfl rfl (by decide) (by kernel_rfl), ?_⟩
      refine ⟨⟨_, rfl⟩, LF.row_strs ["part", "part"] (by k_is) rfl rfl (by decide) (by kernel_rfl), ?_⟩
      refine ⟨⟨_, rfl⟩, LF.row_strs ["part", "part"] (by k_is) rfl rfl (by decide) (by kernel_rfl), ?_⟩
      refine ⟨⟨_, rfl⟩, LF.row_strs ["part", "part", "part"] (by k_is) rfl rfl (by decide) (by kernel_rfl), ?_⟩
      refine ⟨⟨_, rfl⟩, LF.row_strs ["part", "count"] (by k_is) rfl rfl (by decide) (by kernel_rfl), ?_⟩
      refine ⟨⟨_, rfl⟩, LF.row_strs ["part", "count"] (by k_is) rfl rfl (by decide) (by kernel_rfl), ?_⟩
      refine ⟨⟨_, rfl⟩, LF.row_strs ["part"] (by k_is) rfl rfl (by decide) (by kernel_rfl), ?_⟩
      refine ⟨⟨_, rfl⟩, LF.row_strs ["part"] (by k_is) rfl rfl (by decide) (by kernel_rfl), ?_⟩
      refine ⟨⟨_, rfl⟩, LF.row_strs ["part", "part"] (by k_is) rfl rfl (by decide) (by kernel_rfl), ?_⟩
      refine ⟨⟨_, rfl⟩, LF.row_strs ["part", "counts"] (by k_is) rfl rfl (by decide) (by kernel_rfl), ?_⟩
      refine ⟨⟨_, rfl⟩, LF.row_strs ["part", "part", "count"] (by k_is) rfl rfl (by decide) (by kernel_rfl), ?_⟩
      exact True.intro))
    (case fa0 => k_is)
    (case fl0 => k_is)
    (case fc0 => k_is)
    (case fk0 => k_is)
    (case fa1 => k_is)
    (case fl1 => k_is)
    (case fc1 => k_is)
    (case fk1 => k_is)
    (case fa2 => k_is)
    (case fl2 => k_is)
    (case fc2 => k_is)
    (case fk2 => k_is)
    (case fa3 => k_is)
    (case fl3 => k_is)
    (case fc3 => k_is)
    (case fk3 => k_is)
    (case fa4 => k_is)
    (case fl4 => k_is)
    (case fc4 => k_is)
    (case fk4 => k_is)
    (case fa5 => k_is)
    (case fl5 => k_is)
    (case fc5 => k_is)
    (case fk5 => k_is)
    (case fa6 => k_is)
    (case fl6 => k_is)
    (case fc6 => k_is)
    (case fk6 => k_is)
    (case fa7 => k_is)
    (case fl7 => k_is)
    (case fc7 => k_is)
    (case fk7 => k_is)
    (case fa8 => k_is)
    (case fl8 => k_is)
    (case fc8 => k_is)
    (case fk8 => k_is)
    (case fa9 => k_is)
    (case fl9 => k_is)
    (case fc9 => k_is)
    (case fk9 => k_is)
    (case fa10 => k_is)
    (case fl10 => k_is)
    (case fc10 => k_is)
    (case fk10 => k_is)
    (case fa11 => k_is)
    (case fl11 => k_is)
    (case fc11 => k_is)
    (case fk11 => k_is)
    (case fa12 => k_is)
    (case fl12 => k_is)
    (case fc12 => k_is)
    (case fk12 => k_is)
    (case fa13 => k_is)
    (case fl13 => k_is)
    (case fc13 => k_is)
    (case fk13 => k_is)
    (case fa14 => k_is)
    (case fl14 => k_is)
    (case fc14 => k_is)
    (case fk14 => k_is)
    (case fa15 => k_is)
    (case fl15 => k_is)
    (case fc15 => k_is)
    (case fk15 => k_is)
    (case fa16 => k_is)
    (case fl16 => k_is)
    (case fc16 => k_is)
    (case fk16 => k_is)
    (case fa17 => k_is)
    (case fl17 => k_is)
    (case fc17 => k_is)
    (case fk17 => k_is)
    (case fa18 => k_is)
    (case fl18 => k_is)
    (case fc18 => k_is)
    (case fk18 => k_is)
    (case fa19 => k_is)
    (case fl19 => k_is)
    (case fc19 => k_is)
    (case fk19 => k_is)
    (case fa20 => k_is)
    (case fl20 => k_is)
    (case fc20 => k_is)
    (case fk20 => k_is)
    (case fa21 => k_is)
    (case fl21 => k_is)
    (case fc21 => k_is)
    (case fk21 => k_is)
    (case fa22 => k_is)
    (case fl22 => k_is)
    (case fc22 => k_is)
    (case fk22 => k_is)
    (case fa23 => k_is)
    (case fl23 => k_is)
    (case fc23 => k_is)
    (case fk23 => k_is)
    (case fa24 => k_is)
    (case fl24 => k_is)
    (case fc24 => k_is)
    (case fk24 => k_is)
    (case fa25 => k_is)
    (case fl25 => k_is)
    (case fc25 => k_is)
    (case fk25 => k_is)
    (case fa26 => k_is)
    (case fl26 => k_is)
    (case fc26 => k_is)
    (case fk26 => k_is)
    (case fa27 => k_is)
    (case fl27 => k_is)
    (case fc27 => k_is)
    (case fk27 => k_is)
    (case fa28 => k_is)
    (case fl28 => k_is)
    (case fc28 => k_is)
    (case fk28 => k_is)
    (case fa29 => k_is)
    (case fl29 => k_is)
    (case fc29 => k_is)
    (case fk29 => k_is)
    (case fa30 => k_is)
    (case fl30 => k_is)
    (case fc30 => k_is)
    (case fk30 => k_is)
    (case fa31 => k_is)
    (case fl31 => k_is)
    (case fc31 => k_is)
    (case fk31 => k_is)
    (case fa32 => k_is)
    (case fl32 => k_is)
    (case fc32 => k_is)
    (case fk32 => k_is)
    (case fa33 => k_is)
    (case fl33 => k_is)
    (case fc33 => k_is)
    (case fk33 => k_is)
    (case fa34 => k_is)
    (case fl34 => k_is)
    (case fc34 => k_is)
    (case fk34 => k_is)
    (case fa35 => k_is)
    (case fl35 => k_is)
    (case fc35 => k_is)
    (case fk35 => k_is)
    (case fa36 => k_is)
    (case fl36 => k_is)
    (case fc36 => k_is)
    (case fk36 => k_is)
    (case fa37 => k_is)
    (case fl37 => k_is)
    (case fc37 => k_is)
    (case fk37 => k_is)
    (case fa38 => k_is)
    (case fl38 => k_is)
    (case fc38 => k_is)
    (case fk38 => k_is)
    (case fa39 => k_is)
    (case fl39 => k_is)
    (case fc39 => k_is)
    (case fk39 => k_is)
    (case fa40 => k_is)
    (case fl40 => k_is)
    (case fc40 => k_is)
    (case fk40 => k_is)
    (case fa41 => k_is)
    (case fl41 => k_is)
    (case fc41 => k_is)
    (case fk41 => k_is)
    (case fa42 => k_is)
    (case fl42 => k_is)
    (case fc42 => k_is)
    (case fk42 => k_is)
    (case fa43 => k_is)
    (case fl43 => k_is)
    (case fc43 => k_is)
    (case fk43 => k_is)
    (case fa44 => k_is)
    (case fl44 => k_is)
    (case fc44 => k_is)
    (case fk44 => k_is)
    (case fa45 => k_is)
    (case fl45 => k_is)
    (case fc45 => k_is)
    (case fk45 => k_is)
    (case fa46 => k_is)
    (case fl46 => k_is)
    (case fc46 => k_is)
    (case fk46 => k_is)
    (case fa47 => k_is)
    (case fl47 => k_is)
    (case fc47 => k_is)
    (case fk47 => k_is)
    (case fa48 => k_is)
    (case fl48 => k_is)
    (case fc48 => k_is)
    (case fk48 => k_is)
    (case fa49 => k_is)
    (case fl49 => k_is)
    (case fc49 => k_is)
    (case fk49 => k_is)

