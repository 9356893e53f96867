import PyProof.Rows.All
import Wide.All
import OpenK.AllK
import Wide.FinOn
import HandS.ForMost
import HandS.Exc
import HandS.ExcOwn
import HandS.CallSlots
import PyProof.NeData
import HandS.WordsExc
import HandS.Walk
import HandS.Rev
import HandS.TupAny
import HandS.More
import HandS.WordsDict
import HandS.Property
import HandS.Defaults
import HandS.IsInst
import HandS.Zip
import HandS.DictEq
import HandS.ListEq
import PySem.Challenge.RW_viewloom_k47_cells_and_their_queues
set_option Elab.async false
set_option linter.all false
set_option maxRecDepth 100000
set_option maxHeartbeats 1000000
/-! A layer of pure values over the hand layer: what a def computes as a Lean function of values (D) and a small heap of the objects that change (HD). -/
namespace T3
open PySem L2

/-- a value as a tree; ref: an object of the small heap; own: the object that the slot i alone holds; scr: the script -/
inductive D where
  | non | bl (b : Bool) | int (i : Int) | str (s : Str)
  | tup (ds : List D) | lst (ds : List D) | dic (kvs : List (Key × D))
  | ref (i : Nat) | own (i : Nat) | scr (ns : List Int)
instance : Inhabited D := ⟨.non⟩
/-- an object that changes -/
inductive Cell where
  | lst (ds : List D) | dic (kvs : List (Key × D)) | ins (C : Addr) (fs : List (Str × D))
instance : Inhabited Cell := ⟨.lst []⟩
abbrev HD := List Cell
inductive Slot where
  | val (d : D) | own (c : Cell)
instance : Inhabited Slot := ⟨.val .non⟩
abbrev S3 := List (Option Slot)
structure Ex where
  C : Addr
  fs : List (Str × D)
inductive Res (α : Type) where
  | ok (a : α) (h : HD) | exc (e : Ex) (h : HD) | stuck
abbrev F (α : Type) := S3 → HD → Res α
inductive Fl where
  | nx (σ : S3) (h : HD) | rt (d : D) (h : HD) | bk (σ : S3) (h : HD) | ct (σ : S3) (h : HD) | exc (e : Ex) (σ : S3) (h : HD) | stuck
abbrev G := S3 → HD → Fl

/-! ### how the abstract heap bears a value -/
section
variable (K : PySem.W.Frag) (ρ : List Addr) (H : Hp) (M : Addr → Prop)
mutual
inductive Rep : D → V → Prop
  | non : Rep .non .non
  | bl (b : Bool) : Rep (.bl b) (.bl b)
  | int (i : Int) : Rep (.int i) (.int i)
  | str (s : Str) : Rep (.str s) (.str s)
  | tup {a : Addr} {xs : List V} {ds : List D} : (Rd H a (.tup xs) ∧ ¬ M a) ∨ SqT K (fun _ => none) a xs → RepL ds xs → Rep (.tup ds) (.ref a)
  | lst {a : Addr} {xs : List V} {ds : List D} : H a = some (.lst xs) → ¬ M a → RepL ds xs → Rep (.lst ds) (.ref a)
  | dic {a : Addr} {us : List (Key × V)} {kvs : List (Key × D)} : Rd H a (.dK us) → ¬ M a → RepK kvs us → Rep (.dic kvs) (.ref a)
  | ref {i : Nat} {a : Addr} : ρ[i]? = some a → Rep (.ref i) (.ref a)
  | scr {a : Addr} {ns : List Int} : (Rd H a (.lst (ns.map V.int)) ∧ ¬ M a) ∨ SqL K (fun _ => none) a (ns.map V.int) → Rep (.scr ns) (.ref a)
inductive RepL : List D → List V → Prop
  | nil : RepL [] []
  | cons {d : D} {v : V} {ds : List D} {vs : List V} : Rep d v → RepL ds vs → RepL (d :: ds) (v :: vs)
inductive RepK : List (Key × D) → List (Key × V) → Prop
  | nil : RepK [] []
  | cons {k : Key} {d : D} {v : V} {ds : List (Key × D)} {vs : List (Key × V)} : Rep d v → RepK ds vs → RepK ((k, d) :: ds) ((k, v) :: vs)
end
inductive RepF : List (Str × D) → List (Str × V) → Prop
  | nil : RepF [] []
  | cons {k : Str} {d : D} {v : V} {ds : List (Str × D)} {vs : List (Str × V)} : Rep K ρ H M d v → RepF ds vs → RepF ((k, d) :: ds) ((k, v) :: vs)
/-- an object of the small heap at a -/
def CellR : Cell → Addr → Prop
  | .lst ds, a => ∃ xs, H a = some (.lst xs) ∧ RepL K ρ H M ds xs
  | .dic kvs, a => ∃ us, H a = some (.dK us) ∧ RepK K ρ H M kvs us
  | .ins C fs, a => ∃ dx us, H a = some (.ins C dx us) ∧ RepF K ρ H M fs us
inductive CellsR : HD → List Addr → Prop
  | nil : CellsR [] []
  | cons {c : Cell} {a : Addr} {h : HD} {l : List Addr} : CellR K ρ H M c a → CellsR h l → CellsR (c :: h) (a :: l)
/-- the slots; the last list: where the slots' own objects stand -/
inductive SlR : S3 → St → List Addr → Prop
  | nil : SlR [] [] []
  | none {o : Option V} {s : S3} {t : St} {μ : List Addr} : SlR s t μ → SlR (none :: s) (o :: t) μ
  | val {d : D} {v : V} {s : S3} {t : St} {μ : List Addr} : Rep K ρ H M d v → SlR s t μ → SlR (some (.val d) :: s) (some v :: t) μ
  | own {c : Cell} {a : Addr} {s : S3} {t : St} {μ : List Addr} : CellR K ρ H M c a → SlR s t μ → SlR (some (.own c) :: s) (some (.ref a) :: t) (a :: μ)
end

/-- the addresses that may change: those kept for others, the small heap's, the slots' own -/
def Mu (N : Addr → Prop) (ρ μ : List Addr) : Addr → Prop := fun a => N a ∨ a ∈ ρ ∨ a ∈ μ
structure Fr (K : PySem.W.Frag) (N : Addr → Prop) (ρ μ : List Addr) (σ3 : S3) (h : HD) (σ : St) (H : Hp) : Prop where
  sl : SlR K ρ H (Mu N ρ μ) σ3 σ μ
  hp : CellsR K ρ H (Mu N ρ μ) h ρ
  nd : (ρ ++ μ).Nodup
  nN : ∀ a, N a → a ∉ ρ ∧ a ∉ μ
  nT : ∀ a, N a → H a ≠ none
/-- as it was, or a dict that has been locked for a walk -/
def Stay (o : HO) (x : Option HO) : Prop := x = some o ∨ ∃ ob us, o = .dK us ∧ x = some (.frz ob (.dK us))
theorem Stay.eq {o : HO} {x : Option HO} (h : Stay o x) (n : ∀ us, o ≠ .dK us) : x = some o := by
  rcases h with h | ⟨ob, us, e, _⟩
  · exact h
  · exact absurd e (n us)
theorem Stay.trans {o : HO} {x y : Option HO} (h : Stay o x) (k : ∀ p, x = some p → Stay p y) : Stay o y := by
  rcases h with h | ⟨ob, us, e, h⟩
  · exact k o h
  · exact .inr ⟨ob, us, e, (k _ h).eq fun us e => by cases e⟩
/-- from then to now -/
structure Ext (N : Addr → Prop) (ρ μ : List Addr) (H : Hp) (ρ' μ' : List Addr) (H' : Hp) : Prop where
  pre : ∃ τ, ρ' = ρ ++ τ
  keep : ∀ b o, H b = some o → ¬ Mu N ρ μ b → Stay o (H' b)
  kN : ∀ b, N b → H' b = H b
  out : ∀ b o, H b = some o → ¬ Mu N ρ μ b → ¬ Mu N ρ' μ' b

section
variable {K : PySem.W.Frag} {N : Addr → Prop} {ρ ρ' ρ'' μ μ' μ'' : List Addr} {σ3 : S3} {h : HD} {σ : St} {H H' H'' : Hp} {M M' : Addr → Prop}
theorem Ext.refl : Ext N ρ μ H ρ μ H := ⟨⟨[], by simp⟩, fun _ _ e _ => .inl e, fun _ _ => rfl, fun _ _ _ n => n⟩
theorem Ext.trans (a : Ext N ρ μ H ρ' μ' H') (b : Ext N ρ' μ' H' ρ'' μ'' H'') : Ext N ρ μ H ρ'' μ'' H'' := by
  refine ⟨?_, fun c o e n => ?_, fun c n => (b.kN c n).trans (a.kN c n), fun c o e n => ?_⟩
  · obtain ⟨t, rfl⟩ := a.pre
    obtain ⟨t', rfl⟩ := b.pre
    exact ⟨t ++ t', by simp⟩
  · exact (a.keep c o e n).trans fun p e1 => b.keep c p e1 (a.out c o e n)
  · rcases a.keep c o e n with e1 | ⟨ob, us, _, e1⟩
    · exact b.out c _ e1 (a.out c o e n)
    · exact b.out c _ e1 (a.out c o e n)

/-- what a value leans on stays -/
theorem FzStay (k : ∀ b o, H b = some o → ¬ M b → Stay o (H' b) ∧ ¬ M' b) {a : Addr} {u : HO} (d : ∀ us, u ≠ .dK us) (r : Rd H a u ∧ ¬ M a) : Rd H' a u ∧ ¬ M' a := by
  obtain ⟨r | ⟨o, r⟩, n⟩ := r
  · exact ⟨.inl ((k _ _ r n).1.eq d), (k _ _ r n).2⟩
  · exact ⟨.inr ⟨o, (k _ _ r n).1.eq fun us e => by cases e⟩, (k _ _ r n).2⟩
theorem DicStay (k : ∀ b o, H b = some o → ¬ M b → Stay o (H' b) ∧ ¬ M' b) {a : Addr} {us : List (Key × V)} (r : Rd H a (.dK us)) (n : ¬ M a) : Rd H' a (.dK us) ∧ ¬ M' a := by
  rcases r with r | ⟨o, r⟩
  · refine ⟨?_, (k _ _ r n).2⟩
    rcases (k _ _ r n).1 with e | ⟨ob, vs, e, e2⟩
    · exact .inl e
    · cases e; exact .inr ⟨ob, e2⟩
  · exact ⟨.inr ⟨o, (k _ _ r n).1.eq fun us e => by cases e⟩, (k _ _ r n).2⟩
mutual
theorem Rep.go (k : ∀ b o, H b = some o → ¬ M b → Stay o (H' b) ∧ ¬ M' b) (p : ∀ (i : Nat) (a : Addr), ρ[i]? = some a → ρ'[i]? = some a) : ∀ {d : D} {v : V}, Rep K ρ H M d v → Rep K ρ' H' M' d v
  | _, _, .non => .non
  | _, _, .bl b => .bl b
  | _, _, .int i => .int i
  | _, _, .str s => .str s
  | _, _, .tup (.inl f) l => .tup (.inl (FzStay k (fun _ e => by cases e) f)) (RepL.go k p l)
  | _, _, .tup (.inr f) l => .tup (.inr f) (RepL.go k p l)
  | _, _, .lst e n l => .lst ((k _ _ e n).1.eq fun _ e => by cases e) (k _ _ e n).2 (RepL.go k p l)
  | _, _, .dic e n l => .dic (DicStay k e n).1 (DicStay k e n).2 (RepK.go k p l)
  | _, _, .ref e => .ref (p _ _ e)
  | _, _, .scr (.inl f) => .scr (.inl (FzStay k (fun _ e => by cases e) f))
  | _, _, .scr (.inr f) => .scr (.inr f)
theorem RepL.go (k : ∀ b o, H b = some o → ¬ M b → Stay o (H' b) ∧ ¬ M' b) (p : ∀ (i : Nat) (a : Addr), ρ[i]? = some a → ρ'[i]? = some a) : ∀ {d : List D} {v : List V}, RepL K ρ H M d v → RepL K ρ' H' M' d v
  | _, _, .nil => .nil
  | _, _, .cons a l => .cons (Rep.go k p a) (RepL.go k p l)
theorem RepK.go (k : ∀ b o, H b = some o → ¬ M b → Stay o (H' b) ∧ ¬ M' b) (p : ∀ (i : Nat) (a : Addr), ρ[i]? = some a → ρ'[i]? = some a) : ∀ {d : List (Key × D)} {v : List (Key × V)}, RepK K ρ H M d v → RepK K ρ' H' M' d v
  | _, _, .nil => .nil
  | _, _, .cons a l => .cons (Rep.go k p a) (RepK.go k p l)
end
theorem RepF.go (k : ∀ b o, H b = some o → ¬ M b → Stay o (H' b) ∧ ¬ M' b) (p : ∀ (i : Nat) (a : Addr), ρ[i]? = some a → ρ'[i]? = some a) : ∀ {d : List (Str × D)} {v : List (Str × V)}, RepF K ρ H M d v → RepF K ρ' H' M' d v
  | _, _, .nil => .nil
  | _, _, .cons a l => .cons (Rep.go k p a) (RepF.go k p l)
theorem Ext.k (x : Ext N ρ μ H ρ' μ' H') : ∀ b o, H b = some o → ¬ Mu N ρ μ b → Stay o (H' b) ∧ ¬ Mu N ρ' μ' b := fun b o e n => ⟨x.keep b o e n, x.out b o e n⟩
theorem Ext.p (x : Ext N ρ μ H ρ' μ' H') : ∀ (i : Nat) (a : Addr), ρ[i]? = some a → ρ'[i]? = some a := fun i a e => by
  obtain ⟨t, rfl⟩ := x.pre
  rw [List.getElem?_append_left (List.getElem?_eq_some_iff.mp e).1]; exact e
theorem Rep.ext {d : D} {v : V} (r : Rep K ρ H (Mu N ρ μ) d v) (x : Ext N ρ μ H ρ' μ' H') : Rep K ρ' H' (Mu N ρ' μ') d v := r.go x.k x.p
theorem RepL.ext {d : List D} {v : List V} (r : RepL K ρ H (Mu N ρ μ) d v) (x : Ext N ρ μ H ρ' μ' H') : RepL K ρ' H' (Mu N ρ' μ') d v := r.go x.k x.p
theorem RepK.ext {d : List (Key × D)} {v : List (Key × V)} (r : RepK K ρ H (Mu N ρ μ) d v) (x : Ext N ρ μ H ρ' μ' H') : RepK K ρ' H' (Mu N ρ' μ') d v := r.go x.k x.p
theorem RepF.ext {d : List (Str × D)} {v : List (Str × V)} (r : RepF K ρ H (Mu N ρ μ) d v) (x : Ext N ρ μ H ρ' μ' H') : RepF K ρ' H' (Mu N ρ' μ') d v := r.go x.k x.p
/-- fewer addresses that may change -/
theorem Rep.less {d : D} {v : V} (r : Rep K ρ H M d v) (s : ∀ a, M' a → M a) : Rep K ρ H M' d v := r.go (fun _ _ e n => ⟨.inl e, fun m => n (s _ m)⟩) fun _ _ e => e
theorem RepL.less {d : List D} {v : List V} (r : RepL K ρ H M d v) (s : ∀ a, M' a → M a) : RepL K ρ H M' d v := r.go (fun _ _ e n => ⟨.inl e, fun m => n (s _ m)⟩) fun _ _ e => e
theorem CellR.at {c : Cell} {a : Addr} (r : CellR K ρ H M c a) : ∃ o, H a = some o ∧ Mut (some o) := by
  cases c with
  | lst ds => obtain ⟨xs, e, _⟩ := r; exact ⟨_, e, trivial⟩
  | dic kvs => obtain ⟨xs, e, _⟩ := r; exact ⟨_, e, trivial⟩
  | ins C fs => obtain ⟨dx, us, e, _⟩ := r; exact ⟨_, e, trivial⟩
/-- an object of the small heap goes on, its own address as it was -/
theorem CellR.go (k : ∀ b o, H b = some o → ¬ M b → Stay o (H' b) ∧ ¬ M' b) (p : ∀ (i : Nat) (a : Addr), ρ[i]? = some a → ρ'[i]? = some a) {c : Cell} {a : Addr} (r : CellR K ρ H M c a) (e : H' a = H a) : CellR K ρ' H' M' c a := by
  cases c with
  | lst ds => obtain ⟨xs, q, l⟩ := r; exact ⟨xs, e.trans q, l.go k p⟩
  | dic kvs => obtain ⟨xs, q, l⟩ := r; exact ⟨xs, e.trans q, l.go k p⟩
  | ins C fs => obtain ⟨dx, us, q, l⟩ := r; exact ⟨dx, us, e.trans q, l.go k p⟩
theorem CellsR.go (k : ∀ b o, H b = some o → ¬ M b → Stay o (H' b) ∧ ¬ M' b) (p : ∀ (i : Nat) (a : Addr), ρ[i]? = some a → ρ'[i]? = some a) : ∀ {h : HD} {l : List Addr}, CellsR K ρ H M h l → (∀ a ∈ l, H' a = H a) → CellsR K ρ' H' M' h l
  | _, _, .nil, _ => .nil
  | _, _, .cons r t, e => .cons (r.go k p (e _ List.mem_cons_self)) (CellsR.go k p t fun a m => e a (List.mem_cons_of_mem _ m))
theorem SlR.go (k : ∀ b o, H b = some o → ¬ M b → Stay o (H' b) ∧ ¬ M' b) (p : ∀ (i : Nat) (a : Addr), ρ[i]? = some a → ρ'[i]? = some a) : ∀ {s : S3} {t : St} {μ : List Addr}, SlR K ρ H M s t μ → (∀ a ∈ μ, H' a = H a) → SlR K ρ' H' M' s t μ
  | _, _, _, .nil, _ => .nil
  | _, _, _, .none r, e => .none (SlR.go k p r e)
  | _, _, _, .val d r, e => .val (d.go k p) (SlR.go k p r e)
  | _, _, _, .own c r, e => .own (c.go k p (e _ List.mem_cons_self)) (SlR.go k p r fun a m => e a (List.mem_cons_of_mem _ m))
theorem CellsR.at : ∀ {h : HD} {l : List Addr}, CellsR K ρ H M h l → ∀ a ∈ l, ∃ o, H a = some o ∧ Mut (some o)
  | _, _, .nil, a, m => by cases m
  | _, _, .cons r t, a, m => by
    rcases List.mem_cons.mp m with rfl | m
    · exact r.at
    · exact CellsR.at t a m
theorem SlR.at : ∀ {s : S3} {t : St} {μ : List Addr}, SlR K ρ H M s t μ → ∀ a ∈ μ, ∃ o, H a = some o ∧ Mut (some o)
  | _, _, _, .nil, a, m => by cases m
  | _, _, _, .none r, a, m => SlR.at r a m
  | _, _, _, .val d r, a, m => SlR.at r a m
  | _, _, _, .own c r, a, m => by
    rcases List.mem_cons.mp m with rfl | m
    · exact c.at
    · exact SlR.at r a m
theorem Fr.tracked (f : Fr K N ρ μ σ3 h σ H) {a : Addr} (m : Mu N ρ μ a) : H a ≠ none := by
  rcases m with m | m | m
  · exact f.nT a m
  · obtain ⟨o, e, _⟩ := f.hp.at a m; rw [e]; simp
  · obtain ⟨o, e, _⟩ := f.sl.at a m; rw [e]; simp
theorem Fr.new (f : Fr K N ρ μ σ3 h σ H) {p : Addr} (e : H p = none) : ¬ Mu N ρ μ p := fun m => f.tracked m e
/-- nothing that is tracked changes -/
theorem Fr.same (f : Fr K N ρ μ σ3 h σ H) (s : ∀ b o, H b = some o → H' b = some o) : Fr K N ρ μ σ3 h σ H' ∧ Ext N ρ μ H ρ μ H' := by
  have k : ∀ b o, H b = some o → ¬ Mu N ρ μ b → Stay o (H' b) ∧ ¬ Mu N ρ μ b := fun b o e n => ⟨.inl (s b o e), n⟩
  have kN : ∀ b, N b → H' b = H b := fun b n => by
    cases q : H b with
    | none => exact absurd q (f.nT b n)
    | some o => exact s b o q
  refine ⟨⟨f.sl.go k (fun _ _ e => e) fun a m => ?_, f.hp.go k (fun _ _ e => e) fun a m => ?_, f.nd, f.nN, fun a m e => ?_⟩, ⟨[], by simp⟩, fun b o e _ => .inl (s b o e), kN, fun _ _ _ n => n⟩
  · obtain ⟨o, e, _⟩ := f.sl.at a m; rw [e]; exact s a o e
  · obtain ⟨o, e, _⟩ := f.hp.at a m; rw [e]; exact s a o e
  · cases q : H a with
    | none => exact f.nT a m q
    | some o => rw [s a o q] at e; cases e
theorem same_upd {p : Addr} (n : H p = none) (o : HO) : ∀ b u, H b = some u → (upd H p o) b = some u := fun b u e => by rw [upd_ne (ne_of_none e n)]; exact e
theorem Fr.alloc (f : Fr K N ρ μ σ3 h σ H) {p : Addr} (n : H p = none) (o : HO) : Fr K N ρ μ σ3 h σ (upd H p o) ∧ Ext N ρ μ H ρ μ (upd H p o) := f.same (same_upd n o)
theorem Fr.len (f : Fr K N ρ μ σ3 h σ H) : ρ.length = h.length := by
  have : ∀ {h : HD} {l : List Addr}, CellsR K ρ H (Mu N ρ μ) h l → l.length = h.length := by
    intro h l c
    induction c with
    | nil => rfl
    | cons _ _ ih => simp [ih]
  exact this f.hp
/-- a dict that does not change is locked -/
theorem Fr.lock (f : Fr K N ρ μ σ3 h σ H) {d : Addr} {us : List (Key × V)} {ob : Obj} (e : H d = some (.dK us)) (n : ¬ Mu N ρ μ d) : Fr K N ρ μ σ3 h σ (upd H d (.frz ob (.dK us))) ∧ Ext N ρ μ H ρ μ (upd H d (.frz ob (.dK us))) := by
  have at_ : ∀ b, Mu N ρ μ b → (upd H d (.frz ob (.dK us))) b = H b := fun b m => upd_ne fun q => n (q ▸ m)
  have k : ∀ b o, H b = some o → ¬ Mu N ρ μ b → Stay o ((upd H d (.frz ob (.dK us))) b) ∧ ¬ Mu N ρ μ b := fun b o e' m => by
    refine ⟨?_, m⟩
    by_cases q : b = d
    · subst q
      rw [e] at e'; cases e'
      exact .inr ⟨ob, us, rfl, upd_same⟩
    · exact .inl (by rw [upd_ne q]; exact e')
  exact ⟨⟨f.sl.go k (fun _ _ e => e) fun a m => at_ a (.inr (.inr m)), f.hp.go k (fun _ _ e => e) fun a m => at_ a (.inr (.inl m)), f.nd, f.nN, fun a m => by rw [at_ a (.inl m)]; exact f.nT a m⟩,
    ⟨[], by simp⟩, fun b o e m => (k b o e m).1, fun b m => at_ b (.inl m), fun _ _ _ m => m⟩
end
end T3

set_option Elab.async false
set_option linter.all false
set_option maxRecDepth 100000
set_option maxHeartbeats 1000000
namespace T3
open PySem L2

/-! ### the denotations: a computation, then another one -/
def dPure {α : Type} (a : α) : F α := fun _ h => .ok a h
def dStuck {α : Type} : F α := fun _ _ => .stuck
def dBind {α β : Type} (f : F α) (k : α → F β) : F β := fun σ h => match f σ h with
  | .ok a h' => k a σ h'
  | .exc e h' => .exc e h'
  | .stuck => .stuck
def dOpt {α : Type} : Option α → F α
  | some a => dPure a
  | none => dStuck

/-- an exception: its class and its own dict -/
inductive ExR (K : PySem.W.Frag) (ρ : List Addr) (H : Hp) (M : Addr → Prop) : Ex → Value → Option Addr → Prop
  | mk {C dx : Addr} {fs : List (Str × D)} {us : List (Str × V)} : H dx = some (.xd us) → ¬ M dx → RepF K ρ H M fs us → ExR K ρ H M ⟨C, fs⟩ (.ref C) (some dx)
theorem ExR.ext {K : PySem.W.Frag} {N : Addr → Prop} {ρ ρ' μ μ' : List Addr} {H H' : Hp} {e : Ex} {c : Value} {d : Option Addr} (r : ExR K ρ H (Mu N ρ μ) e c d) (x : Ext N ρ μ H ρ' μ' H') : ExR K ρ' H' (Mu N ρ' μ') e c d := by
  cases r with
  | mk a n l => exact .mk ((x.k _ _ a n).1.eq fun _ e => by cases e) (x.k _ _ a n).2 (l.ext x)

/-- how a result lies: by the small heap's places, the frame, the heap -/
abbrev RR (α β : Type) := List Addr → List Addr → S3 → St → Hp → α → β → Prop
section
variable (K : PySem.W.Frag) (N : Addr → Prop) (W : WX) {α β : Type} (R : RR α β)
def Post (r : Res α) (ρ μ : List Addr) (σ3 : S3) (σ : St) (H : Hp) (Q : β → Hp → Prop) : Prop := match r with
  | .ok a h' => ∀ ρ' H' b, Ext N ρ μ H ρ' μ H' → Fr K N ρ' μ σ3 h' σ H' → R ρ' μ σ3 σ H' a b → Q b H'
  | .exc e h' => ∀ ρ' H' c d, Ext N ρ μ H ρ' μ H' → Fr K N ρ' μ σ3 h' σ H' → ExR K ρ' H' (Mu N ρ' μ) e c d → W c d σ H'
  | .stuck => False
/-- the reading of a denotation -/
def Lift (f : F α) : St → Hp → (β → Hp → Prop) → Prop := fun σ H Q => ∃ ρ μ σ3 h, Fr K N ρ μ σ3 h σ H ∧ Post K N W R (f σ3 h) ρ μ σ3 σ H Q
end
section
variable {K : PySem.W.Frag} {N : Addr → Prop} {W : WX} {α β γ δ : Type} {R : RR α β} {R' : RR γ δ} {ρ μ : List Addr} {σ3 : S3} {h : HD} {σ : St} {H : Hp}
theorem Post.mono {r : Res α} {Q Q' : β → Hp → Prop} (p : Post K N W R r ρ μ σ3 σ H Q) (i : ∀ b H', Q b H' → Q' b H') : Post K N W R r ρ μ σ3 σ H Q' := by
  cases r with
  | ok a h' => exact fun ρ' H' b x f r => i _ _ (p ρ' H' b x f r)
  | exc e h' => exact p
  | stuck => exact p
theorem Lift.mono {f : F α} {Q Q' : β → Hp → Prop} (i : ∀ b H', Q b H' → Q' b H') (p : Lift K N W R f σ H Q) : Lift K N W R f σ H Q' := by
  obtain ⟨ρ, μ, σ3, h, fr, p⟩ := p
  exact ⟨ρ, μ, σ3, h, fr, p.mono i⟩
/-- the wish seen from a later state -/
theorem Post.later {r : Res α} {Q : β → Hp → Prop} {ρ' : List Addr} {H' : Hp} (p : Post K N W R r ρ μ σ3 σ H Q) (x : Ext N ρ μ H ρ' μ H') : Post K N W R r ρ' μ σ3 σ H' Q := by
  cases r with
  | ok a h' => exact fun ρ2 H2 b y f r => p ρ2 H2 b (x.trans y) f r
  | exc e h' => exact fun ρ2 H2 c d y f r => p ρ2 H2 c d (x.trans y) f r
  | stuck => exact p
/-- THE STEP: the first part's reading, the rest seen from behind it -/
theorem bindP {f : F α} {k : α → F γ} {Q : δ → Hp → Prop} (fr : Fr K N ρ μ σ3 h σ H) (p : Post K N W R' (dBind f k σ3 h) ρ μ σ3 σ H Q) :
    Lift K N W R f σ H (fun b H1 => ∃ a ρ1 h1, Ext N ρ μ H ρ1 μ H1 ∧ Fr K N ρ1 μ σ3 h1 σ H1 ∧ R ρ1 μ σ3 σ H1 a b ∧ Post K N W R' (k a σ3 h1) ρ1 μ σ3 σ H1 Q) := by
  refine ⟨ρ, μ, σ3, h, fr, ?_⟩
  have e : dBind f k σ3 h = match f σ3 h with
    | .ok a h' => k a σ3 h'
    | .exc e h' => .exc e h'
    | .stuck => .stuck := rfl
  rw [e] at p
  cases q : f σ3 h with
  | ok a h' =>
    rw [q] at p
    exact fun ρ' H' b x f r => ⟨a, ρ', h', x, f, r, Post.later p x⟩
  | exc e h' =>
    rw [q] at p
    exact p
  | stuck =>
    rw [q] at p
    exact p
end

/-! ### expressions -/
/-- a value, or an object that a slot alone holds -/
def RX (K : PySem.W.Frag) (N : Addr → Prop) : RR D V := fun ρ μ σ3 σ H d v => match d with
  | .own i => ∃ c, σ3[i]? = some (some (.own c)) ∧ σ[i]? = some (some v)
  | d => Rep K ρ H (Mu N ρ μ) d v
theorem RX.of {K : PySem.W.Frag} {N : Addr → Prop} {ρ μ : List Addr} {σ3 : S3} {σ : St} {H : Hp} {d : D} {v : V} (r : Rep K ρ H (Mu N ρ μ) d v) : RX K N ρ μ σ3 σ H d v := by
  cases d <;> first | exact r | cases r
theorem RX.ext {K : PySem.W.Frag} {N : Addr → Prop} {ρ ρ' μ : List Addr} {σ3 : S3} {σ : St} {H H' : Hp} {d : D} {v : V} (r : RX K N ρ μ σ3 σ H d v) (x : Ext N ρ μ H ρ' μ H') : RX K N ρ' μ σ3 σ H' d v := by
  cases d <;> first | exact r | exact Rep.ext r x
/-- no object that a slot alone holds -/
def cl : D → Option D
  | .own _ => none
  | d => some d
theorem RX.clean {K : PySem.W.Frag} {N : Addr → Prop} {ρ μ : List Addr} {σ3 : S3} {σ : St} {H : Hp} {d e : D} {v : V} (r : RX K N ρ μ σ3 σ H d v) (c : cl d = some e) : e = d ∧ Rep K ρ H (Mu N ρ μ) d v := by
  cases d <;> first | exact ⟨(Option.some.inj c).symm, r⟩ | cases c
def RB : RR Bool Bool := fun _ _ _ _ _ a b => a = b
def RA (K : PySem.W.Frag) (N : Addr → Prop) : RR (List D) (List V) := fun ρ μ _ _ H ds vs => RepL K ρ H (Mu N ρ μ) ds vs
/-- arguments of a built-in: slots' own objects may be among them -/
inductive RXs (K : PySem.W.Frag) (N : Addr → Prop) (ρ μ : List Addr) (σ3 : S3) (σ : St) (H : Hp) : List D → List V → Prop
  | nil : RXs K N ρ μ σ3 σ H [] []
  | cons {d : D} {v : V} {ds : List D} {vs : List V} : RX K N ρ μ σ3 σ H d v → RXs K N ρ μ σ3 σ H ds vs → RXs K N ρ μ σ3 σ H (d :: ds) (v :: vs)

structure PE3 (X : Cx) (N : Addr → Prop) (W : WX) (e : Expr) (f : F D) : Prop where
  run : PE X e (Lift X.K N W (RX X.K N) f)
structure PT3 (X : Cx) (N : Addr → Prop) (W : WX) (e : Expr) (f : F Bool) : Prop where
  run : PT X e (Lift X.K N W RB f)
structure PA3 (X : Cx) (N : Addr → Prop) (W : WX) (es : List Expr) (f : F (List D)) : Prop where
  run : PA X es (Lift X.K N W (RXs X.K N) f)
/-- a new object, held by nothing yet -/
def RN (K : PySem.W.Frag) (N : Addr → Prop) : RR Cell V := fun ρ μ σ3 σ H c v => ∃ p h, v = .ref p ∧ ¬ Mu N ρ μ p ∧ Fr K (fun a => N a ∨ a = p) ρ μ σ3 h σ H ∧ CellR K ρ H (Mu (fun a => N a ∨ a = p) ρ μ) c p

section
variable {X : Cx} {N : Addr → Prop} {W : WX}
theorem pe_imp {e : Expr} {t t' : TE} (h : PE X e t) (i : ∀ σ H Q, t' σ H Q → t σ H Q) : PE X e t' := ⟨fun pins s σ H Q I q => h.run pins s σ H Q I (i _ _ _ q)⟩
theorem pt_imp {e : Expr} {t t' : TT} (h : PT X e t) (i : ∀ σ H Q, t' σ H Q → t σ H Q) : PT X e t' := ⟨fun pins s σ H Q I q => h.run pins s σ H Q I (i _ _ _ q)⟩
theorem pa_imp {e : List Expr} {t t' : TA} (h : PA X e t) (i : ∀ σ H Q, t' σ H Q → t σ H Q) : PA X e t' := ⟨fun pos pins s σ H Q I q => h.run pos pins s σ H Q I (i _ _ _ q)⟩
theorem ps_imp {e : Stmt} {t t' : TS} (h : PS X e t) (i : ∀ D σ H, t' D σ H → t D σ H) : PS X e t' := ⟨fun pins s σ H D I q => h.run pins s σ H D I (i _ _ _ q)⟩
theorem pss_imp {e : List Stmt} {t t' : TS} (h : PSs X e t) (i : ∀ D σ H, t' D σ H → t D σ H) : PSs X e t' := ⟨fun pins s σ H D I q => h.run pins s σ H D I (i _ _ _ q)⟩

/-- a value that is there at once -/
theorem post_ok {K : PySem.W.Frag} {ρ μ : List Addr} {σ3 : S3} {h : HD} {σ : St} {H : Hp} {α β : Type} {R : RR α β} {a : α} {b : β} {Q : β → Hp → Prop} (fr : Fr K N ρ μ σ3 h σ H) (p : Post K N W R (.ok a h) ρ μ σ3 σ H Q) (r : R ρ μ σ3 σ H a b) : Q b H :=
  p ρ H b Ext.refl fr r

def dVar (i : Nat) : F D := fun σ h => match σ[i]? with
  | some (some (.val d)) => .ok d h
  | some (some (.own _)) => .ok (.own i) h
  | _ => .stuck
theorem SlR.var {K : PySem.W.Frag} {ρ : List Addr} {H : Hp} {M : Addr → Prop} : ∀ {s : S3} {t : St} {μ : List Addr}, SlR K ρ H M s t μ → ∀ (i : Nat) (x : Slot), s[i]? = some (some x) → ∃ v, t[i]? = some (some v) ∧ match x with | .val d => Rep K ρ H M d v | .own c => ∃ a, v = .ref a ∧ a ∈ μ ∧ CellR K ρ H M c a
  | _, _, _, .nil, i, x, e => by simp at e
  | _, _, _, .none r, 0, x, e => by simp at e
  | _, _, _, .none r, i + 1, x, e => SlR.var r i x (by simpa using e)
  | _, _, _, .val d r, 0, x, e => by
    simp at e; subst e
    exact ⟨_, rfl, d⟩
  | _, _, _, .val d r, i + 1, x, e => SlR.var r i x (by simpa using e)
  | _, _, _, .own c r, 0, x, e => by
    simp at e; subst e
    exact ⟨_, rfl, _, rfl, List.mem_cons_self, c⟩
  | _, _, _, .own c r, i + 1, x, e => by
    obtain ⟨v, h1, h2⟩ := SlR.var r i x (by simpa using e)
    refine ⟨v, by simpa using h1, ?_⟩
    cases x with
    | val d => exact h2
    | own c => obtain ⟨a, e, m, q⟩ := h2; exact ⟨a, e, List.mem_cons_of_mem _ m, q⟩
theorem e_var (i : Nat) {x : Str} {pos : Pos} (hN : X.N[i]? = some x := by rfl) (hv : Vis X.env.scope x := by first | exact Or.inl rfl | exact Or.inr (Or.inl rfl) | exact Or.inr (Or.inr rfl)) (hd : (x == ("__debug__" : Str)) = false := by decide)
    (hcd : (x == ("__classdict__" : Str)) = false := by decide) : PE3 X N W (.Name x pos) (dVar i) := by
  refine ⟨pe_imp (pe_var hN hv hd hcd) fun σ H Q q => ?_⟩
  obtain ⟨ρ, μ, σ3, h, fr, p⟩ := q
  have e : dVar i σ3 h = match σ3[i]? with
    | some (some (.val d)) => .ok d h
    | some (some (.own _)) => .ok (.own i) h
    | _ => .stuck := rfl
  rw [e] at p
  cases c : σ3[i]? with
  | none => rw [c] at p; exact p.elim
  | some o =>
    cases o with
    | none => rw [c] at p; exact p.elim
    | some x =>
      obtain ⟨v, hv, r⟩ := fr.sl.var i x c
      rw [c] at p
      refine ⟨v, hv, ?_⟩
      cases x with
      | val d => exact post_ok fr p (RX.of r)
      | own d => exact post_ok fr p ⟨d, c, hv⟩
def dC (d : D) : F D := dPure d
theorem e_int {i j pos} : PE3 X N W (.Constant (.int i) j pos) (dC (.int i)) := ⟨pe_imp pe_int fun σ H Q ⟨ρ, μ, σ3, h, fr, p⟩ => post_ok fr p (Rep.int i)⟩
theorem e_bl {i j pos} : PE3 X N W (.Constant (.bool i) j pos) (dC (.bl i)) := ⟨pe_imp pe_bl fun σ H Q ⟨ρ, μ, σ3, h, fr, p⟩ => post_ok fr p (Rep.bl i)⟩
theorem e_non {j pos} : PE3 X N W (.Constant .none j pos) (dC .non) := ⟨pe_imp pe_non fun σ H Q ⟨ρ, μ, σ3, h, fr, p⟩ => post_ok fr p Rep.non⟩
theorem e_str {x j pos} : PE3 X N W (.Constant (.str x) j pos) (dC (.str x)) := ⟨pe_imp pe_str fun σ H Q ⟨ρ, μ, σ3, h, fr, p⟩ => post_ok fr p (Rep.str x)⟩
/-- a name of the module that holds an int -/
theorem e_gint {x : Str} {i : Int} {t : Tok} {pos : Pos} (hg : Gl X x) (hm : X.mg x = some (.int i t)) (hd : (x == ("__debug__" : Str)) = false := by decide) : PE3 X N W (.Name x pos) (dC (.int i)) :=
  ⟨pe_imp (pe_glob (v := .int i) hg hm ⟨t, rfl⟩ hd) fun σ H Q ⟨ρ, μ, σ3, h, fr, p⟩ => post_ok fr p (Rep.int i)⟩
theorem e_gstr {x y : Str} {t : Tok} {pos : Pos} (hg : Gl X x) (hm : X.mg x = some (.str y t)) (hd : (x == ("__debug__" : Str)) = false := by decide) : PE3 X N W (.Name x pos) (dC (.str y)) :=
  ⟨pe_imp (pe_glob (v := .str y) hg hm ⟨t, rfl⟩ hd) fun σ H Q ⟨ρ, μ, σ3, h, fr, p⟩ => post_ok fr p (Rep.str y)⟩

/-! ### what an operation sees: a slot's own object and an object of the small heap by what they hold -/
def cellD : Cell → Option D
  | .lst ds => some (.lst ds)
  | .dic kvs => some (.dic kvs)
  | .ins _ _ => none
def res (σ : S3) (h : HD) : D → Option D
  | .own i => match σ[i]? with
    | some (some (.own c)) => cellD c
    | _ => none
  | .ref k => match h[k]? with
    | some c => match cellD c with
      | some d => some d
      | none => some (.ref k)
    | none => none
  | d => some d
/-- as Rep, the object itself may be one that changes -/
inductive Vw (K : PySem.W.Frag) (ρ : List Addr) (H : Hp) (M : Addr → Prop) : D → V → Prop
  | rep {d : D} {v : V} : Rep K ρ H M d v → Vw K ρ H M d v
  | lst {a : Addr} {xs : List V} {ds : List D} : H a = some (.lst xs) → RepL K ρ H M ds xs → Vw K ρ H M (.lst ds) (.ref a)
  | dic {a : Addr} {us : List (Key × V)} {kvs : List (Key × D)} : Rd H a (.dK us) → RepK K ρ H M kvs us → Vw K ρ H M (.dic kvs) (.ref a)
theorem CellsR.get {K : PySem.W.Frag} {ρ : List Addr} {H : Hp} {M : Addr → Prop} : ∀ {h : HD} {l : List Addr}, CellsR K ρ H M h l → ∀ (k : Nat) (c : Cell), h[k]? = some c → ∃ a, l[k]? = some a ∧ CellR K ρ H M c a
  | _, _, .nil, k, c, e => by simp at e
  | _, _, .cons r t, 0, c, e => by simp at e; subst e; exact ⟨_, rfl, r⟩
  | _, _, .cons r t, k + 1, c, e => by
    obtain ⟨a, h1, h2⟩ := CellsR.get t k c (by simpa using e)
    exact ⟨a, by simpa using h1, h2⟩
theorem cellVw {K : PySem.W.Frag} {ρ : List Addr} {H : Hp} {M : Addr → Prop} {c : Cell} {a : Addr} {d : D} (r : CellR K ρ H M c a) (e : cellD c = some d) : Vw K ρ H M d (.ref a) := by
  cases c with
  | lst ds => cases e; obtain ⟨xs, h1, h2⟩ := r; exact .lst h1 h2
  | dic ds => cases e; obtain ⟨xs, h1, h2⟩ := r; exact .dic (.inl h1) h2
  | ins C fs => cases e
theorem Fr.view {K : PySem.W.Frag} {ρ μ : List Addr} {σ3 : S3} {h : HD} {σ : St} {H : Hp} (fr : Fr K N ρ μ σ3 h σ H) {d d' : D} {v : V} (r : RX K N ρ μ σ3 σ H d v) (e : res σ3 h d = some d') : Vw K ρ H (Mu N ρ μ) d' v := by
  cases d with
  | own i =>
    obtain ⟨c, h1, h2⟩ := r
    have e' : cellD c = some d' := by
      have q : res σ3 h (.own i) = match σ3[i]? with | some (some (.own c)) => cellD c | _ => none := rfl
      rw [q, h1] at e; exact e
    obtain ⟨v', h3, a, rfl, _, cr⟩ := fr.sl.var i _ h1
    rw [h2] at h3; cases h3
    exact cellVw cr e'
  | ref k =>
    have q : res σ3 h (.ref k) = match h[k]? with | some c => (match cellD c with | some d => some d | none => some (.ref k)) | none => none := rfl
    rw [q] at e
    cases c : h[k]? with
    | none => rw [c] at e; cases e
    | some ce =>
      rw [c] at e
      obtain ⟨a, h1, h2⟩ := fr.hp.get k ce c
      have r' : Rep K ρ H (Mu N ρ μ) (.ref k) v := r
      cases w : cellD ce with
      | none => simp only [w] at e; cases e; exact .rep r'
      | some d =>
        simp only [w] at e; cases e
        cases r' with
        | ref e2 => rw [h1] at e2; cases e2; exact cellVw h2 w
  | non => cases e; exact .rep r
  | bl b => cases e; exact .rep r
  | int i => cases e; exact .rep r
  | str s => cases e; exact .rep r
  | tup ds => cases e; exact .rep r
  | lst ds => cases e; exact .rep r
  | dic ds => cases e; exact .rep r
  | scr ns => cases e; exact .rep r
def dRes (d : D) : F D := fun σ h => match res σ h d with
  | some d' => .ok d' h
  | none => .stuck
theorem post_res {K : PySem.W.Frag} {ρ μ : List Addr} {σ3 : S3} {h : HD} {σ : St} {H : Hp} {α β : Type} {R : RR α β} {d : D} {k : D → F α} {Q : β → Hp → Prop} (p : Post K N W R (dBind (dRes d) k σ3 h) ρ μ σ3 σ H Q) : ∃ d', res σ3 h d = some d' ∧ Post K N W R (k d' σ3 h) ρ μ σ3 σ H Q := by
  cases q : res σ3 h d with
  | none => simp only [dBind, dRes, q] at p; exact p.elim
  | some d' => simp only [dBind, dRes, q] at p; exact ⟨d', rfl, p⟩
theorem post_opt {K : PySem.W.Frag} {ρ μ : List Addr} {σ3 : S3} {h : HD} {σ : St} {H : Hp} {α β γ : Type} {R : RR α β} {o : Option γ} {k : γ → F α} {Q : β → Hp → Prop} (p : Post K N W R (dBind (dOpt o) k σ3 h) ρ μ σ3 σ H Q) : ∃ d', o = some d' ∧ Post K N W R (k d' σ3 h) ρ μ σ3 σ H Q := by
  cases o with
  | none => exact p.elim
  | some d' => exact ⟨d', rfl, p⟩

/-! ### operators whose value is there at once -/
/-- a value of no part: none, bool, int, str, or a part of what was there -/
abbrev R2ok (X : Cx) (r : R2) (op : D → D → Option D) : Prop := ∀ (ρ : List Addr) (M : Addr → Prop) (H : Hp) (x y : V) (dx dy d : D) (Q : VK), Vw X.K ρ H M dx x → Vw X.K ρ H M dy y → op dx dy = some d → (∀ v, Rep X.K ρ H M d v → Q v H) → r x y H Q
def dOp2 (op : D → D → Option D) (fa fb : F D) : F D := dBind fa fun a => dBind fb fun b => dBind (dRes a) fun a => dBind (dRes b) fun b => dOpt (op a b)
theorem op2_read {r : R2} {op : D → D → Option D} (ok : R2ok X r op) {fa fb : F D} {σ : St} {H : Hp} {Q : VK} (q : Lift X.K N W (RX X.K N) (dOp2 op fa fb) σ H Q) :
    tOp r (Lift X.K N W (RX X.K N) fa) (Lift X.K N W (RX X.K N) fb) σ H Q := by
  obtain ⟨ρ, μ, σ3, h, fr, p⟩ := q
  refine Lift.mono (fun x H1 ⟨a, ρ1, h1, x1, fr1, r1, p1⟩ => ?_) (bindP fr p)
  refine Lift.mono (fun y H2 ⟨b, ρ2, h2, x2, fr2, r2, p2⟩ => ?_) (bindP fr1 p1)
  obtain ⟨a', ea, p3⟩ := post_res p2
  obtain ⟨b', eb, p4⟩ := post_res p3
  have va := fr2.view (r1.ext x2) ea
  have vb := fr2.view r2 eb
  cases o : op a' b' with
  | none => rw [o] at p4; exact p4.elim
  | some d =>
    rw [o] at p4
    exact ok ρ2 _ H2 x y a' b' d Q va vb o fun v rv => post_ok fr2 p4 (RX.of rv)
theorem e_op {op : Operator} {r : R2} {g : D → D → Option D} {a b : Expr} {pos : Pos} {fa fb : F D} (ho : OpR X (binaryOp op) r) (ok : R2ok X r g) (ha : PE3 X N W a fa) (hb : PE3 X N W b fb) : PE3 X N W (.BinOp a op b pos) (dOp2 g fa fb) :=
  ⟨pe_imp (pe_op ho ha.run hb.run) fun σ H Q q => op2_read ok q⟩
theorem e_cmp {op : CmpOp} {r : R2} {g : D → D → Option D} {a b : Expr} {pos : Pos} {fa fb : F D} (ho : OpR X (compareOp op) r) (ok : R2ok X r g) (ha : PE3 X N W a fa) (hb : PE3 X N W b fb) (hm : behindInMarks op b = false) : PE3 X N W (.Compare a [op] [b] pos) (dOp2 g fa fb) :=
  ⟨pe_imp (pe_cmpR ho ha.run hb.run hm) fun σ H Q q => op2_read ok q⟩
theorem e_ix {r : R2} {g : D → D → Option D} {a b : Expr} {pos : Pos} {fa fb : F D} (ho : IxR X r) (ok : R2ok X r g) (ha : PE3 X N W a fa) (hb : PE3 X N W b fb) (hs : PlainIx b) : PE3 X N W (.Subscript a b pos) (dOp2 g fa fb) :=
  ⟨pe_imp (pe_ix ho ha.run hb.run hs) fun σ H Q q => op2_read ok q⟩
/-- a test of a comparison -/
def dTest (f : F D) : F Bool := dBind f fun d => match d with
  | .bl b => dPure b
  | _ => dStuck
theorem test_read {f : F D} {σ : St} {H : Hp} {Q : Bool → Hp → Prop} (q : Lift X.K N W RB (dTest f) σ H Q) : Lift X.K N W (RX X.K N) f σ H fun x H1 => ∃ c, x = .bl c ∧ Q c H1 := by
  obtain ⟨ρ, μ, σ3, h, fr, p⟩ := q
  refine Lift.mono (fun x H1 ⟨a, ρ1, h1, x1, fr1, r1, p1⟩ => ?_) (bindP fr p)
  cases a with
  | bl b =>
    cases r1
    exact ⟨b, rfl, post_ok fr1 p1 (rfl : b = b)⟩
  | _ => exact False.elim p1
theorem t_cmp {op : CmpOp} {r : R2} {g : D → D → Option D} {a b : Expr} {pos : Pos} {fa fb : F D} (ho : OpR X (compareOp op) r) (ok : R2ok X r g) (ha : PE3 X N W a fa) (hb : PE3 X N W b fb) (hm : behindInMarks op b = false) : PT3 X N W (.Compare a [op] [b] pos) (dTest (dOp2 g fa fb)) :=
  ⟨pt_imp (pt_cmpR ho ha.run hb.run hm) fun σ H Q q => op2_read (W := W) (N := N) ok (test_read q)⟩
end
end T3

set_option Elab.async false
set_option linter.all false
set_option maxRecDepth 100000
set_option maxHeartbeats 2000000
namespace T3
open PySem L2 PySem.SeqAt

/-! ### == of values -/
mutual
def deq : D → D → Bool
  | .non, .non => true
  | .bl a, .bl b => a == b
  | .bl a, .int j => (if a then 1 else 0) == j
  | .int i, .bl b => i == (if b then 1 else 0)
  | .int i, .int j => i == j
  | .str x, .str y => x == y
  | .lst xs, .lst ys => deqL xs ys
  | .tup xs, .tup ys => deqL xs ys
  | _, _ => false
def deqL : List D → List D → Bool
  | [], [] => true
  | x :: xs, y :: ys => deq x y && deqL xs ys
  | _, _ => false
end
/-- values without dicts and objects, of at most n levels where both go on -/
def allZip (p : D → D → Bool) : List D → List D → Bool
  | x :: xs, y :: ys => p x y && allZip p xs ys
  | _, _ => true
def cmpOk : Nat → D → D → Bool
  | 0, _, _ => false
  | n + 1, a, b => match a, b with
    | .lst xs, .lst ys => xs.length != ys.length || allZip (cmpOk n) xs ys
    | .tup xs, .tup ys => allZip (cmpOk n) xs ys
    | .dic _, _ => false
    | .ref _, _ => false
    | .own _, _ => false
    | .scr _, _ => false
    | _, .dic _ => false
    | _, .ref _ => false
    | _, .own _ => false
    | _, .scr _ => false
    | _, _ => true
theorem deqL_len : ∀ {xs ys : List D}, xs.length ≠ ys.length → deqL xs ys = false
  | [], [], h => absurd rfl h
  | [], _ :: _, _ => rfl
  | _ :: _, [], _ => rfl
  | x :: xs, y :: ys, h => by
    show (deq x y && deqL xs ys) = false
    rw [deqL_len (xs := xs) (ys := ys) (fun e => h (by simp [e])), Bool.and_false]
theorem deqL_all : ∀ {xs ys : List D}, xs.length = ys.length → (List.range xs.length).all (fun j => deq (xs.getD j .non) (ys.getD j .non)) = deqL xs ys
  | [], [], _ => rfl
  | [], _ :: _, h => by cases h
  | _ :: _, [], h => by cases h
  | x :: xs, y :: ys, h => by
    have ih := deqL_all (xs := xs) (ys := ys) (by simpa using h)
    rw [List.length_cons, List.range_succ_eq_map, List.all_cons, List.all_map]
    show (deq x y && _) = (deq x y && deqL xs ys)
    rw [← ih]
    congr 1
theorem allZip_at {p : D → D → Bool} : ∀ {xs ys : List D}, allZip p xs ys = true → ∀ j (h1 : j < xs.length) (h2 : j < ys.length), p xs[j] ys[j] = true
  | [], _, _, j, h1, _ => absurd h1 (Nat.not_lt_zero _)
  | _ :: _, [], _, j, _, h2 => absurd h2 (Nat.not_lt_zero _)
  | x :: xs, y :: ys, h, 0, _, _ => (Bool.and_eq_true_iff.mp h).1
  | x :: xs, y :: ys, h, j + 1, h1, h2 => allZip_at (xs := xs) (ys := ys) (Bool.and_eq_true_iff.mp h).2 j (Nat.lt_of_succ_lt_succ h1) (Nat.lt_of_succ_lt_succ h2)
section
variable {K : PySem.W.Frag} {ρ : List Addr} {H : Hp} {M : Addr → Prop}
theorem RepL.length : ∀ {ds : List D} {vs : List V}, RepL K ρ H M ds vs → ds.length = vs.length
  | _, _, .nil => rfl
  | _, _, .cons _ l => by simp [RepL.length l]
theorem RepL.at : ∀ {ds : List D} {vs : List V}, RepL K ρ H M ds vs → ∀ j (h1 : j < ds.length) (h2 : j < vs.length), Rep K ρ H M ds[j] vs[j]
  | _, _, .nil, j, h1, _ => absurd h1 (Nat.not_lt_zero _)
  | _, _, .cons r _, 0, _, _ => r
  | _, _, .cons _ l, j + 1, h1, h2 => RepL.at l j (Nat.lt_of_succ_lt_succ h1) (Nat.lt_of_succ_lt_succ h2)
theorem vals_at : ∀ {xs : List V} {us : List Value}, Vals xs us → ∀ j (h1 : j < xs.length) (h2 : j < us.length), RelV xs[j] us[j]
  | _, _, .nil, j, h1, _ => absurd h1 (Nat.not_lt_zero _)
  | _, _, .cons r _, 0, _, _ => r
  | _, _, .cons _ l, j + 1, h1, h2 => vals_at l j (Nat.lt_of_succ_lt_succ h1) (Nat.lt_of_succ_lt_succ h2)
/-- as a list or tuple is read -/
theorem Vw.tup {ds : List D} {v : V} (r : Vw K ρ H M (.tup ds) v) : ∃ a xs, v = .ref a ∧ SqT K H a xs ∧ RepL K ρ H M ds xs := by
  cases r with
  | rep r =>
    cases r with
    | tup f l =>
      rcases f with ⟨f, _⟩ | f
      · exact ⟨_, _, rfl, .inl f, l⟩
      · refine ⟨_, _, rfl, ?_, l⟩
        rcases f with f | f
        · rcases f with f | ⟨o, f⟩ <;> cases f
        · exact .inr f
theorem Vw.lst' {ds : List D} {v : V} (r : Vw K ρ H M (.lst ds) v) : ∃ a xs, v = .ref a ∧ H a = some (.lst xs) ∧ RepL K ρ H M ds xs := by
  cases r with
  | rep r => cases r with | lst e _ l => exact ⟨_, _, rfl, e, l⟩
  | lst e l => exact ⟨_, _, rfl, e, l⟩
end
section
variable {X : Cx} {pins : List (Addr × Obj)} {σ : St} {H : Hp} {s : Shared} {ρ : List Addr} {M : Addr → Prop}
/-- two readings of one value -/
theorem rep_deq (I : Inv X pins σ H s) : ∀ (n : Nat) (d d' : D) (v : V), Vw X.K ρ H M d v → Vw X.K ρ H M d' v → cmpOk n d d' = true → (∀ a xs ys, SqL X.K H a xs → SqT X.K H a ys → False) → deq d d' = true
  | 0, _, _, _, _, _, h, _ => by cases h
  | n + 1, d, d', v, r, r', h, no => by
    have seq : ∀ {ds ds' : List D} {xs : List V}, RepL X.K ρ H M ds xs → RepL X.K ρ H M ds' xs → allZip (cmpOk n) ds ds' = true → deqL ds ds' = true := by
      intro ds ds' xs l l' hz
      have e : ds.length = ds'.length := l.length.trans l'.length.symm
      rw [← deqL_all e, List.all_eq_true]
      intro j hj
      have hj := List.mem_range.mp hj
      have h1 : ds.getD j .non = ds[j] := by simp [List.getD, hj]
      have h2 : ds'.getD j .non = ds'[j]'(by omega) := by simp [List.getD, show j < ds'.length by omega]
      rw [h1, h2]
      exact rep_deq I n _ _ _ (.rep (l.at j hj (by rw [← l.length]; exact hj))) (.rep (l'.at j (by omega) (by rw [← l.length]; exact hj))) (allZip_at hz j hj (by omega)) no
    cases d with
    | dic ks => cases h
    | ref k => cases h
    | own k => cases h
    | scr k => cases h
    | lst ds =>
      obtain ⟨a, xs, rfl, e, l⟩ := r.lst'
      cases d' with
      | lst ds' =>
        obtain ⟨a', xs', e1, e', l'⟩ := r'.lst'
        cases e1
        rw [e] at e'; cases e'
        have hl : ds.length = ds'.length := l.length.trans l'.length.symm
        have h' : (ds.length != ds'.length || allZip (cmpOk n) ds ds') = true := h
        rw [hl, bne_self_eq_false, Bool.false_or] at h'
        exact seq l l' h'
      | tup ds' =>
        obtain ⟨a', xs', e1, e', l'⟩ := r'.tup
        cases e1
        exact (no _ _ _ (SqL.of e) e').elim
      | dic ks => cases h
      | ref k => cases h
      | own k => cases h
      | scr k => cases h
      | non => cases r' with | rep r' => cases r'
      | bl b => cases r' with | rep r' => cases r'
      | int b => cases r' with | rep r' => cases r'
      | str b => cases r' with | rep r' => cases r'
    | tup ds =>
      obtain ⟨a, xs, rfl, e, l⟩ := r.tup
      cases d' with
      | tup ds' =>
        obtain ⟨a', xs', e1, e', l'⟩ := r'.tup
        cases e1
        have ex := I.tuple_inj e e'
        subst ex
        exact seq l l' h
      | lst ds' =>
        obtain ⟨a', xs', e1, e', l'⟩ := r'.lst'
        cases e1
        exact (no _ _ _ (SqL.of e') e).elim
      | dic ks => cases h
      | ref k => cases h
      | own k => cases h
      | scr k => cases h
      | non => cases r' with | rep r' => cases r'
      | bl b => cases r' with | rep r' => cases r'
      | int b => cases r' with | rep r' => cases r'
      | str b => cases r' with | rep r' => cases r'
    | non =>
      cases r with | rep r =>
      cases r
      cases d' with
      | non => rfl
      | dic ks => cases h
      | ref k => cases h
      | own k => cases h
      | scr k => cases h
      | _ => cases r' with | rep r' => cases r'
    | bl b =>
      cases r with | rep r =>
      cases r
      cases d' with
      | bl b' => cases r' with | rep r' => cases r'; exact beq_self_eq_true b
      | dic ks => cases h
      | ref k => cases h
      | own k => cases h
      | scr k => cases h
      | _ => cases r' with | rep r' => cases r'
    | int b =>
      cases r with | rep r =>
      cases r
      cases d' with
      | int b' => cases r' with | rep r' => cases r'; exact beq_self_eq_true b
      | dic ks => cases h
      | ref k => cases h
      | own k => cases h
      | scr k => cases h
      | _ => cases r' with | rep r' => cases r'
    | str b =>
      cases r with | rep r =>
      cases r
      cases d' with
      | str b' => cases r' with | rep r' => cases r'; exact beq_self_eq_true b
      | dic ks => cases h
      | ref k => cases h
      | own k => cases h
      | scr k => cases h
      | _ => cases r' with | rep r' => cases r'
theorem sq_no (I : Inv X pins σ H s) (a : Addr) (xs ys : List V) (hl : SqL X.K H a xs) (ht : SqT X.K H a ys) : False := by
  obtain ⟨_, _, ⟨o, n, e, c, _⟩, _⟩ := I.list hl
  obtain ⟨_, _, ⟨o', e', c', _⟩, _⟩ := I.tuple ht
  rw [e] at e'; cases e'
  exact absurd (c.symm.trans c') (by decide)
/-- what the model has at a value: by kind -/
inductive Kd (s : Shared) : D → Value → Prop
  | non : Kd s .non .none
  | bl (b : Bool) : Kd s (.bl b) (.bool b)
  | int (i : Int) (t : Tok) : Kd s (.int i) (.int i t)
  | str (x : Str) (t : Tok) : Kd s (.str x) (.str x t)
  | lst {ds : List D} {a : Addr} {its : Array Value} : s.heap.IsList a its → its.size = ds.length → Kd s (.lst ds) (.ref a)
  | tup {ds : List D} {a : Addr} {its : Array Value} : s.heap.IsTuple a its → its.size = ds.length → Kd s (.tup ds) (.ref a)
theorem vw_kd (I : Inv X pins σ H s) {d : D} {v : V} {u : Value} (r : Vw X.K ρ H M d v) (ru : RelV v u) {n : Nat} {d' : D} (h : cmpOk n d d' = true ∨ cmpOk n d' d = true) : Kd s d u := by
  have dead : ∀ {P : Prop}, (∀ x, cmpOk n d x = false) → (∀ x, cmpOk n x d = false) → P := fun a b => by
    rcases h with h | h
    · rw [a] at h; cases h
    · rw [b] at h; cases h
  cases d with
  | non => cases r with | rep r => cases r; cases ru; exact .non
  | bl b => cases r with | rep r => cases r; cases ru; exact .bl b
  | int b => cases r with | rep r => cases r; obtain ⟨t, rfl⟩ := ru; exact .int b t
  | str b => cases r with | rep r => cases r; obtain ⟨t, rfl⟩ := ru; exact .str b t
  | lst ds =>
    obtain ⟨a, xs, rfl, e, l⟩ := r.lst'
    cases ru
    obtain ⟨its, rv, ⟨o, m, ho, hc, _, hd⟩, _⟩ := I.list (SqL.of e)
    exact .lst ⟨o, ho, hc, m, hd⟩ (by rw [l.length, rv.length]; simp)
  | tup ds =>
    obtain ⟨a, xs, rfl, e, l⟩ := r.tup
    cases ru
    obtain ⟨its, rv, ⟨o, ho, hc, m, hd⟩, _⟩ := I.tuple e
    exact .tup ⟨o, ho, hc, m, hd⟩ (by rw [l.length, rv.length]; simp)
  | dic ks => cases n with
    | zero => exact dead (fun _ => rfl) (fun _ => rfl)
    | succ n => exact dead (fun x => by cases x <;> rfl) (fun x => by cases x <;> rfl)
  | ref k => cases n with
    | zero => exact dead (fun _ => rfl) (fun _ => rfl)
    | succ n => exact dead (fun x => by cases x <;> rfl) (fun x => by cases x <;> rfl)
  | own k => cases n with
    | zero => exact dead (fun _ => rfl) (fun _ => rfl)
    | succ n => exact dead (fun x => by cases x <;> rfl) (fun x => by cases x <;> rfl)
  | scr k => cases n with
    | zero => exact dead (fun _ => rfl) (fun _ => rfl)
    | succ n => exact dead (fun x => by cases x <;> rfl) (fun x => by cases x <;> rfl)
/-- the items' answers -/
theorem eq_at (I : Inv X pins σ H s) : ∀ (n : Nat) (A : Around) (d d' : D) (v v' : V) (u u' : Value), Vw X.K ρ H M d v → Vw X.K ρ H M d' v' → RelV v u → RelV v' u' → cmpOk n d d' = true → A.units + n < cLine → EqAt A s u u' (deq d d')
  | 0, _, _, _, _, _, _, _, _, _, _, _, h, _ => by cases h
  | n + 1, A, d, d', v, v', u, u', r, r', ru, ru', h, hu => by
    have hu0 : A.units < cLine := by omega
    have items : ∀ {ds ds' : List D} {xs xs' : List V} {its its' : List Value}, RepL X.K ρ H M ds xs → RepL X.K ρ H M ds' xs' → Vals xs its → Vals xs' its' → allZip (cmpOk n) ds ds' = true →
        ∀ j (h1 : j < its.toArray.size) (h2 : j < its'.toArray.size), EqAt A.in1 s its.toArray[j] its'.toArray[j] (deq (ds.getD j .non) (ds'.getD j .non)) := by
      intro ds ds' xs xs' its its' l l' rv rv' hz j h1 h2
      have g1 : j < its.length := by simpa using h1
      have g2 : j < its'.length := by simpa using h2
      have e1 := l.length
      have e2 := l'.length
      have e3 := rv.length
      have e4 := rv'.length
      have q1 : ds.getD j .non = ds[j]'(by omega) := by simp [List.getD, show j < ds.length by omega]
      have q2 : ds'.getD j .non = ds'[j]'(by omega) := by simp [List.getD, show j < ds'.length by omega]
      rw [q1, q2]
      have := eq_at I n A.in1 _ _ _ _ _ _ (.rep (l.at j (by omega) (by omega))) (.rep (l'.at j (by omega) (by omega))) (vals_at rv j (by omega) g1) (vals_at rv' j (by omega) g2) (allZip_at hz j (by omega) (by omega)) (by show A.units + 1 + n < cLine; omega)
      simpa using this
    have k1 := vw_kd I r ru (.inl h)
    have k2 := vw_kd I r' ru' (.inr h)
    cases k1 with
    | non => cases k2 with
      | non => exact EqAt.same _
      | bl b => exact EqAt.none_bool b
      | int i t => exact EqAt.none_int i t
      | str x t => exact EqAt.none_str x t
      | lst l _ => exact EqAt.none_list l hu0
      | tup l _ => exact EqAt.none_tuple l hu0
    | bl b => cases k2 with
      | non => exact EqAt.bool_none b
      | bl b' => exact EqAt.bool_bool b b'
      | int i t => exact EqAt.bool_int b i t
      | str x t => exact EqAt.bool_str b x t
      | lst l _ => exact EqAt.bool_list b l hu0
      | tup l _ => exact EqAt.bool_tuple b l hu0
    | int i t => cases k2 with
      | non => exact EqAt.int_none i t
      | bl b' => exact EqAt.int_bool i t b'
      | int i' t' => exact EqAt.int_int i t i' t'
      | str x t' => exact EqAt.int_str i t x t'
      | lst l _ => exact EqAt.int_list i t l hu0
      | tup l _ => exact EqAt.int_tuple i t l hu0
    | str x t => cases k2 with
      | non => exact EqAt.str_none x t
      | bl b' => exact EqAt.str_bool x t b'
      | int i' t' => exact EqAt.str_int x t i' t'
      | str x' t' => exact EqAt.str_str x t x' t'
      | lst l _ => exact EqAt.str_list x t l hu0
      | tup l _ => exact EqAt.str_tuple x t l hu0
    | lst il zl => cases k2 with
      | non => exact EqAt.list_none il hu0
      | bl b' => exact EqAt.list_bool b' il hu0
      | int i' t' => exact EqAt.list_int i' t' il hu0
      | str x' t' => exact EqAt.list_str x' t' il hu0
      | tup l _ => exact EqAt.list_tuple il l hu0
      | lst il' zl' =>
        rename_i ds a its ds' a' its'
        show EqAt A s (.ref a) (.ref a') (deqL ds ds')
        by_cases e : a = a'
        · subst e
          obtain ⟨a1, xs, e1, f, l⟩ := r.lst'
          obtain ⟨a2, xs', e2, f', l'⟩ := r'.lst'
          cases e1; cases e2
          have q : deq (.lst ds) (.lst ds') = true := by
            cases ru; cases ru'
            exact rep_deq I (n + 1) _ _ _ r r' h (sq_no I)
          rw [show deqL ds ds' = true from q]
          exact EqAt.same _
        · refine EqAt.of_refs e ?_
          by_cases hsz : ds.length = ds'.length
          · obtain ⟨a1, xs, e1, f, l⟩ := r.lst'
            obtain ⟨a2, xs', e2, f', l'⟩ := r'.lst'
            subst e1 e2
            cases ru; cases ru'
            obtain ⟨its1, rv, ⟨o, m, ho, hc, _, hd⟩, _⟩ := I.list (SqL.of f)
            obtain ⟨its2, rv', ⟨o', m', ho', hc', _, hd'⟩, _⟩ := I.list (SqL.of f')
            have h' : (ds.length != ds'.length || allZip (cmpOk n) ds ds') = true := h
            rw [hsz, bne_self_eq_false, Bool.false_or] at h'
            have z1 := l.length
            have z2 := l'.length
            have z3 := rv.length
            have z4 := rv'.length
            have := RcAt.lists (A := A) ⟨o, ho, hc, m, hd⟩ ⟨o', ho', hc', m', hd'⟩ (by simp; omega) hu0 (items l l' rv rv' h')
            rw [show its1.toArray.size = ds.length by simp; omega, deqL_all hsz] at this
            exact this
          · rw [deqL_len hsz]
            exact RcAt.lists_lengths il il' (by simp [zl, zl', hsz]) hu0
    | tup il zl => cases k2 with
      | non => exact EqAt.tuple_none il hu0
      | bl b' => exact EqAt.tuple_bool b' il hu0
      | int i' t' => exact EqAt.tuple_int i' t' il hu0
      | str x' t' => exact EqAt.tuple_str x' t' il hu0
      | lst l _ => exact EqAt.tuple_list il l hu0
      | tup il' zl' =>
        rename_i ds a its ds' a' its'
        show EqAt A s (.ref a) (.ref a') (deqL ds ds')
        by_cases e : a = a'
        · subst e
          have q : deq (.tup ds) (.tup ds') = true := by
            obtain ⟨a1, xs, e1, f, l⟩ := r.tup
            obtain ⟨a2, xs', e2, f', l'⟩ := r'.tup
            subst e1 e2
            cases ru; cases ru'
            exact rep_deq I (n + 1) _ _ _ r r' h (sq_no I)
          rw [show deqL ds ds' = true from q]
          exact EqAt.same _
        · refine EqAt.of_refs e ?_
          obtain ⟨a1, xs, e1, f, l⟩ := r.tup
          obtain ⟨a2, xs', e2, f', l'⟩ := r'.tup
          subst e1 e2
          cases ru; cases ru'
          obtain ⟨its1, rv, ⟨o, ho, hc, m, hd⟩, _⟩ := I.tuple f
          obtain ⟨its2, rv', ⟨o', ho', hc', m', hd'⟩, _⟩ := I.tuple f'
          have z1 := l.length
          have z2 := l'.length
          have z3 := rv.length
          have z4 := rv'.length
          have := RcAt.tuples (A := A) ⟨o, ho, hc, m, hd⟩ ⟨o', ho', hc', m', hd'⟩ hu0 (items l l' rv rv' h)
          by_cases hsz : ds.length = ds'.length
          · rw [show min its1.toArray.size its2.toArray.size = ds.length by simp; omega, deqL_all hsz, show (its1.toArray.size == its2.toArray.size) = true by simp; omega, Bool.and_true] at this
            exact this
          · rw [show (its1.toArray.size == its2.toArray.size) = false by simp; omega, Bool.and_false] at this
            rw [deqL_len hsz]
            exact this
end
end T3

set_option Elab.async false
set_option linter.all false
set_option maxRecDepth 100000
set_option maxHeartbeats 2000000
namespace T3
open PySem L2 PySem.SeqAt

section
variable {X : Cx} {pins : List (Addr × Obj)} {σ : St} {H : Hp} {s : Shared} {ρ : List Addr} {M : Addr → Prop}
theorem items_at (I : Inv X pins σ H s) {n : Nat} {A : Around} (hu : A.units + n + 1 < cLine) {ds ds' : List D} {xs xs' : List V} {its its' : List Value} (l : RepL X.K ρ H M ds xs) (l' : RepL X.K ρ H M ds' xs') (rv : Vals xs its) (rv' : Vals xs' its') (hz : allZip (cmpOk n) ds ds' = true) :
    ∀ j (h1 : j < its.toArray.size) (h2 : j < its'.toArray.size), EqAt A.in1 s its.toArray[j] its'.toArray[j] (deq (ds.getD j .non) (ds'.getD j .non)) := by
  intro j h1 h2
  have g1 : j < its.length := by simpa using h1
  have g2 : j < its'.length := by simpa using h2
  have e1 := l.length
  have e2 := l'.length
  have e3 := rv.length
  have e4 := rv'.length
  have q1 : ds.getD j .non = ds[j]'(by omega) := by simp [List.getD, show j < ds.length by omega]
  have q2 : ds'.getD j .non = ds'[j]'(by omega) := by simp [List.getD, show j < ds'.length by omega]
  rw [q1, q2]
  have := eq_at I n A.in1 _ _ _ _ _ _ (.rep (l.at j (by omega) (by omega))) (.rep (l'.at j (by omega) (by omega))) (vals_at rv j (by omega) g1) (vals_at rv' j (by omega) g2) (allZip_at hz j (by omega) (by omega)) (by show A.units + 1 + n < cLine; omega)
  simpa using this
theorem rc_at (I : Inv X pins σ H s) {n : Nat} {A : Around} {d d' : D} {v v' : V} {u u' : Value} (r : Vw X.K ρ H M d v) (r' : Vw X.K ρ H M d' v') (ru : RelV v u) (ru' : RelV v' u') (h : cmpOk (n + 1) d d' = true) (hu : A.units + n + 1 < cLine) :
    RcAt A s u u' (deq d d') ∧ RcNeAt A s u u' (!deq d d') := by
  have hu0 : A.units < cLine := by omega
  have k1 := vw_kd I r ru (.inl h)
  have k2 := vw_kd I r' ru' (.inr h)
  cases k1 with
  | non => cases k2 with
    | non => exact ⟨RcAt.none_none, RcNeAt.none_none⟩
    | bl b => exact ⟨RcAt.none_bool b, RcNeAt.none_bool b⟩
    | int i t => exact ⟨RcAt.none_int i t, RcNeAt.none_int i t⟩
    | str x t => exact ⟨RcAt.none_str x t, RcNeAt.none_str x t⟩
    | lst l _ => exact ⟨RcAt.none_list l hu0, RcNeAt.none_list l hu0⟩
    | tup l _ => exact ⟨RcAt.none_tuple l hu0, RcNeAt.none_tuple l hu0⟩
  | bl b => cases k2 with
    | non => exact ⟨RcAt.bool_none b, RcNeAt.bool_none b⟩
    | bl b' => exact ⟨RcAt.bool_bool b b', RcNeAt.bool_bool b b'⟩
    | int i t => exact ⟨RcAt.bool_int b i t, RcNeAt.bool_int b i t⟩
    | str x t => exact ⟨RcAt.bool_str b x t, RcNeAt.bool_str b x t⟩
    | lst l _ => exact ⟨RcAt.bool_list b l hu0, RcNeAt.bool_list b l hu0⟩
    | tup l _ => exact ⟨RcAt.bool_tuple b l hu0, RcNeAt.bool_tuple b l hu0⟩
  | int i t => cases k2 with
    | non => exact ⟨RcAt.int_none i t, RcNeAt.int_none i t⟩
    | bl b' => exact ⟨RcAt.int_bool i t b', RcNeAt.int_bool i t b'⟩
    | int i' t' => exact ⟨RcAt.int_int i t i' t', RcNeAt.int_int i t i' t'⟩
    | str x t' => exact ⟨RcAt.int_str i t x t', RcNeAt.int_str i t x t'⟩
    | lst l _ => exact ⟨RcAt.int_list i t l hu0, RcNeAt.int_list i t l hu0⟩
    | tup l _ => exact ⟨RcAt.int_tuple i t l hu0, RcNeAt.int_tuple i t l hu0⟩
  | str x t => cases k2 with
    | non => exact ⟨RcAt.str_none x t, RcNeAt.str_none x t⟩
    | bl b' => exact ⟨RcAt.str_bool x t b', RcNeAt.str_bool x t b'⟩
    | int i' t' => exact ⟨RcAt.str_int x t i' t', RcNeAt.str_int x t i' t'⟩
    | str x' t' => exact ⟨RcAt.str_str x t x' t', RcNeAt.str_str x t x' t'⟩
    | lst l _ => exact ⟨RcAt.str_list x t l hu0, RcNeAt.str_list x t l hu0⟩
    | tup l _ => exact ⟨RcAt.str_tuple x t l hu0, RcNeAt.str_tuple x t l hu0⟩
  | lst il zl => cases k2 with
    | non => exact ⟨RcAt.list_none il hu0, RcNeAt.list_none il hu0⟩
    | bl b' => exact ⟨RcAt.list_bool b' il hu0, RcNeAt.list_bool b' il hu0⟩
    | int i' t' => exact ⟨RcAt.list_int i' t' il hu0, RcNeAt.list_int i' t' il hu0⟩
    | str x' t' => exact ⟨RcAt.list_str x' t' il hu0, RcNeAt.list_str x' t' il hu0⟩
    | tup l _ => exact ⟨RcAt.list_tuple il l hu0, RcNeAt.list_tuple il l hu0⟩
    | lst il' zl' =>
      rename_i ds a its ds' a' its'
      show RcAt A s (.ref a) (.ref a') (deqL ds ds') ∧ RcNeAt A s (.ref a) (.ref a') (!deqL ds ds')
      by_cases hsz : ds.length = ds'.length
      · obtain ⟨a1, xs, e1, f, l⟩ := r.lst'
        obtain ⟨a2, xs', e2, f', l'⟩ := r'.lst'
        subst e1 e2
        cases ru; cases ru'
        obtain ⟨its1, rv, ⟨o, m, ho, hc, _, hd⟩, _⟩ := I.list (SqL.of f)
        obtain ⟨its2, rv', ⟨o', m', ho', hc', _, hd'⟩, _⟩ := I.list (SqL.of f')
        have h' : (ds.length != ds'.length || allZip (cmpOk n) ds ds') = true := h
        rw [hsz, bne_self_eq_false, Bool.false_or] at h'
        have z1 := l.length
        have z2 := l'.length
        have z3 := rv.length
        have z4 := rv'.length
        have t1 := RcAt.lists (A := A) ⟨o, ho, hc, m, hd⟩ ⟨o', ho', hc', m', hd'⟩ (by simp; omega) hu0 (items_at I hu l l' rv rv' h')
        have t2 := RcNeAt.lists (A := A) ⟨o, ho, hc, m, hd⟩ ⟨o', ho', hc', m', hd'⟩ (by simp; omega) hu0 (items_at I hu l l' rv rv' h')
        rw [show its1.toArray.size = ds.length by simp; omega, deqL_all hsz] at t1 t2
        exact ⟨t1, t2⟩
      · rw [deqL_len hsz]
        exact ⟨RcAt.lists_lengths il il' (by simp [zl, zl', hsz]) hu0, RcNeAt.lists_lengths il il' (by simp [zl, zl', hsz]) hu0⟩
  | tup il zl => cases k2 with
    | non => exact ⟨RcAt.tuple_none il hu0, RcNeAt.tuple_none il hu0⟩
    | bl b' => exact ⟨RcAt.tuple_bool b' il hu0, RcNeAt.tuple_bool b' il hu0⟩
    | int i' t' => exact ⟨RcAt.tuple_int i' t' il hu0, RcNeAt.tuple_int i' t' il hu0⟩
    | str x' t' => exact ⟨RcAt.tuple_str x' t' il hu0, RcNeAt.tuple_str x' t' il hu0⟩
    | lst l _ => exact ⟨RcAt.tuple_list il l hu0, RcNeAt.tuple_list il l hu0⟩
    | tup il' zl' =>
      rename_i ds a its ds' a' its'
      show RcAt A s (.ref a) (.ref a') (deqL ds ds') ∧ RcNeAt A s (.ref a) (.ref a') (!deqL ds ds')
      obtain ⟨a1, xs, e1, f, l⟩ := r.tup
      obtain ⟨a2, xs', e2, f', l'⟩ := r'.tup
      subst e1 e2
      cases ru; cases ru'
      obtain ⟨its1, rv, ⟨o, ho, hc, m, hd⟩, _⟩ := I.tuple f
      obtain ⟨its2, rv', ⟨o', ho', hc', m', hd'⟩, _⟩ := I.tuple f'
      have z1 := l.length
      have z2 := l'.length
      have z3 := rv.length
      have z4 := rv'.length
      have t1 := RcAt.tuples (A := A) ⟨o, ho, hc, m, hd⟩ ⟨o', ho', hc', m', hd'⟩ hu0 (items_at I hu l l' rv rv' h)
      have t2 := RcNeAt.tuples (A := A) ⟨o, ho, hc, m, hd⟩ ⟨o', ho', hc', m', hd'⟩ hu0 (items_at I hu l l' rv rv' h)
      by_cases hsz : ds.length = ds'.length
      · rw [show min its1.toArray.size its2.toArray.size = ds.length by simp; omega, deqL_all hsz, show (its1.toArray.size == its2.toArray.size) = true by simp; omega, Bool.and_true] at t1 t2
        exact ⟨t1, t2⟩
      · rw [show (its1.toArray.size == its2.toArray.size) = false by simp; omega, Bool.and_false] at t1 t2
        rw [deqL_len hsz]
        exact ⟨t1, t2⟩
/-- one value, one tree -/
def plain : Nat → D → Bool
  | 0, _ => false
  | n + 1, d => match d with
    | .tup ds => ds.all (plain n)
    | .lst ds => ds.all (plain n)
    | .dic _ => false
    | .ref _ => false
    | .own _ => false
    | .scr _ => false
    | _ => true
theorem rep_inj (I : Inv X pins σ H s) : ∀ (n : Nat) (d d' : D) (v : V), Vw X.K ρ H M d v → Vw X.K ρ H M d' v → plain n d = true → plain n d' = true → d = d'
  | 0, _, _, _, _, _, h, _ => by cases h
  | n + 1, d, d', v, r, r', h, h' => by
    have seq : ∀ {ds ds' : List D} {xs : List V}, RepL X.K ρ H M ds xs → RepL X.K ρ H M ds' xs → ds.all (plain n) = true → ds'.all (plain n) = true → ds = ds' := by
      intro ds ds' xs l l' hz hz'
      have e : ds.length = ds'.length := l.length.trans l'.length.symm
      refine List.ext_getElem e fun j h1 h2 => ?_
      exact rep_inj I n _ _ _ (.rep (l.at j h1 (by rw [← l.length]; exact h1))) (.rep (l'.at j h2 (by rw [← l.length]; exact h1))) (List.all_eq_true.mp hz _ (List.getElem_mem _)) (List.all_eq_true.mp hz' _ (List.getElem_mem _))
    cases d with
    | dic ks => cases h
    | ref k => cases h
    | own k => cases h
    | scr k => cases h
    | lst ds =>
      obtain ⟨a, xs, rfl, e, l⟩ := r.lst'
      cases d' with
      | lst ds' =>
        obtain ⟨a', xs', e1, e', l'⟩ := r'.lst'
        cases e1
        rw [e] at e'; cases e'
        rw [seq l l' h h']
      | tup ds' =>
        obtain ⟨a', xs', e1, e', l'⟩ := r'.tup
        cases e1
        exact (sq_no I _ _ _ (SqL.of e) e').elim
      | dic ks => cases h'
      | ref k => cases h'
      | own k => cases h'
      | scr k => cases h'
      | non => cases r' with | rep r' => cases r'
      | bl b => cases r' with | rep r' => cases r'
      | int b => cases r' with | rep r' => cases r'
      | str b => cases r' with | rep r' => cases r'
    | tup ds =>
      obtain ⟨a, xs, rfl, e, l⟩ := r.tup
      cases d' with
      | tup ds' =>
        obtain ⟨a', xs', e1, e', l'⟩ := r'.tup
        cases e1
        have ex := I.tuple_inj e e'
        subst ex
        rw [seq l l' h h']
      | lst ds' =>
        obtain ⟨a', xs', e1, e', l'⟩ := r'.lst'
        cases e1
        exact (sq_no I _ _ _ (SqL.of e') e).elim
      | dic ks => cases h'
      | ref k => cases h'
      | own k => cases h'
      | scr k => cases h'
      | non => cases r' with | rep r' => cases r'
      | bl b => cases r' with | rep r' => cases r'
      | int b => cases r' with | rep r' => cases r'
      | str b => cases r' with | rep r' => cases r'
    | _ =>
      cases r with | rep r =>
      cases r
      cases d' with
      | dic ks => cases h'
      | ref k => cases h'
      | own k => cases h'
      | scr k => cases h'
      | _ => cases r' with | rep r' => cases r' <;> rfl
/-- the answers of a search, by the items' values -/
theorem mem_at (I : Inv X pins σ H s) {n : Nat} {A : Around} (hu : A.units + n < cLine) {dx : D} {x : V} {u : Value} (rx : Vw X.K ρ H M dx x) (ru : RelV x u) {ds : List D} {xs : List V} {its : List Value} (l : RepL X.K ρ H M ds xs) (rv : Vals xs its)
    (hc : ds.all (fun d => cmpOk n d dx && plain n d) = true) : ∃ e : Value → Bool, (∀ w ∈ its, EqAt A s w u (e w)) ∧ its.map e = ds.map (fun d => deq d dx) := by
  classical
  have at_ : ∀ j (h : j < its.length), ∃ (h1 : j < ds.length) (h2 : j < xs.length), Rep X.K ρ H M ds[j] xs[j] ∧ RelV xs[j] its[j] := fun j h => by
    have e1 := l.length
    have e2 := rv.length
    exact ⟨by omega, by omega, l.at j (by omega) (by omega), vals_at rv j (by omega) h⟩
  let e : Value → Bool := fun w => if q : ∃ j, ∃ h : j < its.length, its[j] = w then deq (ds.getD q.choose .non) dx else false
  have ev : ∀ j (h : j < its.length), e its[j] = deq (ds.getD j .non) dx := fun j h => by
    have q : ∃ k, ∃ h' : k < its.length, its[k] = its[j] := ⟨j, h, rfl⟩
    show (if q : ∃ k, ∃ h' : k < its.length, its[k] = its[j] then deq (ds.getD q.choose .non) dx else false) = _
    rw [dif_pos q]
    obtain ⟨hk, ek⟩ := q.choose_spec
    obtain ⟨a1, a2, a3, a4⟩ := at_ _ hk
    obtain ⟨b1, b2, b3, b4⟩ := at_ _ h
    rw [ek] at a4
    have ex := RelV.inj a4 b4
    rw [ex] at a3
    have c1 := (Bool.and_eq_true_iff.mp (List.all_eq_true.mp hc _ (List.getElem_mem a1))).2
    have c2 := (Bool.and_eq_true_iff.mp (List.all_eq_true.mp hc _ (List.getElem_mem b1))).2
    have q1 : ds.getD q.choose .non = ds[q.choose] := by simp [List.getD, a1]
    have q2 : ds.getD j .non = ds[j] := by simp [List.getD, b1]
    rw [q1, q2, rep_inj I n _ _ _ (.rep a3) (.rep b3) c1 c2]
  refine ⟨e, fun w hw => ?_, ?_⟩
  · obtain ⟨j, h, rfl⟩ := List.getElem_of_mem hw
    rw [ev j h]
    obtain ⟨b1, b2, b3, b4⟩ := at_ _ h
    have q2 : ds.getD j .non = ds[j] := by simp [List.getD, b1]
    rw [q2]
    exact eq_at I n A _ _ _ _ _ _ (.rep b3) rx b4 ru (Bool.and_eq_true_iff.mp (List.all_eq_true.mp hc _ (List.getElem_mem b1))).1 hu
  · have e1 := l.length
    have e2 := rv.length
    refine List.ext_getElem (by simp; omega) fun j h1 h2 => ?_
    have h1' : j < its.length := by simpa using h1
    have h2' : j < ds.length := by simpa using h2
    rw [List.getElem_map, List.getElem_map, ev j h1']
    simp [List.getD, h2']
end

section
variable {X : Cx}
/-! ### ==, != , in, not in -/
def gEq (a b : D) : Option D := if cmpOk 61 a b then some (.bl (deq a b)) else none
def gNe (a b : D) : Option D := if cmpOk 61 a b then some (.bl (!deq a b)) else none
def rEq3 (K : PySem.W.Frag) (neg : Bool) : R2 := fun x y H Q => ∃ ρ M d d', Vw K ρ H M d x ∧ Vw K ρ H M d' y ∧ cmpOk 61 d d' = true ∧ Q (.bl (if neg then !deq d d' else deq d d')) H
theorem o_eq (hu : X.A.units + 64 < cLine) : OpR X (compareOp .Eq) (rEq3 X.K false) := by
  intro pins s σ H x y v u Q I rx ry ⟨ρ, M, d, d', r, r', h, q⟩
  exact (rc_at (n := 60) I (A := X.A) r r' rx ry h (by omega)).1 _ _ _ _ ⟨.bl _, H, I, rfl, q⟩
theorem o_ne (hu : X.A.units + 64 < cLine) : OpR X (compareOp .NotEq) (rEq3 X.K true) := by
  intro pins s σ H x y v u Q I rx ry ⟨ρ, M, d, d', r, r', h, q⟩
  exact (rc_at (n := 60) I (A := X.A) r r' rx ry h (by omega)).2 _ _ _ _ ⟨.bl _, H, I, rfl, q⟩
theorem k_eq : R2ok X (rEq3 X.K false) gEq := fun ρ M H x y dx dy d Q r r' h q => by
  unfold gEq at h
  split at h
  · rename_i c; cases h; exact ⟨ρ, M, dx, dy, r, r', c, q _ (.bl _)⟩
  · cases h
theorem k_ne : R2ok X (rEq3 X.K true) gNe := fun ρ M H x y dx dy d Q r r' h q => by
  unfold gNe at h
  split at h
  · rename_i c; cases h; exact ⟨ρ, M, dx, dy, r, r', c, q _ (.bl _)⟩
  · cases h
def gMem (neg : Bool) (x : D) : D → Option D
  | .lst ds => if ds.all (fun d => cmpOk 60 d x && plain 60 d) then some (.bl (if neg then !(ds.any fun d => deq d x) else ds.any fun d => deq d x)) else none
  | .tup ds => if ds.all (fun d => cmpOk 60 d x && plain 60 d) then some (.bl (if neg then !(ds.any fun d => deq d x) else ds.any fun d => deq d x)) else none
  | _ => none
def rMem (K : PySem.W.Frag) (neg : Bool) : R2 := fun x y H Q => ∃ ρ M dx ds p xs, Vw K ρ H M dx x ∧ y = .ref p ∧ (SqL K H p xs ∨ SqT K H p xs) ∧ RepL K ρ H M ds xs ∧ ds.all (fun d => cmpOk 60 d dx && plain 60 d) = true ∧ Q (.bl (if neg then !(ds.any fun d => deq d dx) else ds.any fun d => deq d dx)) H
theorem any_map {α : Type} : ∀ (l : List α) (f : α → Bool), l.any f = (l.map f).any id
  | [], _ => rfl
  | a :: l, f => by rw [List.any_cons, List.map_cons, List.any_cons, any_map l f]; rfl
theorem o_in (hu : X.A.units + 64 < cLine) : OpR X (compareOp .In) (rMem X.K false) := by
  intro pins s σ H x y v u Q I rx ry ⟨ρ, M, dx, ds, p, xs, r, ey, sq, l, h, q⟩
  subst ey
  cases ry
  rcases sq with sq | sq
  · obtain ⟨its, rv, pl, hz⟩ := I.list sq
    obtain ⟨e, he, hm⟩ := mem_at I (n := 60) (A := X.A.in1) (by show X.A.units + 1 + 60 < cLine; omega) r rx l rv h
    refine in_listAt e pl.isList (fun w hw => he w (by simpa using hw)) ⟨.bl _, H, I, rfl, ?_⟩
    rw [show its.toArray.any e = ds.any fun d => deq d dx by rw [List.any_toArray, any_map its, hm, ← any_map]]
    exact q
  · obtain ⟨its, rv, pl, hz⟩ := I.tuple sq
    obtain ⟨e, he, hm⟩ := mem_at I (n := 60) (A := X.A.in1) (by show X.A.units + 1 + 60 < cLine; omega) r rx l rv h
    refine in_tupleAt e pl (fun w hw => he w (by simpa using hw)) ⟨.bl _, H, I, rfl, ?_⟩
    rw [show its.toArray.any e = ds.any fun d => deq d dx by rw [List.any_toArray, any_map its, hm, ← any_map]]
    exact q
theorem o_notIn (hu : X.A.units + 64 < cLine) : OpR X (compareOp .NotIn) (rMem X.K true) := by
  intro pins s σ H x y v u Q I rx ry ⟨ρ, M, dx, ds, p, xs, r, ey, sq, l, h, q⟩
  subst ey
  cases ry
  rcases sq with sq | sq
  · obtain ⟨its, rv, pl, hz⟩ := I.list sq
    obtain ⟨e, he, hm⟩ := mem_at I (n := 60) (A := X.A.in1) (by show X.A.units + 1 + 60 < cLine; omega) r rx l rv h
    refine notIn_listAt e pl.isList (fun w hw => he w (by simpa using hw)) ⟨.bl _, H, I, rfl, ?_⟩
    rw [show its.toArray.any e = ds.any fun d => deq d dx by rw [List.any_toArray, any_map its, hm, ← any_map]]
    simpa using q
  · obtain ⟨its, rv, pl, hz⟩ := I.tuple sq
    obtain ⟨e, he, hm⟩ := mem_at I (n := 60) (A := X.A.in1) (by show X.A.units + 1 + 60 < cLine; omega) r rx l rv h
    refine notIn_tupleAt e pl (fun w hw => he w (by simpa using hw)) ⟨.bl _, H, I, rfl, ?_⟩
    rw [show its.toArray.any e = ds.any fun d => deq d dx by rw [List.any_toArray, any_map its, hm, ← any_map]]
    simpa using q
theorem k_mem (neg : Bool) : R2ok X (rMem X.K neg) (gMem neg) := fun ρ M H x y dx dy d Q r r' h q => by
  cases dy with
  | lst ds =>
    by_cases c : ds.all (fun d => cmpOk 60 d dx && plain 60 d) = true
    · have h' : some (D.bl (if neg then !(ds.any fun d => deq d dx) else ds.any fun d => deq d dx)) = some d := (if_pos c).symm.trans h
      cases h'
      obtain ⟨a, xs, e, f, l⟩ := r'.lst'
      exact ⟨ρ, M, dx, ds, a, xs, r, e, .inl (SqL.of f), l, c, q _ (.bl _)⟩
    · cases (if_neg c).symm.trans h
  | tup ds =>
    by_cases c : ds.all (fun d => cmpOk 60 d dx && plain 60 d) = true
    · have h' : some (D.bl (if neg then !(ds.any fun d => deq d dx) else ds.any fun d => deq d dx)) = some d := (if_pos c).symm.trans h
      cases h'
      obtain ⟨a, xs, e, f, l⟩ := r'.tup
      exact ⟨ρ, M, dx, ds, a, xs, r, e, .inr f, l, c, q _ (.bl _)⟩
    · cases (if_neg c).symm.trans h
  | _ => cases h
end
end T3

set_option Elab.async false
set_option linter.all false
set_option maxRecDepth 100000
set_option maxHeartbeats 2000000
namespace T3
open PySem L2

section
variable {X : Cx}
theorem OpR.or' {f : Value → Value → Sem Value} {r r' : R2} {g g' : D → D → Option D} (k : R2ok X r g) (k' : R2ok X r' g') : R2ok X (fun x y H Q => r x y H Q ∨ r' x y H Q) (fun a b => match g a b with | some d => some d | none => g' a b) := fun ρ M H x y dx dy d Q r1 r2 h q => by
  cases e : g dx dy with
  | some d' => simp only [e] at h; cases h; exact .inl (k ρ M H x y dx dy d Q r1 r2 e q)
  | none => simp only [e] at h; exact .inr (k' ρ M H x y dx dy d Q r1 r2 h q)
theorem Vw.int {K : PySem.W.Frag} {ρ : List Addr} {H : Hp} {M : Addr → Prop} {i : Int} {v : V} (r : Vw K ρ H M (.int i) v) : v = .int i := by cases r with | rep r => cases r; rfl
theorem Vw.str {K : PySem.W.Frag} {ρ : List Addr} {H : Hp} {M : Addr → Prop} {i : Str} {v : V} (r : Vw K ρ H M (.str i) v) : v = .str i := by cases r with | rep r => cases r; rfl
theorem Vw.bl {K : PySem.W.Frag} {ρ : List Addr} {H : Hp} {M : Addr → Prop} {i : Bool} {v : V} (r : Vw K ρ H M (.bl i) v) : v = .bl i := by cases r with | rep r => cases r; rfl
theorem Vw.non {K : PySem.W.Frag} {ρ : List Addr} {H : Hp} {M : Addr → Prop} {v : V} (r : Vw K ρ H M .non v) : v = .non := by cases r with | rep r => cases r; rfl
/-- two ints -/
def gInt (C : Int → Int → Bool) (g : Int → Int → D) : D → D → Option D
  | .int i, .int j => if C i j then some (g i j) else none
  | _, _ => none
theorem k_int {C : Int → Int → Prop} {Cb : Int → Int → Bool} {g : Int → Int → V} {gd : Int → Int → D} (hC : ∀ i j, Cb i j = true → C i j) (hg : ∀ K ρ H M i j, Rep K ρ H M (gd i j) (g i j)) : R2ok X (rI C g) (gInt Cb gd) := fun ρ M H x y dx dy d Q r1 r2 h q => by
  cases dx with
  | int i => cases dy with
    | int j =>
      by_cases c : Cb i j = true
      · have h' : some (gd i j) = some d := (if_pos c).symm.trans h
        cases h'
        exact ⟨i, j, r1.int, r2.int, hC i j c, q _ (hg _ _ _ _ _ _)⟩
      · cases (if_neg c).symm.trans h
    | _ => cases h
  | _ => cases h
theorem k_int0 {g : Int → Int → V} {gd : Int → Int → D} (hg : ∀ K ρ H M i j, Rep K ρ H M (gd i j) (g i j)) : R2ok X (rI0 g) (gInt (fun _ _ => true) gd) := fun ρ M H x y dx dy d Q r1 r2 h q => by
  cases dx with
  | int i => cases dy with
    | int j =>
      have h' : some (gd i j) = some d := h
      cases h'
      exact ⟨i, j, r1.int, r2.int, q _ (hg _ _ _ _ _ _)⟩
    | _ => cases h
  | _ => cases h
def gStr (C : Str → Str → Bool) (g : Str → Str → D) : D → D → Option D
  | .str i, .str j => if C i j then some (g i j) else none
  | _, _ => none
theorem k_add_str : R2ok X (fun x y H Q => ∃ i j, x = .str i ∧ y = .str j ∧ i.length + j.length ≤ sizeLine ∧ Q (.str (i ++ j)) H) (gStr (fun i j => decide (i.length + j.length ≤ sizeLine)) fun i j => .str (i ++ j)) := fun ρ M H x y dx dy d Q r1 r2 h q => by
  cases dx with
  | str i => cases dy with
    | str j =>
      by_cases c : i.length + j.length ≤ sizeLine
      · have h' : some (D.str (i ++ j)) = some d := (if_pos (decide_eq_true c)).symm.trans h
        cases h'
        exact ⟨i, j, r1.str, r2.str, c, q _ (.str _)⟩
      · cases (if_neg (fun z => c (of_decide_eq_true z))).symm.trans h
    | _ => cases h
  | _ => cases h
theorem k_str0 {g : Str → Str → V} {gd : Str → Str → D} (hg : ∀ K ρ H M i j, Rep K ρ H M (gd i j) (g i j)) : R2ok X (fun x y H Q => ∃ i j, x = .str i ∧ y = .str j ∧ Q (g i j) H) (gStr (fun _ _ => true) gd) := fun ρ M H x y dx dy d Q r1 r2 h q => by
  cases dx with
  | str i => cases dy with
    | str j =>
      have h' : some (gd i j) = some d := h
      cases h'
      exact ⟨i, j, r1.str, r2.str, q _ (hg _ _ _ _ _ _)⟩
    | _ => cases h
  | _ => cases h
/-! ### the operators of ints and texts -/
def gSub : D → D → Option D := gInt (fun _ _ => true) fun i j => .int (i - j)
def gMul : D → D → Option D := gInt (fun i j => (decide (-(2 ^ 64) < i) && decide (i < 2 ^ 64)) || (decide (-(2 ^ 64) < j) && decide (j < 2 ^ 64))) fun i j => .int (i * j)
def gMod : D → D → Option D := gInt (fun _ j => decide (0 < j)) fun i j => .int (i % j)
def gDiv : D → D → Option D := gInt (fun _ j => decide (0 < j) && decide (j < 1073741824)) fun i j => .int (i / j)
def gPow : D → D → Option D := gInt (fun i j => decide (0 ≤ j) && decide (j ≤ 1000000) && decide (i.natAbs < 2 ^ 64)) fun i j => .int (i ^ j.toNat)
def gAddI : D → D → Option D := gInt (fun _ _ => true) fun i j => .int (i + j)
def gAddS : D → D → Option D := gStr (fun i j => decide (i.length + j.length ≤ sizeLine)) fun i j => .str (i ++ j)
/-- + of two ints or two texts -/
def gAdd (a b : D) : Option D := match gAddI a b with
  | some d => some d
  | none => gAddS a b
theorem o_add : OpR X (binaryOp .Add) (fun x y H Q => (rI0 fun i j => .int (i + j)) x y H Q ∨ ∃ i j, x = .str i ∧ y = .str j ∧ i.length + j.length ≤ sizeLine ∧ Q (.str (i ++ j)) H) := op_add.or op_add_str
theorem k_add : R2ok X (fun x y H Q => (rI0 fun i j => .int (i + j)) x y H Q ∨ ∃ i j, x = .str i ∧ y = .str j ∧ i.length + j.length ≤ sizeLine ∧ Q (.str (i ++ j)) H) gAdd :=
  OpR.or' (f := binaryOp .Add) (k_int0 (gd := fun i j => .int (i + j)) fun _ _ _ _ _ _ => .int _) k_add_str
theorem k_sub : R2ok X (rI0 fun i j => .int (i - j)) gSub := k_int0 fun _ _ _ _ _ _ => .int _
theorem k_mul : R2ok X (rI CMul fun i j => .int (i * j)) gMul := k_int (fun i j h => by
  simp only [Bool.or_eq_true, Bool.and_eq_true, decide_eq_true_eq] at h
  exact h) fun _ _ _ _ _ _ => .int _
theorem k_mod : R2ok X (rI (fun _ j => 0 < j) fun i j => .int (i % j)) gMod := k_int (fun i j h => of_decide_eq_true h) fun _ _ _ _ _ _ => .int _
theorem k_div : R2ok X (rI CDiv fun i j => .int (i / j)) gDiv := k_int (fun i j h => by
  simp only [Bool.and_eq_true, decide_eq_true_eq] at h
  exact h) fun _ _ _ _ _ _ => .int _
theorem k_pow : R2ok X (rI CPow fun i j => .int (i ^ j.toNat)) gPow := k_int (fun i j h => by
  simp only [Bool.and_eq_true, decide_eq_true_eq] at h
  exact ⟨h.1.1, h.1.2, h.2⟩) fun _ _ _ _ _ _ => .int _
/-- < of ints or texts, and the like -/
def gCmp (pi : Int → Int → Bool) (ps : Str → Str → Bool) (a b : D) : Option D := match gInt (fun _ _ => true) (fun i j => .bl (pi i j)) a b with
  | some d => some d
  | none => gStr (fun _ _ => true) (fun i j => .bl (ps i j)) a b
def strLt (i j : Str) : Bool := decide (i.cps.toList < j.cps.toList)
def gLt := gCmp (fun i j => decide (i < j)) strLt
def gLe := gCmp (fun i j => decide (i ≤ j)) fun i j => !strLt j i
def gGt := gCmp (fun i j => decide (j < i)) fun i j => strLt j i
def gGe := gCmp (fun i j => decide (j ≤ i)) fun i j => !strLt i j
abbrev rC (pi : Int → Int → Bool) (ps : Str → Str → Bool) : R2 := fun x y H Q => (rI0 fun i j => .bl (pi i j)) x y H Q ∨ ∃ i j, x = .str i ∧ y = .str j ∧ Q (.bl (ps i j)) H
theorem o_lt : OpR X (compareOp .Lt) (rC (fun i j => decide (i < j)) strLt) := op_lt.or op_lt_str
theorem o_le : OpR X (compareOp .LtE) (rC (fun i j => decide (i ≤ j)) fun i j => !strLt j i) := op_le.or op_le_str
theorem o_gt : OpR X (compareOp .Gt) (rC (fun i j => decide (j < i)) fun i j => strLt j i) := op_gt.or op_gt_str
theorem o_ge : OpR X (compareOp .GtE) (rC (fun i j => decide (j ≤ i)) fun i j => !strLt i j) := op_ge.or op_ge_str
theorem k_cmp (pi : Int → Int → Bool) (ps : Str → Str → Bool) : R2ok X (rC pi ps) (gCmp pi ps) := OpR.or' (f := compareOp .Lt) (k_int0 (gd := fun i j => .bl (pi i j)) fun _ _ _ _ _ _ => .bl _) (k_str0 (gd := fun i j => .bl (ps i j)) fun _ _ _ _ _ _ => .bl _)
/-- is None, is not None -/
def isNonD : D → Bool
  | .non => true
  | _ => false
def gIsN (neg : Bool) (a b : D) : Option D := match b with
  | .non => some (.bl (if neg then !isNonD a else isNonD a))
  | _ => none
theorem vw_isN {K : PySem.W.Frag} {ρ : List Addr} {H : Hp} {M : Addr → Prop} {d : D} {v : V} (r : Vw K ρ H M d v) : decide (v = V.non) = isNonD d := by
  cases r with
  | rep r => cases r <;> rfl
  | lst => rfl
  | dic => rfl
theorem k_isN : R2ok X (fun x y H Q => y = .non ∧ Q (.bl (decide (x = .non))) H) (gIsN false) := fun ρ M H x y dx dy d Q r1 r2 h q => by
  cases dy with
  | non => cases h; exact ⟨r2.non, by rw [vw_isN r1]; exact q _ (.bl _)⟩
  | _ => cases h
theorem k_notN : R2ok X (fun x y H Q => y = .non ∧ Q (.bl (!decide (x = .non))) H) (gIsN true) := fun ρ M H x y dx dy d Q r1 r2 h q => by
  cases dy with
  | non => cases h; exact ⟨r2.non, by rw [vw_isN r1]; exact q _ (.bl _)⟩
  | _ => cases h
/-! ### an item -/
def gIxS (z : Str) (i : Int) : Option D := if z.length ≤ sizeLine then match atI z.cps.toList i with
  | some c => some (.str ⟨#[c]⟩)
  | none => none
  else none
def gIx : D → D → Option D
  | .lst ds, .int i => atI ds i
  | .tup ds, .int i => atI ds i
  | .scr ns, .int i => (atI ns i).map D.int
  | .str z, .int i => gIxS z i
  | _, _ => none
theorem RepL.atI {K : PySem.W.Frag} {ρ : List Addr} {H : Hp} {M : Addr → Prop} {ds : List D} {xs : List V} (l : RepL K ρ H M ds xs) {i : Int} {d : D} (h : atI ds i = some d) : ∃ v, L2.atI xs i = some v ∧ Rep K ρ H M d v := by
  unfold L2.atI at h ⊢
  rw [← l.length]
  cases e : ixN ds.length i with
  | none => rw [e] at h; cases h
  | some j =>
    rw [e] at h
    obtain ⟨hj, rfl⟩ := List.getElem?_eq_some_iff.mp (show ds[j]? = some d from h)
    have hj' : j < xs.length := by rw [← l.length]; exact hj
    exact ⟨xs[j], by simp [hj'], l.at j hj hj'⟩
theorem Vw.scr {K : PySem.W.Frag} {ρ : List Addr} {H : Hp} {M : Addr → Prop} {ns : List Int} {v : V} (r : Vw K ρ H M (.scr ns) v) : ∃ a, v = .ref a ∧ SqL K H a (ns.map V.int) := by
  cases r with
  | rep r =>
    cases r with
    | scr f =>
      rcases f with ⟨f, _⟩ | f
      · exact ⟨_, rfl, .inl f⟩
      · refine ⟨_, rfl, ?_⟩
        rcases f with f | f
        · rcases f with f | ⟨o, f⟩ <;> cases f
        · exact .inr f
theorem atI_map {α β : Type} (f : α → β) (xs : List α) (i : Int) : L2.atI (xs.map f) i = (L2.atI xs i).map f := by
  unfold L2.atI
  rw [List.length_map]
  cases ixN xs.length i with
  | none => rfl
  | some j => simp
theorem k_ix : R2ok X (rIx X.K) gIx := fun ρ M H x y dx dy d Q r1 r2 h q => by
  cases dy with
  | int i =>
    cases dx with
    | lst ds =>
      obtain ⟨a, xs, e, f, l⟩ := r1.lst'
      obtain ⟨v, hv, rv⟩ := l.atI h
      exact .inl ⟨a, xs, i, v, e, r2.int, SqL.of f, hv, q v rv⟩
    | tup ds =>
      obtain ⟨a, xs, e, f, l⟩ := r1.tup
      obtain ⟨v, hv, rv⟩ := l.atI h
      exact .inr (.inl ⟨a, xs, i, v, e, r2.int, f, hv, q v rv⟩)
    | scr ns =>
      obtain ⟨a, e, f⟩ := r1.scr
      have h' : (L2.atI ns i).map D.int = some d := h
      cases e2 : L2.atI ns i with
      | none => rw [e2] at h'; cases h'
      | some z =>
        rw [e2] at h'
        cases h'
        exact .inl ⟨a, _, i, .int z, e, r2.int, f, by rw [atI_map, e2]; rfl, q _ (.int z)⟩
    | str z =>
      have h' : gIxS z i = some d := h
      unfold gIxS at h'
      by_cases c : z.length ≤ sizeLine
      · rw [if_pos c] at h'
        cases e2 : L2.atI z.cps.toList i with
        | none => rw [e2] at h'; cases h'
        | some w =>
          rw [e2] at h'
          cases h'
          exact .inr (.inr ⟨z, i, w, r1.str, r2.int, c, e2, q _ (.str _)⟩)
      · rw [if_neg c] at h'; cases h'
    | _ => cases h
  | _ => cases dx <;> cases h
end

/-! ### tests and choices -/
section
variable {X : Cx} {N : Addr → Prop} {W : WX}
def truth : D → Option Bool
  | .non => some false
  | .bl b => some b
  | .int i => some (i != 0)
  | .str s => if s.length ≤ sizeLine then some ((s.length : Int) != 0) else none
  | .lst ds => some (!ds.isEmpty)
  | .tup ds => some (!ds.isEmpty)
  | .scr ns => some (!ns.isEmpty)
  | _ => none
theorem RepL.emp {K : PySem.W.Frag} {ρ : List Addr} {H : Hp} {M : Addr → Prop} {ds : List D} {xs : List V} (l : RepL K ρ H M ds xs) : ds.isEmpty = xs.isEmpty := by cases l <;> rfl
theorem RepK.emp {K : PySem.W.Frag} {ρ : List Addr} {H : Hp} {M : Addr → Prop} {ds : List (Key × D)} {xs : List (Key × V)} (l : RepK K ρ H M ds xs) : ds.isEmpty = xs.isEmpty := by cases l <;> rfl
theorem Vw.dic' {K : PySem.W.Frag} {ρ : List Addr} {H : Hp} {M : Addr → Prop} {ds : List (Key × D)} {v : V} (r : Vw K ρ H M (.dic ds) v) : ∃ a us, v = .ref a ∧ Rd H a (.dK us) ∧ RepK K ρ H M ds us := by
  cases r with
  | rep r => cases r with | dic e _ l => exact ⟨_, _, rfl, e, l⟩
  | dic e l => exact ⟨_, _, rfl, e, l⟩
theorem truth_ok {K : PySem.W.Frag} {ρ : List Addr} {H : Hp} {M : Addr → Prop} {d : D} {v : V} {b : Bool} (r : Vw K ρ H M d v) (h : truth d = some b) : TruV K v H b := by
  cases d with
  | non => rw [r.non]; cases h; rfl
  | bl c => rw [r.bl]; cases h; rfl
  | int i => rw [r.int]; cases h; rfl
  | str s =>
    rw [r.str]
    have h' : (if s.length ≤ sizeLine then some ((s.length : Int) != 0) else none) = some b := h
    by_cases c : s.length ≤ sizeLine
    · rw [if_pos c] at h'; cases h'; exact ⟨c, rfl⟩
    · rw [if_neg c] at h'; cases h'
  | lst ds =>
    obtain ⟨a, xs, rfl, f, l⟩ := r.lst'
    cases h
    exact .inl ⟨xs, SqL.of f, by rw [l.emp]⟩
  | tup ds =>
    obtain ⟨a, xs, rfl, f, l⟩ := r.tup
    cases h
    exact .inr (.inl ⟨xs, f, by rw [l.emp]⟩)
  | dic ds => cases h
  | scr ns =>
    obtain ⟨a, rfl, f⟩ := r.scr
    cases h
    exact .inl ⟨_, f, by simp⟩
  | ref i => cases h
  | own i => cases h
def dTruth (f : F D) : F Bool := dBind f fun a => dBind (dRes a) fun d => dOpt (truth d)
theorem t_truth {a : Expr} {f : F D} (ha : PE3 X N W a f) (he : ∀ whole, isTrue a X.env whole = (do let v ← whole; standAt a.pos; holding [v] (truthy v))) : PT3 X N W a (dTruth f) := by
  refine ⟨pt_imp (pt_truth ha.run he) fun σ H Q ⟨ρ, μ, σ3, h, fr, p⟩ => ?_⟩
  refine Lift.mono (fun x H1 ⟨a, ρ1, h1, x1, fr1, r1, p1⟩ => ?_) (bindP fr p)
  obtain ⟨d, e, p2⟩ := post_res p1
  cases t : truth d with
  | none => rw [t] at p2; exact p2.elim
  | some b =>
    rw [t] at p2
    exact ⟨b, truth_ok (fr1.view r1 e) t, post_ok fr1 p2 (rfl : b = b)⟩
structure PW3 (X : Cx) (N : Addr → Prop) (W : WX) (e : Expr) (f : F Bool) : Prop where
  run : PW X e (Lift X.K N W RB f)
theorem PW3.pt {e : Expr} {f : F Bool} (h : PW3 X N W e f) : PT3 X N W e f := ⟨h.run.pt⟩
theorem pw_imp {e : Expr} {t t' : TT} (h : PW X e t) (i : ∀ σ H Q, t' σ H Q → t σ H Q) : PW X e t' := ⟨fun w pins s σ H Q I q => h.run w pins s σ H Q I (i _ _ _ q)⟩
def dAndT (f g : F Bool) : F Bool := dBind f fun c => if c then g else dPure false
def dOrT (f g : F Bool) : F Bool := dBind f fun c => if c then dPure true else g
def dNotT (f : F Bool) : F Bool := dBind f fun c => dPure (!c)
section
variable {a b : Expr} {rest : List Expr} {pos : Pos} {f g : F Bool}
theorem w_and1 (ha : PT3 X N W a f) : PW3 X N W (.BoolOp .And [a] pos) f := ⟨pw_and1 ha.run⟩
theorem w_or1 (ha : PT3 X N W a f) : PW3 X N W (.BoolOp .Or [a] pos) f := ⟨pw_or1 ha.run⟩
theorem w_and (ha : PT3 X N W a f) (hb : PW3 X N W (.BoolOp .And (b :: rest) pos) g) : PW3 X N W (.BoolOp .And (a :: b :: rest) pos) (dAndT f g) := by
  refine ⟨pw_imp (pw_and ha.run hb.run) fun σ H Q ⟨ρ, μ, σ3, h, fr, p⟩ => ?_⟩
  refine Lift.mono (fun x H1 ⟨c, ρ1, h1, x1, fr1, r1, p1⟩ => ?_) (bindP fr p)
  cases r1
  cases x with
  | true => exact ⟨ρ1, μ, σ3, h1, fr1, p1⟩
  | false => exact post_ok fr1 p1 (rfl : false = false)
theorem w_or (ha : PT3 X N W a f) (hb : PW3 X N W (.BoolOp .Or (b :: rest) pos) g) : PW3 X N W (.BoolOp .Or (a :: b :: rest) pos) (dOrT f g) := by
  refine ⟨pw_imp (pw_or ha.run hb.run) fun σ H Q ⟨ρ, μ, σ3, h, fr, p⟩ => ?_⟩
  refine Lift.mono (fun x H1 ⟨c, ρ1, h1, x1, fr1, r1, p1⟩ => ?_) (bindP fr p)
  cases r1
  cases x with
  | true => exact post_ok fr1 p1 (rfl : true = true)
  | false => exact ⟨ρ1, μ, σ3, h1, fr1, p1⟩
theorem t_not (ha : PT3 X N W a f) : PT3 X N W (.UnaryOp .Not a pos) (dNotT f) := by
  refine ⟨pt_imp (pt_not ha.run) fun σ H Q ⟨ρ, μ, σ3, h, fr, p⟩ => ?_⟩
  refine Lift.mono (fun x H1 ⟨c, ρ1, h1, x1, fr1, r1, p1⟩ => ?_) (bindP fr p)
  cases r1
  exact post_ok fr1 p1 (rfl : (!x) = (!x))
end
/-! ### .. as values -/
def isBl : D → Option Bool
  | .bl b => some b
  | _ => none
def dAndV (f g : F D) : F D := dBind f fun d => dBind (dOpt (isBl d)) fun c => if c then g else dPure (.bl false)
def dOrV (f g : F D) : F D := dBind f fun d => dBind (dOpt (isBl d)) fun c => if c then dPure (.bl true) else g
def dNotV (f : F D) : F D := dBind f fun d => dBind (dOpt (isBl d)) fun c => dPure (.bl (!c))
def dIf (t : F Bool) (f g : F D) : F D := dBind t fun c => if c then f else g
theorem isBl_ok {K : PySem.W.Frag} {ρ μ : List Addr} {σ3 : S3} {σ : St} {H : Hp} {d : D} {v : V} {b : Bool} (r : RX K N ρ μ σ3 σ H d v) (h : isBl d = some b) : v = .bl b := by
  cases d with
  | bl c => cases h; cases r; rfl
  | _ => cases h
section
variable {a b : Expr} {rest : List Expr} {pos : Pos} {f g : F D} {t : F Bool}
theorem e_one {op} (h : PE3 X N W a f) : PE3 X N W (.BoolOp op [a] pos) f := ⟨pe_one h.run⟩
theorem e_and (ha : PE3 X N W a f) (hb : PE3 X N W (.BoolOp .And (b :: rest) pos) g) : PE3 X N W (.BoolOp .And (a :: b :: rest) pos) (dAndV f g) := by
  refine ⟨pe_imp (pe_and ha.run hb.run) fun σ H Q ⟨ρ, μ, σ3, h, fr, p⟩ => ?_⟩
  refine Lift.mono (fun x H1 ⟨d, ρ1, h1, x1, fr1, r1, p1⟩ => ?_) (bindP fr p)
  obtain ⟨c, e, p2⟩ := post_opt p1
  refine ⟨c, isBl_ok r1 e, ?_⟩
  cases c with
  | true => exact ⟨ρ1, μ, σ3, h1, fr1, p2⟩
  | false => exact post_ok fr1 p2 (Rep.bl false)
theorem e_or (ha : PE3 X N W a f) (hb : PE3 X N W (.BoolOp .Or (b :: rest) pos) g) : PE3 X N W (.BoolOp .Or (a :: b :: rest) pos) (dOrV f g) := by
  refine ⟨pe_imp (pe_or ha.run hb.run) fun σ H Q ⟨ρ, μ, σ3, h, fr, p⟩ => ?_⟩
  refine Lift.mono (fun x H1 ⟨d, ρ1, h1, x1, fr1, r1, p1⟩ => ?_) (bindP fr p)
  obtain ⟨c, e, p2⟩ := post_opt p1
  refine ⟨c, isBl_ok r1 e, ?_⟩
  cases c with
  | true => exact post_ok fr1 p2 (Rep.bl true)
  | false => exact ⟨ρ1, μ, σ3, h1, fr1, p2⟩
theorem e_not (ha : PE3 X N W a f) : PE3 X N W (.UnaryOp .Not a pos) (dNotV f) := by
  refine ⟨pe_imp (pe_not ha.run) fun σ H Q ⟨ρ, μ, σ3, h, fr, p⟩ => ?_⟩
  refine Lift.mono (fun x H1 ⟨d, ρ1, h1, x1, fr1, r1, p1⟩ => ?_) (bindP fr p)
  obtain ⟨c, e, p2⟩ := post_opt p1
  exact ⟨c, isBl_ok r1 e, post_ok fr1 p2 (Rep.bl _)⟩
theorem e_if {c : Expr} (hc : PT3 X N W c t) (ha : PE3 X N W a f) (hb : PE3 X N W b g) : PE3 X N W (.IfExp c a b pos) (dIf t f g) := by
  refine ⟨pe_imp (pe_ifExp hc.run ha.run hb.run) fun σ H Q ⟨ρ, μ, σ3, h, fr, p⟩ => ?_⟩
  refine Lift.mono (fun x H1 ⟨d, ρ1, h1, x1, fr1, r1, p1⟩ => ?_) (bindP fr p)
  cases r1
  cases x with
  | true => exact ⟨ρ1, μ, σ3, h1, fr1, p1⟩
  | false => exact ⟨ρ1, μ, σ3, h1, fr1, p1⟩
end
def dUn (g : D → Option D) (f : F D) : F D := dBind f fun a => dBind (dRes a) fun d => dOpt (g d)
def gNeg : D → Option D
  | .int i => some (.int (-i))
  | _ => none
theorem e_neg {a : Expr} {pos : Pos} {f : F D} (ha : PE3 X N W a f) : PE3 X N W (.UnaryOp .USub a pos) (dUn gNeg f) := by
  refine ⟨pe_imp (pe_un un_neg ha.run) fun σ H Q ⟨ρ, μ, σ3, h, fr, p⟩ => ?_⟩
  refine Lift.mono (fun x H1 ⟨d, ρ1, h1, x1, fr1, r1, p1⟩ => ?_) (bindP fr p)
  obtain ⟨d', e, p2⟩ := post_res p1
  have v := fr1.view r1 e
  cases d' with
  | int i => exact ⟨i, v.int, post_ok fr1 p2 (Rep.int _)⟩
  | _ => exact p2.elim
/-! ### a < b < c -/
def dChain (g g' : D → D → Option D) (fa fb fc : F D) : F D := dBind fa fun a => dBind fb fun b => dBind (dRes a) fun a => dBind (dRes b) fun b' => dBind (dOpt ((g a b').bind isBl)) fun c =>
  if c then dBind fc fun d => dBind (dRes b) fun b => dBind (dRes d) fun d => dOpt (g' b d) else dPure (.bl false)
theorem chain_read {r r' : R2} {g g' : D → D → Option D} (ok : R2ok X r g) (ok' : R2ok X r' g') {fa fb fc : F D} {σ : St} {H : Hp} {Q : VK} (q : Lift X.K N W (RX X.K N) (dChain g g' fa fb fc) σ H Q) :
    tChain r r' (Lift X.K N W (RX X.K N) fa) (Lift X.K N W (RX X.K N) fb) (Lift X.K N W (RX X.K N) fc) σ H Q := by
  obtain ⟨ρ, μ, σ3, h, fr, p⟩ := q
  refine Lift.mono (fun x H1 ⟨a, ρ1, h1, x1, fr1, r1, p1⟩ => ?_) (bindP fr p)
  refine Lift.mono (fun y H2 ⟨b, ρ2, h2, x2, fr2, r2, p2⟩ => ?_) (bindP fr1 p1)
  obtain ⟨a', ea, p3⟩ := post_res p2
  obtain ⟨b', eb, p4⟩ := post_res p3
  obtain ⟨c, ec, p5⟩ := post_opt p4
  cases o : g a' b' with
  | none => rw [o] at ec; cases ec
  | some d =>
    rw [o] at ec
    have ed : isBl d = some c := ec
    refine ok ρ2 _ H2 x y a' b' d _ (fr2.view (r1.ext x2) ea) (fr2.view r2 eb) o fun v rv => ⟨c, isBl_ok (σ3 := σ3) (σ := σ) (μ := μ) (N := N) (RX.of rv) ed, ?_⟩
    cases c with
    | false => exact post_ok fr2 p5 (Rep.bl false)
    | true =>
      refine Lift.mono (fun z H3 ⟨d, ρ3, h3, x3, fr3, r3, p6⟩ => ?_) (bindP fr2 p5)
      obtain ⟨b'', eb2, p7⟩ := post_res p6
      obtain ⟨d', ed', p8⟩ := post_res p7
      cases o' : g' b'' d' with
      | none => rw [o'] at p8; exact p8.elim
      | some w =>
        rw [o'] at p8
        exact ok' ρ3 _ H3 y z b'' d' w Q (fr3.view (r2.ext x3) eb2) (fr3.view r3 ed') o' fun v rv => post_ok fr3 p8 (RX.of rv)
theorem e_chain {op op' : CmpOp} {r r' : R2} {g g' : D → D → Option D} {a b c : Expr} {pos : Pos} {fa fb fc : F D} (ho : OpR X (compareOp op) r) (ho' : OpR X (compareOp op') r') (ok : R2ok X r g) (ok' : R2ok X r' g') (ha : PE3 X N W a fa) (hb : PE3 X N W b fb) (hc : PE3 X N W c fc)
    (hm : lastMarks [op, op'] [b, c] = false := by with_unfolding_all rfl) : PE3 X N W (.Compare a [op, op'] [b, c] pos) (dChain g g' fa fb fc) :=
  ⟨pe_imp (pe_chain ho ho' ha.run hb.run hc.run hm) fun σ H Q q => chain_read ok ok' q⟩
theorem t_chain {op op' : CmpOp} {r r' : R2} {g g' : D → D → Option D} {a b c : Expr} {pos : Pos} {fa fb fc : F D} (ho : OpR X (compareOp op) r) (ho' : OpR X (compareOp op') r') (ok : R2ok X r g) (ok' : R2ok X r' g') (ha : PE3 X N W a fa) (hb : PE3 X N W b fb) (hc : PE3 X N W c fc)
    (hm : lastMarks [op, op'] [b, c] = false := by with_unfolding_all rfl) : PT3 X N W (.Compare a [op, op'] [b, c] pos) (dTest (dChain g g' fa fb fc)) :=
  ⟨pt_imp (pt_chain ho ho' ha.run hb.run hc.run hm) fun σ H Q q => chain_read (W := W) (N := N) ok ok' (test_read q)⟩
end
end T3

set_option Elab.async false
set_option linter.all false
set_option maxRecDepth 100000
set_option maxHeartbeats 2000000
namespace T3
open PySem L2

/-! ### slots -/
section
variable {K : PySem.W.Frag} {ρ ρ' μ μ' : List Addr} {H H' : Hp} {M M' : Addr → Prop}
theorem CellR.less {c : Cell} {a : Addr} (r : CellR K ρ H M c a) (s : ∀ a, M' a → M a) : CellR K ρ H M' c a := r.go (fun _ _ e n => ⟨.inl e, fun m => n (s _ m)⟩) (fun _ _ e => e) rfl
theorem CellsR.less {h : HD} {l : List Addr} (r : CellsR K ρ H M h l) (s : ∀ a, M' a → M a) : CellsR K ρ H M' h l := r.go (fun _ _ e n => ⟨.inl e, fun m => n (s _ m)⟩) (fun _ _ e => e) fun _ _ => rfl
theorem SlR.less {s3 : S3} {t : St} {μ : List Addr} (r : SlR K ρ H M s3 t μ) (s : ∀ a, M' a → M a) : SlR K ρ H M' s3 t μ := r.go (fun _ _ e n => ⟨.inl e, fun m => n (s _ m)⟩) (fun _ _ e => e) fun _ _ => rfl
theorem SlR.setVal {d : D} {v : V} (q : Rep K ρ H M d v) : ∀ {s : S3} {t : St} {μ : List Addr}, SlR K ρ H M s t μ → ∀ i : Nat, ∃ μ', SlR K ρ H M (s.set i (some (.val d))) (t.set i (some v)) μ' ∧ μ'.Sublist μ
  | _, _, _, .nil, i => ⟨[], .nil, .slnil⟩
  | _, _, _, .none r, 0 => ⟨_, .val q r, List.Sublist.refl _⟩
  | _, _, _, .val _ r, 0 => ⟨_, .val q r, List.Sublist.refl _⟩
  | _, _, _, .own c r, 0 => ⟨_, .val q r, List.sublist_cons_self _ _⟩
  | _, _, _, .none r, i + 1 => let ⟨μ', h1, h2⟩ := SlR.setVal q r i; ⟨μ', .none h1, h2⟩
  | _, _, _, .val d r, i + 1 => let ⟨μ', h1, h2⟩ := SlR.setVal q r i; ⟨μ', .val d h1, h2⟩
  | _, _, _, .own c r, i + 1 => let ⟨μ', h1, h2⟩ := SlR.setVal q r i; ⟨_ :: μ', .own c h1, h2.cons_cons _⟩
theorem SlR.setOwn {c : Cell} {a : Addr} (q : CellR K ρ H M c a) : ∀ {s : S3} {t : St} {μ : List Addr}, SlR K ρ H M s t μ → ∀ i : Nat, ∃ μ', SlR K ρ H M (s.set i (some (.own c))) (t.set i (some (.ref a))) μ' ∧ (∀ x ∈ μ', x = a ∨ x ∈ μ) ∧ (μ.Nodup → a ∉ μ → μ'.Nodup)
  | _, _, _, .nil, i => ⟨[], .nil, fun x m => .inr m, fun n _ => n⟩
  | _, _, _, .none r, 0 => ⟨_, .own q r, fun x m => by simpa using m, fun n h => List.nodup_cons.mpr ⟨h, n⟩⟩
  | _, _, _, .val _ r, 0 => ⟨_, .own q r, fun x m => by simpa using m, fun n h => List.nodup_cons.mpr ⟨h, n⟩⟩
  | _, _, _, .own (a := b) cb r, 0 => ⟨_, .own q r, fun x m => by
      rcases List.mem_cons.mp m with m | m
      · exact .inl m
      · exact .inr (List.mem_cons_of_mem _ m), fun n h => List.nodup_cons.mpr ⟨fun m => h (List.mem_cons_of_mem _ m), (List.nodup_cons.mp n).2⟩⟩
  | _, _, _, .none r, i + 1 => let ⟨μ', h1, h2⟩ := SlR.setOwn q r i; ⟨μ', .none h1, h2⟩
  | _, _, _, .val d r, i + 1 => let ⟨μ', h1, h2⟩ := SlR.setOwn q r i; ⟨μ', .val d h1, h2⟩
  | _, _, _, .own (a := b) cb r, i + 1 => by
    obtain ⟨μ', h1, h2, h3⟩ := SlR.setOwn q r i
    refine ⟨b :: μ', .own cb h1, fun x m => ?_, fun n h => ?_⟩
    · rcases List.mem_cons.mp m with m | m
      · exact .inr (m ▸ List.mem_cons_self)
      · exact (h2 x m).imp id (List.mem_cons_of_mem _)
    · have n' := List.nodup_cons.mp n
      refine List.nodup_cons.mpr ⟨fun m => ?_, h3 n'.2 fun m => h (List.mem_cons_of_mem _ m)⟩
      rcases h2 b m with e | m
      · exact h (e ▸ List.mem_cons_self)
      · exact n'.1 m
theorem SlR.len {s : S3} {t : St} {μ : List Addr} (r : SlR K ρ H M s t μ) : s.length = t.length := by induction r <;> simp_all
/-- the slot's own object is the slot's value: it does not change any more -/
theorem SlR.frz : ∀ {s : S3} {t : St} {μ : List Addr}, SlR K ρ H M s t μ → ∀ (i : Nat) (c : Cell), s[i]? = some (some (.own c)) → ∃ a μ1 μ2, μ = μ1 ++ a :: μ2 ∧ t[i]? = some (some (.ref a)) ∧ CellR K ρ H M c a ∧
    ∀ (M' : Addr → Prop) (ρ' : List Addr) (d : D), (∀ x, M' x → M x) → (∀ (i : Nat) (a : Addr), ρ[i]? = some a → ρ'[i]? = some a) → Rep K ρ' H M' d (.ref a) → SlR K ρ' H M' (s.set i (some (.val d))) t (μ1 ++ μ2)
  | _, _, _, .nil, i, c, e => by simp at e
  | _, _, _, .none r, 0, c, e => by simp at e
  | _, _, _, .none r, i + 1, c, e => by
    obtain ⟨a, m1, m2, h1, h2, h3, h4⟩ := SlR.frz r i c (by simpa using e)
    exact ⟨a, m1, m2, h1, by simpa using h2, h3, fun M' ρ' d s p q => .none (h4 M' ρ' d s p q)⟩
  | _, _, _, .val d r, 0, c, e => by simp at e
  | _, _, _, .val d r, i + 1, c, e => by
    obtain ⟨a, m1, m2, h1, h2, h3, h4⟩ := SlR.frz r i c (by simpa using e)
    exact ⟨a, m1, m2, h1, by simpa using h2, h3, fun M' ρ' d' s p q => .val (d.go (fun _ _ e n => ⟨.inl e, fun m => n (s _ m)⟩) p) (h4 M' ρ' d' s p q)⟩
  | _, _, _, .own (a := b) (μ := μ0) cb r, 0, c, e => by
    simp at e; subst e
    exact ⟨b, [], μ0, rfl, rfl, cb, fun M' ρ' d' s p q => .val q (r.go (fun _ _ e n => ⟨.inl e, fun m => n (s _ m)⟩) p fun _ _ => rfl)⟩
  | _, _, _, .own (a := b) cb r, i + 1, c, e => by
    obtain ⟨a, m1, m2, h1, h2, h3, h4⟩ := SlR.frz r i c (by simpa using e)
    exact ⟨a, b :: m1, m2, by simp [h1], by simpa using h2, h3, fun M' ρ' d' s p q => .own (cb.go (fun _ _ e n => ⟨.inl e, fun m => n (s _ m)⟩) p rfl) (h4 M' ρ' d' s p q)⟩
end
section
variable {K : PySem.W.Frag} {N : Addr → Prop} {ρ μ : List Addr} {σ3 : S3} {h : HD} {σ : St} {H : Hp}
theorem mu_less {μ' : List Addr} (s : ∀ x ∈ μ', x ∈ μ) : ∀ a, Mu N ρ μ' a → Mu N ρ μ a := fun a m => m.imp id (Or.imp id (s a))
theorem Fr.setVal (fr : Fr K N ρ μ σ3 h σ H) {d : D} {v : V} (q : Rep K ρ H (Mu N ρ μ) d v) (i : Nat) : ∃ μ', Fr K N ρ μ' (σ3.set i (some (.val d))) h (σ.set i (some v)) H ∧ Ext N ρ μ H ρ μ' H := by
  obtain ⟨μ', h1, h2⟩ := fr.sl.setVal q i
  have s := mu_less (N := N) (ρ := ρ) fun x m => h2.subset m
  exact ⟨μ', ⟨h1.less s, fr.hp.less s, fr.nd.sublist ((List.Sublist.refl ρ).append h2), fun a n => ⟨(fr.nN a n).1, fun m => (fr.nN a n).2 (h2.subset m)⟩, fr.nT⟩, ⟨⟨[], by simp⟩, fun _ _ e _ => .inl e, fun _ _ => rfl, fun b o e n m => n (s b m)⟩⟩
/-- a new object that nothing holds yet -/
structure NewAt (K : PySem.W.Frag) (N : Addr → Prop) (ρ μ : List Addr) (σ3 : S3) (h : HD) (σ : St) (H : Hp) (c : Cell) (p : Addr) : Prop where
  no : ¬ Mu N ρ μ p
  fr : Fr K (fun a => N a ∨ a = p) ρ μ σ3 h σ H
  cell : CellR K ρ H (Mu (fun a => N a ∨ a = p) ρ μ) c p
theorem mu_n {p : Addr} : ∀ a, Mu N ρ μ a → Mu (fun a => N a ∨ a = p) ρ μ a := fun a m => m.imp .inl id
theorem Fr.lessN {p : Addr} (fr : Fr K (fun a => N a ∨ a = p) ρ μ σ3 h σ H) : Fr K N ρ μ σ3 h σ H :=
  ⟨fr.sl.less mu_n, fr.hp.less mu_n, fr.nd, fun a n => fr.nN a (.inl n), fun a n => fr.nT a (.inl n)⟩
/-- it is laid -/
theorem Fr.newAt (fr : Fr K N ρ μ σ3 h σ H) {p : Addr} (np : H p = none) {c : Cell} {o : HO} (hc : ∀ H', (∀ b u, H b = some u → ¬ Mu N ρ μ b → Stay u (H' b) ∧ ¬ Mu (fun a => N a ∨ a = p) ρ μ b) → H' p = some o → CellR K ρ H' (Mu (fun a => N a ∨ a = p) ρ μ) c p) : NewAt K N ρ μ σ3 h σ (upd H p o) c p ∧ Ext N ρ μ H ρ μ (upd H p o) := by
  have no := fr.new np
  have k : ∀ b u, H b = some u → ¬ Mu N ρ μ b → Stay u ((upd H p o) b) ∧ ¬ Mu (fun a => N a ∨ a = p) ρ μ b := fun b u e n => ⟨.inl (same_upd np o b u e), fun m => by
    rcases m with (m | m) | m
    · exact n (.inl m)
    · rw [m, np] at e; cases e
    · exact n (.inr m)⟩
  have own : ∀ a, a ∈ ρ ∨ a ∈ μ → (upd H p o) a = H a := fun a m => upd_ne fun e => no (e ▸ .inr m)
  refine ⟨⟨no, ⟨fr.sl.go k (fun _ _ e => e) fun a m => own a (.inr m), fr.hp.go k (fun _ _ e => e) fun a m => own a (.inl m), fr.nd, fun a n => ?_, fun a n => ?_⟩, hc _ k upd_same⟩, (fr.alloc np o).2⟩
  · rcases n with n | n
    · exact fr.nN a n
    · exact ⟨fun m => no (n ▸ .inr (.inl m)), fun m => no (n ▸ .inr (.inr m))⟩
  · rcases n with n | n
    · exact ((fr.alloc np o).1).nT a n
    · rw [n, upd_same]; simp
theorem NewAt.own {ρ0 μ0 : List Addr} {H0 : Hp} {c : Cell} {p : Addr} (n : NewAt K N ρ μ σ3 h σ H c p) (x : Ext N ρ0 μ0 H0 ρ μ H) (np : H0 p = none) (i : Nat) : ∃ μ', Fr K N ρ μ' (σ3.set i (some (.own c))) h (σ.set i (some (.ref p))) H ∧ Ext N ρ0 μ0 H0 ρ μ' H := by
  obtain ⟨μ', h1, h2, h3⟩ := n.fr.sl.setOwn n.cell i
  have s : ∀ a, Mu N ρ μ' a → Mu (fun a => N a ∨ a = p) ρ μ a := fun a m => by
    rcases m with m | m | m
    · exact .inl (.inl m)
    · exact .inr (.inl m)
    · rcases h2 a m with e | m
      · exact .inl (.inr e)
      · exact .inr (.inr m)
  have nd := List.nodup_append.mp n.fr.nd
  exact ⟨μ', ⟨h1.less s, n.fr.hp.less s, List.nodup_append.mpr ⟨nd.1, h3 nd.2.1 fun m => n.no (.inr (.inr m)), fun a m b m' e => by
    subst e
    rcases h2 a m' with e | m2
    · exact n.no (e ▸ .inr (.inl m))
    · exact nd.2.2 a m a m2 rfl⟩, fun a m => ⟨(n.fr.nN a (.inl m)).1, fun q => by
      rcases h2 a q with e | q
      · exact n.no (e ▸ .inl m)
      · exact (n.fr.nN a (.inl m)).2 q⟩, fun a m => n.fr.nT a (.inl m)⟩, ⟨x.pre, x.keep, x.kN, fun b o e q m => by
        rcases s b m with (m | m) | m
        · exact x.out b o e q (.inl m)
        · rw [m, np] at e; cases e
        · exact x.out b o e q (.inr m)⟩⟩
/-- .. put into the small heap -/
theorem NewAt.share {ρ0 μ0 : List Addr} {H0 : Hp} {c : Cell} {p : Addr} (n : NewAt K N ρ μ σ3 h σ H c p) (x : Ext N ρ0 μ0 H0 ρ μ H) (np : H0 p = none) : Fr K N (ρ ++ [p]) μ σ3 (h ++ [c]) σ H ∧ Ext N ρ0 μ0 H0 (ρ ++ [p]) μ H ∧ Rep K (ρ ++ [p]) H (Mu N (ρ ++ [p]) μ) (.ref h.length) (.ref p) := by
  have s : ∀ a, Mu N (ρ ++ [p]) μ a → Mu (fun a => N a ∨ a = p) ρ μ a := fun a m => by
    rcases m with m | m | m
    · exact .inl (.inl m)
    · rcases List.mem_append.mp m with m | m
      · exact .inr (.inl m)
      · exact .inl (.inr (by simpa using m))
    · exact .inr (.inr m)
  have k : ∀ b o, H b = some o → ¬ Mu (fun a => N a ∨ a = p) ρ μ b → Stay o (H b) ∧ ¬ Mu N (ρ ++ [p]) μ b := fun b o e q => ⟨.inl e, fun m => q (s b m)⟩
  have pr : ∀ (i : Nat) (a : Addr), ρ[i]? = some a → (ρ ++ [p])[i]? = some a := fun i a e => by rw [List.getElem?_append_left (List.getElem?_eq_some_iff.mp e).1]; exact e
  have cs : ∀ {h : HD} {l : List Addr}, CellsR K (ρ ++ [p]) H (Mu N (ρ ++ [p]) μ) h l → CellR K (ρ ++ [p]) H (Mu N (ρ ++ [p]) μ) c p → CellsR K (ρ ++ [p]) H (Mu N (ρ ++ [p]) μ) (h ++ [c]) (l ++ [p]) := by
    intro h l r q
    induction r with
    | nil => exact .cons q .nil
    | cons a _ ih => exact .cons a ih
  have nd := List.nodup_append.mp n.fr.nd
  refine ⟨⟨n.fr.sl.go k pr fun _ _ => rfl, cs (n.fr.hp.go k pr fun _ _ => rfl) (n.cell.go k pr rfl), ?_, fun a m => ⟨fun q => ?_, (n.fr.nN a (.inl m)).2⟩, fun a m => n.fr.nT a (.inl m)⟩, ⟨?_, x.keep, x.kN, fun b o e q m => ?_⟩, .ref ?_⟩
  · refine List.nodup_append.mpr ⟨List.nodup_append.mpr ⟨nd.1, by simp, fun a m b m' e => ?_⟩, nd.2.1, fun a m b m' e => ?_⟩
    · have : b = p := by simpa using m'
      exact n.no (.inr (.inl (this ▸ e ▸ m)))
    · rcases List.mem_append.mp m with m | m
      · exact nd.2.2 a m b m' e
      · have : a = p := by simpa using m
        exact n.no (.inr (.inr (this ▸ e ▸ m')))
  · rcases List.mem_append.mp q with q | q
    · exact (n.fr.nN a (.inl m)).1 q
    · have : a = p := by simpa using q
      exact n.no (.inl (this ▸ m))
  · obtain ⟨t, e⟩ := x.pre
    exact ⟨t ++ [p], by rw [e, List.append_assoc]⟩
  · rcases s b m with (m | m) | m
    · exact x.out b o e q (.inl m)
    · rw [m, np] at e; cases e
    · exact x.out b o e q (.inr m)
  · rw [← n.fr.len]; simp
/-- .. taken as a value that does not change -/
def cellV : Cell → Option D
  | .lst ds => some (.lst ds)
  | .dic kvs => some (.dic kvs)
  | .ins _ _ => none
theorem RepK.less {M M' : Addr → Prop} {d : List (Key × D)} {v : List (Key × V)} (r : RepK K ρ H M d v) (s : ∀ a, M' a → M a) : RepK K ρ H M' d v := r.go (fun _ _ e n => ⟨.inl e, fun m => n (s _ m)⟩) fun _ _ e => e
theorem cell_rep {M : Addr → Prop} {c : Cell} {p : Addr} (r : CellR K ρ H M c p) (n : ¬ M p) {d : D} (e : cellV c = some d) : Rep K ρ H M d (.ref p) := by
  cases c with
  | lst ds => cases e; obtain ⟨xs, h1, h2⟩ := r; exact .lst h1 n h2
  | dic ds => cases e; obtain ⟨xs, h1, h2⟩ := r; exact .dic (.inl h1) n h2
  | ins C fs => cases e
theorem NewAt.frz {c : Cell} {p : Addr} (n : NewAt K N ρ μ σ3 h σ H c p) {d : D} (e : cellV c = some d) : Fr K N ρ μ σ3 h σ H ∧ Rep K ρ H (Mu N ρ μ) d (.ref p) := ⟨n.fr.lessN, cell_rep (n.cell.less mu_n) n.no e⟩
/-- what was tracked is tracked -/
theorem Ext.was {ρ' : List Addr} {H' : Hp} {h' : HD} (x : Ext N ρ μ H ρ' μ H') (fr' : Fr K N ρ' μ σ3 h' σ H') {p : Addr} (e : H' p = none) : H p = none := by
  cases q : H p with
  | none => rfl
  | some o =>
    by_cases m : Mu N ρ μ p
    · refine absurd e (fr'.tracked ?_)
      rcases m with m | m | m
      · exact .inl m
      · obtain ⟨t, et⟩ := x.pre
        exact .inr (.inl (by rw [et]; exact List.mem_append_left _ m))
      · exact .inr (.inr m)
    · rcases x.keep p o q m with z | ⟨_, _, _, z⟩ <;> rw [z] at e <;> cases e
end
end T3

set_option Elab.async false
set_option linter.all false
set_option maxRecDepth 100000
set_option maxHeartbeats 2000000
namespace T3
open PySem L2

/-! ### an expression that makes a new object -/
def PostN (K : PySem.W.Frag) (N : Addr → Prop) (W : WX) (r : Res Cell) (ρ μ : List Addr) (σ3 : S3) (σ : St) (H : Hp) (Q : VK) : Prop := match r with
  | .ok c h' => ∀ ρ' H' p, Ext N ρ μ H ρ' μ H' → H p = none → NewAt K N ρ' μ σ3 h' σ H' c p → Q (.ref p) H'
  | .exc e h' => ∀ ρ' H' c d, Ext N ρ μ H ρ' μ H' → Fr K N ρ' μ σ3 h' σ H' → ExR K ρ' H' (Mu N ρ' μ) e c d → W c d σ H'
  | .stuck => False
def LiftN (K : PySem.W.Frag) (N : Addr → Prop) (W : WX) (f : F Cell) : TE := fun σ H Q => ∃ ρ μ σ3 h, Fr K N ρ μ σ3 h σ H ∧ PostN K N W (f σ3 h) ρ μ σ3 σ H Q
structure PN3 (X : Cx) (N : Addr → Prop) (W : WX) (e : Expr) (f : F Cell) : Prop where
  run : PE X e (LiftN X.K N W f)
section
variable {K : PySem.W.Frag} {N : Addr → Prop} {W : WX} {α β : Type} {R : RR α β} {ρ μ : List Addr} {σ3 : S3} {h : HD} {σ : St} {H : Hp}
theorem PostN.later {r : Res Cell} {Q : VK} {ρ' : List Addr} {H' : Hp} {h' : HD} (p : PostN K N W r ρ μ σ3 σ H Q) (x : Ext N ρ μ H ρ' μ H') (fr : Fr K N ρ' μ σ3 h' σ H') : PostN K N W r ρ' μ σ3 σ H' Q := by
  cases r with
  | ok a h' => exact fun ρ2 H2 b y f r => p ρ2 H2 b (x.trans y) (x.was fr f) r
  | exc e h' => exact fun ρ2 H2 c d y f r => p ρ2 H2 c d (x.trans y) f r
  | stuck => exact p
theorem bindN {f : F α} {k : α → F Cell} {Q : VK} (fr : Fr K N ρ μ σ3 h σ H) (p : PostN K N W (dBind f k σ3 h) ρ μ σ3 σ H Q) :
    Lift K N W R f σ H (fun b H1 => ∃ a ρ1 h1, Ext N ρ μ H ρ1 μ H1 ∧ Fr K N ρ1 μ σ3 h1 σ H1 ∧ R ρ1 μ σ3 σ H1 a b ∧ PostN K N W (k a σ3 h1) ρ1 μ σ3 σ H1 Q) := by
  refine ⟨ρ, μ, σ3, h, fr, ?_⟩
  cases q : f σ3 h with
  | ok a h' =>
    simp only [dBind, q] at p
    exact fun ρ' H' b x f r => ⟨a, ρ', h', x, f, r, PostN.later p x f⟩
  | exc e h' => simp only [dBind, q] at p; exact p
  | stuck => simp only [dBind, q] at p; exact p
theorem postN_res {d : D} {k : D → F Cell} {Q : VK} (p : PostN K N W (dBind (dRes d) k σ3 h) ρ μ σ3 σ H Q) : ∃ d', res σ3 h d = some d' ∧ PostN K N W (k d' σ3 h) ρ μ σ3 σ H Q := by
  cases q : res σ3 h d with
  | none => simp only [dBind, dRes, q] at p; exact p.elim
  | some d' => simp only [dBind, dRes, q] at p; exact ⟨d', rfl, p⟩
theorem postN_opt {γ : Type} {o : Option γ} {k : γ → F Cell} {Q : VK} (p : PostN K N W (dBind (dOpt o) k σ3 h) ρ μ σ3 σ H Q) : ∃ d', o = some d' ∧ PostN K N W (k d' σ3 h) ρ μ σ3 σ H Q := by
  cases o with
  | none => exact p.elim
  | some d' => exact ⟨d', rfl, p⟩
/-- the new object is laid now -/
theorem postN_ok {c : Cell} {Q : VK} (fr : Fr K N ρ μ σ3 h σ H) (q : PostN K N W (.ok c h) ρ μ σ3 σ H Q) {p : Addr} (np : H p = none) {o : HO}
    (hc : ∀ H', (∀ b u, H b = some u → ¬ Mu N ρ μ b → Stay u (H' b) ∧ ¬ Mu (fun a => N a ∨ a = p) ρ μ b) → H' p = some o → CellR K ρ H' (Mu (fun a => N a ∨ a = p) ρ μ) c p) : Q (.ref p) (upd H p o) := by
  obtain ⟨n, x⟩ := fr.newAt np hc
  exact q ρ _ p x np n
end
section
variable {X : Cx} {N : Addr → Prop} {W : WX}
/-- .. as a value that does not change -/
def dFrz (f : F Cell) : F D := dBind f fun c => dOpt (cellV c)
theorem e_frz {e : Expr} {f : F Cell} (h : PN3 X N W e f) : PE3 X N W e (dFrz f) := by
  refine ⟨pe_imp h.run fun σ H Q ⟨ρ, μ, σ3, h, fr, p⟩ => ⟨ρ, μ, σ3, h, fr, ?_⟩⟩
  cases q : f σ3 h with
  | ok c h' =>
    intro ρ' H' pa x np n
    simp only [dFrz, dBind, q] at p
    cases e : cellV c with
    | none => rw [e] at p; exact p.elim
    | some d =>
      rw [e] at p
      exact p ρ' H' _ x (n.frz e).1 (RX.of (n.frz e).2)
  | exc e h' => simp only [dFrz, dBind, q] at p; exact p
  | stuck => simp only [dFrz, dBind, q] at p; exact p
/-- .. put into the small heap -/
def dNewRef (f : F Cell) : F D := fun σ h => match f σ h with
  | .ok c h' => .ok (.ref h'.length) (h' ++ [c])
  | .exc e h' => .exc e h'
  | .stuck => .stuck
theorem e_newref {e : Expr} {f : F Cell} (h : PN3 X N W e f) : PE3 X N W e (dNewRef f) := by
  refine ⟨pe_imp h.run fun σ H Q ⟨ρ, μ, σ3, h, fr, p⟩ => ⟨ρ, μ, σ3, h, fr, ?_⟩⟩
  cases q : f σ3 h with
  | ok c h' =>
    intro ρ' H' pa x np n
    simp only [dNewRef, q] at p
    obtain ⟨a1, a2, a3⟩ := n.share x np
    exact p _ H' _ a2 a1 (RX.of a3)
  | exc e h' => simp only [dNewRef, q] at p; exact p
  | stuck => simp only [dNewRef, q] at p; exact p

/-! ### arguments, tuples, lists -/
def dNil : F (List D) := dPure []
def dCons (f : F D) (g : F (List D)) : F (List D) := dBind f fun a => dBind g fun as => dPure (a :: as)
theorem a_nil : PA3 X N W [] dNil := ⟨pa_imp pa_nil fun σ H Q ⟨ρ, μ, σ3, h, fr, p⟩ => post_ok fr p .nil⟩
theorem RXs.ext {K : PySem.W.Frag} {ρ ρ' μ : List Addr} {σ3 : S3} {σ : St} {H H' : Hp} {d : List D} {v : List V} (r : RXs K N ρ μ σ3 σ H d v) (x : Ext N ρ μ H ρ' μ H') : RXs K N ρ' μ σ3 σ H' d v := by
  induction r with
  | nil => exact .nil
  | cons a _ ih => exact .cons (RX.ext a x) ih
theorem a_cons {e : Expr} {es : List Expr} {f : F D} {g : F (List D)} (ha : PE3 X N W e f) (hr : PA3 X N W es g) (hs : starEach (e :: es) X.env = (false, eval e X.env) :: starEach es X.env := by rfl) : PA3 X N W (e :: es) (dCons f g) := by
  refine ⟨pa_imp (pa_cons ha.run hr.run hs) fun σ H Q ⟨ρ, μ, σ3, h, fr, p⟩ => ?_⟩
  refine Lift.mono (fun x H1 ⟨a, ρ1, h1, x1, fr1, r1, p1⟩ => ?_) (bindP fr p)
  refine Lift.mono (fun y H2 ⟨b, ρ2, h2, x2, fr2, r2, p2⟩ => ?_) (bindP fr1 p1)
  exact post_ok fr2 p2 (.cons (r1.ext x2) r2)
def clL : List D → Option (List D)
  | [] => some []
  | d :: ds => match cl d, clL ds with
    | some d, some ds => some (d :: ds)
    | _, _ => none
theorem RXs.clean {K : PySem.W.Frag} {ρ μ : List Addr} {σ3 : S3} {σ : St} {H : Hp} {ds : List D} {vs : List V} (r : RXs K N ρ μ σ3 σ H ds vs) : ∀ {es : List D}, clL ds = some es → RepL K ρ H (Mu N ρ μ) es vs := by
  induction r with
  | nil => intro es e; cases e; exact .nil
  | @cons d v ds vs a _ ih =>
    intro es e
    have e' : (match cl d, clL ds with | some d, some ds => some (d :: ds) | _, _ => none) = some es := e
    cases c1 : cl d with
    | none => rw [c1] at e'; cases e'
    | some d' =>
      cases c2 : clL ds with
      | none => rw [c1, c2] at e'; cases e'
      | some ds' =>
        rw [c1, c2] at e'
        cases e'
        obtain ⟨rfl, q⟩ := RX.clean a c1
        exact .cons q (ih c2)
def okLen {α : Type} (l : List α) : Option Unit := if l.length ≤ sizeLine then some () else none
theorem okLen_of {α : Type} {l : List α} {u : Unit} (h : okLen l = some u) : l.length ≤ sizeLine := by
  unfold okLen at h
  by_cases c : l.length ≤ sizeLine
  · exact c
  · rw [if_neg c] at h; cases h
def dTup (g : F (List D)) : F D := dBind g fun ds => dBind (dOpt (clL ds)) fun es => dBind (dOpt (okLen es)) fun _ => dPure (.tup es)
theorem e_tup {es : List Expr} {x1 pos} {g : F (List D)} (h : PA3 X N W es g) : PE3 X N W (.Tuple es x1 pos) (dTup g) := by
  refine ⟨pe_imp (pe_tup h.run) fun σ H Q ⟨ρ, μ, σ3, h, fr, p⟩ => ?_⟩
  refine Lift.mono (fun xs H1 ⟨ds, ρ1, h1, x1, fr1, r1, p1⟩ => ?_) (bindP fr p)
  obtain ⟨es, c, p2⟩ := post_opt p1
  obtain ⟨u, z, p3⟩ := post_opt p2
  have l := RXs.clean r1 c
  refine ⟨by rw [← l.length]; exact okLen_of z, fun a na => ?_⟩
  obtain ⟨f2, x2⟩ := fr1.alloc na (.tup xs)
  exact p3 ρ1 _ _ x2 f2 (RX.of (.tup (.inl ⟨.inl upd_same, fr1.new na⟩) (l.ext x2)))
def nLst (g : F (List D)) : F Cell := dBind g fun ds => dBind (dOpt (clL ds)) fun es => dBind (dOpt (okLen es)) fun _ => dPure (.lst es)
theorem n_lst {es : List Expr} {pos} {g : F (List D)} (h : PA3 X N W es g) : PN3 X N W (.List es pos) (nLst g) := by
  refine ⟨pe_imp (pe_lst h.run) fun σ H Q ⟨ρ, μ, σ3, h, fr, p⟩ => ?_⟩
  refine Lift.mono (fun xs H1 ⟨ds, ρ1, h1, x1, fr1, r1, p1⟩ => ?_) (bindN fr p)
  obtain ⟨es, c, p2⟩ := postN_opt p1
  obtain ⟨u, z, p3⟩ := postN_opt p2
  have l := RXs.clean r1 c
  exact ⟨by rw [← l.length]; exact okLen_of z, fun a na => postN_ok fr1 p3 na fun H' k e => ⟨xs, e, l.go k fun _ _ e => e⟩⟩
end

/-! ### statements -/
section
variable (K : PySem.W.Frag) (N : Addr → Prop) (W : WX)
def PostS (r : Fl) (ρ μ : List Addr) (H : Hp) (D : Ends) : Prop := match r with
  | .nx σ3' h' => ∀ ρ' μ' σ' H', Ext N ρ μ H ρ' μ' H' → Fr K N ρ' μ' σ3' h' σ' H' → D.nx σ' H'
  | .bk σ3' h' => ∀ ρ' μ' σ' H', Ext N ρ μ H ρ' μ' H' → Fr K N ρ' μ' σ3' h' σ' H' → D.bk σ' H'
  | .ct σ3' h' => ∀ ρ' μ' σ' H', Ext N ρ μ H ρ' μ' H' → Fr K N ρ' μ' σ3' h' σ' H' → D.ct σ' H'
  | .rt d h' => ∀ ρ' μ' σ3' σ' H' v, Ext N ρ μ H ρ' μ' H' → Fr K N ρ' μ' σ3' h' σ' H' → Rep K ρ' H' (Mu N ρ' μ') d v → D.rt v H'
  | .exc e σ3' h' => ∀ ρ' μ' σ' H' c d, Ext N ρ μ H ρ' μ' H' → Fr K N ρ' μ' σ3' h' σ' H' → ExR K ρ' H' (Mu N ρ' μ') e c d → W c d σ' H'
  | .stuck => False
def LS (g : G) : TS := fun D σ H => ∃ ρ μ σ3 h, Fr K N ρ μ σ3 h σ H ∧ PostS K N W (g σ3 h) ρ μ H D
end
structure PS3 (X : Cx) (N : Addr → Prop) (W : WX) (st : Stmt) (g : G) : Prop where
  run : PS X st (LS X.K N W g)
structure PSs3 (X : Cx) (N : Addr → Prop) (W : WX) (st : List Stmt) (g : G) : Prop where
  run : PSs X st (LS X.K N W g)
def gE {α : Type} (f : F α) (k : α → G) : G := fun σ h => match f σ h with
  | .ok a h' => k a σ h'
  | .exc e h' => .exc e σ h'
  | .stuck => .stuck
def gSeq (g g' : G) : G := fun σ h => match g σ h with
  | .nx σ' h' => g' σ' h'
  | r => r
def gNx : G := fun σ h => .nx σ h
section
variable {K : PySem.W.Frag} {N : Addr → Prop} {W : WX} {α β : Type} {R : RR α β} {ρ μ : List Addr} {σ3 : S3} {h : HD} {σ : St} {H : Hp} {D : Ends}
theorem PostS.later {r : Fl} {ρ' μ' : List Addr} {H' : Hp} (p : PostS K N W r ρ μ H D) (x : Ext N ρ μ H ρ' μ' H') : PostS K N W r ρ' μ' H' D := by
  cases r with
  | nx a h' => exact fun ρ2 μ2 σ2 H2 y f => p ρ2 μ2 σ2 H2 (x.trans y) f
  | bk a h' => exact fun ρ2 μ2 σ2 H2 y f => p ρ2 μ2 σ2 H2 (x.trans y) f
  | ct a h' => exact fun ρ2 μ2 σ2 H2 y f => p ρ2 μ2 σ2 H2 (x.trans y) f
  | rt a h' => exact fun ρ2 μ2 σ3 σ2 H2 v y f => p ρ2 μ2 σ3 σ2 H2 v (x.trans y) f
  | exc e a h' => exact fun ρ2 μ2 σ2 H2 c d y f => p ρ2 μ2 σ2 H2 c d (x.trans y) f
  | stuck => exact p
theorem bindS {f : F α} {k : α → G} (fr : Fr K N ρ μ σ3 h σ H) (p : PostS K N W (gE f k σ3 h) ρ μ H D) :
    Lift K N W R f σ H (fun b H1 => ∃ a ρ1 h1, Ext N ρ μ H ρ1 μ H1 ∧ Fr K N ρ1 μ σ3 h1 σ H1 ∧ R ρ1 μ σ3 σ H1 a b ∧ PostS K N W (k a σ3 h1) ρ1 μ H1 D) := by
  refine ⟨ρ, μ, σ3, h, fr, ?_⟩
  cases q : f σ3 h with
  | ok a h' => simp only [gE, q] at p; exact fun ρ' H' b x f r => ⟨a, ρ', h', x, f, r, PostS.later p x⟩
  | exc e h' => simp only [gE, q] at p; exact fun ρ' H' c d x f r => p ρ' μ σ H' c d x f r
  | stuck => simp only [gE, q] at p; exact p
theorem bindSN {f : F Cell} {k : Cell → G} (fr : Fr K N ρ μ σ3 h σ H) (p : PostS K N W (gE f k σ3 h) ρ μ H D) :
    LiftN K N W f σ H (fun b H1 => ∃ c ρ1 h1 a, b = .ref a ∧ H a = none ∧ Ext N ρ μ H ρ1 μ H1 ∧ NewAt K N ρ1 μ σ3 h1 σ H1 c a ∧ PostS K N W (k c σ3 h1) ρ μ H D) := by
  refine ⟨ρ, μ, σ3, h, fr, ?_⟩
  cases q : f σ3 h with
  | ok a h' => simp only [gE, q] at p; exact fun ρ' H' b x np n => ⟨a, ρ', h', b, rfl, np, x, n, p⟩
  | exc e h' => simp only [gE, q] at p; exact fun ρ' H' c d x f r => p ρ' μ σ H' c d x f r
  | stuck => simp only [gE, q] at p; exact p
theorem postS_opt {γ : Type} {o : Option γ} {k : γ → G} (p : PostS K N W (gE (dOpt o) k σ3 h) ρ μ H D) : ∃ d', o = some d' ∧ PostS K N W (k d' σ3 h) ρ μ H D := by
  cases o with
  | none => exact p.elim
  | some d' => exact ⟨d', rfl, p⟩
theorem postS_res {d : T3.D} {k : T3.D → G} (p : PostS K N W (gE (dRes d) k σ3 h) ρ μ H D) : ∃ d', res σ3 h d = some d' ∧ PostS K N W (k d' σ3 h) ρ μ H D := by
  cases q : res σ3 h d with
  | none => simp only [gE, dRes, q] at p; exact p.elim
  | some d' => simp only [gE, dRes, q] at p; exact ⟨d', rfl, p⟩
end
section
variable {X : Cx} {N : Addr → Prop} {W : WX}
theorem LiftN.mono {K : PySem.W.Frag} {f : F Cell} {σ : St} {H : Hp} {Q Q' : VK} (i : ∀ b H', Q b H' → Q' b H') (p : LiftN K N W f σ H Q) : LiftN K N W f σ H Q' := by
  obtain ⟨ρ, μ, σ3, h, fr, p⟩ := p
  refine ⟨ρ, μ, σ3, h, fr, ?_⟩
  cases q : f σ3 h with
  | ok a h' => rw [q] at p; exact fun ρ' H' b x n r => i _ _ (p ρ' H' b x n r)
  | exc e h' => rw [q] at p; exact p
  | stuck => rw [q] at p; exact p
theorem s_nil : PSs3 X N W [] gNx := ⟨pss_imp pss_nil fun D σ H ⟨ρ, μ, σ3, h, fr, p⟩ => p ρ μ σ H Ext.refl fr⟩
theorem s_cons {st : Stmt} {rest : List Stmt} {g g' : G} (h1 : PS3 X N W st g) (h2 : PSs3 X N W rest g') : PSs3 X N W (st :: rest) (gSeq g g') := by
  refine ⟨pss_imp (pss_cons h1.run h2.run) fun D σ H ⟨ρ, μ, σ3, h, fr, p⟩ => ⟨ρ, μ, σ3, h, fr, ?_⟩⟩
  cases q : g σ3 h with
  | nx a h' => simp only [gSeq, q] at p; exact fun ρ' μ' σ' H' x f => ⟨ρ', μ', a, h', f, PostS.later p x⟩
  | bk a h' => simp only [gSeq, q] at p; exact p
  | ct a h' => simp only [gSeq, q] at p; exact p
  | rt a h' => simp only [gSeq, q] at p; exact p
  | exc e a h' => simp only [gSeq, q] at p; exact p
  | stuck => simp only [gSeq, q] at p; exact p
theorem s_one {st : Stmt} {g : G} (h1 : PS3 X N W st g) : PSs3 X N W [st] g := ⟨pss_one h1.run⟩
/-- a change of view ahead of a statement, of a block -/
def GhOk (K : PySem.W.Frag) (N : Addr → Prop) (w : S3 → HD → Option (S3 × HD)) : Prop := ∀ ρ μ σ3 h σ H σ3' h', Fr K N ρ μ σ3 h σ H → w σ3 h = some (σ3', h') → ∃ ρ' μ', Fr K N ρ' μ' σ3' h' σ H ∧ Ext N ρ μ H ρ' μ' H
def gGh (w : S3 → HD → Option (S3 × HD)) (g : G) : G := fun σ h => match w σ h with
  | some (σ', h') => g σ' h'
  | none => .stuck
theorem gh_read {K : PySem.W.Frag} {w : S3 → HD → Option (S3 × HD)} (ok : GhOk K N w) {g : G} {D : Ends} {σ : St} {H : Hp} (q : LS K N W (gGh w g) D σ H) : LS K N W g D σ H := by
  obtain ⟨ρ, μ, σ3, h, fr, p⟩ := q
  cases e : w σ3 h with
  | none => simp only [gGh, e] at p; exact p.elim
  | some r =>
    obtain ⟨σ', h'⟩ := r
    simp only [gGh, e] at p
    obtain ⟨ρ', μ', f, x⟩ := ok _ _ _ _ _ _ _ _ fr e
    exact ⟨ρ', μ', σ', h', f, PostS.later p x⟩
theorem s_gh {st : Stmt} {g : G} {w : S3 → HD → Option (S3 × HD)} (ok : GhOk X.K N w) (h : PS3 X N W st g) : PS3 X N W st (gGh w g) := ⟨ps_imp h.run fun _ _ _ q => gh_read ok q⟩
theorem ss_gh {st : List Stmt} {g : G} {w : S3 → HD → Option (S3 × HD)} (ok : GhOk X.K N w) (h : PSs3 X N W st g) : PSs3 X N W st (gGh w g) := ⟨pss_imp h.run fun _ _ _ q => gh_read ok q⟩
/-- the slot's own object does not change any more -/
def wFrz (i : Nat) : S3 → HD → Option (S3 × HD) := fun σ h => match σ[i]? with
  | some (some (.own c)) => match cellV c with
    | some d => some (σ.set i (some (.val d)), h)
    | none => none
  | _ => none
theorem gh_frz (K : PySem.W.Frag) (i : Nat) : GhOk K N (wFrz i) := fun ρ μ σ3 h σ H σ3' h' fr e => by
  unfold wFrz at e
  split at e
  · rename_i c hc
    split at e
    · rename_i d hd
      cases e
      obtain ⟨a, m1, m2, em, ht, cr, go⟩ := fr.sl.frz i c hc
      subst em
      have s : ∀ x, Mu N ρ (m1 ++ m2) x → Mu N ρ (m1 ++ a :: m2) x := mu_less fun x m => by
        rcases List.mem_append.mp m with m | m
        · exact List.mem_append_left _ m
        · exact List.mem_append_right _ (List.mem_cons_of_mem _ m)
      have nd := List.nodup_append.mp fr.nd
      have nd2 := List.nodup_append.mp nd.2.1
      have na : ¬ Mu N ρ (m1 ++ m2) a := fun m => by
        rcases m with m | m | m
        · exact (fr.nN a m).2 (by simp)
        · exact nd.2.2 a m a (by simp) rfl
        · rcases List.mem_append.mp m with m | m
          · exact nd2.2.2 a m a List.mem_cons_self rfl
          · exact (List.nodup_cons.mp nd2.2.1).1 m
      have sub : (m1 ++ m2).Sublist (m1 ++ a :: m2) := (List.Sublist.refl m1).append (List.sublist_cons_self a m2)
      exact ⟨ρ, m1 ++ m2, ⟨go _ ρ d s (fun _ _ e => e) (cell_rep (cr.less s) na hd), fr.hp.less s, fr.nd.sublist ((List.Sublist.refl ρ).append sub), fun b m => ⟨(fr.nN b m).1, fun q => (fr.nN b m).2 (sub.subset q)⟩, fr.nT⟩,
        ⟨⟨[], by simp⟩, fun _ _ e _ => .inl e, fun _ _ => rfl, fun b o e n m => n (s b m)⟩⟩
    · cases e
  · cases e
/-! x = e -/
def gSet (i : Nat) (f : F D) : G := gE f fun d => gE (dOpt (cl d)) fun d => fun σ h => .nx (σ.set i (some (.val d))) h
theorem s_set {i : Nat} {x : Str} {e : Expr} {f : F D} {pos' pos : Pos} (hN : X.N.Nodup) (hi : X.N[i]? = some x) (hx : Loc X.env.scope x) (he : PE3 X N W e f) (hs : swapsWith e (some (.Name x pos')) pos.line X.env = pure false := by rfl)
    (hf : X.fn x = true ∨ X.env.scope.names.lookup x = some .local := by first | exact .inl rfl | exact .inr rfl | assumption) : PS3 X N W (.Assign [.Name x pos'] e pos) (gSet i f) := by
  refine ⟨ps_imp (ps_set hN hi hx he.run hs hf) fun D σ H ⟨ρ, μ, σ3, h, fr, p⟩ => ?_⟩
  refine Lift.mono (fun v H1 ⟨d, ρ1, h1, x1, fr1, r1, p1⟩ => ?_) (bindS fr p)
  obtain ⟨d', c, p2⟩ := postS_opt p1
  obtain ⟨rfl, q⟩ := RX.clean r1 c
  obtain ⟨μ', f2, x2⟩ := fr1.setVal q i
  exact p2 ρ1 μ' _ _ x2 f2
def gNew (i : Nat) (f : F Cell) : G := gE f fun c => fun σ h => .nx (σ.set i (some (.own c))) h
theorem s_new {i : Nat} {x : Str} {e : Expr} {f : F Cell} {pos' pos : Pos} (hN : X.N.Nodup) (hi : X.N[i]? = some x) (hx : Loc X.env.scope x) (he : PN3 X N W e f) (hs : swapsWith e (some (.Name x pos')) pos.line X.env = pure false := by rfl)
    (hf : X.fn x = true ∨ X.env.scope.names.lookup x = some .local := by first | exact .inl rfl | exact .inr rfl | assumption) : PS3 X N W (.Assign [.Name x pos'] e pos) (gNew i f) := by
  refine ⟨ps_imp (ps_set hN hi hx he.run hs hf) fun D σ H ⟨ρ, μ, σ3, h, fr, p⟩ => ?_⟩
  refine LiftN.mono (fun v H1 ⟨c, ρ1, h1, a, ev, np, x1, n, p1⟩ => ?_) (bindSN fr p)
  subst ev
  obtain ⟨μ', f2, x2⟩ := n.own x1 np i
  exact p1 ρ1 μ' _ _ x2 f2
def gRet (f : F D) : G := gE f fun d => gE (dOpt (cl d)) fun d => fun _ h => .rt d h
theorem s_ret {e : Expr} {f : F D} {pos : Pos} (he : PE3 X N W e f) : PS3 X N W (.Return (some e) pos) (gRet f) := by
  refine ⟨ps_imp (ps_ret he.run) fun D σ H ⟨ρ, μ, σ3, h, fr, p⟩ => ?_⟩
  refine Lift.mono (fun v H1 ⟨d, ρ1, h1, x1, fr1, r1, p1⟩ => ?_) (bindS fr p)
  obtain ⟨d', c, p2⟩ := postS_opt p1
  obtain ⟨rfl, q⟩ := RX.clean r1 c
  exact p2 ρ1 μ _ _ _ _ Ext.refl fr1 q
def gRetN : G := fun _ h => .rt .non h
theorem s_retN {pos : Pos} : PS3 X N W (.Return none pos) gRetN := ⟨ps_imp ps_retN fun D σ H ⟨ρ, μ, σ3, h, fr, p⟩ => p ρ μ _ _ _ _ Ext.refl fr .non⟩
def gExpr (f : F D) : G := gE f fun _ => gNx
theorem s_expr {e : Expr} {f : F D} {pos : Pos} (he : PE3 X N W e f) (hs : swapsWith e none pos.line X.env = pure false := by rfl) : PS3 X N W (.Expr e pos) (gExpr f) := by
  refine ⟨ps_imp (ps_expr he.run hs) fun D σ H ⟨ρ, μ, σ3, h, fr, p⟩ => ?_⟩
  exact Lift.mono (fun v H1 ⟨d, ρ1, h1, x1, fr1, r1, p1⟩ => p1 ρ1 μ _ _ Ext.refl fr1) (bindS fr p)
def gIf (t : F Bool) (g g' : G) : G := gE t fun c => if c then g else g'
theorem s_if {c : Expr} {a b : List Stmt} {t : F Bool} {g g' : G} {pos : Pos} (hc : PT3 X N W c t) (ha : PSs3 X N W a g) (hb : PSs3 X N W b g') : PS3 X N W (.If c a b pos) (gIf t g g') := by
  refine ⟨ps_imp (ps_if hc.run ha.run hb.run) fun D σ H ⟨ρ, μ, σ3, h, fr, p⟩ => ?_⟩
  refine Lift.mono (fun v H1 ⟨d, ρ1, h1, x1, fr1, r1, p1⟩ => ?_) (bindS fr p)
  cases r1
  cases v with
  | true => exact ⟨ρ1, μ, σ3, h1, fr1, p1⟩
  | false => exact ⟨ρ1, μ, σ3, h1, fr1, p1⟩
def gBk : G := fun σ h => .bk σ h
def gCt : G := fun σ h => .ct σ h
theorem s_pass {pos : Pos} : PS3 X N W (.Pass pos) gNx := ⟨ps_imp ps_pass fun D σ H ⟨ρ, μ, σ3, h, fr, p⟩ => p ρ μ σ H Ext.refl fr⟩
theorem s_break {pos : Pos} : PS3 X N W (.Break pos) gBk := ⟨ps_imp ps_break fun D σ H ⟨ρ, μ, σ3, h, fr, p⟩ => p ρ μ σ H Ext.refl fr⟩
theorem s_continue {pos : Pos} : PS3 X N W (.Continue pos) gCt := ⟨ps_imp ps_continue fun D σ H ⟨ρ, μ, σ3, h, fr, p⟩ => p ρ μ σ H Ext.refl fr⟩
end

/-! ### a def: from its arguments and the small heap -/
abbrev DF := List D → HD → Res D
/-- the state at a call, without slots -/
abbrev FrH (K : PySem.W.Frag) (N : Addr → Prop) (ρ : List Addr) (h : HD) (H : Hp) : Prop := Fr K N ρ [] [] h [] H
def PostF (K : PySem.W.Frag) (N : Addr → Prop) (r : Res D) (ρ : List Addr) (H : Hp) (Q : VK) (E : XK) : Prop := match r with
  | .ok d h' => ∀ ρ' H' v, Ext N ρ [] H ρ' [] H' → FrH K N ρ' h' H' → Rep K ρ' H' (Mu N ρ' []) d v → Q v H'
  | .exc e h' => ∀ ρ' H' c d, Ext N ρ [] H ρ' [] H' → FrH K N ρ' h' H' → ExR K ρ' H' (Mu N ρ' []) e c d → E c d H'
  | .stuck => False
def SpD (K : PySem.W.Frag) (n : Nat) (f : DF) : Sp := fun vs H Q E => ∃ N ρ h ds, FrH K N ρ h H ∧ RepL K ρ H (Mu N ρ []) ds vs ∧ ds.length = n ∧ PostF K N (f ds h) ρ H Q E
/-- the body of a def, run at its arguments -/
def bodyD (n : Nat) (g : G) : DF := fun ds h => match g (ds.map (fun d => some (.val d)) ++ List.replicate (n - ds.length) none) h with
  | .nx _ h' => .ok .non h'
  | .rt d h' => .ok d h'
  | .exc e _ h' => .exc e h'
  | _ => .stuck
section
variable {K : PySem.W.Frag} {N : Addr → Prop} {ρ μ : List Addr} {σ3 : S3} {h : HD} {σ : St} {H : Hp}
theorem Fr.bare (fr : Fr K N ρ μ σ3 h σ H) : FrH K N ρ h H := by
  have s : ∀ a, Mu N ρ [] a → Mu N ρ μ a := mu_less fun x m => by cases m
  exact ⟨.nil, fr.hp.less s, by rw [List.append_nil]; exact (List.nodup_append.mp fr.nd).1, fun a n => ⟨(fr.nN a n).1, by simp⟩, fr.nT⟩
theorem Ext.bare {μ' : List Addr} {ρ' : List Addr} {H' : Hp} (x : Ext N ρ [] H ρ' μ' H') : Ext N ρ [] H ρ' [] H' := ⟨x.pre, x.keep, x.kN, fun b o e n m => x.out b o e n (mu_less (μ := μ') (fun x m => by cases m) b m)⟩
theorem slr_start : ∀ {ds : List D} {vs : List V} {n m : Nat}, RepL K ρ H (Mu N ρ []) ds vs → SlR K ρ H (Mu N ρ []) (ds.map (fun d => some (.val d)) ++ List.replicate n none) (vs.map some ++ List.replicate n none) []
  | _, _, n, m, .nil => by
    show SlR K ρ H _ (List.replicate n none) (List.replicate n none) []
    induction n with
    | zero => exact .nil
    | succ n ih => exact .none (ih)
  | _, _, n, m, .cons r l => .val r (slr_start (m := m) l)
end
section
variable {P : Program} {w : World} {K : PySem.W.Frag} {mg : Str → Option Value} {base : Heap}
/-- THE RULE for a def: its body's denotation -/
theorem okD {x qual : Str} {st : Stmt} {f : Addr} {fd : FuncData} {NN ps : List Str} {k : Nat} {g : G} (F : Fun K x qual st f fd) (S : FnScope NN ps (defScope st))
    (hbody : ∀ (cdv : Value) (A : Around) (outer : List Env) (s : Shared) (H : Hp) (E : XK) (N : Addr → Prop), Room k (A.deeper (PyProof.Rows.envOfC qual (defScope st) s.heap.objs.size f cdv)) →
      Takes (cxOf (L2.CX P w) P w K mg base NN qual (defScope st) f cdv A outer s H E) (fun cls d _ H => E cls d H) →
      PSs3 (cxOf (L2.CX P w) P w K mg base NN qual (defScope st) f cdv A outer s H E) N (fun cls d _ H => E cls d H) (defBody st) g) :
    FnOk P w K mg base (L2.CX P w) (k + 1) f fd ps (SpD K ps.length (bodyD NN.length g)) := by
  refine F.okX S (fun vs H Q E h => ?_) (fun cdv A outer s H vs Q E hr h => ?_)
  · obtain ⟨N, ρ, h, ds, fr, l, e, _⟩ := h
    rw [← l.length]; exact e
  obtain ⟨N, ρ, h, ds, fr, l, e, p⟩ := h
  refine ⟨_, (hbody cdv A outer s H E N hr (takes_of rfl rfl rfl rfl)).run, ρ, [], ds.map (fun d => some (.val d)) ++ List.replicate (NN.length - ds.length) none, h, ⟨?_, fr.hp, fr.nd, fr.nN, fr.nT⟩, ?_⟩
  · show SlR K ρ H (Mu N ρ []) (ds.map (fun d => some (.val d)) ++ List.replicate (NN.length - ds.length) none) (L2.start NN vs) []
    have e2 : L2.start NN vs = vs.map some ++ List.replicate (NN.length - ds.length) none := by unfold L2.start; rw [l.length]
    rw [e2]
    exact slr_start (m := 0) l
  · unfold bodyD at p
    cases q : g (ds.map (fun d => some (.val d)) ++ List.replicate (NN.length - ds.length) none) h with
    | nx a h' => rw [q] at p; exact fun ρ' μ' σ' H' x f => p ρ' H' _ x.bare f.bare .non
    | bk a h' => rw [q] at p; exact p.elim
    | ct a h' => rw [q] at p; exact p.elim
    | rt d h' => rw [q] at p; exact fun ρ' μ' σ3' σ' H' v x f r => p ρ' H' v x.bare f.bare (r.less (mu_less fun x m => by cases m))
    | exc e a h' =>
      rw [q] at p
      refine fun ρ' μ' σ' H' c d x f r => p ρ' H' c d x.bare f.bare ?_
      cases r with
      | mk a n l => exact .mk a (fun m => n (mu_less (fun x m => by cases m) _ m)) (l.go (fun _ _ e n => ⟨.inl e, fun m => n (mu_less (fun x m => by cases m) _ m)⟩) fun _ _ e => e)
    | stuck => rw [q] at p; exact p.elim
end
/-! ### a call -/
section
variable {K : PySem.W.Frag} {N : Addr → Prop} {ρ μ : List Addr} {σ3 : S3} {h : HD} {σ : St} {H : Hp}
/-- what the callee must keep -/
abbrev NC (N : Addr → Prop) (μ : List Addr) : Addr → Prop := fun a => N a ∨ a ∈ μ
theorem mu_call (a : Addr) : Mu (NC N μ) ρ [] a ↔ Mu N ρ μ a := by
  constructor
  · rintro ((m | m) | m | m)
    · exact .inl m
    · exact .inr (.inr m)
    · exact .inr (.inl m)
    · cases m
  · rintro (m | m | m)
    · exact .inl (.inl m)
    · exact .inr (.inl m)
    · exact .inl (.inr m)
theorem Fr.call (fr : Fr K N ρ μ σ3 h σ H) : FrH K (NC N μ) ρ h H := by
  have nd := List.nodup_append.mp fr.nd
  refine ⟨.nil, fr.hp.less fun a m => (mu_call a).mp m, by rw [List.append_nil]; exact nd.1, fun a n => ⟨?_, by simp⟩, fun a n => ?_⟩
  · rcases n with n | n
    · exact (fr.nN a n).1
    · exact fun m => nd.2.2 a m a n rfl
  · rcases n with n | n
    · exact fr.nT a n
    · exact fr.tracked (.inr (.inr n))
theorem Fr.back {ρ' : List Addr} {H' : Hp} {h' : HD} (fr : Fr K N ρ μ σ3 h σ H) (x : Ext (NC N μ) ρ [] H ρ' [] H') (f : FrH K (NC N μ) ρ' h' H') : Fr K N ρ' μ σ3 h' σ H' ∧ Ext N ρ μ H ρ' μ H' := by
  have k : ∀ b o, H b = some o → ¬ Mu N ρ μ b → Stay o (H' b) ∧ ¬ Mu N ρ' μ b := fun b o e n =>
    ⟨x.keep b o e fun m => n ((mu_call b).mp m), fun m => x.out b o e (fun q => n ((mu_call b).mp q)) ((mu_call b).mpr m)⟩
  have own : ∀ a ∈ μ, H' a = H a := fun a m => x.kN a (.inr m)
  refine ⟨⟨fr.sl.go k x.p own, f.hp.less fun a m => (mu_call a).mpr m, ?_, fun a n => ⟨(f.nN a (.inl n)).1, (fr.nN a n).2⟩, fun a n => f.nT a (.inl n)⟩, ⟨x.pre, fun b o e n => (k b o e n).1, fun b n => x.kN b (.inl n), fun b o e n => (k b o e n).2⟩⟩
  · have nd := List.nodup_append.mp fr.nd
    exact List.nodup_append.mpr ⟨by have := f.nd; rwa [List.append_nil] at this, nd.2.1, fun a m b m' e => (f.nN b (.inr m')).1 (e ▸ m)⟩
theorem post_call {W : WX} {r : Res D} {Q : VK} (fr : Fr K N ρ μ σ3 h σ H) (p : Post K N W (RX K N) r ρ μ σ3 σ H Q) : PostF K (NC N μ) r ρ H Q (WE W σ) := by
  cases r with
  | ok d h' =>
    intro ρ' H' v x f r
    obtain ⟨f2, x2⟩ := fr.back x f
    exact p ρ' H' v x2 f2 (RX.of (r.less fun a m => (mu_call a).mpr m))
  | exc e h' =>
    intro ρ' H' c d x f r
    obtain ⟨f2, x2⟩ := fr.back x f
    refine p ρ' H' c d x2 f2 ?_
    cases r with
    | mk a n l => exact .mk a (fun m => n ((mu_call _).mpr m)) (l.go (fun _ _ e n => ⟨.inl e, fun m => n ((mu_call _).mpr m)⟩) fun _ _ e => e)
  | stuck => exact p.elim
end
section
variable {X : Cx} {N : Addr → Prop} {W : WX} {k : Nat} {f : Addr} {fd : FuncData} {ps : List Str} {F1 : DF} {x : Str} {p pos : Pos} {e : Expr} {es : List Expr} {t : F (List D)}
def dCall (n : Nat) (f : DF) (t : F (List D)) : F D := dBind t fun ds => dBind (dOpt (clL ds)) fun es => fun σ h => if es.length = n then f es h else .stuck
theorem e_call (Fo : FnOk X.prog X.w X.K X.mg X.base (L2.CX X.prog X.w) k f fd ps (SpD X.K ps.length F1)) (tk : Takes X W) (hr : Room k X.A) (hg : Gl X x) (hm : X.mg x = some (.ref f)) (hk : PySem.W.keepIn X.K (.ref f) = true) (hb : Binds X.K fd ps [])
    (ha : PA3 X N W (e :: es) t) (hdb : (x == ("__debug__" : Str)) = false := by decide) (he : starEach (e :: es) X.env = (false, eval e X.env) :: starEach es X.env := by rfl) (hpl : (backTo pos (starEach es X.env)).any (·.1) = false := by rfl) :
    PE3 X N W (.Call (.Name x p) (e :: es) [] pos) (dCall ps.length F1 t) := by
  refine ⟨pe_imp (pe_callS Fo hr hg hm hk hb (passAt tk) ha.run hdb he hpl) fun σ H Q ⟨ρ, μ, σ3, h, fr, p⟩ => ?_⟩
  refine Lift.mono (fun vs H1 ⟨ds, ρ1, h1, x1, fr1, r1, p1⟩ => ?_) (bindP fr p)
  obtain ⟨es', c, p2⟩ := post_opt p1
  have l := RXs.clean r1 c
  by_cases hn : es'.length = ps.length
  · refine ⟨NC N μ, ρ1, h1, es', fr1.call, l.less fun a m => (mu_call a).mp m, hn, ?_⟩
    rw [if_pos hn] at p2
    exact post_call fr1 p2
  · rw [if_neg hn] at p2
    exact p2.elim
end
end T3

set_option Elab.async false
set_option linter.all false
set_option maxRecDepth 100000
set_option maxHeartbeats 2000000
namespace T3
open PySem L2

/-! ### what is walked: the items, and whether they still stand -/
structure Wk where
  items : List D
  good : S3 → HD → Bool
abbrev always : S3 → HD → Bool := fun _ _ => true
/-- the walk J gives the items, from this state on -/
def WkR (K : PySem.W.Frag) (N : Addr → Prop) (ρ μ : List Addr) (H : Hp) (w : Wk) (J : It) : Prop := ∃ (Gd : Hp → Prop) (Y : Nat → Hp → V → Hp → Prop), Walk J w.items.length Gd Y ∧
  ∀ N' ρ2 μ2 σ3 h2 σ H2, (∀ a, N a → N' a) → Ext N ρ μ H ρ2 μ2 H2 → Fr K N' ρ2 μ2 σ3 h2 σ H2 → (∀ a, Mu N' ρ2 μ2 a → Mu N ρ2 μ2 a ∨ H a = none) → w.good σ3 h2 = true → Gd H2 ∧ ∀ i x H3 (hi : i < w.items.length), Y i H2 x H3 → (∀ b o, H2 b = some o → H3 b = some o) ∧ Rep K ρ2 H3 (Mu N' ρ2 μ2) w.items[i] x
def PostI (K : PySem.W.Frag) (N : Addr → Prop) (W : WX) (r : Res Wk) (ρ μ : List Addr) (σ3 : S3) (σ : St) (H : Hp) (R : It → Hp → Prop) : Prop := match r with
  | .ok w h' => ∀ ρ' H' J, Ext N ρ μ H ρ' μ H' → Fr K N ρ' μ σ3 h' σ H' → WkR K N ρ' μ H' w J → R J H'
  | .exc e h' => ∀ ρ' H' c d, Ext N ρ μ H ρ' μ H' → Fr K N ρ' μ σ3 h' σ H' → ExR K ρ' H' (Mu N ρ' μ) e c d → W c d σ H'
  | .stuck => False
def LiftI (K : PySem.W.Frag) (N : Addr → Prop) (W : WX) (f : F Wk) : TI := fun σ H R => ∃ ρ μ σ3 h, Fr K N ρ μ σ3 h σ H ∧ PostI K N W (f σ3 h) ρ μ σ3 σ H R
structure PI3 (X : Cx) (N : Addr → Prop) (W : WX) (tg iter : Expr) (f : F Wk) : Prop where
  run : PI X tg iter (LiftI X.K N W f)
section
variable {K : PySem.W.Frag} {N : Addr → Prop} {W : WX} {α β : Type} {R : RR α β} {ρ μ : List Addr} {σ3 : S3} {h : HD} {σ : St} {H : Hp}
theorem PostI.later {r : Res Wk} {Q : It → Hp → Prop} {ρ' : List Addr} {H' : Hp} (p : PostI K N W r ρ μ σ3 σ H Q) (x : Ext N ρ μ H ρ' μ H') : PostI K N W r ρ' μ σ3 σ H' Q := by
  cases r with
  | ok a h' => exact fun ρ2 H2 b y f r => p ρ2 H2 b (x.trans y) f r
  | exc e h' => exact fun ρ2 H2 c d y f r => p ρ2 H2 c d (x.trans y) f r
  | stuck => exact p
theorem bindI {f : F α} {k : α → F Wk} {Q : It → Hp → Prop} (fr : Fr K N ρ μ σ3 h σ H) (p : PostI K N W (dBind f k σ3 h) ρ μ σ3 σ H Q) :
    Lift K N W R f σ H (fun b H1 => ∃ a ρ1 h1, Ext N ρ μ H ρ1 μ H1 ∧ Fr K N ρ1 μ σ3 h1 σ H1 ∧ R ρ1 μ σ3 σ H1 a b ∧ PostI K N W (k a σ3 h1) ρ1 μ σ3 σ H1 Q) := by
  refine ⟨ρ, μ, σ3, h, fr, ?_⟩
  cases q : f σ3 h with
  | ok a h' => simp only [dBind, q] at p; exact fun ρ' H' b x f r => ⟨a, ρ', h', x, f, r, PostI.later p x⟩
  | exc e h' => simp only [dBind, q] at p; exact p
  | stuck => simp only [dBind, q] at p; exact p
end
section
variable {X : Cx} {N : Addr → Prop} {W : WX} {tg : Expr}
theorem pi_imp {iter : Expr} {t t' : TI} (h : PI X tg iter t) (i : ∀ σ H Q, t' σ H Q → t σ H Q) : PI X tg iter t' := ⟨fun pins s σ H Q I q => h.run pins s σ H Q I (i _ _ _ q)⟩
/-- a value that is there later, with further addresses that may change -/
theorem Rep.later {K : PySem.W.Frag} {N N' : Addr → Prop} {ρ ρ2 μ μ2 : List Addr} {H H2 : Hp} {d : D} {v : V} (r : Rep K ρ H (Mu N ρ μ) d v) (x : Ext N ρ μ H ρ2 μ2 H2) (m : ∀ a, Mu N' ρ2 μ2 a → Mu N ρ2 μ2 a ∨ H a = none) : Rep K ρ2 H2 (Mu N' ρ2 μ2) d v :=
  r.go (fun b o e n => ⟨x.keep b o e n, fun q => by
    rcases m b q with q | q
    · exact x.out b o e n q
    · rw [e] at q; cases q⟩) x.p
/-- over a list, a tuple -/
def seqOf : D → Option (List D)
  | .lst ds => some ds
  | .tup ds => some ds
  | _ => none
def iSeq (f : F D) : F Wk := dBind f fun a => dBind (dOpt (seqOf a)) fun ds => dPure ⟨ds, always⟩
theorem wk_lst {K : PySem.W.Frag} {ρ μ : List Addr} {H : Hp} {ds : List D} {a : Addr} (r : Rep K ρ H (Mu N ρ μ) (.lst ds) (.ref a)) : (∃ xs, SqL K H a xs) ∧ WkR K N ρ μ H ⟨ds, always⟩ (Itl K a) := by
  obtain ⟨a', xs, e, f, l⟩ := (Vw.rep r).lst'
  cases e
  refine ⟨⟨xs, SqL.of f⟩, fun H => SqL K H a xs, YAt xs, ?_, ?_⟩
  · show Walk _ ds.length _ _
    rw [l.length]; exact walk_list
  · intro N' ρ2 μ2 σ3 h2 σ H2 _ x fr m _
    have r2 := r.later x m
    have f2 : H2 a = some (.lst xs) := by
      cases r with
      | lst e n _ => rw [f] at e; cases e; exact (x.keep a _ f n).eq fun _ e => by cases e
    obtain ⟨a', xs', e, f3, l3⟩ := (Vw.rep r2).lst'
    cases e
    rw [f2] at f3; cases f3
    refine ⟨SqL.of f2, fun i v H3 hi y => ?_⟩
    obtain ⟨e1, e2⟩ := y
    subst e1
    refine ⟨fun _ _ q => q, ?_⟩
    obtain ⟨hj, rfl⟩ := List.getElem?_eq_some_iff.mp e2
    exact l3.at i hi hj
theorem wk_tup {K : PySem.W.Frag} {ρ μ : List Addr} {H : Hp} {ds : List D} {a : Addr} (r : Rep K ρ H (Mu N ρ μ) (.tup ds) (.ref a)) : (∃ xs, SqT K H a xs) ∧ WkR K N ρ μ H ⟨ds, always⟩ (Itt K a) := by
  cases r with
  | @tup _ xs _ fz l =>
    have sq : ∀ {H : Hp} {M : Addr → Prop}, ((Rd H a (.tup xs) ∧ ¬ M a) ∨ SqT K (fun _ => none) a xs) → SqT K H a xs := fun f => by
      rcases f with ⟨f, _⟩ | f
      · exact .inl f
      · rcases f with f | f
        · rcases f with f | ⟨o, f⟩ <;> cases f
        · exact .inr f
    refine ⟨⟨xs, sq fz⟩, fun H => SqT K H a xs, YAt xs, ?_, ?_⟩
    · show Walk _ ds.length _ _
      rw [l.length]; exact walk_tup
    · intro N' ρ2 μ2 σ3 h2 σ H2 _ x fr m _
      have k : ∀ b o, H b = some o → ¬ Mu N ρ μ b → Stay o (H2 b) ∧ ¬ Mu N' ρ2 μ2 b := fun b o e n => ⟨x.keep b o e n, fun q => by
        rcases m b q with q | q
        · exact x.out b o e n q
        · rw [e] at q; cases q⟩
      have fz2 : (Rd H2 a (.tup xs) ∧ ¬ Mu N' ρ2 μ2 a) ∨ SqT K (fun _ => none) a xs := fz.imp (FzStay k fun _ e => by cases e) id
      have l3 := l.go k x.p
      refine ⟨sq fz2, fun i v H3 hi y => ?_⟩
      obtain ⟨e1, e2⟩ := y
      subst e1
      refine ⟨fun _ _ q => q, ?_⟩
      obtain ⟨hj, rfl⟩ := List.getElem?_eq_some_iff.mp e2
      exact l3.at i hi hj
theorem i_lst {e : Expr} {f : F D} (he : PE3 X N W e f) : PI3 X N W tg e (dBind f fun a => match a with | .lst ds => dPure ⟨ds, always⟩ | _ => dStuck) := by
  refine ⟨pi_imp (pi_list he.run) fun σ H R ⟨ρ, μ, σ3, h, fr, p⟩ => ?_⟩
  refine Lift.mono (fun v H1 ⟨a, ρ1, h1, x1, fr1, r1, p1⟩ => ?_) (bindI fr p)
  cases a with
  | lst ds =>
    have r1' : Rep X.K ρ1 H1 (Mu N ρ1 μ) (.lst ds) v := r1
    cases r1' with
    | lst e n l =>
      obtain ⟨q, w⟩ := wk_lst (.lst e n l)
      exact ⟨_, rfl, q, p1 ρ1 H1 _ Ext.refl fr1 w⟩
  | _ => exact p1.elim
theorem i_tup {e : Expr} {f : F D} (he : PE3 X N W e f) : PI3 X N W tg e (dBind f fun a => match a with | .tup ds => dPure ⟨ds, always⟩ | _ => dStuck) := by
  refine ⟨pi_imp (pi_tup he.run) fun σ H R ⟨ρ, μ, σ3, h, fr, p⟩ => ?_⟩
  refine Lift.mono (fun v H1 ⟨a, ρ1, h1, x1, fr1, r1, p1⟩ => ?_) (bindI fr p)
  cases a with
  | tup ds =>
    have r1' : Rep X.K ρ1 H1 (Mu N ρ1 μ) (.tup ds) v := r1
    cases r1' with
    | tup e l =>
      obtain ⟨q, w⟩ := wk_tup (.tup e l)
      exact ⟨_, rfl, q, p1 ρ1 H1 _ Ext.refl fr1 w⟩
  | _ => exact p1.elim
/-! over range(n), range(a, b) -/
def rngD (lo : Int) (n : Nat) : List D := (List.range n).map fun i => .int (lo + (i : Nat))
theorem wk_rng {K : PySem.W.Frag} {ρ μ : List Addr} {H : Hp} {lo : Int} {n : Nat} : WkR K N ρ μ H ⟨rngD lo n, always⟩ (Itr lo n) := by
  have hn : (rngD lo n).length = n := by simp [rngD]
  refine ⟨fun _ => True, YFn fun i => .int (lo + i), by rw [hn]; exact walk_range, ?_⟩
  intro N' ρ2 μ2 σ3 h2 σ H2 _ x fr m _
  refine ⟨trivial, fun i v H3 hi y => ?_⟩
  obtain ⟨e1, e2⟩ := y
  subst e1 e2
  refine ⟨fun _ _ q => q, ?_⟩
  have : (rngD lo n)[i] = .int (lo + (i : Nat)) := by simp [rngD]
  rw [show (⟨rngD lo n, always⟩ : Wk).items[i] = (rngD lo n)[i] from rfl, this]
  exact .int _
def inR (j : Int) : Bool := decide (-(2 ^ 62) ≤ j) && decide (j < 2 ^ 62)
theorem inR_of {j : Int} (h : inR j = true) : -(2 ^ 62) ≤ j ∧ j < 2 ^ 62 := by
  simp only [inR, Bool.and_eq_true, decide_eq_true_eq] at h; exact h
def intOf : D → Option Int
  | .int i => some i
  | _ => none
def kRng1 (ds : List D) : F Wk := match ds with
  | [d] => dBind (dOpt (intOf d)) fun j => dBind (dOpt (if inR j then some () else none)) fun _ => dPure ⟨rngD 0 j.toNat, always⟩
  | _ => dStuck
def kRng2 (ds : List D) : F Wk := match ds with
  | [d, e] => dBind (dOpt (intOf d)) fun i => dBind (dOpt (intOf e)) fun j => dBind (dOpt (if inR i && inR j then some () else none)) fun _ => dPure ⟨rngD i (j - i).toNat, always⟩
  | _ => dStuck
theorem intOf_ok {K : PySem.W.Frag} {ρ μ : List Addr} {σ3 : S3} {σ : St} {H : Hp} {d : D} {v : V} {i : Int} (r : RX K N ρ μ σ3 σ H d v) (h : intOf d = some i) : v = .int i := by
  cases d with
  | int c => cases h; cases r; rfl
  | _ => cases h
theorem postI_opt {K : PySem.W.Frag} {ρ μ : List Addr} {σ3 : S3} {h : HD} {σ : St} {H : Hp} {γ : Type} {o : Option γ} {k : γ → F Wk} {Q : It → Hp → Prop} (p : PostI K N W (dBind (dOpt o) k σ3 h) ρ μ σ3 σ H Q) : ∃ d', o = some d' ∧ PostI K N W (k d' σ3 h) ρ μ σ3 σ H Q := by
  cases o with
  | none => exact p.elim
  | some d' => exact ⟨d', rfl, p⟩
theorem cond_of {b : Bool} {u : Unit} (h : (if b then some () else none) = some u) : b = true := by
  cases b with
  | true => rfl
  | false => cases h
theorem i_range1 {a : Expr} {t : F (List D)} {p pos : Pos} (hg : Gl X "range") (hm : X.mg "range" = none) (ha : PA3 X N W [a] t) (hs : starEach [a] X.env = [(false, eval a X.env)] := by rfl) : PI3 X N W tg (.Call (.Name "range" p) [a] [] pos) (dBind t kRng1) := by
  refine ⟨pi_imp (pi_range1 hg hm ha.run hs) fun σ H R ⟨ρ, μ, σ3, h, fr, p⟩ => ?_⟩
  refine Lift.mono (fun vs H1 ⟨ds, ρ1, h1, x1, fr1, r1, p1⟩ => ?_) (bindI fr p)
  cases r1 with
  | nil => exact p1.elim
  | cons r rr =>
    cases rr with
    | cons _ _ => exact p1.elim
    | nil =>
      obtain ⟨j, e, p2⟩ := postI_opt p1
      obtain ⟨u, c, p3⟩ := postI_opt p2
      have c := cond_of c
      exact ⟨j, by rw [intOf_ok r e], (inR_of c).1, (inR_of c).2, p3 ρ1 H1 _ Ext.refl fr1 wk_rng⟩
theorem i_range2 {a b : Expr} {t : F (List D)} {p pos : Pos} (hg : Gl X "range") (hm : X.mg "range" = none) (ha : PA3 X N W [a, b] t) (hs : starEach [a, b] X.env = [(false, eval a X.env), (false, eval b X.env)] := by rfl) (hs2 : starEach [b] X.env = [(false, eval b X.env)] := by rfl) : PI3 X N W tg (.Call (.Name "range" p) [a, b] [] pos) (dBind t kRng2) := by
  refine ⟨pi_imp (pi_range2 hg hm ha.run hs hs2) fun σ H R ⟨ρ, μ, σ3, h, fr, p⟩ => ?_⟩
  refine Lift.mono (fun vs H1 ⟨ds, ρ1, h1, x1, fr1, r1, p1⟩ => ?_) (bindI fr p)
  cases r1 with
  | nil => exact p1.elim
  | cons r rr =>
    cases rr with
    | nil => exact p1.elim
    | cons r' rr =>
      cases rr with
      | cons _ _ => exact p1.elim
      | nil =>
        obtain ⟨i, e, p2⟩ := postI_opt p1
        obtain ⟨j, e', p3⟩ := postI_opt p2
        obtain ⟨u, c, p4⟩ := postI_opt p3
        have c' := Bool.and_eq_true_iff.mp (cond_of c)
        exact ⟨i, j, by rw [intOf_ok r e, intOf_ok r' e'], ⟨(inR_of c'.1).1, (inR_of c'.1).2, (inR_of c'.2).1, (inR_of c'.2).2⟩, p4 ρ1 H1 _ Ext.refl fr1 wk_rng⟩

/-! ### targets -/
abbrev Tg := D → S3 → Option S3
abbrev Tgs := List D → S3 → Option S3
/-- no slot's own object at these slots -/
def isOwn (σ : S3) (v : Nat) : Bool := match σ[v]? with
  | some (some (.own _)) => true
  | _ => false
def wOk (σ : S3) (vs : List Nat) : Bool := vs.all fun v => !isOwn σ v
def wipe3 (σ : S3) : List Nat → S3
  | [] => σ
  | v :: vs => (wipe3 σ vs).set v none
def setIf (i : Nat) (d : D) (σ : S3) : Option S3 := if isOwn σ i then none else some (σ.set i (some (.val d)))
theorem isOwn_set {σ : S3} {i v : Nat} {d : D} (h : isOwn σ v = false) : isOwn (σ.set i (some (.val d))) v = false := by
  unfold isOwn at h ⊢
  by_cases e : i = v
  · subst e
    by_cases l : i < σ.length
    · rw [List.getElem?_set_self l]
    · rw [List.getElem?_eq_none (by simpa using l)]
  · rw [List.getElem?_set_ne e]; exact h
theorem wOk_set {σ : S3} {i : Nat} {d : D} {vs : List Nat} (h : wOk σ vs = true) : wOk (σ.set i (some (.val d))) vs = true := by
  unfold wOk at h ⊢
  rw [List.all_eq_true] at h ⊢
  intro v m
  have := h v m
  rw [Bool.not_eq_true'] at this ⊢
  exact isOwn_set this
theorem set_set_ne {α : Type} {l : List α} {i j : Nat} {a b : α} (h : i ≠ j) : (l.set i a).set j b = (l.set j b).set i a := List.set_comm _ _ h
theorem wipe3_set {σ : S3} {i : Nat} {x : Option Slot} : ∀ {vs : List Nat}, i ∈ vs → wipe3 (σ.set i x) vs = wipe3 σ vs
  | v :: vs, h => by
    by_cases m : i ∈ vs
    · show (wipe3 (σ.set i x) vs).set v none = (wipe3 σ vs).set v none
      rw [wipe3_set m]
    · have e : i = v := by simpa [m] using h
      subst e
      have go : ∀ ws : List Nat, i ∉ ws → wipe3 (σ.set i x) ws = (wipe3 σ ws).set i x := by
        intro ws
        induction ws with
        | nil => intro _; rfl
        | cons w ws ih =>
          intro hm
          have h1 : i ≠ w := fun e => hm (e ▸ List.mem_cons_self)
          have h2 : i ∉ ws := fun m => hm (List.mem_cons_of_mem _ m)
          show (wipe3 (σ.set i x) ws).set w none = ((wipe3 σ ws).set w none).set i x
          rw [ih h2, List.set_comm _ _ h1]
      show (wipe3 (σ.set i x) vs).set i none = (wipe3 σ vs).set i none
      rw [go vs m, List.set_set]
theorem wipe_set {σ : L2.St} {i : Nat} {x : Option V} : ∀ {vs : List Nat}, i ∈ vs → wipe (σ.set i x) vs = wipe σ vs
  | v :: vs, h => by
    by_cases m : i ∈ vs
    · show (wipe (σ.set i x) vs).set v none = (wipe σ vs).set v none
      rw [wipe_set m]
    · have e : i = v := by simpa [m] using h
      subst e
      have go : ∀ ws : List Nat, i ∉ ws → wipe (σ.set i x) ws = (wipe σ ws).set i x := by
        intro ws
        induction ws with
        | nil => intro _; rfl
        | cons w ws ih =>
          intro hm
          have h1 : i ≠ w := fun e => hm (e ▸ List.mem_cons_self)
          have h2 : i ∉ ws := fun m => hm (List.mem_cons_of_mem _ m)
          show (wipe (σ.set i x) ws).set w none = ((wipe σ ws).set w none).set i x
          rw [ih h2, List.set_comm _ _ h1]
      show (wipe (σ.set i x) vs).set i none = (wipe σ vs).set i none
      rw [go vs m, List.set_set]
/-- what a store to names leaves -/
structure TgD (t : Tg) (is : List Nat) : Prop where
  ok : ∀ d σ σ' vs, t d σ = some σ' → wOk σ vs = true → wOk σ' vs = true
  wp : ∀ d σ σ' vs, t d σ = some σ' → (∀ i ∈ is, i ∈ vs) → wipe3 σ' vs = wipe3 σ vs
structure TgsD (t : Tgs) (is : List Nat) : Prop where
  ok : ∀ d σ σ' vs, t d σ = some σ' → wOk σ vs = true → wOk σ' vs = true
  wp : ∀ d σ σ' vs, t d σ = some σ' → (∀ i ∈ is, i ∈ vs) → wipe3 σ' vs = wipe3 σ vs
structure TgOk (K : PySem.W.Frag) (N : Addr → Prop) (g : TG) (t : Tg) (is : List Nat) : Prop where
  d : TgD t is
  run : ∀ ρ μ σ3 h σ H d v σ3' (Q : L2.St → Hp → Prop), Fr K N ρ μ σ3 h σ H → Rep K ρ H (Mu N ρ μ) d v → t d σ3 = some σ3' → (∀ σ', Fr K N ρ μ σ3' h σ' H → (∀ vs : List Nat, (∀ i ∈ is, i ∈ vs) → wipe σ' vs = wipe σ vs) → Q σ' H) → g v σ H Q
structure TgsOk (K : PySem.W.Frag) (N : Addr → Prop) (g : TGs) (t : Tgs) (is : List Nat) : Prop where
  d : TgsD t is
  run : ∀ ρ μ σ3 h σ H ds vs σ3' (Q : L2.St → Hp → Prop), Fr K N ρ μ σ3 h σ H → RepL K ρ H (Mu N ρ μ) ds vs → t ds σ3 = some σ3' → (∀ σ', Fr K N ρ μ σ3' h σ' H → (∀ vs : List Nat, (∀ i ∈ is, i ∈ vs) → wipe σ' vs = wipe σ vs) → Q σ' H) → g vs σ H Q
theorem SlR.setVal' {K : PySem.W.Frag} {ρ : List Addr} {H : Hp} {M : Addr → Prop} {x : Option Slot} {o : Option V} (q : x = Option.none ∨ ∃ d v, x = some (.val d) ∧ o = some v ∧ Rep K ρ H M d v) : ∀ {s : S3} {t : L2.St} {μ : List Addr}, SlR K ρ H M s t μ → ∀ i : Nat, isOwn s i = false → SlR K ρ H M (s.set i x) (t.set i o) μ
  | _, _, _, .nil, i, _ => .nil
  | _, _, _, .none r, 0, _ => by
    rcases q with rfl | ⟨d, v, rfl, rfl, q⟩
    · exact .none r
    · exact .val q r
  | _, _, _, .val _ r, 0, _ => by
    rcases q with rfl | ⟨d, v, rfl, rfl, q⟩
    · exact .none r
    · exact .val q r
  | _, _, _, .own c r, 0, h => by cases h
  | _, _, _, .none r, i + 1, h => .none (SlR.setVal' q r i (by simpa [isOwn] using h))
  | _, _, _, .val d r, i + 1, h => .val d (SlR.setVal' q r i (by simpa [isOwn] using h))
  | _, _, _, .own c r, i + 1, h => .own c (SlR.setVal' q r i (by simpa [isOwn] using h))
def tgName (i : Nat) : Tg := fun d σ => setIf i d σ
theorem setIf_of {i : Nat} {d : D} {σ σ' : S3} (h : setIf i d σ = some σ') : isOwn σ i = false ∧ σ' = σ.set i (some (.val d)) := by
  unfold setIf at h
  cases c : isOwn σ i with
  | true => rw [c] at h; cases h
  | false => rw [c] at h; cases h; exact ⟨rfl, rfl⟩
theorem g_name {K : PySem.W.Frag} (i : Nat) : TgOk K N (gName i) (tgName i) [i] where
  d := ⟨fun d σ σ' vs h k => by rw [(setIf_of h).2]; exact wOk_set k, fun d σ σ' vs h k => by rw [(setIf_of h).2]; exact wipe3_set (k i (by simp))⟩
  run := fun ρ μ σ3 h σ H d v σ3' Q fr r e q => by
    obtain ⟨o, rfl⟩ := setIf_of e
    exact q _ ⟨fr.sl.setVal' (.inr ⟨d, v, rfl, rfl, r⟩) i o, fr.hp, fr.nd, fr.nN, fr.nT⟩ fun vs k => wipe_set (k i (by simp))
def tgsNil : Tgs := fun ds σ => match ds with
  | [] => some σ
  | _ => none
def tgsCons (t : Tg) (u : Tgs) : Tgs := fun ds σ => match ds with
  | [] => none
  | d :: ds => (t d σ).bind (u ds)
theorem gs_nil {K : PySem.W.Frag} : TgsOk K N gNil tgsNil [] where
  d := ⟨fun d σ σ' vs h k => (by cases d with | nil => cases h; exact k | cons => cases h), fun d σ σ' vs h k => (by cases d with | nil => cases h; rfl | cons => cases h)⟩
  run := fun ρ μ σ3 h σ H d v σ3' Q fr r e q => by
    cases d with
    | nil => cases e; cases r; exact ⟨rfl, q σ fr fun _ _ => rfl⟩
    | cons => cases e
theorem gs_cons {K : PySem.W.Frag} {g : TG} {gs : TGs} {t : Tg} {u : Tgs} {is js : List Nat} (a : TgOk K N g t is) (b : TgsOk K N gs u js) : TgsOk K N (gCons g gs) (tgsCons t u) (is ++ js) where
  d := by
    have go : ∀ d σ σ', tgsCons t u d σ = some σ' → ∃ d0 ds σ1, d = d0 :: ds ∧ t d0 σ = some σ1 ∧ u ds σ1 = some σ' := fun d σ σ' h => by
      cases d with
      | nil => cases h
      | cons d0 ds =>
        have h' : (t d0 σ).bind (u ds) = some σ' := h
        cases w : t d0 σ with
        | none => rw [w] at h'; cases h'
        | some σ1 => rw [w] at h'; exact ⟨d0, ds, σ1, rfl, w, h'⟩
    refine ⟨fun d σ σ' vs h k => ?_, fun d σ σ' vs h k => ?_⟩
    · obtain ⟨d0, ds, σ1, rfl, h1, h2⟩ := go d σ σ' h
      exact b.d.ok _ _ _ vs h2 (a.d.ok _ _ _ vs h1 k)
    · obtain ⟨d0, ds, σ1, rfl, h1, h2⟩ := go d σ σ' h
      rw [b.d.wp _ _ _ vs h2 fun i m => k i (List.mem_append_right _ m), a.d.wp _ _ _ vs h1 fun i m => k i (List.mem_append_left _ m)]
  run := fun ρ μ σ3 h σ H ds vs σ3' Q fr r e q => by
    cases ds with
    | nil => cases e
    | cons d ds =>
      cases r with
      | cons r l =>
        have e' : (t d σ3).bind (u ds) = some σ3' := e
        cases w : t d σ3 with
        | none => rw [w] at e'; cases e'
        | some σ4 =>
          rw [w] at e'
          exact ⟨_, _, rfl, a.run ρ μ σ3 h σ H d _ σ4 _ fr r w fun σ' f k1 => b.run ρ μ σ4 h σ' H ds _ σ3' Q f l e' fun σ'' f2 k2 => q σ'' f2 fun vs k => (k2 vs fun i m => k i (List.mem_append_right _ m)).trans (k1 vs fun i m => k i (List.mem_append_left _ m))⟩
def tgTup (n : Nat) (u : Tgs) : Tg := fun d σ => match d with
  | .tup ds => if ds.length = n then u ds σ else none
  | _ => none
theorem tgTup_of {n : Nat} {u : Tgs} {d : D} {σ σ' : S3} (h : tgTup n u d σ = some σ') : ∃ ds, d = .tup ds ∧ ds.length = n ∧ u ds σ = some σ' := by
  cases d with
  | tup ds =>
    have e' : (if ds.length = n then u ds σ else none) = some σ' := h
    by_cases c : ds.length = n
    · rw [if_pos c] at e'; exact ⟨ds, rfl, c, e'⟩
    · rw [if_neg c] at e'; cases e'
  | _ => cases h
theorem g_tup {K : PySem.W.Frag} {n : Nat} {gs : TGs} {u : Tgs} {is : List Nat} (b : TgsOk K N gs u is) : TgOk K N (gTup K n gs) (tgTup n u) is where
  d := ⟨fun d σ σ' vs h k => by
      obtain ⟨ds, rfl, _, h⟩ := tgTup_of h
      exact b.d.ok _ _ _ vs h k, fun d σ σ' vs h k => by
      obtain ⟨ds, rfl, _, h⟩ := tgTup_of h
      exact b.d.wp _ _ _ vs h k⟩
  run := fun ρ μ σ3 h σ H d v σ3' Q fr r e q => by
    obtain ⟨ds, rfl, c, e'⟩ := tgTup_of e
    obtain ⟨a, xs, ev, f, l⟩ := (Vw.rep r).tup
    exact ⟨a, xs, ev, f, by rw [← l.length]; exact c, b.run ρ μ σ3 h σ H ds xs σ3' Q fr l e' q⟩

/-! ### for -/
def forF (good : S3 → HD → Bool) (tg : Tg) (body : G) : List D → G
  | [] => fun σ h => if good σ h then .nx σ h else .stuck
  | x :: xs => fun σ h => if good σ h then match tg x σ with
    | none => .stuck
    | some σ1 => match body σ1 h with
      | .nx σ' h' => forF good tg body xs σ' h'
      | .ct σ' h' => forF good tg body xs σ' h'
      | .bk σ' h' => .nx σ' h'
      | r => r
    else .stuck
def gFor (f : F Wk) (tg : Tg) (body : G) : G := gE f fun w => forF w.good tg body w.items
theorem bindSI {K : PySem.W.Frag} {f : F Wk} {k : Wk → G} {ρ μ : List Addr} {σ3 : S3} {h : HD} {σ : St} {H : Hp} {D : Ends} {R : It → Hp → Prop} (fr : Fr K N ρ μ σ3 h σ H) (p : PostS K N W (gE f k σ3 h) ρ μ H D)
    (q : ∀ w ρ1 h1 H1 J, Ext N ρ μ H ρ1 μ H1 → Fr K N ρ1 μ σ3 h1 σ H1 → WkR K N ρ1 μ H1 w J → PostS K N W (k w σ3 h1) ρ1 μ H1 D → R J H1) : LiftI K N W f σ H R := by
  refine ⟨ρ, μ, σ3, h, fr, ?_⟩
  cases e : f σ3 h with
  | ok a h' => simp only [gE, e] at p; exact fun ρ' H' b x f r => q a ρ' h' H' b x f r (PostS.later p x)
  | exc e' h' => simp only [gE, e] at p; exact fun ρ' H' c d x f r => p ρ' μ σ H' c d x f r
  | stuck => simp only [gE, e] at p; exact p
theorem s_for {iter : Expr} {body : List Stmt} {f : F Wk} {g : TG} {t : Tg} {b : G} {pos : Pos} (hp : PassesOwn (model X.prog X.w) X.A X.env X.xe) (hc : X.calm = true) (hi : PI3 X N W tg iter f) (hg : PG X tg g) {is : List Nat} (ht : TgOk X.K N g t is) (hb : PSs3 X N W body b)
    (hs : ∀ x, foldedSetIterable iter X.env x = pure x := by intro _; rfl) : PS3 X N W (.For tg iter body [] pos) (gFor f t b) := by
  refine ⟨ps_imp (ps_for hp hc hi.run hg hb.run hs) fun D σ H ⟨ρ, μ, σ3, h, fr, p⟩ => ?_⟩
  refine bindSI fr p fun w ρ1 h1 H1 J x1 fr1 wk p1 => ?_
  obtain ⟨Gd, Y, wj, wk⟩ := wk
  let Pv : Nat → St → Hp → Prop := fun i σ' H' => ∃ ρ' μ' σ3' h', Ext N ρ1 μ H1 ρ' μ' H' ∧ Fr X.K N ρ' μ' σ3' h' σ' H' ∧ PostS X.K N W (forF w.good t b (w.items.drop i) σ3' h') ρ' μ' H' D
  have good : ∀ i σ' H', Pv i σ' H' → ∃ ρ' μ' σ3' h', Ext N ρ1 μ H1 ρ' μ' H' ∧ Fr X.K N ρ' μ' σ3' h' σ' H' ∧ PostS X.K N W (forF w.good t b (w.items.drop i) σ3' h') ρ' μ' H' D ∧ w.good σ3' h' = true := by
    rintro i σ' H' ⟨ρ', μ', σ3', h', x, f, p⟩
    refine ⟨ρ', μ', σ3', h', x, f, p, ?_⟩
    cases c : w.good σ3' h' with
    | true => rfl
    | false =>
      cases q : w.items.drop i with
      | nil => rw [q] at p; simp only [forF, c] at p; exact p.elim
      | cons y ys => rw [q] at p; simp only [forF, c] at p; exact p.elim
  refine for_it wj Pv ⟨ρ1, μ, σ3, h1, Ext.refl, fr1, p1⟩ (fun i σ' H' _ q => ?_) (fun i x σ' H' H'' hi q y => ?_) (fun σ' H' q => ?_)
  · obtain ⟨ρ', μ', σ3', h', x, f, p, c⟩ := good i σ' H' q
    exact (wk N ρ' μ' σ3' h' σ' H' (fun _ n => n) x f (fun a m => .inl m) c).1
  · obtain ⟨ρ', μ', σ3', h', x', f, p, c⟩ := good i σ' H' q
    obtain ⟨sm, r⟩ := (wk N ρ' μ' σ3' h' σ' H' (fun _ n => n) x' f (fun a m => .inl m) c).2 i x H'' hi y
    obtain ⟨f2, x2⟩ := f.same sm
    rw [List.drop_eq_getElem_cons hi] at p
    simp only [forF, c, if_true] at p
    cases e : t w.items[i] σ3' with
    | none => rw [e] at p; exact p.elim
    | some σ4 =>
      simp only [e] at p
      refine ht.run ρ' μ' σ3' h' σ' H'' _ x σ4 _ f2 r e fun σ5 f3 _ => ?_
      refine ⟨ρ', μ', σ4, h', f3, ?_⟩
      cases q : b σ4 h' with
      | nx a h'' => rw [q] at p; exact fun ρ4 μ4 σ6 H4 x4 f4 => ⟨ρ4, μ4, a, h'', x'.trans (x2.trans x4), f4, PostS.later p (x2.trans x4)⟩
      | ct a h'' => rw [q] at p; exact fun ρ4 μ4 σ6 H4 x4 f4 => ⟨ρ4, μ4, a, h'', x'.trans (x2.trans x4), f4, PostS.later p (x2.trans x4)⟩
      | bk a h'' => rw [q] at p; exact fun ρ4 μ4 σ6 H4 x4 f4 => p ρ4 μ4 σ6 H4 (x2.trans x4) f4
      | rt a h'' => rw [q] at p; exact fun ρ4 μ4 s4 σ6 H4 v x4 f4 => p ρ4 μ4 s4 σ6 H4 v (x2.trans x4) f4
      | exc e a h'' => rw [q] at p; exact fun ρ4 μ4 σ6 H4 c d x4 f4 => p ρ4 μ4 σ6 H4 c d (x2.trans x4) f4
      | stuck => rw [q] at p; exact p
  · obtain ⟨ρ', μ', σ3', h', x, f, p, c⟩ := good _ σ' H' q
    rw [List.drop_length] at p
    simp only [forF, c, if_true] at p
    exact p ρ' μ' σ' H' Ext.refl f
/-! ### while -/
def whileF (t : F Bool) (body : G) : Nat → G
  | 0 => fun _ _ => .stuck
  | n + 1 => fun σ h => match t σ h with
    | .ok true h' => match body σ h' with
      | .nx σ' h'' => whileF t body n σ' h''
      | .ct σ' h'' => whileF t body n σ' h''
      | .bk σ' h'' => .nx σ' h''
      | r => r
    | .ok false h' => .nx σ h'
    | .exc e h' => .exc e σ h'
    | .stuck => .stuck
theorem s_while (n : Nat) {c : Expr} {body : List Stmt} {t : F Bool} {b : G} {pos : Pos} (hp : PassesOwn (model X.prog X.w) X.A X.env X.xe) (hc : PT3 X N W c t) (hb : PSs3 X N W body b) : PS3 X N W (.While c body [] pos) (whileF t b n) := by
  refine ⟨ps_imp (ps_while hp hc.run hb.run) fun D σ H ⟨ρ, μ, σ3, h, fr, p⟩ => ?_⟩
  refine ⟨fun m σ' H' => ∃ ρ' μ' σ3' h', Ext N ρ μ H ρ' μ' H' ∧ Fr X.K N ρ' μ' σ3' h' σ' H' ∧ PostS X.K N W (whileF t b m σ3' h') ρ' μ' H' D, ⟨n, ρ, μ, σ3, h, Ext.refl, fr, p⟩, ?_⟩
  rintro m σ' H' ⟨ρ', μ', σ3', h', x, f, p⟩
  cases m with
  | zero => exact p.elim
  | succ m =>
    refine ⟨ρ', μ', σ3', h', f, ?_⟩
    cases q : t σ3' h' with
    | ok v h'' =>
      simp only [whileF, q] at p
      intro ρ2 H2 v' x2 f2 r2
      cases r2
      cases v with
      | false => exact p ρ2 μ' σ' H2 x2 f2
      | true =>
        dsimp only at p
        refine ⟨_, fun σ'' H'' n => ⟨m, Nat.lt_succ_self m, n⟩, ρ2, μ', σ3', h'', f2, ?_⟩
        cases q : b σ3' h'' with
        | nx a h'' => rw [q] at p; exact fun ρ4 μ4 σ6 H4 x4 f4 => ⟨ρ4, μ4, a, h'', x.trans (x2.trans x4), f4, PostS.later p (x2.trans x4)⟩
        | ct a h'' => rw [q] at p; exact fun ρ4 μ4 σ6 H4 x4 f4 => ⟨ρ4, μ4, a, h'', x.trans (x2.trans x4), f4, PostS.later p (x2.trans x4)⟩
        | bk a h'' => rw [q] at p; exact fun ρ4 μ4 σ6 H4 x4 f4 => p ρ4 μ4 σ6 H4 (x2.trans x4) f4
        | rt a h'' => rw [q] at p; exact fun ρ4 μ4 s4 σ6 H4 v x4 f4 => p ρ4 μ4 s4 σ6 H4 v (x2.trans x4) f4
        | exc e a h'' => rw [q] at p; exact fun ρ4 μ4 σ6 H4 c d x4 f4 => p ρ4 μ4 σ6 H4 c d (x2.trans x4) f4
        | stuck => rw [q] at p; exact p
    | exc e h'' =>
      simp only [whileF, q] at p
      exact fun ρ2 H2 c d x2 f2 r2 => p ρ2 μ' σ' H2 c d x2 f2 r2
    | stuck => simp only [whileF, q] at p; exact p
end
end T3

set_option Elab.async false
set_option linter.all false
set_option maxRecDepth 100000
set_option maxHeartbeats 2000000
namespace T3
open PySem L2

/-! ### [elt for x in xs if c] -/
inductive W3 : S3 → S3 → L2.St → L2.St → Prop
  | nil : W3 [] [] [] []
  | keep {x : Option Slot} {o : Option V} {s s' : S3} {t t' : L2.St} : W3 s s' t t' → W3 (x :: s) (x :: s') (o :: t) (o :: t')
  | drop {x : Option Slot} {o o' : Option V} {s s' : S3} {t t' : L2.St} : (∀ c, x ≠ some (.own c)) → W3 s s' t t' → W3 (x :: s) (none :: s') (o :: t) (o' :: t')
theorem W3.refl : ∀ {s : S3} {t : L2.St}, s.length = t.length → W3 s s t t
  | [], [], _ => .nil
  | [], _ :: _, h => by cases h
  | _ :: _, [], h => by cases h
  | _ :: s, _ :: t, h => .keep (W3.refl (by simpa using h))
theorem W3.set : ∀ {s s' : S3} {t t' : L2.St}, W3 s s' t t' → ∀ (v : Nat), isOwn s v = false → W3 s (s'.set v none) t (t'.set v none)
  | _, _, _, _, .nil, v, _ => .nil
  | _, _, _, _, .keep r, 0, h => .drop (fun c e => by subst e; cases h) r
  | _, _, _, _, .drop n r, 0, h => .drop n r
  | _, _, _, _, .keep r, v + 1, h => .keep (W3.set r v (by simpa [isOwn] using h))
  | _, _, _, _, .drop n r, v + 1, h => .drop n (W3.set r v (by simpa [isOwn] using h))
theorem W3.wipe {s : S3} {t : L2.St} (l : s.length = t.length) : ∀ {vs : List Nat}, wOk s vs = true → W3 s (wipe3 s vs) t (wipe t vs)
  | [], _ => W3.refl l
  | v :: vs, h => by
    unfold wOk at h
    rw [List.all_cons, Bool.and_eq_true, Bool.not_eq_true'] at h
    exact (W3.wipe l h.2).set v h.1
section
variable {K : PySem.W.Frag} {ρ ρ' : List Addr} {H H' : Hp} {M M' : Addr → Prop}
theorem SlR.merge (k : ∀ b o, H b = some o → ¬ M b → Stay o (H' b) ∧ ¬ M' b) (p : ∀ (i : Nat) (a : Addr), ρ[i]? = some a → ρ'[i]? = some a) : ∀ {s s' : S3} {t t' : L2.St} {μ μ' : List Addr}, W3 s s' t t' → SlR K ρ H M s t μ → SlR K ρ' H' M' s' t' μ' → SlR K ρ' H' M' s t μ'
  | _, _, _, _, _, _, .nil, .nil, .nil => .nil
  | _, _, _, _, _, _, .keep r, .none a, .none b => .none (SlR.merge k p r a b)
  | _, _, _, _, _, _, .keep r, .val _ a, .val d b => .val d (SlR.merge k p r a b)
  | _, _, _, _, _, _, .keep r, .own _ a, .own c b => .own c (SlR.merge k p r a b)
  | _, _, _, _, _, _, .drop n r, .none a, .none b => .none (SlR.merge k p r a b)
  | _, _, _, _, _, _, .drop n r, .val d a, .none b => .val (d.go k p) (SlR.merge k p r a b)
  | _, _, _, _, _, _, .drop n r, .own _ a, .none b => absurd rfl (n _)
theorem SlR.wipe {M : Addr → Prop} : ∀ {vs : List Nat} {s : S3} {t : L2.St} {μ : List Addr}, SlR K ρ H M s t μ → wOk s vs = true → SlR K ρ H M (wipe3 s vs) (wipe t vs) μ ∧ ∀ v, isOwn s v = false → isOwn (wipe3 s vs) v = false
  | [], _, _, _, r, _ => ⟨r, fun _ h => h⟩
  | v :: vs, s, t, μ, r, h => by
    unfold wOk at h
    rw [List.all_cons, Bool.and_eq_true, Bool.not_eq_true'] at h
    obtain ⟨q, k⟩ := SlR.wipe r h.2
    refine ⟨q.setVal' (.inl rfl) v (k v h.1), fun w hw => ?_⟩
    have := k w hw
    unfold isOwn at this ⊢
    show (match ((wipe3 s vs).set v Option.none)[w]? with | some (some (.own _)) => true | _ => false) = false
    by_cases e : v = w
    · subst e
      by_cases l : v < (wipe3 s vs).length
      · rw [List.getElem?_set_self l]
      · rw [List.getElem?_eq_none (by simpa using l)]
    · rw [List.getElem?_set_ne e]; exact this
end
section
variable {K : PySem.W.Frag} {N : Addr → Prop} {ρ ρ' ρ'' μ : List Addr} {σ3 : S3} {h : HD} {σ : St} {H H' H'' : Hp} {p : Addr}
/-- the address p is kept by others -/
abbrev Np (N : Addr → Prop) (p : Addr) : Addr → Prop := fun a => N a ∨ a = p
theorem Ext.weakN (x : Ext N ρ μ H ρ' μ H') (np : H p = none) (y : Ext (Np N p) ρ' μ H' ρ'' μ H'') : Ext N ρ μ H ρ'' μ H'' := by
  have ne : ∀ b o, H b = some o → b ≠ p := fun b o e q => by rw [q, np] at e; cases e
  have nm : ∀ b o, H b = some o → ¬ Mu N ρ' μ b → ¬ Mu (Np N p) ρ' μ b := fun b o e n m => by
    rcases m with (m | m) | m
    · exact n (.inl m)
    · exact ne b o e m
    · exact n (.inr m)
  refine ⟨?_, fun b o e n => (x.keep b o e n).trans fun q e1 => y.keep b q e1 (nm b o e (x.out b o e n)), fun b n => (y.kN b (.inl n)).trans (x.kN b n), fun b o e n m => ?_⟩
  · obtain ⟨t, rfl⟩ := x.pre
    obtain ⟨t', rfl⟩ := y.pre
    exact ⟨t ++ t', by simp⟩
  · have m' : Mu (Np N p) ρ'' μ b := m.imp .inl id
    rcases x.keep b o e n with e1 | ⟨ob, us, _, e1⟩
    · exact y.out b _ e1 (nm b o e (x.out b o e n)) m'
    · exact y.out b _ e1 (nm b o e (x.out b o e n)) m'
theorem Ext.updP (x : Ext N ρ μ H ρ' μ H') (np : H p = none) (nn : ¬ N p) (o : HO) : Ext N ρ μ H ρ' μ (upd H' p o) := by
  have ne : ∀ b o, H b = some o → b ≠ p := fun b o e q => by rw [q, np] at e; cases e
  exact ⟨x.pre, fun b u e n => by rw [upd_ne (ne b u e)]; exact x.keep b u e n, fun b n => by rw [upd_ne (show b ≠ p from fun q => nn (q ▸ n))]; exact x.kN b n, x.out⟩
/-- a kept object is changed by its holder -/
theorem Fr.updN (fr : Fr K (Np N p) ρ μ σ3 h σ H) (o : HO) : Fr K (Np N p) ρ μ σ3 h σ (upd H p o) ∧ ∀ b u, H b = some u → ¬ Mu (Np N p) ρ μ b → Stay u ((upd H p o) b) ∧ ¬ Mu (Np N p) ρ μ b := by
  have k : ∀ b u, H b = some u → ¬ Mu (Np N p) ρ μ b → Stay u ((upd H p o) b) ∧ ¬ Mu (Np N p) ρ μ b := fun b u e n => ⟨.inl (by rw [upd_ne fun q => n (.inl (.inr q))]; exact e), n⟩
  have nn := fr.nN p (.inr rfl)
  refine ⟨⟨fr.sl.go k (fun _ _ e => e) fun a m => upd_ne fun q => nn.2 (q ▸ m), fr.hp.go k (fun _ _ e => e) fun a m => upd_ne fun q => nn.1 (q ▸ m), fr.nd, fr.nN, fun a m => ?_⟩, k⟩
  by_cases q : a = p
  · subst q; rw [upd_same]; simp
  · rw [upd_ne q]; exact fr.nT a m
end
theorem wipe3_idem {σ : S3} {vs : List Nat} : ∀ {ws : List Nat}, (∀ v ∈ ws, v ∈ vs) → wipe3 (wipe3 σ ws) vs = wipe3 σ vs
  | [], _ => rfl
  | w :: ws, h => by
    show wipe3 ((wipe3 σ ws).set w none) vs = _
    rw [wipe3_set (h w List.mem_cons_self), wipe3_idem fun v m => h v (List.mem_cons_of_mem _ m)]
theorem wipe_idem {σ : L2.St} {vs : List Nat} : ∀ {ws : List Nat}, (∀ v ∈ ws, v ∈ vs) → wipe (wipe σ ws) vs = wipe σ vs
  | [], _ => rfl
  | w :: ws, h => by
    show wipe ((wipe σ ws).set w none) vs = _
    rw [wipe_set (h w List.mem_cons_self), wipe_idem fun v m => h v (List.mem_cons_of_mem _ m)]
def lcF (good : S3 → HD → Bool) (tg : Tg) (c : F Bool) (elt : F D) : List D → List D → S3 → HD → Res Cell
  | [], acc => fun σ h => if good σ h then .ok (.lst acc) h else .stuck
  | x :: xs, acc => fun σ h => if good σ h then match tg x σ with
    | none => .stuck
    | some σ1 => match c σ1 h with
      | .ok b h1 => if b then match elt σ1 h1 with
          | .ok d h2 => match cl d with
            | some d => if acc.length < sizeLine then lcF good tg c elt xs (acc ++ [d]) σ h2 else .stuck
            | none => .stuck
          | _ => .stuck
        else lcF good tg c elt xs acc σ h1
      | _ => .stuck
    else .stuck
def nLc (f : F Wk) (tg : Tg) (c : F Bool) (elt : F D) (vs : List Nat) : F Cell := dBind f fun w => fun σ h => if wOk σ vs then lcF w.good tg c elt w.items [] (wipe3 σ vs) h else .stuck
abbrev W0 : WX := fun _ _ _ _ => False
structure PTs3 (X : Cx) (N : Addr → Prop) (W : WX) (ifs : List Expr) (f : F Bool) : Prop where
  run : PTs X ifs (Lift X.K N W RB f)
section
variable {X : Cx} {N : Addr → Prop} {W : WX}
theorem c_nil : PTs3 X N W [] (dPure true) := ⟨⟨fun pins s σ H Q I ⟨ρ, μ, σ3, h, fr, p⟩ => pts_nil.run pins s σ H Q I (post_ok (a := true) (b := true) fr p (rfl : true = true))⟩⟩
theorem c_one {c : Expr} {f : F Bool} (h : PT3 X N W c f) : PTs3 X N W [c] f := ⟨pts_one h.run⟩
theorem RepL.snoc {K : PySem.W.Frag} {ρ : List Addr} {H : Hp} {M : Addr → Prop} {d : D} {v : V} (q : Rep K ρ H M d v) : ∀ {ds : List D} {vs : List V}, RepL K ρ H M ds vs → RepL K ρ H M (ds ++ [d]) (vs ++ [v])
  | _, _, .nil => .cons q .nil
  | _, _, .cons a l => .cons a (RepL.snoc q l)
theorem bindNI {K : PySem.W.Frag} {f : F Wk} {k : Wk → F Cell} {ρ μ : List Addr} {σ3 : S3} {h : HD} {σ : St} {H : Hp} {Q : VK} {R : It → Hp → Prop} (fr : Fr K N ρ μ σ3 h σ H) (p : PostN K N W (dBind f k σ3 h) ρ μ σ3 σ H Q)
    (q : ∀ w ρ1 h1 H1 J, Ext N ρ μ H ρ1 μ H1 → Fr K N ρ1 μ σ3 h1 σ H1 → WkR K N ρ1 μ H1 w J → PostN K N W (k w σ3 h1) ρ1 μ σ3 σ H1 Q → R J H1) : LiftI K N W f σ H R := by
  refine ⟨ρ, μ, σ3, h, fr, ?_⟩
  cases e : f σ3 h with
  | ok a h' => simp only [dBind, e] at p; exact fun ρ' H' b x f r => q a ρ' h' H' b x f r (PostN.later p x f)
  | exc e' h' => simp only [dBind, e] at p; exact p
  | stuck => simp only [dBind, e] at p; exact p
/-- a reading of a test, of an item, whatever is kept by others -/
abbrev LB (X : Cx) (W : WX) (f : F Bool) : TT := fun σ H Q => ∃ N', Lift X.K N' W RB f σ H Q
abbrev LV (X : Cx) (W : WX) (f : F D) : TE := fun σ H Q => ∃ N', Lift X.K N' W (RX X.K N') f σ H Q
theorem lc_read {own : List (Str × Nat)} {f : F Wk} {g : TG} {t : Tg} {fc : F Bool} {fe : F D} {is : List Nat} (ht : ∀ N', TgOk X.K N' g t is) (his : ∀ i ∈ is, i ∈ own.map (·.2)) {σ : L2.St} {H : Hp} {Q : VK}
    (q : LiftN X.K N W (nLc f t fc fe (own.map (·.2))) σ H Q) : tLc (LiftI X.K N W f) g (LB X W0 fc) (LV X W0 fe) (own.map (·.2)) σ H Q := by
  obtain ⟨ρ, μ, σ3, h, fr, p⟩ := q
  refine bindNI fr p fun w ρ1 h1 H1 J x1 fr1 wk p1 => ?_
  intro Dd nD
  cases ow : wOk σ3 (own.map (·.2)) with
  | false => simp only [ow] at p1; exact p1.elim
  | true =>
    simp only [ow, if_true] at p1
    obtain ⟨Gd, Y, wj, wk⟩ := wk
    have nN : ¬ N Dd := fun m => fr1.nT Dd m nD
    obtain ⟨na, xn⟩ := fr1.newAt nD (c := .lst []) (o := .lst []) fun H' k e => ⟨[], e, .nil⟩
    have w3 : W3 σ3 (wipe3 σ3 (own.map (·.2))) σ (wipe σ (own.map (·.2))) := W3.wipe fr1.sl.len ow
    have frw : Fr X.K (Np N Dd) ρ1 μ (wipe3 σ3 (own.map (·.2))) h1 (wipe σ (own.map (·.2))) (upd H1 Dd (.lst [])) := ⟨(na.fr.sl.wipe ow).1, na.fr.hp, na.fr.nd, na.fr.nN, na.fr.nT⟩
    let Pv : Nat → Hp → Prop := fun i H' => ∃ ρ' h' acc xs, Ext N ρ1 μ H1 ρ' μ H' ∧ Fr X.K (Np N Dd) ρ' μ (wipe3 σ3 (own.map (·.2))) h' (wipe σ (own.map (·.2))) H' ∧ H' Dd = some (.lst xs) ∧ RepL X.K ρ' H' (Mu (Np N Dd) ρ' μ) acc xs ∧
      PostN X.K N W (lcF w.good t fc fe (w.items.drop i) acc (wipe3 σ3 (own.map (·.2))) h') ρ1 μ σ3 σ H1 Q
    have mN : ∀ ρ' a, Mu (Np N Dd) ρ' μ a → Mu N ρ' μ a ∨ H1 a = none := fun ρ' a m => by
      rcases m with (m | m) | m
      · exact .inl (.inl m)
      · exact .inr (m ▸ nD)
      · exact .inl (.inr m)
    have good : ∀ i H', Pv i H' → ∃ ρ' h' acc xs, Ext N ρ1 μ H1 ρ' μ H' ∧ Fr X.K (Np N Dd) ρ' μ (wipe3 σ3 (own.map (·.2))) h' (wipe σ (own.map (·.2))) H' ∧ H' Dd = some (.lst xs) ∧ RepL X.K ρ' H' (Mu (Np N Dd) ρ' μ) acc xs ∧
      PostN X.K N W (lcF w.good t fc fe (w.items.drop i) acc (wipe3 σ3 (own.map (·.2))) h') ρ1 μ σ3 σ H1 Q ∧ w.good (wipe3 σ3 (own.map (·.2))) h' = true := by
      rintro i H' ⟨ρ', h', acc, xs, x, f, e, l, p⟩
      refine ⟨ρ', h', acc, xs, x, f, e, l, p, ?_⟩
      cases c : w.good (wipe3 σ3 (own.map (·.2))) h' with
      | true => rfl
      | false =>
        cases q : w.items.drop i with
        | nil => rw [q] at p; simp only [lcF, c] at p; exact p.elim
        | cons y ys => rw [q] at p; simp only [lcF, c] at p; exact p.elim
    refine lc_it (g := g) (tt := fun σ H Q => ∃ N', Lift X.K N' W0 RB fc σ H Q) (te := fun σ H Q => ∃ N', Lift X.K N' W0 (RX X.K N') fe σ H Q) (vs := own.map (·.2)) (σ := σ) (Qd := fun H => Q (.ref Dd) H) wj Pv ⟨ρ1, h1, [], [], xn, frw, upd_same, .nil, p1⟩ (fun i H' _ q => ?_) (fun i x H' H'' hi q y => ?_) (fun H' q => ?_)
    · obtain ⟨ρ', h', acc, xs, x, f, e, l, p, c⟩ := good i H' q
      exact (wk (Np N Dd) ρ' μ _ h' _ H' (fun _ n => .inl n) x f (mN ρ') c).1
    · obtain ⟨ρ', h', acc, xs, x', f, e, l, p, c⟩ := good i H' q
      obtain ⟨sm, r⟩ := (wk (Np N Dd) ρ' μ _ h' _ H' (fun _ n => .inl n) x' f (mN ρ') c).2 i x H'' hi y
      obtain ⟨f2, x2⟩ := f.same sm
      have e2 := sm _ _ e
      have l2 := l.ext x2
      have xx := x'.weakN nD x2
      rw [List.drop_eq_getElem_cons hi] at p
      simp only [lcF, c, if_true] at p
      cases et : t w.items[i] (wipe3 σ3 (own.map (·.2))) with
      | none => rw [et] at p; exact p.elim
      | some σ4 =>
        simp only [et] at p
        have isv : ∀ j ∈ is, j ∈ own.map (·.2) := his
        have ok4 : wOk σ4 (own.map (·.2)) = true := by
          refine (ht (Np N Dd)).d.ok _ _ _ _ et ?_
          have := (na.fr.sl.wipe ow).2
          unfold wOk at ow ⊢
          rw [List.all_eq_true] at ow ⊢
          intro v m
          have q := ow v m
          rw [Bool.not_eq_true'] at q ⊢
          exact this v q
        have wp4 : wipe3 σ4 (own.map (·.2)) = wipe3 σ3 (own.map (·.2)) := by
          rw [(ht (Np N Dd)).d.wp _ _ _ _ et isv, wipe3_idem fun v m => m]
        refine (ht (Np N Dd)).run ρ' μ _ h' _ H'' _ x σ4 _ f2 r et fun σ5 f3 k5 => ?_
        have w5 : wipe σ5 (own.map (·.2)) = wipe σ (own.map (·.2)) := by
          rw [k5 _ isv, wipe_idem fun v m => m]
        refine ⟨w5, Np N Dd, ρ', μ, σ4, h', f3, ?_⟩
        have back : ∀ {ρ2 : List Addr} {h2 : HD} {H2 : Hp}, Fr X.K (Np N Dd) ρ2 μ σ4 h2 σ5 H2 → Fr X.K (Np N Dd) ρ2 μ (wipe3 σ3 (own.map (·.2))) h2 (wipe σ (own.map (·.2))) H2 := fun f => by
          have q := (f.sl.wipe ok4).1
          rw [wp4, w5] at q
          exact ⟨q, f.hp, f.nd, f.nN, f.nT⟩
        cases qc : fc σ4 h' with
        | stuck => simp only [qc] at p; exact p.elim
        | exc e' h2 => simp only [qc] at p; exact p.elim
        | ok b h2 =>
          simp only [qc] at p
          intro ρ2 H2 b' x3 f4 rb
          cases rb
          have xx3 := xx.weakN nD x3
          have e3 : H2 Dd = some (.lst xs) := (x3.kN Dd (.inr rfl)).trans e2
          have l3 := l2.ext x3
          cases b with
          | false => exact ⟨ρ2, h2, acc, xs, xx3, back f4, e3, l3, p⟩
          | true =>
            simp only [if_true] at p
            refine ⟨Np N Dd, ρ2, μ, σ4, h2, f4, ?_⟩
            cases qe : fe σ4 h2 with
            | stuck => simp only [qe] at p; exact p.elim
            | exc e' h3 => simp only [qe] at p; exact p.elim
            | ok d h3 =>
              simp only [qe] at p
              intro ρ3 H3 v x5 f5 rv
              cases cd : cl d with
              | none => simp only [cd] at p; exact p.elim
              | some d' =>
                simp only [cd] at p
                obtain ⟨rfl, rv⟩ := RX.clean rv cd
                have e5 : H3 Dd = some (.lst xs) := (x5.kN Dd (.inr rfl)).trans e3
                have l5 := l3.ext x5
                by_cases z : acc.length < sizeLine
                · rw [if_pos z] at p
                  obtain ⟨f6, k6⟩ := f5.updN (o := .lst (xs ++ [v]))
                  have xx5 := (xx3.weakN nD x5).updP nD nN (.lst (xs ++ [v]))
                  exact ⟨xs, e5, by rw [← l5.length]; exact z, ρ3, h3, acc ++ [d'], xs ++ [v], xx5, back f6, upd_same, (l5.snoc rv).go k6 fun _ _ e => e, p⟩
                · rw [if_neg z] at p; exact p.elim
    · obtain ⟨ρ', h', acc, xs, x, f, e, l, p, c⟩ := good _ H' q
      rw [List.drop_length] at p
      simp only [lcF, c, if_true] at p
      have nf := f.nN Dd (.inr rfl)
      refine p ρ' H' Dd x nD ⟨fun m => ?_, ⟨?_, f.hp, f.nd, f.nN, f.nT⟩, ⟨xs, e, l⟩⟩
      · rcases m with m | m | m
        · exact nN m
        · exact nf.1 m
        · exact nf.2 m
      · refine SlR.merge (fun b o e n => ⟨x.keep b o e n, fun m => ?_⟩) x.p w3 fr1.sl f.sl
        rcases mN ρ' b m with m | m
        · exact x.out b o e n m
        · rw [e] at m; cases m
theorem lc_tt {ifs : List Expr} {scope : Scope} {fc : F Bool} (hif : ∀ (s : Shared) (H : Hp) (C : Addr) (cl : List (Str × Addr)) (fp : List Addr) (N' : Addr → Prop), PTs3 (X.blk s H scope (compEnvC scope cl C X.env) fp) N' W0 ifs fc) :
    ∀ (s : Shared) (H : Hp) (C : Addr) (cl : List (Str × Addr)) (fp : List Addr), PTs (X.blk s H scope (compEnvC scope cl C X.env) fp) ifs (LB X W0 fc) := fun s H C cl fp => ⟨fun pins s' σ H' Q I ⟨N', q⟩ => (hif s H C cl fp N').run.run pins s' σ H' Q I q⟩
theorem lc_te {elt : Expr} {scope : Scope} {fe : F D} (he : ∀ (s : Shared) (H : Hp) (C : Addr) (cl : List (Str × Addr)) (fp : List Addr) (N' : Addr → Prop), PE3 (X.blk s H scope (compEnvC scope cl C X.env) fp) N' W0 elt fe) :
    ∀ (s : Shared) (H : Hp) (C : Addr) (cl : List (Str × Addr)) (fp : List Addr), PE (X.blk s H scope (compEnvC scope cl C X.env) fp) elt (LV X W0 fe) := fun s H C cl fp => ⟨fun pins s' σ H' Q I ⟨N', q⟩ => (he s H C cl fp N').run.run pins s' σ H' Q I q⟩
theorem n_lc {elt tg iter : Expr} {ifs : List Expr} {scope : Scope} {own : List (Str × Nat)} {pos : Pos} {f : F Wk} {g : TG} {t : Tg} {fc : F Bool} {fe : F D} {is : List Nat} (hc : X.calm = true) (hN : X.N.Nodup) (hi : PI3 X N W tg iter f) (ok : BlkOk X.N X.env.scope scope own)
    (ht : ∀ N', TgOk X.K N' g t is) (his : ∀ i ∈ is, i ∈ own.map (·.2))
    (hg : ∀ (s : Shared) (H : Hp) (C : Addr) (cl : List (Str × Addr)) (fp : List Addr), PG (X.blk s H scope (compEnvC scope cl C X.env) fp) tg g)
    (hif : ∀ (s : Shared) (H : Hp) (C : Addr) (cl : List (Str × Addr)) (fp : List Addr) (N' : Addr → Prop), PTs3 (X.blk s H scope (compEnvC scope cl C X.env) fp) N' W0 ifs fc)
    (he : ∀ (s : Shared) (H : Hp) (C : Addr) (cl : List (Str × Addr)) (fp : List Addr) (N' : Addr → Prop), PE3 (X.blk s H scope (compEnvC scope cl C X.env) fp) N' W0 elt fe) (hs : ∀ x, foldedSetIterable iter X.env x = pure x := by intro _; rfl) :
    PN3 X N W (.ListComp elt [⟨tg, iter, ifs, 0⟩] scope pos) (nLc f t fc fe (own.map (·.2))) :=
  ⟨pe_imp (pe_lc hc hN hi.run ok hg (lc_tt hif) (lc_te he) hs) fun σ H Q q => lc_read ht his q⟩
/-- y = [..] -/
theorem ps_lc {i : Nat} {y : Str} {py : Pos} {elt tg iter : Expr} {ifs : List Expr} {scope : Scope} {own : List (Str × Nat)} {pos spos : Pos} {f : F Wk} {g : TG} {t : Tg} {fc : F Bool} {fe : F D} {is : List Nat} (hc : X.calm = true) (hN : X.N.Nodup) (hy : X.N[i]? = some y) (hyl : X.env.scope.names.lookup y = some .local)
    (hsw : swapsWith (.ListComp elt [⟨tg, iter, ifs, 0⟩] scope pos) (some (.Name y py)) spos.line X.env = pure true) (hi : PI3 X N W tg iter f) (ok : BlkOk X.N X.env.scope scope own)
    (ht : ∀ N', TgOk X.K N' g t is) (his : ∀ i ∈ is, i ∈ own.map (·.2))
    (hg : ∀ (s : Shared) (H : Hp) (C : Addr) (cl : List (Str × Addr)) (fp : List Addr), PG (X.blk s H scope (compEnvC scope cl C X.env) fp) tg g)
    (hif : ∀ (s : Shared) (H : Hp) (C : Addr) (cl : List (Str × Addr)) (fp : List Addr) (N' : Addr → Prop), PTs3 (X.blk s H scope (compEnvC scope cl C X.env) fp) N' W0 ifs fc)
    (he : ∀ (s : Shared) (H : Hp) (C : Addr) (cl : List (Str × Addr)) (fp : List Addr) (N' : Addr → Prop), PE3 (X.blk s H scope (compEnvC scope cl C X.env) fp) N' W0 elt fe) (hs : ∀ x, foldedSetIterable iter X.env x = pure x := by intro _; rfl) :
    PS X (.Assign [.Name y py] (.ListComp elt [⟨tg, iter, ifs, 0⟩] scope pos) spos) (tAsg (LiftN X.K N W (nLc f t fc fe (own.map (·.2)))) (gName i)) :=
  ps_imp (ps_setLc hc hN hy hyl hsw hi.run ok hg (lc_tt hif) (lc_te he) hs) fun D σ H q => lc_read (Q := fun x H1 => gName i x σ H1 D.nx) ht his q
/-- name = a new object, kept by the slot alone -/
theorem ps_own {i : Nat} {st : Stmt} {f : F Cell} (h : PS X st (tAsg (LiftN X.K N W f) (gName i))) : PS3 X N W st (gNew i f) := by
  refine ⟨ps_imp h fun D σ H ⟨ρ, μ, σ3, h, fr, p⟩ => ?_⟩
  refine LiftN.mono (fun v H1 ⟨c, ρ1, h1, a, ev, np, x1, n, p1⟩ => ?_) (bindSN fr p)
  subst ev
  obtain ⟨μ', f2, x2⟩ := n.own x1 np i
  exact p1 ρ1 μ' _ _ x2 f2
theorem frz_read {f : F Cell} {σ : L2.St} {H : Hp} {Q : VK} (q : Lift X.K N W (RX X.K N) (dFrz f) σ H Q) : LiftN X.K N W f σ H Q := by
  obtain ⟨ρ, μ, σ3, h, fr, p⟩ := q
  refine ⟨ρ, μ, σ3, h, fr, ?_⟩
  cases q : f σ3 h with
  | ok c h' =>
    intro ρ' H' pa x np n
    simp only [dFrz, dBind, q] at p
    cases e : cellV c with
    | none => rw [e] at p; exact p.elim
    | some d =>
      rw [e] at p
      exact p ρ' H' _ x (n.frz e).1 (RX.of (n.frz e).2)
  | exc e h' => simp only [dFrz, dBind, q] at p; exact p
  | stuck => simp only [dFrz, dBind, q] at p; exact p
theorem ref_read {f : F Cell} {σ : L2.St} {H : Hp} {Q : VK} (q : Lift X.K N W (RX X.K N) (dNewRef f) σ H Q) : LiftN X.K N W f σ H Q := by
  obtain ⟨ρ, μ, σ3, h, fr, p⟩ := q
  refine ⟨ρ, μ, σ3, h, fr, ?_⟩
  cases q : f σ3 h with
  | ok c h' =>
    intro ρ' H' pa x np n
    simp only [dNewRef, q] at p
    obtain ⟨a1, a2, a3⟩ := n.share x np
    exact p _ H' _ a2 a1 (RX.of a3)
  | exc e h' => simp only [dNewRef, q] at p; exact p
  | stuck => simp only [dNewRef, q] at p; exact p
/-- name = a value -/
theorem ps_val {i : Nat} {st : Stmt} {f : F D} (h : PS X st (tAsg (Lift X.K N W (RX X.K N) f) (gName i))) : PS3 X N W st (gSet i f) := by
  refine ⟨ps_imp h fun D σ H ⟨ρ, μ, σ3, h, fr, p⟩ => ?_⟩
  refine Lift.mono (fun v H1 ⟨d, ρ1, h1, x1, fr1, r1, p1⟩ => ?_) (bindS fr p)
  obtain ⟨d', c, p2⟩ := postS_opt p1
  obtain ⟨rfl, q⟩ := RX.clean r1 c
  obtain ⟨μ', f2, x2⟩ := fr1.setVal q i
  exact p2 ρ1 μ' _ _ x2 f2
theorem ps_frz {i : Nat} {st : Stmt} {f : F Cell} (h : PS X st (tAsg (LiftN X.K N W f) (gName i))) : PS3 X N W st (gSet i (dFrz f)) := ps_val (ps_imp h fun D σ H q => frz_read (Q := fun x H1 => gName i x σ H1 D.nx) q)
theorem ps_ref {i : Nat} {st : Stmt} {f : F Cell} (h : PS X st (tAsg (LiftN X.K N W f) (gName i))) : PS3 X N W st (gSet i (dNewRef f)) := ps_val (ps_imp h fun D σ H q => ref_read (Q := fun x H1 => gName i x σ H1 D.nx) q)

/-! ### what is never reached -/
theorem e_stuck {e : Expr} : PE3 X N W e dStuck := ⟨⟨fun pins s σ H Q I ⟨ρ, μ, σ3, h, fr, p⟩ => p.elim⟩⟩
theorem t_stuck {e : Expr} : PT3 X N W e dStuck := ⟨⟨fun pins s σ H Q I ⟨ρ, μ, σ3, h, fr, p⟩ => p.elim⟩⟩
theorem a_stuck {e : List Expr} : PA3 X N W e dStuck := ⟨⟨fun pos pins s σ H Q I ⟨ρ, μ, σ3, h, fr, p⟩ => p.elim⟩⟩
theorem n_stuck {e : Expr} : PN3 X N W e dStuck := ⟨⟨fun pins s σ H Q I ⟨ρ, μ, σ3, h, fr, p⟩ => p.elim⟩⟩
def gStuck : G := fun _ _ => .stuck
theorem s_stuck {st : Stmt} : PS3 X N W st gStuck := ⟨⟨fun pins s σ H D I ⟨ρ, μ, σ3, h, fr, p⟩ => p.elim⟩⟩
theorem ss_stuck {st : List Stmt} : PSs3 X N W st gStuck := ⟨⟨fun pins s σ H D I ⟨ρ, μ, σ3, h, fr, p⟩ => p.elim⟩⟩
/-- nothing is let out -/
theorem takes0 : Takes X W0 := fun u s' ⟨_, _, _, _, _, _, _, _, _, _, _, _, _, _, _, _, w⟩ => w.elim
end
end T3

set_option Elab.async false
set_option linter.all false
set_option maxRecDepth 100000
set_option maxHeartbeats 2000000
namespace T3
open PySem L2

/-! ### + of lists, of tuples; slices -/
section
variable {X : Cx} {N : Addr → Prop} {W : WX}
def opN (g : D → D → Option Cell) (fa fb : F D) : F Cell := dBind fa fun a => dBind fb fun b => dBind (dRes a) fun a => dBind (dRes b) fun b => dOpt (g a b)
def gCat : D → D → Option Cell
  | .lst a, .lst b => if a.length + b.length ≤ sizeLine then some (.lst (a ++ b)) else none
  | _, _ => none
theorem RepL.append {K : PySem.W.Frag} {ρ : List Addr} {H : Hp} {M : Addr → Prop} : ∀ {ds es : List D} {vs ws : List V}, RepL K ρ H M ds vs → RepL K ρ H M es ws → RepL K ρ H M (ds ++ es) (vs ++ ws)
  | _, _, _, _, .nil, b => b
  | _, _, _, _, .cons a l, b => .cons a (RepL.append l b)
theorem n_cat {a b : Expr} {pos : Pos} {fa fb : F D} (ha : PE3 X N W a fa) (hb : PE3 X N W b fb) : PN3 X N W (.BinOp a .Add b pos) (opN gCat fa fb) := by
  refine ⟨pe_imp (pe_op op_cat ha.run hb.run) fun σ H Q ⟨ρ, μ, σ3, h, fr, p⟩ => ?_⟩
  refine Lift.mono (fun x H1 ⟨a, ρ1, h1, x1, fr1, r1, p1⟩ => ?_) (bindN fr p)
  refine Lift.mono (fun y H2 ⟨b, ρ2, h2, x2, fr2, r2, p2⟩ => ?_) (bindN fr1 p1)
  obtain ⟨a', ea, p3⟩ := postN_res p2
  obtain ⟨b', eb, p4⟩ := postN_res p3
  have va := fr2.view (r1.ext x2) ea
  have vb := fr2.view r2 eb
  cases a' with
  | lst as => cases b' with
    | lst bs =>
      obtain ⟨l, xs, rfl, e1, l1⟩ := va.lst'
      obtain ⟨m, ys, rfl, e2, l2⟩ := vb.lst'
      by_cases z : as.length + bs.length ≤ sizeLine
      · have eg : gCat (.lst as) (.lst bs) = some (.lst (as ++ bs)) := if_pos z
        rw [eg] at p4
        refine ⟨l, m, xs, ys, rfl, rfl, e1, e2, by rw [← l1.length, ← l2.length]; exact z, fun q nq => postN_ok fr2 p4 nq fun H' k e => ⟨_, e, (l1.append l2).go k fun _ _ e => e⟩⟩
      · have eg : gCat (.lst as) (.lst bs) = none := if_neg z
        rw [eg] at p4; exact p4.elim
    | _ => exact p4.elim
  | _ => exact p4.elim
def gCatT : D → D → Option D
  | .tup a, .tup b => if a.length + b.length ≤ sizeLine then some (.tup (a ++ b)) else none
  | _, _ => none
def dOp2' (op : D → D → Option D) (fa fb : F D) : F D := dOp2 op fa fb
theorem e_catT {a b : Expr} {pos : Pos} {fa fb : F D} (ha : PE3 X N W a fa) (hb : PE3 X N W b fb) : PE3 X N W (.BinOp a .Add b pos) (dOp2 gCatT fa fb) := by
  refine ⟨pe_imp (pe_op op_catA ha.run hb.run) fun σ H Q ⟨ρ, μ, σ3, h, fr, p⟩ => ?_⟩
  refine Lift.mono (fun x H1 ⟨a, ρ1, h1, x1, fr1, r1, p1⟩ => ?_) (bindP fr p)
  refine Lift.mono (fun y H2 ⟨b, ρ2, h2, x2, fr2, r2, p2⟩ => ?_) (bindP fr1 p1)
  obtain ⟨a', ea, p3⟩ := post_res p2
  obtain ⟨b', eb, p4⟩ := post_res p3
  have va := fr2.view (r1.ext x2) ea
  have vb := fr2.view r2 eb
  cases a' with
  | tup as => cases b' with
    | tup bs =>
      have ra : Rep X.K ρ2 H2 (Mu N ρ2 μ) (.tup as) x := by cases va with | rep r => exact r
      have rb : Rep X.K ρ2 H2 (Mu N ρ2 μ) (.tup bs) y := by cases vb with | rep r => exact r
      obtain ⟨l, xs, rfl, e1, l1⟩ := va.tup
      obtain ⟨m, ys, rfl, e2, l2⟩ := vb.tup
      by_cases z : as.length + bs.length ≤ sizeLine
      · have eg : gCatT (.tup as) (.tup bs) = some (.tup (as ++ bs)) := if_pos z
        rw [eg] at p4
        refine ⟨l, m, xs, ys, rfl, rfl, e1, e2, by rw [← l1.length, ← l2.length]; exact z, fun n => ?_, fun _ n => ?_, fun _ _ q nq => ?_⟩
        · have : as = [] := List.eq_nil_of_length_eq_zero (by rw [l1.length, n]; rfl)
          subst this
          exact post_ok fr2 p4 (RX.of rb)
        · have : bs = [] := List.eq_nil_of_length_eq_zero (by rw [l2.length, n]; rfl)
          subst this
          rw [List.append_nil] at p4
          exact post_ok fr2 p4 (RX.of ra)
        · obtain ⟨f3, x3⟩ := fr2.alloc nq (.tup (xs ++ ys))
          exact p4 ρ2 _ _ x3 f3 (RX.of (.tup (.inl ⟨.inl upd_same, fr2.new nq⟩) ((l1.append l2).ext x3)))
      · have eg : gCatT (.tup as) (.tup bs) = none := if_neg z
        rw [eg] at p4; exact p4.elim
    | _ => exact p4.elim
  | _ => exact p4.elim
/-- a slice's part -/
structure PO3 (X : Cx) (N : Addr → Prop) (W : WX) (e : Option Expr) (f : F (Option Int)) : Prop where
  run : PO X e (Lift X.K N W (fun _ _ _ _ _ a b => a = b) f)
def dNoPart : F (Option Int) := dPure none
def dPart (f : F D) : F (Option Int) := dBind f fun d => dBind (dOpt (intOf d)) fun i => dPure (some i)
theorem po_imp {e : Option Expr} {t t' : TO} (h : PO X e t) (i : ∀ σ H Q, t' σ H Q → t σ H Q) : PO X e t' := ⟨fun pins s σ H Q I q => h.run pins s σ H Q I (i _ _ _ q)⟩
theorem o_none : PO3 X N W none dNoPart := ⟨po_imp po_none fun σ H Q ⟨ρ, μ, σ3, h, fr, p⟩ => post_ok (a := none) (b := none) fr p rfl⟩
theorem o_some {e : Expr} {f : F D} (h : PE3 X N W e f) : PO3 X N W (some e) (dPart f) := by
  refine ⟨po_imp (po_some h.run) fun σ H Q ⟨ρ, μ, σ3, h, fr, p⟩ => ?_⟩
  refine Lift.mono (fun x H1 ⟨a, ρ1, h1, x1, fr1, r1, p1⟩ => ?_) (bindP fr p)
  obtain ⟨i, e, p2⟩ := post_opt p1
  exact ⟨i, intOf_ok r1 e, post_ok (a := some i) (b := some i) fr1 p2 rfl⟩
def cutD (xs : List D) (lo hi : Option Int) : List D := (xs.drop (HT.sIx xs.length 0 lo)).take (HT.sIx xs.length xs.length hi - HT.sIx xs.length 0 lo)
theorem RepL.drop {K : PySem.W.Frag} {ρ : List Addr} {H : Hp} {M : Addr → Prop} : ∀ {ds : List D} {vs : List V} (n : Nat), RepL K ρ H M ds vs → RepL K ρ H M (ds.drop n) (vs.drop n)
  | _, _, 0, l => l
  | _, _, _ + 1, .nil => .nil
  | _, _, n + 1, .cons _ l => RepL.drop n l
theorem RepL.take {K : PySem.W.Frag} {ρ : List Addr} {H : Hp} {M : Addr → Prop} : ∀ {ds : List D} {vs : List V} (n : Nat), RepL K ρ H M ds vs → RepL K ρ H M (ds.take n) (vs.take n)
  | _, _, 0, _ => .nil
  | _, _, _ + 1, .nil => .nil
  | _, _, n + 1, .cons a l => .cons a (RepL.take n l)
theorem RepL.cut {K : PySem.W.Frag} {ρ : List Addr} {H : Hp} {M : Addr → Prop} {ds : List D} {vs : List V} (l : RepL K ρ H M ds vs) (lo hi : Option Int) : RepL K ρ H M (cutD ds lo hi) (cutV vs lo hi) := by
  unfold cutD cutV
  rw [l.length]
  exact (l.drop _).take _
def nSlice (f : F D) (lo hi : F (Option Int)) : F Cell := dBind f fun a => dBind lo fun l => dBind hi fun u => dBind (dRes a) fun a => match a with
  | .lst ds => dPure (.lst (cutD ds l u))
  | _ => dStuck
theorem n_slice {e : Expr} {lo hi : Option Expr} {p2 pos : Pos} {f : F D} {fl fu : F (Option Int)} (he : PE3 X N W e f) (hl : PO3 X N W lo fl) (hu : PO3 X N W hi fu) : PN3 X N W (.Subscript e (.Slice lo hi none p2) pos) (nSlice f fl fu) := by
  refine ⟨pe_imp (pe_slice sl_list he.run hl.run hu.run) fun σ H Q ⟨ρ, μ, σ3, h, fr, p⟩ => ?_⟩
  refine Lift.mono (fun x H1 ⟨a, ρ1, h1, x1, fr1, r1, p1⟩ => ?_) (bindN fr p)
  refine Lift.mono (fun y H2 ⟨l, ρ2, h2, x2, fr2, r2, p2⟩ => ?_) (bindN fr1 p1)
  refine Lift.mono (fun z H3 ⟨u, ρ3, h3, x3, fr3, r3, p3⟩ => ?_) (bindN fr2 p2)
  obtain ⟨a', ea, p4⟩ := postN_res p3
  have va := fr3.view ((r1.ext x2).ext x3) ea
  cases a' with
  | lst as =>
    obtain ⟨b, xs, rfl, e1, l1⟩ := va.lst'
    subst r2 r3
    exact ⟨b, xs, rfl, SqL.of e1, fun q nq => postN_ok fr3 p4 nq fun H' k e => ⟨_, e, (l1.cut l u).go k fun _ _ e => e⟩⟩
  | _ => exact p4.elim
def dSliceT (f : F D) (lo hi : F (Option Int)) : F D := dBind f fun a => dBind lo fun l => dBind hi fun u => dBind (dRes a) fun a => match a with
  | .tup ds => dPure (.tup (cutD ds l u))
  | _ => dStuck
theorem e_sliceT {e : Expr} {lo hi : Option Expr} {p2 pos : Pos} {f : F D} {fl fu : F (Option Int)} (he : PE3 X N W e f) (hl : PO3 X N W lo fl) (hu : PO3 X N W hi fu) : PE3 X N W (.Subscript e (.Slice lo hi none p2) pos) (dSliceT f fl fu) := by
  refine ⟨pe_imp (pe_slice sl_tupA he.run hl.run hu.run) fun σ H Q ⟨ρ, μ, σ3, h, fr, p⟩ => ?_⟩
  refine Lift.mono (fun x H1 ⟨a, ρ1, h1, x1, fr1, r1, p1⟩ => ?_) (bindP fr p)
  refine Lift.mono (fun y H2 ⟨l, ρ2, h2, x2, fr2, r2, p2⟩ => ?_) (bindP fr1 p1)
  refine Lift.mono (fun z H3 ⟨u, ρ3, h3, x3, fr3, r3, p3⟩ => ?_) (bindP fr2 p2)
  obtain ⟨a', ea, p4⟩ := post_res p3
  have va := fr3.view ((r1.ext x2).ext x3) ea
  cases a' with
  | tup as =>
    have ra : Rep X.K ρ3 H3 (Mu N ρ3 μ) (.tup as) x := by cases va with | rep r => exact r
    obtain ⟨b, xs, rfl, e1, l1⟩ := va.tup
    subst r2 r3
    refine ⟨b, xs, rfl, e1, fun w => ?_, fun _ q nq => ?_⟩
    · have ew : cutD as l u = as := by
        unfold cutD
        rw [l1.length, w.1, w.2, List.drop_zero, Nat.sub_zero, ← l1.length, List.take_length]
      have p4' : Post X.K N W (RX X.K N) (.ok (.tup (cutD as l u)) h3) ρ3 μ σ3 σ H3 Q := p4
      rw [ew] at p4'
      exact post_ok fr3 p4' (RX.of ra)
    · obtain ⟨f4, x4⟩ := fr3.alloc nq (.tup (cutV xs l u))
      exact p4 ρ3 _ _ x4 f4 (RX.of (.tup (.inl ⟨.inl upd_same, fr3.new nq⟩) ((l1.cut l u).ext x4)))
  | _ => exact p4.elim

/-! ### built-in functions -/
def resL (σ : S3) (h : HD) : List D → Option (List D)
  | [] => some []
  | d :: ds => match res σ h d, resL σ h ds with
    | some d, some ds => some (d :: ds)
    | _, _ => none
inductive VwL (K : PySem.W.Frag) (ρ : List Addr) (H : Hp) (M : Addr → Prop) : List D → List V → Prop
  | nil : VwL K ρ H M [] []
  | cons {d : D} {v : V} {ds : List D} {vs : List V} : Vw K ρ H M d v → VwL K ρ H M ds vs → VwL K ρ H M (d :: ds) (v :: vs)
theorem Fr.views {K : PySem.W.Frag} {ρ μ : List Addr} {σ3 : S3} {h : HD} {σ : St} {H : Hp} (fr : Fr K N ρ μ σ3 h σ H) {ds : List D} {vs : List V} (r : RXs K N ρ μ σ3 σ H ds vs) : ∀ {es : List D}, resL σ3 h ds = some es → VwL K ρ H (Mu N ρ μ) es vs := by
  induction r with
  | nil => intro es e; cases e; exact .nil
  | @cons d v ds vs a _ ih =>
    intro es e
    have e' : (match res σ3 h d, resL σ3 h ds with | some d, some ds => some (d :: ds) | _, _ => none) = some es := e
    cases c1 : res σ3 h d with
    | none => rw [c1] at e'; cases e'
    | some d' =>
      cases c2 : resL σ3 h ds with
      | none => rw [c1, c2] at e'; cases e'
      | some ds' =>
        rw [c1, c2] at e'
        cases e'
        exact .cons (fr.view a c1) (ih c2)
def dResL (ds : List D) : F (List D) := fun σ h => match resL σ h ds with
  | some es => .ok es h
  | none => .stuck
theorem post_resL {K : PySem.W.Frag} {ρ μ : List Addr} {σ3 : S3} {h : HD} {σ : St} {H : Hp} {α β : Type} {R : RR α β} {d : List D} {k : List D → F α} {Q : β → Hp → Prop} (p : Post K N W R (dBind (dResL d) k σ3 h) ρ μ σ3 σ H Q) : ∃ d', resL σ3 h d = some d' ∧ Post K N W R (k d' σ3 h) ρ μ σ3 σ H Q := by
  cases q : resL σ3 h d with
  | none => simp only [dBind, dResL, q] at p; exact p.elim
  | some d' => simp only [dBind, dResL, q] at p; exact ⟨d', rfl, p⟩
theorem postN_resL {K : PySem.W.Frag} {ρ μ : List Addr} {σ3 : S3} {h : HD} {σ : St} {H : Hp} {d : List D} {k : List D → F Cell} {Q : VK} (p : PostN K N W (dBind (dResL d) k σ3 h) ρ μ σ3 σ H Q) : ∃ d', resL σ3 h d = some d' ∧ PostN K N W (k d' σ3 h) ρ μ σ3 σ H Q := by
  cases q : resL σ3 h d with
  | none => simp only [dBind, dResL, q] at p; exact p.elim
  | some d' => simp only [dBind, dResL, q] at p; exact ⟨d', rfl, p⟩
/-- a built-in whose value is there at once -/
abbrev RNok (X : Cx) (r : List V → Hp → VK → Prop) (op : List D → Option D) : Prop := ∀ (ρ : List Addr) (M : Addr → Prop) (H : Hp) (vs : List V) (ds : List D) (d : D) (Q : VK), VwL X.K ρ H M ds vs → op ds = some d → (∀ v, Rep X.K ρ H M d v → Q v H) → r vs H Q
def dFun (op : List D → Option D) (t : F (List D)) : F D := dBind t fun ds => dBind (dResL ds) fun es => dOpt (op es)
theorem fun_read {r : List V → Hp → VK → Prop} {op : List D → Option D} (ok : RNok X r op) {t : F (List D)} {σ : St} {H : Hp} {Q : VK} (q : Lift X.K N W (RX X.K N) (dFun op t) σ H Q) : tCB r (Lift X.K N W (RXs X.K N) t) σ H Q := by
  obtain ⟨ρ, μ, σ3, h, fr, p⟩ := q
  refine Lift.mono (fun vs H1 ⟨ds, ρ1, h1, x1, fr1, r1, p1⟩ => ?_) (bindP fr p)
  obtain ⟨es, e, p2⟩ := post_resL p1
  cases o : op es with
  | none => rw [o] at p2; exact p2.elim
  | some d =>
    rw [o] at p2
    exact ok ρ1 _ H1 vs es d Q (fr1.views r1 e) o fun v rv => post_ok fr1 p2 (RX.of rv)
variable {id T : String} {x : Str} {p pos : Pos} {e : Expr} {es : List Expr} {t : F (List D)}
theorem e_funB {r : List V → Hp → VK → Prop} {op : List D → Option D} (hc : CallR X (.builtin id) r) (ok : RNok X r op) (hg : Gl X x) (hm : X.mg x = none) (hv : bootBuiltins x = some (.builtin id)) (ha : PA3 X N W (e :: es) t) (hn : x ≠ "__name__" := by decide) (hdb : (x == ("__debug__" : Str)) = false := by decide)
    (he : starEach (e :: es) X.env = (false, eval e X.env) :: starEach es X.env := by rfl) (hpl : (backTo pos (starEach es X.env)).any (·.1) = false := by rfl) : PE3 X N W (.Call (.Name x p) (e :: es) [] pos) (dFun op t) :=
  ⟨pe_imp (pe_callB hc hg hm hv ha.run hn hdb he hpl) fun σ H Q q => fun_read ok q⟩
theorem e_funT {r : List V → Hp → VK → Prop} {op : List D → Option D} (hc : CallR X (.type T) r) (ok : RNok X r op) (hg : Gl X x) (hm : X.mg x = none) (hv : bootBuiltins x = some (.type T)) (ha : PA3 X N W (e :: es) t) (hn : x ≠ "__name__" := by decide) (hdb : (x == ("__debug__" : Str)) = false := by decide)
    (he : starEach (e :: es) X.env = (false, eval e X.env) :: starEach es X.env := by rfl) (hpl : (backTo pos (starEach es X.env)).any (·.1) = false := by rfl) : PE3 X N W (.Call (.Name x p) (e :: es) [] pos) (dFun op t) :=
  ⟨pe_imp (pe_callTy hc hg hm hv ha.run hn hdb he hpl) fun σ H Q q => fun_read ok q⟩
def gLen : List D → Option D
  | [.lst ds] => some (.int ds.length)
  | [.tup ds] => some (.int ds.length)
  | [.scr ns] => some (.int ns.length)
  | [.str z] => if z.length ≤ sizeLine then some (.int z.length) else none
  | _ => none
theorem k_len : RNok X (fun xs H Q => ∃ x n, xs = [x] ∧ LenV X.K x H n ∧ Q (.int n) H) gLen := fun ρ M H vs ds d Q l h q => by
  cases l with
  | nil => cases h
  | @cons a v as vs r l =>
    cases l with
    | cons _ _ => cases a <;> cases h
    | nil =>
      cases a with
      | lst ds =>
        obtain ⟨b, xs, rfl, e, l⟩ := r.lst'
        cases h
        exact ⟨_, _, rfl, .inl ⟨xs, SqL.of e, rfl⟩, by rw [← l.length]; exact q _ (.int _)⟩
      | tup ds =>
        obtain ⟨b, xs, rfl, e, l⟩ := r.tup
        cases h
        exact ⟨_, _, rfl, .inr ⟨xs, e, rfl⟩, by rw [← l.length]; exact q _ (.int _)⟩
      | scr ns =>
        obtain ⟨b, rfl, e⟩ := r.scr
        cases h
        exact ⟨_, _, rfl, .inl ⟨_, e, rfl⟩, by rw [List.length_map]; exact q _ (.int _)⟩
      | str z =>
        have h' : (if z.length ≤ sizeLine then some (D.int z.length) else none) = some d := h
        by_cases c : z.length ≤ sizeLine
        · rw [if_pos c] at h'
          cases h'
          rw [r.str]
          exact ⟨_, z.length, rfl, ⟨c, rfl⟩, q _ (.int _)⟩
        · rw [if_neg c] at h'; cases h'
      | _ => cases h
def gInt1 : List D → Option D
  | [.int i] => some (.int i)
  | [.bl b] => some (.int (if b then 1 else 0))
  | _ => none
theorem k_int1 : RNok X (fun xs H Q => (∃ i, xs = [.int i] ∧ Q (.int i) H) ∨ ∃ k, xs = [.bl k] ∧ Q (.int (if k then 1 else 0)) H) gInt1 := fun ρ M H vs ds d Q l h q => by
  cases l with
  | nil => cases h
  | @cons a v as vs r l =>
    cases l with
    | cons _ _ => cases a <;> cases h
    | nil =>
      cases a with
      | int i => cases h; rw [r.int]; exact .inl ⟨i, rfl, q _ (.int _)⟩
      | bl b => cases h; rw [r.bl]; exact .inr ⟨b, rfl, q _ (.int _)⟩
      | _ => cases h
def gAbs : List D → Option D
  | [.int i] => some (.int (if i < 0 then -i else i))
  | _ => none
theorem k_abs : RNok X (fun xs H Q => ∃ i, xs = [.int i] ∧ Q (.int (if i < 0 then -i else i)) H) gAbs := fun ρ M H vs ds d Q l h q => by
  cases l with
  | nil => cases h
  | @cons a v as vs r l =>
    cases l with
    | cons _ _ => cases a <;> cases h
    | nil =>
      cases a with
      | int i => cases h; rw [r.int]; exact ⟨i, rfl, q _ (.int _)⟩
      | _ => cases h
def gTwo (g : Int → Int → Int) : List D → Option D
  | [.int i, .int j] => some (.int (g i j))
  | _ => none
theorem k_two (g : Int → Int → Int) : RNok X (fun xs H Q => ∃ i j, xs = [.int i, .int j] ∧ Q (.int (g i j)) H) (gTwo g) := fun ρ M H vs ds d Q l h q => by
  cases l with
  | nil => cases h
  | @cons a v as vs r l =>
    cases l with
    | nil => cases a <;> cases h
    | @cons a' v' as' vs' r' l =>
      cases l with
      | cons _ _ => cases a <;> cases a' <;> cases h
      | nil =>
        cases a with
        | int i => cases a' with
          | int j => cases h; rw [r.int, r'.int]; exact ⟨i, j, rfl, q _ (.int _)⟩
          | _ => cases h
        | _ => cases h
def gMin2 := gTwo fun i j => if j < i then j else i
def gMax2 := gTwo fun i j => if j > i then j else i
/-- tuple(x) -/
def gTupOf (x : D) : Option D := match x with
  | .lst ds => some (.tup ds)
  | .tup ds => some (.tup ds)
  | _ => none
def dTupOf (t : F (List D)) : F D := dBind t fun ds => dBind (dResL ds) fun es => match es with
  | [x] => dOpt (gTupOf x)
  | _ => dStuck
theorem e_tupOf (hg : Gl X x) (hm : X.mg x = none) (hv : bootBuiltins x = some (.type "tuple")) (ha : PA3 X N W (e :: es) t) (hn : x ≠ "__name__" := by decide) (hdb : (x == ("__debug__" : Str)) = false := by decide)
    (he : starEach (e :: es) X.env = (false, eval e X.env) :: starEach es X.env := by rfl) (hpl : (backTo pos (starEach es X.env)).any (·.1) = false := by rfl) : PE3 X N W (.Call (.Name x p) (e :: es) [] pos) (dTupOf t) := by
  refine ⟨pe_imp (pe_callTy call_tuple_of hg hm hv ha.run hn hdb he hpl) fun σ H Q ⟨ρ, μ, σ3, h, fr, p⟩ => ?_⟩
  refine Lift.mono (fun vs H1 ⟨ds, ρ1, h1, x1, fr1, r1, p1⟩ => ?_) (bindP fr p)
  obtain ⟨es, e, p2⟩ := post_resL p1
  have l := fr1.views r1 e
  cases l with
  | nil => exact p2.elim
  | @cons a v as vs r l =>
    cases l with
    | cons _ _ => exact p2.elim
    | nil =>
      cases a with
      | lst ds =>
        obtain ⟨b, xs, rfl, e, l⟩ := r.lst'
        refine ⟨b, xs, rfl, .inl ⟨SqL.of e, fun q nq => ?_⟩⟩
        obtain ⟨f4, x4⟩ := fr1.alloc nq (.tup xs)
        exact p2 ρ1 _ _ x4 f4 (RX.of (.tup (.inl ⟨.inl upd_same, fr1.new nq⟩) (l.ext x4)))
      | tup ds =>
        have ra : Rep X.K ρ1 H1 (Mu N ρ1 μ) (.tup ds) v := by cases r with | rep r => exact r
        obtain ⟨b, xs, rfl, e, l⟩ := r.tup
        exact ⟨b, xs, rfl, .inr ⟨e, post_ok fr1 p2 (RX.of ra)⟩⟩
      | _ => exact p2.elim
/-- list(x) -/
def nListOf (t : F (List D)) : F Cell := dBind t fun ds => dBind (dResL ds) fun es => match es with
  | [x] => dBind (dOpt (seqOf x)) fun ds => dPure (.lst ds)
  | _ => dStuck
theorem n_listOf (hg : Gl X x) (hm : X.mg x = none) (hv : bootBuiltins x = some (.type "list")) (ha : PA3 X N W (e :: es) t) (hn : x ≠ "__name__" := by decide) (hdb : (x == ("__debug__" : Str)) = false := by decide)
    (he : starEach (e :: es) X.env = (false, eval e X.env) :: starEach es X.env := by rfl) (hpl : (backTo pos (starEach es X.env)).any (·.1) = false := by rfl) : PN3 X N W (.Call (.Name x p) (e :: es) [] pos) (nListOf t) := by
  refine ⟨pe_imp (pe_callTy call_list_of hg hm hv ha.run hn hdb he hpl) fun σ H Q ⟨ρ, μ, σ3, h, fr, p⟩ => ?_⟩
  refine Lift.mono (fun vs H1 ⟨ds, ρ1, h1, x1, fr1, r1, p1⟩ => ?_) (bindN fr p)
  obtain ⟨es, e, p2⟩ := postN_resL p1
  have l := fr1.views r1 e
  cases l with
  | nil => exact p2.elim
  | @cons a v as vs r l =>
    cases l with
    | cons _ _ => exact p2.elim
    | nil =>
      cases a with
      | lst ds =>
        obtain ⟨b, xs, rfl, e, l⟩ := r.lst'
        exact ⟨b, xs, rfl, .inl (SqL.of e), fun q nq => postN_ok fr1 p2 nq fun H' k e => ⟨_, e, l.go k fun _ _ e => e⟩⟩
      | tup ds =>
        obtain ⟨b, xs, rfl, e, l⟩ := r.tup
        exact ⟨b, xs, rfl, .inr e, fun q nq => postN_ok fr1 p2 nq fun H' k e => ⟨_, e, l.go k fun _ _ e => e⟩⟩
      | _ => exact p2.elim
end
end T3

set_option Elab.async false
set_option linter.all false
set_option maxRecDepth 100000
set_option maxHeartbeats 2000000
namespace T3
open PySem L2

/-! ### the object that a handle names -/
def cellAt (σ : S3) (h : HD) : D → Option Cell
  | .own i => match σ[i]? with
    | some (some (.own c)) => some c
    | _ => none
  | .ref k => h[k]?
  | _ => none
def putAt (σ : S3) (h : HD) (c : Cell) : D → S3 × HD
  | .own i => (σ.set i (some (.own c)), h)
  | .ref k => (σ, h.set k c)
  | _ => (σ, h)
section
variable {K : PySem.W.Frag} {ρ ρ' μ : List Addr} {H H' : Hp} {M M' : Addr → Prop}
theorem SlR.updOwn (k : ∀ b o, H b = some o → ¬ M b → Stay o (H' b) ∧ ¬ M' b) (p : ∀ (i : Nat) (a : Addr), ρ[i]? = some a → ρ'[i]? = some a) {c' : Cell} {a : Addr} (cr : CellR K ρ' H' M' c' a) :
    ∀ {s : S3} {t : L2.St} {μ : List Addr}, SlR K ρ H M s t μ → μ.Nodup → (∀ b ∈ μ, b ≠ a → H' b = H b) → ∀ (i : Nat) (c : Cell), s[i]? = some (some (.own c)) → t[i]? = some (some (.ref a)) → SlR K ρ' H' M' (s.set i (some (.own c'))) t μ
  | _, _, _, .nil, _, _, i, c, e, _ => by simp at e
  | _, _, _, .none r, _, _, 0, c, e, _ => by simp at e
  | _, _, _, .val _ r, _, _, 0, c, e, _ => by simp at e
  | _, _, _, .own (μ := μ0) cb r, nd, ke, 0, c, e, e2 => by
    simp at e2; subst e2
    exact .own cr (r.go k p fun b m => ke b (List.mem_cons_of_mem _ m) fun q => (List.nodup_cons.mp nd).1 (q ▸ m))
  | _, _, _, .none r, nd, ke, i + 1, c, e, e2 => .none (SlR.updOwn k p cr r nd ke i c (by simpa using e) (by simpa using e2))
  | _, _, _, .val d r, nd, ke, i + 1, c, e, e2 => .val (d.go k p) (SlR.updOwn k p cr r nd ke i c (by simpa using e) (by simpa using e2))
  | _, _, _, .own (a := b) cb r, nd, ke, i + 1, c, e, e2 => by
    have e' := e
    have e2' := e2
    rw [List.getElem?_cons_succ] at e' e2'
    obtain ⟨v, h1, a', h2, m, _⟩ := SlR.var r i _ e'
    rw [e2'] at h1; cases h1; cases h2
    have nb : b ≠ a := fun q => (List.nodup_cons.mp nd).1 (q ▸ m)
    exact .own (cb.go k p (ke b List.mem_cons_self nb)) (SlR.updOwn k p cr r (List.nodup_cons.mp nd).2 (fun x m => ke x (List.mem_cons_of_mem _ m)) i c e' e2')
theorem CellsR.updAt (k : ∀ b o, H b = some o → ¬ M b → Stay o (H' b) ∧ ¬ M' b) (p : ∀ (i : Nat) (a : Addr), ρ[i]? = some a → ρ'[i]? = some a) {c' : Cell} {a : Addr} (cr : CellR K ρ' H' M' c' a) :
    ∀ {h : HD} {l : List Addr}, CellsR K ρ H M h l → l.Nodup → (∀ b ∈ l, b ≠ a → H' b = H b) → ∀ (i : Nat), l[i]? = some a → CellsR K ρ' H' M' (h.set i c') l
  | _, _, .nil, _, _, i, e => .nil
  | _, _, .cons r t, nd, ke, 0, e => by
    simp at e; subst e
    exact .cons cr (t.go k p fun b m => ke b (List.mem_cons_of_mem _ m) fun q => (List.nodup_cons.mp nd).1 (q ▸ m))
  | _, _, .cons (a := b) r t, nd, ke, i + 1, e => by
    have e' := e
    rw [List.getElem?_cons_succ] at e'
    have m := List.mem_of_getElem? e'
    have nb : b ≠ a := fun q => (List.nodup_cons.mp nd).1 (q ▸ m)
    exact .cons (r.go k p (ke b List.mem_cons_self nb)) (CellsR.updAt k p cr t (List.nodup_cons.mp nd).2 (fun x m => ke x (List.mem_cons_of_mem _ m)) i e')
end
section
variable {K : PySem.W.Frag} {N : Addr → Prop} {ρ μ : List Addr} {σ3 : S3} {h : HD} {σ : L2.St} {H : Hp}
/-- the object itself, and how it is replaced -/
theorem Fr.updAt (fr : Fr K N ρ μ σ3 h σ H) {d : D} {v : V} {c : Cell} (r : RX K N ρ μ σ3 σ H d v) (e : cellAt σ3 h d = some c) :
    ∃ a, v = .ref a ∧ Mu N ρ μ a ∧ CellR K ρ H (Mu N ρ μ) c a ∧
      ∀ (o : HO) (c' : Cell), (∀ H', (∀ b u, H b = some u → ¬ Mu N ρ μ b → Stay u (H' b) ∧ ¬ Mu N ρ μ b) → H' a = some o → CellR K ρ H' (Mu N ρ μ) c' a) →
        Fr K N ρ μ (putAt σ3 h c' d).1 (putAt σ3 h c' d).2 σ (upd H a o) ∧ Ext N ρ μ H ρ μ (upd H a o) := by
  have nd := List.nodup_append.mp fr.nd
  have fin : ∀ (a : Addr), (a ∈ ρ ∨ a ∈ μ) → ∀ o : HO, (∀ b u, H b = some u → ¬ Mu N ρ μ b → Stay u ((upd H a o) b) ∧ ¬ Mu N ρ μ b) ∧ (∀ b, b ≠ a → (upd H a o) b = H b) ∧ (∀ b, N b → (upd H a o) b = H b) ∧ Ext N ρ μ H ρ μ (upd H a o) := by
    intro a m o
    have k : ∀ b u, H b = some u → ¬ Mu N ρ μ b → Stay u ((upd H a o) b) ∧ ¬ Mu N ρ μ b := fun b u e n => ⟨.inl (by rw [upd_ne fun (q : b = a) => n (.inr (q.symm ▸ m))]; exact e), n⟩
    have ne : ∀ b, b ≠ a → (upd H a o) b = H b := fun b q => upd_ne q
    have kN : ∀ b, N b → (upd H a o) b = H b := fun b n => ne b fun q => by
      subst q
      rcases m with m | m
      · exact (fr.nN b n).1 m
      · exact (fr.nN b n).2 m
    exact ⟨k, ne, kN, ⟨[], by simp⟩, fun b u e n => (k b u e n).1, kN, fun _ _ _ n => n⟩
  cases d with
  | own i =>
    obtain ⟨c0, h1, h2⟩ := r
    have q : cellAt σ3 h (.own i) = match σ3[i]? with | some (some (.own c)) => some c | _ => none := rfl
    rw [q, h1] at e
    cases e
    obtain ⟨v', h3, a, rfl, m, cr⟩ := fr.sl.var i _ h1
    rw [h2] at h3; cases h3
    refine ⟨a, rfl, .inr (.inr m), cr, fun o c' hc => ?_⟩
    obtain ⟨k, ne, kN, x⟩ := fin a (.inr m) o
    have cr' := hc _ k upd_same
    refine ⟨⟨fr.sl.updOwn k (fun _ _ e => e) cr' nd.2.1 (fun b _ q => ne b q) i _ h1 h2, fr.hp.go k (fun _ _ e => e) fun b mb => ne b fun q => nd.2.2 b mb a m q, fr.nd, fr.nN, fun b n => by rw [kN b n]; exact fr.nT b n⟩, x⟩
  | ref j =>
    obtain ⟨a, h1, cr⟩ := fr.hp.get j c e
    have r' : Rep K ρ H (Mu N ρ μ) (.ref j) v := r
    cases r' with
    | ref e2 =>
      rw [h1] at e2; cases e2
      have m := List.mem_of_getElem? h1
      refine ⟨a, rfl, .inr (.inl m), cr, fun o c' hc => ?_⟩
      obtain ⟨k, ne, kN, x⟩ := fin a (.inl m) o
      have cr' := hc _ k upd_same
      refine ⟨⟨fr.sl.go k (fun _ _ e => e) fun b mb => ne b fun q => nd.2.2 a m b mb q.symm, CellsR.updAt k (fun _ _ e => e) cr' fr.hp nd.1 (fun b _ q => ne b q) j h1, fr.nd, fr.nN, fun b n => by rw [kN b n]; exact fr.nT b n⟩, x⟩
  | _ => cases e
end

/-! ### what is read of the state -/
def dSt {α : Type} (o : S3 → HD → Option α) : F α := fun σ h => match o σ h with
  | some a => .ok a h
  | none => .stuck
section
variable {K : PySem.W.Frag} {N : Addr → Prop} {W : WX} {ρ μ : List Addr} {σ3 : S3} {h : HD} {σ : L2.St} {H : Hp}
theorem postS_st {γ : Type} {o : S3 → HD → Option γ} {k : γ → G} {D : Ends} (p : PostS K N W (gE (dSt o) k σ3 h) ρ μ H D) : ∃ d', o σ3 h = some d' ∧ PostS K N W (k d' σ3 h) ρ μ H D := by
  cases q : o σ3 h with
  | none => simp only [gE, dSt, q] at p; exact p.elim
  | some d' => simp only [gE, dSt, q] at p; exact ⟨d', rfl, p⟩
theorem post_st {γ α β : Type} {R : RR α β} {o : S3 → HD → Option γ} {k : γ → F α} {Q : β → Hp → Prop} (p : Post K N W R (dBind (dSt o) k σ3 h) ρ μ σ3 σ H Q) : ∃ d', o σ3 h = some d' ∧ Post K N W R (k d' σ3 h) ρ μ σ3 σ H Q := by
  cases q : o σ3 h with
  | none => simp only [dBind, dSt, q] at p; exact p.elim
  | some d' => simp only [dBind, dSt, q] at p; exact ⟨d', rfl, p⟩
theorem postN_st {γ : Type} {o : S3 → HD → Option γ} {k : γ → F Cell} {Q : VK} (p : PostN K N W (dBind (dSt o) k σ3 h) ρ μ σ3 σ H Q) : ∃ d', o σ3 h = some d' ∧ PostN K N W (k d' σ3 h) ρ μ σ3 σ H Q := by
  cases q : o σ3 h with
  | none => simp only [dBind, dSt, q] at p; exact p.elim
  | some d' => simp only [dBind, dSt, q] at p; exact ⟨d', rfl, p⟩
end
def lstC : Cell → Option (List D)
  | .lst ds => some ds
  | _ => none
def dicC : Cell → Option (List (Key × D))
  | .dic ds => some ds
  | _ => none
def insC : Cell → Option (Addr × List (Str × D))
  | .ins C fs => some (C, fs)
  | _ => none
def lstAt (d : D) : S3 → HD → Option (List D) := fun σ h => (cellAt σ h d).bind lstC
def dicAt (d : D) : S3 → HD → Option (List (Key × D)) := fun σ h => (cellAt σ h d).bind dicC
def insAt (d : D) : S3 → HD → Option (Addr × List (Str × D)) := fun σ h => (cellAt σ h d).bind insC
theorem lstAt_of {d : D} {σ : S3} {h : HD} {ds : List D} (e : lstAt d σ h = some ds) : cellAt σ h d = some (.lst ds) := by
  unfold lstAt at e
  cases c : cellAt σ h d with
  | none => rw [c] at e; cases e
  | some x => rw [c] at e; cases x <;> cases e; rfl
theorem dicAt_of {d : D} {σ : S3} {h : HD} {ds : List (Key × D)} (e : dicAt d σ h = some ds) : cellAt σ h d = some (.dic ds) := by
  unfold dicAt at e
  cases c : cellAt σ h d with
  | none => rw [c] at e; cases e
  | some x => rw [c] at e; cases x <;> cases e; rfl
theorem insAt_of {d : D} {σ : S3} {h : HD} {C : Addr} {fs : List (Str × D)} (e : insAt d σ h = some (C, fs)) : cellAt σ h d = some (.ins C fs) := by
  unfold insAt at e
  cases c : cellAt σ h d with
  | none => rw [c] at e; cases e
  | some x => rw [c] at e; cases x <;> cases e; rfl
def gPut (d : D) (c : Cell) : G := fun σ h => .nx (putAt σ h c d).1 (putAt σ h c d).2
def oneOf (ds : List D) : Option D := match ds with
  | [d] => cl d
  | _ => none
theorem oneOf_ok {K : PySem.W.Frag} {N : Addr → Prop} {ρ μ : List Addr} {σ3 : S3} {σ : L2.St} {H : Hp} {ds : List D} {vs : List V} {d : D} (r : RXs K N ρ μ σ3 σ H ds vs) (e : oneOf ds = some d) : ∃ v, vs = [v] ∧ Rep K ρ H (Mu N ρ μ) d v := by
  cases r with
  | nil => cases e
  | cons a r =>
    cases r with
    | nil =>
      obtain ⟨rfl, q⟩ := RX.clean a e
      exact ⟨_, rfl, q⟩
    | cons _ _ => cases e
def cond (b : Bool) : Option Unit := if b then some () else none
theorem cond_ok {b : Bool} {u : Unit} (h : cond b = some u) : b = true := by
  unfold cond at h
  cases b with
  | true => rfl
  | false => cases h

/-! ### r.append(x) -/
def gAppend (fr : F D) (ft : F (List D)) : G := gE fr fun r => gE (dSt (lstAt r)) fun _ => gE ft fun ds => gE (dOpt (oneOf ds)) fun x => gE (dSt (lstAt r)) fun ys => gE (dOpt (cond (decide (ys.length < sizeLine)))) fun _ => gPut r (.lst (ys ++ [x]))
section
variable {X : Cx} {N : Addr → Prop} {W : WX}
theorem s_append {r e : Expr} {apos cpos pos : Pos} {fr : F D} {ft : F (List D)} (hr : PE3 X N W r fr) (he : PA3 X N W [e] ft)
    (hbase : attributeBase r "append" X.env (eval r X.env) = eval r X.env := by rfl)
    (hfew : ((backTo cpos (starEach [e] X.env)).all (fun x => !x.1) && (backToKw cpos (keywordEach [] X.env)).all (fun x => x.1.isSome)
      && decide (([e] : List Expr).length + ([] : List Keyword).length + (if ([] : List Keyword).isEmpty then 0 else 1) < 30)) = true := by rfl)
    (hline : (apos.endLine == cpos.line) = true := by rfl) (hs1 : starEach [e] X.env = (false, eval e X.env) :: starEach [] X.env := by rfl) (hplain : (backTo cpos (starEach [] X.env)).any (·.1) = false := by rfl)
    (hs : swapsWith (.Call (.Attribute r "append" apos) [e] [] cpos) none pos.line X.env = pure false := by rfl) :
    PS3 X N W (.Expr (.Call (.Attribute r "append" apos) [e] [] cpos) pos) (gAppend fr ft) := by
  refine ⟨ps_imp (ps_expr (pe_bm PySem.F.plainAttrs_list PySem.F.slot_list_append PySem.F.type_list_append mt_append hr.run he.run hbase hfew hline hs1 hplain) hs) fun D σ H ⟨ρ, μ, σ3, h, fr, p⟩ => ?_⟩
  refine Lift.mono (fun v H1 ⟨d, ρ1, h1, x1, fr1, r1, p1⟩ => ?_) (bindS fr p)
  obtain ⟨ds, e1, p2⟩ := postS_st p1
  obtain ⟨a, rfl, _, ⟨xs, e3, l3⟩, _⟩ := fr1.updAt r1 (lstAt_of e1)
  refine ⟨.inl ⟨rfl, xs, SqL.of e3⟩, ?_⟩
  refine Lift.mono (fun vs H2 ⟨es, ρ2, h2, x2, fr2, r2, p3⟩ => ?_) (bindS fr1 p2)
  obtain ⟨x, ex, p4⟩ := postS_opt p3
  obtain ⟨y, rfl, ry⟩ := oneOf_ok r2 ex
  obtain ⟨ys, e4, p5⟩ := postS_st p4
  obtain ⟨u, ec, p6⟩ := postS_opt p5
  obtain ⟨b, eb, _, ⟨zs, e6, l6⟩, up⟩ := fr2.updAt (r1.ext x2) (lstAt_of e4)
  cases eb
  have hl : zs.length < sizeLine := by rw [← l6.length]; exact of_decide_eq_true (cond_ok ec)
  refine ⟨a, zs, y, rfl, rfl, e6, hl, ?_⟩
  obtain ⟨f7, x7⟩ := up (.lst (zs ++ [y])) (.lst (ys ++ [x])) fun H' k e => ⟨_, e, RepL.snoc (ry.go k fun _ _ e => e) (l6.go k fun _ _ e => e)⟩
  exact p6 ρ2 μ σ _ x7 f7
end

/-! ### r.pop() of an object of the small heap -/
def lastD (ds : List D) : Option D := ds[ds.length - 1]?
def dPop (fr : F D) : F D := dBind fr fun r => match r with
  | .ref k => dBind (dSt (lstAt (.ref k))) fun ds => dBind (dOpt (lastD ds)) fun x => fun σ h => .ok x (h.set k (.lst ds.dropLast))
  | _ => dStuck
section
variable {X : Cx} {N : Addr → Prop} {W : WX}
theorem RepL.get {K : PySem.W.Frag} {ρ : List Addr} {H : Hp} {M : Addr → Prop} {ds : List D} {vs : List V} (l : RepL K ρ H M ds vs) {i : Nat} {d : D} (e : ds[i]? = some d) : ∃ v, vs[i]? = some v ∧ Rep K ρ H M d v := by
  obtain ⟨hi, rfl⟩ := List.getElem?_eq_some_iff.mp e
  have hj : i < vs.length := by rw [← l.length]; exact hi
  exact ⟨vs[i], List.getElem?_eq_getElem hj, l.at i hi hj⟩
theorem RepL.dropLast {K : PySem.W.Frag} {ρ : List Addr} {H : Hp} {M : Addr → Prop} : ∀ {ds : List D} {vs : List V}, RepL K ρ H M ds vs → RepL K ρ H M ds.dropLast vs.dropLast
  | _, _, .nil => .nil
  | _, _, .cons a .nil => .nil
  | _, _, .cons a (.cons b l) => .cons a (RepL.dropLast (.cons b l))
theorem RepL.setI {K : PySem.W.Frag} {ρ : List Addr} {H : Hp} {M : Addr → Prop} {d : D} {v : V} (q : Rep K ρ H M d v) : ∀ {ds : List D} {vs : List V} (i : Nat), RepL K ρ H M ds vs → RepL K ρ H M (ds.set i d) (vs.set i v)
  | _, _, _, .nil => .nil
  | _, _, 0, .cons a l => .cons q l
  | _, _, i + 1, .cons a l => .cons a (RepL.setI q i l)
theorem e_pop {r : Expr} {apos cpos : Pos} {fr : F D} (hr : PE3 X N W r fr)
    (hbase : attributeBase r "pop" X.env (eval r X.env) = eval r X.env := by rfl) (hline : (apos.endLine == cpos.line) = true := by rfl) : PE3 X N W (.Call (.Attribute r "pop" apos) [] [] cpos) (dPop fr) := by
  refine ⟨pe_imp (pe_bm0 PySem.F.plainAttrs_list PySem.F.slot_list_pop PySem.F.type_list_pop mt_pop hr.run hbase hline) fun σ H Q ⟨ρ, μ, σ3, h, fr, p⟩ => ?_⟩
  refine Lift.mono (fun v H1 ⟨d, ρ1, h1, x1, fr1, r1, p1⟩ => ?_) (bindP fr p)
  cases d with
  | ref k =>
    obtain ⟨ds, e1, p2⟩ := post_st p1
    obtain ⟨x, ex, p3⟩ := post_opt p2
    obtain ⟨a, rfl, _, ⟨xs, e3, l3⟩, up⟩ := fr1.updAt r1 (lstAt_of e1)
    obtain ⟨y, ey, ry⟩ := l3.get ex
    rw [l3.length] at ey
    refine ⟨.inl ⟨rfl, xs, SqL.of e3⟩, a, xs, y, rfl, rfl, e3, ey, ?_⟩
    obtain ⟨f7, x7⟩ := up (.lst xs.dropLast) (.lst ds.dropLast) fun H' k e => ⟨_, e, RepL.dropLast (l3.go k fun _ _ e => e)⟩
    exact p3 ρ1 _ _ x7 f7 (RX.of (ry.ext x7))
  | _ => exact p1.elim
end

/-! ### r[i] = v -/
def keyOf : D → Option Key
  | .int i => some (.inl i)
  | .str s => some (.inr s)
  | _ => none
def putD (kvs : List (Key × D)) (k : Key) (v : D) : List (Key × D) := if kvs.any (fun kv => decide (kv.1 = k)) then kvs.map (fun kv => if kv.1 = k then (kv.1, v) else kv) else kvs ++ [(k, v)]
def gPutL (fo fi fv : F D) : G := gE fv fun v => gE fo fun r => gE fi fun i => gE (dOpt (cl v)) fun v => gE (dOpt (intOf i)) fun k => gE (dSt (lstAt r)) fun ds => gE (dOpt (ixN ds.length k)) fun j => gPut r (.lst (ds.set j v))
section
variable {X : Cx} {N : Addr → Prop} {W : WX} {o i e : Expr} {fo fi fv : F D} {pos pos' : Pos}
theorem s_putL (ho : PE3 X N W o fo) (hi : PE3 X N W i fi) (he : PE3 X N W e fv)
    (ha : ∀ v, assign (.Subscript o i pos') X.env v = (do
      let ov ← holding [v] (eval o X.env)
      let iv ← holding [v, ov] (eval i X.env)
      standAt pos'
      holding [v, ov, iv] (setItem ov iv v)
      release [v, ov, iv] []) := by intro _; rfl)
    (hs : swapsWithSole [.Subscript o i pos'] e pos.line X.env = pure false := by rfl) (hw : swappedStores [.Subscript o i pos'] e X.env = pure none := by rfl)
    (h1 : (assignEach [.Subscript o i pos'] X.env).map (·.2) = [assign (.Subscript o i pos') X.env] := by rfl) : PS3 X N W (.Assign [.Subscript o i pos'] e pos) (gPutL fo fi fv) := by
  refine ⟨ps_imp (ps_asg he.run (pg_sub ho.run hi.run set_list ha) hs hw h1) fun D σ H ⟨ρ, μ, σ3, h, fr, p⟩ => ?_⟩
  refine Lift.mono (fun v H1 ⟨d, ρ1, h1, x1, fr1, r1, p1⟩ => ?_) (bindS fr p)
  refine Lift.mono (fun ov H2 ⟨od, ρ2, h2, x2, fr2, r2, p2⟩ => ?_) (bindS fr1 p1)
  refine Lift.mono (fun iv H3 ⟨id, ρ3, h3, x3, fr3, r3, p3⟩ => ?_) (bindS fr2 p2)
  obtain ⟨v', c, p4⟩ := postS_opt p3
  obtain ⟨rfl, rv⟩ := RX.clean ((r1.ext x2).ext x3) c
  obtain ⟨k, ek, p5⟩ := postS_opt p4
  have ei := intOf_ok r3 ek
  subst ei
  obtain ⟨ds, e1, p6⟩ := postS_st p5
  obtain ⟨j, ej, p7⟩ := postS_opt p6
  obtain ⟨a, rfl, _, ⟨xs, e3, l3⟩, up⟩ := fr3.updAt (r2.ext x3) (lstAt_of e1)
  refine ⟨a, xs, k, j, rfl, rfl, e3, by rw [← l3.length]; exact ej, ?_⟩
  obtain ⟨f7, x7⟩ := up (.lst (xs.set j v)) (.lst (ds.set j v')) fun H' k e => ⟨_, e, RepL.setI (rv.go k fun _ _ e => e) j (l3.go k fun _ _ e => e)⟩
  exact p7 ρ3 μ σ _ x7 f7
theorem RepK.len {K : PySem.W.Frag} {ρ : List Addr} {H : Hp} {M : Addr → Prop} {ds : List (Key × D)} {vs : List (Key × V)} (l : RepK K ρ H M ds vs) : ds.length = vs.length := by
  induction ds generalizing vs with
  | nil => cases l; rfl
  | cons _ _ ih => cases l with | cons a l => simp [ih l]
theorem RepK.any {K : PySem.W.Frag} {ρ : List Addr} {H : Hp} {M : Addr → Prop} (k : Key) : ∀ {ds : List (Key × D)} {vs : List (Key × V)}, RepK K ρ H M ds vs → ds.any (fun kv => decide (kv.1 = k)) = vs.any (fun kv => decide (kv.1 = k))
  | _, _, .nil => rfl
  | _, _, .cons a l => by simp only [List.any_cons, RepK.any k l]
theorem RepK.snoc {K : PySem.W.Frag} {ρ : List Addr} {H : Hp} {M : Addr → Prop} {k : Key} {d : D} {v : V} (q : Rep K ρ H M d v) : ∀ {ds : List (Key × D)} {vs : List (Key × V)}, RepK K ρ H M ds vs → RepK K ρ H M (ds ++ [(k, d)]) (vs ++ [(k, v)])
  | _, _, .nil => .cons q .nil
  | _, _, .cons a l => .cons a (RepK.snoc q l)
theorem RepK.put1 {K : PySem.W.Frag} {ρ : List Addr} {H : Hp} {M : Addr → Prop} {k : Key} {d : D} {v : V} (q : Rep K ρ H M d v) : ∀ {ds : List (Key × D)} {vs : List (Key × V)}, RepK K ρ H M ds vs →
    RepK K ρ H M (ds.map (fun kv => if kv.1 = k then (kv.1, d) else kv)) (vs.map (fun kv => if kv.1 = k then (kv.1, v) else kv))
  | _, _, .nil => .nil
  | _, _, .cons (k := j) a l => by
    simp only [List.map_cons]
    by_cases h : j = k
    · rw [if_pos h, if_pos h]; exact .cons q (RepK.put1 q l)
    · rw [if_neg h, if_neg h]; exact .cons a (RepK.put1 q l)
end
end T3

set_option Elab.async false
set_option linter.all false
set_option maxRecDepth 100000
set_option maxHeartbeats 2000000
namespace T3
open PySem L2

/-! ### dicts -/
def valD (kvs : List (Key × D)) (k : Key) : Option D := (kvs.find? fun kv => decide (kv.1 = k)).map (·.2)
section
variable {K : PySem.W.Frag} {ρ : List Addr} {H : Hp} {M : Addr → Prop}
theorem RepK.put (k : Key) {d : D} {v : V} (q : Rep K ρ H M d v) {ds : List (Key × D)} {vs : List (Key × V)} (l : RepK K ρ H M ds vs) : RepK K ρ H M (putD ds k d) (putK vs k v) := by
  unfold putD putK
  rw [RepK.any k l]
  by_cases c : vs.any (fun kv => decide (kv.1 = k)) = true
  · rw [if_pos c, if_pos c]; exact RepK.put1 q l
  · rw [if_neg c, if_neg c]; exact RepK.snoc q l
theorem RepK.val (k : Key) : ∀ {ds : List (Key × D)} {vs : List (Key × V)}, RepK K ρ H M ds vs → (valD ds k = none ∧ valV vs k = none) ∨ ∃ d v, valD ds k = some d ∧ valV vs k = some v ∧ Rep K ρ H M d v
  | _, _, .nil => .inl ⟨rfl, rfl⟩
  | _, _, .cons (k := j) (d := d) (v := v) (ds := ds) (vs := vs) a l => by
    by_cases h : j = k
    · exact .inr ⟨d, v, by simp [valD, h], by simp [valV, h], a⟩
    · have e1 : valD ((j, d) :: ds) k = valD ds k := by simp [valD, h]
      have e2 : valV ((j, v) :: vs) k = valV vs k := by simp [valV, h]
      rw [e1, e2]
      exact RepK.val k l
theorem RepK.get {k : Key} {ds : List (Key × D)} {vs : List (Key × V)} {d : D} (l : RepK K ρ H M ds vs) (e : valD ds k = some d) : ∃ v, valV vs k = some v ∧ Rep K ρ H M d v := by
  rcases l.val k with ⟨e1, _⟩ | ⟨d', v, e1, e2, r⟩
  · rw [e1] at e; cases e
  · rw [e1] at e; cases e; exact ⟨v, e2, r⟩
theorem RepK.isSome (k : Key) {ds : List (Key × D)} {vs : List (Key × V)} (l : RepK K ρ H M ds vs) : (valD ds k).isSome = (valV vs k).isSome := by
  rcases l.val k with ⟨e1, e2⟩ | ⟨d', v, e1, e2, r⟩ <;> rw [e1, e2] <;> rfl
theorem keyOf_ok {d : D} {v : V} {k : Key} (r : Vw K ρ H M d v) (e : keyOf d = some k) : v = kV k := by
  cases d with
  | int i => cases e; exact r.int
  | str i => cases e; exact r.str
  | _ => cases e
end
def mergeD (kvs more : List (Key × D)) : List (Key × D) := more.foldl (fun acc kv => putD acc kv.1 kv.2) kvs
theorem RepK.merge {K : PySem.W.Frag} {ρ : List Addr} {H : Hp} {M : Addr → Prop} : ∀ {ms : List (Key × D)} {ns : List (Key × V)}, RepK K ρ H M ms ns → ∀ {ds : List (Key × D)} {vs : List (Key × V)}, RepK K ρ H M ds vs → RepK K ρ H M (mergeD ds ms) (mergeK vs ns)
  | _, _, .nil, _, _, l => l
  | _, _, .cons a m, _, _, l => RepK.merge m (RepK.put _ a l)

section
variable {X : Cx} {N : Addr → Prop} {W : WX}
/-! o[i], o a dict, among the others -/
def rIxD : R2 := fun x y H Q => ∃ a v, x = .ref a ∧ DGet H a y (some v) ∧ Q v H
open PySem.Spec PyProof.Rows in
theorem ix_dict (hu : X.A.units + 64 < cLine) : IxR X rIxD := by
  intro value slice pins s σ H x y v u Q I rx ry h hs
  obtain ⟨a, w, rfl, g, q⟩ := h
  cases rx
  have hT := dict_typeIs I g
  unfold subscriptTail
  refine wpAny_bind ?_
  rw [getitemInPython_of_ne hT.not_modules]
  refine wpAny_bind (wpAny_specialOf hT PySem.F.slot_dict_getitem.lookup ?_)
  have fin : wpAny (model X.prog X.w) X.A (subscripted slice false (.ref a) u) (fun r s₃ => wpAny (model X.prog X.w) X.A (letTemporaryGo value (.ref a) r >>= fun _ => pure r) (EP X pins σ Q) X.xe s₃) X.xe s := by
    rw [hs]
    exact wpAny_operating (d_getItem (by omega) I g ry fun w' s3 I3 rw' => wpAny_bind (wpAny_letTemporaryGo (wpAny_pure ⟨w, H, I3, rw', q⟩)))
  first
    | exact wpAny_pure (wpAny_bind fin)
    | exact wpAny_bind (wpAny_pure (wpAny_bind fin))
    | exact wpAny_bind fin
def gIxD (a b : D) : Option D := match a with
  | .dic kvs => (keyOf b).bind (valD kvs)
  | _ => none
theorem k_ixD : R2ok X rIxD gIxD := fun ρ M H x y dx dy d Q r1 r2 h q => by
  cases dx with
  | dic kvs =>
    have h' : (keyOf dy).bind (valD kvs) = some d := h
    obtain ⟨k, ek, ev⟩ := Option.bind_eq_some_iff.mp h'
    obtain ⟨a, us, rfl, rd, l⟩ := r1.dic'
    obtain ⟨v, e, rv⟩ := l.get ev
    exact ⟨a, v, rfl, .inl ⟨us, k, rd, keyOf_ok r2 ek, e.symm⟩, q v rv⟩
  | _ => cases h
/-- a[b]: of a list, tuple, str, dict -/
def gIx4 (a b : D) : Option D := match gIx a b with
  | some d => some d
  | none => gIxD a b
theorem o_ix4 (hu : X.A.units + 64 < cLine) : IxR X (fun x y H Q => rIx X.K x y H Q ∨ rIxD x y H Q) := ix_seq.or (ix_dict hu)
theorem k_ix4 : R2ok X (fun x y H Q => rIx X.K x y H Q ∨ rIxD x y H Q) gIx4 := OpR.or' (f := compareOp .Lt) k_ix k_ixD

/-! x in d -/
def rInDk (neg : Bool) : R2 := fun y x H Q => ∃ a o, x = .ref a ∧ DGet H a y o ∧ Q (.bl (if neg then !o.isSome else o.isSome)) H
theorem o_inDk (hu : X.A.units + 64 < cLine) : OpR X (compareOp .In) (rInDk false) := by
  intro pins s σ H y x v u Q I ry rx ⟨a, o, e, g, q⟩
  subst e
  cases rx
  exact d_in (by omega) I g ry fun s3 I3 => ⟨.bl o.isSome, H, I3, rfl, q⟩
theorem o_notInDk (hu : X.A.units + 64 < cLine) : OpR X (compareOp .NotIn) (rInDk true) := by
  intro pins s σ H y x v u Q I ry rx ⟨a, o, e, g, q⟩
  subst e
  cases rx
  exact d_notIn (by omega) I g ry fun s3 I3 => ⟨.bl (!o.isSome), H, I3, rfl, q⟩
def gInDk (neg : Bool) (y x : D) : Option D := match x with
  | .dic kvs => (keyOf y).map fun k => .bl (if neg then !(valD kvs k).isSome else (valD kvs k).isSome)
  | _ => none
theorem k_inDk (neg : Bool) : R2ok X (rInDk neg) (gInDk neg) := fun ρ M H y x dy dx d Q r1 r2 h q => by
  cases dx with
  | dic kvs =>
    have h' : (keyOf dy).map (fun k => D.bl (if neg then !(valD kvs k).isSome else (valD kvs k).isSome)) = some d := h
    obtain ⟨k, ek, ev⟩ := Option.map_eq_some_iff.mp h'
    obtain ⟨a, us, rfl, rd, l⟩ := r2.dic'
    subst ev
    have e := l.isSome k
    refine ⟨a, valV us k, rfl, .inl ⟨us, k, rd, keyOf_ok r1 ek, rfl⟩, ?_⟩
    rw [← e]
    exact q _ (.bl _)
  | _ => cases h
def gIn4 (neg : Bool) (y x : D) : Option D := match gMem neg y x with
  | some d => some d
  | none => gInDk neg y x
theorem o_in4 (hu : X.A.units + 64 < cLine) : OpR X (compareOp .In) (fun x y H Q => rMem X.K false x y H Q ∨ rInDk false x y H Q) := (o_in hu).or (o_inDk hu)
theorem o_notIn4 (hu : X.A.units + 64 < cLine) : OpR X (compareOp .NotIn) (fun x y H Q => rMem X.K true x y H Q ∨ rInDk true x y H Q) := (o_notIn hu).or (o_notInDk hu)
theorem k_in4 (neg : Bool) : R2ok X (fun x y H Q => rMem X.K neg x y H Q ∨ rInDk neg x y H Q) (gIn4 neg) := OpR.or' (f := compareOp .Lt) (k_mem neg) (k_inDk neg)

/-! len(d) -/
def rLenD : List V → Hp → VK → Prop := fun xs H Q => ∃ a kvs, xs = [V.ref a] ∧ Rd H a (.dK kvs) ∧ Q (.int kvs.length) H
theorem call_lenRd : CallR X (.builtin "len") rLenD := by
  intro pins s σ H xs us Q I r h
  obtain ⟨a, kvs, rfl, rd, q⟩ := h
  obtain ⟨u, rfl, rx⟩ := vals1 r
  cases rx
  exact d_len I rd fun t s' I' => ⟨.int kvs.length, H, I', ⟨t, rfl⟩, q⟩
def gLen4 (ds : List D) : Option D := match gLen ds with
  | some d => some d
  | none => match ds with
    | [.dic kvs] => some (.int kvs.length)
    | _ => none
theorem k_lenD : RNok X (fun xs H Q => (∃ x n, xs = [x] ∧ LenV X.K x H n ∧ Q (.int n) H) ∨ rLenD xs H Q) gLen4 := fun ρ M H vs ds d Q l h q => by
  unfold gLen4 at h
  cases e : gLen ds with
  | some d' =>
    simp only [e] at h; cases h
    exact .inl (k_len ρ M H vs ds d Q l e q)
  | none =>
    simp only [e] at h
    cases l with
    | nil => cases h
    | @cons a v as vs r l =>
      cases l with
      | cons _ _ => cases a <;> cases h
      | nil =>
        cases a with
        | dic kvs =>
          cases h
          obtain ⟨b, us, rfl, rd, l⟩ := r.dic'
          exact .inr ⟨b, us, rfl, rd, by rw [← l.len]; exact q _ (.int _)⟩
        | _ => cases h
theorem o_len4 : CallR X (.builtin "len") (fun xs H Q => (∃ x n, xs = [x] ∧ LenV X.K x H n ∧ Q (.int n) H) ∨ rLenD xs H Q) := call_len.or call_lenRd

/-! dict(d): a copy -/
def nDictOf (t : F (List D)) : F Cell := dBind t fun ds => dBind (dResL ds) fun es => match es with
  | [.dic kvs] => dPure (.dic kvs)
  | _ => dStuck
theorem n_dictOf {x : Str} {p pos : Pos} {e : Expr} {es : List Expr} {t : F (List D)} (hg : Gl X x) (hm : X.mg x = none) (hv : bootBuiltins x = some (.type "dict")) (ha : PA3 X N W (e :: es) t) (hn : x ≠ "__name__" := by decide) (hdb : (x == ("__debug__" : Str)) = false := by decide)
    (he : starEach (e :: es) X.env = (false, eval e X.env) :: starEach es X.env := by rfl) (hpl : (backTo pos (starEach es X.env)).any (·.1) = false := by rfl) : PN3 X N W (.Call (.Name x p) (e :: es) [] pos) (nDictOf t) := by
  refine ⟨pe_imp (pe_callTy call_dictD hg hm hv ha.run hn hdb he hpl) fun σ H Q ⟨ρ, μ, σ3, h, fr, p⟩ => ?_⟩
  refine Lift.mono (fun vs H1 ⟨ds, ρ1, h1, x1, fr1, r1, p1⟩ => ?_) (bindN fr p)
  obtain ⟨es, e, p2⟩ := postN_resL p1
  have v := fr1.views r1 e
  cases v with
  | nil => exact p2.elim
  | @cons a w as vs r l =>
    cases l with
    | cons _ _ => cases a <;> exact p2.elim
    | nil =>
      cases a with
      | dic kvs =>
        obtain ⟨b, us, rfl, rd, l⟩ := r.dic'
        exact ⟨b, us, rfl, rd, fun q nq => postN_ok fr1 p2 nq fun H' k e => ⟨us, e, RepK.less (l.go k fun _ _ e => e) (fun _ m => m)⟩⟩
      | _ => exact p2.elim

/-! {} , {k: v, ..} -/
theorem n_dnew {pos : Pos} : PN3 X N W (.Dict [] [] pos) (fun _ h => .ok (.dic []) h) := by
  refine ⟨pe_imp pe_dnewK fun σ H Q ⟨ρ, μ, σ3, h, fr, p⟩ => ?_⟩
  exact fun q nq => postN_ok fr p nq fun H' k e => ⟨[], e, .nil⟩
/-- whatever is kept by others -/
def LX (X : Cx) (W : WX) (f : F D) : TE := fun σ H Q => ∃ N, Lift X.K N W (RX X.K N) f σ H Q
theorem lx_of {e : Expr} {f : F D} (h : ∀ N, PE3 X N W e f) : PE X e (LX X W f) := ⟨fun pins s σ H Q I ⟨N, q⟩ => (h N).run.run pins s σ H Q I q⟩
structure PPs3 (X : Cx) (W : WX) (pos : Pos) (keys : List (Option Expr)) (values : List Expr) (frs : List (F D × F D)) : Prop where
  run : PPs X pos keys values (frs.map fun f => (LX X W f.1, LX X W f.2))
theorem d_nil {pos : Pos} : PPs3 X W pos [] [] [] := ⟨pps_nil⟩
theorem d_cons {pos : Pos} {k v : Expr} {ks : List (Option Expr)} {vs : List Expr} {fk fv : F D} {frs : List (F D × F D)} (hk : ∀ N, PE3 X N W k fk) (hv : ∀ N, PE3 X N W v fv) (hr : PPs3 X W pos ks vs frs) : PPs3 X W pos (some k :: ks) (v :: vs) ((fk, fv) :: frs) := ⟨pps_cons (lx_of hk) (lx_of hv) hr.run⟩
def dPairs : List (F D × F D) → F (List (Key × D))
  | [] => dPure []
  | f :: r => dBind f.1 fun k => dBind f.2 fun v => dBind (dOpt (keyOf k)) fun k => dBind (dOpt (cl v)) fun v => dBind (dPairs r) fun kvs => dPure ((k, v) :: kvs)
def RPs (K : PySem.W.Frag) (N : Addr → Prop) : RR (List (Key × D)) (List (V × V)) := fun ρ μ σ3 σ H ks ps => ∃ us, ps = us.map (fun kv : Key × V => (kV kv.1, kv.2)) ∧ RepK K ρ H (Mu N ρ μ) ks us
theorem pairs_read : ∀ (frs : List (F D × F D)) (σ : L2.St) (H : Hp) (Q : List (V × V) → Hp → Prop), Lift X.K N W (RPs X.K N) (dPairs frs) σ H Q → tPairs (frs.map fun f => (LX X W f.1, LX X W f.2)) σ H Q
  | [], σ, H, Q, ⟨ρ, μ, σ3, h, fr, p⟩ => post_ok (R := RPs X.K N) fr p ⟨[], rfl, .nil⟩
  | f :: r, σ, H, Q, ⟨ρ, μ, σ3, h, fr, p⟩ => by
    refine ⟨N, Lift.mono (fun x H1 ⟨a, ρ1, h1, x1, fr1, r1, p1⟩ => ?_) (bindP fr p)⟩
    refine ⟨N, Lift.mono (fun y H2 ⟨b, ρ2, h2, x2, fr2, r2, p2⟩ => ?_) (bindP fr1 p1)⟩
    obtain ⟨k, ek, p3⟩ := post_opt p2
    obtain ⟨v, ev, p4⟩ := post_opt p3
    obtain ⟨rfl, rv⟩ := RX.clean r2 ev
    have ex : x = kV k := by
      cases a with
      | int i => cases ek; cases r1; rfl
      | str i => cases ek; cases r1; rfl
      | _ => cases ek
    refine pairs_read r σ H2 _ ?_
    refine Lift.mono (fun ps H3 ⟨kvs, ρ3, h3, x3, fr3, ⟨us, e3, l3⟩, p5⟩ => ?_) (bindP (R := RPs X.K N) fr2 p4)
    subst e3
    exact post_ok (R := RPs X.K N) fr3 p5 ⟨(k, y) :: us, by rw [ex]; rfl, .cons (rv.ext x3) l3⟩
theorem ExR.less {K : PySem.W.Frag} {ρ : List Addr} {H : Hp} {M M' : Addr → Prop} {e : Ex} {c : Value} {d : Option Addr} (r : ExR K ρ H M e c d) (s : ∀ a, M' a → M a) : ExR K ρ H M' e c d := by
  cases r with
  | mk a n l => exact .mk a (fun m => n (s _ m)) (l.go (fun _ _ e n => ⟨.inl e, fun m => n (s _ m)⟩) fun _ _ e => e)
def nDisp (frs : List (F D × F D)) : F Cell := dBind (dPairs frs) fun kvs => dBind (dOpt (cond (decide (kvs.length ≤ 15)))) fun _ => dPure (.dic (mergeD [] kvs))
theorem n_disp {pos : Pos} {keys : List (Option Expr)} {values : List Expr} {frs : List (F D × F D)} (h : PPs3 X W pos keys values frs) (hall : keys.all (·.isSome) = true := by rfl) (hl : keys.length = values.length := by rfl) (h0 : keys ≠ [] := by intro q; cases q)
    (h15 : keys.length ≤ 15 := by decide) : PN3 X N W (.Dict keys values pos) (nDisp frs) := by
  refine ⟨pe_imp (pe_disp h.run hall hl h0 h15) fun σ H Q ⟨ρ, μ, σ3, hd, fr, p⟩ => ?_⟩
  intro a na
  have nN : ¬ N a := fun m => fr.nT a m na
  obtain ⟨nw, xn⟩ := fr.newAt na (c := .dic []) (o := .dK []) fun H' k e => ⟨[], e, .nil⟩
  refine pairs_read (N := Np N a) frs σ _ _ ⟨ρ, μ, σ3, hd, nw.fr, ?_⟩
  cases q : dPairs frs σ3 hd with
  | stuck => simp only [nDisp, dBind, q] at p; exact p.elim
  | exc e h' =>
    simp only [nDisp, dBind, q] at p
    exact fun ρ' H' c d x f r => p ρ' H' c d (xn.weakN na x) f.lessN (r.less mu_n)
  | ok kvs h' =>
    simp only [nDisp, dBind, q] at p
    intro ρ' H' ps x f ⟨us, eps, l⟩
    subst eps
    have e : H' a = some (.dK []) := (x.kN a (.inr rfl)).trans upd_same
    cases c : cond (decide (kvs.length ≤ 15)) with
    | none => simp only [c, dOpt, dStuck] at p; exact p.elim
    | some u =>
      simp only [c, dOpt, dPure] at p
      have z := of_decide_eq_true (cond_ok c)
      refine ⟨e, us, rfl, by rw [← l.len]; exact z, ?_⟩
      obtain ⟨f6, k6⟩ := f.updN (o := .dK (mergeK [] us))
      have nf := f.nN a (.inr rfl)
      refine p ρ' _ a ((xn.weakN na x).updP na nN _) na ⟨fun m => ?_, f6, ⟨_, upd_same, RepK.merge (l.go k6 fun _ _ e => e) .nil⟩⟩
      rcases m with m | m | m
      · exact nN m
      · exact nf.1 m
      · exact nf.2 m
end
end T3

set_option Elab.async false
set_option linter.all false
set_option maxRecDepth 100000
set_option maxHeartbeats 2000000
namespace T3
open PySem L2

/-! ### r[i] = v of a dict -/
def gPutK (fo fi fv : F D) : G := gE fv fun v => gE fo fun r => gE fi fun i => gE (dOpt (cl v)) fun v => gE (dOpt (keyOf i)) fun k => gE (dSt (dicAt r)) fun ds => gE (dOpt (cond (decide (ds.length < sizeLine)))) fun _ => gPut r (.dic (putD ds k v))
section
variable {X : Cx} {N : Addr → Prop} {W : WX} {o i e : Expr} {fo fi fv : F D} {pos pos' : Pos}
theorem s_putK (hu : X.A.units + 64 < cLine) (ho : PE3 X N W o fo) (hi : PE3 X N W i fi) (he : PE3 X N W e fv) (hs : swapsWith e (some (.Subscript o i pos')) pos.line X.env = pure false := by rfl) : PS3 X N W (.Assign [.Subscript o i pos'] e pos) (gPutK fo fi fv) := by
  refine ⟨ps_imp (ps_dput (by omega) ho.run hi.run he.run hs) fun D σ H ⟨ρ, μ, σ3, h, fr, p⟩ => ?_⟩
  refine Lift.mono (fun v H1 ⟨d, ρ1, h1, x1, fr1, r1, p1⟩ => ?_) (bindS fr p)
  refine Lift.mono (fun ov H2 ⟨od, ρ2, h2, x2, fr2, r2, p2⟩ => ?_) (bindS fr1 p1)
  refine Lift.mono (fun iv H3 ⟨id, ρ3, h3, x3, fr3, r3, p3⟩ => ?_) (bindS fr2 p2)
  obtain ⟨v', c, p4⟩ := postS_opt p3
  obtain ⟨rfl, rv⟩ := RX.clean ((r1.ext x2).ext x3) c
  obtain ⟨k, ek, p5⟩ := postS_opt p4
  have ei : iv = kV k := by
    cases id with
    | int i => cases ek; cases r3; rfl
    | str i => cases ek; cases r3; rfl
    | _ => cases ek
  obtain ⟨ds, e1, p6⟩ := postS_st p5
  obtain ⟨u, ec, p7⟩ := postS_opt p6
  obtain ⟨a, rfl, _, ⟨us, e3, l3⟩, up⟩ := fr3.updAt (r2.ext x3) (dicAt_of e1)
  refine ⟨a, _, rfl, .inl ⟨us, k, e3, ei, by rw [← l3.len]; exact of_decide_eq_true (cond_ok ec), rfl⟩, ?_⟩
  obtain ⟨f7, x7⟩ := up (.dK (putK us k v)) (.dic (putD ds k v')) fun H' k' e => ⟨_, e, RepK.put k (rv.go k' fun _ _ e => e) (l3.go k' fun _ _ e => e)⟩
  exact p7 ρ3 μ σ _ x7 f7
end

/-! ### attributes of instances -/
section
variable {K : PySem.W.Frag} {ρ : List Addr} {H : Hp} {M : Addr → Prop}
theorem RepF.get {f : Str} {d : D} : ∀ {fs : List (Str × D)} {us : List (Str × V)}, RepF K ρ H M fs us → fs.lookup f = some d → ∃ v, us.lookup f = some v ∧ Rep K ρ H M d v
  | _, _, .nil, e => by cases e
  | _, _, .cons (k := k) a l, e => by
    by_cases h : f == k
    · simp only [List.lookup, h] at e ⊢; cases e; exact ⟨_, rfl, a⟩
    · have h : (f == k) = false := by simpa using h
      simp only [List.lookup, h] at e ⊢; exact RepF.get l e
theorem RepF.no {f : Str} : ∀ {fs : List (Str × D)} {us : List (Str × V)}, RepF K ρ H M fs us → fs.lookup f = none → us.lookup f = none
  | _, _, .nil, e => rfl
  | _, _, .cons (k := k) a l, e => by
    by_cases h : f == k
    · simp only [List.lookup, h] at e; cases e
    · have h : (f == k) = false := by simpa using h
      simp only [List.lookup, h] at e ⊢; exact RepF.no l e
theorem RepF.len : ∀ {fs : List (Str × D)} {us : List (Str × V)}, RepF K ρ H M fs us → fs.length = us.length
  | _, _, .nil => rfl
  | _, _, .cons a l => by simp [RepF.len l]
def putFD (f : Str) (v : D) : List (Str × D) → List (Str × D)
  | [] => [(f, v)]
  | (g, x) :: r => if g = f then (g, v) :: r else (g, x) :: putFD f v r
theorem RepF.put {f : Str} {d : D} {v : V} (q : Rep K ρ H M d v) : ∀ {fs : List (Str × D)} {us : List (Str × V)}, RepF K ρ H M fs us → RepF K ρ H M (putFD f d fs) (putF f v us)
  | _, _, .nil => .cons q .nil
  | _, _, .cons (k := k) a l => by
    unfold putFD putF
    by_cases h : k = f
    · rw [if_pos h, if_pos h]; exact .cons q l
    · rw [if_neg h, if_neg h]; exact .cons a (RepF.put q l)
end
/-- the class of the object and the attribute -/
def fldOf (C : Addr) (f : Str) (q : Addr × List (Str × D)) : Option D := if q.1 = C then q.2.lookup f else none
def dFld (C : Addr) (f : Str) (fe : F D) : F D := dBind fe fun r => dBind (dSt (insAt r)) fun q => dOpt (fldOf C f q)
def isC (C : Addr) (q : Addr × List (Str × D)) : Option (List (Str × D)) := if q.1 = C ∧ q.2.length < 1000 then some q.2 else none
def gFld (C : Addr) (f : Str) (fo fv : F D) : G := gE fv fun v => gE fo fun r => gE (dOpt (cl v)) fun v => gE (dSt (insAt r)) fun q => gE (dOpt (isC C q)) fun fs => gPut r (.ins C (putFD f v fs))
section
variable {X : Cx} {N : Addr → Prop} {W : WX} {o e : Expr} {fo fv : F D} {pos pos' : Pos} {C : Addr} {f : Str}
theorem e_fld (c : Cls X.K C) (n : NoAttr X.K C f) (he : PE3 X N W e fo) (hb : attributeBase e f X.env (eval e X.env) = eval e X.env := by rfl) : PE3 X N W (.Attribute e f pos) (dFld C f fo) := by
  refine ⟨pe_imp (pe_fld he.run hb) fun σ H Q ⟨ρ, μ, σ3, h, fr, p⟩ => ?_⟩
  refine Lift.mono (fun v H1 ⟨d, ρ1, h1, x1, fr1, r1, p1⟩ => ?_) (bindP fr p)
  obtain ⟨q, e1, p2⟩ := post_st p1
  obtain ⟨d', ed, p3⟩ : ∃ d', fldOf C f q = some d' ∧ Post X.K N W (RX X.K N) (.ok d' h1) ρ1 μ σ3 σ H1 Q := by
    cases ed : fldOf C f q with
    | none => rw [ed] at p2; exact p2.elim
    | some d' => rw [ed] at p2; exact ⟨d', rfl, p2⟩
  obtain ⟨C', fs⟩ := q
  obtain ⟨a, rfl, _, ⟨dx, us, e3, l3⟩, up⟩ := fr1.updAt r1 (insAt_of e1)
  unfold fldOf at ed
  by_cases ec : C' = C
  · subst ec
    rw [if_pos rfl] at ed
    obtain ⟨v, e4, rv⟩ := l3.get ed
    exact ⟨a, C', dx, us, v, rfl, e3, c, n, e4, post_ok fr1 p3 (RX.of rv)⟩
  · rw [if_neg ec] at ed; cases ed
theorem s_fld (c : Cls X.K C) (n : NoAttr X.K C f) (ho : PE3 X N W o fo) (he : PE3 X N W e fv) (hs : swapsWith e (some (.Attribute o f pos')) pos.line X.env = pure false := by rfl) : PS3 X N W (.Assign [.Attribute o f pos'] e pos) (gFld C f fo fv) := by
  refine ⟨ps_imp (ps_fld ho.run he.run hs) fun D σ H ⟨ρ, μ, σ3, h, fr, p⟩ => ?_⟩
  refine Lift.mono (fun v H1 ⟨d, ρ1, h1, x1, fr1, r1, p1⟩ => ?_) (bindS fr p)
  refine Lift.mono (fun ov H2 ⟨od, ρ2, h2, x2, fr2, r2, p2⟩ => ?_) (bindS fr1 p1)
  obtain ⟨v', c', p3⟩ := postS_opt p2
  obtain ⟨rfl, rv⟩ := RX.clean (r1.ext x2) c'
  obtain ⟨q, e1, p4⟩ := postS_st p3
  obtain ⟨fs, ed, p5⟩ := postS_opt p4
  obtain ⟨C', gs⟩ := q
  obtain ⟨a, rfl, _, ⟨dx, us, e3, l3⟩, up⟩ := fr2.updAt r2 (insAt_of e1)
  unfold isC at ed
  by_cases ec : C' = C ∧ gs.length < 1000
  · rw [if_pos ec] at ed
    cases ed
    obtain ⟨ec, z⟩ := ec
    have ec : C' = C := ec
    subst ec
    refine ⟨a, C', dx, us, rfl, e3, c, n, by rw [← l3.len]; exact z, ?_⟩
    obtain ⟨f7, x7⟩ := up (.ins C' dx (putF f v us)) (.ins C' (putFD f v' gs)) fun H' k' e => ⟨dx, _, e, RepF.put (rv.go k' fun _ _ e => e) (l3.go k' fun _ _ e => e)⟩
    exact p5 ρ2 μ σ _ x7 f7
  · rw [if_neg ec] at ed; cases ed
end

/-! ### methods -/
/-- an object of that class without an own attribute of the method's name -/
def mOk (C : Addr) (m : Str) (q : Addr × List (Str × D)) : Bool := decide (q.1 = C) && (q.2.lookup m).isNone
def dMeth (C : Addr) (m : Str) (n : Nat) (F1 : DF) (fo : F D) (t : F (List D)) : F D := dBind fo fun r => dBind (dSt (insAt r)) fun q => dBind (dOpt (cond (mOk C m q))) fun _ => dBind t fun ds => dBind (dOpt (clL (r :: ds))) fun es => fun σ h => if es.length = n then F1 es h else .stuck
section
variable {X : Cx} {N : Addr → Prop} {W : WX} {k : Nat} {f C : Addr} {fd : FuncData} {ps : List Str} {F1 : DF} {m : Str} {apos pos : Pos} {o e : Expr} {es : List Expr} {t : F (List D)} {fo : F D}
theorem mOk_of {C' : Addr} {fs : List (Str × D)} {m : Str} (h : mOk C m (C', fs) = true) : C' = C ∧ fs.lookup m = none := by
  unfold mOk at h
  have h := Bool.and_eq_true_iff.mp h
  refine ⟨of_decide_eq_true h.1, ?_⟩
  have h2 := h.2
  simp only at h2
  cases q : fs.lookup m with
  | none => rfl
  | some x => rw [q] at h2; cases h2
theorem meth_tail {ρ μ : List Addr} {σ3 : S3} {h : HD} {σ : L2.St} {H : Hp} {Q : VK} {r : D} {ds : List D} {v : V} {vs : List V} (fr : Fr X.K N ρ μ σ3 h σ H) (rr : RX X.K N ρ μ σ3 σ H r v) (rs : RXs X.K N ρ μ σ3 σ H ds vs)
    (p : Post X.K N W (RX X.K N) (dBind (dOpt (clL (r :: ds))) (fun es => fun σ h => if es.length = ps.length then F1 es h else .stuck) σ3 h) ρ μ σ3 σ H Q) : SpD X.K ps.length F1 (v :: vs) H Q (WE W σ) := by
  obtain ⟨es', c, p2⟩ := post_opt p
  have l := RXs.clean (.cons rr rs) c
  by_cases hn : es'.length = ps.length
  · refine ⟨NC N μ, ρ, h, es', fr.call, l.less fun a m => (mu_call a).mp m, hn, ?_⟩
    rw [if_pos hn] at p2
    exact post_call fr p2
  · rw [if_neg hn] at p2
    exact p2.elim
theorem e_meth {pl : Sem Bool} (c : Cls X.K C) (hm : Meth X.K C m f) (Fo : FnOk X.prog X.w X.K X.mg X.base (L2.CX X.prog X.w) k f fd ps (SpD X.K ps.length F1)) (tk : Takes X W) (hr : Room k X.A) (hb : Binds X.K fd ps []) (he : PE3 X N W o fo) (ha : PA3 X N W (e :: es) t)
    (hst : starEach (e :: es) X.env = (false, eval e X.env) :: starEach es X.env := by rfl) (hpl : (backTo pos (starEach es X.env)).any (·.1) = false := by rfl)
    (ht : eval (.Call (.Attribute o m apos) (e :: es) [] pos) X.env = (do
      let ov ← eval o X.env
      standAt apos.atName
      let (f, first) ← holding [ov] (getMethod ov m pl)
      callWith pos f first (backTo pos (starEach (e :: es) X.env)) (backToKw pos (keywordEach [] X.env))) := by rfl) :
    PE3 X N W (.Call (.Attribute o m apos) (e :: es) [] pos) (dMeth C m ps.length F1 fo t) := by
  refine ⟨⟨fun pins s σ H Q I ⟨ρ, μ, σ3, h, fr, p⟩ => ?_⟩⟩
  have q := Lift.mono (Q' := fun x H1 => ∃ a dx fs, x = .ref a ∧ H1 a = some (.ins C dx fs) ∧ fs.lookup m = none ∧ Lift X.K N W (RXs X.K N) t σ H1 fun vs H2 => SpD X.K ps.length F1 (.ref a :: vs) H2 Q (WE W σ)) (fun v H1 ⟨d, ρ1, h1, x1, fr1, r1, p1⟩ => by
    obtain ⟨⟨C', fs⟩, e1, p2⟩ := post_st p1
    obtain ⟨u, ec, p3⟩ := post_opt p2
    obtain ⟨rfl, hl⟩ := mOk_of (cond_ok ec)
    obtain ⟨a, rfl, _, ⟨dx, us, e3, l3⟩, up⟩ := fr1.updAt r1 (insAt_of e1)
    refine ⟨a, dx, us, rfl, e3, l3.no hl, ?_⟩
    exact Lift.mono (fun vs H2 ⟨ds, ρ2, h2, x2, fr2, r2, p4⟩ => meth_tail fr2 (r1.ext x2) r2 p4) (bindP fr1 p3)) (bindP (R := RX X.K N) fr p)
  refine PySem.W.methodCall_KW (pl := pl) (thn (he.run.run pins s σ H _ I q) fun u s1 ⟨x, H1, I1, rx, a, dx, fs, ex, ea, l, q1⟩ => ?_) ht
  subst ex
  obtain rfl : u = Value.ref a := rx
  refine getmeth_ok I1 ea c hm l (PySem.W.callWith_K (first := [.ref a]) (h₀ := X.base) I.ok.mod.kin hm.kp (thn (ha.run.run pos pins s1 σ H1 _ I1 q1) fun us s2 ⟨vs, H2, I2, r, q2⟩ => ⟨I2.kIn, ?_⟩) hst hpl)
  exact run_fnS (us := .ref a :: us) (vs := .ref a :: vs) Fo hr hb (passAt tk σ) I2 (.cons rfl r) q2
theorem e_meth0 {pl : Sem Bool} (c : Cls X.K C) (hm : Meth X.K C m f) (Fo : FnOk X.prog X.w X.K X.mg X.base (L2.CX X.prog X.w) k f fd ps (SpD X.K ps.length F1)) (tk : Takes X W) (hr : Room k X.A) (hb : Binds X.K fd ps []) (he : PE3 X N W o fo)
    (ht : eval (.Call (.Attribute o m apos) [] [] pos) X.env = (do
      let ov ← eval o X.env
      standAt apos.atName
      let (f, first) ← holding [ov] (getMethod ov m pl)
      callWith pos f first (backTo pos (starEach [] X.env)) (backToKw pos (keywordEach [] X.env))) := by rfl) :
    PE3 X N W (.Call (.Attribute o m apos) [] [] pos) (dMeth C m ps.length F1 fo dNil) := by
  refine ⟨⟨fun pins s σ H Q I ⟨ρ, μ, σ3, h, fr, p⟩ => ?_⟩⟩
  have q := Lift.mono (Q' := fun x H1 => ∃ a dx fs, x = .ref a ∧ H1 a = some (.ins C dx fs) ∧ fs.lookup m = none ∧ SpD X.K ps.length F1 [.ref a] H1 Q (WE W σ)) (fun v H1 ⟨d, ρ1, h1, x1, fr1, r1, p1⟩ => by
    obtain ⟨⟨C', fs⟩, e1, p2⟩ := post_st p1
    obtain ⟨u, ec, p3⟩ := post_opt p2
    obtain ⟨rfl, hl⟩ := mOk_of (cond_ok ec)
    obtain ⟨a, rfl, _, ⟨dx, us, e3, l3⟩, up⟩ := fr1.updAt r1 (insAt_of e1)
    exact ⟨a, dx, us, rfl, e3, l3.no hl, meth_tail fr1 r1 .nil p3⟩) (bindP (R := RX X.K N) fr p)
  refine PySem.W.methodCall_KW (pl := pl) (thn (he.run.run pins s σ H _ I q) fun u s1 ⟨x, H1, I1, rx, a, dx, fs, ex, ea, l, q1⟩ => ?_) ht
  subst ex
  obtain rfl : u = Value.ref a := rx
  exact getmeth_ok I1 ea c hm l (PySem.W.callWith_K0 (first := [.ref a]) I1.kIn hm.kp (run_fnS (us := [.ref a]) (vs := [.ref a]) Fo hr hb (passAt tk σ) I1 (.cons rfl .nil) q1))

/-! o.m(e, .., k = v, ..): the keywords' values behind the others -/
structure PK3 (X : Cx) (N : Addr → Prop) (W : WX) (kws : List Keyword) (f : F (List D)) : Prop where
  run : PK X kws (Lift X.K N W (RXs X.K N) f)
theorem kw_nil : PK3 X N W [] dNil := ⟨⟨fun pos pins s σ H Q I ⟨ρ, μ, σ3, h, fr, p⟩ => (pk_nil (X := X)).run pos pins s σ H Q I (post_ok (R := RXs X.K N) fr p .nil)⟩⟩
theorem kw_cons {nm : Option Str} {kpos : Pos} {kws : List Keyword} {fe : F D} {g : F (List D)} (ha : PE3 X N W e fe) (hr : PK3 X N W kws g) : PK3 X N W (⟨nm, e, kpos⟩ :: kws) (dCons fe g) := by
  refine ⟨⟨fun pos pins s σ H Q I ⟨ρ, μ, σ3, h, fr, p⟩ => (pk_cons ha.run hr.run).run pos pins s σ H Q I ?_⟩⟩
  refine Lift.mono (fun x H1 ⟨a, ρ1, h1, x1, fr1, r1, p1⟩ => ?_) (bindP fr p)
  refine Lift.mono (fun y H2 ⟨b, ρ2, h2, x2, fr2, r2, p2⟩ => ?_) (bindP fr1 p1)
  exact post_ok fr2 p2 (.cons (r1.ext x2) r2)
theorem RXs.app {K : PySem.W.Frag} {ρ μ : List Addr} {σ3 : S3} {σ : L2.St} {H : Hp} {as bs : List D} {vs us : List V} (r : RXs K N ρ μ σ3 σ H as vs) (q : RXs K N ρ μ σ3 σ H bs us) : RXs K N ρ μ σ3 σ H (as ++ bs) (vs ++ us) := by
  induction r with
  | nil => exact q
  | cons a _ ih => exact .cons a ih
def dMethK (C : Addr) (m : Str) (n1 n2 n : Nat) (F1 : DF) (fo : F D) (t tk : F (List D)) : F D := dBind fo fun r => dBind (dSt (insAt r)) fun q => dBind (dOpt (cond (mOk C m q))) fun _ => dBind t fun ds => dBind tk fun zs =>
  dBind (dOpt (cond (decide (ds.length + 1 = n1) && decide (zs.length = n2)))) fun _ => dBind (dOpt (clL (r :: (ds ++ zs)))) fun es => fun σ h => if es.length = n then F1 es h else .stuck
theorem RXs.len {K : PySem.W.Frag} {ρ μ : List Addr} {σ3 : S3} {σ : L2.St} {H : Hp} {as : List D} {vs : List V} (r : RXs K N ρ μ σ3 σ H as vs) : as.length = vs.length := by
  induction r with
  | nil => rfl
  | cons a _ ih => simp [ih]
theorem e_methK {pl : Sem Bool} {kws : List Keyword} {ks : List Str} {n : Nat} {g : F (List D)} (c : Cls X.K C) (hm : Meth X.K C m f) (Fo : FnOk X.prog X.w X.K X.mg X.base (L2.CX X.prog X.w) k f fd ps (SpD X.K ps.length F1)) (tk : Takes X W) (hr : Room k X.A)
    (hb : KBn X.K fd ps n ks (fun us ws => us ++ ws) (fun vs zs => vs ++ zs)) (he : PE3 X N W o fo) (ha : PA3 X N W (e :: es) t) (hkw : PK3 X N W kws g)
    (hall : (backToKw pos (keywordEach kws X.env)).all (·.1.isSome) = true := by rfl) (hks : (backToKw pos (keywordEach kws X.env)).filterMap (·.1) = ks := by rfl)
    (hst : starEach (e :: es) X.env = (false, eval e X.env) :: starEach es X.env := by rfl)
    (hpl : ((backTo pos (starEach (e :: es) X.env)).any (·.1) || (backToKw pos (keywordEach kws X.env)).any (·.1.isNone)) = false := by rfl)
    (ht : eval (.Call (.Attribute o m apos) (e :: es) kws pos) X.env = (do
      let ov ← eval o X.env
      standAt apos.atName
      let (f, first) ← holding [ov] (getMethod ov m pl)
      callWith pos f first (backTo pos (starEach (e :: es) X.env)) (backToKw pos (keywordEach kws X.env))) := by rfl) :
    PE3 X N W (.Call (.Attribute o m apos) (e :: es) kws pos) (dMethK C m n ks.length ps.length F1 fo t g) := by
  refine ⟨⟨fun pins s σ H Q I ⟨ρ, μ, σ3, h, fr, p⟩ => ?_⟩⟩
  have q := Lift.mono (Q' := fun x H1 => ∃ a dx fs, x = .ref a ∧ H1 a = some (.ins C dx fs) ∧ fs.lookup m = none ∧ Lift X.K N W (RXs X.K N) t σ H1 fun vs H2 => Lift X.K N W (RXs X.K N) g σ H2 fun zs H3 => vs.length + 1 = n ∧ zs.length = ks.length ∧
      SpD X.K ps.length F1 (.ref a :: (vs ++ zs)) H3 Q (WE W σ)) (fun v H1 ⟨d, ρ1, h1, x1, fr1, r1, p1⟩ => by
    obtain ⟨⟨C', fs⟩, e1, p2⟩ := post_st p1
    obtain ⟨u, ec, p3⟩ := post_opt p2
    obtain ⟨rfl, hl⟩ := mOk_of (cond_ok ec)
    obtain ⟨a, rfl, _, ⟨dx, us, e3, l3⟩, up⟩ := fr1.updAt r1 (insAt_of e1)
    refine ⟨a, dx, us, rfl, e3, l3.no hl, ?_⟩
    refine Lift.mono (fun vs H2 ⟨ds, ρ2, h2, x2, fr2, r2, p4⟩ => ?_) (bindP fr1 p3)
    refine Lift.mono (fun zs H3 ⟨es, ρ3, h3, x3, fr3, r3, p5⟩ => ?_) (bindP fr2 p4)
    obtain ⟨u, ec, p6⟩ := post_opt p5
    have z := Bool.and_eq_true_iff.mp (cond_ok ec)
    refine ⟨?_, ?_, meth_tail fr3 ((r1.ext x2).ext x3) (RXs.app (r2.ext x3) r3) p6⟩
    · rw [← r2.len]; exact of_decide_eq_true z.1
    · rw [← r3.len]; exact of_decide_eq_true z.2) (bindP (R := RX X.K N) fr p)
  refine PySem.W.methodCall_KW (pl := pl) (thn (he.run.run pins s σ H _ I q) fun u s1 ⟨x, H1, I1, rx, a, dx, fs, ex, ea, l, q1⟩ => ?_) ht
  subst ex
  obtain rfl : u = Value.ref a := rx
  refine getmeth_ok I1 ea c hm l (PySem.W.callWith_KW (first := [.ref a]) (h₀ := X.base) I.ok.mod.kin hm.kp hall (thn (ha.run.run pos pins s1 σ H1 _ I1 q1) fun us s2 ⟨vs, H2, I2, r, q2⟩ =>
    thn (hkw.run.run pos pins s2 σ H2 _ I2 q2) fun ws s3 ⟨zs, H3, I3, rz, l1, l2, q3⟩ => ⟨I3.kIn, ?_⟩) hpl hst)
  rw [hks]
  have r0 : Vals (V.ref a :: vs) (Value.ref a :: us) := .cons rfl r
  refine wpAny_call (codeAny_mono (Fo.run X.A X.stack s3 H3 _ ((Value.ref a :: us) ++ ws) ((V.ref a :: vs) ++ zs) Q (WE W σ) hr I3.env0 (hb.to s3 (Value.ref a :: us) ws I3.kIn (by rw [← r0.length]; exact l1) (by rw [← rz.length]; exact l2)) (hb.rel r0 rz) q3) fun rr s' hq => ?_)
  cases rr with
  | error e => exact passAt tk σ pins H3 s3 e s' I3 hq
  | ok fl => cases fl with
    | ret u => exact I3.after hq
    | _ => exact False.elim hq

/-! ### C(e, ..): a new object -/
def dMake (C : Addr) (n : Nat) (F1 : DF) (t : F (List D)) : F D := dBind t fun ds => dBind (dOpt (clL ds)) fun es => fun σ h => if es.length + 1 = n then match F1 (.ref h.length :: es) (h ++ [.ins C []]) with
    | .ok .non h' => .ok (.ref h.length) h'
    | .exc e h' => .exc e h'
    | _ => .stuck
  else .stuck
theorem e_make {x : Str} {p : Pos} (M : Mk X.K C f) (Fo : FnOk X.prog X.w X.K X.mg X.base (L2.CX X.prog X.w) k f fd ps (SpD X.K ps.length F1)) (tk : Takes X W) (hr : Room (k + 1) X.A) (hg : Gl X x) (hm : X.mg x = some (.ref C)) (hb : Binds X.K fd ps [])
    (ha : PA3 X N W (e :: es) t) (hdb : (x == ("__debug__" : Str)) = false := by decide) (he : starEach (e :: es) X.env = (false, eval e X.env) :: starEach es X.env := by rfl) (hpl : (backTo pos (starEach es X.env)).any (·.1) = false := by rfl) :
    PE3 X N W (.Call (.Name x p) (e :: es) [] pos) (dMake C ps.length F1 t) := by
  refine ⟨⟨fun pins s σ H Q I ⟨ρ, μ, σ3, h, fr, pp⟩ => ?_⟩⟩
  have q := Lift.mono (Q' := fun vs H1 => ∀ x dx, H1 x = none → H1 dx = none → dx ≠ x → SpD X.K ps.length F1 (.ref x :: vs) (upd (upd H1 dx (.own x)) x (.ins C dx [])) (fun v H2 => v = .non ∧ Q (.ref x) H2) (WE W σ)) (fun vs H1 ⟨ds, ρ1, h1, x1, fr1, r1, p1⟩ => by
    intro x dx nx ndx ne
    obtain ⟨es', c, p2⟩ := post_opt p1
    have l := RXs.clean r1 c
    obtain ⟨f2, x2⟩ := fr1.alloc ndx (.own x)
    have nx2 : (upd H1 dx (HO.own x)) x = none := by rw [upd_ne ne.symm]; exact nx
    obtain ⟨nw, x3⟩ := f2.newAt nx2 (c := .ins C []) (o := .ins C dx []) fun H' k e => ⟨dx, [], e, .nil⟩
    have xx := x2.trans x3
    obtain ⟨f4, x4, r4⟩ := nw.share xx nx
    by_cases hn : es'.length + 1 = ps.length
    · rw [if_pos hn] at p2
      have hl : (D.ref h1.length :: es').length = ps.length := by simpa using hn
      refine ⟨NC N μ, ρ1 ++ [x], h1 ++ [.ins C []], .ref h1.length :: es', f4.call, .cons (r4.less fun a m => (mu_call a).mp m) ((l.ext x4).less fun a m => (mu_call a).mp m), hl, ?_⟩
      have back : Post X.K N W (RX X.K N) (F1 (.ref h1.length :: es') (h1 ++ [.ins C []])) (ρ1 ++ [x]) μ σ3 σ (upd (upd H1 dx (.own x)) x (.ins C dx [])) (fun v H2 => v = .non ∧ Q (.ref x) H2) := by
        cases q : F1 (.ref h1.length :: es') (h1 ++ [.ins C []]) with
        | ok d h' =>
          rw [q] at p2
          intro ρ' H' b x5 f5 r5
          cases d with
          | non =>
            cases r5
            exact ⟨rfl, p2 ρ' H' _ (x4.trans x5) f5 (RX.of (r4.ext x5))⟩
          | _ => exact p2.elim
        | exc e h' =>
          rw [q] at p2
          exact fun ρ' H' c d x5 f5 r5 => p2 ρ' H' c d (x4.trans x5) f5 r5
        | stuck => rw [q] at p2; exact p2.elim
      exact post_call f4 back
    · rw [if_neg hn] at p2; exact p2.elim) (bindP (R := RXs X.K N) fr pp)
  refine wpAny_Call_Name_kw (ld_glob I hg hm ?_ hdb)
  refine PySem.W.callWith_K (h₀ := X.base) I.ok.mod.kin M.kp (thn (ha.run.run pos pins s σ H _ I q) fun us s1 ⟨vs, H1, I1, r, q1⟩ => ⟨I1.kIn, ?_⟩) he hpl
  have hq := q1 (s1.heap.objs.size + 1) s1.heap.objs.size (I1.hok.fresh (Nat.le_succ _)) (I1.hok.fresh (Nat.le_refl _)) (Nat.ne_of_lt (Nat.lt_succ_self _))
  have I2 := Inv.made (C := C) I1
  have r2 : Vals (V.ref (s1.heap.objs.size + 1) :: vs) (Value.ref (s1.heap.objs.size + 1) :: us) := .cons rfl r
  have hl : (Value.ref (s1.heap.objs.size + 1) :: us).length = ps.length := r2.length.symm.trans (Fo.len _ _ _ _ hq)
  have b := hb _ (Value.ref (s1.heap.objs.size + 1) :: us) I2.kIn (by rw [List.append_nil]; exact hl)
  rw [List.append_nil] at b
  refine wpAny_call (make_map (f := f) I1.kIn M.makes M.init (beq_iff_eq.mp M.fn) (codeAny_mono (Fo.run _ X.stack _ _ ⟨Value.ref (s1.heap.objs.size + 1) :: us, []⟩ _ _ _ (WE W σ) (hr.make C us []) (I2.env0.make C us []) b r2 hq) fun rr s' hq' => ?_))
  cases rr with
  | error e => exact passAt tk σ pins _ _ e s' I2 hq'
  | ok fl => cases fl with
    | ret u =>
      obtain ⟨v, H', I3, rv, ev, q3⟩ := I2.after hq'
      subst ev
      exact ⟨rv, ⟨V.ref (s1.heap.objs.size + 1), H', I3, rfl, q3⟩⟩
    | _ => exact False.elim hq'

/-! ### e.p, a property; its getter lets nothing out -/
def dProp (C : Addr) (F1 : DF) (fo : F D) : F D := dBind fo fun r => dBind (dSt (insAt r)) fun q => dBind (dOpt (cond (decide (q.1 = C)))) fun _ => dBind (dOpt (cl r)) fun r => fun σ h => match F1 [r] h with
  | .ok d h' => .ok d h'
  | _ => .stuck
theorem e_prop {pr : Addr} (c : Cls X.K C) (hp : PropOf X.K C m pr f) (Fo : FnOk X.prog X.w X.K X.mg X.base (L2.CX X.prog X.w) k f fd ps (SpD X.K ps.length F1)) (hr : Room (k + 1) X.A) (hb : Binds X.K fd ps []) (h1 : ps.length = 1) (he : PE3 X N W o fo)
    (hab : attributeBase o m X.env (eval o X.env) = eval o X.env := by rfl) : PE3 X N W (.Attribute o m pos) (dProp C F1 fo) := by
  have hx : Passes (L2.CX X.prog X.w) X.nox E0 := fun _ _ _ _ _ _ _ h => by
    obtain ⟨_, _, _, _, _, _, _, _, _, _, _, _, e⟩ := h
    exact e.elim
  refine ⟨pe_imp (pe_prop (dvs := []) (ds := []) (E := E0) he.run c hp Fo hr hb .nil hx hab) fun σ H Q ⟨ρ, μ, σ3, h, fr, p⟩ => ?_⟩
  refine Lift.mono (fun v H1 ⟨d, ρ1, h1', x1, fr1, r1, p1⟩ => ?_) (bindP (R := RX X.K N) fr p)
  obtain ⟨⟨C', fs⟩, e1, p2⟩ := post_st p1
  obtain ⟨u, ec, p3⟩ := post_opt p2
  have ec : C' = C := of_decide_eq_true (cond_ok ec)
  subst ec
  obtain ⟨r', er, p4⟩ := post_opt p3
  obtain ⟨rfl, rr⟩ := RX.clean r1 er
  obtain ⟨a, rfl, _, ⟨dx, us, e3, l3⟩, up⟩ := fr1.updAt r1 (insAt_of e1)
  refine ⟨a, dx, us, rfl, e3, NC N μ, ρ1, h1', [r'], fr1.call, .cons (rr.less fun a m => (mu_call a).mp m) .nil, h1.symm, ?_⟩
  cases q : F1 [r'] h1' with
  | ok d' h' =>
    simp only [q] at p4
    intro ρ' H' v x f r
    obtain ⟨f2, x2⟩ := fr1.back x f
    exact p4 ρ' H' v x2 f2 (RX.of (r.less fun a m => (mu_call a).mpr m))
  | exc e h' => simp only [q] at p4; exact p4.elim
  | stuck => simp only [q] at p4; exact p4.elim
end
end T3

set_option Elab.async false
set_option linter.all false
set_option maxRecDepth 100000
set_option maxHeartbeats 2000000
namespace T3
open PySem L2

/-! ### isinstance of built-in types -/
def tyD : D → Option String
  | .non => some "NoneType"
  | .bl _ => some "bool"
  | .int _ => some "int"
  | .str _ => some "str"
  | .tup _ => some "tuple"
  | .lst _ => some "list"
  | .dic _ => some "dict"
  | .scr _ => some "list"
  | _ => none
section
variable {K : PySem.W.Frag} {ρ : List Addr} {H : Hp} {M : Addr → Prop}
theorem sql_tyx {a : Addr} {xs : List V} (s : SqL K H a xs) : TyX K H (.ref a) (.type "list") := by
  rcases s with r | ⟨o, its, n, e, c, _⟩
  · rcases r with r | ⟨o, r⟩
    · exact .base (.lst r)
    · exact .base (.frz r)
  · exact .kList e c
theorem sqt_tyx {a : Addr} {xs : List V} (s : SqT K H a xs) : TyX K H (.ref a) (.type "tuple") := by
  rcases s with r | s
  · rcases r with r | ⟨o, r⟩
    · exact .base (.tup r)
    · exact .fTuple r
  · obtain ⟨o, its, n, e, c, _⟩ := s
    exact .kTuple e c
theorem tyD_ok {d : D} {v : V} {t : String} (r : Vw K ρ H M d v) (h : tyD d = some t) : TyX K H v (.type t) := by
  cases d with
  | non => cases h; rw [r.non]; exact .base .non
  | bl b => cases h; rw [r.bl]; exact .base (.bl b)
  | int b => cases h; rw [r.int]; exact .base (.int b)
  | str b => cases h; rw [r.str]; exact .base (.str b)
  | tup ds => cases h; obtain ⟨a, xs, rfl, s, _⟩ := r.tup; exact sqt_tyx s
  | lst ds => cases h; obtain ⟨a, xs, rfl, e, _⟩ := r.lst'; exact .base (.lst e)
  | dic ds =>
    cases h; obtain ⟨a, us, rfl, e, _⟩ := r.dic'
    rcases e with e | ⟨o, e⟩
    · exact .base (.dK e)
    · exact .fDict e
  | scr ns => cases h; obtain ⟨a, rfl, s⟩ := r.scr; exact sql_tyx s
  | ref k => cases h
  | own k => cases h
end
def isiD (T : String) (d : D) : Option Bool := (tyD d).bind fun t => kitB t T
def dIsi (T : String) (f : F D) : F D := dBind f fun a => dBind (dRes a) fun d => dBind (dOpt (isiD T d)) fun b => dPure (.bl b)
section
variable {X : Cx} {N : Addr → Prop} {W : WX}
theorem e_isi {T : String} {x : Str} {e : Expr} {p p2 pos : Pos} {f : F D} (hg : Gl X "isinstance") (hm : X.mg "isinstance" = none) (hg2 : Gl X x) (hm2 : X.mg x = none) (hv2 : bootBuiltins x = some (.type T)) (he : PE3 X N W e f)
    (hn2 : x ≠ "__name__" := by decide) (hd2 : (x == ("__debug__" : Str)) = false := by decide)
    (hs : starEach [e, .Name x p2] X.env = (false, eval e X.env) :: starEach [.Name x p2] X.env := by rfl) (hs2 : starEach [.Name x p2] X.env = (false, eval (.Name x p2) X.env) :: starEach [] X.env := by rfl)
    (hpl : (backTo pos (starEach [.Name x p2] X.env)).any (·.1) = false := by rfl) : PE3 X N W (.Call (.Name "isinstance" p) [e, .Name x p2] [] pos) (dIsi T f) := by
  have hb : PE X (.Name x p2) (tC (.ty T)) := pe_bltn hg2 hm2 hv2 rfl hn2 hd2
  have hv : bootBuiltins "isinstance" = some (.builtin "isinstance") := by decide +kernel
  refine ⟨pe_imp (pe_callB call_isi hg hm hv (pa_cons he.run (pa_cons hb pa_nil hs2) hs) (by decide) (by decide) hs hpl) fun σ H Q ⟨ρ, μ, σ3, h, fr, p⟩ => ?_⟩
  refine Lift.mono (fun v H1 ⟨a, ρ1, h1, x1, fr1, r1, p1⟩ => ?_) (bindP (R := RX X.K N) fr p)
  obtain ⟨d, e1, p2⟩ := post_res p1
  obtain ⟨b, e2, p3⟩ := post_opt p2
  have w := fr1.view r1 e1
  obtain ⟨t, e3, e4⟩ := Option.bind_eq_some_iff.mp e2
  exact ⟨v, .ty T, .type t, .type T, b, rfl, .ty T, tyD_ok w e3, kit_ty e4, post_ok fr1 p3 (RX.of (Rep.bl b))⟩

/-! isinstance(e, C), C the class of the object -/
structure ClsI (K : PySem.W.Frag) (C : Addr) : Prop where
  cl : Cls K C
  ha : PySem.W.findIn K (.ref C) "__class__" = some (some (.builtin "object.__class__"))
  hn : PySem.W.specialIn K (.builtin "object.__class__") "__get__" = some (some (.builtin "getset_descriptor.__get__"))
  htk : PySem.W.takesIn K (.builtin "object.__class__") = some true
  hm : PySem.W.mroIn K C (.type "object") = some true
def dIsiC (C : Addr) (f : F D) : F D := dBind f fun r => dBind (dSt (insAt r)) fun q => dBind (dOpt (cond (decide (q.1 = C)))) fun _ => dPure (.bl true)
theorem e_isiC {C : Addr} {x : Str} {e : Expr} {p p2 pos : Pos} {f : F D} (c : ClsI X.K C) (hg : Gl X "isinstance") (hm : X.mg "isinstance" = none) (hg2 : Gl X x) (hm2 : X.mg x = some (.ref C)) (he : PE3 X N W e f) (hd2 : (x == ("__debug__" : Str)) = false := by decide)
    (hs : starEach [e, .Name x p2] X.env = (false, eval e X.env) :: starEach [.Name x p2] X.env := by rfl) (hs2 : starEach [.Name x p2] X.env = (false, eval (.Name x p2) X.env) :: starEach [] X.env := by rfl)
    (hpl : (backTo pos (starEach [.Name x p2] X.env)).any (·.1) = false := by rfl) : PE3 X N W (.Call (.Name "isinstance" p) [e, .Name x p2] [] pos) (dIsiC C f) := by
  have hb : PE X (.Name x p2) (tC (.ref C)) := pe_glob hg2 hm2 rfl hd2
  have hv : bootBuiltins "isinstance" = some (.builtin "isinstance") := by decide +kernel
  refine ⟨pe_imp (pe_callB call_isi hg hm hv (pa_cons he.run (pa_cons hb pa_nil hs2) hs) (by decide) (by decide) hs hpl) fun σ H Q ⟨ρ, μ, σ3, h, fr, p⟩ => ?_⟩
  refine Lift.mono (fun v H1 ⟨a, ρ1, h1, x1, fr1, r1, p1⟩ => ?_) (bindP (R := RX X.K N) fr p)
  obtain ⟨⟨C', fs⟩, e1, p2⟩ := post_st p1
  obtain ⟨u, ec, p3⟩ := post_opt p2
  have ec : C' = C := of_decide_eq_true (cond_ok ec)
  subst ec
  obtain ⟨a, rfl, _, ⟨dx, us, e3, l3⟩, up⟩ := fr1.updAt r1 (insAt_of e1)
  refine ⟨.ref a, .ref C', .ref C', .ref C', true, rfl, .own C', .base (.ins e3 c.cl c.ha c.hn c.htk c.hm), ?_, post_ok fr1 p3 (RX.of (Rep.bl true))⟩
  unfold PySem.W.kitOne
  rw [if_pos (by simp)]

/-! ### a != b by an own __eq__ -/
structure EqC (K : PySem.W.Frag) (C f : Addr) : Prop where
  eq : PySem.W.findIn K (.ref C) "__eq__" = some (some (.ref f))
  fn : PySem.W.isFn K (.ref f) = true
  ne : PySem.W.findIn K (.ref C) "__ne__" = some (some (.builtin "object.__ne__"))
  ob : PySem.W.mroIn K C (.type "object") = some true
open PySem.Spec PyProof.Rows in
theorem ne_rich {prog : Program} {w : World} {A : Around} {E : Value → Shared → Prop} {s : Shared} {K : PySem.W.Frag} {x y C f : Addr} {ox oy : Obj} {od od' : Option Obj} {Q : Value → Shared → Prop} (hu : A.units + 64 < cLine) (X : K.In s.heap)
    (I : PySem.W.InstAt s.heap x ox C od) (J : PySem.W.InstAt s.heap y oy C od') (c : EqC K C f) (h : wpAny (model prog w) A.in1 (call (.ref f) [.ref x, .ref y]) (fun v s' => ∃ b, v = .bool b ∧ Q (.bool (!b)) s') E s) :
    wpAny (model prog w) A (richCompare .NotEq (.ref x) (.ref y)) Q E s := by
  have body : ∀ {R : Fin → Shared → Prop}, (∀ b s', Q (.bool (!b)) s' → R (.done (.ret (.bool (!b)))) s') → wpAny (model prog w) A.in1 (Builtin.«object.__ne__» ⟨[.ref x, .ref y], []⟩) R E s := by
    intro R hR
    have hu1 : A.in1.units < cLine := by show A.units + 1 < cLine; omega
    unfold Builtin.«object.__ne__»
    repeat (first
      | with_reducible refine wpAny_cRoomFor hu1 ?_
      | (refine wpAny_bind (m := callSpecialIfBound? (.ref x) (Str.ofString "__eq__") [.ref y]) (PySem.W.ifBound_K X I c.eq c.fn (wpAny_mono h (fun v s' hv => by
          obtain ⟨b, rfl, hq⟩ := hv
          repeat (first | exact hR b _ hq | exact wpAny_pure (hR b _ hq) | (refine wpAny_bind (m := truthy (.bool _)) (wpAny_truthy_bool ?_)) | wp_step)) fun _ _ e => e)))
      | wp_step)
  have run : ∀ {R : Value → Shared → Prop}, (∀ b s', Q (.bool (!b)) s' → R (.bool (!b)) s') → wpAny (model prog w) A (call (.builtin "object.__ne__") [.ref x, .ref y]) R E s := fun hR =>
    wpAny_call (codeAny_call_builtin PySem.F.cmp_object.ne.plain PySem.F.cmpEntry_ne (PySem.W.check_slot PySem.F.cmpKind_ne PySem.F.cmpSplit_ne (I.type.andThen (PySem.W.looks_mroIn X c.ob)) (PySem.F.cmpArgs_ne _ _) (body fun b s' q => hR b s' q)))
  have one : wpAny (model prog w) A (tryCompare (.ref x) "__ne__" (.ref y)) (fun r s' => ∃ v, r = some v ∧ Q v s') E s := by
    have bnd : wpAny (model prog w) A (callSpecialIfBound? (.ref x) "__ne__" [.ref y]) (fun r s' => ∃ b, r = some (.bool (!b)) ∧ Q (.bool (!b)) s') E s := by
      simp only [callSpecialIfBound?, bindSpecialIfBound?]
      refine wpAny_holding (wpAny_bind (wpAny_bind (wpAny_bind (I.type.here ((PySem.W.looks_findIn X c.ne).here ?_)))))
      refine wpAny_bind (wpAny_askSetting (wpAny_ite ?_))
      have fin : wpAny (model prog w) A (call (.builtin "object.__ne__") ([.ref x] ++ [.ref y]) >>= fun v => pure (some v)) (fun r s' => ∃ b, r = some (.bool (!b)) ∧ Q (.bool (!b)) s') E s :=
        wpAny_bind (wpAny_mono (run (R := fun v s' => ∃ b, v = .bool (!b) ∧ Q (.bool (!b)) s') fun b s' q => ⟨b, rfl, q⟩) (fun v s' hv => by
          obtain ⟨b, rfl, q⟩ := hv
          exact wpAny_pure ⟨b, rfl, q⟩) fun _ _ e => e)
      split
      · exact wpAny_bind (wpAny_of_eq (PySem.F.cmp_object.ne.bind _) (wpAny_pure (by exact fin)))
      · exact wpAny_tryCatch (wpAny_bind (wpAny_of_eq (PySem.F.cmp_object.ne.bind _) (wpAny_pure (by exact fin))))
    unfold tryCompare
    refine wpAny_bind (wpAny_mono bnd (fun r s' hv => ?_) fun _ _ e => e)
    obtain ⟨b, rfl, q⟩ := hv
    exact wpAny_pure ⟨_, rfl, q⟩
  simp only [richCompare, cmpInfo_NotEq, oneThing_ref]
  refine wpAny_holding (wpAny_bind (wpAny_cRoomFor (by omega) ?_))
  refine wpAny_bind (I.type.here (wpAny_bind (J.type.here ?_)))
  rw [show (Value.ref C != Value.ref C) = false from by simp]
  simp only [Bool.false_eq_true, if_false]
  refine wpAny_bind (wpAny_pure ?_)
  simp only [Bool.false_eq_true, if_false]
  refine wpAny_bind (wpAny_mono one (fun r s' z => ?_) fun _ _ e => e)
  obtain ⟨v, rfl, hq⟩ := z
  exact wpAny_pure hq
def bOf : D → Option Bool
  | .bl b => some b
  | _ => none
def dNeI (C : Addr) (F1 : DF) (fa fb : F D) : F D := dBind fa fun a => dBind fb fun b => dBind (dSt (insAt a)) fun q => dBind (dSt (insAt b)) fun q' => dBind (dOpt (cond (decide (q.1 = C) && decide (q'.1 = C)))) fun _ =>
  dBind (dOpt (clL [a, b])) fun es => fun σ h => match F1 es h with
  | .ok (.bl r) h' => .ok (.bl (!r)) h'
  | _ => .stuck
def rNeI (K : PySem.W.Frag) (C : Addr) (n : Nat) (F1 : DF) : R2 := fun x y H Q => ∃ a b dx dy fs gs, x = .ref a ∧ y = .ref b ∧ H a = some (.ins C dx fs) ∧ H b = some (.ins C dy gs) ∧ SpD K n F1 [.ref a, .ref b] H (fun v H' => ∃ r, v = .bl r ∧ Q (.bl (!r)) H') E0
open PySem.Spec PyProof.Rows in
theorem o_neI {C f : Addr} {k : Nat} {fd : FuncData} {ps : List Str} {F1 : DF} (c : EqC X.K C f) (Fo : FnOk X.prog X.w X.K X.mg X.base (L2.CX X.prog X.w) k f fd ps (SpD X.K ps.length F1)) (hr : Room (k + 1) X.A) (hb : Binds X.K fd ps []) :
    OpR X (compareOp .NotEq) (rNeI X.K C ps.length F1) := by
  intro pins s σ H x y v u Q I rx ry ⟨a, b, dx, dy, fs, gs, ex, ey, ha, hb', hsp⟩
  subst ex ey
  cases rx
  cases ry
  obtain ⟨mA, J, _⟩ := ins_get I.hok ha
  obtain ⟨mB, J', _⟩ := ins_get I.hok hb'
  obtain ⟨od, J, _⟩ := J.look
  obtain ⟨od', J', _⟩ := J'.look
  unfold compareOp
  refine ne_rich hr.units I.kIn J J' c ?_
  have r2 : Vals [V.ref a, V.ref b] [Value.ref a, Value.ref b] := .cons rfl (.cons rfl .nil)
  have hl := Fo.len _ _ _ _ hsp
  have bb := hb s [.ref a, .ref b] I.kIn (by simpa using hl)
  rw [List.append_nil] at bb
  refine wpAny_call (codeAny_mono (Fo.run X.A.in1 X.stack s H ⟨[.ref a, .ref b], []⟩ _ _ _ E0 hr.in1 I.env0.in1 bb r2 hsp) fun r s' hq => ?_)
  cases r with
  | error e =>
    obtain ⟨_, _, _, _, _, _, _, _, _, _, _, _, e⟩ := hq
    exact e.elim
  | ok fl => cases fl with
    | ret w =>
      obtain ⟨z, H', I', rz, b', ez, q⟩ := I.after hq
      subst ez
      cases rz
      exact ⟨b', rfl, .bl (!b'), H', I', rfl, q⟩
    | _ => exact False.elim hq
theorem neI_read {C : Addr} {ps : List Str} {F1 : DF} {fa fb : F D} (h2 : ps.length = 2) {σ : L2.St} {H : Hp} {Q : VK} (qq : Lift X.K N W (RX X.K N) (dNeI C F1 fa fb) σ H Q) :
    tOp (rNeI X.K C ps.length F1) (Lift X.K N W (RX X.K N) fa) (Lift X.K N W (RX X.K N) fb) σ H Q := by
  obtain ⟨ρ, μ, σ3, h, fr, p⟩ := qq
  refine Lift.mono (fun x H1 ⟨a, ρ1, h1, x1, fr1, r1, p1⟩ => ?_) (bindP (R := RX X.K N) fr p)
  refine Lift.mono (fun y H2 ⟨b, ρ2, h2', x2, fr2, r2, p2⟩ => ?_) (bindP (R := RX X.K N) fr1 p1)
  obtain ⟨⟨C1, fs1⟩, e1, p3⟩ := post_st p2
  obtain ⟨⟨C2, fs2⟩, e2, p4⟩ := post_st p3
  obtain ⟨u, ec, p5⟩ := post_opt p4
  have ec := Bool.and_eq_true_iff.mp (cond_ok ec)
  have c1 : C1 = C := of_decide_eq_true ec.1
  have c2 : C2 = C := of_decide_eq_true ec.2
  subst c1 c2
  obtain ⟨es, ees, p6⟩ := post_opt p5
  have l := RXs.clean (.cons (r1.ext x2) (.cons r2 .nil)) ees
  obtain ⟨a1, rfl, _, ⟨dx1, us1, e3, l3⟩, _⟩ := fr2.updAt (r1.ext x2) (insAt_of e1)
  obtain ⟨a2, rfl, _, ⟨dx2, us2, e4, l4⟩, _⟩ := fr2.updAt r2 (insAt_of e2)
  have hn : es.length = ps.length := by rw [l.length, h2]; rfl
  refine ⟨a1, a2, dx1, dx2, us1, us2, rfl, rfl, e3, e4, NC N μ, ρ2, h2', es, fr2.call, l.less fun a m => (mu_call a).mp m, hn, ?_⟩
  cases q : F1 es h2' with
  | ok d' h' =>
    simp only [q] at p6
    intro ρ' H' v x f r
    obtain ⟨f2, x2⟩ := fr2.back x f
    cases d' with
    | bl r' =>
      cases r
      exact ⟨r', rfl, p6 ρ' H' _ x2 f2 (RX.of (Rep.bl _))⟩
    | _ => exact p6.elim
  | exc e h' => simp only [q] at p6; exact p6.elim
  | stuck => simp only [q] at p6; exact p6.elim
theorem e_neI {C f : Addr} {k : Nat} {fd : FuncData} {ps : List Str} {F1 : DF} {a b : Expr} {pos : Pos} {fa fb : F D} (c : EqC X.K C f) (Fo : FnOk X.prog X.w X.K X.mg X.base (L2.CX X.prog X.w) k f fd ps (SpD X.K ps.length F1)) (hr : Room (k + 1) X.A) (hb : Binds X.K fd ps [])
    (h2 : ps.length = 2) (ha : PE3 X N W a fa) (hbb : PE3 X N W b fb) : PE3 X N W (.Compare a [.NotEq] [b] pos) (dNeI C F1 fa fb) := ⟨pe_imp (pe_cmpR (o_neI c Fo hr hb) ha.run hbb.run (nomark _)) fun σ H Q q => neI_read h2 q⟩
theorem t_neI {C f : Addr} {k : Nat} {fd : FuncData} {ps : List Str} {F1 : DF} {a b : Expr} {pos : Pos} {fa fb : F D} (c : EqC X.K C f) (Fo : FnOk X.prog X.w X.K X.mg X.base (L2.CX X.prog X.w) k f fd ps (SpD X.K ps.length F1)) (hr : Room (k + 1) X.A) (hb : Binds X.K fd ps [])
    (h2 : ps.length = 2) (ha : PE3 X N W a fa) (hbb : PE3 X N W b fb) : PT3 X N W (.Compare a [.NotEq] [b] pos) (dTest (dNeI C F1 fa fb)) := ⟨pt_imp (pt_cmpR (o_neI c Fo hr hb) ha.run hbb.run (nomark _)) fun σ H Q q => neI_read (W := W) (N := N) h2 (test_read q)⟩
end
end T3

set_option Elab.async false
set_option linter.all false
set_option maxRecDepth 100000
set_option maxHeartbeats 2000000
namespace T3
open PySem L2

/-! ### a list, walked as it stands at each turn -/
def SrcR (K : PySem.W.Frag) (N : Addr → Prop) (ρ μ : List Addr) (H : Hp) (w : Wk) (a : Addr) : Prop := (∃ xs, SqL K H a xs) ∧
  ∀ N' ρ2 μ2 σ3 h2 σ H2, (∀ a, N a → N' a) → Ext N ρ μ H ρ2 μ2 H2 → Fr K N' ρ2 μ2 σ3 h2 σ H2 → (∀ a, Mu N' ρ2 μ2 a → Mu N ρ2 μ2 a ∨ H a = none) → w.good σ3 h2 = true → ∃ xs, H2 a = some (.lst xs) ∧ RepL K ρ2 H2 (Mu N' ρ2 μ2) w.items xs
open Classical in
noncomputable def goodL (k : Nat) (ds : List D) : S3 → HD → Bool := fun _ h => decide (h[k]? = some (.lst ds))
open Classical in
theorem goodL_of {k : Nat} {ds : List D} {σ : S3} {h : HD} (e : h[k]? = some (.lst ds)) : goodL k ds σ h = true := by unfold goodL; exact decide_eq_true e
open Classical in
theorem of_goodL {k : Nat} {ds : List D} {σ : S3} {h : HD} (e : goodL k ds σ h = true) : h[k]? = some (.lst ds) := by unfold goodL at e; exact of_decide_eq_true e
noncomputable def srcRef (k : Nat) (o : Option Cell) : Option Wk := match o with
  | some (.lst ds) => some ⟨ds, goodL k ds⟩
  | _ => none
noncomputable def srcOf (a : D) : S3 → HD → Option Wk := fun _ h => match a with
  | .lst ds => some ⟨ds, always⟩
  | .ref k => srcRef k h[k]?
  | _ => none
section
variable {K : PySem.W.Frag} {N : Addr → Prop} {ρ μ : List Addr} {σ3 : S3} {h : HD} {σ : L2.St} {H : Hp}
theorem src_of (fr : Fr K N ρ μ σ3 h σ H) {d : D} {v : V} {w : Wk} (r : RX K N ρ μ σ3 σ H d v) (e : srcOf d σ3 h = some w) : ∃ a, v = .ref a ∧ SrcR K N ρ μ H w a := by
  cases d with
  | lst ds =>
    cases e
    have r : Rep K ρ H (Mu N ρ μ) (.lst ds) v := r
    obtain ⟨a, xs, rfl, f, l⟩ := (Vw.rep r).lst'
    refine ⟨a, rfl, ⟨xs, SqL.of f⟩, fun N' ρ2 μ2 σ3 h2 σ H2 _ x fr2 m _ => ?_⟩
    have r2 := r.later x m
    obtain ⟨a', xs', e, f3, l3⟩ := (Vw.rep r2).lst'
    cases e
    exact ⟨xs', f3, l3⟩
  | ref k =>
    have e' : srcRef k h[k]? = some w := e
    cases c : h[k]? with
    | none => rw [c] at e'; cases e'
    | some ce =>
      rw [c] at e'
      cases ce with
      | lst ds =>
        cases e'
        obtain ⟨a, h1, xs, h2, _⟩ := fr.hp.get k _ c
        have r' : Rep K ρ H (Mu N ρ μ) (.ref k) v := r
        cases r' with
        | ref e2 =>
          rw [h1] at e2; cases e2
          refine ⟨a, rfl, ⟨xs, SqL.of h2⟩, fun N' ρ2 μ2 σ3 h2 σ H2 _ x fr2 m g => ?_⟩
          obtain ⟨a2, g1, xs2, g2, g3⟩ := fr2.hp.get k _ (of_goodL (σ := σ3) g)
          rw [x.p k a h1] at g1; cases g1
          exact ⟨xs2, g2, g3⟩
      | dic kvs => cases e'
      | ins C fs => cases e'
  | _ => cases e
theorem wk_src {w : Wk} {a : Addr} (s : SrcR K N ρ μ H w a) : WkR K N ρ μ H w (Itl K a) := by
  obtain ⟨_, s⟩ := s
  refine ⟨fun H => ∃ xs, SqL K H a xs ∧ xs.length = w.items.length, fun i H x H' => H' = H ∧ ∀ xs, SqL K H a xs → xs[i]? = some x, ⟨fun i H hi ⟨xs, q, l⟩ => ⟨xs, xs[i]'(by omega), q, List.getElem?_eq_getElem _⟩, fun H ⟨xs, q, l⟩ => ⟨xs, q, by omega⟩, fun _ _ _ _ _ _ y => y⟩, ?_⟩
  intro N' ρ2 μ2 σ3 h2 σ H2 n x fr m g
  obtain ⟨xs, e, l⟩ := s N' ρ2 μ2 σ3 h2 σ H2 n x fr m g
  refine ⟨⟨xs, SqL.of e, l.length.symm⟩, fun i v H3 hi ⟨y1, y2⟩ => ?_⟩
  subst y1
  refine ⟨fun _ _ q => q, ?_⟩
  obtain ⟨hj, rfl⟩ := List.getElem?_eq_some_iff.mp (y2 xs (SqL.of e))
  exact l.at i hi hj
/-- a new pair at a turn -/
theorem pair_new {ρ2 μ2 : List Addr} {N' : Addr → Prop} {h2 : HD} {H2 H3 : Hp} (fr : Fr K N' ρ2 μ2 σ3 h2 σ H2) {T : Addr} {x y : V} {d e : D} (n : H2 T = none) (e3 : H3 = upd H2 T (.tup [x, y])) (rx : Rep K ρ2 H2 (Mu N' ρ2 μ2) d x) (ry : Rep K ρ2 H2 (Mu N' ρ2 μ2) e y) :
    (∀ b o, H2 b = some o → H3 b = some o) ∧ Rep K ρ2 H3 (Mu N' ρ2 μ2) (.tup [d, e]) (.ref T) := by
  subst e3
  obtain ⟨f, x'⟩ := fr.alloc n (.tup [x, y])
  exact ⟨same_upd n _, .tup (.inl ⟨.inl upd_same, fr.new n⟩) (.cons (rx.ext x') (.cons (ry.ext x') .nil))⟩
def enumD : Nat → List D → List D
  | _, [] => []
  | i, d :: ds => .tup [.int (i : Nat), d] :: enumD (i + 1) ds
theorem enumD_len : ∀ (i : Nat) (ds : List D), (enumD i ds).length = ds.length
  | _, [] => rfl
  | i, d :: ds => by show (enumD (i + 1) ds).length + 1 = ds.length + 1; rw [enumD_len]
theorem enumD_at : ∀ (i : Nat) (ds : List D) (j : Nat) (h : j < (enumD i ds).length) (h' : j < ds.length), (enumD i ds)[j] = .tup [.int ((i + j : Nat)), ds[j]]
  | _, [], j, h, h' => absurd h' (Nat.not_lt_zero _)
  | i, d :: ds, 0, h, h' => by simp [enumD]
  | i, d :: ds, j + 1, h, h' => by
    have := enumD_at (i + 1) ds j (by simpa [enumD] using h) (by simpa using h')
    simp only [enumD, List.getElem_cons_succ, this]
    rw [show i + 1 + j = i + (j + 1) by omega]
def enumW (w : Wk) : Wk := ⟨enumD 0 w.items, w.good⟩
theorem wk_enum {w : Wk} {a : Addr} (s : SrcR K N ρ μ H w a) : WkR K N ρ μ H (enumW w) (Ite K a) := by
  obtain ⟨_, s⟩ := s
  have hl : (enumW w).items.length = w.items.length := enumD_len 0 w.items
  refine ⟨fun H => ∃ xs, SqL K H a xs ∧ xs.length = w.items.length, fun i H v H' => ∃ T x, v = .ref T ∧ H T = none ∧ H' = upd H T (.tup [.int (i : Nat), x]) ∧ ∀ xs, SqL K H a xs → xs[i]? = some x,
    ⟨fun i H hi ⟨xs, q, l⟩ => ⟨xs, xs[i]'(by omega), q, List.getElem?_eq_getElem _⟩, fun H ⟨xs, q, l⟩ => ⟨xs, q, by omega⟩, fun _ _ _ _ _ _ y => y⟩, ?_⟩
  intro N' ρ2 μ2 σ3 h2 σ H2 n x fr m g
  obtain ⟨xs, e, l⟩ := s N' ρ2 μ2 σ3 h2 σ H2 n x fr m g
  refine ⟨⟨xs, SqL.of e, l.length.symm⟩, fun i v H3 hi ⟨T, z, y1, y2, y3, y4⟩ => ?_⟩
  subst y1
  have hi' : i < w.items.length := by omega
  obtain ⟨hj, rfl⟩ := List.getElem?_eq_some_iff.mp (y4 xs (SqL.of e))
  have := pair_new fr y2 y3 (.int (i : Nat)) (l.at i hi' hj)
  rw [show (enumW w).items[i] = .tup [.int (i : Nat), w.items[i]] from by
    have := enumD_at 0 w.items i hi hi'
    rw [Nat.zero_add] at this
    exact this]
  exact this
def zipD : List D → List D → List D
  | x :: xs, y :: ys => .tup [x, y] :: zipD xs ys
  | _, _ => []
theorem zipD_len : ∀ (xs ys : List D), (zipD xs ys).length = min xs.length ys.length
  | [], ys => by simp [zipD]
  | x :: xs, [] => by simp [zipD]
  | x :: xs, y :: ys => by simp [zipD, zipD_len xs ys]
theorem zipD_at : ∀ (xs ys : List D) (j : Nat) (h : j < (zipD xs ys).length) (h1 : j < xs.length) (h2 : j < ys.length), (zipD xs ys)[j] = .tup [xs[j], ys[j]]
  | [], _, j, _, h1, _ => absurd h1 (Nat.not_lt_zero _)
  | _ :: _, [], j, _, _, h2 => absurd h2 (Nat.not_lt_zero _)
  | x :: xs, y :: ys, 0, _, _, _ => rfl
  | x :: xs, y :: ys, j + 1, h, h1, h2 => by
    simp only [zipD, List.getElem_cons_succ]
    exact zipD_at xs ys j _ _ _
def zipW (w w' : Wk) : Wk := ⟨zipD w.items w'.items, fun σ h => w.good σ h && w'.good σ h⟩
theorem wk_zip {w w' : Wk} {a b : Addr} (s : SrcR K N ρ μ H w a) (s' : SrcR K N ρ μ H w' b) : WkR K N ρ μ H (zipW w w') (Itz K a b) := by
  obtain ⟨_, s⟩ := s
  obtain ⟨_, s'⟩ := s'
  have hl : (zipW w w').items.length = min w.items.length w'.items.length := zipD_len _ _
  refine ⟨fun H => (∃ xs, SqL K H a xs ∧ xs.length = w.items.length) ∧ ∃ ys, SqL K H b ys ∧ ys.length = w'.items.length,
    fun i H v H' => ∃ T x y, v = .ref T ∧ H T = none ∧ H' = upd H T (.tup [x, y]) ∧ (∀ xs, SqL K H a xs → xs[i]? = some x) ∧ ∀ ys, SqL K H b ys → ys[i]? = some y,
    ⟨fun i H hi ⟨⟨xs, q, l⟩, ys, q', l'⟩ => ⟨xs, ys, xs[i]'(by omega), ys[i]'(by omega), q, q', List.getElem?_eq_getElem _, List.getElem?_eq_getElem _⟩, fun H ⟨⟨xs, q, l⟩, ys, q', l'⟩ => ⟨xs, ys, q, q', by omega⟩, fun _ _ _ _ _ _ y => y⟩, ?_⟩
  intro N' ρ2 μ2 σ3 h2 σ H2 n x fr m g
  have g := Bool.and_eq_true_iff.mp g
  obtain ⟨xs, e, l⟩ := s N' ρ2 μ2 σ3 h2 σ H2 n x fr m g.1
  obtain ⟨ys, e', l'⟩ := s' N' ρ2 μ2 σ3 h2 σ H2 n x fr m g.2
  refine ⟨⟨⟨xs, SqL.of e, l.length.symm⟩, ys, SqL.of e', l'.length.symm⟩, fun i v H3 hi ⟨T, z, z', y1, y2, y3, y4, y5⟩ => ?_⟩
  subst y1
  have h1 : i < w.items.length := by omega
  have h2 : i < w'.items.length := by omega
  obtain ⟨hj, rfl⟩ := List.getElem?_eq_some_iff.mp (y4 xs (SqL.of e))
  obtain ⟨hj', rfl⟩ := List.getElem?_eq_some_iff.mp (y5 ys (SqL.of e'))
  have := pair_new fr y2 y3 (l.at i h1 hj) (l'.at i h2 hj')
  rw [show (zipW w w').items[i] = .tup [w.items[i], w'.items[i]] from zipD_at _ _ i hi h1 h2]
  exact this
end
noncomputable def iSrc (f : F D) : F Wk := dBind f fun a => dSt (srcOf a)
noncomputable def iEnu (t : F (List D)) : F Wk := dBind t fun ds => match ds with
  | [a] => dBind (dSt (srcOf a)) fun w => dPure (enumW w)
  | _ => dStuck
noncomputable def iZp (t : F (List D)) : F Wk := dBind t fun ds => match ds with
  | [a, b] => dBind (dSt (srcOf a)) fun w => dBind (dSt (srcOf b)) fun w' => dPure (zipW w w')
  | _ => dStuck
section
variable {X : Cx} {N : Addr → Prop} {W : WX} {tg : Expr}
theorem postI_st {K : PySem.W.Frag} {ρ μ : List Addr} {σ3 : S3} {h : HD} {σ : L2.St} {H : Hp} {γ : Type} {o : S3 → HD → Option γ} {k : γ → F Wk} {Q : It → Hp → Prop} (p : PostI K N W (dBind (dSt o) k σ3 h) ρ μ σ3 σ H Q) : ∃ d', o σ3 h = some d' ∧ PostI K N W (k d' σ3 h) ρ μ σ3 σ H Q := by
  cases q : o σ3 h with
  | none => simp only [dBind, dSt, q] at p; exact p.elim
  | some d' => simp only [dBind, dSt, q] at p; exact ⟨d', rfl, p⟩
theorem i_src {e : Expr} {f : F D} (he : PE3 X N W e f) : PI3 X N W tg e (iSrc f) := by
  refine ⟨pi_imp (pi_list he.run) fun σ H R ⟨ρ, μ, σ3, h, fr, p⟩ => ?_⟩
  refine Lift.mono (fun v H1 ⟨a, ρ1, h1, x1, fr1, r1, p1⟩ => ?_) (bindI fr p)
  cases q : srcOf a σ3 h1 with
  | none => simp only [dSt, q] at p1; exact p1.elim
  | some w =>
    simp only [dSt, q] at p1
    obtain ⟨b, rfl, s⟩ := src_of fr1 r1 q
    exact ⟨b, rfl, s.1, p1 ρ1 H1 _ Ext.refl fr1 (wk_src s)⟩
theorem i_enum {e : Expr} {t : F (List D)} {p pos tpos : Pos} {elts : List Expr} {kk : Nat} (hg : Gl X "enumerate") (hm : X.mg "enumerate" = none) (ha : PA3 X N W [e] t) (hs : starEach [e] X.env = [(false, eval e X.env)] := by rfl) :
    PI3 X N W (.Tuple elts kk tpos) (.Call (.Name "enumerate" p) [e] [] pos) (iEnu t) := by
  refine ⟨pi_imp (pi_enum hg hm ha.run hs) fun σ H R ⟨ρ, μ, σ3, h, fr, p⟩ => ?_⟩
  refine Lift.mono (fun vs H1 ⟨ds, ρ1, h1, x1, fr1, r1, p1⟩ => ?_) (bindI fr p)
  cases r1 with
  | nil => exact p1.elim
  | @cons a v as vs r l =>
    cases l with
    | cons _ _ => exact p1.elim
    | nil =>
      obtain ⟨w, q, p2⟩ := postI_st p1
      obtain ⟨b, rfl, s⟩ := src_of fr1 r q
      obtain ⟨xs, sq⟩ := s.1
      exact ⟨b, xs, rfl, sq, p2 ρ1 H1 _ Ext.refl fr1 (wk_enum s)⟩
theorem i_zip {e e2 : Expr} {t : F (List D)} {p pos tpos : Pos} {elts : List Expr} {kk : Nat} (hg : Gl X "zip") (hm : X.mg "zip" = none) (ha : PA3 X N W [e, e2] t)
    (hs : starEach [e, e2] X.env = (false, eval e X.env) :: starEach [e2] X.env := by rfl) (hpl : (backTo pos (starEach [e2] X.env)).any (·.1) = false := by rfl) : PI3 X N W (.Tuple elts kk tpos) (.Call (.Name "zip" p) [e, e2] [] pos) (iZp t) := by
  refine ⟨pi_imp (RZ.pi_zipA hg hm ha.run hs hpl) fun σ H R ⟨ρ, μ, σ3, h, fr, p⟩ => ?_⟩
  refine Lift.mono (fun vs H1 ⟨ds, ρ1, h1, x1, fr1, r1, p1⟩ => ?_) (bindI fr p)
  cases r1 with
  | nil => exact p1.elim
  | @cons a v as vs r l =>
    cases l with
    | nil => exact p1.elim
    | @cons a2 v2 as vs r2 l =>
      cases l with
      | cons _ _ => exact p1.elim
      | nil =>
        obtain ⟨w, q, p2⟩ := postI_st p1
        obtain ⟨w2, q2, p3⟩ := postI_st p2
        obtain ⟨b, rfl, s⟩ := src_of fr1 r q
        obtain ⟨b2, rfl, s2⟩ := src_of fr1 r2 q2
        obtain ⟨xs, sq⟩ := s.1
        obtain ⟨ys, sq2⟩ := s2.1
        exact ⟨b, b2, xs, ys, rfl, .inl ⟨sq, sq2, p3 ρ1 H1 _ Ext.refl fr1 (wk_zip s s2)⟩⟩
end
end T3

set_option Elab.async false
set_option linter.all false
set_option maxRecDepth 100000
set_option maxHeartbeats 2000000

namespace T3N
open PySem PySem.SeqAt
open AutoSeq1 (wpAny_loadPart')
open MeetsSeq MeetsSeq2 MeetsSeq3
section
variable {P : Program} {z : World}
/-! l != b of two lists of one length, by the items' answers within one model -/
theorem neLoop (l b : Addr) (us vs : Array Value) (n m : Nat) (dl db : Option Addr) (sl sb : Array (Option Value)) (eqs : us.size = vs.size) (ans : Nat → Bool) (c : Nat) :
    ∀ j : Nat, us.size - j = c → MeetsIn P z (Builtin.«list.__eq__.loop» ⟨[.ref l, .ref b, rawInt j, rawInt 3], []⟩)
      (fun A R s => s.heap.get? l = some { cls := .type "list", dict := dl, data := .seq us n, slots := sl } ∧ s.heap.get? b = some { cls := .type "list", dict := db, data := .seq vs m, slots := sb } ∧
        (∀ i (g1 : i < us.size) (g2 : i < vs.size), EqP P z A.in1 s us[i] vs[i] (ans i)) ∧ R (.ok (.ret (.bool (!((List.range us.size).drop j).all ans)))) s) := by
  induction c with
  | zero =>
    intro j hj A R s q
    obtain ⟨hp, gg, dd, tk, os⟩ := s; obtain ⟨ql, qb, qe, q⟩ := q
    wp_walk using wpAny_loadPart' ql, wpAny_loadPart' qb
    have n1 : us[((j : Nat) : Int).toNat]? = none := by simp; omega
    have n2 : vs[((j : Nat) : Int).toNat]? = none := by simp; omega
    have nd : (List.range us.size).drop j = [] := by simp; omega
    rw [nd] at q
    rw [n1, n2]
    wp_walk using wpAny_loadPart' ql, wpAny_loadPart' qb
    show R (.ok (.ret (.bool (us.size != vs.size)))) _
    rw [eqs]
    simpa using q
  | succ c ih =>
    intro j hj A R s q
    obtain ⟨hp, gg, dd, tk, os⟩ := s; obtain ⟨ql, qb, qe, q⟩ := q
    wp_walk using wpAny_loadPart' ql, wpAny_loadPart' qb
    have l1 : j < us.size := by omega
    have l2 : j < vs.size := by omega
    have n1 : us[((j : Nat) : Int).toNat]? = some us[j] := by simp [l1]
    have n2 : vs[((j : Nat) : Int).toNat]? = some vs[j] := by simp [l2]
    have nd : (List.range us.size).drop j = j :: (List.range us.size).drop (j + 1) := by simp [List.drop_eq_getElem_cons, l1]
    have nc : ((j : Int) + 1) = ((j + 1 : Nat) : Int) := by push_cast; rfl
    rw [nd, List.all_cons] at q
    rw [n1, n2]
    refine wpAny_bind (qe j l1 l2 _ _ ?_)
    cases ea : ans j with
    | true =>
      rw [ea] at q
      wp_walk
      rw [nc]
      exact ⟨plainId_quiet plain_eq_loop _, codeAny_builtin entry_eq_loop (by
        rw [Around.under_plainId plain_eq_loop _]
        exact ih (j + 1) (by omega) A R _ ⟨ql, qb, qe, by simpa using q⟩)⟩
    | false =>
      rw [ea] at q
      wp_walk using wpAny_loadPart' ql, wpAny_loadPart' qb
      rw [n1, n2]
      wp_walk
      simpa using q
theorem neLists (l b : Addr) (us vs : Array Value) (n m : Nat) (dl db : Option Addr) (sl sb : Array (Option Value)) (eqs : us.size = vs.size) (ans : Nat → Bool) :
    MeetsIn P z (Builtin.«list.__ne__» ⟨[.ref l, .ref b], []⟩)
      (fun A R s => s.heap.get? l = some { cls := .type "list", dict := dl, data := .seq us n, slots := sl } ∧ s.heap.get? b = some { cls := .type "list", dict := db, data := .seq vs m, slots := sb } ∧
        (∀ i (g1 : i < us.size) (g2 : i < vs.size), EqP P z A.in1 s us[i] vs[i] (ans i)) ∧ R (.ok (.ret (.bool (!(List.range us.size).all ans)))) s) := by
  intro A R s q
  obtain ⟨hp, gg, dd, tk, os⟩ := s; obtain ⟨ql, qb, qe, q⟩ := q
  have sll := AutoSeq1.sub_list_list
  have nsz : ¬ (us.size != vs.size) = true := by simp [eqs]
  wp_walk using wpAny_loadPart' ql, wpAny_loadPart' qb
  exact ⟨plainId_quiet plain_eq_loop _, codeAny_builtin entry_eq_loop (by
    rw [Around.under_plainId plain_eq_loop _]
    exact neLoop l b us vs n m dl db sl sb eqs ans _ 0 rfl A R _ ⟨ql, qb, qe, by simpa using q⟩)⟩
theorem rcNeLists {A : Around} {s : Shared} {l b : Addr} {us vs : Array Value} {ans : Nat → Bool} (il : s.heap.IsList l us) (ib : s.heap.IsList b vs) (eqs : us.size = vs.size) (hu : A.units < cLine)
    (he : ∀ i (g1 : i < us.size) (g2 : i < vs.size), EqP P z A.in1 s us[i] vs[i] (ans i)) (E Q : Value → Shared → Prop) (h : Q (.bool (!(List.range us.size).all ans)) s) : wpAny (model P z) A (richCompare .NotEq (.ref l) (.ref b)) Q E s := by
  obtain ⟨⟨c1, d1, k1, s1⟩, o1, e1, n, f1⟩ := id il
  obtain ⟨⟨c2, d2, k2, s2⟩, o2, e2, m, f2⟩ := id ib
  simp only at e1 f1 e2 f2
  subst e1 f1 e2 f2
  have ta : s.TypeIs (.ref l) "list" := ⟨_, o1, rfl⟩
  have tb : s.TypeIs (.ref b) "list" := ⟨_, o2, rfl⟩
  exact wpAny_richCompare_same_room (op := .NotEq) ta tb F.slot_list_ne (call_meetsIn F.slot_list_ne ta F.entry_list_ne (F.args_list_ne_2 _ _) (neLists l b us vs n m d1 d2 s1 s2 eqs ans)
    ⟨o1, o2, he, show Value.bool (!(List.range us.size).all ans) ≠ Value.notImplemented ∧ Q (.bool (!(List.range us.size).all ans)) s from ⟨(fun x => nomatch x), h⟩⟩) hu
end
end T3N

namespace T3
open PySem L2 PySem.SeqAt

/-! ### == of values with dicts -/
def hitD (p : D → D → Bool) (miss : Bool) (ys : List (Key × D)) (kv : Key × D) : Bool := match valD ys kv.1 with
  | some y => p kv.2 y
  | none => miss
def deqN : Nat → D → D → Bool
  | 0, a, b => deq a b
  | n + 1, a, b => match a, b with
    | .dic xs, .dic ys => xs.length == ys.length && xs.all (hitD (deqN n) false ys)
    | .lst xs, .lst ys => xs.length == ys.length && allZip (deqN n) xs ys
    | a, b => deq a b
def okN : Nat → D → D → Bool
  | 0, a, b => cmpOk 40 a b
  | n + 1, a, b => match a, b with
    | .dic xs, .dic ys => decide ((xs.map (·.1)).Nodup) && (xs.length != ys.length || xs.all (hitD (okN n) true ys))
    | .lst xs, .lst ys => xs.length != ys.length || allZip (okN n) xs ys
    | a, b => cmpOk 40 a b
theorem allZip_of {p : D → D → Bool} : ∀ {xs ys : List D}, xs.length = ys.length → (∀ j (h1 : j < xs.length) (h2 : j < ys.length), p xs[j] ys[j] = true) → allZip p xs ys = true
  | [], [], _, _ => rfl
  | [], _ :: _, h, _ => by cases h
  | _ :: _, [], h, _ => by cases h
  | x :: xs, y :: ys, h, k => by
    refine Bool.and_eq_true_iff.mpr ⟨k 0 (by simp) (by simp), allZip_of (by simpa using h) fun j h1 h2 => ?_⟩
    have := k (j + 1) (by simpa using h1) (by simpa using h2)
    simpa using this
theorem allZip_all {p : D → D → Bool} : ∀ {xs ys : List D}, xs.length = ys.length → (List.range xs.length).all (fun j => p (xs.getD j .non) (ys.getD j .non)) = allZip p xs ys
  | [], [], _ => rfl
  | [], _ :: _, h => by cases h
  | _ :: _, [], h => by cases h
  | x :: xs, y :: ys, h => by
    have ih := allZip_all (p := p) (xs := xs) (ys := ys) (by simpa using h)
    rw [List.length_cons, List.range_succ_eq_map, List.all_cons, List.all_map]
    show (p x y && _) = (p x y && allZip p xs ys)
    rw [← ih]
    congr 1
section
variable {K : PySem.W.Frag} {ρ : List Addr} {H : Hp} {M : Addr → Prop}
/-- two readings of one dict -/
theorem repK_both : ∀ {xs ys : List (Key × D)} {us : List (Key × V)}, RepK K ρ H M xs us → RepK K ρ H M ys us → (xs.map (·.1)).Nodup → ∀ kv ∈ xs, ∃ y v, valD ys kv.1 = some y ∧ Rep K ρ H M kv.2 v ∧ Rep K ρ H M y v
  | _, _, _, .nil, .nil, _, kv, m => by cases m
  | _, _, _, .cons (k := k) (d := d) (v := v) a l, .cons (d := d') (ds := ys) b l', nd, kv, m => by
    have nd' := List.nodup_cons.mp (show (k :: _).Nodup from nd)
    rcases List.mem_cons.mp m with e | m
    · subst e
      exact ⟨d', v, by simp [valD], a, b⟩
    · obtain ⟨y, w, h1, h2, h3⟩ := repK_both l l' nd'.2 kv m
      have ne : ¬ k = kv.1 := fun e => nd'.1 (e ▸ List.mem_map_of_mem (f := (·.1)) m)
      refine ⟨y, w, ?_, h2, h3⟩
      have : valD ((k, d') :: ys) kv.1 = valD ys kv.1 := by simp [valD, ne]
      rw [this]; exact h1
end
section
variable {X : Cx} {pins : List (Addr × Obj)} {σ : L2.St} {H : Hp} {s : Shared} {ρ : List Addr} {M : Addr → Prop}
theorem repN_deq (I : Inv X pins σ H s) : ∀ (n : Nat) (d d' : D) (v : V), Vw X.K ρ H M d v → Vw X.K ρ H M d' v → okN n d d' = true → deqN n d d' = true
  | 0, d, d', v, r, r', h => rep_deq I 40 d d' v r r' h (sq_no I)
  | n + 1, d, d', v, r, r', h => by
    cases d with
    | dic xs =>
      cases d' with
      | dic ys =>
        obtain ⟨a, us, rfl, e, l⟩ := r.dic'
        obtain ⟨a', us', e1, e', l'⟩ := r'.dic'
        cases e1
        have eu : us = us' := by
          rcases e with e | ⟨o, e⟩ <;> rcases e' with e' | ⟨o', e'⟩ <;> rw [e] at e' <;> cases e' <;> rfl
        subst eu
        have h' : (decide ((xs.map (·.1)).Nodup) && (xs.length != ys.length || xs.all (hitD (okN n) true ys))) = true := h
        have hl : xs.length = ys.length := l.len.trans l'.len.symm
        rw [hl, bne_self_eq_false, Bool.false_or] at h'
        obtain ⟨nd, h'⟩ := Bool.and_eq_true_iff.mp h'
        have nd := of_decide_eq_true nd
        show (xs.length == ys.length && xs.all (hitD (deqN n) false ys)) = true
        rw [hl, beq_self_eq_true, Bool.true_and, List.all_eq_true]
        intro kv m
        obtain ⟨y, w, h1, h2, h3⟩ := repK_both l l' nd kv m
        have q := List.all_eq_true.mp h' kv m
        unfold hitD at q ⊢
        rw [h1] at q ⊢
        exact repN_deq I n _ _ w (.rep h2) (.rep h3) q
      | _ => exact rep_deq I 40 _ _ v r r' h (sq_no I)
    | lst xs =>
      cases d' with
      | lst ys =>
        obtain ⟨a, us, rfl, e, l⟩ := r.lst'
        obtain ⟨a', us', e1, e', l'⟩ := r'.lst'
        cases e1
        rw [e] at e'; cases e'
        have hl : xs.length = ys.length := l.length.trans l'.length.symm
        have h' : (xs.length != ys.length || allZip (okN n) xs ys) = true := h
        rw [hl, bne_self_eq_false, Bool.false_or] at h'
        show (xs.length == ys.length && allZip (deqN n) xs ys) = true
        rw [hl, beq_self_eq_true, Bool.true_and]
        exact allZip_of hl fun j h1 h2 => repN_deq I n _ _ _ (.rep (l.at j h1 (by rw [← l.length]; exact h1))) (.rep (l'.at j h2 (by rw [← l.length]; exact h1))) (allZip_at h' j h1 h2)
      | _ => exact rep_deq I 40 _ _ v r r' h (sq_no I)
    | _ => exact rep_deq I 40 _ _ v r r' h (sq_no I)
open PySem.W in
theorem hits_of {prog : Program} {w : World} {A : Around} {p : D → D → Bool} {M' : Addr → Prop} {ys : List (Key × D)} {us' : List (Key × V)} {kb : List (Key × Value)} (l' : RepK X.K ρ H M ys us') (kv' : KV us' kb) :
    ∀ {xs : List (Key × D)} {us : List (Key × V)} {ka : List (Key × Value)}, RepK X.K ρ H M xs us → KV us ka →
      (∀ kv ∈ xs, ∀ y v v' u u', valD ys kv.1 = some y → Rep X.K ρ H M kv.2 v → Rep X.K ρ H M y v' → RelV v u → RelV v' u' → EqP prog w A s u u' (p kv.2 y)) → KeqHitsP prog w A s kb ka (xs.all (hitD p false ys))
  | _, _, _, .nil, .nil, _ => .nil
  | _, _, _, .cons (k := k) (d := d) (ds := xs) a l, .cons (b := b) (l₂ := ka) h t, q => by
    have ih := hits_of (prog := prog) (w := w) (A := A) (p := p) (M' := M') l' kv' l t fun kv m => q kv (List.mem_cons_of_mem _ m)
    obtain ⟨k2, u⟩ := b
    obtain ⟨hk, hr⟩ := h
    simp only at hk hr
    subst hk
    rw [List.all_cons]
    rcases l'.val k with ⟨e1, e2⟩ | ⟨y, v', e1, e2, r⟩
    · have n : valueAt kb k = none := RelO.none_of (by rw [← e2]; exact kv'.val k)
      have z : hitD p false ys (k, d) = false := by unfold hitD; simp only [e1]
      rw [z, Bool.false_and]
      exact .miss n
    · obtain ⟨u', n, ru⟩ := RelO.some_of (v := v') (o := valueAt kb k) (by rw [← e2]; exact kv'.val k)
      have z : hitD p false ys (k, d) = p d y := by unfold hitD; simp only [e1]
      rw [z]
      exact .hit n (q (k, d) List.mem_cons_self y _ v' u u' e1 a r hr ru) ih
theorem eqP_at (I : Inv X pins σ H s) : ∀ (n : Nat) (A : Around) (d d' : D) (v v' : V) (u u' : Value), Vw X.K ρ H M d v → Vw X.K ρ H M d' v' → RelV v u → RelV v' u' → okN n d d' = true → A.units + n + 41 < cLine → EqP X.prog X.w A s u u' (deqN n d d')
  | 0, A, d, d', v, v', u, u', r, r', ru, ru', h, hu => (eq_at I 40 A d d' v v' u u' r r' ru ru' h (by omega)).eqP
  | n + 1, A, d, d', v, v', u, u', r, r', ru, ru', h, hu => by
    have flat : cmpOk 40 d d' = true → EqP X.prog X.w A s u u' (deq d d') := fun h => (eq_at I 40 A d d' v v' u u' r r' ru ru' h (by omega)).eqP
    have hu0 : A.units < cLine := by omega
    have hu1 : A.in1.units + n + 41 < cLine := by show A.units + 1 + n + 41 < cLine; omega
    cases d with
    | dic xs =>
      cases d' with
      | dic ys =>
        have ok := h
        obtain ⟨a, us, rfl, e, l⟩ := r.dic'
        obtain ⟨a', us', rfl, e', l'⟩ := r'.dic'
        cases ru; cases ru'
        by_cases ea : a = a'
        · subst ea
          rw [repN_deq I (n + 1) _ _ _ r r' h]
          exact (EqAt.same _).eqP
        · refine eqP_refs ea fun E Q q => ?_
          obtain ⟨_, hm, ka, rel, dd⟩ := dk_rd I.hok e
          obtain ⟨_, hm', kb, rel', dd'⟩ := dk_rd I.hok e'
          have hl : xs.length = ka.length := l.len.trans (Paired.length rel)
          have hl' : ys.length = kb.length := l'.len.trans (Paired.length rel')
          have h' : (decide ((xs.map (·.1)).Nodup) && (xs.length != ys.length || xs.all (hitD (okN n) true ys))) = true := h
          obtain ⟨nd, h'⟩ := Bool.and_eq_true_iff.mp h'
          refine PySem.W.rcP_dicts hm hm' dd dd' hu0 (r := xs.all (hitD (deqN n) false ys)) (fun hlen => ?_) E Q ?_
          · have hxy : xs.length = ys.length := by omega
            rw [hxy, bne_self_eq_false, Bool.false_or] at h'
            refine hits_of (M' := M) l' rel' l rel fun kv m y v v' u u' h1 h2 h3 h4 h5 => ?_
            have q := List.all_eq_true.mp h' kv m
            unfold hitD at q
            rw [h1] at q
            exact eqP_at I n A.in1 _ _ _ _ _ _ (.rep h2) (.rep h3) h4 h5 q hu1
          · rw [← hl, ← hl']
            exact q
      | _ => exact flat h
    | lst xs =>
      cases d' with
      | lst ys =>
        obtain ⟨a, us, rfl, e, l⟩ := r.lst'
        obtain ⟨a', us', rfl, e', l'⟩ := r'.lst'
        cases ru; cases ru'
        by_cases ea : a = a'
        · subst ea
          rw [repN_deq I (n + 1) _ _ _ r r' h]
          exact (EqAt.same _).eqP
        · have h' : (xs.length != ys.length || allZip (okN n) xs ys) = true := h
          obtain ⟨its, rv, ⟨o, m, ho, hc, _, hd⟩, _⟩ := I.list (SqL.of e)
          obtain ⟨its', rv', ⟨o', m', ho', hc', _, hd'⟩, _⟩ := I.list (SqL.of e')
          have z1 := l.length
          have z2 := l'.length
          have z3 := rv.length
          have z4 := rv'.length
          by_cases hsz : xs.length = ys.length
          · rw [hsz, bne_self_eq_false, Bool.false_or] at h'
            refine eqP_refs ea fun E Q q => ?_
            refine rcP_lists (e := fun j => deqN n (xs.getD j .non) (ys.getD j .non)) ⟨o, ho, hc, m, hd⟩ ⟨o', ho', hc', m', hd'⟩ (by simp; omega) hu0 (fun j h1 h2 => ?_) E Q ?_
            · have g1 : j < its.length := by simpa using h1
              have g2 : j < its'.length := by simpa using h2
              have q1 : xs.getD j .non = xs[j]'(by omega) := by simp [List.getD, show j < xs.length by omega]
              have q2 : ys.getD j .non = ys[j]'(by omega) := by simp [List.getD, show j < ys.length by omega]
              have := eqP_at I n A.in1 _ _ _ _ _ _ (.rep (l.at j (by omega) (by omega))) (.rep (l'.at j (by omega) (by omega))) (vals_at rv j (by omega) g1) (vals_at rv' j (by omega) g2) (allZip_at h' j (by omega) (by omega)) hu1
              simp only [q1, q2]
              simpa using this
            · rw [show its.toArray.size = xs.length by simp; omega, allZip_all hsz]
              have : deqN (n + 1) (.lst xs) (.lst ys) = allZip (deqN n) xs ys := by
                show (xs.length == ys.length && allZip (deqN n) xs ys) = _
                rw [hsz, beq_self_eq_true, Bool.true_and]
              rw [this] at q
              exact q
          · have : deqN (n + 1) (.lst xs) (.lst ys) = false := by
              show (xs.length == ys.length && allZip (deqN n) xs ys) = _
              rw [beq_eq_false_iff_ne.mpr hsz, Bool.false_and]
            rw [this]
            exact (EqAt.of_refs ea (RcAt.lists_lengths ⟨o, ho, hc, m, hd⟩ ⟨o', ho', hc', m', hd'⟩ (by simp; omega) hu0)).eqP
      | _ => exact flat h
    | _ => exact flat h
end
section
variable {X : Cx}
/-! == and != : as before, or of two lists or dicts that hold dicts -/
def gEq4 (neg : Bool) (a b : D) : Option D := match (if neg then gNe a b else gEq a b) with
  | some d => some d
  | none => match a, b with
    | .lst xs, .lst ys => if okN 8 a b && decide (xs.length = ys.length) then some (.bl (if neg then !deqN 8 a b else deqN 8 a b)) else none
    | _, _ => none
def rEqL (K : PySem.W.Frag) (neg : Bool) : R2 := fun x y H Q => ∃ ρ M xs ys, Vw K ρ H M (.lst xs) x ∧ Vw K ρ H M (.lst ys) y ∧ xs.length = ys.length ∧ okN 8 (.lst xs) (.lst ys) = true ∧ Q (.bl (if neg then !deqN 8 (.lst xs) (.lst ys) else deqN 8 (.lst xs) (.lst ys))) H
theorem eqL_at {pins : List (Addr × Obj)} {σ : L2.St} {H : Hp} {s : Shared} {ρ : List Addr} {M : Addr → Prop} (I : Inv X pins σ H s) {n : Nat} (hu : X.A.units + n + 50 < cLine) {xs ys : List D} {v v' : V} {u u' : Value} (r : Vw X.K ρ H M (.lst xs) v) (r' : Vw X.K ρ H M (.lst ys) v') (ru : RelV v u) (ru' : RelV v' u')
    (hsz : xs.length = ys.length) (h : okN (n + 1) (.lst xs) (.lst ys) = true) : ∃ (a a' : Addr) (its its' : List Value), u = .ref a ∧ u' = .ref a' ∧ s.heap.IsList a its.toArray ∧ s.heap.IsList a' its'.toArray ∧ its.toArray.size = its'.toArray.size ∧ its.toArray.size = xs.length ∧
      (∀ j (h1 : j < its.toArray.size) (h2 : j < its'.toArray.size), EqP X.prog X.w X.A.in1 s its.toArray[j] its'.toArray[j] (deqN n (xs.getD j .non) (ys.getD j .non))) := by
  obtain ⟨a, us, rfl, e, l⟩ := r.lst'
  obtain ⟨a', us', rfl, e', l'⟩ := r'.lst'
  cases ru; cases ru'
  have h' : (xs.length != ys.length || allZip (okN n) xs ys) = true := h
  obtain ⟨its, rv, ⟨o, m, ho, hc, _, hd⟩, _⟩ := I.list (SqL.of e)
  obtain ⟨its', rv', ⟨o', m', ho', hc', _, hd'⟩, _⟩ := I.list (SqL.of e')
  have z1 := l.length
  have z2 := l'.length
  have z3 := rv.length
  have z4 := rv'.length
  rw [hsz, bne_self_eq_false, Bool.false_or] at h'
  refine ⟨a, a', its, its', rfl, rfl, ⟨o, ho, hc, m, hd⟩, ⟨o', ho', hc', m', hd'⟩, by simp; omega, by simp; omega, fun j h1 h2 => ?_⟩
  have g1 : j < its.length := by simpa using h1
  have g2 : j < its'.length := by simpa using h2
  have q1 : xs.getD j .non = xs[j]'(by omega) := by simp [List.getD, show j < xs.length by omega]
  have q2 : ys.getD j .non = ys[j]'(by omega) := by simp [List.getD, show j < ys.length by omega]
  have := eqP_at I n X.A.in1 _ _ _ _ _ _ (.rep (l.at j (by omega) (by omega))) (.rep (l'.at j (by omega) (by omega))) (vals_at rv j (by omega) g1) (vals_at rv' j (by omega) g2) (allZip_at h' j (by omega) (by omega)) (by show X.A.units + 1 + n + 41 < cLine; omega)
  rw [q1, q2]
  simpa using this
theorem deqN_lst {n : Nat} {xs ys : List D} (hsz : xs.length = ys.length) : (List.range xs.length).all (fun j => deqN n (xs.getD j .non) (ys.getD j .non)) = deqN (n + 1) (.lst xs) (.lst ys) := by
  rw [allZip_all hsz]
  show _ = (xs.length == ys.length && allZip (deqN n) xs ys)
  rw [hsz, beq_self_eq_true, Bool.true_and]
theorem o_eqL (hu : X.A.units + 64 < cLine) (neg : Bool) : OpR X (compareOp (if neg then .NotEq else .Eq)) (rEqL X.K neg) := by
  intro pins s σ H x y v u Q I rx ry ⟨ρ, M, xs, ys, r, r', hsz, h, q⟩
  obtain ⟨a, a', its, its', rfl, rfl, il, il', z, z', he⟩ := eqL_at I (n := 7) (by omega) r r' rx ry hsz h
  cases neg with
  | true =>
    unfold compareOp
    refine T3N.rcNeLists il il' z (by omega) he _ _ ⟨.bl _, H, I, rfl, ?_⟩
    rw [z', deqN_lst hsz]
    exact q
  | false =>
    unfold compareOp
    refine rcP_lists il il' z (by omega) he _ _ ⟨.bl _, H, I, rfl, ?_⟩
    rw [z', deqN_lst hsz]
    exact q
theorem k_eqL (neg : Bool) : R2ok X (rEqL X.K neg) (fun a b => match a, b with
    | .lst xs, .lst ys => if okN 8 a b && decide (xs.length = ys.length) then some (.bl (if neg then !deqN 8 a b else deqN 8 a b)) else none
    | _, _ => none) := fun ρ M H x y dx dy d Q r1 r2 h q => by
  cases dx with
  | lst xs =>
    cases dy with
    | lst ys =>
      simp only at h
      split at h
      · rename_i c
        cases h
        have c := Bool.and_eq_true_iff.mp c
        exact ⟨ρ, M, xs, ys, r1, r2, of_decide_eq_true c.2, c.1, q _ (.bl _)⟩
      · cases h
    | _ => cases h
  | _ => cases h
def rEq4 (K : PySem.W.Frag) (neg : Bool) : R2 := fun x y H Q => rEq3 K neg x y H Q ∨ rEqL K neg x y H Q
theorem o_eq4 (hu : X.A.units + 64 < cLine) : OpR X (compareOp .Eq) (rEq4 X.K false) := (o_eq hu).or (o_eqL hu false)
theorem o_ne4 (hu : X.A.units + 64 < cLine) : OpR X (compareOp .NotEq) (rEq4 X.K true) := (o_ne hu).or (o_eqL hu true)
theorem k_eq4 : R2ok X (rEq4 X.K false) (gEq4 false) := OpR.or' (f := compareOp .Lt) k_eq (k_eqL false)
theorem k_ne4 : R2ok X (rEq4 X.K true) (gEq4 true) := OpR.or' (f := compareOp .Lt) k_ne (k_eqL true)
end

/-! ### the keys of a dict that stays -/
section
variable {X : Cx} {N : Addr → Prop} {W : WX} {tg : Expr}
/-- the dict is locked, if it is not yet -/
def tLk (td : TE) : TE := fun σ H Q => td σ H fun x H1 => ∃ d, x = .ref d ∧ ((∃ o kvs, H1 d = some (.frz o (.dK kvs)) ∧ Q x H1) ∨ ∃ kvs, H1 d = some (.dK kvs) ∧ ∀ o, Q x (upd H1 d (.frz o (.dK kvs))))
theorem pe_lk {e : Expr} {td : TE} (he : PE X e td) : PE X e (tLk td) := by
  refine ⟨fun pins s σ H Q I h => thn (he.run pins s σ H _ I h) fun u s1 ⟨x, H1, I1, rx, d, ex, q⟩ => ?_⟩
  rcases q with ⟨o, kvs, e, q⟩ | ⟨kvs, e, q⟩
  · exact ⟨x, H1, I1, rx, q⟩
  · obtain ⟨o, I2⟩ := I1.lock e trivial
    exact ⟨x, _, I2, rx, q o⟩
def keyD : Key → D
  | .inl i => .int i
  | .inr s => .str s
theorem keyD_rep {K : PySem.W.Frag} {ρ : List Addr} {H : Hp} {M : Addr → Prop} (k : Key) : Rep K ρ H M (keyD k) (kV k) := by
  cases k with
  | inl i => exact .int i
  | inr s => exact .str s
def iKy (f : F D) : F Wk := dBind f fun a => match a with
  | .dic kvs => dPure ⟨kvs.map (fun kv => keyD kv.1), always⟩
  | _ => dStuck
theorem RepK.keyAt {K : PySem.W.Frag} {ρ : List Addr} {H : Hp} {M : Addr → Prop} : ∀ {ds : List (Key × D)} {us : List (Key × V)}, RepK K ρ H M ds us → ds.map (·.1) = us.map (·.1)
  | _, _, .nil => rfl
  | _, _, .cons a l => by simp [RepK.keyAt l]
theorem wk_keys {K : PySem.W.Frag} {ρ μ : List Addr} {H : Hp} {d : Addr} {o : Obj} {kvs : List (Key × D)} {us : List (Key × V)} (e : H d = some (.frz o (.dK us))) (nm : ¬ Mu N ρ μ d) (ek : kvs.map (·.1) = us.map (·.1)) :
    WkR K N ρ μ H ⟨kvs.map (fun kv => keyD kv.1), always⟩ (Itk d o us) := by
  have hl : kvs.length = us.length := by simpa using congrArg List.length ek
  refine ⟨_, _, by
    show Walk (Itk d o us) (kvs.map (fun kv => keyD kv.1)).length _ _
    rw [List.length_map, hl]
    exact walk_keys, ?_⟩
  intro N' ρ2 μ2 σ3 h2 σ H2 _ x fr m _
  refine ⟨(x.keep d _ e nm).eq (fun _ q => by cases q), fun i v H3 hi ⟨y1, k, w, y2, y3⟩ => ?_⟩
  subst y1 y3
  refine ⟨fun _ _ q => q, ?_⟩
  have hi' : i < kvs.length := by simpa using hi
  have : (kvs.map (fun kv => keyD kv.1))[i] = keyD k := by
    rw [List.getElem_map]
    have e1 : (kvs.map (·.1))[i]? = some kvs[i].1 := by simp [hi']
    rw [ek, List.getElem?_map, y2] at e1
    simp only [Option.map_some, Option.some.injEq] at e1
    rw [← e1]
  show Rep K ρ2 H3 _ ((kvs.map (fun kv => keyD kv.1))[i]) (kV k)
  rw [this]
  exact keyD_rep k
theorem i_keys {e : Expr} {f : F D} (he : PE3 X N W e f) : PI3 X N W tg e (iKy f) := by
  refine ⟨pi_imp (pi_keys (pe_lk he.run)) fun σ H R ⟨ρ, μ, σ3, h, fr, p⟩ => ?_⟩
  refine Lift.mono (fun v H1 ⟨a, ρ1, h1, x1, fr1, r1, p1⟩ => ?_) (bindI fr p)
  cases a with
  | dic kvs =>
    have r1' : Rep X.K ρ1 H1 (Mu N ρ1 μ) (.dic kvs) v := r1
    cases r1' with
    | @dic a us _ rd nm l =>
      have ek := l.keyAt
      rcases rd with e | ⟨o, e⟩
      · refine ⟨a, rfl, .inr ⟨us, e, fun o => ⟨a, o, rfl, .inl ⟨us, upd_same, ?_⟩⟩⟩⟩
        obtain ⟨f2, x2⟩ := fr1.lock (ob := o) e nm
        exact p1 ρ1 _ _ x2 f2 (wk_keys upd_same (x2.out a _ e nm) ek)
      · exact ⟨a, rfl, .inl ⟨o, us, e, a, o, rfl, .inl ⟨us, e, p1 ρ1 H1 _ Ext.refl fr1 (wk_keys e nm ek)⟩⟩⟩
  | _ => exact p1.elim
end
end T3

set_option Elab.async false
set_option linter.all false
set_option maxRecDepth 100000
set_option maxHeartbeats 2000000
namespace W
open PySem L2 T3
def top (i : Nat) : Stmt := PySem.Challenge.pw_viewloom_k47_cells_and_their_queues.main.body.getD i (.Pass ⟨0, 0, 0, 0⟩)
/-- where the defs and classes stand -/
structure Ad where
  f_kind_of_value : Addr
  d_kind_of_value : FuncData
  f_same : Addr
  d_same : FuncData
  f_same_fields : Addr
  d_same_fields : FuncData
  f_copied : Addr
  d_copied : FuncData
  f_bounded_number : Addr
  d_bounded_number : FuncData
  f_need_number : Addr
  d_need_number : FuncData
  f_add : Addr
  d_add : FuncData
  f_calculate : Addr
  d_calculate : FuncData
  f_operate : Addr
  d_operate : FuncData
  f_evaluate_binary : Addr
  d_evaluate_binary : FuncData
  f_evaluate : Addr
  d_evaluate : FuncData
  f_applied : Addr
  d_applied : FuncData
  f_Cell___init__ : Addr
  d_Cell___init__ : FuncData
  f_Cell___eq__ : Addr
  d_Cell___eq__ : FuncData
  f_Cell_present : Addr
  d_Cell_present : FuncData
  f_Cell_waits_in : Addr
  d_Cell_waits_in : FuncData
  f_Cell_open_lanes : Addr
  d_Cell_open_lanes : FuncData
  f_Cell_send : Addr
  d_Cell_send : FuncData
  f_Cell_processed : Addr
  d_Cell_processed : FuncData
  f_Cell_copied : Addr
  d_Cell_copied : FuncData
  f_l_rows : Addr
  d_l_rows : FuncData
  f_l_update : Addr
  d_l_update : FuncData
  f_l_apply : Addr
  d_l_apply : FuncData
  f_l_processed : Addr
  d_l_processed : FuncData
  f_l_same : Addr
  d_l_same : FuncData
  f_law : Addr
  d_law : FuncData
  c_Cell : Addr
  pr_Cell_present : Addr
  pr_Cell_open_lanes : Addr
/-- what the top has written -/
structure Tx (K : PySem.W.Frag) (mg : Str → Option Value) (a : Ad) : Prop where
  z_abs : mg "abs" = none
  z_bool : mg "bool" = none
  z_dict : mg "dict" = none
  z_int : mg "int" = none
  z_isinstance : mg "isinstance" = none
  z_len : mg "len" = none
  z_list : mg "list" = none
  z_range : mg "range" = none
  z_str : mg "str" = none
  z_zip : mg "zip" = none
  g_MOST_NUMBER : ∃ t, mg "MOST_NUMBER" = some (.int 1000000000000000000000000000000 t)
  g_QUEUE_MOST : ∃ t, mg "QUEUE_MOST" = some (.int 50 t)
  F_kind_of_value : Fun K "kind_of_value" "kind_of_value" (top 5) a.f_kind_of_value a.d_kind_of_value
  b_kind_of_value : Binds K a.d_kind_of_value ["value"] []
  m_kind_of_value : mg "kind_of_value" = some (.ref a.f_kind_of_value)
  F_same : Fun K "same" "same" (top 7) a.f_same a.d_same
  b_same : Binds K a.d_same ["first", "second"] []
  m_same : mg "same" = some (.ref a.f_same)
  F_same_fields : Fun K "same_fields" "same_fields" (top 9) a.f_same_fields a.d_same_fields
  b_same_fields : Binds K a.d_same_fields ["first", "second"] []
  m_same_fields : mg "same_fields" = some (.ref a.f_same_fields)
  F_copied : Fun K "copied" "copied" (top 13) a.f_copied a.d_copied
  b_copied : Binds K a.d_copied ["value"] []
  m_copied : mg "copied" = some (.ref a.f_copied)
  F_bounded_number : Fun K "bounded_number" "bounded_number" (top 20) a.f_bounded_number a.d_bounded_number
  b_bounded_number : Binds K a.d_bounded_number ["number"] []
  m_bounded_number : mg "bounded_number" = some (.ref a.f_bounded_number)
  F_need_number : Fun K "need_number" "need_number" (top 25) a.f_need_number a.d_need_number
  b_need_number : Binds K a.d_need_number ["value"] []
  m_need_number : mg "need_number" = some (.ref a.f_need_number)
  F_add : Fun K "add" "add" (top 55) a.f_add a.d_add
  b_add : Binds K a.d_add ["first", "second"] []
  m_add : mg "add" = some (.ref a.f_add)
  F_calculate : Fun K "calculate" "calculate" (top 56) a.f_calculate a.d_calculate
  b_calculate : Binds K a.d_calculate ["sign", "first", "second"] []
  m_calculate : mg "calculate" = some (.ref a.f_calculate)
  F_operate : Fun K "operate" "operate" (top 58) a.f_operate a.d_operate
  b_operate : Binds K a.d_operate ["sign", "first", "second"] []
  m_operate : mg "operate" = some (.ref a.f_operate)
  F_evaluate_binary : Fun K "evaluate_binary" "evaluate_binary" (top 61) a.f_evaluate_binary a.d_evaluate_binary
  b_evaluate_binary : Binds K a.d_evaluate_binary ["expression", "environment", "owner"] []
  m_evaluate_binary : mg "evaluate_binary" = some (.ref a.f_evaluate_binary)
  F_evaluate : Fun K "evaluate" "evaluate" (top 66) a.f_evaluate a.d_evaluate
  b_evaluate : Binds K a.d_evaluate ["expression", "environment", "owner"] []
  m_evaluate : mg "evaluate" = some (.ref a.f_evaluate)
  F_applied : Fun K "applied" "applied" (top 69) a.f_applied a.d_applied
  b_applied : Binds K a.d_applied ["name", "value", "expression", "environment", "owner"] []
  m_applied : mg "applied" = some (.ref a.f_applied)
  F_Cell___init__ : Fun K "__init__" "Cell.__init__" (inClass (top 70) 0) a.f_Cell___init__ a.d_Cell___init__
  b_Cell___init__ : Binds K a.d_Cell___init__ ["self", "name", "value"] []
  F_Cell___eq__ : Fun K "__eq__" "Cell.__eq__" (inClass (top 70) 1) a.f_Cell___eq__ a.d_Cell___eq__
  b_Cell___eq__ : Binds K a.d_Cell___eq__ ["self", "other"] []
  F_Cell_present : Fun K "present" "Cell.present" (inClass (top 70) 2) a.f_Cell_present a.d_Cell_present
  b_Cell_present : Binds K a.d_Cell_present ["self"] []
  p_Cell_present : PropOf K a.c_Cell "present" a.pr_Cell_present a.f_Cell_present
  F_Cell_waits_in : Fun K "waits_in" "Cell.waits_in" (inClass (top 70) 5) a.f_Cell_waits_in a.d_Cell_waits_in
  b_Cell_waits_in : Binds K a.d_Cell_waits_in ["self", "lane"] []
  t_Cell_waits_in : Meth K a.c_Cell "waits_in" a.f_Cell_waits_in
  F_Cell_open_lanes : Fun K "open_lanes" "Cell.open_lanes" (inClass (top 70) 3) a.f_Cell_open_lanes a.d_Cell_open_lanes
  b_Cell_open_lanes : Binds K a.d_Cell_open_lanes ["self"] []
  p_Cell_open_lanes : PropOf K a.c_Cell "open_lanes" a.pr_Cell_open_lanes a.f_Cell_open_lanes
  F_Cell_send : Fun K "send" "Cell.send" (inClass (top 70) 6) a.f_Cell_send a.d_Cell_send
  b_Cell_send : Binds K a.d_Cell_send ["self", "lane", "expression", "environment"] []
  t_Cell_send : Meth K a.c_Cell "send" a.f_Cell_send
  F_Cell_processed : Fun K "processed" "Cell.processed" (inClass (top 70) 7) a.f_Cell_processed a.d_Cell_processed
  kb_Cell_processed : KBn K a.d_Cell_processed ["self", "lanes", "owner"] 2 ["owner"] (fun us ws => us ++ ws) (fun vs zs => vs ++ zs)
  t_Cell_processed : Meth K a.c_Cell "processed" a.f_Cell_processed
  F_Cell_copied : Fun K "copied" "Cell.copied" (inClass (top 70) 8) a.f_Cell_copied a.d_Cell_copied
  b_Cell_copied : Binds K a.d_Cell_copied ["self"] []
  t_Cell_copied : Meth K a.c_Cell "copied" a.f_Cell_copied
  F_l_rows : Fun K "_law_rows" "_law_rows" (top 72) a.f_l_rows a.d_l_rows
  b_l_rows : Binds K a.d_l_rows ["_law_script", "_law_count"] []
  m_l_rows : mg "_law_rows" = some (.ref a.f_l_rows)
  F_l_update : Fun K "_law_update" "_law_update" (top 73) a.f_l_update a.d_l_update
  b_l_update : Binds K a.d_l_update ["_law_row"] []
  m_l_update : mg "_law_update" = some (.ref a.f_l_update)
  F_l_apply : Fun K "_law_apply" "_law_apply" (top 74) a.f_l_apply a.d_l_apply
  b_l_apply : Binds K a.d_l_apply ["_law_value", "_law_entry"] []
  m_l_apply : mg "_law_apply" = some (.ref a.f_l_apply)
  F_l_processed : Fun K "_law_processed" "_law_processed" (top 75) a.f_l_processed a.d_l_processed
  b_l_processed : Binds K a.d_l_processed ["_law_state", "_law_lanes"] []
  m_l_processed : mg "_law_processed" = some (.ref a.f_l_processed)
  F_l_same : Fun K "_law_same" "_law_same" (top 76) a.f_l_same a.d_l_same
  b_l_same : Binds K a.d_l_same ["_law_cell", "_law_state"] []
  m_l_same : mg "_law_same" = some (.ref a.f_l_same)
  F_law : Fun K "law" "law" (top 77) a.f_law a.d_law
  b_law : Binds K a.d_law ["_law_script"] []
  m_law : mg "law" = some (.ref a.f_law)
  i_Cell : ClsI K a.c_Cell
  mc_Cell : mg "Cell" = some (.ref a.c_Cell)
  k_Cell : Mk K a.c_Cell a.f_Cell___init__
  q_Cell : EqC K a.c_Cell a.f_Cell___eq__
  n_Cell_base : NoAttr K a.c_Cell "base"
  n_Cell_name : NoAttr K a.c_Cell "name"
  n_Cell_now : NoAttr K a.c_Cell "now"
  n_Cell_queue : NoAttr K a.c_Cell "queue"
section
variable {P : Program} {w : World} {K : PySem.W.Frag} {mg : Str → Option Value} {base : Heap} {a : Ad}
theorem fnStuck {k : Nat} {f : Addr} {fd : FuncData} {ps : List Str} : FnOk P w K mg base (L2.CX P w) k f fd ps (SpD K ps.length fun _ _ => .stuck) :=
  ⟨fun vs H Q E ⟨_, _, _, _, _, _, _, p⟩ => p.elim, fun A outer s H args us vs Q E _ _ _ _ ⟨_, _, _, _, _, _, _, p⟩ => p.elim⟩
abbrev st_kind_of_value : Stmt := top 5
abbrev nn_kind_of_value : List Str := ["value"]
abbrev ps_kind_of_value : List Str := ["value"]
abbrev st_same : Stmt := top 7
abbrev nn_same : List Str := ["first", "second", "kind"]
abbrev ps_same : List Str := ["first", "second"]
abbrev st_same_fields : Stmt := top 9
abbrev nn_same_fields : List Str := ["first", "second", "name"]
abbrev ps_same_fields : List Str := ["first", "second"]
abbrev st_copied : Stmt := top 13
abbrev nn_copied : List Str := ["value", "kind", "part", "name"]
abbrev ps_copied : List Str := ["value"]
abbrev st_bounded_number : Stmt := top 20
abbrev nn_bounded_number : List Str := ["number"]
abbrev ps_bounded_number : List Str := ["number"]
abbrev st_need_number : Stmt := top 25
abbrev nn_need_number : List Str := ["value"]
abbrev ps_need_number : List Str := ["value"]
abbrev st_add : Stmt := top 55
abbrev nn_add : List Str := ["first", "second", "kinds", "left", "right"]
abbrev ps_add : List Str := ["first", "second"]
abbrev st_calculate : Stmt := top 56
abbrev nn_calculate : List Str := ["sign", "first", "second", "left", "right"]
abbrev ps_calculate : List Str := ["sign", "first", "second"]
abbrev st_operate : Stmt := top 58
abbrev nn_operate : List Str := ["sign", "first", "second"]
abbrev ps_operate : List Str := ["sign", "first", "second"]
abbrev st_evaluate_binary : Stmt := top 61
abbrev nn_evaluate_binary : List Str := ["expression", "environment", "owner", "sign", "first"]
abbrev ps_evaluate_binary : List Str := ["expression", "environment", "owner"]
abbrev st_evaluate : Stmt := top 66
abbrev nn_evaluate : List Str := ["expression", "environment", "owner", "word"]
abbrev ps_evaluate : List Str := ["expression", "environment", "owner"]
abbrev st_applied : Stmt := top 69
abbrev nn_applied : List Str := ["name", "value", "expression", "environment", "owner", "inner"]
abbrev ps_applied : List Str := ["name", "value", "expression", "environment", "owner"]
abbrev st_Cell___init__ : Stmt := inClass (top 70) 0
abbrev nn_Cell___init__ : List Str := ["self", "name", "value"]
abbrev ps_Cell___init__ : List Str := ["self", "name", "value"]
abbrev st_Cell___eq__ : Stmt := inClass (top 70) 1
abbrev nn_Cell___eq__ : List Str := ["self", "other", "mine", "its"]
abbrev ps_Cell___eq__ : List Str := ["self", "other"]
abbrev st_Cell_present : Stmt := inClass (top 70) 2
abbrev nn_Cell_present : List Str := ["self"]
abbrev ps_Cell_present : List Str := ["self"]
abbrev st_Cell_waits_in : Stmt := inClass (top 70) 5
abbrev nn_Cell_waits_in : List Str := ["self", "lane", "entry"]
abbrev ps_Cell_waits_in : List Str := ["self", "lane"]
abbrev st_Cell_open_lanes : Stmt := inClass (top 70) 3
abbrev nn_Cell_open_lanes : List Str := ["self", "lane"]
abbrev ps_Cell_open_lanes : List Str := ["self"]
abbrev st_Cell_send : Stmt := inClass (top 70) 6
abbrev nn_Cell_send : List Str := ["self", "lane", "expression", "environment"]
abbrev ps_Cell_send : List Str := ["self", "lane", "expression", "environment"]
abbrev st_Cell_processed : Stmt := inClass (top 70) 7
abbrev nn_Cell_processed : List Str := ["self", "lanes", "owner", "made", "leading", "entry"]
abbrev ps_Cell_processed : List Str := ["self", "lanes", "owner"]
abbrev st_Cell_copied : Stmt := inClass (top 70) 8
abbrev nn_Cell_copied : List Str := ["self", "made", "entry"]
abbrev ps_Cell_copied : List Str := ["self"]
abbrev st_l_rows : Stmt := top 72
abbrev nn_l_rows : List Str := ["_law_script", "_law_count", "_law_rows_here", "_law_k", "_law_cell"]
abbrev ps_l_rows : List Str := ["_law_script", "_law_count"]
abbrev st_l_update : Stmt := top 73
abbrev nn_l_update : List Str := ["_law_row", "_law_kind", "_law_more"]
abbrev ps_l_update : List Str := ["_law_row"]
abbrev st_l_apply : Stmt := top 74
abbrev nn_l_apply : List Str := ["_law_value", "_law_entry", "_law_expression"]
abbrev ps_l_apply : List Str := ["_law_value", "_law_entry"]
abbrev st_l_processed : Stmt := top 75
abbrev nn_l_processed : List Str := ["_law_state", "_law_lanes", "_law_base", "_law_queue", "_law_turn", "_law_value", "_law_entry"]
abbrev ps_l_processed : List Str := ["_law_state", "_law_lanes"]
abbrev st_l_same : Stmt := top 76
abbrev nn_l_same : List Str := ["_law_cell", "_law_state", "_law_k", "_law_lanes", "_law_lane", "_law_e"]
abbrev ps_l_same : List Str := ["_law_cell", "_law_state"]
abbrev st_law : Stmt := top 77
abbrev nn_law : List Str := ["_law_script", "_law_rows_here", "_law_start", "_law_cell", "_law_state", "_law_flood", "_law_k", "_law_row", "_law_entry", "_law_environment", "_law_told", "_law_lanes", "_law_before", "_law_made", "_law_lane"]
abbrev ps_law : List Str := ["_law_script"]
/-! kind_of_value -/
theorem sc_kind_of_value : FnScope nn_kind_of_value ps_kind_of_value (defScope st_kind_of_value) := ⟨rfl, rfl, rfl, by decide +kernel, rfl, by decide +kernel, by decide +kernel⟩
noncomputable def g_kind_of_value (a : Ad) : G := (gSeq (gIf (dTest (dOp2 (gIsN false) (dVar 0) (dC .non))) (gRet (dC (.str "null"))) gNx)
  (gSeq (gIf (dTruth (dIsi "bool" (dVar 0))) (gRet (dC (.str "boolean"))) gNx)
  (gSeq (gIf (dTruth (dIsi "int" (dVar 0))) (gRet (dC (.str "number"))) gNx)
  (gSeq (gIf (dTruth (dIsi "str" (dVar 0))) (gRet (dC (.str "text"))) gNx)
  (gSeq (gIf (dTruth (dIsi "list" (dVar 0))) (gRet (dC (.str "list"))) gNx)
  (gSeq (gIf (dTruth (dIsi "dict" (dVar 0))) (gRet (dC (.str "record"))) gNx)
  (gRet (dC (.str "act")))))))))
noncomputable def den_kind_of_value (a : Ad) : DF := bodyD 1 (g_kind_of_value a)
theorem ok_kind_of_value (T : Tx K mg a) : FnOk P w K mg base (L2.CX P w) 1 a.f_kind_of_value a.d_kind_of_value ps_kind_of_value (SpD K 1 (den_kind_of_value a)) := by
  refine okD T.F_kind_of_value sc_kind_of_value fun cdv A outer s H E N hr tk => ?_
  exact (s_cons (s_if (t_cmp op_isN k_isN (e_var 0) e_non (nomark _)) (s_one (s_ret e_str)) s_nil)
    (s_cons (s_if (t_truth (e_isi (T := "bool") (by rfl) T.z_isinstance (by rfl) T.z_bool (by decide +kernel) (e_var 0)) (fun _ => rfl)) (s_one (s_ret e_str)) s_nil)
    (s_cons (s_if (t_truth (e_isi (T := "int") (by rfl) T.z_isinstance (by rfl) T.z_int (by decide +kernel) (e_var 0)) (fun _ => rfl)) (s_one (s_ret e_str)) s_nil)
    (s_cons (s_if (t_truth (e_isi (T := "str") (by rfl) T.z_isinstance (by rfl) T.z_str (by decide +kernel) (e_var 0)) (fun _ => rfl)) (s_one (s_ret e_str)) s_nil)
    (s_cons (s_if (t_truth (e_isi (T := "list") (by rfl) T.z_isinstance (by rfl) T.z_list (by decide +kernel) (e_var 0)) (fun _ => rfl)) (s_one (s_ret e_str)) s_nil)
    (s_cons (s_if (t_truth (e_isi (T := "dict") (by rfl) T.z_isinstance (by rfl) T.z_dict (by decide +kernel) (e_var 0)) (fun _ => rfl)) (s_one (s_ret e_str)) s_nil)
    (s_one (s_ret e_str))))))))
/-! same -/
theorem sc_same : FnScope nn_same ps_same (defScope st_same) := ⟨rfl, rfl, rfl, by decide +kernel, rfl, by decide +kernel, by decide +kernel⟩
noncomputable def g_same (a : Ad) (d_same_fields : DF) : G := (gSeq (gSet 2 (dCall 1 (den_kind_of_value a) (dCons (dVar 0) dNil)))
  (gSeq (gIf (dTest (dOp2 (gEq4 true) (dVar 2) (dCall 1 (den_kind_of_value a) (dCons (dVar 1) dNil)))) (gRet (dC (.bl false))) gNx)
  (gSeq (gIf (dTest (dOp2 (gEq4 false) (dVar 2) (dC (.str "list")))) gStuck gNx)
  (gSeq (gIf (dTest (dOp2 (gEq4 false) (dVar 2) (dC (.str "record")))) (gRet (dCall 2 d_same_fields (dCons (dVar 0) (dCons (dVar 1) dNil)))) gNx)
  (gSeq (gIf (dTest (dOp2 (gEq4 false) (dVar 2) (dC (.str "act")))) gStuck gNx)
  (gRet (dOp2 (gEq4 false) (dVar 0) (dVar 1))))))))
theorem step_same (T : Tx K mg a) {k : Nat} (hk : 1 ≤ k) {d_same_fields : DF} (G_same_fields : FnOk P w K mg base (L2.CX P w) k a.f_same_fields a.d_same_fields ps_same_fields (SpD K 2 d_same_fields)) : FnOk P w K mg base (L2.CX P w) (k + 1) a.f_same a.d_same ps_same (SpD K 2 (bodyD 3 (g_same a d_same_fields))) := by
  refine okD T.F_same sc_same fun cdv A outer s H E N hr tk => ?_
  exact (s_cons (s_set sc_same.nd rfl (Or.inl rfl) (e_call (ok_kind_of_value T) tk (hr.mono (Nat.le_trans (by decide) hk)) (by rfl) T.m_kind_of_value T.F_kind_of_value.kp T.b_kind_of_value (a_cons (e_var 0) a_nil)))
    (s_cons (s_if (t_cmp (o_ne4 hr.units) k_ne4 (e_var 2) (e_call (ok_kind_of_value T) tk (hr.mono (Nat.le_trans (by decide) hk)) (by rfl) T.m_kind_of_value T.F_kind_of_value.kp T.b_kind_of_value (a_cons (e_var 1) a_nil)) (nomark _)) (s_one (s_ret e_bl)) s_nil)
    (s_cons (s_if (t_cmp (o_eq4 hr.units) k_eq4 (e_var 2) e_str (nomark _)) ss_stuck s_nil)
    (s_cons (s_if (t_cmp (o_eq4 hr.units) k_eq4 (e_var 2) e_str (nomark _)) (s_one (s_ret (e_call G_same_fields tk hr (by rfl) T.m_same_fields T.F_same_fields.kp T.b_same_fields (a_cons (e_var 0) (a_cons (e_var 1) a_nil))))) s_nil)
    (s_cons (s_if (t_cmp (o_eq4 hr.units) k_eq4 (e_var 2) e_str (nomark _)) ss_stuck s_nil)
    (s_one (s_ret (e_cmp (o_eq4 hr.units) k_eq4 (e_var 0) (e_var 1) (nomark _)))))))))
/-! same_fields -/
theorem sc_same_fields : FnScope nn_same_fields ps_same_fields (defScope st_same_fields) := ⟨rfl, rfl, rfl, by decide +kernel, rfl, by decide +kernel, by decide +kernel⟩
noncomputable def lb_same_fields_0 (a : Ad) (d_same : DF) : G := (gIf (dOrT (dTest (dOp2 (gIn4 true) (dVar 2) (dVar 1))) (dNotT (dTruth (dCall 2 d_same (dCons (dOp2 gIx4 (dVar 0) (dVar 2)) (dCons (dOp2 gIx4 (dVar 1) (dVar 2)) dNil)))))) (gRet (dC (.bl false))) gNx)
noncomputable def g_same_fields (a : Ad) (d_same : DF) : G := (gSeq (gIf (dTest (dOp2 (gEq4 true) (dFun gLen4 (dCons (dVar 0) dNil)) (dFun gLen4 (dCons (dVar 1) dNil)))) (gRet (dC (.bl false))) gNx)
  (gSeq (gFor (iKy (dVar 0)) (tgName 2) (lb_same_fields_0 a d_same))
  (gRet (dC (.bl true)))))
theorem step_same_fields (T : Tx K mg a) {k : Nat} (hk : 0 ≤ k) {d_same : DF} (G_same : FnOk P w K mg base (L2.CX P w) k a.f_same a.d_same ps_same (SpD K 2 d_same)) : FnOk P w K mg base (L2.CX P w) (k + 1) a.f_same_fields a.d_same_fields ps_same_fields (SpD K 2 (bodyD 3 (g_same_fields a d_same))) := by
  refine okD T.F_same_fields sc_same_fields fun cdv A outer s H E N hr tk => ?_
  exact (s_cons (s_if (t_cmp (o_ne4 hr.units) k_ne4 (e_funB o_len4 k_lenD (by rfl) T.z_len (by decide +kernel) (a_cons (e_var 0) a_nil)) (e_funB o_len4 k_lenD (by rfl) T.z_len (by decide +kernel) (a_cons (e_var 1) a_nil)) (nomark _)) (s_one (s_ret e_bl)) s_nil)
    (s_cons (s_for (passes_of rfl) rfl (i_keys (e_var 0)) (pg_name (i := 2) sc_same_fields.nd rfl (Or.inl rfl)) (g_name 2) (s_one (s_if (PW3.pt (w_or (t_cmp (o_notIn4 hr.units) (k_in4 true) (e_var 2) (e_var 1) (by rfl)) (w_or1 (t_not (t_truth (e_call G_same tk hr (by rfl) T.m_same T.F_same.kp T.b_same (a_cons (e_ix (o_ix4 hr.units) k_ix4 (e_var 0) (e_var 2) (fun _ _ => rfl)) (a_cons (e_ix (o_ix4 hr.units) k_ix4 (e_var 1) (e_var 2) (fun _ _ => rfl)) a_nil))) (fun _ => rfl)))))) (s_one (s_ret e_bl)) s_nil)))
    (s_one (s_ret e_bl))))
mutual
noncomputable def den_same (a : Ad) : Nat → DF
  | 0 => fun _ _ => .stuck
  | n + 1 => bodyD 3 (g_same a (den_same_fields a n))
noncomputable def den_same_fields (a : Ad) : Nat → DF
  | 0 => fun _ _ => .stuck
  | n + 1 => bodyD 3 (g_same_fields a (den_same a n))
end
theorem grp_same (T : Tx K mg a) : ∀ n : Nat, FnOk P w K mg base (L2.CX P w) (1 + n) a.f_same a.d_same ps_same (SpD K 2 (den_same a n)) ∧ FnOk P w K mg base (L2.CX P w) (1 + n) a.f_same_fields a.d_same_fields ps_same_fields (SpD K 2 (den_same_fields a n))
  | 0 => ⟨fnStuck, fnStuck⟩
  | n + 1 => by
    obtain ⟨G_same, G_same_fields⟩ := grp_same T n
    exact ⟨step_same T (Nat.le_trans (by decide) (Nat.le_add_right 1 n)) G_same_fields, step_same_fields T (Nat.le_trans (by decide) (Nat.le_add_right 1 n)) G_same⟩
theorem ok_same (T : Tx K mg a) (n : Nat) : FnOk P w K mg base (L2.CX P w) (1 + n) a.f_same a.d_same ps_same (SpD K 2 (den_same a n)) := (grp_same T n).1
theorem ok_same_fields (T : Tx K mg a) (n : Nat) : FnOk P w K mg base (L2.CX P w) (1 + n) a.f_same_fields a.d_same_fields ps_same_fields (SpD K 2 (den_same_fields a n)) := (grp_same T n).2
/-! copied -/
theorem sc_copied : FnScope nn_copied ps_copied (defScope st_copied) := ⟨rfl, rfl, rfl, by decide +kernel, rfl, by decide +kernel, by decide +kernel⟩
noncomputable def g_copied (a : Ad) : G := (gSeq (gSet 1 (dCall 1 (den_kind_of_value a) (dCons (dVar 0) dNil)))
  (gSeq (gIf (dTest (dOp2 (gEq4 false) (dVar 1) (dC (.str "list")))) gStuck gNx)
  (gSeq (gIf (dTest (dOp2 (gEq4 false) (dVar 1) (dC (.str "record")))) gStuck gNx)
  (gSeq (gIf (dTest (dOp2 (gEq4 false) (dVar 1) (dC (.str "act")))) gStuck gNx)
  (gRet (dVar 0))))))
noncomputable def den_copied (a : Ad) : DF := bodyD 4 (g_copied a)
theorem ok_copied (T : Tx K mg a) : FnOk P w K mg base (L2.CX P w) 2 a.f_copied a.d_copied ps_copied (SpD K 1 (den_copied a)) := by
  refine okD T.F_copied sc_copied fun cdv A outer s H E N hr tk => ?_
  exact (s_cons (s_set sc_copied.nd rfl (Or.inl rfl) (e_call (ok_kind_of_value T) tk (hr.mono (by decide)) (by rfl) T.m_kind_of_value T.F_kind_of_value.kp T.b_kind_of_value (a_cons (e_var 0) a_nil)))
    (s_cons (s_if (t_cmp (o_eq4 hr.units) k_eq4 (e_var 1) e_str (nomark _)) ss_stuck s_nil)
    (s_cons (s_if (t_cmp (o_eq4 hr.units) k_eq4 (e_var 1) e_str (nomark _)) ss_stuck s_nil)
    (s_cons (s_if (t_cmp (o_eq4 hr.units) k_eq4 (e_var 1) e_str (nomark _)) ss_stuck s_nil)
    (s_one (s_ret (e_var 0)))))))
/-! bounded_number -/
theorem sc_bounded_number : FnScope nn_bounded_number ps_bounded_number (defScope st_bounded_number) := ⟨rfl, rfl, rfl, by decide +kernel, rfl, by decide +kernel, by decide +kernel⟩
noncomputable def g_bounded_number (a : Ad) : G := (gSeq (gIf (dTest (dOp2 gGt (dFun gAbs (dCons (dVar 0) dNil)) (dC (.int 1000000000000000000000000000000)))) gStuck gNx)
  (gRet (dVar 0)))
noncomputable def den_bounded_number (a : Ad) : DF := bodyD 1 (g_bounded_number a)
theorem ok_bounded_number (T : Tx K mg a) : FnOk P w K mg base (L2.CX P w) 1 a.f_bounded_number a.d_bounded_number ps_bounded_number (SpD K 1 (den_bounded_number a)) := by
  refine okD T.F_bounded_number sc_bounded_number fun cdv A outer s H E N hr tk => ?_
  exact (s_cons (s_if (t_cmp o_gt (k_cmp _ _) (e_funB call_abs k_abs (by rfl) T.z_abs (by decide +kernel) (a_cons (e_var 0) a_nil)) (T.g_MOST_NUMBER.elim fun _ z => e_gint (by rfl) z) (nomark _)) ss_stuck s_nil)
    (s_one (s_ret (e_var 0))))
/-! need_number -/
theorem sc_need_number : FnScope nn_need_number ps_need_number (defScope st_need_number) := ⟨rfl, rfl, rfl, by decide +kernel, rfl, by decide +kernel, by decide +kernel⟩
noncomputable def g_need_number (a : Ad) : G := (gSeq (gIf (dTest (dOp2 (gEq4 true) (dCall 1 (den_kind_of_value a) (dCons (dVar 0) dNil)) (dC (.str "number")))) gStuck gNx)
  (gRet (dVar 0)))
noncomputable def den_need_number (a : Ad) : DF := bodyD 1 (g_need_number a)
theorem ok_need_number (T : Tx K mg a) : FnOk P w K mg base (L2.CX P w) 2 a.f_need_number a.d_need_number ps_need_number (SpD K 1 (den_need_number a)) := by
  refine okD T.F_need_number sc_need_number fun cdv A outer s H E N hr tk => ?_
  exact (s_cons (s_if (t_cmp (o_ne4 hr.units) k_ne4 (e_call (ok_kind_of_value T) tk (hr.mono (by decide)) (by rfl) T.m_kind_of_value T.F_kind_of_value.kp T.b_kind_of_value (a_cons (e_var 0) a_nil)) e_str (nomark _)) ss_stuck s_nil)
    (s_one (s_ret (e_var 0))))
/-! add -/
theorem sc_add : FnScope nn_add ps_add (defScope st_add) := ⟨rfl, rfl, rfl, by decide +kernel, rfl, by decide +kernel, by decide +kernel⟩
noncomputable def g_add (a : Ad) : G := (gSeq (gSet 2 (dTup (dCons (dCall 1 (den_kind_of_value a) (dCons (dVar 0) dNil)) (dCons (dCall 1 (den_kind_of_value a) (dCons (dVar 1) dNil)) dNil))))
  (gSeq (gIf (dTest (dOp2 (gEq4 false) (dVar 2) (dTup (dCons (dC (.str "number")) (dCons (dC (.str "number")) dNil))))) (gRet (dCall 1 (den_bounded_number a) (dCons (dOp2 gAdd (dVar 0) (dVar 1)) dNil))) gNx)
  (gSeq (gIf (dTest (dOp2 (gEq4 false) (dVar 2) (dTup (dCons (dC (.str "list")) (dCons (dC (.str "list")) dNil))))) gStuck gNx)
  gStuck)))
noncomputable def den_add (a : Ad) : DF := bodyD 5 (g_add a)
theorem ok_add (T : Tx K mg a) : FnOk P w K mg base (L2.CX P w) 2 a.f_add a.d_add ps_add (SpD K 2 (den_add a)) := by
  refine okD T.F_add sc_add fun cdv A outer s H E N hr tk => ?_
  exact (s_cons (s_set sc_add.nd rfl (Or.inl rfl) (e_tup (a_cons (e_call (ok_kind_of_value T) tk (hr.mono (by decide)) (by rfl) T.m_kind_of_value T.F_kind_of_value.kp T.b_kind_of_value (a_cons (e_var 0) a_nil)) (a_cons (e_call (ok_kind_of_value T) tk (hr.mono (by decide)) (by rfl) T.m_kind_of_value T.F_kind_of_value.kp T.b_kind_of_value (a_cons (e_var 1) a_nil)) a_nil))))
    (s_cons (s_if (t_cmp (o_eq4 hr.units) k_eq4 (e_var 2) (e_tup (a_cons e_str (a_cons e_str a_nil))) (nomark _)) (s_one (s_ret (e_call (ok_bounded_number T) tk (hr.mono (by decide)) (by rfl) T.m_bounded_number T.F_bounded_number.kp T.b_bounded_number (a_cons (e_op o_add k_add (e_var 0) (e_var 1)) a_nil)))) s_nil)
    (s_cons (s_if (t_cmp (o_eq4 hr.units) k_eq4 (e_var 2) (e_tup (a_cons e_str (a_cons e_str a_nil))) (nomark _)) ss_stuck s_nil)
    ss_stuck)))
/-! calculate -/
theorem sc_calculate : FnScope nn_calculate ps_calculate (defScope st_calculate) := ⟨rfl, rfl, rfl, by decide +kernel, rfl, by decide +kernel, by decide +kernel⟩
noncomputable def g_calculate (a : Ad) : G := (gSeq (gSet 3 (dCall 1 (den_need_number a) (dCons (dVar 1) dNil)))
  (gSeq (gSet 4 (dCall 1 (den_need_number a) (dCons (dVar 2) dNil)))
  (gSeq (gIf (dTest (dOp2 (gEq4 false) (dVar 0) (dC (.str "-")))) gStuck gNx)
  (gSeq (gIf (dTest (dOp2 (gEq4 false) (dVar 0) (dC (.str "*")))) (gRet (dCall 1 (den_bounded_number a) (dCons (dOp2 gMul (dVar 3) (dVar 4)) dNil))) gNx)
  gStuck))))
noncomputable def den_calculate (a : Ad) : DF := bodyD 5 (g_calculate a)
theorem ok_calculate (T : Tx K mg a) : FnOk P w K mg base (L2.CX P w) 3 a.f_calculate a.d_calculate ps_calculate (SpD K 3 (den_calculate a)) := by
  refine okD T.F_calculate sc_calculate fun cdv A outer s H E N hr tk => ?_
  exact (s_cons (s_set sc_calculate.nd rfl (Or.inl rfl) (e_call (ok_need_number T) tk (hr.mono (by decide)) (by rfl) T.m_need_number T.F_need_number.kp T.b_need_number (a_cons (e_var 1) a_nil)))
    (s_cons (s_set sc_calculate.nd rfl (Or.inl rfl) (e_call (ok_need_number T) tk (hr.mono (by decide)) (by rfl) T.m_need_number T.F_need_number.kp T.b_need_number (a_cons (e_var 2) a_nil)))
    (s_cons (s_if (t_cmp (o_eq4 hr.units) k_eq4 (e_var 0) e_str (nomark _)) ss_stuck s_nil)
    (s_cons (s_if (t_cmp (o_eq4 hr.units) k_eq4 (e_var 0) e_str (nomark _)) (s_one (s_ret (e_call (ok_bounded_number T) tk (hr.mono (by decide)) (by rfl) T.m_bounded_number T.F_bounded_number.kp T.b_bounded_number (a_cons (e_op op_mul k_mul (e_var 3) (e_var 4)) a_nil)))) s_nil)
    ss_stuck))))
/-! operate -/
theorem sc_operate : FnScope nn_operate ps_operate (defScope st_operate) := ⟨rfl, rfl, rfl, by decide +kernel, rfl, by decide +kernel, by decide +kernel⟩
noncomputable def g_operate (a : Ad) : G := (gSeq (gIf (dTest (dOp2 (gEq4 false) (dVar 0) (dC (.str "+")))) (gRet (dCall 2 (den_add a) (dCons (dVar 1) (dCons (dVar 2) dNil)))) gNx)
  (gSeq (gIf (dTest (dOp2 (gIn4 false) (dVar 0) (dTup (dCons (dC (.str "-")) (dCons (dC (.str "*")) (dCons (dC (.str "/")) dNil)))))) (gRet (dCall 3 (den_calculate a) (dCons (dVar 0) (dCons (dVar 1) (dCons (dVar 2) dNil))))) gNx)
  (gSeq (gIf (dTest (dOp2 (gEq4 false) (dVar 0) (dC (.str "==")))) gStuck gNx)
  (gSeq (gIf (dTest (dOp2 (gEq4 false) (dVar 0) (dC (.str "!=")))) gStuck gNx)
  gStuck))))
noncomputable def den_operate (a : Ad) : DF := bodyD 3 (g_operate a)
theorem ok_operate (T : Tx K mg a) : FnOk P w K mg base (L2.CX P w) 4 a.f_operate a.d_operate ps_operate (SpD K 3 (den_operate a)) := by
  refine okD T.F_operate sc_operate fun cdv A outer s H E N hr tk => ?_
  exact (s_cons (s_if (t_cmp (o_eq4 hr.units) k_eq4 (e_var 0) e_str (nomark _)) (s_one (s_ret (e_call (ok_add T) tk (hr.mono (by decide)) (by rfl) T.m_add T.F_add.kp T.b_add (a_cons (e_var 1) (a_cons (e_var 2) a_nil))))) s_nil)
    (s_cons (s_if (t_cmp (o_in4 hr.units) (k_in4 false) (e_var 0) (e_tup (a_cons e_str (a_cons e_str (a_cons e_str a_nil)))) (by rfl)) (s_one (s_ret (e_call (ok_calculate T) tk (hr.mono (by decide)) (by rfl) T.m_calculate T.F_calculate.kp T.b_calculate (a_cons (e_var 0) (a_cons (e_var 1) (a_cons (e_var 2) a_nil)))))) s_nil)
    (s_cons (s_if (t_cmp (o_eq4 hr.units) k_eq4 (e_var 0) e_str (nomark _)) ss_stuck s_nil)
    (s_cons (s_if (t_cmp (o_eq4 hr.units) k_eq4 (e_var 0) e_str (nomark _)) ss_stuck s_nil)
    ss_stuck))))
/-! evaluate_binary -/
theorem sc_evaluate_binary : FnScope nn_evaluate_binary ps_evaluate_binary (defScope st_evaluate_binary) := ⟨rfl, rfl, rfl, by decide +kernel, rfl, by decide +kernel, by decide +kernel⟩
noncomputable def g_evaluate_binary (a : Ad) (d_evaluate : DF) : G := (gSeq (gSet 3 (dOp2 gIx4 (dVar 0) (dC (.int 1))))
  (gSeq (gSet 4 (dCall 3 d_evaluate (dCons (dOp2 gIx4 (dVar 0) (dC (.int 2))) (dCons (dVar 1) (dCons (dVar 2) dNil)))))
  (gSeq (gIf (dOrT (dTest (dOp2 (gEq4 false) (dVar 3) (dC (.str "&&")))) (dTest (dOp2 (gEq4 false) (dVar 3) (dC (.str "||"))))) gStuck gNx)
  (gRet (dCall 3 (den_operate a) (dCons (dVar 3) (dCons (dVar 4) (dCons (dCall 3 d_evaluate (dCons (dOp2 gIx4 (dVar 0) (dC (.int 3))) (dCons (dVar 1) (dCons (dVar 2) dNil)))) dNil))))))))
theorem step_evaluate_binary (T : Tx K mg a) {k : Nat} (hk : 4 ≤ k) {d_evaluate : DF} (G_evaluate : FnOk P w K mg base (L2.CX P w) k a.f_evaluate a.d_evaluate ps_evaluate (SpD K 3 d_evaluate)) : FnOk P w K mg base (L2.CX P w) (k + 1) a.f_evaluate_binary a.d_evaluate_binary ps_evaluate_binary (SpD K 3 (bodyD 5 (g_evaluate_binary a d_evaluate))) := by
  refine okD T.F_evaluate_binary sc_evaluate_binary fun cdv A outer s H E N hr tk => ?_
  exact (s_cons (s_set sc_evaluate_binary.nd rfl (Or.inl rfl) (e_ix (o_ix4 hr.units) k_ix4 (e_var 0) e_int (fun _ _ => rfl)))
    (s_cons (s_set sc_evaluate_binary.nd rfl (Or.inl rfl) (e_call G_evaluate tk hr (by rfl) T.m_evaluate T.F_evaluate.kp T.b_evaluate (a_cons (e_ix (o_ix4 hr.units) k_ix4 (e_var 0) e_int (fun _ _ => rfl)) (a_cons (e_var 1) (a_cons (e_var 2) a_nil)))))
    (s_cons (s_if (PW3.pt (w_or (t_cmp (o_eq4 hr.units) k_eq4 (e_var 3) e_str (nomark _)) (w_or1 (t_cmp (o_eq4 hr.units) k_eq4 (e_var 3) e_str (nomark _))))) ss_stuck s_nil)
    (s_one (s_ret (e_call (ok_operate T) tk (hr.mono (Nat.le_trans (by decide) hk)) (by rfl) T.m_operate T.F_operate.kp T.b_operate (a_cons (e_var 3) (a_cons (e_var 4) (a_cons (e_call G_evaluate tk hr (by rfl) T.m_evaluate T.F_evaluate.kp T.b_evaluate (a_cons (e_ix (o_ix4 hr.units) k_ix4 (e_var 0) e_int (fun _ _ => rfl)) (a_cons (e_var 1) (a_cons (e_var 2) a_nil)))) a_nil)))))))))
/-! evaluate -/
theorem sc_evaluate : FnScope nn_evaluate ps_evaluate (defScope st_evaluate) := ⟨rfl, rfl, rfl, by decide +kernel, rfl, by decide +kernel, by decide +kernel⟩
noncomputable def g_evaluate (a : Ad) (d_evaluate_binary : DF) : G := (gSeq (gSet 3 (dOp2 gIx4 (dVar 0) (dC (.int 0))))
  (gSeq (gIf (dTest (dOp2 (gEq4 false) (dVar 3) (dC (.str "null")))) (gRet (dC .non)) gNx)
  (gSeq (gIf (dOrT (dTest (dOp2 (gEq4 false) (dVar 3) (dC (.str "true")))) (dTest (dOp2 (gEq4 false) (dVar 3) (dC (.str "false"))))) (gRet (dOp2 (gEq4 false) (dVar 3) (dC (.str "true")))) gNx)
  (gSeq (gIf (dOrT (dTest (dOp2 (gEq4 false) (dVar 3) (dC (.str "number")))) (dTest (dOp2 (gEq4 false) (dVar 3) (dC (.str "text"))))) (gRet (dOp2 gIx4 (dVar 0) (dC (.int 1)))) gNx)
  (gSeq (gIf (dTest (dOp2 (gEq4 false) (dVar 3) (dC (.str "name")))) (gRet (dCall 1 (den_copied a) (dCons (dOp2 gIx4 (dVar 1) (dOp2 gIx4 (dVar 0) (dC (.int 1)))) dNil))) gNx)
  (gSeq (gIf (dTest (dOp2 (gEq4 false) (dVar 3) (dC (.str "binary")))) (gRet (dCall 3 d_evaluate_binary (dCons (dVar 0) (dCons (dVar 1) (dCons (dVar 2) dNil))))) gNx)
  (gSeq (gIf (dTest (dOp2 (gEq4 false) (dVar 3) (dC (.str "choice")))) gStuck gNx)
  (gSeq (gIf (dTest (dOp2 (gEq4 false) (dVar 3) (dC (.str "gather")))) gStuck gNx)
  (gSeq (gIf (dTest (dOp2 (gEq4 false) (dVar 3) (dC (.str "function")))) gStuck gNx)
  (gSeq (gIf (dTest (dOp2 (gIn4 false) (dVar 3) (dTup (dCons (dC (.str "list")) (dCons (dC (.str "record")) (dCons (dC (.str "act")) dNil)))))) gStuck gNx)
  gStuck))))))))))
theorem step_evaluate (T : Tx K mg a) {k : Nat} (hk : 2 ≤ k) {d_evaluate_binary : DF} (G_evaluate_binary : FnOk P w K mg base (L2.CX P w) k a.f_evaluate_binary a.d_evaluate_binary ps_evaluate_binary (SpD K 3 d_evaluate_binary)) : FnOk P w K mg base (L2.CX P w) (k + 1) a.f_evaluate a.d_evaluate ps_evaluate (SpD K 3 (bodyD 4 (g_evaluate a d_evaluate_binary))) := by
  refine okD T.F_evaluate sc_evaluate fun cdv A outer s H E N hr tk => ?_
  exact (s_cons (s_set sc_evaluate.nd rfl (Or.inl rfl) (e_ix (o_ix4 hr.units) k_ix4 (e_var 0) e_int (fun _ _ => rfl)))
    (s_cons (s_if (t_cmp (o_eq4 hr.units) k_eq4 (e_var 3) e_str (nomark _)) (s_one (s_ret e_non)) s_nil)
    (s_cons (s_if (PW3.pt (w_or (t_cmp (o_eq4 hr.units) k_eq4 (e_var 3) e_str (nomark _)) (w_or1 (t_cmp (o_eq4 hr.units) k_eq4 (e_var 3) e_str (nomark _))))) (s_one (s_ret (e_cmp (o_eq4 hr.units) k_eq4 (e_var 3) e_str (nomark _)))) s_nil)
    (s_cons (s_if (PW3.pt (w_or (t_cmp (o_eq4 hr.units) k_eq4 (e_var 3) e_str (nomark _)) (w_or1 (t_cmp (o_eq4 hr.units) k_eq4 (e_var 3) e_str (nomark _))))) (s_one (s_ret (e_ix (o_ix4 hr.units) k_ix4 (e_var 0) e_int (fun _ _ => rfl)))) s_nil)
    (s_cons (s_if (t_cmp (o_eq4 hr.units) k_eq4 (e_var 3) e_str (nomark _)) (s_one (s_ret (e_call (ok_copied T) tk (hr.mono (Nat.le_trans (by decide) hk)) (by rfl) T.m_copied T.F_copied.kp T.b_copied (a_cons (e_ix (o_ix4 hr.units) k_ix4 (e_var 1) (e_ix (o_ix4 hr.units) k_ix4 (e_var 0) e_int (fun _ _ => rfl)) (fun _ _ => rfl)) a_nil)))) s_nil)
    (s_cons (s_if (t_cmp (o_eq4 hr.units) k_eq4 (e_var 3) e_str (nomark _)) (s_one (s_ret (e_call G_evaluate_binary tk hr (by rfl) T.m_evaluate_binary T.F_evaluate_binary.kp T.b_evaluate_binary (a_cons (e_var 0) (a_cons (e_var 1) (a_cons (e_var 2) a_nil)))))) s_nil)
    (s_cons (s_if (t_cmp (o_eq4 hr.units) k_eq4 (e_var 3) e_str (nomark _)) ss_stuck s_nil)
    (s_cons (s_if (t_cmp (o_eq4 hr.units) k_eq4 (e_var 3) e_str (nomark _)) ss_stuck s_nil)
    (s_cons (s_if (t_cmp (o_eq4 hr.units) k_eq4 (e_var 3) e_str (nomark _)) ss_stuck s_nil)
    (s_cons (s_if (t_cmp (o_in4 hr.units) (k_in4 false) (e_var 3) (e_tup (a_cons e_str (a_cons e_str (a_cons e_str a_nil)))) (by rfl)) ss_stuck s_nil)
    ss_stuck))))))))))
mutual
noncomputable def den_evaluate_binary (a : Ad) : Nat → DF
  | 0 => fun _ _ => .stuck
  | n + 1 => bodyD 5 (g_evaluate_binary a (den_evaluate a n))
noncomputable def den_evaluate (a : Ad) : Nat → DF
  | 0 => fun _ _ => .stuck
  | n + 1 => bodyD 4 (g_evaluate a (den_evaluate_binary a n))
end
theorem grp_evaluate_binary (T : Tx K mg a) : ∀ n : Nat, FnOk P w K mg base (L2.CX P w) (4 + n) a.f_evaluate_binary a.d_evaluate_binary ps_evaluate_binary (SpD K 3 (den_evaluate_binary a n)) ∧ FnOk P w K mg base (L2.CX P w) (4 + n) a.f_evaluate a.d_evaluate ps_evaluate (SpD K 3 (den_evaluate a n))
  | 0 => ⟨fnStuck, fnStuck⟩
  | n + 1 => by
    obtain ⟨G_evaluate_binary, G_evaluate⟩ := grp_evaluate_binary T n
    exact ⟨step_evaluate_binary T (Nat.le_trans (by decide) (Nat.le_add_right 4 n)) G_evaluate, step_evaluate T (Nat.le_trans (by decide) (Nat.le_add_right 4 n)) G_evaluate_binary⟩
theorem ok_evaluate_binary (T : Tx K mg a) (n : Nat) : FnOk P w K mg base (L2.CX P w) (4 + n) a.f_evaluate_binary a.d_evaluate_binary ps_evaluate_binary (SpD K 3 (den_evaluate_binary a n)) := (grp_evaluate_binary T n).1
theorem ok_evaluate (T : Tx K mg a) (n : Nat) : FnOk P w K mg base (L2.CX P w) (4 + n) a.f_evaluate a.d_evaluate ps_evaluate (SpD K 3 (den_evaluate a n)) := (grp_evaluate_binary T n).2
/-! applied -/
theorem sc_applied : FnScope nn_applied ps_applied (defScope st_applied) := ⟨rfl, rfl, rfl, by decide +kernel, rfl, by decide +kernel, by decide +kernel⟩
noncomputable def g_applied (a : Ad) : G := (gSeq (gNew 5 (nDictOf (dCons (dVar 3) dNil)))
  (gSeq (gPutK (dVar 5) (dVar 0) (dVar 1))
  (gGh (wFrz 5) (gRet (dCall 3 (den_evaluate a 6) (dCons (dVar 2) (dCons (dVar 5) (dCons (dVar 4) dNil))))))))
noncomputable def den_applied (a : Ad) : DF := bodyD 6 (g_applied a)
theorem ok_applied (T : Tx K mg a) : FnOk P w K mg base (L2.CX P w) 11 a.f_applied a.d_applied ps_applied (SpD K 5 (den_applied a)) := by
  refine okD T.F_applied sc_applied fun cdv A outer s H E N hr tk => ?_
  exact (s_cons (s_new sc_applied.nd rfl (Or.inl rfl) (n_dictOf (by rfl) T.z_dict (by decide +kernel) (a_cons (e_var 3) a_nil)))
    (s_cons (s_putK hr.units (e_var 5) (e_var 0) (e_var 1))
    (s_one (s_gh (gh_frz _ 5) (s_ret (e_call (ok_evaluate T 6) tk (hr.mono (by decide)) (by rfl) T.m_evaluate T.F_evaluate.kp T.b_evaluate (a_cons (e_var 2) (a_cons (e_var 5) (a_cons (e_var 4) a_nil)))))))))
/-! Cell.__init__ -/
theorem sc_Cell___init__ : FnScope nn_Cell___init__ ps_Cell___init__ (defScope st_Cell___init__) := ⟨rfl, rfl, rfl, by decide +kernel, rfl, by decide +kernel, by decide +kernel⟩
noncomputable def g_Cell___init__ (a : Ad) : G := (gSeq (gFld a.c_Cell "name" (dVar 0) (dVar 1))
  (gSeq (gFld a.c_Cell "base" (dVar 0) (dVar 2))
  (gSeq (gFld a.c_Cell "queue" (dVar 0) (dNewRef (nLst dNil)))
  (gFld a.c_Cell "now" (dVar 0) (dVar 2)))))
noncomputable def den_Cell___init__ (a : Ad) : DF := bodyD 3 (g_Cell___init__ a)
theorem ok_Cell___init__ (T : Tx K mg a) : FnOk P w K mg base (L2.CX P w) 1 a.f_Cell___init__ a.d_Cell___init__ ps_Cell___init__ (SpD K 3 (den_Cell___init__ a)) := by
  refine okD T.F_Cell___init__ sc_Cell___init__ fun cdv A outer s H E N hr tk => ?_
  exact (s_cons (s_fld T.i_Cell.cl T.n_Cell_name (e_var 0) (e_var 1))
    (s_cons (s_fld T.i_Cell.cl T.n_Cell_base (e_var 0) (e_var 2))
    (s_cons (s_fld T.i_Cell.cl T.n_Cell_queue (e_var 0) (e_newref (n_lst a_nil)))
    (s_one (s_fld T.i_Cell.cl T.n_Cell_now (e_var 0) (e_var 2))))))
/-! Cell.__eq__ -/
theorem sc_Cell___eq__ : FnScope nn_Cell___eq__ ps_Cell___eq__ (defScope st_Cell___eq__) := ⟨rfl, rfl, rfl, by decide +kernel, rfl, by decide +kernel, by decide +kernel⟩
noncomputable def lb_Cell___eq___0 (a : Ad) : G := (gSeq (gIf (dOrT (dTest (dOp2 (gEq4 true) (dOp2 gIx4 (dVar 2) (dC (.int 0))) (dOp2 gIx4 (dVar 3) (dC (.int 0))))) (dOrT (dTest (dOp2 (gEq4 true) (dOp2 gIx4 (dVar 2) (dC (.int 1))) (dOp2 gIx4 (dVar 3) (dC (.int 1))))) (dTest (dOp2 (gEq4 true) (dOp2 gIx4 (dVar 2) (dC (.int 2))) (dOp2 gIx4 (dVar 3) (dC (.int 2))))))) (gRet (dC (.bl false))) gNx)
  (gIf (dNotT (dTruth (dCall 2 (den_same a 3) (dCons (dOp2 gIx4 (dVar 2) (dC (.int 3))) (dCons (dOp2 gIx4 (dVar 3) (dC (.int 3))) dNil))))) (gRet (dC (.bl false))) gNx))
noncomputable def g_Cell___eq__ (a : Ad) : G := (gSeq (gIf (dNotT (dTruth (dIsiC a.c_Cell (dVar 1)))) (gRet (dC (.bl false))) gNx)
  (gSeq (gIf (dOrT (dTest (dOp2 (gEq4 true) (dFld a.c_Cell "name" (dVar 0)) (dFld a.c_Cell "name" (dVar 1)))) (dOrT (dNotT (dTruth (dCall 2 (den_same a 3) (dCons (dFld a.c_Cell "base" (dVar 0)) (dCons (dFld a.c_Cell "base" (dVar 1)) dNil))))) (dNotT (dTruth (dCall 2 (den_same a 3) (dCons (dFld a.c_Cell "now" (dVar 0)) (dCons (dFld a.c_Cell "now" (dVar 1)) dNil))))))) (gRet (dC (.bl false))) gNx)
  (gSeq (gIf (dTest (dOp2 (gEq4 true) (dFun gLen4 (dCons (dFld a.c_Cell "queue" (dVar 0)) dNil)) (dFun gLen4 (dCons (dFld a.c_Cell "queue" (dVar 1)) dNil)))) (gRet (dC (.bl false))) gNx)
  (gSeq (gFor (iZp (dCons (dFld a.c_Cell "queue" (dVar 0)) (dCons (dFld a.c_Cell "queue" (dVar 1)) dNil))) (tgTup 2 (tgsCons (tgName 2) (tgsCons (tgName 3) tgsNil))) (lb_Cell___eq___0 a))
  (gRet (dC (.bl true)))))))
noncomputable def den_Cell___eq__ (a : Ad) : DF := bodyD 4 (g_Cell___eq__ a)
theorem ok_Cell___eq__ (T : Tx K mg a) : FnOk P w K mg base (L2.CX P w) 5 a.f_Cell___eq__ a.d_Cell___eq__ ps_Cell___eq__ (SpD K 2 (den_Cell___eq__ a)) := by
  refine okD T.F_Cell___eq__ sc_Cell___eq__ fun cdv A outer s H E N hr tk => ?_
  exact (s_cons (s_if (t_not (t_truth (e_isiC T.i_Cell (by rfl) T.z_isinstance (by rfl) T.mc_Cell (e_var 1)) (fun _ => rfl))) (s_one (s_ret e_bl)) s_nil)
    (s_cons (s_if (PW3.pt (w_or (t_cmp (o_ne4 hr.units) k_ne4 (e_fld T.i_Cell.cl T.n_Cell_name (e_var 0)) (e_fld T.i_Cell.cl T.n_Cell_name (e_var 1)) (nomark _)) (w_or (t_not (t_truth (e_call (ok_same T 3) tk (hr.mono (by decide)) (by rfl) T.m_same T.F_same.kp T.b_same (a_cons (e_fld T.i_Cell.cl T.n_Cell_base (e_var 0)) (a_cons (e_fld T.i_Cell.cl T.n_Cell_base (e_var 1)) a_nil))) (fun _ => rfl))) (w_or1 (t_not (t_truth (e_call (ok_same T 3) tk (hr.mono (by decide)) (by rfl) T.m_same T.F_same.kp T.b_same (a_cons (e_fld T.i_Cell.cl T.n_Cell_now (e_var 0)) (a_cons (e_fld T.i_Cell.cl T.n_Cell_now (e_var 1)) a_nil))) (fun _ => rfl))))))) (s_one (s_ret e_bl)) s_nil)
    (s_cons (s_if (t_cmp (o_ne4 hr.units) k_ne4 (e_funB o_len4 k_lenD (by rfl) T.z_len (by decide +kernel) (a_cons (e_fld T.i_Cell.cl T.n_Cell_queue (e_var 0)) a_nil)) (e_funB o_len4 k_lenD (by rfl) T.z_len (by decide +kernel) (a_cons (e_fld T.i_Cell.cl T.n_Cell_queue (e_var 1)) a_nil)) (nomark _)) (s_one (s_ret e_bl)) s_nil)
    (s_cons (s_for (passes_of rfl) rfl (i_zip (by rfl) T.z_zip (a_cons (e_fld T.i_Cell.cl T.n_Cell_queue (e_var 0)) (a_cons (e_fld T.i_Cell.cl T.n_Cell_queue (e_var 1)) a_nil))) (pg_tup (n := 2) rfl (pgs_cons (pg_name (i := 2) sc_Cell___eq__.nd rfl (Or.inl rfl)) (pgs_cons (pg_name (i := 3) sc_Cell___eq__.nd rfl (Or.inl rfl)) pgs_nil))) (g_tup (gs_cons (g_name 2) (gs_cons (g_name 3) gs_nil))) (s_cons (s_if (PW3.pt (w_or (t_cmp (o_ne4 hr.units) k_ne4 (e_ix (o_ix4 hr.units) k_ix4 (e_var 2) e_int (fun _ _ => rfl)) (e_ix (o_ix4 hr.units) k_ix4 (e_var 3) e_int (fun _ _ => rfl)) (nomark _)) (w_or (t_cmp (o_ne4 hr.units) k_ne4 (e_ix (o_ix4 hr.units) k_ix4 (e_var 2) e_int (fun _ _ => rfl)) (e_ix (o_ix4 hr.units) k_ix4 (e_var 3) e_int (fun _ _ => rfl)) (nomark _)) (w_or1 (t_cmp (o_ne4 hr.units) k_ne4 (e_ix (o_ix4 hr.units) k_ix4 (e_var 2) e_int (fun _ _ => rfl)) (e_ix (o_ix4 hr.units) k_ix4 (e_var 3) e_int (fun _ _ => rfl)) (nomark _)))))) (s_one (s_ret e_bl)) s_nil)
    (s_one (s_if (t_not (t_truth (e_call (ok_same T 3) tk (hr.mono (by decide)) (by rfl) T.m_same T.F_same.kp T.b_same (a_cons (e_ix (o_ix4 hr.units) k_ix4 (e_var 2) e_int (fun _ _ => rfl)) (a_cons (e_ix (o_ix4 hr.units) k_ix4 (e_var 3) e_int (fun _ _ => rfl)) a_nil))) (fun _ => rfl))) (s_one (s_ret e_bl)) s_nil))))
    (s_one (s_ret e_bl))))))
/-! Cell.present -/
theorem sc_Cell_present : FnScope nn_Cell_present ps_Cell_present (defScope st_Cell_present) := ⟨rfl, rfl, rfl, by decide +kernel, rfl, by decide +kernel, by decide +kernel⟩
noncomputable def g_Cell_present (a : Ad) : G := (gRet (dFld a.c_Cell "now" (dVar 0)))
noncomputable def den_Cell_present (a : Ad) : DF := bodyD 1 (g_Cell_present a)
theorem ok_Cell_present (T : Tx K mg a) : FnOk P w K mg base (L2.CX P w) 1 a.f_Cell_present a.d_Cell_present ps_Cell_present (SpD K 1 (den_Cell_present a)) := by
  refine okD T.F_Cell_present sc_Cell_present fun cdv A outer s H E N hr tk => ?_
  exact (s_one (s_ret (e_fld T.i_Cell.cl T.n_Cell_now (e_var 0))))
/-! Cell.waits_in -/
theorem sc_Cell_waits_in : FnScope nn_Cell_waits_in ps_Cell_waits_in (defScope st_Cell_waits_in) := ⟨rfl, rfl, rfl, by decide +kernel, rfl, by decide +kernel, by decide +kernel⟩
noncomputable def lb_Cell_waits_in_0 (a : Ad) : G := (gIf (dAndT (dNotT (dTruth (dOp2 gIx4 (dVar 2) (dC (.int 0))))) (dTest (dOp2 (gEq4 false) (dOp2 gIx4 (dVar 2) (dC (.int 1))) (dVar 1)))) (gRet (dC (.bl true))) gNx)
noncomputable def g_Cell_waits_in (a : Ad) : G := (gSeq (gFor (iSrc (dFld a.c_Cell "queue" (dVar 0))) (tgName 2) (lb_Cell_waits_in_0 a))
  (gRet (dC (.bl false))))
noncomputable def den_Cell_waits_in (a : Ad) : DF := bodyD 3 (g_Cell_waits_in a)
theorem ok_Cell_waits_in (T : Tx K mg a) : FnOk P w K mg base (L2.CX P w) 1 a.f_Cell_waits_in a.d_Cell_waits_in ps_Cell_waits_in (SpD K 2 (den_Cell_waits_in a)) := by
  refine okD T.F_Cell_waits_in sc_Cell_waits_in fun cdv A outer s H E N hr tk => ?_
  exact (s_cons (s_for (passes_of rfl) rfl (i_src (e_fld T.i_Cell.cl T.n_Cell_queue (e_var 0))) (pg_name (i := 2) sc_Cell_waits_in.nd rfl (Or.inl rfl)) (g_name 2) (s_one (s_if (PW3.pt (w_and (t_not (t_truth (e_ix (o_ix4 hr.units) k_ix4 (e_var 2) e_int (fun _ _ => rfl)) (fun _ => rfl))) (w_and1 (t_cmp (o_eq4 hr.units) k_eq4 (e_ix (o_ix4 hr.units) k_ix4 (e_var 2) e_int (fun _ _ => rfl)) (e_var 1) (nomark _))))) (s_one (s_ret e_bl)) s_nil)))
    (s_one (s_ret e_bl)))
/-! Cell.open_lanes -/
theorem sc_Cell_open_lanes : FnScope nn_Cell_open_lanes ps_Cell_open_lanes (defScope st_Cell_open_lanes) := ⟨rfl, rfl, rfl, by decide +kernel, rfl, by decide +kernel, by decide +kernel⟩
noncomputable def lb_Cell_open_lanes_0 (a : Ad) : F Bool := (dTruth (dMeth a.c_Cell "waits_in" 2 (den_Cell_waits_in a) (dVar 0) (dCons (dVar 1) dNil)))
noncomputable def lb_Cell_open_lanes_1 (a : Ad) : F D := (dVar 1)
noncomputable def g_Cell_open_lanes (a : Ad) : G := (gRet (dFrz (nLc (dBind (dCons (dC (.int 4)) dNil) kRng1) (tgName 1) (lb_Cell_open_lanes_0 a) (lb_Cell_open_lanes_1 a) [1])))
noncomputable def den_Cell_open_lanes (a : Ad) : DF := bodyD 2 (g_Cell_open_lanes a)
theorem ok_Cell_open_lanes (T : Tx K mg a) : FnOk P w K mg base (L2.CX P w) 2 a.f_Cell_open_lanes a.d_Cell_open_lanes ps_Cell_open_lanes (SpD K 1 (den_Cell_open_lanes a)) := by
  refine okD T.F_Cell_open_lanes sc_Cell_open_lanes fun cdv A outer s H E N hr tk => ?_
  exact (s_one (s_ret (e_frz (n_lc (own := [("lane", 1)]) rfl sc_Cell_open_lanes.nd (i_range1 (by rfl) T.z_range (a_cons e_int a_nil)) (blkOk_by (N := nn_Cell_open_lanes) (sc := defScope st_Cell_open_lanes) (own := [("lane", 1)]) (by decide +kernel)) (fun _ => (g_name 1)) (by decide) (fun _ _ _ _ _ => (pg_name (i := 1) sc_Cell_open_lanes.nd rfl (Or.inl rfl))) (fun _ _ _ _ _ _ => (c_one (t_truth (e_meth T.i_Cell.cl T.t_Cell_waits_in (ok_Cell_waits_in T) T3.takes0 (hr.mono (by decide)) T.b_Cell_waits_in (e_var 0) (a_cons (e_var 1) a_nil)) (fun _ => rfl)))) (fun _ _ _ _ _ _ => (e_var 1))))))
/-! Cell.send -/
theorem sc_Cell_send : FnScope nn_Cell_send ps_Cell_send (defScope st_Cell_send) := ⟨rfl, rfl, rfl, by decide +kernel, rfl, by decide +kernel, by decide +kernel⟩
noncomputable def g_Cell_send (a : Ad) : G := (gSeq (gIf (dTest (dOp2 gGe (dFun gLen4 (dCons (dFld a.c_Cell "queue" (dVar 0)) dNil)) (dC (.int 50)))) (gRet (dC (.bl false))) gNx)
  (gSeq (gAppend (dFld a.c_Cell "queue" (dVar 0)) (dCons (dFrz (nLst (dCons (dC (.bl false)) (dCons (dVar 1) (dCons (dVar 2) (dCons (dFrz (nDictOf (dCons (dVar 3) dNil))) dNil)))))) dNil))
  (gRet (dC (.bl true)))))
noncomputable def den_Cell_send (a : Ad) : DF := bodyD 4 (g_Cell_send a)
theorem ok_Cell_send (T : Tx K mg a) : FnOk P w K mg base (L2.CX P w) 1 a.f_Cell_send a.d_Cell_send ps_Cell_send (SpD K 4 (den_Cell_send a)) := by
  refine okD T.F_Cell_send sc_Cell_send fun cdv A outer s H E N hr tk => ?_
  exact (s_cons (s_if (t_cmp o_ge (k_cmp _ _) (e_funB o_len4 k_lenD (by rfl) T.z_len (by decide +kernel) (a_cons (e_fld T.i_Cell.cl T.n_Cell_queue (e_var 0)) a_nil)) (T.g_QUEUE_MOST.elim fun _ z => e_gint (by rfl) z) (nomark _)) (s_one (s_ret e_bl)) s_nil)
    (s_cons (s_append (e_fld T.i_Cell.cl T.n_Cell_queue (e_var 0)) (a_cons (e_frz (n_lst (a_cons e_bl (a_cons (e_var 1) (a_cons (e_var 2) (a_cons (e_frz (n_dictOf (by rfl) T.z_dict (by decide +kernel) (a_cons (e_var 3) a_nil))) a_nil)))))) a_nil))
    (s_one (s_ret e_bl))))
/-! Cell.processed -/
theorem sc_Cell_processed : FnScope nn_Cell_processed ps_Cell_processed (defScope st_Cell_processed) := ⟨rfl, rfl, rfl, by decide +kernel, rfl, by decide +kernel, by decide +kernel⟩
noncomputable def lb_Cell_processed_0 (a : Ad) : F D := (dFrz (nLst (dCons (dOrV (dOp2 gIx4 (dVar 5) (dC (.int 0))) (dOp2 (gIn4 false) (dOp2 gIx4 (dVar 5) (dC (.int 1))) (dVar 1))) (dCons (dOp2 gIx4 (dVar 5) (dC (.int 1))) (dCons (dOp2 gIx4 (dVar 5) (dC (.int 2))) (dCons (dOp2 gIx4 (dVar 5) (dC (.int 3))) dNil))))))
noncomputable def lb_Cell_processed_1 (a : Ad) : G := (gSeq (gFld a.c_Cell "base" (dVar 3) (dCall 5 (den_applied a) (dCons (dFld a.c_Cell "name" (dVar 0)) (dCons (dFld a.c_Cell "base" (dVar 3)) (dCons (dOp2 gIx4 (dOp2 gIx4 (dFld a.c_Cell "queue" (dVar 3)) (dVar 4)) (dC (.int 2))) (dCons (dOp2 gIx4 (dOp2 gIx4 (dFld a.c_Cell "queue" (dVar 3)) (dVar 4)) (dC (.int 3))) (dCons (dVar 2) dNil)))))))
  (gSet 4 (dOp2 gAdd (dVar 4) (dC (.int 1)))))
noncomputable def lb_Cell_processed_2 (a : Ad) : F Bool := (dAndT (dTest (dOp2 gLt (dVar 4) (dFun gLen4 (dCons (dFld a.c_Cell "queue" (dVar 3)) dNil)))) (dTruth (dOp2 gIx4 (dOp2 gIx4 (dFld a.c_Cell "queue" (dVar 3)) (dVar 4)) (dC (.int 0)))))
noncomputable def lb_Cell_processed_3 (a : Ad) : G := (gIf (dTruth (dOp2 gIx4 (dVar 5) (dC (.int 0)))) (gFld a.c_Cell "now" (dVar 3) (dCall 5 (den_applied a) (dCons (dFld a.c_Cell "name" (dVar 0)) (dCons (dFld a.c_Cell "now" (dVar 3)) (dCons (dOp2 gIx4 (dVar 5) (dC (.int 2))) (dCons (dOp2 gIx4 (dVar 5) (dC (.int 3))) (dCons (dVar 2) dNil))))))) gNx)
noncomputable def g_Cell_processed (a : Ad) : G := (gSeq (gSet 3 (dMake a.c_Cell 3 (den_Cell___init__ a) (dCons (dFld a.c_Cell "name" (dVar 0)) (dCons (dFld a.c_Cell "base" (dVar 0)) dNil))))
  (gSeq (gFld a.c_Cell "queue" (dVar 3) (dNewRef (nLc (iSrc (dFld a.c_Cell "queue" (dVar 0))) (tgName 5) (dPure true) (lb_Cell_processed_0 a) [5])))
  (gSeq (gSet 4 (dC (.int 0)))
  (gSeq (whileF (lb_Cell_processed_2 a) (lb_Cell_processed_1 a) 60)
  (gSeq (gFld a.c_Cell "queue" (dVar 3) (dNewRef (nSlice (dFld a.c_Cell "queue" (dVar 3)) (dPart (dVar 4)) dNoPart)))
  (gSeq (gFld a.c_Cell "now" (dVar 3) (dFld a.c_Cell "base" (dVar 3)))
  (gSeq (gFor (iSrc (dFld a.c_Cell "queue" (dVar 3))) (tgName 5) (lb_Cell_processed_3 a))
  (gRet (dVar 3)))))))))
noncomputable def den_Cell_processed (a : Ad) : DF := bodyD 6 (g_Cell_processed a)
theorem ok_Cell_processed (T : Tx K mg a) : FnOk P w K mg base (L2.CX P w) 12 a.f_Cell_processed a.d_Cell_processed ps_Cell_processed (SpD K 3 (den_Cell_processed a)) := by
  refine okD T.F_Cell_processed sc_Cell_processed fun cdv A outer s H E N hr tk => ?_
  exact (s_cons (s_set sc_Cell_processed.nd rfl (Or.inl rfl) (e_make T.k_Cell (ok_Cell___init__ T) tk (hr.mono (by decide)) (by rfl) T.mc_Cell T.b_Cell___init__ (a_cons (e_fld T.i_Cell.cl T.n_Cell_name (e_var 0)) (a_cons (e_fld T.i_Cell.cl T.n_Cell_base (e_var 0)) a_nil))))
    (s_cons (s_fld T.i_Cell.cl T.n_Cell_queue (e_var 3) (e_newref (n_lc (own := [("entry", 5)]) rfl sc_Cell_processed.nd (i_src (e_fld T.i_Cell.cl T.n_Cell_queue (e_var 0))) (blkOk_by (N := nn_Cell_processed) (sc := defScope st_Cell_processed) (own := [("entry", 5)]) (by decide +kernel)) (fun _ => (g_name 5)) (by decide) (fun _ _ _ _ _ => (pg_name (i := 5) sc_Cell_processed.nd rfl (Or.inl rfl))) (fun _ _ _ _ _ _ => c_nil) (fun _ _ _ _ _ _ => (e_frz (n_lst (a_cons (e_or (e_ix (o_ix4 hr.units) k_ix4 (e_var 5) e_int (fun _ _ => rfl)) (e_one (e_cmp (o_in4 hr.units) (k_in4 false) (e_ix (o_ix4 hr.units) k_ix4 (e_var 5) e_int (fun _ _ => rfl)) (e_var 1) (by rfl)))) (a_cons (e_ix (o_ix4 hr.units) k_ix4 (e_var 5) e_int (fun _ _ => rfl)) (a_cons (e_ix (o_ix4 hr.units) k_ix4 (e_var 5) e_int (fun _ _ => rfl)) (a_cons (e_ix (o_ix4 hr.units) k_ix4 (e_var 5) e_int (fun _ _ => rfl)) a_nil))))))))))
    (s_cons (s_set sc_Cell_processed.nd rfl (Or.inl rfl) e_int)
    (s_cons (s_while 60 (passes_of rfl) (PW3.pt (w_and (t_cmp o_lt (k_cmp _ _) (e_var 4) (e_funB o_len4 k_lenD (by rfl) T.z_len (by decide +kernel) (a_cons (e_fld T.i_Cell.cl T.n_Cell_queue (e_var 3)) a_nil)) (nomark _)) (w_and1 (t_truth (e_ix (o_ix4 hr.units) k_ix4 (e_ix (o_ix4 hr.units) k_ix4 (e_fld T.i_Cell.cl T.n_Cell_queue (e_var 3)) (e_var 4) (fun _ _ => rfl)) e_int (fun _ _ => rfl)) (fun _ => rfl))))) (s_cons (s_fld T.i_Cell.cl T.n_Cell_base (e_var 3) (e_call (ok_applied T) tk (hr.mono (by decide)) (by rfl) T.m_applied T.F_applied.kp T.b_applied (a_cons (e_fld T.i_Cell.cl T.n_Cell_name (e_var 0)) (a_cons (e_fld T.i_Cell.cl T.n_Cell_base (e_var 3)) (a_cons (e_ix (o_ix4 hr.units) k_ix4 (e_ix (o_ix4 hr.units) k_ix4 (e_fld T.i_Cell.cl T.n_Cell_queue (e_var 3)) (e_var 4) (fun _ _ => rfl)) e_int (fun _ _ => rfl)) (a_cons (e_ix (o_ix4 hr.units) k_ix4 (e_ix (o_ix4 hr.units) k_ix4 (e_fld T.i_Cell.cl T.n_Cell_queue (e_var 3)) (e_var 4) (fun _ _ => rfl)) e_int (fun _ _ => rfl)) (a_cons (e_var 2) a_nil)))))))
    (s_one (s_set sc_Cell_processed.nd rfl (Or.inl rfl) (e_op o_add k_add (e_var 4) e_int)))))
    (s_cons (s_fld T.i_Cell.cl T.n_Cell_queue (e_var 3) (e_newref (n_slice (e_fld T.i_Cell.cl T.n_Cell_queue (e_var 3)) (o_some (e_var 4)) o_none)))
    (s_cons (s_fld T.i_Cell.cl T.n_Cell_now (e_var 3) (e_fld T.i_Cell.cl T.n_Cell_base (e_var 3)))
    (s_cons (s_for (passes_of rfl) rfl (i_src (e_fld T.i_Cell.cl T.n_Cell_queue (e_var 3))) (pg_name (i := 5) sc_Cell_processed.nd rfl (Or.inl rfl)) (g_name 5) (s_one (s_if (t_truth (e_ix (o_ix4 hr.units) k_ix4 (e_var 5) e_int (fun _ _ => rfl)) (fun _ => rfl)) (s_one (s_fld T.i_Cell.cl T.n_Cell_now (e_var 3) (e_call (ok_applied T) tk (hr.mono (by decide)) (by rfl) T.m_applied T.F_applied.kp T.b_applied (a_cons (e_fld T.i_Cell.cl T.n_Cell_name (e_var 0)) (a_cons (e_fld T.i_Cell.cl T.n_Cell_now (e_var 3)) (a_cons (e_ix (o_ix4 hr.units) k_ix4 (e_var 5) e_int (fun _ _ => rfl)) (a_cons (e_ix (o_ix4 hr.units) k_ix4 (e_var 5) e_int (fun _ _ => rfl)) (a_cons (e_var 2) a_nil)))))))) s_nil)))
    (s_one (s_ret (e_var 3))))))))))
/-! Cell.copied -/
theorem sc_Cell_copied : FnScope nn_Cell_copied ps_Cell_copied (defScope st_Cell_copied) := ⟨rfl, rfl, rfl, by decide +kernel, rfl, by decide +kernel, by decide +kernel⟩
noncomputable def lb_Cell_copied_0 (a : Ad) : F D := (dFrz (nListOf (dCons (dVar 2) dNil)))
noncomputable def g_Cell_copied (a : Ad) : G := (gSeq (gSet 1 (dMake a.c_Cell 3 (den_Cell___init__ a) (dCons (dFld a.c_Cell "name" (dVar 0)) (dCons (dFld a.c_Cell "base" (dVar 0)) dNil))))
  (gSeq (gFld a.c_Cell "queue" (dVar 1) (dNewRef (nLc (iSrc (dFld a.c_Cell "queue" (dVar 0))) (tgName 2) (dPure true) (lb_Cell_copied_0 a) [2])))
  (gSeq (gFld a.c_Cell "now" (dVar 1) (dFld a.c_Cell "now" (dVar 0)))
  (gRet (dVar 1)))))
noncomputable def den_Cell_copied (a : Ad) : DF := bodyD 3 (g_Cell_copied a)
theorem ok_Cell_copied (T : Tx K mg a) : FnOk P w K mg base (L2.CX P w) 3 a.f_Cell_copied a.d_Cell_copied ps_Cell_copied (SpD K 1 (den_Cell_copied a)) := by
  refine okD T.F_Cell_copied sc_Cell_copied fun cdv A outer s H E N hr tk => ?_
  exact (s_cons (s_set sc_Cell_copied.nd rfl (Or.inl rfl) (e_make T.k_Cell (ok_Cell___init__ T) tk (hr.mono (by decide)) (by rfl) T.mc_Cell T.b_Cell___init__ (a_cons (e_fld T.i_Cell.cl T.n_Cell_name (e_var 0)) (a_cons (e_fld T.i_Cell.cl T.n_Cell_base (e_var 0)) a_nil))))
    (s_cons (s_fld T.i_Cell.cl T.n_Cell_queue (e_var 1) (e_newref (n_lc (own := [("entry", 2)]) rfl sc_Cell_copied.nd (i_src (e_fld T.i_Cell.cl T.n_Cell_queue (e_var 0))) (blkOk_by (N := nn_Cell_copied) (sc := defScope st_Cell_copied) (own := [("entry", 2)]) (by decide +kernel)) (fun _ => (g_name 2)) (by decide) (fun _ _ _ _ _ => (pg_name (i := 2) sc_Cell_copied.nd rfl (Or.inl rfl))) (fun _ _ _ _ _ _ => c_nil) (fun _ _ _ _ _ _ => (e_frz (n_listOf (by rfl) T.z_list (by decide +kernel) (a_cons (e_var 2) a_nil)))))))
    (s_cons (s_fld T.i_Cell.cl T.n_Cell_now (e_var 1) (e_fld T.i_Cell.cl T.n_Cell_now (e_var 0)))
    (s_one (s_ret (e_var 1))))))
/-! _law_rows -/
theorem sc_l_rows : FnScope nn_l_rows ps_l_rows (defScope st_l_rows) := ⟨rfl, rfl, rfl, by decide +kernel, rfl, by decide +kernel, by decide +kernel⟩
noncomputable def lb_l_rows_0 (a : Ad) : G := (gSeq (gSet 4 (dC (.int 0)))
  (gSeq (gIf (dTest (dOp2 gGt (dFun gLen4 (dCons (dVar 0) dNil)) (dC (.int 0)))) (gSet 4 (dFun gInt1 (dCons (dOp2 gIx4 (dVar 0) (dOp2 gMod (dFun gInt1 (dCons (dVar 3) dNil)) (dFun gLen4 (dCons (dVar 0) dNil)))) dNil))) gNx)
  (gSeq (gIf (dTest (dOp2 gLt (dVar 4) (dC (.int 0)))) (gSet 4 (dOp2 gSub (dC (.int 1)) (dOp2 gMul (dC (.int 2)) (dVar 4)))) gNx)
  (gSeq (gIf (dOrT (dTest (dOp2 gGe (dVar 3) (dFun gLen4 (dCons (dVar 0) dNil)))) (dTest (dOp2 gLt (dVar 4) (dC (.int 1000000000))))) (gSeq (gSet 4 (dOp2 gMod (dFun gInt1 (dCons (dOp2 gAdd (dOp2 gMul (dOp2 gAdd (dOp2 gAdd (dVar 4) (dOp2 gMul (dC (.int 131)) (dVar 3))) (dC (.int 7))) (dC (.int 48271))) (dOp2 gMul (dOp2 gMul (dVar 3) (dVar 3)) (dC (.int 69621)))) dNil)) (dC (.int 1000000007))))
  (gSet 4 (dOp2 gMod (dFun gInt1 (dCons (dOp2 gMul (dOp2 gAdd (dOp2 gAdd (dVar 4) (dOp2 gMul (dC (.int 17)) (dVar 3))) (dC (.int 3))) (dC (.int 2862933555777941757))) dNil)) (dC (.int 18446744073709551557))))) gNx)
  (gAppend (dVar 2) (dCons (dVar 4) dNil))))))
noncomputable def g_l_rows (a : Ad) : G := (gSeq (gNew 2 (nLst dNil))
  (gSeq (gFor (dBind (dCons (dVar 1) dNil) kRng1) (tgName 3) (lb_l_rows_0 a))
  (gGh (wFrz 2) (gRet (dVar 2)))))
noncomputable def den_l_rows (a : Ad) : DF := bodyD 5 (g_l_rows a)
theorem ok_l_rows (T : Tx K mg a) : FnOk P w K mg base (L2.CX P w) 1 a.f_l_rows a.d_l_rows ps_l_rows (SpD K 2 (den_l_rows a)) := by
  refine okD T.F_l_rows sc_l_rows fun cdv A outer s H E N hr tk => ?_
  exact (s_cons (s_new sc_l_rows.nd rfl (Or.inl rfl) (n_lst a_nil))
    (s_cons (s_for (passes_of rfl) rfl (i_range1 (by rfl) T.z_range (a_cons (e_var 1) a_nil)) (pg_name (i := 3) sc_l_rows.nd rfl (Or.inl rfl)) (g_name 3) (s_cons (s_set sc_l_rows.nd rfl (Or.inl rfl) e_int)
    (s_cons (s_if (t_cmp o_gt (k_cmp _ _) (e_funB o_len4 k_lenD (by rfl) T.z_len (by decide +kernel) (a_cons (e_var 0) a_nil)) e_int (nomark _)) (s_one (s_set sc_l_rows.nd rfl (Or.inl rfl) (e_funT call_int1 k_int1 (by rfl) T.z_int (by decide +kernel) (a_cons (e_ix (o_ix4 hr.units) k_ix4 (e_var 0) (e_op op_mod k_mod (e_funT call_int1 k_int1 (by rfl) T.z_int (by decide +kernel) (a_cons (e_var 3) a_nil)) (e_funB o_len4 k_lenD (by rfl) T.z_len (by decide +kernel) (a_cons (e_var 0) a_nil))) (fun _ _ => rfl)) a_nil)))) s_nil)
    (s_cons (s_if (t_cmp o_lt (k_cmp _ _) (e_var 4) e_int (nomark _)) (s_one (s_set sc_l_rows.nd rfl (Or.inl rfl) (e_op op_sub k_sub e_int (e_op op_mul k_mul e_int (e_var 4))))) s_nil)
    (s_cons (s_if (PW3.pt (w_or (t_cmp o_ge (k_cmp _ _) (e_var 3) (e_funB o_len4 k_lenD (by rfl) T.z_len (by decide +kernel) (a_cons (e_var 0) a_nil)) (nomark _)) (w_or1 (t_cmp o_lt (k_cmp _ _) (e_var 4) e_int (nomark _))))) (s_cons (s_set sc_l_rows.nd rfl (Or.inl rfl) (e_op op_mod k_mod (e_funT call_int1 k_int1 (by rfl) T.z_int (by decide +kernel) (a_cons (e_op o_add k_add (e_op op_mul k_mul (e_op o_add k_add (e_op o_add k_add (e_var 4) (e_op op_mul k_mul e_int (e_var 3))) e_int) e_int) (e_op op_mul k_mul (e_op op_mul k_mul (e_var 3) (e_var 3)) e_int)) a_nil)) e_int))
    (s_one (s_set sc_l_rows.nd rfl (Or.inl rfl) (e_op op_mod k_mod (e_funT call_int1 k_int1 (by rfl) T.z_int (by decide +kernel) (a_cons (e_op op_mul k_mul (e_op o_add k_add (e_op o_add k_add (e_var 4) (e_op op_mul k_mul e_int (e_var 3))) e_int) e_int) a_nil)) e_int)))) s_nil)
    (s_one (s_append (e_var 2) (a_cons (e_var 4) a_nil))))))))
    (s_one (s_gh (gh_frz _ 2) (s_ret (e_var 2))))))
/-! _law_update -/
theorem sc_l_update : FnScope nn_l_update ps_l_update (defScope st_l_update) := ⟨rfl, rfl, rfl, by decide +kernel, rfl, by decide +kernel, by decide +kernel⟩
noncomputable def g_l_update (a : Ad) : G := (gSeq (gSet 1 (dOp2 gMod (dFun gInt1 (dCons (dVar 0) dNil)) (dC (.int 3))))
  (gSeq (gSet 2 (dOp2 gMod (dFun gInt1 (dCons (dOp2 gDiv (dVar 0) (dC (.int 3))) dNil)) (dC (.int 9))))
  (gSeq (gIf (dTest (dOp2 (gEq4 false) (dVar 1) (dC (.int 0)))) (gRet (dTup (dCons (dC (.str "number")) (dCons (dVar 2) dNil)))) gNx)
  (gSeq (gIf (dTest (dOp2 (gEq4 false) (dVar 1) (dC (.int 1)))) (gRet (dTup (dCons (dC (.str "binary")) (dCons (dC (.str "+")) (dCons (dTup (dCons (dC (.str "name")) (dCons (dC (.str "c")) dNil))) (dCons (dTup (dCons (dC (.str "name")) (dCons (dC (.str "k")) dNil))) dNil)))))) gNx)
  (gRet (dTup (dCons (dC (.str "binary")) (dCons (dC (.str "+")) (dCons (dTup (dCons (dC (.str "binary")) (dCons (dC (.str "*")) (dCons (dTup (dCons (dC (.str "name")) (dCons (dC (.str "c")) dNil))) (dCons (dTup (dCons (dC (.str "number")) (dCons (dC (.int 2)) dNil))) dNil))))) (dCons (dTup (dCons (dC (.str "number")) (dCons (dVar 2) dNil))) dNil))))))))))
noncomputable def den_l_update (a : Ad) : DF := bodyD 3 (g_l_update a)
theorem ok_l_update (T : Tx K mg a) : FnOk P w K mg base (L2.CX P w) 1 a.f_l_update a.d_l_update ps_l_update (SpD K 1 (den_l_update a)) := by
  refine okD T.F_l_update sc_l_update fun cdv A outer s H E N hr tk => ?_
  exact (s_cons (s_set sc_l_update.nd rfl (Or.inl rfl) (e_op op_mod k_mod (e_funT call_int1 k_int1 (by rfl) T.z_int (by decide +kernel) (a_cons (e_var 0) a_nil)) e_int))
    (s_cons (s_set sc_l_update.nd rfl (Or.inl rfl) (e_op op_mod k_mod (e_funT call_int1 k_int1 (by rfl) T.z_int (by decide +kernel) (a_cons (e_op op_fdiv k_div (e_var 0) e_int) a_nil)) e_int))
    (s_cons (s_if (t_cmp (o_eq4 hr.units) k_eq4 (e_var 1) e_int (nomark _)) (s_one (s_ret (e_tup (a_cons e_str (a_cons (e_var 2) a_nil))))) s_nil)
    (s_cons (s_if (t_cmp (o_eq4 hr.units) k_eq4 (e_var 1) e_int (nomark _)) (s_one (s_ret (e_tup (a_cons e_str (a_cons e_str (a_cons (e_tup (a_cons e_str (a_cons e_str a_nil))) (a_cons (e_tup (a_cons e_str (a_cons e_str a_nil))) a_nil))))))) s_nil)
    (s_one (s_ret (e_tup (a_cons e_str (a_cons e_str (a_cons (e_tup (a_cons e_str (a_cons e_str (a_cons (e_tup (a_cons e_str (a_cons e_str a_nil))) (a_cons (e_tup (a_cons e_str (a_cons e_int a_nil))) a_nil))))) (a_cons (e_tup (a_cons e_str (a_cons (e_var 2) a_nil))) a_nil)))))))))))
/-! _law_apply -/
theorem sc_l_apply : FnScope nn_l_apply ps_l_apply (defScope st_l_apply) := ⟨rfl, rfl, rfl, by decide +kernel, rfl, by decide +kernel, by decide +kernel⟩
noncomputable def g_l_apply (a : Ad) : G := (gSeq (gSet 2 (dOp2 gIx4 (dVar 1) (dC (.int 2))))
  (gSeq (gIf (dTest (dOp2 (gEq4 false) (dOp2 gIx4 (dVar 2) (dC (.int 0))) (dC (.str "number")))) (gRet (dOp2 gIx4 (dVar 2) (dC (.int 1)))) gNx)
  (gSeq (gIf (dTest (dOp2 (gEq4 false) (dOp2 gIx4 (dOp2 gIx4 (dVar 2) (dC (.int 3))) (dC (.int 0))) (dC (.str "name")))) (gRet (dOp2 gAdd (dVar 0) (dOp2 gIx4 (dOp2 gIx4 (dVar 1) (dC (.int 3))) (dC (.str "k"))))) gNx)
  (gRet (dOp2 gAdd (dFun gInt1 (dCons (dOp2 gMul (dVar 0) (dC (.int 2))) dNil)) (dOp2 gIx4 (dOp2 gIx4 (dVar 2) (dC (.int 3))) (dC (.int 1))))))))
noncomputable def den_l_apply (a : Ad) : DF := bodyD 3 (g_l_apply a)
theorem ok_l_apply (T : Tx K mg a) : FnOk P w K mg base (L2.CX P w) 1 a.f_l_apply a.d_l_apply ps_l_apply (SpD K 2 (den_l_apply a)) := by
  refine okD T.F_l_apply sc_l_apply fun cdv A outer s H E N hr tk => ?_
  exact (s_cons (s_set sc_l_apply.nd rfl (Or.inl rfl) (e_ix (o_ix4 hr.units) k_ix4 (e_var 1) e_int (fun _ _ => rfl)))
    (s_cons (s_if (t_cmp (o_eq4 hr.units) k_eq4 (e_ix (o_ix4 hr.units) k_ix4 (e_var 2) e_int (fun _ _ => rfl)) e_str (nomark _)) (s_one (s_ret (e_ix (o_ix4 hr.units) k_ix4 (e_var 2) e_int (fun _ _ => rfl)))) s_nil)
    (s_cons (s_if (t_cmp (o_eq4 hr.units) k_eq4 (e_ix (o_ix4 hr.units) k_ix4 (e_ix (o_ix4 hr.units) k_ix4 (e_var 2) e_int (fun _ _ => rfl)) e_int (fun _ _ => rfl)) e_str (nomark _)) (s_one (s_ret (e_op o_add k_add (e_var 0) (e_ix (o_ix4 hr.units) k_ix4 (e_ix (o_ix4 hr.units) k_ix4 (e_var 1) e_int (fun _ _ => rfl)) e_str (fun _ _ => rfl))))) s_nil)
    (s_one (s_ret (e_op o_add k_add (e_funT call_int1 k_int1 (by rfl) T.z_int (by decide +kernel) (a_cons (e_op op_mul k_mul (e_var 0) e_int) a_nil)) (e_ix (o_ix4 hr.units) k_ix4 (e_ix (o_ix4 hr.units) k_ix4 (e_var 2) e_int (fun _ _ => rfl)) e_int (fun _ _ => rfl))))))))
/-! _law_processed -/
theorem sc_l_processed : FnScope nn_l_processed ps_l_processed (defScope st_l_processed) := ⟨rfl, rfl, rfl, by decide +kernel, rfl, by decide +kernel, by decide +kernel⟩
noncomputable def lb_l_processed_0 (a : Ad) : F D := (dFrz (nLst (dCons (dOrV (dOp2 gIx4 (dVar 6) (dC (.int 0))) (dOp2 (gIn4 false) (dOp2 gIx4 (dVar 6) (dC (.int 1))) (dVar 1))) (dCons (dOp2 gIx4 (dVar 6) (dC (.int 1))) (dCons (dOp2 gIx4 (dVar 6) (dC (.int 2))) (dCons (dOp2 gIx4 (dVar 6) (dC (.int 3))) dNil))))))
noncomputable def lb_l_processed_1 (a : Ad) : G := (gSeq (gIf (dOrT (dTest (dOp2 (gEq4 false) (dFun gLen4 (dCons (dVar 3) dNil)) (dC (.int 0)))) (dNotT (dTruth (dOp2 gIx4 (dOp2 gIx4 (dVar 3) (dC (.int 0))) (dC (.int 0)))))) gBk gNx)
  (gSeq (gSet 2 (dCall 2 (den_l_apply a) (dCons (dVar 2) (dCons (dOp2 gIx4 (dVar 3) (dC (.int 0))) dNil))))
  (gSet 3 (dNewRef (nSlice (dVar 3) (dPart (dC (.int 1))) dNoPart)))))
noncomputable def lb_l_processed_2 (a : Ad) : G := (gIf (dTruth (dOp2 gIx4 (dVar 6) (dC (.int 0)))) (gSet 5 (dCall 2 (den_l_apply a) (dCons (dVar 5) (dCons (dVar 6) dNil)))) gNx)
noncomputable def g_l_processed (a : Ad) : G := (gSeq (gSet 2 (dOp2 gIx4 (dVar 0) (dC (.int 0))))
  (gSeq (gSet 3 (dNewRef (nLc (iSrc (dOp2 gIx4 (dVar 0) (dC (.int 1)))) (tgName 6) (dPure true) (lb_l_processed_0 a) [6])))
  (gSeq (gFor (dBind (dCons (dC (.int 60)) dNil) kRng1) (tgName 4) (lb_l_processed_1 a))
  (gSeq (gSet 5 (dVar 2))
  (gSeq (gFor (iSrc (dVar 3)) (tgName 6) (lb_l_processed_2 a))
  (gRet (dFrz (nLst (dCons (dVar 2) (dCons (dVar 3) (dCons (dVar 5) dNil)))))))))))
noncomputable def den_l_processed (a : Ad) : DF := bodyD 7 (g_l_processed a)
theorem ok_l_processed (T : Tx K mg a) : FnOk P w K mg base (L2.CX P w) 2 a.f_l_processed a.d_l_processed ps_l_processed (SpD K 2 (den_l_processed a)) := by
  refine okD T.F_l_processed sc_l_processed fun cdv A outer s H E N hr tk => ?_
  exact (s_cons (s_set sc_l_processed.nd rfl (Or.inl rfl) (e_ix (o_ix4 hr.units) k_ix4 (e_var 0) e_int (fun _ _ => rfl)))
    (s_cons (ps_ref (ps_lc (own := [("_law_entry", 6)]) rfl sc_l_processed.nd rfl rfl (sw_true rfl rfl rfl (by decide +kernel)) (i_src (e_ix (o_ix4 hr.units) k_ix4 (e_var 0) e_int (fun _ _ => rfl))) (blkOk_by (N := nn_l_processed) (sc := defScope st_l_processed) (own := [("_law_entry", 6)]) (by decide +kernel)) (fun _ => (g_name 6)) (by decide) (fun _ _ _ _ _ => (pg_name (i := 6) sc_l_processed.nd rfl (Or.inl rfl))) (fun _ _ _ _ _ _ => c_nil) (fun _ _ _ _ _ _ => (e_frz (n_lst (a_cons (e_or (e_ix (o_ix4 hr.units) k_ix4 (e_var 6) e_int (fun _ _ => rfl)) (e_one (e_cmp (o_in4 hr.units) (k_in4 false) (e_ix (o_ix4 hr.units) k_ix4 (e_var 6) e_int (fun _ _ => rfl)) (e_var 1) (by rfl)))) (a_cons (e_ix (o_ix4 hr.units) k_ix4 (e_var 6) e_int (fun _ _ => rfl)) (a_cons (e_ix (o_ix4 hr.units) k_ix4 (e_var 6) e_int (fun _ _ => rfl)) (a_cons (e_ix (o_ix4 hr.units) k_ix4 (e_var 6) e_int (fun _ _ => rfl)) a_nil)))))))))
    (s_cons (s_for (passes_of rfl) rfl (i_range1 (by rfl) T.z_range (a_cons e_int a_nil)) (pg_name (i := 4) sc_l_processed.nd rfl (Or.inl rfl)) (g_name 4) (s_cons (s_if (PW3.pt (w_or (t_cmp (o_eq4 hr.units) k_eq4 (e_funB o_len4 k_lenD (by rfl) T.z_len (by decide +kernel) (a_cons (e_var 3) a_nil)) e_int (nomark _)) (w_or1 (t_not (t_truth (e_ix (o_ix4 hr.units) k_ix4 (e_ix (o_ix4 hr.units) k_ix4 (e_var 3) e_int (fun _ _ => rfl)) e_int (fun _ _ => rfl)) (fun _ => rfl)))))) (s_one s_break) s_nil)
    (s_cons (s_set sc_l_processed.nd rfl (Or.inl rfl) (e_call (ok_l_apply T) tk (hr.mono (by decide)) (by rfl) T.m_l_apply T.F_l_apply.kp T.b_l_apply (a_cons (e_var 2) (a_cons (e_ix (o_ix4 hr.units) k_ix4 (e_var 3) e_int (fun _ _ => rfl)) a_nil))))
    (s_one (s_set sc_l_processed.nd rfl (Or.inl rfl) (e_newref (n_slice (e_var 3) (o_some e_int) o_none)))))))
    (s_cons (s_set sc_l_processed.nd rfl (Or.inl rfl) (e_var 2))
    (s_cons (s_for (passes_of rfl) rfl (i_src (e_var 3)) (pg_name (i := 6) sc_l_processed.nd rfl (Or.inl rfl)) (g_name 6) (s_one (s_if (t_truth (e_ix (o_ix4 hr.units) k_ix4 (e_var 6) e_int (fun _ _ => rfl)) (fun _ => rfl)) (s_one (s_set sc_l_processed.nd rfl (Or.inl rfl) (e_call (ok_l_apply T) tk (hr.mono (by decide)) (by rfl) T.m_l_apply T.F_l_apply.kp T.b_l_apply (a_cons (e_var 5) (a_cons (e_var 6) a_nil))))) s_nil)))
    (s_one (s_ret (e_frz (n_lst (a_cons (e_var 2) (a_cons (e_var 3) (a_cons (e_var 5) a_nil))))))))))))
/-! _law_same -/
theorem sc_l_same : FnScope nn_l_same ps_l_same (defScope st_l_same) := ⟨rfl, rfl, rfl, by decide +kernel, rfl, by decide +kernel, by decide +kernel⟩
noncomputable def lb_l_same_0 (a : Ad) : G := (gIf (dTest (dOp2 (gEq4 true) (dFrz (nListOf (dCons (dOp2 gIx4 (dFld a.c_Cell "queue" (dVar 0)) (dVar 2)) dNil))) (dOp2 gIx4 (dOp2 gIx4 (dVar 1) (dC (.int 1))) (dVar 2)))) (gRet (dC (.bl false))) gNx)
noncomputable def lb_l_same_1 (a : Ad) : F Bool := (dAndT (dNotT (dTruth (dOp2 gIx4 (dVar 5) (dC (.int 0))))) (dTest (dOp2 (gEq4 false) (dOp2 gIx4 (dVar 5) (dC (.int 1))) (dVar 4))))
noncomputable def lb_l_same_2 (a : Ad) : F D := (dVar 5)
noncomputable def lb_l_same_3 (a : Ad) : F Bool := (dTest (dOp2 gGt (dFun gLen4 (dCons (dFrz (nLc (iSrc (dOp2 gIx4 (dVar 1) (dC (.int 1)))) (tgName 5) (lb_l_same_1 a) (lb_l_same_2 a) [5])) dNil)) (dC (.int 0))))
noncomputable def lb_l_same_4 (a : Ad) : F D := (dVar 4)
noncomputable def g_l_same (a : Ad) : G := (gSeq (gIf (dOrT (dTest (dOp2 (gEq4 true) (dFld a.c_Cell "name" (dVar 0)) (dC (.str "c")))) (dOrT (dTest (dOp2 (gEq4 true) (dFld a.c_Cell "base" (dVar 0)) (dOp2 gIx4 (dVar 1) (dC (.int 0))))) (dOrT (dTest (dOp2 (gEq4 true) (dProp a.c_Cell (den_Cell_present a) (dVar 0)) (dOp2 gIx4 (dVar 1) (dC (.int 2))))) (dTest (dOp2 (gEq4 true) (dFun gLen4 (dCons (dFld a.c_Cell "queue" (dVar 0)) dNil)) (dFun gLen4 (dCons (dOp2 gIx4 (dVar 1) (dC (.int 1))) dNil))))))) (gRet (dC (.bl false))) gNx)
  (gSeq (gFor (dBind (dCons (dFun gLen4 (dCons (dOp2 gIx4 (dVar 1) (dC (.int 1))) dNil)) dNil) kRng1) (tgName 2) (lb_l_same_0 a))
  (gSeq (gSet 3 (dFrz (nLc (dBind (dCons (dC (.int 4)) dNil) kRng1) (tgName 4) (lb_l_same_3 a) (lb_l_same_4 a) [4])))
  (gRet (dOp2 (gEq4 false) (dProp a.c_Cell (den_Cell_open_lanes a) (dVar 0)) (dVar 3))))))
noncomputable def den_l_same (a : Ad) : DF := bodyD 6 (g_l_same a)
theorem ok_l_same (T : Tx K mg a) : FnOk P w K mg base (L2.CX P w) 4 a.f_l_same a.d_l_same ps_l_same (SpD K 2 (den_l_same a)) := by
  refine okD T.F_l_same sc_l_same fun cdv A outer s H E N hr tk => ?_
  exact (s_cons (s_if (PW3.pt (w_or (t_cmp (o_ne4 hr.units) k_ne4 (e_fld T.i_Cell.cl T.n_Cell_name (e_var 0)) e_str (nomark _)) (w_or (t_cmp (o_ne4 hr.units) k_ne4 (e_fld T.i_Cell.cl T.n_Cell_base (e_var 0)) (e_ix (o_ix4 hr.units) k_ix4 (e_var 1) e_int (fun _ _ => rfl)) (nomark _)) (w_or (t_cmp (o_ne4 hr.units) k_ne4 (e_prop T.i_Cell.cl T.p_Cell_present (ok_Cell_present T) (hr.mono (by decide)) T.b_Cell_present rfl (e_var 0)) (e_ix (o_ix4 hr.units) k_ix4 (e_var 1) e_int (fun _ _ => rfl)) (nomark _)) (w_or1 (t_cmp (o_ne4 hr.units) k_ne4 (e_funB o_len4 k_lenD (by rfl) T.z_len (by decide +kernel) (a_cons (e_fld T.i_Cell.cl T.n_Cell_queue (e_var 0)) a_nil)) (e_funB o_len4 k_lenD (by rfl) T.z_len (by decide +kernel) (a_cons (e_ix (o_ix4 hr.units) k_ix4 (e_var 1) e_int (fun _ _ => rfl)) a_nil)) (nomark _))))))) (s_one (s_ret e_bl)) s_nil)
    (s_cons (s_for (passes_of rfl) rfl (i_range1 (by rfl) T.z_range (a_cons (e_funB o_len4 k_lenD (by rfl) T.z_len (by decide +kernel) (a_cons (e_ix (o_ix4 hr.units) k_ix4 (e_var 1) e_int (fun _ _ => rfl)) a_nil)) a_nil)) (pg_name (i := 2) sc_l_same.nd rfl (Or.inl rfl)) (g_name 2) (s_one (s_if (t_cmp (o_ne4 hr.units) k_ne4 (e_frz (n_listOf (by rfl) T.z_list (by decide +kernel) (a_cons (e_ix (o_ix4 hr.units) k_ix4 (e_fld T.i_Cell.cl T.n_Cell_queue (e_var 0)) (e_var 2) (fun _ _ => rfl)) a_nil))) (e_ix (o_ix4 hr.units) k_ix4 (e_ix (o_ix4 hr.units) k_ix4 (e_var 1) e_int (fun _ _ => rfl)) (e_var 2) (fun _ _ => rfl)) (nomark _)) (s_one (s_ret e_bl)) s_nil)))
    (s_cons (ps_frz (ps_lc (own := [("_law_lane", 4)]) rfl sc_l_same.nd rfl rfl (sw_true rfl rfl rfl (by decide +kernel)) (i_range1 (by rfl) T.z_range (a_cons e_int a_nil)) (blkOk_by (N := nn_l_same) (sc := defScope st_l_same) (own := [("_law_lane", 4)]) (by decide +kernel)) (fun _ => (g_name 4)) (by decide) (fun _ _ _ _ _ => (pg_name (i := 4) sc_l_same.nd rfl (Or.inr rfl))) (fun _ _ _ _ _ _ => (c_one (t_cmp o_gt (k_cmp _ _) (e_funB o_len4 k_lenD (by rfl) T.z_len (by decide +kernel) (a_cons (e_frz (n_lc (own := [("_law_e", 5)]) rfl sc_l_same.nd (i_src (e_ix (o_ix4 hr.units) k_ix4 (e_var 1) e_int (fun _ _ => rfl))) (blkOk_by (N := nn_l_same) (sc := { kind := .function, names := [(".0", .local), ("_law_lane", .cell), ("len", .globalImplicit), ("_law_state", .cell)], isGenerator := false, isCoroutine := false }) (own := [("_law_e", 5)]) (by decide +kernel)) (fun _ => (g_name 5)) (by decide) (fun _ _ _ _ _ => (pg_name (i := 5) sc_l_same.nd rfl (Or.inl rfl))) (fun _ _ _ _ _ _ => (c_one (PW3.pt (w_and (t_not (t_truth (e_ix (o_ix4 hr.units) k_ix4 (e_var 5) e_int (fun _ _ => rfl)) (fun _ => rfl))) (w_and1 (t_cmp (o_eq4 hr.units) k_eq4 (e_ix (o_ix4 hr.units) k_ix4 (e_var 5) e_int (fun _ _ => rfl)) (e_var 4) (nomark _))))))) (fun _ _ _ _ _ _ => (e_var 5)))) a_nil)) e_int (nomark _)))) (fun _ _ _ _ _ _ => (e_var 4))))
    (s_one (s_ret (e_cmp (o_eq4 hr.units) k_eq4 (e_prop T.i_Cell.cl T.p_Cell_open_lanes (ok_Cell_open_lanes T) (hr.mono (by decide)) T.b_Cell_open_lanes rfl (e_var 0)) (e_var 3) (nomark _)))))))
/-! law -/
theorem sc_law : FnScope nn_law ps_law (defScope st_law) := ⟨rfl, rfl, rfl, by decide +kernel, rfl, by decide +kernel, by decide +kernel⟩
noncomputable def lb_law_0 (a : Ad) : F Bool := (dTest (dOp2 (gEq4 false) (dOp2 gMod (dFun gInt1 (dCons (dOp2 gDiv (dVar 7) (dOp2 gIx4 (dFrz (nLst (dCons (dC (.int 3)) (dCons (dC (.int 6)) (dCons (dC (.int 12)) (dCons (dC (.int 24)) dNil)))))) (dVar 14))) dNil)) (dC (.int 2))) (dC (.int 1))))
noncomputable def lb_law_1 (a : Ad) : F D := (dVar 14)
noncomputable def lb_law_2 (a : Ad) : G := (gSeq (gSet 7 (dOp2 gIx4 (dVar 1) (dVar 6)))
  (gSeq (gIf (dOrT (dTest (dOp2 gGt (dOp2 gMod (dVar 7) (dC (.int 3))) (dC (.int 0)))) (dTruth (dVar 5))) (gSeq (gSet 8 (dFrz (nLst (dCons (dC (.bl false)) (dCons (dOp2 gMod (dFun gInt1 (dCons (dOp2 gDiv (dVar 7) (dC (.int 3))) dNil)) (dC (.int 4))) (dCons (dCall 1 (den_l_update a) (dCons (dOp2 gDiv (dVar 7) (dC (.int 12))) dNil)) (dCons (dFrz (nDisp [((dC (.str "k")), (dOp2 gMod (dFun gInt1 (dCons (dOp2 gDiv (dVar 7) (dC (.int 400))) dNil)) (dC (.int 7))))])) dNil)))))))
  (gSeq (gSet 9 (dNewRef (nDictOf (dCons (dOp2 gIx4 (dVar 8) (dC (.int 3))) dNil))))
  (gSeq (gSet 10 (dMeth a.c_Cell "send" 4 (den_Cell_send a) (dVar 3) (dCons (dOp2 gIx4 (dVar 8) (dC (.int 1))) (dCons (dOp2 gIx4 (dVar 8) (dC (.int 2))) (dCons (dVar 9) dNil)))))
  (gSeq (gPutK (dVar 9) (dC (.str "k")) (dC (.int 99)))
  (gSeq (gIf (dOrT (dTest (dOp2 (gEq4 true) (dVar 10) (dOp2 gLt (dFun gLen4 (dCons (dOp2 gIx4 (dVar 4) (dC (.int 1))) dNil)) (dC (.int 50))))) (dNotT (dTruth (dIsi "bool" (dVar 10))))) (gRet (dC (.bl false))) gNx)
  (gIf (dTruth (dVar 10)) (gAppend (dOp2 gIx4 (dVar 4) (dC (.int 1))) (dCons (dVar 8) dNil)) gNx)))))) (gSeq (gSet 11 (dFrz (nLc (dBind (dCons (dC (.int 4)) dNil) kRng1) (tgName 14) (lb_law_0 a) (lb_law_1 a) [14])))
  (gSeq (gSet 12 (dMeth a.c_Cell "copied" 1 (den_Cell_copied a) (dVar 3) dNil))
  (gSeq (gSet 13 (dMethK a.c_Cell "processed" 2 1 3 (den_Cell_processed a) (dVar 3) (dCons (dVar 11) dNil) (dCons (dC (.int 7)) dNil)))
  (gSeq (gIf (dOrT (dNotT (dTruth (dCall 2 (den_l_same a) (dCons (dVar 3) (dCons (dVar 4) dNil))))) (dOrT (dNotT (dTruth (dCall 2 (den_l_same a) (dCons (dVar 12) (dCons (dVar 4) dNil))))) (dTest (dNeI a.c_Cell (den_Cell___eq__ a) (dVar 12) (dVar 3))))) (gRet (dC (.bl false))) gNx)
  (gSeq (gExpr (dMeth a.c_Cell "send" 4 (den_Cell_send a) (dVar 3) (dCons (dC (.int 0)) (dCons (dTup (dCons (dC (.str "number")) (dCons (dC (.int 1)) dNil))) (dCons (dFrz (nDisp [((dC (.str "k")), (dC (.int 1)))])) dNil)))))
  (gSeq (gIf (dTest (dOp2 (gEq4 true) (dFun gLen4 (dCons (dFld a.c_Cell "queue" (dVar 12)) dNil)) (dFun gLen4 (dCons (dOp2 gIx4 (dVar 4) (dC (.int 1))) dNil)))) (gRet (dC (.bl false))) gNx)
  (gSeq (gSet 3 (dVar 13))
  (gSet 4 (dCall 2 (den_l_processed a) (dCons (dVar 4) (dCons (dVar 11) dNil))))))))))))
  (gIf (dNotT (dTruth (dCall 2 (den_l_same a) (dCons (dVar 3) (dCons (dVar 4) dNil))))) (gRet (dC (.bl false))) gNx)))
noncomputable def g_law (a : Ad) : G := (gSeq (gSet 1 (dCall 2 (den_l_rows a) (dCons (dVar 0) (dCons (dC (.int 60)) dNil))))
  (gSeq (gSet 2 (dOp2 gMod (dFun gInt1 (dCons (dOp2 gIx4 (dVar 1) (dC (.int 0))) dNil)) (dC (.int 50))))
  (gSeq (gSet 3 (dMake a.c_Cell 3 (den_Cell___init__ a) (dCons (dC (.str "c")) (dCons (dVar 2) dNil))))
  (gSeq (gSet 4 (dFrz (nLst (dCons (dVar 2) (dCons (dNewRef (nLst dNil)) (dCons (dVar 2) dNil))))))
  (gSeq (gSet 5 (dOp2 (gEq4 false) (dOp2 gMod (dOp2 gDiv (dOp2 gIx4 (dVar 1) (dC (.int 0))) (dC (.int 50))) (dC (.int 6))) (dC (.int 0))))
  (gSeq (gFor (dBind (dCons (dC (.int 1)) (dCons (dC (.int 60)) dNil)) kRng2) (tgName 6) (lb_law_2 a))
  (gRet (dC (.bl true)))))))))
noncomputable def den_law (a : Ad) : DF := bodyD 15 (g_law a)
theorem ok_law (T : Tx K mg a) : FnOk P w K mg base (L2.CX P w) 13 a.f_law a.d_law ps_law (SpD K 1 (den_law a)) := by
  refine okD T.F_law sc_law fun cdv A outer s H E N hr tk => ?_
  exact (s_cons (s_set sc_law.nd rfl (Or.inl rfl) (e_call (ok_l_rows T) tk (hr.mono (by decide)) (by rfl) T.m_l_rows T.F_l_rows.kp T.b_l_rows (a_cons (e_var 0) (a_cons e_int a_nil))))
    (s_cons (s_set sc_law.nd rfl (Or.inl rfl) (e_op op_mod k_mod (e_funT call_int1 k_int1 (by rfl) T.z_int (by decide +kernel) (a_cons (e_ix (o_ix4 hr.units) k_ix4 (e_var 1) e_int (fun _ _ => rfl)) a_nil)) e_int))
    (s_cons (s_set sc_law.nd rfl (Or.inl rfl) (e_make T.k_Cell (ok_Cell___init__ T) tk (hr.mono (by decide)) (by rfl) T.mc_Cell T.b_Cell___init__ (a_cons e_str (a_cons (e_var 2) a_nil))))
    (s_cons (s_set sc_law.nd rfl (Or.inl rfl) (e_frz (n_lst (a_cons (e_var 2) (a_cons (e_newref (n_lst a_nil)) (a_cons (e_var 2) a_nil))))))
    (s_cons (s_set sc_law.nd rfl (Or.inl rfl) (e_cmp (o_eq4 hr.units) k_eq4 (e_op op_mod k_mod (e_op op_fdiv k_div (e_ix (o_ix4 hr.units) k_ix4 (e_var 1) e_int (fun _ _ => rfl)) e_int) e_int) e_int (nomark _)))
    (s_cons (s_for (passes_of rfl) rfl (i_range2 (by rfl) T.z_range (a_cons e_int (a_cons e_int a_nil))) (pg_name (i := 6) sc_law.nd rfl (Or.inl rfl)) (g_name 6) (s_cons (s_set sc_law.nd rfl (Or.inr rfl) (e_ix (o_ix4 hr.units) k_ix4 (e_var 1) (e_var 6) (fun _ _ => rfl)))
    (s_cons (s_if (PW3.pt (w_or (t_cmp o_gt (k_cmp _ _) (e_op op_mod k_mod (e_var 7) e_int) e_int (nomark _)) (w_or1 (t_truth (e_var 5) (fun _ => rfl))))) (s_cons (s_set sc_law.nd rfl (Or.inl rfl) (e_frz (n_lst (a_cons e_bl (a_cons (e_op op_mod k_mod (e_funT call_int1 k_int1 (by rfl) T.z_int (by decide +kernel) (a_cons (e_op op_fdiv k_div (e_var 7) e_int) a_nil)) e_int) (a_cons (e_call (ok_l_update T) tk (hr.mono (by decide)) (by rfl) T.m_l_update T.F_l_update.kp T.b_l_update (a_cons (e_op op_fdiv k_div (e_var 7) e_int) a_nil)) (a_cons (e_frz (n_disp (d_cons (fun _ => e_str) (fun _ => (e_op op_mod k_mod (e_funT call_int1 k_int1 (by rfl) T.z_int (by decide +kernel) (a_cons (e_op op_fdiv k_div (e_var 7) e_int) a_nil)) e_int)) d_nil))) a_nil)))))))
    (s_cons (s_set sc_law.nd rfl (Or.inl rfl) (e_newref (n_dictOf (by rfl) T.z_dict (by decide +kernel) (a_cons (e_ix (o_ix4 hr.units) k_ix4 (e_var 8) e_int (fun _ _ => rfl)) a_nil))))
    (s_cons (s_set sc_law.nd rfl (Or.inl rfl) (e_meth T.i_Cell.cl T.t_Cell_send (ok_Cell_send T) tk (hr.mono (by decide)) T.b_Cell_send (e_var 3) (a_cons (e_ix (o_ix4 hr.units) k_ix4 (e_var 8) e_int (fun _ _ => rfl)) (a_cons (e_ix (o_ix4 hr.units) k_ix4 (e_var 8) e_int (fun _ _ => rfl)) (a_cons (e_var 9) a_nil)))))
    (s_cons (s_putK hr.units (e_var 9) e_str e_int)
    (s_cons (s_if (PW3.pt (w_or (t_cmp (o_ne4 hr.units) k_ne4 (e_var 10) (e_cmp o_lt (k_cmp _ _) (e_funB o_len4 k_lenD (by rfl) T.z_len (by decide +kernel) (a_cons (e_ix (o_ix4 hr.units) k_ix4 (e_var 4) e_int (fun _ _ => rfl)) a_nil)) e_int (nomark _)) (nomark _)) (w_or1 (t_not (t_truth (e_isi (T := "bool") (by rfl) T.z_isinstance (by rfl) T.z_bool (by decide +kernel) (e_var 10)) (fun _ => rfl)))))) (s_one (s_ret e_bl)) s_nil)
    (s_one (s_if (t_truth (e_var 10) (fun _ => rfl)) (s_one (s_append (e_ix (o_ix4 hr.units) k_ix4 (e_var 4) e_int (fun _ _ => rfl)) (a_cons (e_var 8) a_nil))) s_nil))))))) (s_cons (ps_frz (ps_lc (own := [("_law_lane", 14)]) rfl sc_law.nd rfl rfl (sw_true rfl rfl rfl (by decide +kernel)) (i_range1 (by rfl) T.z_range (a_cons e_int a_nil)) (blkOk_by (N := nn_law) (sc := defScope st_law) (own := [("_law_lane", 14)]) (by decide +kernel)) (fun _ => (g_name 14)) (by decide) (fun _ _ _ _ _ => (pg_name (i := 14) sc_law.nd rfl (Or.inl rfl))) (fun _ _ _ _ _ _ => (c_one (t_cmp (o_eq4 hr.units) k_eq4 (e_op op_mod k_mod (e_funT call_int1 k_int1 (by rfl) T.z_int (by decide +kernel) (a_cons (e_op op_fdiv k_div (e_var 7) (e_ix (o_ix4 hr.units) k_ix4 (e_frz (n_lst (a_cons e_int (a_cons e_int (a_cons e_int (a_cons e_int a_nil)))))) (e_var 14) (fun _ _ => rfl))) a_nil)) e_int) e_int (nomark _)))) (fun _ _ _ _ _ _ => (e_var 14))))
    (s_cons (s_set sc_law.nd rfl (Or.inl rfl) (e_meth0 T.i_Cell.cl T.t_Cell_copied (ok_Cell_copied T) tk (hr.mono (by decide)) T.b_Cell_copied (e_var 3)))
    (s_cons (s_set sc_law.nd rfl (Or.inl rfl) (e_methK (ks := ["owner"]) (n := 2) T.i_Cell.cl T.t_Cell_processed (ok_Cell_processed T) tk (hr.mono (by decide)) T.kb_Cell_processed (e_var 3) (a_cons (e_var 11) a_nil) (kw_cons e_int kw_nil)))
    (s_cons (s_if (PW3.pt (w_or (t_not (t_truth (e_call (ok_l_same T) tk (hr.mono (by decide)) (by rfl) T.m_l_same T.F_l_same.kp T.b_l_same (a_cons (e_var 3) (a_cons (e_var 4) a_nil))) (fun _ => rfl))) (w_or (t_not (t_truth (e_call (ok_l_same T) tk (hr.mono (by decide)) (by rfl) T.m_l_same T.F_l_same.kp T.b_l_same (a_cons (e_var 12) (a_cons (e_var 4) a_nil))) (fun _ => rfl))) (w_or1 (t_neI T.q_Cell (ok_Cell___eq__ T) (hr.mono (by decide)) T.b_Cell___eq__ rfl (e_var 12) (e_var 3)))))) (s_one (s_ret e_bl)) s_nil)
    (s_cons (s_expr (e_meth T.i_Cell.cl T.t_Cell_send (ok_Cell_send T) tk (hr.mono (by decide)) T.b_Cell_send (e_var 3) (a_cons e_int (a_cons (e_tup (a_cons e_str (a_cons e_int a_nil))) (a_cons (e_frz (n_disp (d_cons (fun _ => e_str) (fun _ => e_int) d_nil))) a_nil)))))
    (s_cons (s_if (t_cmp (o_ne4 hr.units) k_ne4 (e_funB o_len4 k_lenD (by rfl) T.z_len (by decide +kernel) (a_cons (e_fld T.i_Cell.cl T.n_Cell_queue (e_var 12)) a_nil)) (e_funB o_len4 k_lenD (by rfl) T.z_len (by decide +kernel) (a_cons (e_ix (o_ix4 hr.units) k_ix4 (e_var 4) e_int (fun _ _ => rfl)) a_nil)) (nomark _)) (s_one (s_ret e_bl)) s_nil)
    (s_cons (s_set sc_law.nd rfl (Or.inl rfl) (e_var 13))
    (s_one (s_set sc_law.nd rfl (Or.inl rfl) (e_call (ok_l_processed T) tk (hr.mono (by decide)) (by rfl) T.m_l_processed T.F_l_processed.kp T.b_l_processed (a_cons (e_var 4) (a_cons (e_var 11) a_nil)))))))))))))
    (s_one (s_if (t_not (t_truth (e_call (ok_l_same T) tk (hr.mono (by decide)) (by rfl) T.m_l_same T.F_l_same.kp T.b_l_same (a_cons (e_var 3) (a_cons (e_var 4) a_nil))) (fun _ => rfl))) (s_one (s_ret e_bl)) s_nil)))))
    (s_one (s_ret e_bl))))))))
end
end W

set_option Elab.async false
set_option linter.all false
set_option maxRecDepth 100000
set_option maxHeartbeats 1000000
namespace W
open PySem L2 T3
section
variable (a : Ad)
theorem kov_int (i : Int) (h : HD) : den_kind_of_value a [.int i] h = .ok (.str "number") h := by kernel_rfl
theorem kov_str (s : Str) (h : HD) : den_kind_of_value a [.str s] h = .ok (.str "text") h := by kernel_rfl
theorem kov_dic (s : List (Key × D)) (h : HD) : den_kind_of_value a [.dic s] h = .ok (.str "record") h := by kernel_rfl
theorem same_int (n : Nat) (i j : Int) (h : HD) : den_same a (n+1) [.int i, .int j] h = .ok (.bl (i == j)) h := by kernel_rfl
theorem copied_int (i : Int) (h : HD) : den_copied a [.int i] h = .ok (.int i) h := by kernel_rfl
theorem need_int (i : Int) (h : HD) : den_need_number a [.int i] h = .ok (.int i) h := by kernel_rfl
end
end W

set_option Elab.async false
set_option linter.all false
set_option maxRecDepth 100000
set_option maxHeartbeats 1000000
namespace W
open PySem L2 T3
theorem ofS_inj {s t : String} : (Str.ofString s = Str.ofString t) ↔ s = t := by
  constructor
  · intro h
    rw [Str.ofString_eq_toList, Str.ofString_eq_toList] at h
    injection h with h
    have h := congrArg Array.toList h
    simp only at h
    have inj : ∀ (l m : List Char), l.map Char.toNat = m.map Char.toNat → l = m := by
      intro l
      induction l with
      | nil => intro m e; cases m with | nil => rfl | cons _ _ => cases e
      | cons c l ih =>
        intro m e
        cases m with
        | nil => cases e
        | cons d m =>
          simp only [List.map_cons, List.cons.injEq] at e
          have hc : c = d := Char.toNat_inj.mp e.1
          rw [hc, ih m e.2]
    exact String.toList_inj.mp (inj _ _ h)
  · intro h; rw [h]
theorem ofS_beq (s t : String) : (Str.ofString s == Str.ofString t) = (s == t) := by
  rw [Bool.eq_iff_iff]; simp [ofS_inj]
section
variable (a : Ad)
theorem bnd_ok (v : Int) (h : HD) (h1 : v ≤ 1000000000000000000000000000000) (h2 : -1000000000000000000000000000000 ≤ v) : den_bounded_number a [.int v] h = .ok (.int v) h := by
  have e : ¬ (1000000000000000000000000000000 < (if v < 0 then -v else v)) := by split <;> omega
  simp [dBind, dPure, dStuck, dOpt, dVar, dC, dRes, res, dOp2, dTest, dTruth, truth, dAndT, dOrT, dNotT, dIf, isBl, dAndV, dOrV, dNotV, dUn, gE, gSeq, gNx, gIf, gRet, gSet, gRetN, gStuck, bodyD, dCall, clL, cl, dCons, dNil, dFun, dResL, resL, T3.cond, gGt, gLt, gLe, gGe, gCmp, gInt, ofS_beq, ofS_inj, den_bounded_number, g_bounded_number, gAbs, e]
end
end W

set_option Elab.async false
set_option linter.all false
set_option maxRecDepth 100000
set_option maxHeartbeats 1000000
namespace W
open PySem L2 T3
section
variable (a : Ad)
/-- an update's expression -/
inductive Up where
  | num (m : Int) | plus | twice (m : Int)
def Up.d : Up → D
  | .num m => .tup [.str "number", .int m]
  | .plus => .tup [.str "binary", .str "+", .tup [.str "name", .str "c"], .tup [.str "name", .str "k"]]
  | .twice m => .tup [.str "binary", .str "+", .tup [.str "binary", .str "*", .tup [.str "name", .str "c"], .tup [.str "number", .int 2]], .tup [.str "number", .int m]]
def Up.ap (v k : Int) : Up → Int
  | .num m => m
  | .plus => v + k
  | .twice m => v * 2 + m
abbrev BB : Int := 1000000000000000000000000000000
theorem q_str (s t : String) : gEq4 false (.str (Str.ofString s)) (.str (Str.ofString t)) = some (.bl (s == t)) := by
  simp [dBind, dPure, dStuck, dOpt, dVar, dC, dRes, res, dOp2, dTest, dTruth, truth, dAndT, dOrT, dNotT, dIf, isBl, dAndV, dOrV, dNotV, dUn, gE, gSeq, gNx, gIf, gRet, gSet, gRetN, gStuck, bodyD, dCall, clL, cl, dCons, dNil, dFun, dResL, resL, T3.cond, gGt, gLt, gLe, gGe, gCmp, gInt, ofS_beq, ofS_inj, gEq4, gEq, cmpOk, deq, ofS_beq]
theorem nq_str (s t : String) : gEq4 true (.str (Str.ofString s)) (.str (Str.ofString t)) = some (.bl (s != t)) := by
  simp [dBind, dPure, dStuck, dOpt, dVar, dC, dRes, res, dOp2, dTest, dTruth, truth, dAndT, dOrT, dNotT, dIf, isBl, dAndV, dOrV, dNotV, dUn, gE, gSeq, gNx, gIf, gRet, gSet, gRetN, gStuck, bodyD, dCall, clL, cl, dCons, dNil, dFun, dResL, resL, T3.cond, gGt, gLt, gLe, gGe, gCmp, gInt, ofS_beq, ofS_inj, gEq4, gNe, cmpOk, deq, ofS_beq, bne]
theorem q_int (i j : Int) : gEq4 false (.int i) (.int j) = some (.bl (i == j)) := by
  simp [dBind, dPure, dStuck, dOpt, dVar, dC, dRes, res, dOp2, dTest, dTruth, truth, dAndT, dOrT, dNotT, dIf, isBl, dAndV, dOrV, dNotV, dUn, gE, gSeq, gNx, gIf, gRet, gSet, gRetN, gStuck, bodyD, dCall, clL, cl, dCons, dNil, dFun, dResL, resL, T3.cond, gGt, gLt, gLe, gGe, gCmp, gInt, ofS_beq, ofS_inj, gEq4, gEq, cmpOk, deq]
theorem nq_int (i j : Int) : gEq4 true (.int i) (.int j) = some (.bl (i != j)) := by
  simp [dBind, dPure, dStuck, dOpt, dVar, dC, dRes, res, dOp2, dTest, dTruth, truth, dAndT, dOrT, dNotT, dIf, isBl, dAndV, dOrV, dNotV, dUn, gE, gSeq, gNx, gIf, gRet, gSet, gRetN, gStuck, bodyD, dCall, clL, cl, dCons, dNil, dFun, dResL, resL, T3.cond, gGt, gLt, gLe, gGe, gCmp, gInt, ofS_beq, ofS_inj, gEq4, gNe, cmpOk, deq, bne]
theorem q_str2 (s s' t t' : String) : gEq4 false (.tup [.str (Str.ofString s), .str (Str.ofString s')]) (.tup [.str (Str.ofString t), .str (Str.ofString t')]) = some (.bl (s == t && s' == t')) := by
  simp [dBind, dPure, dStuck, dOpt, dVar, dC, dRes, res, dOp2, dTest, dTruth, truth, dAndT, dOrT, dNotT, dIf, isBl, dAndV, dOrV, dNotV, dUn, gE, gSeq, gNx, gIf, gRet, gSet, gRetN, gStuck, bodyD, dCall, clL, cl, dCons, dNil, dFun, dResL, resL, T3.cond, gGt, gLt, gLe, gGe, gCmp, gInt, ofS_beq, ofS_inj, gEq4, gEq, cmpOk, allZip, deq, deqL, ofS_beq]
theorem in3 (s t t' t'' : String) : gIn4 false (.str (Str.ofString s)) (.tup [.str (Str.ofString t), .str (Str.ofString t'), .str (Str.ofString t'')]) = some (.bl (t == s || t' == s || t'' == s)) := by
  simp [dBind, dPure, dStuck, dOpt, dVar, dC, dRes, res, dOp2, dTest, dTruth, truth, dAndT, dOrT, dNotT, dIf, isBl, dAndV, dOrV, dNotV, dUn, gE, gSeq, gNx, gIf, gRet, gSet, gRetN, gStuck, bodyD, dCall, clL, cl, dCons, dNil, dFun, dResL, resL, T3.cond, gGt, gLt, gLe, gGe, gCmp, gInt, ofS_beq, ofS_inj, gIn4, gMem, cmpOk, T3.plain, deq, ofS_beq, Bool.or_assoc]
theorem add_ok (x y : Int) (h : HD) (h1 : x + y ≤ BB) (h2 : -BB ≤ x + y) : den_add a [.int x, .int y] h = .ok (.int (x + y)) h := by
  have e := bnd_ok a (x + y) h h1 h2
  simp [dBind, dPure, dStuck, dOpt, dVar, dC, dRes, res, dOp2, dTest, dTruth, truth, dAndT, dOrT, dNotT, dIf, isBl, dAndV, dOrV, dNotV, dUn, gE, gSeq, gNx, gIf, gRet, gSet, gRetN, gStuck, bodyD, dCall, clL, cl, dCons, dNil, dFun, dResL, resL, T3.cond, gGt, gLt, gLe, gGe, gCmp, gInt, ofS_beq, ofS_inj, q_str, nq_str, q_int, nq_int, q_str2, in3, T3.dTup, okLen, sizeLine, gAdd, gAddI, gMul, den_add, g_add, kov_int, e]
theorem mul_ok (x y : Int) (h : HD) (hy : -18446744073709551616 < y) (hy2 : y < 18446744073709551616) (h1 : x * y ≤ BB) (h2 : -BB ≤ x * y) : den_calculate a [.str "*", .int x, .int y] h = .ok (.int (x * y)) h := by
  have e := bnd_ok a (x * y) h h1 h2
  simp [dBind, dPure, dStuck, dOpt, dVar, dC, dRes, res, dOp2, dTest, dTruth, truth, dAndT, dOrT, dNotT, dIf, isBl, dAndV, dOrV, dNotV, dUn, gE, gSeq, gNx, gIf, gRet, gSet, gRetN, gStuck, bodyD, dCall, clL, cl, dCons, dNil, dFun, dResL, resL, T3.cond, gGt, gLt, gLe, gGe, gCmp, gInt, ofS_beq, ofS_inj, q_str, nq_str, q_int, nq_int, q_str2, in3, T3.dTup, okLen, sizeLine, gAdd, gAddI, gMul, den_calculate, g_calculate, need_int, e, hy, hy2]
theorem op_add_ok (x y : Int) (h : HD) (h1 : x + y ≤ BB) (h2 : -BB ≤ x + y) : den_operate a [.str "+", .int x, .int y] h = .ok (.int (x + y)) h := by
  have e := add_ok a x y h h1 h2
  simp [dBind, dPure, dStuck, dOpt, dVar, dC, dRes, res, dOp2, dTest, dTruth, truth, dAndT, dOrT, dNotT, dIf, isBl, dAndV, dOrV, dNotV, dUn, gE, gSeq, gNx, gIf, gRet, gSet, gRetN, gStuck, bodyD, dCall, clL, cl, dCons, dNil, dFun, dResL, resL, T3.cond, gGt, gLt, gLe, gGe, gCmp, gInt, ofS_beq, ofS_inj, q_str, nq_str, q_int, nq_int, q_str2, in3, T3.dTup, okLen, sizeLine, gAdd, gAddI, gMul, den_operate, g_operate, e]
theorem op_mul_ok (x y : Int) (h : HD) (hy : -18446744073709551616 < y) (hy2 : y < 18446744073709551616) (h1 : x * y ≤ BB) (h2 : -BB ≤ x * y) : den_operate a [.str "*", .int x, .int y] h = .ok (.int (x * y)) h := by
  have e := mul_ok a x y h hy hy2 h1 h2
  simp [dBind, dPure, dStuck, dOpt, dVar, dC, dRes, res, dOp2, dTest, dTruth, truth, dAndT, dOrT, dNotT, dIf, isBl, dAndV, dOrV, dNotV, dUn, gE, gSeq, gNx, gIf, gRet, gSet, gRetN, gStuck, bodyD, dCall, clL, cl, dCons, dNil, dFun, dResL, resL, T3.cond, gGt, gLt, gLe, gGe, gCmp, gInt, ofS_beq, ofS_inj, q_str, nq_str, q_int, nq_int, q_str2, in3, T3.dTup, okLen, sizeLine, gAdd, gAddI, gMul, den_operate, g_operate, e]
theorem ev_num (n : Nat) (m : Int) (env ow : D) (h : HD) : den_evaluate a (n + 1) [.tup [.str "number", .int m], env, ow] h = .ok (.int m) h := by kernel_rfl
end
end W

set_option Elab.async false
set_option linter.all false
set_option maxRecDepth 100000
set_option maxHeartbeats 1000000
namespace W
open PySem L2 T3
section
variable (a : Ad)
theorem ix_tup (ds : List D) (i : Nat) (d : D) (h : ds[i]? = some d) : gIx4 (.tup ds) (.int (i : Nat)) = some d := by
  have hl := (List.getElem?_eq_some_iff.mp h).1
  have e : L2.ixN ds.length (i : Int) = some i := by
    unfold L2.ixN
    rw [if_pos (by omega), if_pos (by omega)]; simp [dBind, dPure, dStuck, dOpt, dVar, dC, dRes, res, dOp2, dTest, dTruth, truth, dAndT, dOrT, dNotT, dIf, isBl, dAndV, dOrV, dNotV, dUn, gE, gSeq, gNx, gIf, gRet, gSet, gRetN, gStuck, bodyD, dCall, clL, cl, dCons, dNil, dFun, dResL, resL, T3.cond, gGt, gLt, gLe, gGe, gCmp, gInt, ofS_beq, ofS_inj, q_str, nq_str, q_int, nq_int, q_str2, in3, T3.dTup, okLen, sizeLine, gAdd, gAddI, gMul]
  simp [dBind, dPure, dStuck, dOpt, dVar, dC, dRes, res, dOp2, dTest, dTruth, truth, dAndT, dOrT, dNotT, dIf, isBl, dAndV, dOrV, dNotV, dUn, gE, gSeq, gNx, gIf, gRet, gSet, gRetN, gStuck, bodyD, dCall, clL, cl, dCons, dNil, dFun, dResL, resL, T3.cond, gGt, gLt, gLe, gGe, gCmp, gInt, ofS_beq, ofS_inj, q_str, nq_str, q_int, nq_int, q_str2, in3, T3.dTup, okLen, sizeLine, gAdd, gAddI, gMul, gIx4, gIx, L2.atI, e, h]
theorem ix_lst (ds : List D) (i : Nat) (d : D) (h : ds[i]? = some d) : gIx4 (.lst ds) (.int (i : Nat)) = some d := by
  have hl := (List.getElem?_eq_some_iff.mp h).1
  have e : L2.ixN ds.length (i : Int) = some i := by
    unfold L2.ixN
    rw [if_pos (by omega), if_pos (by omega)]; simp [dBind, dPure, dStuck, dOpt, dVar, dC, dRes, res, dOp2, dTest, dTruth, truth, dAndT, dOrT, dNotT, dIf, isBl, dAndV, dOrV, dNotV, dUn, gE, gSeq, gNx, gIf, gRet, gSet, gRetN, gStuck, bodyD, dCall, clL, cl, dCons, dNil, dFun, dResL, resL, T3.cond, gGt, gLt, gLe, gGe, gCmp, gInt, ofS_beq, ofS_inj, q_str, nq_str, q_int, nq_int, q_str2, in3, T3.dTup, okLen, sizeLine, gAdd, gAddI, gMul]
  simp [dBind, dPure, dStuck, dOpt, dVar, dC, dRes, res, dOp2, dTest, dTruth, truth, dAndT, dOrT, dNotT, dIf, isBl, dAndV, dOrV, dNotV, dUn, gE, gSeq, gNx, gIf, gRet, gSet, gRetN, gStuck, bodyD, dCall, clL, cl, dCons, dNil, dFun, dResL, resL, T3.cond, gGt, gLt, gLe, gGe, gCmp, gInt, ofS_beq, ofS_inj, q_str, nq_str, q_int, nq_int, q_str2, in3, T3.dTup, okLen, sizeLine, gAdd, gAddI, gMul, gIx4, gIx, L2.atI, e, h]
theorem ix0t (x : D) (r : List D) : gIx4 (.tup (x :: r)) (.int 0) = some x := ix_tup _ 0 _ rfl
theorem ix1t (x y : D) (r : List D) : gIx4 (.tup (x :: y :: r)) (.int 1) = some y := ix_tup _ 1 _ rfl
theorem ix2t (x y z : D) (r : List D) : gIx4 (.tup (x :: y :: z :: r)) (.int 2) = some z := ix_tup _ 2 _ rfl
theorem ix3t (x y z w : D) (r : List D) : gIx4 (.tup (x :: y :: z :: w :: r)) (.int 3) = some w := ix_tup _ 3 _ rfl
theorem ix0l (x : D) (r : List D) : gIx4 (.lst (x :: r)) (.int 0) = some x := ix_lst _ 0 _ rfl
theorem ix1l (x y : D) (r : List D) : gIx4 (.lst (x :: y :: r)) (.int 1) = some y := ix_lst _ 1 _ rfl
theorem ix2l (x y z : D) (r : List D) : gIx4 (.lst (x :: y :: z :: r)) (.int 2) = some z := ix_lst _ 2 _ rfl
theorem ix3l (x y z w : D) (r : List D) : gIx4 (.lst (x :: y :: z :: w :: r)) (.int 3) = some w := ix_lst _ 3 _ rfl
theorem ev_bin (n : Nat) (s : String) (t1 t2 : List D) (env : List (Key × D)) (ow x y r : Int) (h : HD) (hs : s = "+" ∨ s = "*") (h1 : den_evaluate a n [.tup t1, .dic env, .int ow] h = .ok (.int x) h) (h2 : den_evaluate a n [.tup t2, .dic env, .int ow] h = .ok (.int y) h)
    (h3 : den_operate a [.str s, .int x, .int y] h = .ok (.int r) h) : den_evaluate a (n + 2) [.tup [.str "binary", .str s, .tup t1, .tup t2], .dic env, .int ow] h = .ok (.int r) h := by
  have n1 : (s == "&&") = false := by rcases hs with e | e <;> subst e <;> decide
  have n2 : (s == "||") = false := by rcases hs with e | e <;> subst e <;> decide
  have e : den_evaluate_binary a (n + 1) [.tup [.str "binary", .str s, .tup t1, .tup t2], .dic env, .int ow] h = .ok (.int r) h := by
    simp [dBind, dPure, dStuck, dOpt, dVar, dC, dRes, res, dOp2, dTest, dTruth, truth, dAndT, dOrT, dNotT, dIf, isBl, dAndV, dOrV, dNotV, dUn, gE, gSeq, gNx, gIf, gRet, gSet, gRetN, gStuck, bodyD, dCall, clL, cl, dCons, dNil, dFun, dResL, resL, T3.cond, gGt, gLt, gLe, gGe, gCmp, gInt, ofS_beq, ofS_inj, q_str, nq_str, q_int, nq_int, q_str2, in3, T3.dTup, okLen, sizeLine, gAdd, gAddI, gMul, ix0t, ix1t, ix2t, ix3t, ix0l, ix1l, ix2l, ix3l, den_evaluate_binary, g_evaluate_binary, h1, h2, h3, n1, n2]
  simp [dBind, dPure, dStuck, dOpt, dVar, dC, dRes, res, dOp2, dTest, dTruth, truth, dAndT, dOrT, dNotT, dIf, isBl, dAndV, dOrV, dNotV, dUn, gE, gSeq, gNx, gIf, gRet, gSet, gRetN, gStuck, bodyD, dCall, clL, cl, dCons, dNil, dFun, dResL, resL, T3.cond, gGt, gLt, gLe, gGe, gCmp, gInt, ofS_beq, ofS_inj, q_str, nq_str, q_int, nq_int, q_str2, in3, T3.dTup, okLen, sizeLine, gAdd, gAddI, gMul, ix0t, ix1t, ix2t, ix3t, ix0l, ix1l, ix2l, ix3l, den_evaluate, g_evaluate, e]
abbrev env1 (k : Int) : List (Key × D) := [(.inr "k", .int k)]
abbrev env2 (v k : Int) : List (Key × D) := [(.inr "k", .int k), (.inr "c", .int v)]
theorem ev_c (n : Nat) (v k ow : Int) (h : HD) : den_evaluate a (n + 1) [.tup [.str "name", .str "c"], .dic (env2 v k), .int ow] h = .ok (.int v) h := by kernel_rfl
theorem ev_k (n : Nat) (v k ow : Int) (h : HD) : den_evaluate a (n + 1) [.tup [.str "name", .str "k"], .dic (env2 v k), .int ow] h = .ok (.int k) h := by kernel_rfl
/-- the values that are met stay small -/
def Up.ok (v k : Int) : Up → Prop
  | .num m => True
  | .plus => -BB ≤ v + k ∧ v + k ≤ BB
  | .twice m => (-BB ≤ v * 2 ∧ v * 2 ≤ BB) ∧ -BB ≤ v * 2 + m ∧ v * 2 + m ≤ BB
theorem ev_up (u : Up) (v k ow : Int) (h : HD) (ok : u.ok v k) : den_evaluate a 6 [u.d, .dic (env2 v k), .int ow] h = .ok (.int (u.ap v k)) h := by
  cases u with
  | num m => exact ev_num a 5 m _ _ h
  | plus => exact ev_bin a 4 "+" _ _ _ ow v k _ h (.inl rfl) (ev_c a 3 v k ow h) (ev_k a 3 v k ow h) (op_add_ok a v k h ok.2 ok.1)
  | twice m =>
    refine ev_bin a 4 "+" _ _ _ ow (v * 2) m _ h (.inl rfl) ?_ (ev_num a 3 m _ _ h) (op_add_ok a (v * 2) m h ok.2.2 ok.2.1)
    exact ev_bin a 2 "*" _ _ _ ow v 2 _ h (.inr rfl) (ev_c a 1 v k ow h) (ev_num a 1 2 _ _ h) (op_mul_ok a v 2 h (by decide) (by decide) ok.1.2 ok.1.1)
theorem Up.dcl (u : Up) : ∃ ds, u.d = .tup ds := by cases u <;> exact ⟨_, rfl⟩
theorem applied_ok (u : Up) (v k ow : Int) (h : HD) (ok : u.ok v k) : den_applied a [.str "c", .int v, u.d, .dic (env1 k), .int ow] h = .ok (.int (u.ap v k)) h := by
  have e := ev_up a u v k ow h ok
  obtain ⟨ds, ed⟩ := u.dcl
  rw [ed] at e ⊢
  have p : putD (env1 k) (.inr "c") (.int v) = env2 v k := by
    simp [dBind, dPure, dStuck, dOpt, dVar, dC, dRes, res, dOp2, dTest, dTruth, truth, dAndT, dOrT, dNotT, dIf, isBl, dAndV, dOrV, dNotV, dUn, gE, gSeq, gNx, gIf, gRet, gSet, gRetN, gStuck, bodyD, dCall, clL, cl, dCons, dNil, dFun, dResL, resL, T3.cond, gGt, gLt, gLe, gGe, gCmp, gInt, ofS_beq, ofS_inj, q_str, nq_str, q_int, nq_int, q_str2, in3, T3.dTup, okLen, sizeLine, gAdd, gAddI, gMul, ix0t, ix1t, ix2t, ix3t, ix0l, ix1l, ix2l, ix3l, putD, ofS_inj]
  simp [dBind, dPure, dStuck, dOpt, dVar, dC, dRes, res, dOp2, dTest, dTruth, truth, dAndT, dOrT, dNotT, dIf, isBl, dAndV, dOrV, dNotV, dUn, gE, gSeq, gNx, gIf, gRet, gSet, gRetN, gStuck, bodyD, dCall, clL, cl, dCons, dNil, dFun, dResL, resL, T3.cond, gGt, gLt, gLe, gGe, gCmp, gInt, ofS_beq, ofS_inj, q_str, nq_str, q_int, nq_int, q_str2, in3, T3.dTup, okLen, sizeLine, gAdd, gAddI, gMul, ix0t, ix1t, ix2t, ix3t, ix0l, ix1l, ix2l, ix3l, den_applied, g_applied, gNew, nDictOf, gPutK, keyOf, dSt, dicAt, cellAt, dicC, gPut, T3.putAt, gGh, wFrz, cellV, p, e]
end
end W

set_option Elab.async false
set_option linter.all false
set_option maxRecDepth 100000
set_option maxHeartbeats 1000000
namespace W
open PySem L2 T3
section
variable (a : Ad)
theorem get_end {α : Type} (h : List α) (x : α) (r : List α) : (h ++ x :: r)[h.length]? = some x := by simp [dBind, dPure, dStuck, dOpt, dVar, dC, dRes, res, dOp2, dTest, dTruth, truth, dAndT, dOrT, dNotT, dIf, isBl, dAndV, dOrV, dNotV, dUn, gE, gSeq, gNx, gIf, gRet, gSet, gRetN, gStuck, bodyD, dCall, clL, cl, dCons, dNil, dFun, dResL, resL, T3.cond, gGt, gLt, gLe, gGe, gCmp, gInt, ofS_beq, ofS_inj, q_str, nq_str, q_int, nq_int, q_str2, in3, T3.dTup, okLen, sizeLine, gAdd, gAddI, gMul, ix0t, ix1t, ix2t, ix3t, ix0l, ix1l, ix2l, ix3l, gFld, dFld, fldOf, insAt, lstAt, dicAt, cellAt, insC, lstC, dicC, dSt, isC, gPut, T3.putAt, putFD, dNewRef, dFrz, cellV, cellD, nLst, gLen4, gLen, gExpr, gAppend, oneOf, nDictOf, dMake]
theorem get_end1 {α : Type} (h : List α) (x y : α) (r : List α) : (h ++ x :: y :: r)[h.length + 1]? = some y := by simp [dBind, dPure, dStuck, dOpt, dVar, dC, dRes, res, dOp2, dTest, dTruth, truth, dAndT, dOrT, dNotT, dIf, isBl, dAndV, dOrV, dNotV, dUn, gE, gSeq, gNx, gIf, gRet, gSet, gRetN, gStuck, bodyD, dCall, clL, cl, dCons, dNil, dFun, dResL, resL, T3.cond, gGt, gLt, gLe, gGe, gCmp, gInt, ofS_beq, ofS_inj, q_str, nq_str, q_int, nq_int, q_str2, in3, T3.dTup, okLen, sizeLine, gAdd, gAddI, gMul, ix0t, ix1t, ix2t, ix3t, ix0l, ix1l, ix2l, ix3l, gFld, dFld, fldOf, insAt, lstAt, dicAt, cellAt, insC, lstC, dicC, dSt, isC, gPut, T3.putAt, putFD, dNewRef, dFrz, cellV, cellD, nLst, gLen4, gLen, gExpr, gAppend, oneOf, nDictOf, dMake]
theorem get_end2 {α : Type} (h : List α) (x y z : α) (r : List α) : (h ++ x :: y :: z :: r)[h.length + 2]? = some z := by simp [dBind, dPure, dStuck, dOpt, dVar, dC, dRes, res, dOp2, dTest, dTruth, truth, dAndT, dOrT, dNotT, dIf, isBl, dAndV, dOrV, dNotV, dUn, gE, gSeq, gNx, gIf, gRet, gSet, gRetN, gStuck, bodyD, dCall, clL, cl, dCons, dNil, dFun, dResL, resL, T3.cond, gGt, gLt, gLe, gGe, gCmp, gInt, ofS_beq, ofS_inj, q_str, nq_str, q_int, nq_int, q_str2, in3, T3.dTup, okLen, sizeLine, gAdd, gAddI, gMul, ix0t, ix1t, ix2t, ix3t, ix0l, ix1l, ix2l, ix3l, gFld, dFld, fldOf, insAt, lstAt, dicAt, cellAt, insC, lstC, dicC, dSt, isC, gPut, T3.putAt, putFD, dNewRef, dFrz, cellV, cellD, nLst, gLen4, gLen, gExpr, gAppend, oneOf, nDictOf, dMake]
theorem get_end3 {α : Type} (h : List α) (x y z w : α) (r : List α) : (h ++ x :: y :: z :: w :: r)[h.length + 3]? = some w := by simp [dBind, dPure, dStuck, dOpt, dVar, dC, dRes, res, dOp2, dTest, dTruth, truth, dAndT, dOrT, dNotT, dIf, isBl, dAndV, dOrV, dNotV, dUn, gE, gSeq, gNx, gIf, gRet, gSet, gRetN, gStuck, bodyD, dCall, clL, cl, dCons, dNil, dFun, dResL, resL, T3.cond, gGt, gLt, gLe, gGe, gCmp, gInt, ofS_beq, ofS_inj, q_str, nq_str, q_int, nq_int, q_str2, in3, T3.dTup, okLen, sizeLine, gAdd, gAddI, gMul, ix0t, ix1t, ix2t, ix3t, ix0l, ix1l, ix2l, ix3l, gFld, dFld, fldOf, insAt, lstAt, dicAt, cellAt, insC, lstC, dicC, dSt, isC, gPut, T3.putAt, putFD, dNewRef, dFrz, cellV, cellD, nLst, gLen4, gLen, gExpr, gAppend, oneOf, nDictOf, dMake]
theorem set_end {α : Type} (h : List α) (x y : α) (r : List α) : (h ++ x :: r).set h.length y = h ++ y :: r := by simp [dBind, dPure, dStuck, dOpt, dVar, dC, dRes, res, dOp2, dTest, dTruth, truth, dAndT, dOrT, dNotT, dIf, isBl, dAndV, dOrV, dNotV, dUn, gE, gSeq, gNx, gIf, gRet, gSet, gRetN, gStuck, bodyD, dCall, clL, cl, dCons, dNil, dFun, dResL, resL, T3.cond, gGt, gLt, gLe, gGe, gCmp, gInt, ofS_beq, ofS_inj, q_str, nq_str, q_int, nq_int, q_str2, in3, T3.dTup, okLen, sizeLine, gAdd, gAddI, gMul, ix0t, ix1t, ix2t, ix3t, ix0l, ix1l, ix2l, ix3l, gFld, dFld, fldOf, insAt, lstAt, dicAt, cellAt, insC, lstC, dicC, dSt, isC, gPut, T3.putAt, putFD, dNewRef, dFrz, cellV, cellD, nLst, gLen4, gLen, gExpr, gAppend, oneOf, nDictOf, dMake]
structure Ent where
  fl : Bool
  ln : Int
  u : Up
  k : Int
def Ent.d (e : Ent) : D := .lst [.bl e.fl, .int e.ln, e.u.d, .dic (env1 e.k)]
abbrev qD (es : List Ent) : Cell := .lst (es.map Ent.d)
abbrev cD (b : Int) (q : Nat) (n : Int) : Cell := .ins a.c_Cell [("name", .str "c"), ("base", .int b), ("queue", .ref q), ("now", .int n)]
theorem init_ok (h : HD) (v : Int) : den_Cell___init__ a [.ref h.length, .str "c", .int v] (h ++ [.ins a.c_Cell []]) = .ok .non (h ++ [cD a v (h.length + 1) v, qD []]) := by
  simp [dBind, dPure, dStuck, dOpt, dVar, dC, dRes, res, dOp2, dTest, dTruth, truth, dAndT, dOrT, dNotT, dIf, isBl, dAndV, dOrV, dNotV, dUn, gE, gSeq, gNx, gIf, gRet, gSet, gRetN, gStuck, bodyD, dCall, clL, cl, dCons, dNil, dFun, dResL, resL, T3.cond, gGt, gLt, gLe, gGe, gCmp, gInt, ofS_beq, ofS_inj, q_str, nq_str, q_int, nq_int, q_str2, in3, T3.dTup, okLen, sizeLine, gAdd, gAddI, gMul, ix0t, ix1t, ix2t, ix3t, ix0l, ix1l, ix2l, ix3l, gFld, dFld, fldOf, insAt, lstAt, dicAt, cellAt, insC, lstC, dicC, dSt, isC, gPut, T3.putAt, putFD, dNewRef, dFrz, cellV, cellD, nLst, gLen4, gLen, gExpr, gAppend, oneOf, nDictOf, dMake, get_end, get_end1, get_end2, get_end3, set_end, den_Cell___init__, g_Cell___init__, ofS_inj]
/-- the cell at c -/
structure CAt (h : HD) (c : Nat) (b : Int) (q : Nat) (n : Int) (es : List Ent) : Prop where
  c : h[c]? = some (cD a b q n)
  q : h[q]? = some (qD es)
theorem send_ok {h : HD} {c q : Nat} {b n : Int} {es : List Ent} (C : CAt a h c b q n es) (ln : Int) (u : Up) (env : D) (k : Int) (he : env = .dic (env1 k) ∨ ∃ e, env = .ref e ∧ h[e]? = some (.dic (env1 k))) (hl : es.length < 50) :
    den_Cell_send a [.ref c, .int ln, u.d, env] h = .ok (.bl true) (h.set q (qD (es ++ [⟨false, ln, u, k⟩]))) := by
  obtain ⟨ds, ed⟩ := u.dcl
  have n1 : ¬ (50 : Int) ≤ (es.length : Int) := by omega
  have n2 : es.length < 16777216 := by omega
  rcases he with rfl | ⟨e, rfl, he⟩
  · simp [dBind, dPure, dStuck, dOpt, dVar, dC, dRes, res, dOp2, dTest, dTruth, truth, dAndT, dOrT, dNotT, dIf, isBl, dAndV, dOrV, dNotV, dUn, gE, gSeq, gNx, gIf, gRet, gSet, gRetN, gStuck, bodyD, dCall, clL, cl, dCons, dNil, dFun, dResL, resL, T3.cond, gGt, gLt, gLe, gGe, gCmp, gInt, ofS_beq, ofS_inj, q_str, nq_str, q_int, nq_int, q_str2, in3, T3.dTup, okLen, sizeLine, gAdd, gAddI, gMul, ix0t, ix1t, ix2t, ix3t, ix0l, ix1l, ix2l, ix3l, gFld, dFld, fldOf, insAt, lstAt, dicAt, cellAt, insC, lstC, dicC, dSt, isC, gPut, T3.putAt, putFD, dNewRef, dFrz, cellV, cellD, nLst, gLen4, gLen, gExpr, gAppend, oneOf, nDictOf, dMake, get_end, get_end1, get_end2, get_end3, set_end, den_Cell_send, g_Cell_send, C.c, C.q, ofS_inj, ed, Ent.d, List.lookup, n1, n2, qD]
  · simp [dBind, dPure, dStuck, dOpt, dVar, dC, dRes, res, dOp2, dTest, dTruth, truth, dAndT, dOrT, dNotT, dIf, isBl, dAndV, dOrV, dNotV, dUn, gE, gSeq, gNx, gIf, gRet, gSet, gRetN, gStuck, bodyD, dCall, clL, cl, dCons, dNil, dFun, dResL, resL, T3.cond, gGt, gLt, gLe, gGe, gCmp, gInt, ofS_beq, ofS_inj, q_str, nq_str, q_int, nq_int, q_str2, in3, T3.dTup, okLen, sizeLine, gAdd, gAddI, gMul, ix0t, ix1t, ix2t, ix3t, ix0l, ix1l, ix2l, ix3l, gFld, dFld, fldOf, insAt, lstAt, dicAt, cellAt, insC, lstC, dicC, dSt, isC, gPut, T3.putAt, putFD, dNewRef, dFrz, cellV, cellD, nLst, gLen4, gLen, gExpr, gAppend, oneOf, nDictOf, dMake, get_end, get_end1, get_end2, get_end3, set_end, den_Cell_send, g_Cell_send, C.c, C.q, ofS_inj, ed, Ent.d, List.lookup, n1, n2, he, qD]
theorem send_full {h : HD} {c q : Nat} {b n : Int} {es : List Ent} (C : CAt a h c b q n es) (ln : Int) (u : Up) (env : D) (hl : ¬ es.length < 50) (hc : cl env = some env) :
    den_Cell_send a [.ref c, .int ln, u.d, env] h = .ok (.bl false) h := by
  obtain ⟨ds, ed⟩ := u.dcl
  have n1 : (50 : Int) ≤ (es.length : Int) := by omega
  simp [dBind, dPure, dStuck, dOpt, dVar, dC, dRes, res, dOp2, dTest, dTruth, truth, dAndT, dOrT, dNotT, dIf, isBl, dAndV, dOrV, dNotV, dUn, gE, gSeq, gNx, gIf, gRet, gSet, gRetN, gStuck, bodyD, dCall, clL, cl, dCons, dNil, dFun, dResL, resL, T3.cond, gGt, gLt, gLe, gGe, gCmp, gInt, ofS_beq, ofS_inj, q_str, nq_str, q_int, nq_int, q_str2, in3, T3.dTup, okLen, sizeLine, gAdd, gAddI, gMul, ix0t, ix1t, ix2t, ix3t, ix0l, ix1l, ix2l, ix3l, gFld, dFld, fldOf, insAt, lstAt, dicAt, cellAt, insC, lstC, dicC, dSt, isC, gPut, T3.putAt, putFD, dNewRef, dFrz, cellV, cellD, nLst, gLen4, gLen, gExpr, gAppend, oneOf, nDictOf, dMake, get_end, get_end1, get_end2, get_end3, set_end, den_Cell_send, g_Cell_send, C.c, C.q, ofS_inj, ed, Ent.d, List.lookup, n1]
/-! a comprehension over entries -/
theorem lc_map {good : S3 → HD → Bool} {tg : Tg} {c : F Bool} {elt : F D} {σ : S3} {h : HD} (f : D → D) (hg : good σ h = true) : ∀ (xs acc : List D), acc.length + xs.length < 16777216 →
    (∀ x ∈ xs, ∃ σ1, tg x σ = some σ1 ∧ c σ1 h = .ok true h ∧ elt σ1 h = .ok (f x) h ∧ cl (f x) = some (f x)) → lcF good tg c elt xs acc σ h = .ok (.lst (acc ++ xs.map f)) h
  | [], acc, _, _ => by simp [dBind, dPure, dStuck, dOpt, dVar, dC, dRes, res, dOp2, dTest, dTruth, truth, dAndT, dOrT, dNotT, dIf, isBl, dAndV, dOrV, dNotV, dUn, gE, gSeq, gNx, gIf, gRet, gSet, gRetN, gStuck, bodyD, dCall, clL, cl, dCons, dNil, dFun, dResL, resL, T3.cond, gGt, gLt, gLe, gGe, gCmp, gInt, ofS_beq, ofS_inj, q_str, nq_str, q_int, nq_int, q_str2, in3, T3.dTup, okLen, sizeLine, gAdd, gAddI, gMul, ix0t, ix1t, ix2t, ix3t, ix0l, ix1l, ix2l, ix3l, gFld, dFld, fldOf, insAt, lstAt, dicAt, cellAt, insC, lstC, dicC, dSt, isC, gPut, T3.putAt, putFD, dNewRef, dFrz, cellV, cellD, nLst, gLen4, gLen, gExpr, gAppend, oneOf, nDictOf, dMake, get_end, get_end1, get_end2, get_end3, set_end, lcF, hg]
  | x :: xs, acc, hl, hx => by
    obtain ⟨σ1, e1, e2, e3, e4⟩ := hx x List.mem_cons_self
    have hl' : acc.length < 16777216 := by simp [dBind, dPure, dStuck, dOpt, dVar, dC, dRes, res, dOp2, dTest, dTruth, truth, dAndT, dOrT, dNotT, dIf, isBl, dAndV, dOrV, dNotV, dUn, gE, gSeq, gNx, gIf, gRet, gSet, gRetN, gStuck, bodyD, dCall, clL, cl, dCons, dNil, dFun, dResL, resL, T3.cond, gGt, gLt, gLe, gGe, gCmp, gInt, ofS_beq, ofS_inj, q_str, nq_str, q_int, nq_int, q_str2, in3, T3.dTup, okLen, sizeLine, gAdd, gAddI, gMul, ix0t, ix1t, ix2t, ix3t, ix0l, ix1l, ix2l, ix3l, gFld, dFld, fldOf, insAt, lstAt, dicAt, cellAt, insC, lstC, dicC, dSt, isC, gPut, T3.putAt, putFD, dNewRef, dFrz, cellV, cellD, nLst, gLen4, gLen, gExpr, gAppend, oneOf, nDictOf, dMake, get_end, get_end1, get_end2, get_end3, set_end] at hl; omega
    have hs : acc.length < PySem.sizeLine := hl'
    have := lc_map f hg xs (acc ++ [f x]) (by simp [dBind, dPure, dStuck, dOpt, dVar, dC, dRes, res, dOp2, dTest, dTruth, truth, dAndT, dOrT, dNotT, dIf, isBl, dAndV, dOrV, dNotV, dUn, gE, gSeq, gNx, gIf, gRet, gSet, gRetN, gStuck, bodyD, dCall, clL, cl, dCons, dNil, dFun, dResL, resL, T3.cond, gGt, gLt, gLe, gGe, gCmp, gInt, ofS_beq, ofS_inj, q_str, nq_str, q_int, nq_int, q_str2, in3, T3.dTup, okLen, sizeLine, gAdd, gAddI, gMul, ix0t, ix1t, ix2t, ix3t, ix0l, ix1l, ix2l, ix3l, gFld, dFld, fldOf, insAt, lstAt, dicAt, cellAt, insC, lstC, dicC, dSt, isC, gPut, T3.putAt, putFD, dNewRef, dFrz, cellV, cellD, nLst, gLen4, gLen, gExpr, gAppend, oneOf, nDictOf, dMake, get_end, get_end1, get_end2, get_end3, set_end] at hl ⊢; omega) fun y m => hx y (List.mem_cons_of_mem _ m)
    simp only [lcF, hg, if_true, e1, e2, e3, e4, if_pos hs, this]
    simp [dBind, dPure, dStuck, dOpt, dVar, dC, dRes, res, dOp2, dTest, dTruth, truth, dAndT, dOrT, dNotT, dIf, isBl, dAndV, dOrV, dNotV, dUn, gE, gSeq, gNx, gIf, gRet, gSet, gRetN, gStuck, bodyD, dCall, clL, cl, dCons, dNil, dFun, dResL, resL, T3.cond, gGt, gLt, gLe, gGe, gCmp, gInt, ofS_beq, ofS_inj, q_str, nq_str, q_int, nq_int, q_str2, in3, T3.dTup, okLen, sizeLine, gAdd, gAddI, gMul, ix0t, ix1t, ix2t, ix3t, ix0l, ix1l, ix2l, ix3l, gFld, dFld, fldOf, insAt, lstAt, dicAt, cellAt, insC, lstC, dicC, dSt, isC, gPut, T3.putAt, putFD, dNewRef, dFrz, cellV, cellD, nLst, gLen4, gLen, gExpr, gAppend, oneOf, nDictOf, dMake, get_end, get_end1, get_end2, get_end3, set_end]
theorem lc_filter {good : S3 → HD → Bool} {tg : Tg} {c : F Bool} {elt : F D} {σ : S3} {h : HD} (p : D → Bool) (f : D → D) (hg : good σ h = true) : ∀ (xs acc : List D), acc.length + xs.length < 16777216 →
    (∀ x ∈ xs, ∃ σ1, tg x σ = some σ1 ∧ c σ1 h = .ok (p x) h ∧ (p x = true → elt σ1 h = .ok (f x) h ∧ cl (f x) = some (f x))) → lcF good tg c elt xs acc σ h = .ok (.lst (acc ++ (xs.filter p).map f)) h
  | [], acc, _, _ => by simp [dBind, dPure, dStuck, dOpt, dVar, dC, dRes, res, dOp2, dTest, dTruth, truth, dAndT, dOrT, dNotT, dIf, isBl, dAndV, dOrV, dNotV, dUn, gE, gSeq, gNx, gIf, gRet, gSet, gRetN, gStuck, bodyD, dCall, clL, cl, dCons, dNil, dFun, dResL, resL, T3.cond, gGt, gLt, gLe, gGe, gCmp, gInt, ofS_beq, ofS_inj, q_str, nq_str, q_int, nq_int, q_str2, in3, T3.dTup, okLen, sizeLine, gAdd, gAddI, gMul, ix0t, ix1t, ix2t, ix3t, ix0l, ix1l, ix2l, ix3l, gFld, dFld, fldOf, insAt, lstAt, dicAt, cellAt, insC, lstC, dicC, dSt, isC, gPut, T3.putAt, putFD, dNewRef, dFrz, cellV, cellD, nLst, gLen4, gLen, gExpr, gAppend, oneOf, nDictOf, dMake, get_end, get_end1, get_end2, get_end3, set_end, lcF, hg]
  | x :: xs, acc, hl, hx => by
    obtain ⟨σ1, e1, e2, e3⟩ := hx x List.mem_cons_self
    have hl' : acc.length < 16777216 := by simp [dBind, dPure, dStuck, dOpt, dVar, dC, dRes, res, dOp2, dTest, dTruth, truth, dAndT, dOrT, dNotT, dIf, isBl, dAndV, dOrV, dNotV, dUn, gE, gSeq, gNx, gIf, gRet, gSet, gRetN, gStuck, bodyD, dCall, clL, cl, dCons, dNil, dFun, dResL, resL, T3.cond, gGt, gLt, gLe, gGe, gCmp, gInt, ofS_beq, ofS_inj, q_str, nq_str, q_int, nq_int, q_str2, in3, T3.dTup, okLen, sizeLine, gAdd, gAddI, gMul, ix0t, ix1t, ix2t, ix3t, ix0l, ix1l, ix2l, ix3l, gFld, dFld, fldOf, insAt, lstAt, dicAt, cellAt, insC, lstC, dicC, dSt, isC, gPut, T3.putAt, putFD, dNewRef, dFrz, cellV, cellD, nLst, gLen4, gLen, gExpr, gAppend, oneOf, nDictOf, dMake, get_end, get_end1, get_end2, get_end3, set_end] at hl; omega
    have hs : acc.length < PySem.sizeLine := hl'
    cases q : p x with
    | true =>
      obtain ⟨e3, e4⟩ := e3 q
      have := lc_filter p f hg xs (acc ++ [f x]) (by simp [dBind, dPure, dStuck, dOpt, dVar, dC, dRes, res, dOp2, dTest, dTruth, truth, dAndT, dOrT, dNotT, dIf, isBl, dAndV, dOrV, dNotV, dUn, gE, gSeq, gNx, gIf, gRet, gSet, gRetN, gStuck, bodyD, dCall, clL, cl, dCons, dNil, dFun, dResL, resL, T3.cond, gGt, gLt, gLe, gGe, gCmp, gInt, ofS_beq, ofS_inj, q_str, nq_str, q_int, nq_int, q_str2, in3, T3.dTup, okLen, sizeLine, gAdd, gAddI, gMul, ix0t, ix1t, ix2t, ix3t, ix0l, ix1l, ix2l, ix3l, gFld, dFld, fldOf, insAt, lstAt, dicAt, cellAt, insC, lstC, dicC, dSt, isC, gPut, T3.putAt, putFD, dNewRef, dFrz, cellV, cellD, nLst, gLen4, gLen, gExpr, gAppend, oneOf, nDictOf, dMake, get_end, get_end1, get_end2, get_end3, set_end] at hl ⊢; omega) fun y m => hx y (List.mem_cons_of_mem _ m)
      simp only [lcF, hg, if_true, e1, e2, q, e3, e4, if_pos hs, this]
      simp [dBind, dPure, dStuck, dOpt, dVar, dC, dRes, res, dOp2, dTest, dTruth, truth, dAndT, dOrT, dNotT, dIf, isBl, dAndV, dOrV, dNotV, dUn, gE, gSeq, gNx, gIf, gRet, gSet, gRetN, gStuck, bodyD, dCall, clL, cl, dCons, dNil, dFun, dResL, resL, T3.cond, gGt, gLt, gLe, gGe, gCmp, gInt, ofS_beq, ofS_inj, q_str, nq_str, q_int, nq_int, q_str2, in3, T3.dTup, okLen, sizeLine, gAdd, gAddI, gMul, ix0t, ix1t, ix2t, ix3t, ix0l, ix1l, ix2l, ix3l, gFld, dFld, fldOf, insAt, lstAt, dicAt, cellAt, insC, lstC, dicC, dSt, isC, gPut, T3.putAt, putFD, dNewRef, dFrz, cellV, cellD, nLst, gLen4, gLen, gExpr, gAppend, oneOf, nDictOf, dMake, get_end, get_end1, get_end2, get_end3, set_end, q]
    | false =>
      have := lc_filter p f hg xs acc (by simp [dBind, dPure, dStuck, dOpt, dVar, dC, dRes, res, dOp2, dTest, dTruth, truth, dAndT, dOrT, dNotT, dIf, isBl, dAndV, dOrV, dNotV, dUn, gE, gSeq, gNx, gIf, gRet, gSet, gRetN, gStuck, bodyD, dCall, clL, cl, dCons, dNil, dFun, dResL, resL, T3.cond, gGt, gLt, gLe, gGe, gCmp, gInt, ofS_beq, ofS_inj, q_str, nq_str, q_int, nq_int, q_str2, in3, T3.dTup, okLen, sizeLine, gAdd, gAddI, gMul, ix0t, ix1t, ix2t, ix3t, ix0l, ix1l, ix2l, ix3l, gFld, dFld, fldOf, insAt, lstAt, dicAt, cellAt, insC, lstC, dicC, dSt, isC, gPut, T3.putAt, putFD, dNewRef, dFrz, cellV, cellD, nLst, gLen4, gLen, gExpr, gAppend, oneOf, nDictOf, dMake, get_end, get_end1, get_end2, get_end3, set_end] at hl ⊢; omega) fun y m => hx y (List.mem_cons_of_mem _ m)
      simp only [lcF, hg, if_true, e1, e2, q, this]
      simp [dBind, dPure, dStuck, dOpt, dVar, dC, dRes, res, dOp2, dTest, dTruth, truth, dAndT, dOrT, dNotT, dIf, isBl, dAndV, dOrV, dNotV, dUn, gE, gSeq, gNx, gIf, gRet, gSet, gRetN, gStuck, bodyD, dCall, clL, cl, dCons, dNil, dFun, dResL, resL, T3.cond, gGt, gLt, gLe, gGe, gCmp, gInt, ofS_beq, ofS_inj, q_str, nq_str, q_int, nq_int, q_str2, in3, T3.dTup, okLen, sizeLine, gAdd, gAddI, gMul, ix0t, ix1t, ix2t, ix3t, ix0l, ix1l, ix2l, ix3l, gFld, dFld, fldOf, insAt, lstAt, dicAt, cellAt, insC, lstC, dicC, dSt, isC, gPut, T3.putAt, putFD, dNewRef, dFrz, cellV, cellD, nLst, gLen4, gLen, gExpr, gAppend, oneOf, nDictOf, dMake, get_end, get_end1, get_end2, get_end3, set_end, q, this]
end
end W

set_option Elab.async false
set_option linter.all false
set_option maxRecDepth 100000
set_option maxHeartbeats 1000000
namespace W
open PySem L2 T3
section
variable (a : Ad)
theorem get_app {α : Type} {h : List α} {c : Nat} {x : α} (e : h[c]? = some x) (r : List α) : (h ++ r)[c]? = some x := by
  rw [List.getElem?_append_left (List.getElem?_eq_some_iff.mp e).1]; exact e
theorem CAt.app {h : HD} {c q : Nat} {b n : Int} {es : List Ent} (C : CAt a h c b q n es) (r : HD) : CAt a (h ++ r) c b q n es := ⟨get_app C.c r, get_app C.q r⟩
theorem copied_cell {h : HD} {c q : Nat} {b n : Int} {es : List Ent} (C : CAt a h c b q n es) (hl : es.length ≤ 50) :
    den_Cell_copied a [.ref c] h = .ok (.ref h.length) (h ++ [cD a b (h.length + 2) n, qD [], qD es]) := by
  have i1 := init_ok a h b
  have Gc := fun r => get_app C.c r
  have Gq := fun r => get_app C.q r
  simp only [den_Cell_copied, g_Cell_copied]
  simp [dBind, dPure, dStuck, dOpt, dVar, dC, dRes, res, dOp2, dTest, dTruth, truth, dAndT, dOrT, dNotT, dIf, isBl, dAndV, dOrV, dNotV, dUn, gE, gSeq, gNx, gIf, gRet, gSet, gRetN, gStuck, bodyD, dCall, clL, cl, dCons, dNil, dFun, dResL, resL, T3.cond, gGt, gLt, gLe, gGe, gCmp, gInt, ofS_beq, ofS_inj, q_str, nq_str, q_int, nq_int, q_str2, in3, T3.dTup, okLen, sizeLine, gAdd, gAddI, gMul, ix0t, ix1t, ix2t, ix3t, ix0l, ix1l, ix2l, ix3l, gFld, dFld, fldOf, insAt, lstAt, dicAt, cellAt, insC, lstC, dicC, dSt, isC, gPut, T3.putAt, putFD, dNewRef, dFrz, cellV, cellD, nLst, gLen4, gLen, gExpr, gAppend, oneOf, nDictOf, dMake, get_end, get_end1, get_end2, get_end3, set_end, nLc, wOk, isOwn, iSrc, srcOf, srcRef, nListOf, tgName, setIf, wipe3, List.lookup, seqOf, Function.comp_def, i1, C.c, Gc, Gq, ofS_inj]
  rw [lc_map (f := fun d => d)]
  · simp [dBind, dPure, dStuck, dOpt, dVar, dC, dRes, res, dOp2, dTest, dTruth, truth, dAndT, dOrT, dNotT, dIf, isBl, dAndV, dOrV, dNotV, dUn, gE, gSeq, gNx, gIf, gRet, gSet, gRetN, gStuck, bodyD, dCall, clL, cl, dCons, dNil, dFun, dResL, resL, T3.cond, gGt, gLt, gLe, gGe, gCmp, gInt, ofS_beq, ofS_inj, q_str, nq_str, q_int, nq_int, q_str2, in3, T3.dTup, okLen, sizeLine, gAdd, gAddI, gMul, ix0t, ix1t, ix2t, ix3t, ix0l, ix1l, ix2l, ix3l, gFld, dFld, fldOf, insAt, lstAt, dicAt, cellAt, insC, lstC, dicC, dSt, isC, gPut, T3.putAt, putFD, dNewRef, dFrz, cellV, cellD, nLst, gLen4, gLen, gExpr, gAppend, oneOf, nDictOf, dMake, get_end, get_end1, get_end2, get_end3, set_end, nLc, wOk, isOwn, iSrc, srcOf, srcRef, nListOf, tgName, setIf, wipe3, List.lookup, seqOf, Function.comp_def, Gc, ofS_inj, qD]
  · exact goodL_of (Gq _)
  · simp [dBind, dPure, dStuck, dOpt, dVar, dC, dRes, res, dOp2, dTest, dTruth, truth, dAndT, dOrT, dNotT, dIf, isBl, dAndV, dOrV, dNotV, dUn, gE, gSeq, gNx, gIf, gRet, gSet, gRetN, gStuck, bodyD, dCall, clL, cl, dCons, dNil, dFun, dResL, resL, T3.cond, gGt, gLt, gLe, gGe, gCmp, gInt, ofS_beq, ofS_inj, q_str, nq_str, q_int, nq_int, q_str2, in3, T3.dTup, okLen, sizeLine, gAdd, gAddI, gMul, ix0t, ix1t, ix2t, ix3t, ix0l, ix1l, ix2l, ix3l, gFld, dFld, fldOf, insAt, lstAt, dicAt, cellAt, insC, lstC, dicC, dSt, isC, gPut, T3.putAt, putFD, dNewRef, dFrz, cellV, cellD, nLst, gLen4, gLen, gExpr, gAppend, oneOf, nDictOf, dMake, get_end, get_end1, get_end2, get_end3, set_end, nLc, wOk, isOwn, iSrc, srcOf, srcRef, nListOf, tgName, setIf, wipe3, List.lookup, seqOf, Function.comp_def]; omega
  · intro x m
    obtain ⟨e, _, rfl⟩ := List.mem_map.mp m
    refine ⟨_, rfl, rfl, ?_, rfl⟩
    simp [dBind, dPure, dStuck, dOpt, dVar, dC, dRes, res, dOp2, dTest, dTruth, truth, dAndT, dOrT, dNotT, dIf, isBl, dAndV, dOrV, dNotV, dUn, gE, gSeq, gNx, gIf, gRet, gSet, gRetN, gStuck, bodyD, dCall, clL, cl, dCons, dNil, dFun, dResL, resL, T3.cond, gGt, gLt, gLe, gGe, gCmp, gInt, ofS_beq, ofS_inj, q_str, nq_str, q_int, nq_int, q_str2, in3, T3.dTup, okLen, sizeLine, gAdd, gAddI, gMul, ix0t, ix1t, ix2t, ix3t, ix0l, ix1l, ix2l, ix3l, gFld, dFld, fldOf, insAt, lstAt, dicAt, cellAt, insC, lstC, dicC, dSt, isC, gPut, T3.putAt, putFD, dNewRef, dFrz, cellV, cellD, nLst, gLen4, gLen, gExpr, gAppend, oneOf, nDictOf, dMake, get_end, get_end1, get_end2, get_end3, set_end, nLc, wOk, isOwn, iSrc, srcOf, srcRef, nListOf, tgName, setIf, wipe3, List.lookup, seqOf, Function.comp_def, lb_Cell_copied_0, Ent.d]
/-! loops -/
def StepOk (r : Fl) (I : S3 → HD → Prop) (Post : Fl → Prop) : Prop := match r with
  | .nx σ h => I σ h
  | .ct σ h => I σ h
  | .bk σ h => Post (.nx σ h)
  | r => Post r
theorem forF_inv {good : S3 → HD → Bool} {tg : Tg} {body : G} (Inv : List D → S3 → HD → Prop) (Post : Fl → Prop) (step : ∀ x xs σ h, Inv (x :: xs) σ h → good σ h = true ∧ ∃ σ1, tg x σ = some σ1 ∧ StepOk (body σ1 h) (Inv xs) Post)
    (fin : ∀ σ h, Inv [] σ h → good σ h = true ∧ Post (.nx σ h)) : ∀ xs σ h, Inv xs σ h → Post (forF good tg body xs σ h)
  | [], σ, h, i => by
    obtain ⟨g, p⟩ := fin σ h i
    simp only [forF, g, if_true]; exact p
  | x :: xs, σ, h, i => by
    obtain ⟨g, σ1, e, s⟩ := step x xs σ h i
    simp only [forF, g, if_true, e]
    cases q : body σ1 h with
    | nx σ' h' => rw [q] at s; exact forF_inv Inv Post step fin xs σ' h' s
    | ct σ' h' => rw [q] at s; exact forF_inv Inv Post step fin xs σ' h' s
    | bk σ' h' => rw [q] at s; exact s
    | rt d h' => rw [q] at s; exact s
    | exc e σ' h' => rw [q] at s; exact s
    | stuck => rw [q] at s; exact s
/-! waits_in, open_lanes -/
theorem waits_ok {h : HD} {c q : Nat} {b n : Int} {es : List Ent} (C : CAt a h c b q n es) (ln : Int) :
    den_Cell_waits_in a [.ref c, .int ln] h = .ok (.bl (es.any fun e => !e.fl && e.ln == ln)) h := by
  have key := forF_inv (good := goodL q (es.map Ent.d)) (tg := tgName 2) (body := lb_Cell_waits_in_0 a) (Post := fun r => (∃ z, r = .nx [some (.val (.ref c)), some (.val (.int ln)), z] h ∧ (es.any fun e => !e.fl && e.ln == ln) = false) ∨ (r = .rt (.bl true) h ∧ (es.any fun e => !e.fl && e.ln == ln) = true))
    (Inv := fun rem σ h' => h' = h ∧ (∃ z, σ = [some (.val (.ref c)), some (.val (.int ln)), z] ∧ isOwn σ 2 = false) ∧ ∃ es2 : List Ent, rem = es2.map Ent.d ∧ (es.any fun e => !e.fl && e.ln == ln) = es2.any fun e => !e.fl && e.ln == ln) ?_ ?_ _ _ _ ⟨rfl, ⟨none, rfl, rfl⟩, es, rfl, rfl⟩
  rotate_left
  · rintro x xs σ h' ⟨rfl, ⟨z, rfl, zo⟩, es2, ex, ea⟩
    refine ⟨goodL_of C.q, ?_⟩
    cases es2 with
    | nil => cases ex
    | cons e es2 =>
      simp only [List.map_cons, List.cons.injEq] at ex
      obtain ⟨rfl, rfl⟩ := ex
      refine ⟨_, by simp only [tgName, setIf, zo]; rfl, ?_⟩
      cases q1 : e.fl with
      | true => simp [dBind, dPure, dStuck, dOpt, dVar, dC, dRes, res, dOp2, dTest, dTruth, truth, dAndT, dOrT, dNotT, dIf, isBl, dAndV, dOrV, dNotV, dUn, gE, gSeq, gNx, gIf, gRet, gSet, gRetN, gStuck, bodyD, dCall, clL, cl, dCons, dNil, dFun, dResL, resL, T3.cond, gGt, gLt, gLe, gGe, gCmp, gInt, ofS_beq, ofS_inj, q_str, nq_str, q_int, nq_int, q_str2, in3, T3.dTup, okLen, sizeLine, gAdd, gAddI, gMul, ix0t, ix1t, ix2t, ix3t, ix0l, ix1l, ix2l, ix3l, gFld, dFld, fldOf, insAt, lstAt, dicAt, cellAt, insC, lstC, dicC, dSt, isC, gPut, T3.putAt, putFD, dNewRef, dFrz, cellV, cellD, nLst, gLen4, gLen, gExpr, gAppend, oneOf, nDictOf, dMake, get_end, get_end1, get_end2, get_end3, set_end, nLc, wOk, isOwn, iSrc, srcOf, srcRef, nListOf, tgName, setIf, wipe3, List.lookup, seqOf, Function.comp_def, StepOk, gFor, lb_Cell_waits_in_0, Ent.d, q1, ea]; exact ⟨es2, rfl, rfl⟩
      | false =>
        by_cases q2 : e.ln = ln
        · simp [dBind, dPure, dStuck, dOpt, dVar, dC, dRes, res, dOp2, dTest, dTruth, truth, dAndT, dOrT, dNotT, dIf, isBl, dAndV, dOrV, dNotV, dUn, gE, gSeq, gNx, gIf, gRet, gSet, gRetN, gStuck, bodyD, dCall, clL, cl, dCons, dNil, dFun, dResL, resL, T3.cond, gGt, gLt, gLe, gGe, gCmp, gInt, ofS_beq, ofS_inj, q_str, nq_str, q_int, nq_int, q_str2, in3, T3.dTup, okLen, sizeLine, gAdd, gAddI, gMul, ix0t, ix1t, ix2t, ix3t, ix0l, ix1l, ix2l, ix3l, gFld, dFld, fldOf, insAt, lstAt, dicAt, cellAt, insC, lstC, dicC, dSt, isC, gPut, T3.putAt, putFD, dNewRef, dFrz, cellV, cellD, nLst, gLen4, gLen, gExpr, gAppend, oneOf, nDictOf, dMake, get_end, get_end1, get_end2, get_end3, set_end, nLc, wOk, isOwn, iSrc, srcOf, srcRef, nListOf, tgName, setIf, wipe3, List.lookup, seqOf, Function.comp_def, StepOk, gFor, lb_Cell_waits_in_0, Ent.d, q1, q2, ea]
        · simp [dBind, dPure, dStuck, dOpt, dVar, dC, dRes, res, dOp2, dTest, dTruth, truth, dAndT, dOrT, dNotT, dIf, isBl, dAndV, dOrV, dNotV, dUn, gE, gSeq, gNx, gIf, gRet, gSet, gRetN, gStuck, bodyD, dCall, clL, cl, dCons, dNil, dFun, dResL, resL, T3.cond, gGt, gLt, gLe, gGe, gCmp, gInt, ofS_beq, ofS_inj, q_str, nq_str, q_int, nq_int, q_str2, in3, T3.dTup, okLen, sizeLine, gAdd, gAddI, gMul, ix0t, ix1t, ix2t, ix3t, ix0l, ix1l, ix2l, ix3l, gFld, dFld, fldOf, insAt, lstAt, dicAt, cellAt, insC, lstC, dicC, dSt, isC, gPut, T3.putAt, putFD, dNewRef, dFrz, cellV, cellD, nLst, gLen4, gLen, gExpr, gAppend, oneOf, nDictOf, dMake, get_end, get_end1, get_end2, get_end3, set_end, nLc, wOk, isOwn, iSrc, srcOf, srcRef, nListOf, tgName, setIf, wipe3, List.lookup, seqOf, Function.comp_def, StepOk, gFor, lb_Cell_waits_in_0, Ent.d, q1, q2, ea]; exact ⟨es2, rfl, by simp [dBind, dPure, dStuck, dOpt, dVar, dC, dRes, res, dOp2, dTest, dTruth, truth, dAndT, dOrT, dNotT, dIf, isBl, dAndV, dOrV, dNotV, dUn, gE, gSeq, gNx, gIf, gRet, gSet, gRetN, gStuck, bodyD, dCall, clL, cl, dCons, dNil, dFun, dResL, resL, T3.cond, gGt, gLt, gLe, gGe, gCmp, gInt, ofS_beq, ofS_inj, q_str, nq_str, q_int, nq_int, q_str2, in3, T3.dTup, okLen, sizeLine, gAdd, gAddI, gMul, ix0t, ix1t, ix2t, ix3t, ix0l, ix1l, ix2l, ix3l, gFld, dFld, fldOf, insAt, lstAt, dicAt, cellAt, insC, lstC, dicC, dSt, isC, gPut, T3.putAt, putFD, dNewRef, dFrz, cellV, cellD, nLst, gLen4, gLen, gExpr, gAppend, oneOf, nDictOf, dMake, get_end, get_end1, get_end2, get_end3, set_end, nLc, wOk, isOwn, iSrc, srcOf, srcRef, nListOf, tgName, setIf, wipe3, List.lookup, seqOf, Function.comp_def, StepOk, gFor, q2]⟩
  · rintro σ h' ⟨rfl, ⟨z, rfl, zo⟩, es2, ex, ea⟩
    refine ⟨goodL_of C.q, .inl ⟨z, rfl, ?_⟩⟩
    cases es2 with
    | nil => rw [ea]; rfl
    | cons _ _ => cases ex
  simp only [den_Cell_waits_in, g_Cell_waits_in]
  simp [dBind, dPure, dStuck, dOpt, dVar, dC, dRes, res, dOp2, dTest, dTruth, truth, dAndT, dOrT, dNotT, dIf, isBl, dAndV, dOrV, dNotV, dUn, gE, gSeq, gNx, gIf, gRet, gSet, gRetN, gStuck, bodyD, dCall, clL, cl, dCons, dNil, dFun, dResL, resL, T3.cond, gGt, gLt, gLe, gGe, gCmp, gInt, ofS_beq, ofS_inj, q_str, nq_str, q_int, nq_int, q_str2, in3, T3.dTup, okLen, sizeLine, gAdd, gAddI, gMul, ix0t, ix1t, ix2t, ix3t, ix0l, ix1l, ix2l, ix3l, gFld, dFld, fldOf, insAt, lstAt, dicAt, cellAt, insC, lstC, dicC, dSt, isC, gPut, T3.putAt, putFD, dNewRef, dFrz, cellV, cellD, nLst, gLen4, gLen, gExpr, gAppend, oneOf, nDictOf, dMake, get_end, get_end1, get_end2, get_end3, set_end, nLc, wOk, isOwn, iSrc, srcOf, srcRef, nListOf, tgName, setIf, wipe3, List.lookup, seqOf, Function.comp_def, StepOk, gFor, C.c, C.q, ofS_inj]
  revert key
  generalize forF _ _ _ _ _ _ = r
  intro key
  rcases key with ⟨z, rfl, e⟩ | ⟨rfl, e⟩ <;> simp [dBind, dPure, dStuck, dOpt, dVar, dC, dRes, res, dOp2, dTest, dTruth, truth, dAndT, dOrT, dNotT, dIf, isBl, dAndV, dOrV, dNotV, dUn, gE, gSeq, gNx, gIf, gRet, gSet, gRetN, gStuck, bodyD, dCall, clL, cl, dCons, dNil, dFun, dResL, resL, T3.cond, gGt, gLt, gLe, gGe, gCmp, gInt, ofS_beq, ofS_inj, q_str, nq_str, q_int, nq_int, q_str2, in3, T3.dTup, okLen, sizeLine, gAdd, gAddI, gMul, ix0t, ix1t, ix2t, ix3t, ix0l, ix1l, ix2l, ix3l, gFld, dFld, fldOf, insAt, lstAt, dicAt, cellAt, insC, lstC, dicC, dSt, isC, gPut, T3.putAt, putFD, dNewRef, dFrz, cellV, cellD, nLst, gLen4, gLen, gExpr, gAppend, oneOf, nDictOf, dMake, get_end, get_end1, get_end2, get_end3, set_end, nLc, wOk, isOwn, iSrc, srcOf, srcRef, nListOf, tgName, setIf, wipe3, List.lookup, seqOf, Function.comp_def, StepOk, gFor, e]
/-- which lanes wait -/
def waits (es : List Ent) (ln : Int) : Bool := es.any fun e => !e.fl && e.ln == ln
def lanes4 : List D := rngD 0 4
def intD : D → Int
  | .int i => i
  | _ => 0
theorem rng4 : rngD 0 4 = [.int 0, .int 1, .int 2, .int 3] := by rfl
theorem lanes_ok {h : HD} {c q : Nat} {b n : Int} {es : List Ent} (C : CAt a h c b q n es) :
    den_Cell_open_lanes a [.ref c] h = .ok (.lst ((rngD 0 4).filter fun d => waits es (intD d))) h := by
  simp only [den_Cell_open_lanes, g_Cell_open_lanes]
  simp [dBind, dPure, dStuck, dOpt, dVar, dC, dRes, res, dOp2, dTest, dTruth, truth, dAndT, dOrT, dNotT, dIf, isBl, dAndV, dOrV, dNotV, dUn, gE, gSeq, gNx, gIf, gRet, gSet, gRetN, gStuck, bodyD, dCall, clL, cl, dCons, dNil, dFun, dResL, resL, T3.cond, gGt, gLt, gLe, gGe, gCmp, gInt, ofS_beq, ofS_inj, q_str, nq_str, q_int, nq_int, q_str2, in3, T3.dTup, okLen, sizeLine, gAdd, gAddI, gMul, ix0t, ix1t, ix2t, ix3t, ix0l, ix1l, ix2l, ix3l, gFld, dFld, fldOf, insAt, lstAt, dicAt, cellAt, insC, lstC, dicC, dSt, isC, gPut, T3.putAt, putFD, dNewRef, dFrz, cellV, cellD, nLst, gLen4, gLen, gExpr, gAppend, oneOf, nDictOf, dMake, get_end, get_end1, get_end2, get_end3, set_end, nLc, wOk, isOwn, iSrc, srcOf, srcRef, nListOf, tgName, setIf, wipe3, List.lookup, seqOf, Function.comp_def, StepOk, gFor, kRng1, intOf, inR]
  rw [lc_filter (p := fun d => waits es (intD d)) (f := fun d => d)]
  · simp [dBind, dPure, dStuck, dOpt, dVar, dC, dRes, res, dOp2, dTest, dTruth, truth, dAndT, dOrT, dNotT, dIf, isBl, dAndV, dOrV, dNotV, dUn, gE, gSeq, gNx, gIf, gRet, gSet, gRetN, gStuck, bodyD, dCall, clL, cl, dCons, dNil, dFun, dResL, resL, T3.cond, gGt, gLt, gLe, gGe, gCmp, gInt, ofS_beq, ofS_inj, q_str, nq_str, q_int, nq_int, q_str2, in3, T3.dTup, okLen, sizeLine, gAdd, gAddI, gMul, ix0t, ix1t, ix2t, ix3t, ix0l, ix1l, ix2l, ix3l, gFld, dFld, fldOf, insAt, lstAt, dicAt, cellAt, insC, lstC, dicC, dSt, isC, gPut, T3.putAt, putFD, dNewRef, dFrz, cellV, cellD, nLst, gLen4, gLen, gExpr, gAppend, oneOf, nDictOf, dMake, get_end, get_end1, get_end2, get_end3, set_end, nLc, wOk, isOwn, iSrc, srcOf, srcRef, nListOf, tgName, setIf, wipe3, List.lookup, seqOf, Function.comp_def, StepOk, gFor]
  · rfl
  · simp [dBind, dPure, dStuck, dOpt, dVar, dC, dRes, res, dOp2, dTest, dTruth, truth, dAndT, dOrT, dNotT, dIf, isBl, dAndV, dOrV, dNotV, dUn, gE, gSeq, gNx, gIf, gRet, gSet, gRetN, gStuck, bodyD, dCall, clL, cl, dCons, dNil, dFun, dResL, resL, T3.cond, gGt, gLt, gLe, gGe, gCmp, gInt, ofS_beq, ofS_inj, q_str, nq_str, q_int, nq_int, q_str2, in3, T3.dTup, okLen, sizeLine, gAdd, gAddI, gMul, ix0t, ix1t, ix2t, ix3t, ix0l, ix1l, ix2l, ix3l, gFld, dFld, fldOf, insAt, lstAt, dicAt, cellAt, insC, lstC, dicC, dSt, isC, gPut, T3.putAt, putFD, dNewRef, dFrz, cellV, cellD, nLst, gLen4, gLen, gExpr, gAppend, oneOf, nDictOf, dMake, get_end, get_end1, get_end2, get_end3, set_end, nLc, wOk, isOwn, iSrc, srcOf, srcRef, nListOf, tgName, setIf, wipe3, List.lookup, seqOf, Function.comp_def, StepOk, gFor, rngD]
  · intro x m
    rw [rng4] at m
    have hx : ∃ i : Int, x = .int i := by
      simp only [List.mem_cons, List.not_mem_nil, or_false] at m
      rcases m with rfl | rfl | rfl | rfl <;> exact ⟨_, rfl⟩
    obtain ⟨i, rfl⟩ := hx
    refine ⟨_, rfl, ?_, fun _ => ⟨rfl, rfl⟩⟩
    simp [dBind, dPure, dStuck, dOpt, dVar, dC, dRes, res, dOp2, dTest, dTruth, truth, dAndT, dOrT, dNotT, dIf, isBl, dAndV, dOrV, dNotV, dUn, gE, gSeq, gNx, gIf, gRet, gSet, gRetN, gStuck, bodyD, dCall, clL, cl, dCons, dNil, dFun, dResL, resL, T3.cond, gGt, gLt, gLe, gGe, gCmp, gInt, ofS_beq, ofS_inj, q_str, nq_str, q_int, nq_int, q_str2, in3, T3.dTup, okLen, sizeLine, gAdd, gAddI, gMul, ix0t, ix1t, ix2t, ix3t, ix0l, ix1l, ix2l, ix3l, gFld, dFld, fldOf, insAt, lstAt, dicAt, cellAt, insC, lstC, dicC, dSt, isC, gPut, T3.putAt, putFD, dNewRef, dFrz, cellV, cellD, nLst, gLen4, gLen, gExpr, gAppend, oneOf, nDictOf, dMake, get_end, get_end1, get_end2, get_end3, set_end, nLc, wOk, isOwn, iSrc, srcOf, srcRef, nListOf, tgName, setIf, wipe3, List.lookup, seqOf, Function.comp_def, StepOk, gFor, lb_Cell_open_lanes_0, dMeth, mOk, C.c, ofS_inj, waits_ok a C, waits, intD]
end
end W

set_option Elab.async false
set_option linter.all false
set_option maxRecDepth 100000
set_option maxHeartbeats 1000000
namespace W
open PySem L2 T3
section
variable (a : Ad)
def mk (lanes : List Int) (e : Ent) : Ent := { e with fl := e.fl || lanes.any (· == e.ln) }
def lead : Int → List Ent → Int × List Ent
  | b, [] => (b, [])
  | b, e :: es => if e.fl then lead (e.u.ap b e.k) es else (b, e :: es)
def fin : Int → List Ent → Int
  | v, [] => v
  | v, e :: es => fin (if e.fl then e.u.ap v e.k else v) es
theorem inI (x : Int) (l : List Int) : gIn4 false (.int x) (.lst (l.map .int)) = some (.bl (l.any (· == x))) := by
  have h1 : (l.map D.int).all (fun d => cmpOk 60 d (.int x) && T3.plain 60 d) = true := by
    rw [List.all_eq_true]
    intro d m
    obtain ⟨i, _, rfl⟩ := List.mem_map.mp m
    rfl
  have h2 : (l.map D.int).any (fun d => deq d (.int x)) = l.any (· == x) := by
    rw [List.any_map]; rfl
  simp [dBind, dPure, dStuck, dOpt, dVar, dC, dRes, res, dOp2, dTest, dTruth, truth, dAndT, dOrT, dNotT, dIf, isBl, dAndV, dOrV, dNotV, dUn, gE, gSeq, gNx, gIf, gRet, gSet, gRetN, gStuck, bodyD, dCall, clL, cl, dCons, dNil, dFun, dResL, resL, T3.cond, gGt, gLt, gLe, gGe, gCmp, gInt, ofS_beq, ofS_inj, q_str, nq_str, q_int, nq_int, q_str2, in3, T3.dTup, okLen, sizeLine, gAdd, gAddI, gMul, ix0t, ix1t, ix2t, ix3t, ix0l, ix1l, ix2l, ix3l, gFld, dFld, fldOf, insAt, lstAt, dicAt, cellAt, insC, lstC, dicC, dSt, isC, gPut, T3.putAt, putFD, dNewRef, dFrz, cellV, cellD, nLst, gLen4, gLen, gExpr, gAppend, oneOf, nDictOf, dMake, get_end, get_end1, get_end2, get_end3, set_end, nLc, wOk, isOwn, iSrc, srcOf, srcRef, nListOf, tgName, setIf, wipe3, List.lookup, seqOf, Function.comp_def, StepOk, gFor, gIn4, gMem, h1, h2]
/-- small numbers -/
def Up.good : Up → Prop
  | .num m => 0 ≤ m ∧ m ≤ 8
  | .plus => True
  | .twice m => 0 ≤ m ∧ m ≤ 8
def Ent.good (e : Ent) : Prop := e.u.good ∧ 0 ≤ e.k ∧ e.k ≤ 6
theorem ap_pot (e : Ent) (g : e.good) (v : Int) : (e.u.ap v e.k).natAbs + 9 ≤ 2 * (v.natAbs + 9) := by
  obtain ⟨g, k1, k2⟩ := g
  cases q : e.u with
  | num m => rw [q] at g; obtain ⟨h1, h2⟩ := g; simp only [Up.ap]; omega
  | plus => simp only [Up.ap]; omega
  | twice m => rw [q] at g; obtain ⟨h1, h2⟩ := g; simp only [Up.ap]; omega
theorem ap_small (e : Ent) (g : e.good) (v : Int) (hv : v.natAbs + 9 ≤ 10000000000000000000000000) : e.u.ok v e.k := by
  obtain ⟨g, k1, k2⟩ := g
  cases q : e.u with
  | num m => trivial
  | plus => simp only [Up.ok, BB]; omega
  | twice m => rw [q] at g; obtain ⟨h1, h2⟩ := g; simp only [Up.ok, BB]; omega
abbrev Small (v : Int) (n : Nat) : Prop := (v.natAbs + 9) * 2 ^ n ≤ 10000000000000000000000000
theorem Small.now {v : Int} {n : Nat} (s : Small v n) : v.natAbs + 9 ≤ 10000000000000000000000000 := by
  have : 1 ≤ 2 ^ n := Nat.one_le_two_pow
  have := Nat.mul_le_mul_left (v.natAbs + 9) this
  unfold Small at s
  omega
theorem Small.step {v : Int} {n : Nat} (s : Small v (n + 1)) (e : Ent) (g : e.good) : Small (e.u.ap v e.k) n := by
  have h := Nat.mul_le_mul_right (2 ^ n) (ap_pot e g v)
  unfold Small at s ⊢
  rw [Nat.pow_succ] at s
  have e2 : 2 * (v.natAbs + 9) * 2 ^ n = (v.natAbs + 9) * (2 ^ n * 2) := by
    rw [Nat.mul_comm 2, Nat.mul_assoc, Nat.mul_comm 2]
  omega
theorem Small.skip {v : Int} {n : Nat} (s : Small v (n + 1)) : Small v n := by
  unfold Small at s ⊢
  rw [Nat.pow_succ] at s
  have : (v.natAbs + 9) * 2 ^ n ≤ (v.natAbs + 9) * (2 ^ n * 2) := Nat.mul_le_mul_left _ (by omega)
  omega
theorem lead_small : ∀ (es : List Ent) (b : Int), (∀ e ∈ es, e.good) → Small b es.length → Small (lead b es).1 (lead b es).2.length ∧ ∀ e ∈ (lead b es).2, e ∈ es
  | [], b, _, s => ⟨s, fun e m => m⟩
  | e :: es, b, g, s => by
    unfold lead
    cases q : e.fl with
    | true =>
      have := lead_small es (e.u.ap b e.k) (fun x m => g x (List.mem_cons_of_mem _ m)) (Small.step s e (g e List.mem_cons_self))
      exact ⟨this.1, fun x m => List.mem_cons_of_mem _ (this.2 x m)⟩
    | false => exact ⟨s, fun x m => m⟩
/-! the loop over the leading ones -/
abbrev σP (c m : Nat) (L : D) (ow i : Int) (y : Option Slot) : S3 := [some (.val (.ref c)), some (.val L), some (.val (.int ow)), some (.val (.ref m)), some (.val (.int i)), y]
theorem lead_loop {h : HD} {c q : Nat} {b n : Int} {es : List Ent} (C : CAt a h c b q n es) (L : D) (ow : Int) (y : Option Slot) (b0 : Int) (all : List Ent) (hall : all.length ≤ 50) : ∀ (post pre : List Ent) (bi : Int) (f : Nat), all = pre ++ post → (∀ e ∈ post, e.good) → Small bi post.length → post.length < f →
    ∃ j : Nat, whileF (lb_Cell_processed_2 a) (lb_Cell_processed_1 a) f (σP c h.length L ow pre.length y) (h ++ [cD a bi (h.length + 2) b0, qD [], qD all]) =
      .nx (σP c h.length L ow j y) (h ++ [cD a (lead bi post).1 (h.length + 2) b0, qD [], qD all]) ∧ all.drop j = (lead bi post).2 ∧ j ≤ all.length
  | [], pre, bi, f + 1, ea, g, s, hf => by
    refine ⟨pre.length, ?_, ?_, ?_⟩
    · have e1 : ¬ (pre.length : Int) < (all.length : Int) := by rw [ea]; simp [dBind, dPure, dStuck, dOpt, dVar, dC, dRes, res, dOp2, dTest, dTruth, truth, dAndT, dOrT, dNotT, dIf, isBl, dAndV, dOrV, dNotV, dUn, gE, gSeq, gNx, gIf, gRet, gSet, gRetN, gStuck, bodyD, dCall, clL, cl, dCons, dNil, dFun, dResL, resL, T3.cond, gGt, gLt, gLe, gGe, gCmp, gInt, ofS_beq, ofS_inj, q_str, nq_str, q_int, nq_int, q_str2, in3, T3.dTup, okLen, sizeLine, gAdd, gAddI, gMul, ix0t, ix1t, ix2t, ix3t, ix0l, ix1l, ix2l, ix3l, gFld, dFld, fldOf, insAt, lstAt, dicAt, cellAt, insC, lstC, dicC, dSt, isC, gPut, T3.putAt, putFD, dNewRef, dFrz, cellV, cellD, nLst, gLen4, gLen, gExpr, gAppend, oneOf, nDictOf, dMake, get_end, get_end1, get_end2, get_end3, set_end, nLc, wOk, isOwn, iSrc, srcOf, srcRef, nListOf, tgName, setIf, wipe3, List.lookup, seqOf, Function.comp_def, StepOk, gFor]
      simp [dBind, dPure, dStuck, dOpt, dVar, dC, dRes, res, dOp2, dTest, dTruth, truth, dAndT, dOrT, dNotT, dIf, isBl, dAndV, dOrV, dNotV, dUn, gE, gSeq, gNx, gIf, gRet, gSet, gRetN, gStuck, bodyD, dCall, clL, cl, dCons, dNil, dFun, dResL, resL, T3.cond, gGt, gLt, gLe, gGe, gCmp, gInt, ofS_beq, ofS_inj, q_str, nq_str, q_int, nq_int, q_str2, in3, T3.dTup, okLen, sizeLine, gAdd, gAddI, gMul, ix0t, ix1t, ix2t, ix3t, ix0l, ix1l, ix2l, ix3l, gFld, dFld, fldOf, insAt, lstAt, dicAt, cellAt, insC, lstC, dicC, dSt, isC, gPut, T3.putAt, putFD, dNewRef, dFrz, cellV, cellD, nLst, gLen4, gLen, gExpr, gAppend, oneOf, nDictOf, dMake, get_end, get_end1, get_end2, get_end3, set_end, nLc, wOk, isOwn, iSrc, srcOf, srcRef, nListOf, tgName, setIf, wipe3, List.lookup, seqOf, Function.comp_def, StepOk, gFor, whileF, lb_Cell_processed_2, ofS_inj, e1, lead]
    · rw [ea]; simp [dBind, dPure, dStuck, dOpt, dVar, dC, dRes, res, dOp2, dTest, dTruth, truth, dAndT, dOrT, dNotT, dIf, isBl, dAndV, dOrV, dNotV, dUn, gE, gSeq, gNx, gIf, gRet, gSet, gRetN, gStuck, bodyD, dCall, clL, cl, dCons, dNil, dFun, dResL, resL, T3.cond, gGt, gLt, gLe, gGe, gCmp, gInt, ofS_beq, ofS_inj, q_str, nq_str, q_int, nq_int, q_str2, in3, T3.dTup, okLen, sizeLine, gAdd, gAddI, gMul, ix0t, ix1t, ix2t, ix3t, ix0l, ix1l, ix2l, ix3l, gFld, dFld, fldOf, insAt, lstAt, dicAt, cellAt, insC, lstC, dicC, dSt, isC, gPut, T3.putAt, putFD, dNewRef, dFrz, cellV, cellD, nLst, gLen4, gLen, gExpr, gAppend, oneOf, nDictOf, dMake, get_end, get_end1, get_end2, get_end3, set_end, nLc, wOk, isOwn, iSrc, srcOf, srcRef, nListOf, tgName, setIf, wipe3, List.lookup, seqOf, Function.comp_def, StepOk, gFor, lead]
    · rw [ea]; simp [dBind, dPure, dStuck, dOpt, dVar, dC, dRes, res, dOp2, dTest, dTruth, truth, dAndT, dOrT, dNotT, dIf, isBl, dAndV, dOrV, dNotV, dUn, gE, gSeq, gNx, gIf, gRet, gSet, gRetN, gStuck, bodyD, dCall, clL, cl, dCons, dNil, dFun, dResL, resL, T3.cond, gGt, gLt, gLe, gGe, gCmp, gInt, ofS_beq, ofS_inj, q_str, nq_str, q_int, nq_int, q_str2, in3, T3.dTup, okLen, sizeLine, gAdd, gAddI, gMul, ix0t, ix1t, ix2t, ix3t, ix0l, ix1l, ix2l, ix3l, gFld, dFld, fldOf, insAt, lstAt, dicAt, cellAt, insC, lstC, dicC, dSt, isC, gPut, T3.putAt, putFD, dNewRef, dFrz, cellV, cellD, nLst, gLen4, gLen, gExpr, gAppend, oneOf, nDictOf, dMake, get_end, get_end1, get_end2, get_end3, set_end, nLc, wOk, isOwn, iSrc, srcOf, srcRef, nListOf, tgName, setIf, wipe3, List.lookup, seqOf, Function.comp_def, StepOk, gFor]
  | e :: post, pre, bi, f + 1, ea, g, s, hf => by
    have e1 : (pre.length : Int) < (all.length : Int) := by rw [ea]; simp [dBind, dPure, dStuck, dOpt, dVar, dC, dRes, res, dOp2, dTest, dTruth, truth, dAndT, dOrT, dNotT, dIf, isBl, dAndV, dOrV, dNotV, dUn, gE, gSeq, gNx, gIf, gRet, gSet, gRetN, gStuck, bodyD, dCall, clL, cl, dCons, dNil, dFun, dResL, resL, T3.cond, gGt, gLt, gLe, gGe, gCmp, gInt, ofS_beq, ofS_inj, q_str, nq_str, q_int, nq_int, q_str2, in3, T3.dTup, okLen, sizeLine, gAdd, gAddI, gMul, ix0t, ix1t, ix2t, ix3t, ix0l, ix1l, ix2l, ix3l, gFld, dFld, fldOf, insAt, lstAt, dicAt, cellAt, insC, lstC, dicC, dSt, isC, gPut, T3.putAt, putFD, dNewRef, dFrz, cellV, cellD, nLst, gLen4, gLen, gExpr, gAppend, oneOf, nDictOf, dMake, get_end, get_end1, get_end2, get_end3, set_end, nLc, wOk, isOwn, iSrc, srcOf, srcRef, nListOf, tgName, setIf, wipe3, List.lookup, seqOf, Function.comp_def, StepOk, gFor]; omega
    have e2 : gIx4 (.lst (all.map Ent.d)) (.int (pre.length : Int)) = some e.d := by
      refine ix_lst _ pre.length _ ?_
      rw [ea]; simp [dBind, dPure, dStuck, dOpt, dVar, dC, dRes, res, dOp2, dTest, dTruth, truth, dAndT, dOrT, dNotT, dIf, isBl, dAndV, dOrV, dNotV, dUn, gE, gSeq, gNx, gIf, gRet, gSet, gRetN, gStuck, bodyD, dCall, clL, cl, dCons, dNil, dFun, dResL, resL, T3.cond, gGt, gLt, gLe, gGe, gCmp, gInt, ofS_beq, ofS_inj, q_str, nq_str, q_int, nq_int, q_str2, in3, T3.dTup, okLen, sizeLine, gAdd, gAddI, gMul, ix0t, ix1t, ix2t, ix3t, ix0l, ix1l, ix2l, ix3l, gFld, dFld, fldOf, insAt, lstAt, dicAt, cellAt, insC, lstC, dicC, dSt, isC, gPut, T3.putAt, putFD, dNewRef, dFrz, cellV, cellD, nLst, gLen4, gLen, gExpr, gAppend, oneOf, nDictOf, dMake, get_end, get_end1, get_end2, get_end3, set_end, nLc, wOk, isOwn, iSrc, srcOf, srcRef, nListOf, tgName, setIf, wipe3, List.lookup, seqOf, Function.comp_def, StepOk, gFor]
    have Gc := fun r => get_app C.c r
    cases q1 : e.fl with
    | false =>
      refine ⟨pre.length, ?_, ?_, ?_⟩
      · simp [dBind, dPure, dStuck, dOpt, dVar, dC, dRes, res, dOp2, dTest, dTruth, truth, dAndT, dOrT, dNotT, dIf, isBl, dAndV, dOrV, dNotV, dUn, gE, gSeq, gNx, gIf, gRet, gSet, gRetN, gStuck, bodyD, dCall, clL, cl, dCons, dNil, dFun, dResL, resL, T3.cond, gGt, gLt, gLe, gGe, gCmp, gInt, ofS_beq, ofS_inj, q_str, nq_str, q_int, nq_int, q_str2, in3, T3.dTup, okLen, sizeLine, gAdd, gAddI, gMul, ix0t, ix1t, ix2t, ix3t, ix0l, ix1l, ix2l, ix3l, gFld, dFld, fldOf, insAt, lstAt, dicAt, cellAt, insC, lstC, dicC, dSt, isC, gPut, T3.putAt, putFD, dNewRef, dFrz, cellV, cellD, nLst, gLen4, gLen, gExpr, gAppend, oneOf, nDictOf, dMake, get_end, get_end1, get_end2, get_end3, set_end, nLc, wOk, isOwn, iSrc, srcOf, srcRef, nListOf, tgName, setIf, wipe3, List.lookup, seqOf, Function.comp_def, StepOk, gFor, whileF, lb_Cell_processed_2, ofS_inj, e1, e2, Ent.d, q1, lead]
      · rw [ea]; simp [dBind, dPure, dStuck, dOpt, dVar, dC, dRes, res, dOp2, dTest, dTruth, truth, dAndT, dOrT, dNotT, dIf, isBl, dAndV, dOrV, dNotV, dUn, gE, gSeq, gNx, gIf, gRet, gSet, gRetN, gStuck, bodyD, dCall, clL, cl, dCons, dNil, dFun, dResL, resL, T3.cond, gGt, gLt, gLe, gGe, gCmp, gInt, ofS_beq, ofS_inj, q_str, nq_str, q_int, nq_int, q_str2, in3, T3.dTup, okLen, sizeLine, gAdd, gAddI, gMul, ix0t, ix1t, ix2t, ix3t, ix0l, ix1l, ix2l, ix3l, gFld, dFld, fldOf, insAt, lstAt, dicAt, cellAt, insC, lstC, dicC, dSt, isC, gPut, T3.putAt, putFD, dNewRef, dFrz, cellV, cellD, nLst, gLen4, gLen, gExpr, gAppend, oneOf, nDictOf, dMake, get_end, get_end1, get_end2, get_end3, set_end, nLc, wOk, isOwn, iSrc, srcOf, srcRef, nListOf, tgName, setIf, wipe3, List.lookup, seqOf, Function.comp_def, StepOk, gFor, lead, q1]
      · rw [ea]; simp [dBind, dPure, dStuck, dOpt, dVar, dC, dRes, res, dOp2, dTest, dTruth, truth, dAndT, dOrT, dNotT, dIf, isBl, dAndV, dOrV, dNotV, dUn, gE, gSeq, gNx, gIf, gRet, gSet, gRetN, gStuck, bodyD, dCall, clL, cl, dCons, dNil, dFun, dResL, resL, T3.cond, gGt, gLt, gLe, gGe, gCmp, gInt, ofS_beq, ofS_inj, q_str, nq_str, q_int, nq_int, q_str2, in3, T3.dTup, okLen, sizeLine, gAdd, gAddI, gMul, ix0t, ix1t, ix2t, ix3t, ix0l, ix1l, ix2l, ix3l, gFld, dFld, fldOf, insAt, lstAt, dicAt, cellAt, insC, lstC, dicC, dSt, isC, gPut, T3.putAt, putFD, dNewRef, dFrz, cellV, cellD, nLst, gLen4, gLen, gExpr, gAppend, oneOf, nDictOf, dMake, get_end, get_end1, get_end2, get_end3, set_end, nLc, wOk, isOwn, iSrc, srcOf, srcRef, nListOf, tgName, setIf, wipe3, List.lookup, seqOf, Function.comp_def, StepOk, gFor]
    | true =>
      have ok := ap_small e (g e List.mem_cons_self) bi s.now
      obtain ⟨ds, ed⟩ := e.u.dcl
      have ap := applied_ok a e.u bi e.k ow (h ++ [cD a bi (h.length + 2) b0, qD [], qD all]) ok
      rw [ed] at ap
      obtain ⟨j, h1, h2, h3⟩ := lead_loop C L ow y b0 all hall post (pre ++ [e]) (e.u.ap bi e.k) f (by rw [ea]; simp [dBind, dPure, dStuck, dOpt, dVar, dC, dRes, res, dOp2, dTest, dTruth, truth, dAndT, dOrT, dNotT, dIf, isBl, dAndV, dOrV, dNotV, dUn, gE, gSeq, gNx, gIf, gRet, gSet, gRetN, gStuck, bodyD, dCall, clL, cl, dCons, dNil, dFun, dResL, resL, T3.cond, gGt, gLt, gLe, gGe, gCmp, gInt, ofS_beq, ofS_inj, q_str, nq_str, q_int, nq_int, q_str2, in3, T3.dTup, okLen, sizeLine, gAdd, gAddI, gMul, ix0t, ix1t, ix2t, ix3t, ix0l, ix1l, ix2l, ix3l, gFld, dFld, fldOf, insAt, lstAt, dicAt, cellAt, insC, lstC, dicC, dSt, isC, gPut, T3.putAt, putFD, dNewRef, dFrz, cellV, cellD, nLst, gLen4, gLen, gExpr, gAppend, oneOf, nDictOf, dMake, get_end, get_end1, get_end2, get_end3, set_end, nLc, wOk, isOwn, iSrc, srcOf, srcRef, nListOf, tgName, setIf, wipe3, List.lookup, seqOf, Function.comp_def, StepOk, gFor]) (fun x m => g x (List.mem_cons_of_mem _ m)) (Small.step s e (g e List.mem_cons_self)) (by simp [dBind, dPure, dStuck, dOpt, dVar, dC, dRes, res, dOp2, dTest, dTruth, truth, dAndT, dOrT, dNotT, dIf, isBl, dAndV, dOrV, dNotV, dUn, gE, gSeq, gNx, gIf, gRet, gSet, gRetN, gStuck, bodyD, dCall, clL, cl, dCons, dNil, dFun, dResL, resL, T3.cond, gGt, gLt, gLe, gGe, gCmp, gInt, ofS_beq, ofS_inj, q_str, nq_str, q_int, nq_int, q_str2, in3, T3.dTup, okLen, sizeLine, gAdd, gAddI, gMul, ix0t, ix1t, ix2t, ix3t, ix0l, ix1l, ix2l, ix3l, gFld, dFld, fldOf, insAt, lstAt, dicAt, cellAt, insC, lstC, dicC, dSt, isC, gPut, T3.putAt, putFD, dNewRef, dFrz, cellV, cellD, nLst, gLen4, gLen, gExpr, gAppend, oneOf, nDictOf, dMake, get_end, get_end1, get_end2, get_end3, set_end, nLc, wOk, isOwn, iSrc, srcOf, srcRef, nListOf, tgName, setIf, wipe3, List.lookup, seqOf, Function.comp_def, StepOk, gFor] at hf; omega)
      refine ⟨j, ?_, ?_, h3⟩
      · have el : ((pre ++ [e]).length : Int) = (pre.length : Int) + 1 := by simp [dBind, dPure, dStuck, dOpt, dVar, dC, dRes, res, dOp2, dTest, dTruth, truth, dAndT, dOrT, dNotT, dIf, isBl, dAndV, dOrV, dNotV, dUn, gE, gSeq, gNx, gIf, gRet, gSet, gRetN, gStuck, bodyD, dCall, clL, cl, dCons, dNil, dFun, dResL, resL, T3.cond, gGt, gLt, gLe, gGe, gCmp, gInt, ofS_beq, ofS_inj, q_str, nq_str, q_int, nq_int, q_str2, in3, T3.dTup, okLen, sizeLine, gAdd, gAddI, gMul, ix0t, ix1t, ix2t, ix3t, ix0l, ix1l, ix2l, ix3l, gFld, dFld, fldOf, insAt, lstAt, dicAt, cellAt, insC, lstC, dicC, dSt, isC, gPut, T3.putAt, putFD, dNewRef, dFrz, cellV, cellD, nLst, gLen4, gLen, gExpr, gAppend, oneOf, nDictOf, dMake, get_end, get_end1, get_end2, get_end3, set_end, nLc, wOk, isOwn, iSrc, srcOf, srcRef, nListOf, tgName, setIf, wipe3, List.lookup, seqOf, Function.comp_def, StepOk, gFor]
        rw [el] at h1
        simp [dBind, dPure, dStuck, dOpt, dVar, dC, dRes, res, dOp2, dTest, dTruth, truth, dAndT, dOrT, dNotT, dIf, isBl, dAndV, dOrV, dNotV, dUn, gE, gSeq, gNx, gIf, gRet, gSet, gRetN, gStuck, bodyD, dCall, clL, cl, dCons, dNil, dFun, dResL, resL, T3.cond, gGt, gLt, gLe, gGe, gCmp, gInt, ofS_beq, ofS_inj, q_str, nq_str, q_int, nq_int, q_str2, in3, T3.dTup, okLen, sizeLine, gAdd, gAddI, gMul, ix0t, ix1t, ix2t, ix3t, ix0l, ix1l, ix2l, ix3l, gFld, dFld, fldOf, insAt, lstAt, dicAt, cellAt, insC, lstC, dicC, dSt, isC, gPut, T3.putAt, putFD, dNewRef, dFrz, cellV, cellD, nLst, gLen4, gLen, gExpr, gAppend, oneOf, nDictOf, dMake, get_end, get_end1, get_end2, get_end3, set_end, nLc, wOk, isOwn, iSrc, srcOf, srcRef, nListOf, tgName, setIf, wipe3, List.lookup, seqOf, Function.comp_def, StepOk, gFor, whileF, lb_Cell_processed_2, lb_Cell_processed_1, ofS_inj, e1, e2, Ent.d, ed, q1, lead, Gc, ap] at h1 ⊢
        exact h1
      · simp only [lead, q1, if_true]; exact h2
end
end W

set_option Elab.async false
set_option linter.all false
set_option maxRecDepth 100000
set_option maxHeartbeats 1000000
namespace W
open PySem L2 T3
section
variable (a : Ad)
theorem mk_good (L : List Int) (e : Ent) (g : e.good) : (mk L e).good := g
theorem fin_loop {h : HD} {c q m qn : Nat} {b n : Int} {es : List Ent} (C : CAt a h c b q n es) (L : D) (ow i : Int) (y : Option Slot) (hm : h.length ≤ m) (hq : m < qn) (b1 : Int) (all : List Ent) (ga : ∀ e ∈ all, e.good) : ∀ (rem : List Ent) (H : HD) (v : Int) (y : Option Slot), (∀ e ∈ rem, e.good) → Small v rem.length → isOwn (σP c m L ow i y) 5 = false →
    H[c]? = some (cD a b q n) → H[m]? = some (cD a b1 qn v) → H[qn]? = some (qD all) → m ≠ c →
    ∃ z, forF (goodL qn (all.map Ent.d)) (tgName 5) (lb_Cell_processed_3 a) (rem.map Ent.d) (σP c m L ow i y) H = .nx (σP c m L ow i z) (H.set m (cD a b1 qn (fin v rem)))
  | [], H, v, y, g, s, yo, h1, h2, h3, h4 => by
    refine ⟨y, ?_⟩
    have e : H.set m (cD a b1 qn v) = H := by
      apply List.ext_getElem?
      intro j
      by_cases q : m = j
      · subst q; rw [List.getElem?_set_self (List.getElem?_eq_some_iff.mp h2).1, h2]
      · rw [List.getElem?_set_ne q]
    simp [dBind, dPure, dStuck, dOpt, dVar, dC, dRes, res, dOp2, dTest, dTruth, truth, dAndT, dOrT, dNotT, dIf, isBl, dAndV, dOrV, dNotV, dUn, gE, gSeq, gNx, gIf, gRet, gSet, gRetN, gStuck, bodyD, dCall, clL, cl, dCons, dNil, dFun, dResL, resL, T3.cond, gGt, gLt, gLe, gGe, gCmp, gInt, ofS_beq, ofS_inj, q_str, nq_str, q_int, nq_int, q_str2, in3, T3.dTup, okLen, sizeLine, gAdd, gAddI, gMul, ix0t, ix1t, ix2t, ix3t, ix0l, ix1l, ix2l, ix3l, gFld, dFld, fldOf, insAt, lstAt, dicAt, cellAt, insC, lstC, dicC, dSt, isC, gPut, T3.putAt, putFD, dNewRef, dFrz, cellV, cellD, nLst, gLen4, gLen, gExpr, gAppend, oneOf, nDictOf, dMake, get_end, get_end1, get_end2, get_end3, set_end, nLc, wOk, isOwn, iSrc, srcOf, srcRef, nListOf, tgName, setIf, wipe3, List.lookup, seqOf, Function.comp_def, StepOk, gFor, forF, goodL_of h3, fin, e]
  | e :: rem, H, v, y, g, s, yo, h1, h2, h3, h4 => by
    have gd := goodL_of (σ := σP c m L ow i y) h3
    have hml := (List.getElem?_eq_some_iff.mp h2).1
    cases q1 : e.fl with
    | false =>
      obtain ⟨z, hz⟩ := fin_loop C L ow i (some (.val e.d)) hm hq b1 all ga rem H v (some (.val e.d)) (fun x m => g x (List.mem_cons_of_mem _ m)) (Small.skip s) rfl h1 h2 h3 h4
      refine ⟨z, ?_⟩
      simp only [List.map_cons, forF, gd, if_true]
      rw [show tgName 5 e.d (σP c m L ow i y) = some (σP c m L ow i (some (.val e.d))) from by simp only [tgName, setIf, yo]; rfl]
      simp [dBind, dPure, dStuck, dOpt, dVar, dC, dRes, res, dOp2, dTest, dTruth, truth, dAndT, dOrT, dNotT, dIf, isBl, dAndV, dOrV, dNotV, dUn, gE, gSeq, gNx, gIf, gRet, gSet, gRetN, gStuck, bodyD, dCall, clL, cl, dCons, dNil, dFun, dResL, resL, T3.cond, gGt, gLt, gLe, gGe, gCmp, gInt, ofS_beq, ofS_inj, q_str, nq_str, q_int, nq_int, q_str2, in3, T3.dTup, okLen, sizeLine, gAdd, gAddI, gMul, ix0t, ix1t, ix2t, ix3t, ix0l, ix1l, ix2l, ix3l, gFld, dFld, fldOf, insAt, lstAt, dicAt, cellAt, insC, lstC, dicC, dSt, isC, gPut, T3.putAt, putFD, dNewRef, dFrz, cellV, cellD, nLst, gLen4, gLen, gExpr, gAppend, oneOf, nDictOf, dMake, get_end, get_end1, get_end2, get_end3, set_end, nLc, wOk, isOwn, iSrc, srcOf, srcRef, nListOf, tgName, setIf, wipe3, List.lookup, seqOf, Function.comp_def, StepOk, gFor, lb_Cell_processed_3, Ent.d, q1, fin] at hz ⊢
      exact hz
    | true =>
      have ok := ap_small e (g e List.mem_cons_self) v s.now
      obtain ⟨ds, ed⟩ := e.u.dcl
      have ap := applied_ok a e.u v e.k ow H ok
      rw [ed] at ap
      obtain ⟨z, hz⟩ := fin_loop C L ow i (some (.val e.d)) hm hq b1 all ga rem (H.set m (cD a b1 qn (e.u.ap v e.k))) (e.u.ap v e.k) (some (.val e.d)) (fun x m => g x (List.mem_cons_of_mem _ m)) (Small.step s e (g e List.mem_cons_self)) rfl
        (by rw [List.getElem?_set_ne h4]; exact h1) (List.getElem?_set_self hml) (by rw [List.getElem?_set_ne (by omega)]; exact h3) h4
      refine ⟨z, ?_⟩
      simp only [List.map_cons, forF, gd, if_true]
      rw [show tgName 5 e.d (σP c m L ow i y) = some (σP c m L ow i (some (.val e.d))) from by simp only [tgName, setIf, yo]; rfl]
      rw [List.set_set] at hz
      simp [dBind, dPure, dStuck, dOpt, dVar, dC, dRes, res, dOp2, dTest, dTruth, truth, dAndT, dOrT, dNotT, dIf, isBl, dAndV, dOrV, dNotV, dUn, gE, gSeq, gNx, gIf, gRet, gSet, gRetN, gStuck, bodyD, dCall, clL, cl, dCons, dNil, dFun, dResL, resL, T3.cond, gGt, gLt, gLe, gGe, gCmp, gInt, ofS_beq, ofS_inj, q_str, nq_str, q_int, nq_int, q_str2, in3, T3.dTup, okLen, sizeLine, gAdd, gAddI, gMul, ix0t, ix1t, ix2t, ix3t, ix0l, ix1l, ix2l, ix3l, gFld, dFld, fldOf, insAt, lstAt, dicAt, cellAt, insC, lstC, dicC, dSt, isC, gPut, T3.putAt, putFD, dNewRef, dFrz, cellV, cellD, nLst, gLen4, gLen, gExpr, gAppend, oneOf, nDictOf, dMake, get_end, get_end1, get_end2, get_end3, set_end, nLc, wOk, isOwn, iSrc, srcOf, srcRef, nListOf, tgName, setIf, wipe3, List.lookup, seqOf, Function.comp_def, StepOk, gFor, lb_Cell_processed_3, Ent.d, ed, q1, fin, h1, h2, ofS_inj, ap] at hz ⊢
      exact hz
theorem cutD_drop (ds : List D) (j : Nat) (h : j ≤ ds.length) : cutD ds (some (j : Int)) none = ds.drop j := by
  unfold cutD
  have e1 : HT.sIx ds.length 0 (some (j : Int)) = j := by
    rw [HT.sIx_nat]; omega
  have e2 : HT.sIx ds.length ds.length none = ds.length := rfl
  rw [e1, e2]
  rw [List.take_of_length_le]
  simp [dBind, dPure, dStuck, dOpt, dVar, dC, dRes, res, dOp2, dTest, dTruth, truth, dAndT, dOrT, dNotT, dIf, isBl, dAndV, dOrV, dNotV, dUn, gE, gSeq, gNx, gIf, gRet, gSet, gRetN, gStuck, bodyD, dCall, clL, cl, dCons, dNil, dFun, dResL, resL, T3.cond, gGt, gLt, gLe, gGe, gCmp, gInt, ofS_beq, ofS_inj, q_str, nq_str, q_int, nq_int, q_str2, in3, T3.dTup, okLen, sizeLine, gAdd, gAddI, gMul, ix0t, ix1t, ix2t, ix3t, ix0l, ix1l, ix2l, ix3l, gFld, dFld, fldOf, insAt, lstAt, dicAt, cellAt, insC, lstC, dicC, dSt, isC, gPut, T3.putAt, putFD, dNewRef, dFrz, cellV, cellD, nLst, gLen4, gLen, gExpr, gAppend, oneOf, nDictOf, dMake, get_end, get_end1, get_end2, get_end3, set_end, nLc, wOk, isOwn, iSrc, srcOf, srcRef, nListOf, tgName, setIf, wipe3, List.lookup, seqOf, Function.comp_def, StepOk, gFor]
theorem processed_ok {h : HD} {c q : Nat} {b n : Int} {es : List Ent} (C : CAt a h c b q n es) (L : List Int) (ow : Int) (hl : es.length ≤ 50) (g : ∀ e ∈ es, e.good) (s : Small b es.length) :
    den_Cell_processed a [.ref c, .lst (L.map .int), .int ow] h = .ok (.ref h.length) (h ++ [cD a (lead b (es.map (mk L))).1 (h.length + 3) (fin (lead b (es.map (mk L))).1 (lead b (es.map (mk L))).2), qD [], qD (es.map (mk L)), qD (lead b (es.map (mk L))).2]) := by
  have i1 := init_ok a h b
  have Gc := fun r => get_app C.c r
  have Gq := fun r => get_app C.q r
  have gm : ∀ e ∈ es.map (mk L), e.good := fun e m => by
    obtain ⟨x, hx, rfl⟩ := List.mem_map.mp m
    exact mk_good L x (g x hx)
  have sm : Small b (es.map (mk L)).length := by rw [List.length_map]; exact s
  obtain ⟨j, w1, w2, w3⟩ := lead_loop a C (.lst (L.map .int)) ow none b (es.map (mk L)) (by simpa [dBind, dPure, dStuck, dOpt, dVar, dC, dRes, res, dOp2, dTest, dTruth, truth, dAndT, dOrT, dNotT, dIf, isBl, dAndV, dOrV, dNotV, dUn, gE, gSeq, gNx, gIf, gRet, gSet, gRetN, gStuck, bodyD, dCall, clL, cl, dCons, dNil, dFun, dResL, resL, T3.cond, gGt, gLt, gLe, gGe, gCmp, gInt, ofS_beq, ofS_inj, q_str, nq_str, q_int, nq_int, q_str2, in3, T3.dTup, okLen, sizeLine, gAdd, gAddI, gMul, ix0t, ix1t, ix2t, ix3t, ix0l, ix1l, ix2l, ix3l, gFld, dFld, fldOf, insAt, lstAt, dicAt, cellAt, insC, lstC, dicC, dSt, isC, gPut, T3.putAt, putFD, dNewRef, dFrz, cellV, cellD, nLst, gLen4, gLen, gExpr, gAppend, oneOf, nDictOf, dMake, get_end, get_end1, get_end2, get_end3, set_end, nLc, wOk, isOwn, iSrc, srcOf, srcRef, nListOf, tgName, setIf, wipe3, List.lookup, seqOf, Function.comp_def, StepOk, gFor] using hl) (es.map (mk L)) [] b 60 (by simp [dBind, dPure, dStuck, dOpt, dVar, dC, dRes, res, dOp2, dTest, dTruth, truth, dAndT, dOrT, dNotT, dIf, isBl, dAndV, dOrV, dNotV, dUn, gE, gSeq, gNx, gIf, gRet, gSet, gRetN, gStuck, bodyD, dCall, clL, cl, dCons, dNil, dFun, dResL, resL, T3.cond, gGt, gLt, gLe, gGe, gCmp, gInt, ofS_beq, ofS_inj, q_str, nq_str, q_int, nq_int, q_str2, in3, T3.dTup, okLen, sizeLine, gAdd, gAddI, gMul, ix0t, ix1t, ix2t, ix3t, ix0l, ix1l, ix2l, ix3l, gFld, dFld, fldOf, insAt, lstAt, dicAt, cellAt, insC, lstC, dicC, dSt, isC, gPut, T3.putAt, putFD, dNewRef, dFrz, cellV, cellD, nLst, gLen4, gLen, gExpr, gAppend, oneOf, nDictOf, dMake, get_end, get_end1, get_end2, get_end3, set_end, nLc, wOk, isOwn, iSrc, srcOf, srcRef, nListOf, tgName, setIf, wipe3, List.lookup, seqOf, Function.comp_def, StepOk, gFor]) gm sm (by simp [dBind, dPure, dStuck, dOpt, dVar, dC, dRes, res, dOp2, dTest, dTruth, truth, dAndT, dOrT, dNotT, dIf, isBl, dAndV, dOrV, dNotV, dUn, gE, gSeq, gNx, gIf, gRet, gSet, gRetN, gStuck, bodyD, dCall, clL, cl, dCons, dNil, dFun, dResL, resL, T3.cond, gGt, gLt, gLe, gGe, gCmp, gInt, ofS_beq, ofS_inj, q_str, nq_str, q_int, nq_int, q_str2, in3, T3.dTup, okLen, sizeLine, gAdd, gAddI, gMul, ix0t, ix1t, ix2t, ix3t, ix0l, ix1l, ix2l, ix3l, gFld, dFld, fldOf, insAt, lstAt, dicAt, cellAt, insC, lstC, dicC, dSt, isC, gPut, T3.putAt, putFD, dNewRef, dFrz, cellV, cellD, nLst, gLen4, gLen, gExpr, gAppend, oneOf, nDictOf, dMake, get_end, get_end1, get_end2, get_end3, set_end, nLc, wOk, isOwn, iSrc, srcOf, srcRef, nListOf, tgName, setIf, wipe3, List.lookup, seqOf, Function.comp_def, StepOk, gFor]; omega)
  have sl := lead_small (es.map (mk L)) b gm sm
  have hc : c < h.length := (List.getElem?_eq_some_iff.mp C.c).1
  have cut : cutD ((es.map (mk L)).map Ent.d) (some (j : Int)) none = (lead b (es.map (mk L))).2.map Ent.d := by
    rw [cutD_drop _ _ (by simpa [dBind, dPure, dStuck, dOpt, dVar, dC, dRes, res, dOp2, dTest, dTruth, truth, dAndT, dOrT, dNotT, dIf, isBl, dAndV, dOrV, dNotV, dUn, gE, gSeq, gNx, gIf, gRet, gSet, gRetN, gStuck, bodyD, dCall, clL, cl, dCons, dNil, dFun, dResL, resL, T3.cond, gGt, gLt, gLe, gGe, gCmp, gInt, ofS_beq, ofS_inj, q_str, nq_str, q_int, nq_int, q_str2, in3, T3.dTup, okLen, sizeLine, gAdd, gAddI, gMul, ix0t, ix1t, ix2t, ix3t, ix0l, ix1l, ix2l, ix3l, gFld, dFld, fldOf, insAt, lstAt, dicAt, cellAt, insC, lstC, dicC, dSt, isC, gPut, T3.putAt, putFD, dNewRef, dFrz, cellV, cellD, nLst, gLen4, gLen, gExpr, gAppend, oneOf, nDictOf, dMake, get_end, get_end1, get_end2, get_end3, set_end, nLc, wOk, isOwn, iSrc, srcOf, srcRef, nListOf, tgName, setIf, wipe3, List.lookup, seqOf, Function.comp_def, StepOk, gFor] using w3), ← List.map_drop, w2]
  obtain ⟨z, f1⟩ := fin_loop a (m := h.length) (qn := h.length + 3) C (.lst (L.map .int)) ow (j : Int) none (Nat.le_refl _) (by omega) (lead b (es.map (mk L))).1 (lead b (es.map (mk L))).2 (fun e m => gm e (sl.2 e m)) (lead b (es.map (mk L))).2
    (h ++ [cD a (lead b (es.map (mk L))).1 (h.length + 3) (lead b (es.map (mk L))).1, qD [], qD (es.map (mk L)), qD (lead b (es.map (mk L))).2]) (lead b (es.map (mk L))).1 none (fun e m => gm e (sl.2 e m)) sl.1 rfl (Gc _) (by simp [dBind, dPure, dStuck, dOpt, dVar, dC, dRes, res, dOp2, dTest, dTruth, truth, dAndT, dOrT, dNotT, dIf, isBl, dAndV, dOrV, dNotV, dUn, gE, gSeq, gNx, gIf, gRet, gSet, gRetN, gStuck, bodyD, dCall, clL, cl, dCons, dNil, dFun, dResL, resL, T3.cond, gGt, gLt, gLe, gGe, gCmp, gInt, ofS_beq, ofS_inj, q_str, nq_str, q_int, nq_int, q_str2, in3, T3.dTup, okLen, sizeLine, gAdd, gAddI, gMul, ix0t, ix1t, ix2t, ix3t, ix0l, ix1l, ix2l, ix3l, gFld, dFld, fldOf, insAt, lstAt, dicAt, cellAt, insC, lstC, dicC, dSt, isC, gPut, T3.putAt, putFD, dNewRef, dFrz, cellV, cellD, nLst, gLen4, gLen, gExpr, gAppend, oneOf, nDictOf, dMake, get_end, get_end1, get_end2, get_end3, set_end, nLc, wOk, isOwn, iSrc, srcOf, srcRef, nListOf, tgName, setIf, wipe3, List.lookup, seqOf, Function.comp_def, StepOk, gFor]) (by simp [dBind, dPure, dStuck, dOpt, dVar, dC, dRes, res, dOp2, dTest, dTruth, truth, dAndT, dOrT, dNotT, dIf, isBl, dAndV, dOrV, dNotV, dUn, gE, gSeq, gNx, gIf, gRet, gSet, gRetN, gStuck, bodyD, dCall, clL, cl, dCons, dNil, dFun, dResL, resL, T3.cond, gGt, gLt, gLe, gGe, gCmp, gInt, ofS_beq, ofS_inj, q_str, nq_str, q_int, nq_int, q_str2, in3, T3.dTup, okLen, sizeLine, gAdd, gAddI, gMul, ix0t, ix1t, ix2t, ix3t, ix0l, ix1l, ix2l, ix3l, gFld, dFld, fldOf, insAt, lstAt, dicAt, cellAt, insC, lstC, dicC, dSt, isC, gPut, T3.putAt, putFD, dNewRef, dFrz, cellV, cellD, nLst, gLen4, gLen, gExpr, gAppend, oneOf, nDictOf, dMake, get_end, get_end1, get_end2, get_end3, set_end, nLc, wOk, isOwn, iSrc, srcOf, srcRef, nListOf, tgName, setIf, wipe3, List.lookup, seqOf, Function.comp_def, StepOk, gFor]) (by omega)
  have key : ∀ em : List Ent, em = es.map (mk L) → den_Cell_processed a [.ref c, .lst (L.map .int), .int ow] h = .ok (.ref h.length) (h ++ [cD a (lead b em).1 (h.length + 3) (fin (lead b em).1 (lead b em).2), qD [], qD em, qD (lead b em).2]) := by
    intro em hem
    rw [← hem] at w1 w2 w3 sl cut f1
    have w1' : whileF (lb_Cell_processed_2 a) (lb_Cell_processed_1 a) 60 [some (.val (.ref c)), some (.val (.lst (L.map .int))), some (.val (.int ow)), some (.val (.ref h.length)), some (.val (.int 0)), none] (h ++ [cD a b (h.length + 2) b, qD [], qD em]) = _ := w1
    simp only [den_Cell_processed, g_Cell_processed]
    simp [dBind, dPure, dStuck, dOpt, dVar, dC, dRes, res, dOp2, dTest, dTruth, truth, dAndT, dOrT, dNotT, dIf, isBl, dAndV, dOrV, dNotV, dUn, gE, gSeq, gNx, gIf, gRet, gSet, gRetN, gStuck, bodyD, dCall, clL, cl, dCons, dNil, dFun, dResL, resL, T3.cond, gGt, gLt, gLe, gGe, gCmp, gInt, ofS_beq, ofS_inj, q_str, nq_str, q_int, nq_int, q_str2, in3, T3.dTup, okLen, sizeLine, gAdd, gAddI, gMul, ix0t, ix1t, ix2t, ix3t, ix0l, ix1l, ix2l, ix3l, gFld, dFld, fldOf, insAt, lstAt, dicAt, cellAt, insC, lstC, dicC, dSt, isC, gPut, T3.putAt, putFD, dNewRef, dFrz, cellV, cellD, nLst, gLen4, gLen, gExpr, gAppend, oneOf, nDictOf, dMake, get_end, get_end1, get_end2, get_end3, set_end, nLc, wOk, isOwn, iSrc, srcOf, srcRef, nListOf, tgName, setIf, wipe3, List.lookup, seqOf, Function.comp_def, StepOk, gFor, i1, C.c, Gc, Gq, ofS_inj]
    rw [lc_map (f := fun d => match d with | .lst [.bl fl, .int ln, u, k] => .lst [.bl (fl || L.any (· == ln)), .int ln, u, k] | d => d)]
    · have eq : List.map (fun d => match d with | .lst [.bl fl, .int ln, u, k] => D.lst [.bl (fl || L.any (· == ln)), .int ln, u, k] | d => d) (es.map Ent.d) = em.map Ent.d := by
        rw [hem, List.map_map, List.map_map]
        refine List.map_congr_left fun e _ => ?_
        simp [dBind, dPure, dStuck, dOpt, dVar, dC, dRes, res, dOp2, dTest, dTruth, truth, dAndT, dOrT, dNotT, dIf, isBl, dAndV, dOrV, dNotV, dUn, gE, gSeq, gNx, gIf, gRet, gSet, gRetN, gStuck, bodyD, dCall, clL, cl, dCons, dNil, dFun, dResL, resL, T3.cond, gGt, gLt, gLe, gGe, gCmp, gInt, ofS_beq, ofS_inj, q_str, nq_str, q_int, nq_int, q_str2, in3, T3.dTup, okLen, sizeLine, gAdd, gAddI, gMul, ix0t, ix1t, ix2t, ix3t, ix0l, ix1l, ix2l, ix3l, gFld, dFld, fldOf, insAt, lstAt, dicAt, cellAt, insC, lstC, dicC, dSt, isC, gPut, T3.putAt, putFD, dNewRef, dFrz, cellV, cellD, nLst, gLen4, gLen, gExpr, gAppend, oneOf, nDictOf, dMake, get_end, get_end1, get_end2, get_end3, set_end, nLc, wOk, isOwn, iSrc, srcOf, srcRef, nListOf, tgName, setIf, wipe3, List.lookup, seqOf, Function.comp_def, StepOk, gFor, Ent.d, mk]
      rw [List.nil_append, eq]
      simp [dBind, dPure, dStuck, dOpt, dVar, dC, dRes, res, dOp2, dTest, dTruth, truth, dAndT, dOrT, dNotT, dIf, isBl, dAndV, dOrV, dNotV, dUn, gE, gSeq, gNx, gIf, gRet, gSet, gRetN, gStuck, bodyD, dCall, clL, cl, dCons, dNil, dFun, dResL, resL, T3.cond, gGt, gLt, gLe, gGe, gCmp, gInt, ofS_beq, ofS_inj, q_str, nq_str, q_int, nq_int, q_str2, in3, T3.dTup, okLen, sizeLine, gAdd, gAddI, gMul, ix0t, ix1t, ix2t, ix3t, ix0l, ix1l, ix2l, ix3l, gFld, dFld, fldOf, insAt, lstAt, dicAt, cellAt, insC, lstC, dicC, dSt, isC, gPut, T3.putAt, putFD, dNewRef, dFrz, cellV, cellD, nLst, gLen4, gLen, gExpr, gAppend, oneOf, nDictOf, dMake, get_end, get_end1, get_end2, get_end3, set_end, nLc, wOk, isOwn, iSrc, srcOf, srcRef, nListOf, tgName, setIf, wipe3, List.lookup, seqOf, Function.comp_def, StepOk, gFor, Gc, ofS_inj]
      rw [w1']
      simp [dBind, dPure, dStuck, dOpt, dVar, dC, dRes, res, dOp2, dTest, dTruth, truth, dAndT, dOrT, dNotT, dIf, isBl, dAndV, dOrV, dNotV, dUn, gE, gSeq, gNx, gIf, gRet, gSet, gRetN, gStuck, bodyD, dCall, clL, cl, dCons, dNil, dFun, dResL, resL, T3.cond, gGt, gLt, gLe, gGe, gCmp, gInt, ofS_beq, ofS_inj, q_str, nq_str, q_int, nq_int, q_str2, in3, T3.dTup, okLen, sizeLine, gAdd, gAddI, gMul, ix0t, ix1t, ix2t, ix3t, ix0l, ix1l, ix2l, ix3l, gFld, dFld, fldOf, insAt, lstAt, dicAt, cellAt, insC, lstC, dicC, dSt, isC, gPut, T3.putAt, putFD, dNewRef, dFrz, cellV, cellD, nLst, gLen4, gLen, gExpr, gAppend, oneOf, nDictOf, dMake, get_end, get_end1, get_end2, get_end3, set_end, nLc, wOk, isOwn, iSrc, srcOf, srcRef, nListOf, tgName, setIf, wipe3, List.lookup, seqOf, Function.comp_def, StepOk, gFor, nSlice, dPart, dNoPart, intOf, cut, ofS_inj]
      rw [f1]
      simp [dBind, dPure, dStuck, dOpt, dVar, dC, dRes, res, dOp2, dTest, dTruth, truth, dAndT, dOrT, dNotT, dIf, isBl, dAndV, dOrV, dNotV, dUn, gE, gSeq, gNx, gIf, gRet, gSet, gRetN, gStuck, bodyD, dCall, clL, cl, dCons, dNil, dFun, dResL, resL, T3.cond, gGt, gLt, gLe, gGe, gCmp, gInt, ofS_beq, ofS_inj, q_str, nq_str, q_int, nq_int, q_str2, in3, T3.dTup, okLen, sizeLine, gAdd, gAddI, gMul, ix0t, ix1t, ix2t, ix3t, ix0l, ix1l, ix2l, ix3l, gFld, dFld, fldOf, insAt, lstAt, dicAt, cellAt, insC, lstC, dicC, dSt, isC, gPut, T3.putAt, putFD, dNewRef, dFrz, cellV, cellD, nLst, gLen4, gLen, gExpr, gAppend, oneOf, nDictOf, dMake, get_end, get_end1, get_end2, get_end3, set_end, nLc, wOk, isOwn, iSrc, srcOf, srcRef, nListOf, tgName, setIf, wipe3, List.lookup, seqOf, Function.comp_def, StepOk, gFor]
    · exact goodL_of (Gq _)
    · simp [dBind, dPure, dStuck, dOpt, dVar, dC, dRes, res, dOp2, dTest, dTruth, truth, dAndT, dOrT, dNotT, dIf, isBl, dAndV, dOrV, dNotV, dUn, gE, gSeq, gNx, gIf, gRet, gSet, gRetN, gStuck, bodyD, dCall, clL, cl, dCons, dNil, dFun, dResL, resL, T3.cond, gGt, gLt, gLe, gGe, gCmp, gInt, ofS_beq, ofS_inj, q_str, nq_str, q_int, nq_int, q_str2, in3, T3.dTup, okLen, sizeLine, gAdd, gAddI, gMul, ix0t, ix1t, ix2t, ix3t, ix0l, ix1l, ix2l, ix3l, gFld, dFld, fldOf, insAt, lstAt, dicAt, cellAt, insC, lstC, dicC, dSt, isC, gPut, T3.putAt, putFD, dNewRef, dFrz, cellV, cellD, nLst, gLen4, gLen, gExpr, gAppend, oneOf, nDictOf, dMake, get_end, get_end1, get_end2, get_end3, set_end, nLc, wOk, isOwn, iSrc, srcOf, srcRef, nListOf, tgName, setIf, wipe3, List.lookup, seqOf, Function.comp_def, StepOk, gFor]; omega
    · intro x m
      obtain ⟨e, _, rfl⟩ := List.mem_map.mp m
      obtain ⟨ds, ed⟩ := e.u.dcl
      refine ⟨_, rfl, rfl, ?_, ?_⟩
      · have := inI e.ln L
        cases q : e.fl with
        | true => simp [dBind, dPure, dStuck, dOpt, dVar, dC, dRes, res, dOp2, dTest, dTruth, truth, dAndT, dOrT, dNotT, dIf, isBl, dAndV, dOrV, dNotV, dUn, gE, gSeq, gNx, gIf, gRet, gSet, gRetN, gStuck, bodyD, dCall, clL, cl, dCons, dNil, dFun, dResL, resL, T3.cond, gGt, gLt, gLe, gGe, gCmp, gInt, ofS_beq, ofS_inj, q_str, nq_str, q_int, nq_int, q_str2, in3, T3.dTup, okLen, sizeLine, gAdd, gAddI, gMul, ix0t, ix1t, ix2t, ix3t, ix0l, ix1l, ix2l, ix3l, gFld, dFld, fldOf, insAt, lstAt, dicAt, cellAt, insC, lstC, dicC, dSt, isC, gPut, T3.putAt, putFD, dNewRef, dFrz, cellV, cellD, nLst, gLen4, gLen, gExpr, gAppend, oneOf, nDictOf, dMake, get_end, get_end1, get_end2, get_end3, set_end, nLc, wOk, isOwn, iSrc, srcOf, srcRef, nListOf, tgName, setIf, wipe3, List.lookup, seqOf, Function.comp_def, StepOk, gFor, lb_Cell_processed_0, Ent.d, q, ed]
        | false => simp [dBind, dPure, dStuck, dOpt, dVar, dC, dRes, res, dOp2, dTest, dTruth, truth, dAndT, dOrT, dNotT, dIf, isBl, dAndV, dOrV, dNotV, dUn, gE, gSeq, gNx, gIf, gRet, gSet, gRetN, gStuck, bodyD, dCall, clL, cl, dCons, dNil, dFun, dResL, resL, T3.cond, gGt, gLt, gLe, gGe, gCmp, gInt, ofS_beq, ofS_inj, q_str, nq_str, q_int, nq_int, q_str2, in3, T3.dTup, okLen, sizeLine, gAdd, gAddI, gMul, ix0t, ix1t, ix2t, ix3t, ix0l, ix1l, ix2l, ix3l, gFld, dFld, fldOf, insAt, lstAt, dicAt, cellAt, insC, lstC, dicC, dSt, isC, gPut, T3.putAt, putFD, dNewRef, dFrz, cellV, cellD, nLst, gLen4, gLen, gExpr, gAppend, oneOf, nDictOf, dMake, get_end, get_end1, get_end2, get_end3, set_end, nLc, wOk, isOwn, iSrc, srcOf, srcRef, nListOf, tgName, setIf, wipe3, List.lookup, seqOf, Function.comp_def, StepOk, gFor, lb_Cell_processed_0, Ent.d, q, this, ed]
      · simp [dBind, dPure, dStuck, dOpt, dVar, dC, dRes, res, dOp2, dTest, dTruth, truth, dAndT, dOrT, dNotT, dIf, isBl, dAndV, dOrV, dNotV, dUn, gE, gSeq, gNx, gIf, gRet, gSet, gRetN, gStuck, bodyD, dCall, clL, cl, dCons, dNil, dFun, dResL, resL, T3.cond, gGt, gLt, gLe, gGe, gCmp, gInt, ofS_beq, ofS_inj, q_str, nq_str, q_int, nq_int, q_str2, in3, T3.dTup, okLen, sizeLine, gAdd, gAddI, gMul, ix0t, ix1t, ix2t, ix3t, ix0l, ix1l, ix2l, ix3l, gFld, dFld, fldOf, insAt, lstAt, dicAt, cellAt, insC, lstC, dicC, dSt, isC, gPut, T3.putAt, putFD, dNewRef, dFrz, cellV, cellD, nLst, gLen4, gLen, gExpr, gAppend, oneOf, nDictOf, dMake, get_end, get_end1, get_end2, get_end3, set_end, nLc, wOk, isOwn, iSrc, srcOf, srcRef, nListOf, tgName, setIf, wipe3, List.lookup, seqOf, Function.comp_def, StepOk, gFor, Ent.d]
  exact key _ rfl
end
end W

set_option Elab.async false
set_option linter.all false
set_option maxRecDepth 100000
set_option maxHeartbeats 1000000
namespace W
open PySem L2 T3
section
variable (a : Ad)
theorem ixk (k : Int) : gIx4 (.dic (env1 k)) (.str "k") = some (.int k) := by kernel_rfl
theorem lapply_ok (e : Ent) (v : Int) (h : HD) : den_l_apply a [.int v, e.d] h = .ok (.int (e.u.ap v e.k)) h := by
  cases q : e.u with
  | num m => simp [dBind, dPure, dStuck, dOpt, dVar, dC, dRes, res, dOp2, dTest, dTruth, truth, dAndT, dOrT, dNotT, dIf, isBl, dAndV, dOrV, dNotV, dUn, gE, gSeq, gNx, gIf, gRet, gSet, gRetN, gStuck, bodyD, dCall, clL, cl, dCons, dNil, dFun, dResL, resL, T3.cond, gGt, gLt, gLe, gGe, gCmp, gInt, ofS_beq, ofS_inj, q_str, nq_str, q_int, nq_int, q_str2, in3, T3.dTup, okLen, sizeLine, gAdd, gAddI, gMul, ix0t, ix1t, ix2t, ix3t, ix0l, ix1l, ix2l, ix3l, gFld, dFld, fldOf, insAt, lstAt, dicAt, cellAt, insC, lstC, dicC, dSt, isC, gPut, T3.putAt, putFD, dNewRef, dFrz, cellV, cellD, nLst, gLen4, gLen, gExpr, gAppend, oneOf, nDictOf, dMake, get_end, get_end1, get_end2, get_end3, set_end, nLc, wOk, isOwn, iSrc, srcOf, srcRef, nListOf, tgName, setIf, wipe3, List.lookup, seqOf, Function.comp_def, StepOk, gFor, den_l_apply, g_l_apply, Ent.d, q, Up.d, Up.ap]
  | plus => simp [dBind, dPure, dStuck, dOpt, dVar, dC, dRes, res, dOp2, dTest, dTruth, truth, dAndT, dOrT, dNotT, dIf, isBl, dAndV, dOrV, dNotV, dUn, gE, gSeq, gNx, gIf, gRet, gSet, gRetN, gStuck, bodyD, dCall, clL, cl, dCons, dNil, dFun, dResL, resL, T3.cond, gGt, gLt, gLe, gGe, gCmp, gInt, ofS_beq, ofS_inj, q_str, nq_str, q_int, nq_int, q_str2, in3, T3.dTup, okLen, sizeLine, gAdd, gAddI, gMul, ix0t, ix1t, ix2t, ix3t, ix0l, ix1l, ix2l, ix3l, gFld, dFld, fldOf, insAt, lstAt, dicAt, cellAt, insC, lstC, dicC, dSt, isC, gPut, T3.putAt, putFD, dNewRef, dFrz, cellV, cellD, nLst, gLen4, gLen, gExpr, gAppend, oneOf, nDictOf, dMake, get_end, get_end1, get_end2, get_end3, set_end, nLc, wOk, isOwn, iSrc, srcOf, srcRef, nListOf, tgName, setIf, wipe3, List.lookup, seqOf, Function.comp_def, StepOk, gFor, den_l_apply, g_l_apply, Ent.d, q, Up.d, Up.ap, ixk]
  | twice m => simp [dBind, dPure, dStuck, dOpt, dVar, dC, dRes, res, dOp2, dTest, dTruth, truth, dAndT, dOrT, dNotT, dIf, isBl, dAndV, dOrV, dNotV, dUn, gE, gSeq, gNx, gIf, gRet, gSet, gRetN, gStuck, bodyD, dCall, clL, cl, dCons, dNil, dFun, dResL, resL, T3.cond, gGt, gLt, gLe, gGe, gCmp, gInt, ofS_beq, ofS_inj, q_str, nq_str, q_int, nq_int, q_str2, in3, T3.dTup, okLen, sizeLine, gAdd, gAddI, gMul, ix0t, ix1t, ix2t, ix3t, ix0l, ix1l, ix2l, ix3l, gFld, dFld, fldOf, insAt, lstAt, dicAt, cellAt, insC, lstC, dicC, dSt, isC, gPut, T3.putAt, putFD, dNewRef, dFrz, cellV, cellD, nLst, gLen4, gLen, gExpr, gAppend, oneOf, nDictOf, dMake, get_end, get_end1, get_end2, get_end3, set_end, nLc, wOk, isOwn, iSrc, srcOf, srcRef, nListOf, tgName, setIf, wipe3, List.lookup, seqOf, Function.comp_def, StepOk, gFor, den_l_apply, g_l_apply, Ent.d, q, Up.d, Up.ap, gInt1]
theorem deq_ud (u : Up) : deq u.d u.d = true := by cases u <;> simp [dBind, dPure, dStuck, dOpt, dVar, dC, dRes, res, dOp2, dTest, dTruth, truth, dAndT, dOrT, dNotT, dIf, isBl, dAndV, dOrV, dNotV, dUn, gE, gSeq, gNx, gIf, gRet, gSet, gRetN, gStuck, bodyD, dCall, clL, cl, dCons, dNil, dFun, dResL, resL, T3.cond, gGt, gLt, gLe, gGe, gCmp, gInt, ofS_beq, ofS_inj, q_str, nq_str, q_int, nq_int, q_str2, in3, T3.dTup, okLen, sizeLine, gAdd, gAddI, gMul, ix0t, ix1t, ix2t, ix3t, ix0l, ix1l, ix2l, ix3l, gFld, dFld, fldOf, insAt, lstAt, dicAt, cellAt, insC, lstC, dicC, dSt, isC, gPut, T3.putAt, putFD, dNewRef, dFrz, cellV, cellD, nLst, gLen4, gLen, gExpr, gAppend, oneOf, nDictOf, dMake, get_end, get_end1, get_end2, get_end3, set_end, nLc, wOk, isOwn, iSrc, srcOf, srcRef, nListOf, tgName, setIf, wipe3, List.lookup, seqOf, Function.comp_def, StepOk, gFor, Up.d, deq, deqL, ofS_beq]
theorem cmp_ud (u : Up) : cmpOk 40 u.d u.d = true := by cases u <;> rfl
theorem cmp_ud61 (u : Up) : cmpOk 61 u.d u.d = true := by cases u <;> rfl
theorem cmp_ud60 (u : Up) : cmpOk 60 u.d u.d = true := by cases u <;> rfl
theorem ne_ud (u : Up) : gEq4 true u.d u.d = some (.bl false) := by simp [dBind, dPure, dStuck, dOpt, dVar, dC, dRes, res, dOp2, dTest, dTruth, truth, dAndT, dOrT, dNotT, dIf, isBl, dAndV, dOrV, dNotV, dUn, gE, gSeq, gNx, gIf, gRet, gSet, gRetN, gStuck, bodyD, dCall, clL, cl, dCons, dNil, dFun, dResL, resL, T3.cond, gGt, gLt, gLe, gGe, gCmp, gInt, ofS_beq, ofS_inj, q_str, nq_str, q_int, nq_int, q_str2, in3, T3.dTup, okLen, sizeLine, gAdd, gAddI, gMul, ix0t, ix1t, ix2t, ix3t, ix0l, ix1l, ix2l, ix3l, gFld, dFld, fldOf, insAt, lstAt, dicAt, cellAt, insC, lstC, dicC, dSt, isC, gPut, T3.putAt, putFD, dNewRef, dFrz, cellV, cellD, nLst, gLen4, gLen, gExpr, gAppend, oneOf, nDictOf, dMake, get_end, get_end1, get_end2, get_end3, set_end, nLc, wOk, isOwn, iSrc, srcOf, srcRef, nListOf, tgName, setIf, wipe3, List.lookup, seqOf, Function.comp_def, StepOk, gFor, gEq4, gNe, cmp_ud61, deq_ud]
theorem deqN_ud (n : Nat) (u : Up) : deqN n u.d u.d = true := by
  obtain ⟨ds, ed⟩ := u.dcl
  have := deq_ud u
  rw [ed] at this ⊢
  cases n <;> exact this
theorem okN_ud (n : Nat) (u : Up) : okN n u.d u.d = true := by
  obtain ⟨ds, ed⟩ := u.dcl
  have := cmp_ud u
  rw [ed] at this ⊢
  cases n <;> exact this
theorem valD1 (k : Int) : valD (env1 k) (.inr "k") = some (.int k) := by kernel_rfl
theorem cmp_lst (n : Nat) (xs ys : List D) : cmpOk (n + 1) (.lst xs) (.lst ys) = (xs.length != ys.length || allZip (cmpOk n) xs ys) := rfl
theorem c_bl (n : Nat) (x y : Bool) : cmpOk (n + 1) (.bl x) (.bl y) = true := rfl
theorem c_int (n : Nat) (x y : Int) : cmpOk (n + 1) (.int x) (.int y) = true := rfl
theorem c_dic (n : Nat) (x y : List (Key × D)) : cmpOk (n + 1) (.dic x) (.dic y) = false := rfl
theorem z_cons (p : D → D → Bool) (x y : D) (xs ys : List D) : allZip p (x :: xs) (y :: ys) = (p x y && allZip p xs ys) := rfl
theorem z_nil (p : D → D → Bool) : allZip p [] [] = true := rfl
theorem okN_lst (n : Nat) (xs ys : List D) : okN (n + 1) (.lst xs) (.lst ys) = (xs.length != ys.length || allZip (okN n) xs ys) := rfl
theorem okN_dic (n : Nat) (xs ys : List (Key × D)) : okN (n + 1) (.dic xs) (.dic ys) = (decide ((xs.map (·.1)).Nodup) && (xs.length != ys.length || xs.all (hitD (okN n) true ys))) := rfl
theorem deqN_lst1 (n : Nat) (xs ys : List D) : deqN (n + 1) (.lst xs) (.lst ys) = (xs.length == ys.length && allZip (deqN n) xs ys) := rfl
theorem deqN_dic (n : Nat) (xs ys : List (Key × D)) : deqN (n + 1) (.dic xs) (.dic ys) = (xs.length == ys.length && xs.all (hitD (deqN n) false ys)) := rfl
theorem o_bl (n : Nat) (x y : Bool) : okN n (.bl x) (.bl y) = true := by cases n <;> rfl
theorem o_int (n : Nat) (x y : Int) : okN n (.int x) (.int y) = true := by cases n <;> rfl
theorem d_bl (n : Nat) (x : Bool) : deqN n (.bl x) (.bl x) = true := by cases n <;> exact beq_self_eq_true x
theorem d_int (n : Nat) (x : Int) : deqN n (.int x) (.int x) = true := by cases n <;> exact beq_self_eq_true x
theorem hit_env (p : D → D → Bool) (m : Bool) (k j : Int) : hitD p m (env1 j) (.inr "k", .int k) = p (.int k) (.int j) := by
  unfold hitD; simp only [valD1]
theorem deqN_env (n : Nat) (k : Int) : deqN (n + 1) (.dic (env1 k)) (.dic (env1 k)) = true := by
  rw [deqN_dic]
  simp only [List.all_cons, List.all_nil, hit_env, d_int, BEq.rfl, Bool.true_and, Bool.and_true]
theorem okN_env (n : Nat) (k : Int) : okN (n + 1) (.dic (env1 k)) (.dic (env1 k)) = true := by
  rw [okN_dic]
  simp only [List.all_cons, List.all_nil, hit_env, o_int, bne_self_eq_false, Bool.false_or, Bool.true_and, Bool.and_true]
  rfl
theorem ne_ent (e : Ent) : gEq4 true e.d e.d = some (.bl false) := by
  have h1 : cmpOk 61 e.d e.d = false := by
    unfold Ent.d
    rw [cmp_lst, z_cons, z_cons, z_cons, z_cons, z_nil, c_bl, c_int, cmp_ud60, c_dic]
    simp [dBind, dPure, dStuck, dOpt, dVar, dC, dRes, res, dOp2, dTest, dTruth, truth, dAndT, dOrT, dNotT, dIf, isBl, dAndV, dOrV, dNotV, dUn, gE, gSeq, gNx, gIf, gRet, gSet, gRetN, gStuck, bodyD, dCall, clL, cl, dCons, dNil, dFun, dResL, resL, T3.cond, gGt, gLt, gLe, gGe, gCmp, gInt, ofS_beq, ofS_inj, q_str, nq_str, q_int, nq_int, q_str2, in3, T3.dTup, okLen, sizeLine, gAdd, gAddI, gMul, ix0t, ix1t, ix2t, ix3t, ix0l, ix1l, ix2l, ix3l, gFld, dFld, fldOf, insAt, lstAt, dicAt, cellAt, insC, lstC, dicC, dSt, isC, gPut, T3.putAt, putFD, dNewRef, dFrz, cellV, cellD, nLst, gLen4, gLen, gExpr, gAppend, oneOf, nDictOf, dMake, get_end, get_end1, get_end2, get_end3, set_end, nLc, wOk, isOwn, iSrc, srcOf, srcRef, nListOf, tgName, setIf, wipe3, List.lookup, seqOf, Function.comp_def, StepOk, gFor]
  have h2 : okN 8 e.d e.d = true := by
    unfold Ent.d
    rw [okN_lst, z_cons, z_cons, z_cons, z_cons, z_nil, o_bl, o_int, okN_ud, okN_env]
    simp [dBind, dPure, dStuck, dOpt, dVar, dC, dRes, res, dOp2, dTest, dTruth, truth, dAndT, dOrT, dNotT, dIf, isBl, dAndV, dOrV, dNotV, dUn, gE, gSeq, gNx, gIf, gRet, gSet, gRetN, gStuck, bodyD, dCall, clL, cl, dCons, dNil, dFun, dResL, resL, T3.cond, gGt, gLt, gLe, gGe, gCmp, gInt, ofS_beq, ofS_inj, q_str, nq_str, q_int, nq_int, q_str2, in3, T3.dTup, okLen, sizeLine, gAdd, gAddI, gMul, ix0t, ix1t, ix2t, ix3t, ix0l, ix1l, ix2l, ix3l, gFld, dFld, fldOf, insAt, lstAt, dicAt, cellAt, insC, lstC, dicC, dSt, isC, gPut, T3.putAt, putFD, dNewRef, dFrz, cellV, cellD, nLst, gLen4, gLen, gExpr, gAppend, oneOf, nDictOf, dMake, get_end, get_end1, get_end2, get_end3, set_end, nLc, wOk, isOwn, iSrc, srcOf, srcRef, nListOf, tgName, setIf, wipe3, List.lookup, seqOf, Function.comp_def, StepOk, gFor]
  have h3 : deqN 8 e.d e.d = true := by
    unfold Ent.d
    rw [deqN_lst1, z_cons, z_cons, z_cons, z_cons, z_nil, d_bl, d_int, deqN_ud, deqN_env]
    simp [dBind, dPure, dStuck, dOpt, dVar, dC, dRes, res, dOp2, dTest, dTruth, truth, dAndT, dOrT, dNotT, dIf, isBl, dAndV, dOrV, dNotV, dUn, gE, gSeq, gNx, gIf, gRet, gSet, gRetN, gStuck, bodyD, dCall, clL, cl, dCons, dNil, dFun, dResL, resL, T3.cond, gGt, gLt, gLe, gGe, gCmp, gInt, ofS_beq, ofS_inj, q_str, nq_str, q_int, nq_int, q_str2, in3, T3.dTup, okLen, sizeLine, gAdd, gAddI, gMul, ix0t, ix1t, ix2t, ix3t, ix0l, ix1l, ix2l, ix3l, gFld, dFld, fldOf, insAt, lstAt, dicAt, cellAt, insC, lstC, dicC, dSt, isC, gPut, T3.putAt, putFD, dNewRef, dFrz, cellV, cellD, nLst, gLen4, gLen, gExpr, gAppend, oneOf, nDictOf, dMake, get_end, get_end1, get_end2, get_end3, set_end, nLc, wOk, isOwn, iSrc, srcOf, srcRef, nListOf, tgName, setIf, wipe3, List.lookup, seqOf, Function.comp_def, StepOk, gFor]
  have h4 : gEq4 true e.d e.d = (match gNe e.d e.d with | some d => some d | none => if okN 8 e.d e.d && decide ((4 : Nat) = 4) then some (.bl (!deqN 8 e.d e.d)) else none) := rfl
  rw [h4, show gNe e.d e.d = none from by unfold gNe; rw [h1]; rfl, h2, h3]
  rfl
theorem zip_ints (n : Nat) : ∀ l : List Int, allZip (cmpOk (n + 1)) (l.map .int) (l.map .int) = true
  | [] => rfl
  | x :: l => by rw [List.map_cons, z_cons, c_int, zip_ints n l]; rfl
theorem deqL_ints : ∀ l : List Int, deqL (l.map .int) (l.map .int) = true
  | [] => rfl
  | x :: l => by
    show (deq (.int x) (.int x) && deqL (l.map .int) (l.map .int)) = true
    rw [deqL_ints l]
    show ((x == x) && true) = true
    rw [beq_self_eq_true]; rfl
theorem eq_ints (l : List Int) : gEq4 false (.lst (l.map .int)) (.lst (l.map .int)) = some (.bl true) := by
  have h1 : cmpOk 61 (.lst (l.map .int)) (.lst (l.map .int)) = true := by rw [cmp_lst, zip_ints]; simp [dBind, dPure, dStuck, dOpt, dVar, dC, dRes, res, dOp2, dTest, dTruth, truth, dAndT, dOrT, dNotT, dIf, isBl, dAndV, dOrV, dNotV, dUn, gE, gSeq, gNx, gIf, gRet, gSet, gRetN, gStuck, bodyD, dCall, clL, cl, dCons, dNil, dFun, dResL, resL, T3.cond, gGt, gLt, gLe, gGe, gCmp, gInt, ofS_beq, ofS_inj, q_str, nq_str, q_int, nq_int, q_str2, in3, T3.dTup, okLen, sizeLine, gAdd, gAddI, gMul, ix0t, ix1t, ix2t, ix3t, ix0l, ix1l, ix2l, ix3l, gFld, dFld, fldOf, insAt, lstAt, dicAt, cellAt, insC, lstC, dicC, dSt, isC, gPut, T3.putAt, putFD, dNewRef, dFrz, cellV, cellD, nLst, gLen4, gLen, gExpr, gAppend, oneOf, nDictOf, dMake, get_end, get_end1, get_end2, get_end3, set_end, nLc, wOk, isOwn, iSrc, srcOf, srcRef, nListOf, tgName, setIf, wipe3, List.lookup, seqOf, Function.comp_def, StepOk, gFor]
  have h2 : deq (.lst (l.map .int)) (.lst (l.map .int)) = true := deqL_ints l
  have h3 : gEq (.lst (l.map .int)) (.lst (l.map .int)) = some (.bl true) := by unfold gEq; rw [h1, h2]; rfl
  unfold gEq4
  simp [dBind, dPure, dStuck, dOpt, dVar, dC, dRes, res, dOp2, dTest, dTruth, truth, dAndT, dOrT, dNotT, dIf, isBl, dAndV, dOrV, dNotV, dUn, gE, gSeq, gNx, gIf, gRet, gSet, gRetN, gStuck, bodyD, dCall, clL, cl, dCons, dNil, dFun, dResL, resL, T3.cond, gGt, gLt, gLe, gGe, gCmp, gInt, ofS_beq, ofS_inj, q_str, nq_str, q_int, nq_int, q_str2, in3, T3.dTup, okLen, sizeLine, gAdd, gAddI, gMul, ix0t, ix1t, ix2t, ix3t, ix0l, ix1l, ix2l, ix3l, gFld, dFld, fldOf, insAt, lstAt, dicAt, cellAt, insC, lstC, dicC, dSt, isC, gPut, T3.putAt, putFD, dNewRef, dFrz, cellV, cellD, nLst, gLen4, gLen, gExpr, gAppend, oneOf, nDictOf, dMake, get_end, get_end1, get_end2, get_end3, set_end, nLc, wOk, isOwn, iSrc, srcOf, srcRef, nListOf, tgName, setIf, wipe3, List.lookup, seqOf, Function.comp_def, StepOk, gFor, h3]
theorem nin_env (k : Int) : gIn4 true (.str "k") (.dic (env1 k)) = some (.bl false) := by kernel_rfl
theorem same_env (k : Int) (h : HD) : den_same a 3 [.dic (env1 k), .dic (env1 k)] h = .ok (.bl true) h := by
  have e1 : den_same_fields a 2 [.dic (env1 k), .dic (env1 k)] h = .ok (.bl true) h := by
    simp [dBind, dPure, dStuck, dOpt, dVar, dC, dRes, res, dOp2, dTest, dTruth, truth, dAndT, dOrT, dNotT, dIf, isBl, dAndV, dOrV, dNotV, dUn, gE, gSeq, gNx, gIf, gRet, gSet, gRetN, gStuck, bodyD, dCall, clL, cl, dCons, dNil, dFun, dResL, resL, T3.cond, gGt, gLt, gLe, gGe, gCmp, gInt, ofS_beq, ofS_inj, q_str, nq_str, q_int, nq_int, q_str2, in3, T3.dTup, okLen, sizeLine, gAdd, gAddI, gMul, ix0t, ix1t, ix2t, ix3t, ix0l, ix1l, ix2l, ix3l, gFld, dFld, fldOf, insAt, lstAt, dicAt, cellAt, insC, lstC, dicC, dSt, isC, gPut, T3.putAt, putFD, dNewRef, dFrz, cellV, cellD, nLst, gLen4, gLen, gExpr, gAppend, oneOf, nDictOf, dMake, get_end, get_end1, get_end2, get_end3, set_end, nLc, wOk, isOwn, iSrc, srcOf, srcRef, nListOf, tgName, setIf, wipe3, List.lookup, seqOf, Function.comp_def, StepOk, gFor, den_same_fields, g_same_fields, iKy, forF, keyD, lb_same_fields_0, nin_env, ixk, same_int]
  simp [dBind, dPure, dStuck, dOpt, dVar, dC, dRes, res, dOp2, dTest, dTruth, truth, dAndT, dOrT, dNotT, dIf, isBl, dAndV, dOrV, dNotV, dUn, gE, gSeq, gNx, gIf, gRet, gSet, gRetN, gStuck, bodyD, dCall, clL, cl, dCons, dNil, dFun, dResL, resL, T3.cond, gGt, gLt, gLe, gGe, gCmp, gInt, ofS_beq, ofS_inj, q_str, nq_str, q_int, nq_int, q_str2, in3, T3.dTup, okLen, sizeLine, gAdd, gAddI, gMul, ix0t, ix1t, ix2t, ix3t, ix0l, ix1l, ix2l, ix3l, gFld, dFld, fldOf, insAt, lstAt, dicAt, cellAt, insC, lstC, dicC, dSt, isC, gPut, T3.putAt, putFD, dNewRef, dFrz, cellV, cellD, nLst, gLen4, gLen, gExpr, gAppend, oneOf, nDictOf, dMake, get_end, get_end1, get_end2, get_end3, set_end, nLc, wOk, isOwn, iSrc, srcOf, srcRef, nListOf, tgName, setIf, wipe3, List.lookup, seqOf, Function.comp_def, StepOk, gFor, den_same, g_same, kov_dic, e1]
theorem ne_bl (b : Bool) : gEq4 true (.bl b) (.bl b) = some (.bl false) := by cases b <;> rfl
theorem eq_ok {h : HD} {c q c2 q2 : Nat} {b n : Int} {es : List Ent} (C : CAt a h c b q n es) (C2 : CAt a h c2 b q2 n es) : den_Cell___eq__ a [.ref c, .ref c2] h = .ok (.bl true) h := by
  have key := forF_inv (good := fun σ h => goodL q (es.map Ent.d) σ h && goodL q2 (es.map Ent.d) σ h) (tg := tgTup 2 (tgsCons (tgName 2) (tgsCons (tgName 3) tgsNil))) (body := lb_Cell___eq___0 a)
    (Post := fun r => ∃ y z, r = .nx [some (.val (.ref c)), some (.val (.ref c2)), y, z] h)
    (Inv := fun rem σ h' => h' = h ∧ (∃ y z, σ = [some (.val (.ref c)), some (.val (.ref c2)), y, z] ∧ isOwn σ 2 = false ∧ isOwn σ 3 = false) ∧ ∃ es2 : List Ent, rem = zipD (es2.map Ent.d) (es2.map Ent.d)) ?_ ?_ (zipD (es.map Ent.d) (es.map Ent.d)) [some (.val (.ref c)), some (.val (.ref c2)), none, none] h ⟨rfl, ⟨none, none, rfl, rfl, rfl⟩, es, rfl⟩
  rotate_left
  · rintro x xs σ h' ⟨rfl, ⟨y, z, rfl, yo, zo⟩, es2, ex⟩
    refine ⟨by rw [goodL_of C.q, goodL_of C2.q]; rfl, ?_⟩
    cases es2 with
    | nil => cases ex
    | cons e es2 =>
      simp only [List.map_cons, zipD, List.cons.injEq] at ex
      obtain ⟨rfl, rfl⟩ := ex
      refine ⟨[some (.val (.ref c)), some (.val (.ref c2)), some (.val e.d), some (.val e.d)], ?_, ?_⟩
      · have yo' : isOwn [some (Slot.val (D.ref c)), some (Slot.val (D.ref c2)), y, z] 2 = false := yo
        have zo' : isOwn [some (Slot.val (D.ref c)), some (Slot.val (D.ref c2)), some (Slot.val e.d), z] 3 = false := zo
        have s1 : setIf 2 e.d [some (Slot.val (D.ref c)), some (Slot.val (D.ref c2)), y, z] = some [some (Slot.val (D.ref c)), some (Slot.val (D.ref c2)), some (Slot.val e.d), z] := by unfold setIf; rw [yo']; rfl
        have s2 : setIf 3 e.d [some (Slot.val (D.ref c)), some (Slot.val (D.ref c2)), some (Slot.val e.d), z] = some [some (Slot.val (D.ref c)), some (Slot.val (D.ref c2)), some (Slot.val e.d), some (Slot.val e.d)] := by unfold setIf; rw [zo']; rfl
        show ((setIf 2 e.d [some (Slot.val (D.ref c)), some (Slot.val (D.ref c2)), y, z]).bind fun σ1 => (setIf 3 e.d σ1).bind some) = _
        rw [s1]
        show (setIf 3 e.d [some (Slot.val (D.ref c)), some (Slot.val (D.ref c2)), some (Slot.val e.d), z]).bind some = _
        rw [s2]
        rfl
      · obtain ⟨ds, ed⟩ := e.u.dcl
        have nu := ne_ud e.u
        rw [ed] at nu
        simp [dBind, dPure, dStuck, dOpt, dVar, dC, dRes, res, dOp2, dTest, dTruth, truth, dAndT, dOrT, dNotT, dIf, isBl, dAndV, dOrV, dNotV, dUn, gE, gSeq, gNx, gIf, gRet, gSet, gRetN, gStuck, bodyD, dCall, clL, cl, dCons, dNil, dFun, dResL, resL, T3.cond, gGt, gLt, gLe, gGe, gCmp, gInt, ofS_beq, ofS_inj, q_str, nq_str, q_int, nq_int, q_str2, in3, T3.dTup, okLen, sizeLine, gAdd, gAddI, gMul, ix0t, ix1t, ix2t, ix3t, ix0l, ix1l, ix2l, ix3l, gFld, dFld, fldOf, insAt, lstAt, dicAt, cellAt, insC, lstC, dicC, dSt, isC, gPut, T3.putAt, putFD, dNewRef, dFrz, cellV, cellD, nLst, gLen4, gLen, gExpr, gAppend, oneOf, nDictOf, dMake, get_end, get_end1, get_end2, get_end3, set_end, nLc, wOk, isOwn, iSrc, srcOf, srcRef, nListOf, tgName, setIf, wipe3, List.lookup, seqOf, Function.comp_def, StepOk, gFor, lb_Cell___eq___0, Ent.d, ne_bl, same_env, nu, ed]
        exact ⟨es2, rfl⟩
  · rintro σ h' ⟨rfl, ⟨y, z, rfl, yo, zo⟩, es2, ex⟩
    exact ⟨by rw [goodL_of C.q, goodL_of C2.q]; rfl, y, z, rfl⟩
  obtain ⟨y, z, key⟩ := key
  simp only [den_Cell___eq__, g_Cell___eq__]
  simp [dBind, dPure, dStuck, dOpt, dVar, dC, dRes, res, dOp2, dTest, dTruth, truth, dAndT, dOrT, dNotT, dIf, isBl, dAndV, dOrV, dNotV, dUn, gE, gSeq, gNx, gIf, gRet, gSet, gRetN, gStuck, bodyD, dCall, clL, cl, dCons, dNil, dFun, dResL, resL, T3.cond, gGt, gLt, gLe, gGe, gCmp, gInt, ofS_beq, ofS_inj, q_str, nq_str, q_int, nq_int, q_str2, in3, T3.dTup, okLen, sizeLine, gAdd, gAddI, gMul, ix0t, ix1t, ix2t, ix3t, ix0l, ix1l, ix2l, ix3l, gFld, dFld, fldOf, insAt, lstAt, dicAt, cellAt, insC, lstC, dicC, dSt, isC, gPut, T3.putAt, putFD, dNewRef, dFrz, cellV, cellD, nLst, gLen4, gLen, gExpr, gAppend, oneOf, nDictOf, dMake, get_end, get_end1, get_end2, get_end3, set_end, nLc, wOk, isOwn, iSrc, srcOf, srcRef, nListOf, tgName, setIf, wipe3, List.lookup, seqOf, Function.comp_def, StepOk, gFor, dIsiC, C.c, C2.c, C.q, C2.q, ofS_inj, same_int, iZp, zipW, key]
end
end W

set_option Elab.async false
set_option linter.all false
set_option maxRecDepth 100000
set_option maxHeartbeats 1000000
namespace W
open PySem L2 T3
section
variable (a : Ad)
abbrev σL (st L : D) (b : Int) (s : Nat) (y v w : Option T3.Slot) : S3 := [some (.val st), some (.val L), some (.val (.int b)), some (.val (.ref s)), y, v, w]
theorem llead_loop (st L : D) (v w : Option T3.Slot) (hb : cl st = some st) : ∀ (es : List Ent) (turns : List D) (b : Int) (s : Nat) (H : HD) (y : Option T3.Slot), (∀ t ∈ turns, ∃ i : Int, t = .int i) → es.length < turns.length → es.length < 16777216 → H[s]? = some (qD es) → isOwn (σL st L b s y v w) 4 = false →
    ∃ Y s' y', forF always (tgName 4) (lb_l_processed_1 a) turns (σL st L b s y v w) H = .nx (σL st L (lead b es).1 s' y' v w) (H ++ Y) ∧ (H ++ Y)[s']? = some (qD (lead b es).2) ∧ (s' = s ∨ H.length ≤ s')
  | es, [], b, s, H, y, ht, hl, h24, hs, yo => absurd hl (by simp [dBind, dPure, dStuck, dOpt, dVar, dC, dRes, res, dOp2, dTest, dTruth, truth, dAndT, dOrT, dNotT, dIf, isBl, dAndV, dOrV, dNotV, dUn, gE, gSeq, gNx, gIf, gRet, gSet, gRetN, gStuck, bodyD, dCall, clL, cl, dCons, dNil, dFun, dResL, resL, T3.cond, gGt, gLt, gLe, gGe, gCmp, gInt, ofS_beq, ofS_inj, q_str, nq_str, q_int, nq_int, q_str2, in3, T3.dTup, okLen, sizeLine, gAdd, gAddI, gMul, ix0t, ix1t, ix2t, ix3t, ix0l, ix1l, ix2l, ix3l, gFld, dFld, fldOf, insAt, lstAt, dicAt, cellAt, insC, lstC, dicC, dSt, isC, gPut, T3.putAt, putFD, dNewRef, dFrz, cellV, cellD, nLst, gLen4, gLen, gExpr, gAppend, oneOf, nDictOf, dMake, get_end, get_end1, get_end2, get_end3, set_end, nLc, wOk, isOwn, iSrc, srcOf, srcRef, nListOf, tgName, setIf, wipe3, List.lookup, seqOf, Function.comp_def, StepOk, gFor])
  | [], t :: turns, b, s, H, y, ht, hl, h24, hs, yo => by
    obtain ⟨i, rfl⟩ := ht _ List.mem_cons_self
    refine ⟨[], s, some (.val (.int i)), ?_, by simpa [dBind, dPure, dStuck, dOpt, dVar, dC, dRes, res, dOp2, dTest, dTruth, truth, dAndT, dOrT, dNotT, dIf, isBl, dAndV, dOrV, dNotV, dUn, gE, gSeq, gNx, gIf, gRet, gSet, gRetN, gStuck, bodyD, dCall, clL, cl, dCons, dNil, dFun, dResL, resL, T3.cond, gGt, gLt, gLe, gGe, gCmp, gInt, ofS_beq, ofS_inj, q_str, nq_str, q_int, nq_int, q_str2, in3, T3.dTup, okLen, sizeLine, gAdd, gAddI, gMul, ix0t, ix1t, ix2t, ix3t, ix0l, ix1l, ix2l, ix3l, gFld, dFld, fldOf, insAt, lstAt, dicAt, cellAt, insC, lstC, dicC, dSt, isC, gPut, T3.putAt, putFD, dNewRef, dFrz, cellV, cellD, nLst, gLen4, gLen, gExpr, gAppend, oneOf, nDictOf, dMake, get_end, get_end1, get_end2, get_end3, set_end, nLc, wOk, isOwn, iSrc, srcOf, srcRef, nListOf, tgName, setIf, wipe3, List.lookup, seqOf, Function.comp_def, StepOk, gFor, lead] using hs, .inl rfl⟩
    have s1 : tgName 4 (.int i) (σL st L b s y v w) = some (σL st L b s (some (.val (.int i))) v w) := by simp only [tgName, setIf, yo]; rfl
    simp only [forF, if_true, s1]
    simp [dBind, dPure, dStuck, dOpt, dVar, dC, dRes, res, dOp2, dTest, dTruth, truth, dAndT, dOrT, dNotT, dIf, isBl, dAndV, dOrV, dNotV, dUn, gE, gSeq, gNx, gIf, gRet, gSet, gRetN, gStuck, bodyD, dCall, clL, cl, dCons, dNil, dFun, dResL, resL, T3.cond, gGt, gLt, gLe, gGe, gCmp, gInt, ofS_beq, ofS_inj, q_str, nq_str, q_int, nq_int, q_str2, in3, T3.dTup, okLen, sizeLine, gAdd, gAddI, gMul, ix0t, ix1t, ix2t, ix3t, ix0l, ix1l, ix2l, ix3l, gFld, dFld, fldOf, insAt, lstAt, dicAt, cellAt, insC, lstC, dicC, dSt, isC, gPut, T3.putAt, putFD, dNewRef, dFrz, cellV, cellD, nLst, gLen4, gLen, gExpr, gAppend, oneOf, nDictOf, dMake, get_end, get_end1, get_end2, get_end3, set_end, nLc, wOk, isOwn, iSrc, srcOf, srcRef, nListOf, tgName, setIf, wipe3, List.lookup, seqOf, Function.comp_def, StepOk, gFor, lb_l_processed_1, hs, gBk, lead]
  | e :: es, t :: turns, b, s, H, y, ht, hl, h24, hs, yo => by
    obtain ⟨i, rfl⟩ := ht _ List.mem_cons_self
    have s1 : tgName 4 (.int i) (σL st L b s y v w) = some (σL st L b s (some (.val (.int i))) v w) := by simp only [tgName, setIf, yo]; rfl
    have nz : ((es.length : Int) + 1 == 0) = false := by simp [dBind, dPure, dStuck, dOpt, dVar, dC, dRes, res, dOp2, dTest, dTruth, truth, dAndT, dOrT, dNotT, dIf, isBl, dAndV, dOrV, dNotV, dUn, gE, gSeq, gNx, gIf, gRet, gSet, gRetN, gStuck, bodyD, dCall, clL, cl, dCons, dNil, dFun, dResL, resL, T3.cond, gGt, gLt, gLe, gGe, gCmp, gInt, ofS_beq, ofS_inj, q_str, nq_str, q_int, nq_int, q_str2, in3, T3.dTup, okLen, sizeLine, gAdd, gAddI, gMul, ix0t, ix1t, ix2t, ix3t, ix0l, ix1l, ix2l, ix3l, gFld, dFld, fldOf, insAt, lstAt, dicAt, cellAt, insC, lstC, dicC, dSt, isC, gPut, T3.putAt, putFD, dNewRef, dFrz, cellV, cellD, nLst, gLen4, gLen, gExpr, gAppend, oneOf, nDictOf, dMake, get_end, get_end1, get_end2, get_end3, set_end, nLc, wOk, isOwn, iSrc, srcOf, srcRef, nListOf, tgName, setIf, wipe3, List.lookup, seqOf, Function.comp_def, StepOk, gFor]; omega
    obtain ⟨ds, ed⟩ := e.u.dcl
    cases q1 : e.fl with
    | false =>
      refine ⟨[], s, some (.val (.int i)), ?_, by simpa [dBind, dPure, dStuck, dOpt, dVar, dC, dRes, res, dOp2, dTest, dTruth, truth, dAndT, dOrT, dNotT, dIf, isBl, dAndV, dOrV, dNotV, dUn, gE, gSeq, gNx, gIf, gRet, gSet, gRetN, gStuck, bodyD, dCall, clL, cl, dCons, dNil, dFun, dResL, resL, T3.cond, gGt, gLt, gLe, gGe, gCmp, gInt, ofS_beq, ofS_inj, q_str, nq_str, q_int, nq_int, q_str2, in3, T3.dTup, okLen, sizeLine, gAdd, gAddI, gMul, ix0t, ix1t, ix2t, ix3t, ix0l, ix1l, ix2l, ix3l, gFld, dFld, fldOf, insAt, lstAt, dicAt, cellAt, insC, lstC, dicC, dSt, isC, gPut, T3.putAt, putFD, dNewRef, dFrz, cellV, cellD, nLst, gLen4, gLen, gExpr, gAppend, oneOf, nDictOf, dMake, get_end, get_end1, get_end2, get_end3, set_end, nLc, wOk, isOwn, iSrc, srcOf, srcRef, nListOf, tgName, setIf, wipe3, List.lookup, seqOf, Function.comp_def, StepOk, gFor, lead, q1] using hs, .inl rfl⟩
      simp only [forF, if_true, s1]
      simp [dBind, dPure, dStuck, dOpt, dVar, dC, dRes, res, dOp2, dTest, dTruth, truth, dAndT, dOrT, dNotT, dIf, isBl, dAndV, dOrV, dNotV, dUn, gE, gSeq, gNx, gIf, gRet, gSet, gRetN, gStuck, bodyD, dCall, clL, cl, dCons, dNil, dFun, dResL, resL, T3.cond, gGt, gLt, gLe, gGe, gCmp, gInt, ofS_beq, ofS_inj, q_str, nq_str, q_int, nq_int, q_str2, in3, T3.dTup, okLen, sizeLine, gAdd, gAddI, gMul, ix0t, ix1t, ix2t, ix3t, ix0l, ix1l, ix2l, ix3l, gFld, dFld, fldOf, insAt, lstAt, dicAt, cellAt, insC, lstC, dicC, dSt, isC, gPut, T3.putAt, putFD, dNewRef, dFrz, cellV, cellD, nLst, gLen4, gLen, gExpr, gAppend, oneOf, nDictOf, dMake, get_end, get_end1, get_end2, get_end3, set_end, nLc, wOk, isOwn, iSrc, srcOf, srcRef, nListOf, tgName, setIf, wipe3, List.lookup, seqOf, Function.comp_def, StepOk, gFor, lb_l_processed_1, hs, gBk, lead, q1, nz, Ent.d]
    | true =>
      have la := lapply_ok a e b H
      unfold Ent.d at la
      rw [ed, q1] at la
      have cut : cutD (D.lst [.bl true, .int e.ln, .tup ds, .dic (env1 e.k)] :: es.map Ent.d) (some 1) none = es.map Ent.d := by
        have := cutD_drop (D.lst [.bl true, .int e.ln, .tup ds, .dic (env1 e.k)] :: es.map Ent.d) 1 (by simp [dBind, dPure, dStuck, dOpt, dVar, dC, dRes, res, dOp2, dTest, dTruth, truth, dAndT, dOrT, dNotT, dIf, isBl, dAndV, dOrV, dNotV, dUn, gE, gSeq, gNx, gIf, gRet, gSet, gRetN, gStuck, bodyD, dCall, clL, cl, dCons, dNil, dFun, dResL, resL, T3.cond, gGt, gLt, gLe, gGe, gCmp, gInt, ofS_beq, ofS_inj, q_str, nq_str, q_int, nq_int, q_str2, in3, T3.dTup, okLen, sizeLine, gAdd, gAddI, gMul, ix0t, ix1t, ix2t, ix3t, ix0l, ix1l, ix2l, ix3l, gFld, dFld, fldOf, insAt, lstAt, dicAt, cellAt, insC, lstC, dicC, dSt, isC, gPut, T3.putAt, putFD, dNewRef, dFrz, cellV, cellD, nLst, gLen4, gLen, gExpr, gAppend, oneOf, nDictOf, dMake, get_end, get_end1, get_end2, get_end3, set_end, nLc, wOk, isOwn, iSrc, srcOf, srcRef, nListOf, tgName, setIf, wipe3, List.lookup, seqOf, Function.comp_def, StepOk, gFor])
        simpa [dBind, dPure, dStuck, dOpt, dVar, dC, dRes, res, dOp2, dTest, dTruth, truth, dAndT, dOrT, dNotT, dIf, isBl, dAndV, dOrV, dNotV, dUn, gE, gSeq, gNx, gIf, gRet, gSet, gRetN, gStuck, bodyD, dCall, clL, cl, dCons, dNil, dFun, dResL, resL, T3.cond, gGt, gLt, gLe, gGe, gCmp, gInt, ofS_beq, ofS_inj, q_str, nq_str, q_int, nq_int, q_str2, in3, T3.dTup, okLen, sizeLine, gAdd, gAddI, gMul, ix0t, ix1t, ix2t, ix3t, ix0l, ix1l, ix2l, ix3l, gFld, dFld, fldOf, insAt, lstAt, dicAt, cellAt, insC, lstC, dicC, dSt, isC, gPut, T3.putAt, putFD, dNewRef, dFrz, cellV, cellD, nLst, gLen4, gLen, gExpr, gAppend, oneOf, nDictOf, dMake, get_end, get_end1, get_end2, get_end3, set_end, nLc, wOk, isOwn, iSrc, srcOf, srcRef, nListOf, tgName, setIf, wipe3, List.lookup, seqOf, Function.comp_def, StepOk, gFor] using this
      obtain ⟨Y, s', y', h1, h2, h3⟩ := llead_loop st L v w hb es turns (e.u.ap b e.k) H.length (H ++ [qD es]) (some (.val (.int i))) (fun t m => ht t (List.mem_cons_of_mem _ m)) (by simp [dBind, dPure, dStuck, dOpt, dVar, dC, dRes, res, dOp2, dTest, dTruth, truth, dAndT, dOrT, dNotT, dIf, isBl, dAndV, dOrV, dNotV, dUn, gE, gSeq, gNx, gIf, gRet, gSet, gRetN, gStuck, bodyD, dCall, clL, cl, dCons, dNil, dFun, dResL, resL, T3.cond, gGt, gLt, gLe, gGe, gCmp, gInt, ofS_beq, ofS_inj, q_str, nq_str, q_int, nq_int, q_str2, in3, T3.dTup, okLen, sizeLine, gAdd, gAddI, gMul, ix0t, ix1t, ix2t, ix3t, ix0l, ix1l, ix2l, ix3l, gFld, dFld, fldOf, insAt, lstAt, dicAt, cellAt, insC, lstC, dicC, dSt, isC, gPut, T3.putAt, putFD, dNewRef, dFrz, cellV, cellD, nLst, gLen4, gLen, gExpr, gAppend, oneOf, nDictOf, dMake, get_end, get_end1, get_end2, get_end3, set_end, nLc, wOk, isOwn, iSrc, srcOf, srcRef, nListOf, tgName, setIf, wipe3, List.lookup, seqOf, Function.comp_def, StepOk, gFor] at hl; omega) (by simp [dBind, dPure, dStuck, dOpt, dVar, dC, dRes, res, dOp2, dTest, dTruth, truth, dAndT, dOrT, dNotT, dIf, isBl, dAndV, dOrV, dNotV, dUn, gE, gSeq, gNx, gIf, gRet, gSet, gRetN, gStuck, bodyD, dCall, clL, cl, dCons, dNil, dFun, dResL, resL, T3.cond, gGt, gLt, gLe, gGe, gCmp, gInt, ofS_beq, ofS_inj, q_str, nq_str, q_int, nq_int, q_str2, in3, T3.dTup, okLen, sizeLine, gAdd, gAddI, gMul, ix0t, ix1t, ix2t, ix3t, ix0l, ix1l, ix2l, ix3l, gFld, dFld, fldOf, insAt, lstAt, dicAt, cellAt, insC, lstC, dicC, dSt, isC, gPut, T3.putAt, putFD, dNewRef, dFrz, cellV, cellD, nLst, gLen4, gLen, gExpr, gAppend, oneOf, nDictOf, dMake, get_end, get_end1, get_end2, get_end3, set_end, nLc, wOk, isOwn, iSrc, srcOf, srcRef, nListOf, tgName, setIf, wipe3, List.lookup, seqOf, Function.comp_def, StepOk, gFor] at h24; omega) (by simp [dBind, dPure, dStuck, dOpt, dVar, dC, dRes, res, dOp2, dTest, dTruth, truth, dAndT, dOrT, dNotT, dIf, isBl, dAndV, dOrV, dNotV, dUn, gE, gSeq, gNx, gIf, gRet, gSet, gRetN, gStuck, bodyD, dCall, clL, cl, dCons, dNil, dFun, dResL, resL, T3.cond, gGt, gLt, gLe, gGe, gCmp, gInt, ofS_beq, ofS_inj, q_str, nq_str, q_int, nq_int, q_str2, in3, T3.dTup, okLen, sizeLine, gAdd, gAddI, gMul, ix0t, ix1t, ix2t, ix3t, ix0l, ix1l, ix2l, ix3l, gFld, dFld, fldOf, insAt, lstAt, dicAt, cellAt, insC, lstC, dicC, dSt, isC, gPut, T3.putAt, putFD, dNewRef, dFrz, cellV, cellD, nLst, gLen4, gLen, gExpr, gAppend, oneOf, nDictOf, dMake, get_end, get_end1, get_end2, get_end3, set_end, nLc, wOk, isOwn, iSrc, srcOf, srcRef, nListOf, tgName, setIf, wipe3, List.lookup, seqOf, Function.comp_def, StepOk, gFor]) rfl
      refine ⟨[qD es] ++ Y, s', y', ?_, ?_, ?_⟩
      · simp only [forF, if_true, s1]
        rw [← List.append_assoc]
        simp [dBind, dPure, dStuck, dOpt, dVar, dC, dRes, res, dOp2, dTest, dTruth, truth, dAndT, dOrT, dNotT, dIf, isBl, dAndV, dOrV, dNotV, dUn, gE, gSeq, gNx, gIf, gRet, gSet, gRetN, gStuck, bodyD, dCall, clL, cl, dCons, dNil, dFun, dResL, resL, T3.cond, gGt, gLt, gLe, gGe, gCmp, gInt, ofS_beq, ofS_inj, q_str, nq_str, q_int, nq_int, q_str2, in3, T3.dTup, okLen, sizeLine, gAdd, gAddI, gMul, ix0t, ix1t, ix2t, ix3t, ix0l, ix1l, ix2l, ix3l, gFld, dFld, fldOf, insAt, lstAt, dicAt, cellAt, insC, lstC, dicC, dSt, isC, gPut, T3.putAt, putFD, dNewRef, dFrz, cellV, cellD, nLst, gLen4, gLen, gExpr, gAppend, oneOf, nDictOf, dMake, get_end, get_end1, get_end2, get_end3, set_end, nLc, wOk, isOwn, iSrc, srcOf, srcRef, nListOf, tgName, setIf, wipe3, List.lookup, seqOf, Function.comp_def, StepOk, gFor, lb_l_processed_1, hs, gBk, lead, q1, nz, Ent.d, ed, la, nSlice, dPart, dNoPart, intOf, cut] at h1 ⊢
        exact h1
      · rw [← List.append_assoc]; simpa [dBind, dPure, dStuck, dOpt, dVar, dC, dRes, res, dOp2, dTest, dTruth, truth, dAndT, dOrT, dNotT, dIf, isBl, dAndV, dOrV, dNotV, dUn, gE, gSeq, gNx, gIf, gRet, gSet, gRetN, gStuck, bodyD, dCall, clL, cl, dCons, dNil, dFun, dResL, resL, T3.cond, gGt, gLt, gLe, gGe, gCmp, gInt, ofS_beq, ofS_inj, q_str, nq_str, q_int, nq_int, q_str2, in3, T3.dTup, okLen, sizeLine, gAdd, gAddI, gMul, ix0t, ix1t, ix2t, ix3t, ix0l, ix1l, ix2l, ix3l, gFld, dFld, fldOf, insAt, lstAt, dicAt, cellAt, insC, lstC, dicC, dSt, isC, gPut, T3.putAt, putFD, dNewRef, dFrz, cellV, cellD, nLst, gLen4, gLen, gExpr, gAppend, oneOf, nDictOf, dMake, get_end, get_end1, get_end2, get_end3, set_end, nLc, wOk, isOwn, iSrc, srcOf, srcRef, nListOf, tgName, setIf, wipe3, List.lookup, seqOf, Function.comp_def, StepOk, gFor, lead, q1] using h2
      · rcases h3 with h3 | h3
        · right; omega
        · right; simp [dBind, dPure, dStuck, dOpt, dVar, dC, dRes, res, dOp2, dTest, dTruth, truth, dAndT, dOrT, dNotT, dIf, isBl, dAndV, dOrV, dNotV, dUn, gE, gSeq, gNx, gIf, gRet, gSet, gRetN, gStuck, bodyD, dCall, clL, cl, dCons, dNil, dFun, dResL, resL, T3.cond, gGt, gLt, gLe, gGe, gCmp, gInt, ofS_beq, ofS_inj, q_str, nq_str, q_int, nq_int, q_str2, in3, T3.dTup, okLen, sizeLine, gAdd, gAddI, gMul, ix0t, ix1t, ix2t, ix3t, ix0l, ix1l, ix2l, ix3l, gFld, dFld, fldOf, insAt, lstAt, dicAt, cellAt, insC, lstC, dicC, dSt, isC, gPut, T3.putAt, putFD, dNewRef, dFrz, cellV, cellD, nLst, gLen4, gLen, gExpr, gAppend, oneOf, nDictOf, dMake, get_end, get_end1, get_end2, get_end3, set_end, nLc, wOk, isOwn, iSrc, srcOf, srcRef, nListOf, tgName, setIf, wipe3, List.lookup, seqOf, Function.comp_def, StepOk, gFor] at h3; omega
theorem lfin_loop (st L : D) (b : Int) (s : Nat) (y : Option T3.Slot) (all : List Ent) (H : HD) (hs : H[s]? = some (qD all)) : ∀ (rem : List Ent) (v : Int) (w : Option T3.Slot), isOwn (σL st L b s y (some (.val (.int v))) w) 6 = false →
    ∃ z, forF (goodL s (all.map Ent.d)) (tgName 6) (lb_l_processed_2 a) (rem.map Ent.d) (σL st L b s y (some (.val (.int v))) w) H = .nx (σL st L b s y (some (.val (.int (fin v rem)))) z) H
  | [], v, w, wo => ⟨w, by simp [dBind, dPure, dStuck, dOpt, dVar, dC, dRes, res, dOp2, dTest, dTruth, truth, dAndT, dOrT, dNotT, dIf, isBl, dAndV, dOrV, dNotV, dUn, gE, gSeq, gNx, gIf, gRet, gSet, gRetN, gStuck, bodyD, dCall, clL, cl, dCons, dNil, dFun, dResL, resL, T3.cond, gGt, gLt, gLe, gGe, gCmp, gInt, ofS_beq, ofS_inj, q_str, nq_str, q_int, nq_int, q_str2, in3, T3.dTup, okLen, sizeLine, gAdd, gAddI, gMul, ix0t, ix1t, ix2t, ix3t, ix0l, ix1l, ix2l, ix3l, gFld, dFld, fldOf, insAt, lstAt, dicAt, cellAt, insC, lstC, dicC, dSt, isC, gPut, T3.putAt, putFD, dNewRef, dFrz, cellV, cellD, nLst, gLen4, gLen, gExpr, gAppend, oneOf, nDictOf, dMake, get_end, get_end1, get_end2, get_end3, set_end, nLc, wOk, isOwn, iSrc, srcOf, srcRef, nListOf, tgName, setIf, wipe3, List.lookup, seqOf, Function.comp_def, StepOk, gFor, forF, goodL_of hs, fin]⟩
  | e :: rem, v, w, wo => by
    have s1 : tgName 6 e.d (σL st L b s y (some (.val (.int v))) w) = some (σL st L b s y (some (.val (.int v))) (some (.val e.d))) := by simp only [tgName, setIf, wo]; rfl
    obtain ⟨ds, ed⟩ := e.u.dcl
    cases q1 : e.fl with
    | false =>
      obtain ⟨z, hz⟩ := lfin_loop st L b s y all H hs rem v (some (.val e.d)) rfl
      refine ⟨z, ?_⟩
      simp only [List.map_cons, forF, goodL_of hs, if_true, s1]
      simp [dBind, dPure, dStuck, dOpt, dVar, dC, dRes, res, dOp2, dTest, dTruth, truth, dAndT, dOrT, dNotT, dIf, isBl, dAndV, dOrV, dNotV, dUn, gE, gSeq, gNx, gIf, gRet, gSet, gRetN, gStuck, bodyD, dCall, clL, cl, dCons, dNil, dFun, dResL, resL, T3.cond, gGt, gLt, gLe, gGe, gCmp, gInt, ofS_beq, ofS_inj, q_str, nq_str, q_int, nq_int, q_str2, in3, T3.dTup, okLen, sizeLine, gAdd, gAddI, gMul, ix0t, ix1t, ix2t, ix3t, ix0l, ix1l, ix2l, ix3l, gFld, dFld, fldOf, insAt, lstAt, dicAt, cellAt, insC, lstC, dicC, dSt, isC, gPut, T3.putAt, putFD, dNewRef, dFrz, cellV, cellD, nLst, gLen4, gLen, gExpr, gAppend, oneOf, nDictOf, dMake, get_end, get_end1, get_end2, get_end3, set_end, nLc, wOk, isOwn, iSrc, srcOf, srcRef, nListOf, tgName, setIf, wipe3, List.lookup, seqOf, Function.comp_def, StepOk, gFor, lb_l_processed_2, Ent.d, q1, fin] at hz ⊢
      exact hz
    | true =>
      have la := lapply_ok a e v H
      unfold Ent.d at la
      rw [ed, q1] at la
      obtain ⟨z, hz⟩ := lfin_loop st L b s y all H hs rem (e.u.ap v e.k) (some (.val e.d)) rfl
      refine ⟨z, ?_⟩
      simp only [List.map_cons, forF, goodL_of hs, if_true, s1]
      simp [dBind, dPure, dStuck, dOpt, dVar, dC, dRes, res, dOp2, dTest, dTruth, truth, dAndT, dOrT, dNotT, dIf, isBl, dAndV, dOrV, dNotV, dUn, gE, gSeq, gNx, gIf, gRet, gSet, gRetN, gStuck, bodyD, dCall, clL, cl, dCons, dNil, dFun, dResL, resL, T3.cond, gGt, gLt, gLe, gGe, gCmp, gInt, ofS_beq, ofS_inj, q_str, nq_str, q_int, nq_int, q_str2, in3, T3.dTup, okLen, sizeLine, gAdd, gAddI, gMul, ix0t, ix1t, ix2t, ix3t, ix0l, ix1l, ix2l, ix3l, gFld, dFld, fldOf, insAt, lstAt, dicAt, cellAt, insC, lstC, dicC, dSt, isC, gPut, T3.putAt, putFD, dNewRef, dFrz, cellV, cellD, nLst, gLen4, gLen, gExpr, gAppend, oneOf, nDictOf, dMake, get_end, get_end1, get_end2, get_end3, set_end, nLc, wOk, isOwn, iSrc, srcOf, srcRef, nListOf, tgName, setIf, wipe3, List.lookup, seqOf, Function.comp_def, StepOk, gFor, lb_l_processed_2, Ent.d, q1, fin, ed, la] at hz ⊢
      exact hz
abbrev stD (b : Int) (s : Nat) (n : Int) : D := .lst [.int b, .ref s, .int n]
theorem lprocessed_ok {h : HD} {s : Nat} {b n : Int} {es : List Ent} (hs : h[s]? = some (qD es)) (L : List Int) (hl : es.length ≤ 50) :
    ∃ Y s', den_l_processed a [stD b s n, .lst (L.map .int)] h = .ok (stD (lead b (es.map (mk L))).1 s' (fin (lead b (es.map (mk L))).1 (lead b (es.map (mk L))).2)) (h ++ Y) ∧ (h ++ Y)[s']? = some (qD (lead b (es.map (mk L))).2) ∧ h.length ≤ s' := by
  have key : ∀ em : List Ent, em = es.map (mk L) → ∃ Y s', den_l_processed a [stD b s n, .lst (L.map .int)] h = .ok (stD (lead b em).1 s' (fin (lead b em).1 (lead b em).2)) (h ++ Y) ∧ (h ++ Y)[s']? = some (qD (lead b em).2) ∧ h.length ≤ s' := by
    intro em hem
    have hml : em.length ≤ 50 := by rw [hem]; simpa [dBind, dPure, dStuck, dOpt, dVar, dC, dRes, res, dOp2, dTest, dTruth, truth, dAndT, dOrT, dNotT, dIf, isBl, dAndV, dOrV, dNotV, dUn, gE, gSeq, gNx, gIf, gRet, gSet, gRetN, gStuck, bodyD, dCall, clL, cl, dCons, dNil, dFun, dResL, resL, T3.cond, gGt, gLt, gLe, gGe, gCmp, gInt, ofS_beq, ofS_inj, q_str, nq_str, q_int, nq_int, q_str2, in3, T3.dTup, okLen, sizeLine, gAdd, gAddI, gMul, ix0t, ix1t, ix2t, ix3t, ix0l, ix1l, ix2l, ix3l, gFld, dFld, fldOf, insAt, lstAt, dicAt, cellAt, insC, lstC, dicC, dSt, isC, gPut, T3.putAt, putFD, dNewRef, dFrz, cellV, cellD, nLst, gLen4, gLen, gExpr, gAppend, oneOf, nDictOf, dMake, get_end, get_end1, get_end2, get_end3, set_end, nLc, wOk, isOwn, iSrc, srcOf, srcRef, nListOf, tgName, setIf, wipe3, List.lookup, seqOf, Function.comp_def, StepOk, gFor] using hl
    obtain ⟨Y, s', y', h1, h2, h3⟩ := llead_loop a (stD b s n) (.lst (L.map .int)) none none rfl em (rngD 0 60) b h.length (h ++ [qD em]) none (fun t m => by
      simp only [rngD, List.mem_map] at m
      obtain ⟨j, _, rfl⟩ := m
      exact ⟨_, rfl⟩) (by simp [dBind, dPure, dStuck, dOpt, dVar, dC, dRes, res, dOp2, dTest, dTruth, truth, dAndT, dOrT, dNotT, dIf, isBl, dAndV, dOrV, dNotV, dUn, gE, gSeq, gNx, gIf, gRet, gSet, gRetN, gStuck, bodyD, dCall, clL, cl, dCons, dNil, dFun, dResL, resL, T3.cond, gGt, gLt, gLe, gGe, gCmp, gInt, ofS_beq, ofS_inj, q_str, nq_str, q_int, nq_int, q_str2, in3, T3.dTup, okLen, sizeLine, gAdd, gAddI, gMul, ix0t, ix1t, ix2t, ix3t, ix0l, ix1l, ix2l, ix3l, gFld, dFld, fldOf, insAt, lstAt, dicAt, cellAt, insC, lstC, dicC, dSt, isC, gPut, T3.putAt, putFD, dNewRef, dFrz, cellV, cellD, nLst, gLen4, gLen, gExpr, gAppend, oneOf, nDictOf, dMake, get_end, get_end1, get_end2, get_end3, set_end, nLc, wOk, isOwn, iSrc, srcOf, srcRef, nListOf, tgName, setIf, wipe3, List.lookup, seqOf, Function.comp_def, StepOk, gFor, rngD]; omega) (by omega) (by simp [dBind, dPure, dStuck, dOpt, dVar, dC, dRes, res, dOp2, dTest, dTruth, truth, dAndT, dOrT, dNotT, dIf, isBl, dAndV, dOrV, dNotV, dUn, gE, gSeq, gNx, gIf, gRet, gSet, gRetN, gStuck, bodyD, dCall, clL, cl, dCons, dNil, dFun, dResL, resL, T3.cond, gGt, gLt, gLe, gGe, gCmp, gInt, ofS_beq, ofS_inj, q_str, nq_str, q_int, nq_int, q_str2, in3, T3.dTup, okLen, sizeLine, gAdd, gAddI, gMul, ix0t, ix1t, ix2t, ix3t, ix0l, ix1l, ix2l, ix3l, gFld, dFld, fldOf, insAt, lstAt, dicAt, cellAt, insC, lstC, dicC, dSt, isC, gPut, T3.putAt, putFD, dNewRef, dFrz, cellV, cellD, nLst, gLen4, gLen, gExpr, gAppend, oneOf, nDictOf, dMake, get_end, get_end1, get_end2, get_end3, set_end, nLc, wOk, isOwn, iSrc, srcOf, srcRef, nListOf, tgName, setIf, wipe3, List.lookup, seqOf, Function.comp_def, StepOk, gFor]) rfl
    obtain ⟨z, f1⟩ := lfin_loop a (stD b s n) (.lst (L.map .int)) (lead b em).1 s' y' (lead b em).2 (h ++ [qD em] ++ Y) h2 (lead b em).2 (lead b em).1 none rfl
    refine ⟨[qD em] ++ Y, s', ?_, by rw [← List.append_assoc]; exact h2, ?_⟩
    · simp only [den_l_processed, g_l_processed]
      simp [dBind, dPure, dStuck, dOpt, dVar, dC, dRes, res, dOp2, dTest, dTruth, truth, dAndT, dOrT, dNotT, dIf, isBl, dAndV, dOrV, dNotV, dUn, gE, gSeq, gNx, gIf, gRet, gSet, gRetN, gStuck, bodyD, dCall, clL, cl, dCons, dNil, dFun, dResL, resL, T3.cond, gGt, gLt, gLe, gGe, gCmp, gInt, ofS_beq, ofS_inj, q_str, nq_str, q_int, nq_int, q_str2, in3, T3.dTup, okLen, sizeLine, gAdd, gAddI, gMul, ix0t, ix1t, ix2t, ix3t, ix0l, ix1l, ix2l, ix3l, gFld, dFld, fldOf, insAt, lstAt, dicAt, cellAt, insC, lstC, dicC, dSt, isC, gPut, T3.putAt, putFD, dNewRef, dFrz, cellV, cellD, nLst, gLen4, gLen, gExpr, gAppend, oneOf, nDictOf, dMake, get_end, get_end1, get_end2, get_end3, set_end, nLc, wOk, isOwn, iSrc, srcOf, srcRef, nListOf, tgName, setIf, wipe3, List.lookup, seqOf, Function.comp_def, StepOk, gFor, hs]
      rw [lc_map (f := fun d => match d with | .lst [.bl fl, .int ln, u, k] => .lst [.bl (fl || L.any (· == ln)), .int ln, u, k] | d => d)]
      · have eq : List.map (fun d => match d with | .lst [.bl fl, .int ln, u, k] => D.lst [.bl (fl || L.any (· == ln)), .int ln, u, k] | d => d) (es.map Ent.d) = em.map Ent.d := by
          rw [hem, List.map_map, List.map_map]
          refine List.map_congr_left fun e _ => ?_
          simp [dBind, dPure, dStuck, dOpt, dVar, dC, dRes, res, dOp2, dTest, dTruth, truth, dAndT, dOrT, dNotT, dIf, isBl, dAndV, dOrV, dNotV, dUn, gE, gSeq, gNx, gIf, gRet, gSet, gRetN, gStuck, bodyD, dCall, clL, cl, dCons, dNil, dFun, dResL, resL, T3.cond, gGt, gLt, gLe, gGe, gCmp, gInt, ofS_beq, ofS_inj, q_str, nq_str, q_int, nq_int, q_str2, in3, T3.dTup, okLen, sizeLine, gAdd, gAddI, gMul, ix0t, ix1t, ix2t, ix3t, ix0l, ix1l, ix2l, ix3l, gFld, dFld, fldOf, insAt, lstAt, dicAt, cellAt, insC, lstC, dicC, dSt, isC, gPut, T3.putAt, putFD, dNewRef, dFrz, cellV, cellD, nLst, gLen4, gLen, gExpr, gAppend, oneOf, nDictOf, dMake, get_end, get_end1, get_end2, get_end3, set_end, nLc, wOk, isOwn, iSrc, srcOf, srcRef, nListOf, tgName, setIf, wipe3, List.lookup, seqOf, Function.comp_def, StepOk, gFor, Ent.d, mk]
        rw [List.nil_append, eq]
        simp [dBind, dPure, dStuck, dOpt, dVar, dC, dRes, res, dOp2, dTest, dTruth, truth, dAndT, dOrT, dNotT, dIf, isBl, dAndV, dOrV, dNotV, dUn, gE, gSeq, gNx, gIf, gRet, gSet, gRetN, gStuck, bodyD, dCall, clL, cl, dCons, dNil, dFun, dResL, resL, T3.cond, gGt, gLt, gLe, gGe, gCmp, gInt, ofS_beq, ofS_inj, q_str, nq_str, q_int, nq_int, q_str2, in3, T3.dTup, okLen, sizeLine, gAdd, gAddI, gMul, ix0t, ix1t, ix2t, ix3t, ix0l, ix1l, ix2l, ix3l, gFld, dFld, fldOf, insAt, lstAt, dicAt, cellAt, insC, lstC, dicC, dSt, isC, gPut, T3.putAt, putFD, dNewRef, dFrz, cellV, cellD, nLst, gLen4, gLen, gExpr, gAppend, oneOf, nDictOf, dMake, get_end, get_end1, get_end2, get_end3, set_end, nLc, wOk, isOwn, iSrc, srcOf, srcRef, nListOf, tgName, setIf, wipe3, List.lookup, seqOf, Function.comp_def, StepOk, gFor, kRng1, intOf, inR]
        rw [h1]
        have ea : h ++ [qD em] ++ Y = h ++ qD em :: Y := by simp [dBind, dPure, dStuck, dOpt, dVar, dC, dRes, res, dOp2, dTest, dTruth, truth, dAndT, dOrT, dNotT, dIf, isBl, dAndV, dOrV, dNotV, dUn, gE, gSeq, gNx, gIf, gRet, gSet, gRetN, gStuck, bodyD, dCall, clL, cl, dCons, dNil, dFun, dResL, resL, T3.cond, gGt, gLt, gLe, gGe, gCmp, gInt, ofS_beq, ofS_inj, q_str, nq_str, q_int, nq_int, q_str2, in3, T3.dTup, okLen, sizeLine, gAdd, gAddI, gMul, ix0t, ix1t, ix2t, ix3t, ix0l, ix1l, ix2l, ix3l, gFld, dFld, fldOf, insAt, lstAt, dicAt, cellAt, insC, lstC, dicC, dSt, isC, gPut, T3.putAt, putFD, dNewRef, dFrz, cellV, cellD, nLst, gLen4, gLen, gExpr, gAppend, oneOf, nDictOf, dMake, get_end, get_end1, get_end2, get_end3, set_end, nLc, wOk, isOwn, iSrc, srcOf, srcRef, nListOf, tgName, setIf, wipe3, List.lookup, seqOf, Function.comp_def, StepOk, gFor]
        rw [ea] at h2 f1
        simp [dBind, dPure, dStuck, dOpt, dVar, dC, dRes, res, dOp2, dTest, dTruth, truth, dAndT, dOrT, dNotT, dIf, isBl, dAndV, dOrV, dNotV, dUn, gE, gSeq, gNx, gIf, gRet, gSet, gRetN, gStuck, bodyD, dCall, clL, cl, dCons, dNil, dFun, dResL, resL, T3.cond, gGt, gLt, gLe, gGe, gCmp, gInt, ofS_beq, ofS_inj, q_str, nq_str, q_int, nq_int, q_str2, in3, T3.dTup, okLen, sizeLine, gAdd, gAddI, gMul, ix0t, ix1t, ix2t, ix3t, ix0l, ix1l, ix2l, ix3l, gFld, dFld, fldOf, insAt, lstAt, dicAt, cellAt, insC, lstC, dicC, dSt, isC, gPut, T3.putAt, putFD, dNewRef, dFrz, cellV, cellD, nLst, gLen4, gLen, gExpr, gAppend, oneOf, nDictOf, dMake, get_end, get_end1, get_end2, get_end3, set_end, nLc, wOk, isOwn, iSrc, srcOf, srcRef, nListOf, tgName, setIf, wipe3, List.lookup, seqOf, Function.comp_def, StepOk, gFor, h2]
        rw [f1]
        simp [dBind, dPure, dStuck, dOpt, dVar, dC, dRes, res, dOp2, dTest, dTruth, truth, dAndT, dOrT, dNotT, dIf, isBl, dAndV, dOrV, dNotV, dUn, gE, gSeq, gNx, gIf, gRet, gSet, gRetN, gStuck, bodyD, dCall, clL, cl, dCons, dNil, dFun, dResL, resL, T3.cond, gGt, gLt, gLe, gGe, gCmp, gInt, ofS_beq, ofS_inj, q_str, nq_str, q_int, nq_int, q_str2, in3, T3.dTup, okLen, sizeLine, gAdd, gAddI, gMul, ix0t, ix1t, ix2t, ix3t, ix0l, ix1l, ix2l, ix3l, gFld, dFld, fldOf, insAt, lstAt, dicAt, cellAt, insC, lstC, dicC, dSt, isC, gPut, T3.putAt, putFD, dNewRef, dFrz, cellV, cellD, nLst, gLen4, gLen, gExpr, gAppend, oneOf, nDictOf, dMake, get_end, get_end1, get_end2, get_end3, set_end, nLc, wOk, isOwn, iSrc, srcOf, srcRef, nListOf, tgName, setIf, wipe3, List.lookup, seqOf, Function.comp_def, StepOk, gFor]
      · exact goodL_of hs
      · simp [dBind, dPure, dStuck, dOpt, dVar, dC, dRes, res, dOp2, dTest, dTruth, truth, dAndT, dOrT, dNotT, dIf, isBl, dAndV, dOrV, dNotV, dUn, gE, gSeq, gNx, gIf, gRet, gSet, gRetN, gStuck, bodyD, dCall, clL, cl, dCons, dNil, dFun, dResL, resL, T3.cond, gGt, gLt, gLe, gGe, gCmp, gInt, ofS_beq, ofS_inj, q_str, nq_str, q_int, nq_int, q_str2, in3, T3.dTup, okLen, sizeLine, gAdd, gAddI, gMul, ix0t, ix1t, ix2t, ix3t, ix0l, ix1l, ix2l, ix3l, gFld, dFld, fldOf, insAt, lstAt, dicAt, cellAt, insC, lstC, dicC, dSt, isC, gPut, T3.putAt, putFD, dNewRef, dFrz, cellV, cellD, nLst, gLen4, gLen, gExpr, gAppend, oneOf, nDictOf, dMake, get_end, get_end1, get_end2, get_end3, set_end, nLc, wOk, isOwn, iSrc, srcOf, srcRef, nListOf, tgName, setIf, wipe3, List.lookup, seqOf, Function.comp_def, StepOk, gFor]; omega
      · intro x m
        obtain ⟨e, _, rfl⟩ := List.mem_map.mp m
        obtain ⟨ds, ed⟩ := e.u.dcl
        refine ⟨_, rfl, rfl, ?_, ?_⟩
        · have := inI e.ln L
          cases q : e.fl with
          | true => simp [dBind, dPure, dStuck, dOpt, dVar, dC, dRes, res, dOp2, dTest, dTruth, truth, dAndT, dOrT, dNotT, dIf, isBl, dAndV, dOrV, dNotV, dUn, gE, gSeq, gNx, gIf, gRet, gSet, gRetN, gStuck, bodyD, dCall, clL, cl, dCons, dNil, dFun, dResL, resL, T3.cond, gGt, gLt, gLe, gGe, gCmp, gInt, ofS_beq, ofS_inj, q_str, nq_str, q_int, nq_int, q_str2, in3, T3.dTup, okLen, sizeLine, gAdd, gAddI, gMul, ix0t, ix1t, ix2t, ix3t, ix0l, ix1l, ix2l, ix3l, gFld, dFld, fldOf, insAt, lstAt, dicAt, cellAt, insC, lstC, dicC, dSt, isC, gPut, T3.putAt, putFD, dNewRef, dFrz, cellV, cellD, nLst, gLen4, gLen, gExpr, gAppend, oneOf, nDictOf, dMake, get_end, get_end1, get_end2, get_end3, set_end, nLc, wOk, isOwn, iSrc, srcOf, srcRef, nListOf, tgName, setIf, wipe3, List.lookup, seqOf, Function.comp_def, StepOk, gFor, lb_l_processed_0, Ent.d, q, ed]
          | false => simp [dBind, dPure, dStuck, dOpt, dVar, dC, dRes, res, dOp2, dTest, dTruth, truth, dAndT, dOrT, dNotT, dIf, isBl, dAndV, dOrV, dNotV, dUn, gE, gSeq, gNx, gIf, gRet, gSet, gRetN, gStuck, bodyD, dCall, clL, cl, dCons, dNil, dFun, dResL, resL, T3.cond, gGt, gLt, gLe, gGe, gCmp, gInt, ofS_beq, ofS_inj, q_str, nq_str, q_int, nq_int, q_str2, in3, T3.dTup, okLen, sizeLine, gAdd, gAddI, gMul, ix0t, ix1t, ix2t, ix3t, ix0l, ix1l, ix2l, ix3l, gFld, dFld, fldOf, insAt, lstAt, dicAt, cellAt, insC, lstC, dicC, dSt, isC, gPut, T3.putAt, putFD, dNewRef, dFrz, cellV, cellD, nLst, gLen4, gLen, gExpr, gAppend, oneOf, nDictOf, dMake, get_end, get_end1, get_end2, get_end3, set_end, nLc, wOk, isOwn, iSrc, srcOf, srcRef, nListOf, tgName, setIf, wipe3, List.lookup, seqOf, Function.comp_def, StepOk, gFor, lb_l_processed_0, Ent.d, q, this, ed]
        · simp [dBind, dPure, dStuck, dOpt, dVar, dC, dRes, res, dOp2, dTest, dTruth, truth, dAndT, dOrT, dNotT, dIf, isBl, dAndV, dOrV, dNotV, dUn, gE, gSeq, gNx, gIf, gRet, gSet, gRetN, gStuck, bodyD, dCall, clL, cl, dCons, dNil, dFun, dResL, resL, T3.cond, gGt, gLt, gLe, gGe, gCmp, gInt, ofS_beq, ofS_inj, q_str, nq_str, q_int, nq_int, q_str2, in3, T3.dTup, okLen, sizeLine, gAdd, gAddI, gMul, ix0t, ix1t, ix2t, ix3t, ix0l, ix1l, ix2l, ix3l, gFld, dFld, fldOf, insAt, lstAt, dicAt, cellAt, insC, lstC, dicC, dSt, isC, gPut, T3.putAt, putFD, dNewRef, dFrz, cellV, cellD, nLst, gLen4, gLen, gExpr, gAppend, oneOf, nDictOf, dMake, get_end, get_end1, get_end2, get_end3, set_end, nLc, wOk, isOwn, iSrc, srcOf, srcRef, nListOf, tgName, setIf, wipe3, List.lookup, seqOf, Function.comp_def, StepOk, gFor, Ent.d]
    · rcases h3 with h3 | h3
      · omega
      · simp [dBind, dPure, dStuck, dOpt, dVar, dC, dRes, res, dOp2, dTest, dTruth, truth, dAndT, dOrT, dNotT, dIf, isBl, dAndV, dOrV, dNotV, dUn, gE, gSeq, gNx, gIf, gRet, gSet, gRetN, gStuck, bodyD, dCall, clL, cl, dCons, dNil, dFun, dResL, resL, T3.cond, gGt, gLt, gLe, gGe, gCmp, gInt, ofS_beq, ofS_inj, q_str, nq_str, q_int, nq_int, q_str2, in3, T3.dTup, okLen, sizeLine, gAdd, gAddI, gMul, ix0t, ix1t, ix2t, ix3t, ix0l, ix1l, ix2l, ix3l, gFld, dFld, fldOf, insAt, lstAt, dicAt, cellAt, insC, lstC, dicC, dSt, isC, gPut, T3.putAt, putFD, dNewRef, dFrz, cellV, cellD, nLst, gLen4, gLen, gExpr, gAppend, oneOf, nDictOf, dMake, get_end, get_end1, get_end2, get_end3, set_end, nLc, wOk, isOwn, iSrc, srcOf, srcRef, nListOf, tgName, setIf, wipe3, List.lookup, seqOf, Function.comp_def, StepOk, gFor] at h3; omega
  exact key _ rfl
end
end W

set_option Elab.async false
set_option linter.all false
set_option maxRecDepth 100000
set_option maxHeartbeats 1000000
namespace W
open PySem L2 T3
section
variable (a : Ad)
theorem rng_drop {lo : Int} {n i : Nat} {x : D} {xs : List D} (h : (rngD lo n).drop i = x :: xs) : i < n ∧ x = .int (lo + (i : Nat)) ∧ xs = (rngD lo n).drop (i + 1) := by
  have hl : (rngD lo n).length = n := by simp [dBind, dPure, dStuck, dOpt, dVar, dC, dRes, res, dOp2, dTest, dTruth, truth, dAndT, dOrT, dNotT, dIf, isBl, dAndV, dOrV, dNotV, dUn, gE, gSeq, gNx, gIf, gRet, gSet, gRetN, gStuck, bodyD, dCall, clL, cl, dCons, dNil, dFun, dResL, resL, T3.cond, gGt, gLt, gLe, gGe, gCmp, gInt, ofS_beq, ofS_inj, q_str, nq_str, q_int, nq_int, q_str2, in3, T3.dTup, okLen, sizeLine, gAdd, gAddI, gMul, ix0t, ix1t, ix2t, ix3t, ix0l, ix1l, ix2l, ix3l, gFld, dFld, fldOf, insAt, lstAt, dicAt, cellAt, insC, lstC, dicC, dSt, isC, gPut, T3.putAt, putFD, dNewRef, dFrz, cellV, cellD, nLst, gLen4, gLen, gExpr, gAppend, oneOf, nDictOf, dMake, get_end, get_end1, get_end2, get_end3, set_end, nLc, wOk, isOwn, iSrc, srcOf, srcRef, nListOf, tgName, setIf, wipe3, List.lookup, seqOf, Function.comp_def, StepOk, gFor, rngD]
  have hi : i < (rngD lo n).length := by
    rcases Nat.lt_or_ge i (rngD lo n).length with q | q
    · exact q
    · rw [List.drop_of_length_le q] at h; cases h
  rw [List.drop_eq_getElem_cons hi] at h
  injection h with h1 h2
  refine ⟨by omega, ?_, h2.symm⟩
  rw [← h1]; simp [dBind, dPure, dStuck, dOpt, dVar, dC, dRes, res, dOp2, dTest, dTruth, truth, dAndT, dOrT, dNotT, dIf, isBl, dAndV, dOrV, dNotV, dUn, gE, gSeq, gNx, gIf, gRet, gSet, gRetN, gStuck, bodyD, dCall, clL, cl, dCons, dNil, dFun, dResL, resL, T3.cond, gGt, gLt, gLe, gGe, gCmp, gInt, ofS_beq, ofS_inj, q_str, nq_str, q_int, nq_int, q_str2, in3, T3.dTup, okLen, sizeLine, gAdd, gAddI, gMul, ix0t, ix1t, ix2t, ix3t, ix0l, ix1l, ix2l, ix3l, gFld, dFld, fldOf, insAt, lstAt, dicAt, cellAt, insC, lstC, dicC, dSt, isC, gPut, T3.putAt, putFD, dNewRef, dFrz, cellV, cellD, nLst, gLen4, gLen, gExpr, gAppend, oneOf, nDictOf, dMake, get_end, get_end1, get_end2, get_end3, set_end, nLc, wOk, isOwn, iSrc, srcOf, srcRef, nListOf, tgName, setIf, wipe3, List.lookup, seqOf, Function.comp_def, StepOk, gFor, rngD]
theorem ne_intc (i : Int) : gEq4 true (.int i) (.int i) = some (.bl false) := by rw [nq_int]; simp [dBind, dPure, dStuck, dOpt, dVar, dC, dRes, res, dOp2, dTest, dTruth, truth, dAndT, dOrT, dNotT, dIf, isBl, dAndV, dOrV, dNotV, dUn, gE, gSeq, gNx, gIf, gRet, gSet, gRetN, gStuck, bodyD, dCall, clL, cl, dCons, dNil, dFun, dResL, resL, T3.cond, gGt, gLt, gLe, gGe, gCmp, gInt, ofS_beq, ofS_inj, q_str, nq_str, q_int, nq_int, q_str2, in3, T3.dTup, okLen, sizeLine, gAdd, gAddI, gMul, ix0t, ix1t, ix2t, ix3t, ix0l, ix1l, ix2l, ix3l, gFld, dFld, fldOf, insAt, lstAt, dicAt, cellAt, insC, lstC, dicC, dSt, isC, gPut, T3.putAt, putFD, dNewRef, dFrz, cellV, cellD, nLst, gLen4, gLen, gExpr, gAppend, oneOf, nDictOf, dMake, get_end, get_end1, get_end2, get_end3, set_end, nLc, wOk, isOwn, iSrc, srcOf, srcRef, nListOf, tgName, setIf, wipe3, List.lookup, seqOf, Function.comp_def, StepOk, gFor]
theorem ne_strc : gEq4 true (.str "c") (.str "c") = some (.bl false) := by rw [nq_str]; rfl
theorem present_ok {h : HD} {c q : Nat} {b n : Int} {es : List Ent} (C : CAt a h c b q n es) : den_Cell_present a [.ref c] h = .ok (.int n) h := by
  simp [dBind, dPure, dStuck, dOpt, dVar, dC, dRes, res, dOp2, dTest, dTruth, truth, dAndT, dOrT, dNotT, dIf, isBl, dAndV, dOrV, dNotV, dUn, gE, gSeq, gNx, gIf, gRet, gSet, gRetN, gStuck, bodyD, dCall, clL, cl, dCons, dNil, dFun, dResL, resL, T3.cond, gGt, gLt, gLe, gGe, gCmp, gInt, ofS_beq, ofS_inj, q_str, nq_str, q_int, nq_int, q_str2, in3, T3.dTup, okLen, sizeLine, gAdd, gAddI, gMul, ix0t, ix1t, ix2t, ix3t, ix0l, ix1l, ix2l, ix3l, gFld, dFld, fldOf, insAt, lstAt, dicAt, cellAt, insC, lstC, dicC, dSt, isC, gPut, T3.putAt, putFD, dNewRef, dFrz, cellV, cellD, nLst, gLen4, gLen, gExpr, gAppend, oneOf, nDictOf, dMake, get_end, get_end1, get_end2, get_end3, set_end, nLc, wOk, isOwn, iSrc, srcOf, srcRef, nListOf, tgName, setIf, wipe3, List.lookup, seqOf, Function.comp_def, StepOk, gFor, den_Cell_present, g_Cell_present, C.c, ofS_inj]
def pD (i : Int) (d : D) : Bool := match d with
  | .lst (.bl fl :: .int ln :: _) => !fl && ln == i
  | _ => false
theorem pD_ent (i : Int) (e : Ent) : pD i e.d = (!e.fl && e.ln == i) := rfl
theorem pD_len (i : Int) (es : List Ent) : decide (0 < (((es.map Ent.d).filter (pD i)).length : Int)) = waits es i := by
  rw [List.filter_map, List.length_map]
  unfold waits
  induction es with
  | nil => rfl
  | cons e es ih =>
    have q : (pD i ∘ Ent.d) e = (!e.fl && e.ln == i) := rfl
    rw [List.any_cons]
    cases w : (!e.fl && e.ln == i) with
    | true => rw [List.filter_cons_of_pos (by rw [q, w])]; simp [dBind, dPure, dStuck, dOpt, dVar, dC, dRes, res, dOp2, dTest, dTruth, truth, dAndT, dOrT, dNotT, dIf, isBl, dAndV, dOrV, dNotV, dUn, gE, gSeq, gNx, gIf, gRet, gSet, gRetN, gStuck, bodyD, dCall, clL, cl, dCons, dNil, dFun, dResL, resL, T3.cond, gGt, gLt, gLe, gGe, gCmp, gInt, ofS_beq, ofS_inj, q_str, nq_str, q_int, nq_int, q_str2, in3, T3.dTup, okLen, sizeLine, gAdd, gAddI, gMul, ix0t, ix1t, ix2t, ix3t, ix0l, ix1l, ix2l, ix3l, gFld, dFld, fldOf, insAt, lstAt, dicAt, cellAt, insC, lstC, dicC, dSt, isC, gPut, T3.putAt, putFD, dNewRef, dFrz, cellV, cellD, nLst, gLen4, gLen, gExpr, gAppend, oneOf, nDictOf, dMake, get_end, get_end1, get_end2, get_end3, set_end, nLc, wOk, isOwn, iSrc, srcOf, srcRef, nListOf, tgName, setIf, wipe3, List.lookup, seqOf, Function.comp_def, StepOk, gFor]
    | false => rw [List.filter_cons_of_neg (by rw [q, w]; simp [dBind, dPure, dStuck, dOpt, dVar, dC, dRes, res, dOp2, dTest, dTruth, truth, dAndT, dOrT, dNotT, dIf, isBl, dAndV, dOrV, dNotV, dUn, gE, gSeq, gNx, gIf, gRet, gSet, gRetN, gStuck, bodyD, dCall, clL, cl, dCons, dNil, dFun, dResL, resL, T3.cond, gGt, gLt, gLe, gGe, gCmp, gInt, ofS_beq, ofS_inj, q_str, nq_str, q_int, nq_int, q_str2, in3, T3.dTup, okLen, sizeLine, gAdd, gAddI, gMul, ix0t, ix1t, ix2t, ix3t, ix0l, ix1l, ix2l, ix3l, gFld, dFld, fldOf, insAt, lstAt, dicAt, cellAt, insC, lstC, dicC, dSt, isC, gPut, T3.putAt, putFD, dNewRef, dFrz, cellV, cellD, nLst, gLen4, gLen, gExpr, gAppend, oneOf, nDictOf, dMake, get_end, get_end1, get_end2, get_end3, set_end, nLc, wOk, isOwn, iSrc, srcOf, srcRef, nListOf, tgName, setIf, wipe3, List.lookup, seqOf, Function.comp_def, StepOk, gFor])]; rw [ih]; simp [dBind, dPure, dStuck, dOpt, dVar, dC, dRes, res, dOp2, dTest, dTruth, truth, dAndT, dOrT, dNotT, dIf, isBl, dAndV, dOrV, dNotV, dUn, gE, gSeq, gNx, gIf, gRet, gSet, gRetN, gStuck, bodyD, dCall, clL, cl, dCons, dNil, dFun, dResL, resL, T3.cond, gGt, gLt, gLe, gGe, gCmp, gInt, ofS_beq, ofS_inj, q_str, nq_str, q_int, nq_int, q_str2, in3, T3.dTup, okLen, sizeLine, gAdd, gAddI, gMul, ix0t, ix1t, ix2t, ix3t, ix0l, ix1l, ix2l, ix3l, gFld, dFld, fldOf, insAt, lstAt, dicAt, cellAt, insC, lstC, dicC, dSt, isC, gPut, T3.putAt, putFD, dNewRef, dFrz, cellV, cellD, nLst, gLen4, gLen, gExpr, gAppend, oneOf, nDictOf, dMake, get_end, get_end1, get_end2, get_end3, set_end, nLc, wOk, isOwn, iSrc, srcOf, srcRef, nListOf, tgName, setIf, wipe3, List.lookup, seqOf, Function.comp_def, StepOk, gFor]
theorem lane_ok {h : HD} {s : Nat} {b n : Int} {es : List Ent} (hs : h[s]? = some (qD es)) (hl : es.length ≤ 50) (x : D) (y z : Option T3.Slot) (i : Int) :
    lb_l_same_3 a [some (.val x), some (.val (stD b s n)), y, z, some (.val (.int i)), none] h = .ok (waits es i) h := by
  unfold lb_l_same_3
  simp [dBind, dPure, dStuck, dOpt, dVar, dC, dRes, res, dOp2, dTest, dTruth, truth, dAndT, dOrT, dNotT, dIf, isBl, dAndV, dOrV, dNotV, dUn, gE, gSeq, gNx, gIf, gRet, gSet, gRetN, gStuck, bodyD, dCall, clL, cl, dCons, dNil, dFun, dResL, resL, T3.cond, gGt, gLt, gLe, gGe, gCmp, gInt, ofS_beq, ofS_inj, q_str, nq_str, q_int, nq_int, q_str2, in3, T3.dTup, okLen, sizeLine, gAdd, gAddI, gMul, ix0t, ix1t, ix2t, ix3t, ix0l, ix1l, ix2l, ix3l, gFld, dFld, fldOf, insAt, lstAt, dicAt, cellAt, insC, lstC, dicC, dSt, isC, gPut, T3.putAt, putFD, dNewRef, dFrz, cellV, cellD, nLst, gLen4, gLen, gExpr, gAppend, oneOf, nDictOf, dMake, get_end, get_end1, get_end2, get_end3, set_end, nLc, wOk, isOwn, iSrc, srcOf, srcRef, nListOf, tgName, setIf, wipe3, List.lookup, seqOf, Function.comp_def, StepOk, gFor, hs]
  rw [lc_filter (p := pD i) (f := fun d => d)]
  · have := pD_len i es
    simp only [List.nil_append, List.map_id', gLen4, gLen, gInt] 
    simp [dBind, dPure, dStuck, dOpt, dVar, dC, dRes, res, dOp2, dTest, dTruth, truth, dAndT, dOrT, dNotT, dIf, isBl, dAndV, dOrV, dNotV, dUn, gE, gSeq, gNx, gIf, gRet, gSet, gRetN, gStuck, bodyD, dCall, clL, cl, dCons, dNil, dFun, dResL, resL, T3.cond, gGt, gLt, gLe, gGe, gCmp, gInt, ofS_beq, ofS_inj, q_str, nq_str, q_int, nq_int, q_str2, in3, T3.dTup, okLen, sizeLine, gAdd, gAddI, gMul, ix0t, ix1t, ix2t, ix3t, ix0l, ix1l, ix2l, ix3l, gFld, dFld, fldOf, insAt, lstAt, dicAt, cellAt, insC, lstC, dicC, dSt, isC, gPut, T3.putAt, putFD, dNewRef, dFrz, cellV, cellD, nLst, gLen4, gLen, gExpr, gAppend, oneOf, nDictOf, dMake, get_end, get_end1, get_end2, get_end3, set_end, nLc, wOk, isOwn, iSrc, srcOf, srcRef, nListOf, tgName, setIf, wipe3, List.lookup, seqOf, Function.comp_def, StepOk, gFor]
    exact this
  · exact goodL_of hs
  · simp [dBind, dPure, dStuck, dOpt, dVar, dC, dRes, res, dOp2, dTest, dTruth, truth, dAndT, dOrT, dNotT, dIf, isBl, dAndV, dOrV, dNotV, dUn, gE, gSeq, gNx, gIf, gRet, gSet, gRetN, gStuck, bodyD, dCall, clL, cl, dCons, dNil, dFun, dResL, resL, T3.cond, gGt, gLt, gLe, gGe, gCmp, gInt, ofS_beq, ofS_inj, q_str, nq_str, q_int, nq_int, q_str2, in3, T3.dTup, okLen, sizeLine, gAdd, gAddI, gMul, ix0t, ix1t, ix2t, ix3t, ix0l, ix1l, ix2l, ix3l, gFld, dFld, fldOf, insAt, lstAt, dicAt, cellAt, insC, lstC, dicC, dSt, isC, gPut, T3.putAt, putFD, dNewRef, dFrz, cellV, cellD, nLst, gLen4, gLen, gExpr, gAppend, oneOf, nDictOf, dMake, get_end, get_end1, get_end2, get_end3, set_end, nLc, wOk, isOwn, iSrc, srcOf, srcRef, nListOf, tgName, setIf, wipe3, List.lookup, seqOf, Function.comp_def, StepOk, gFor]; omega
  · intro d m
    obtain ⟨e, _, rfl⟩ := List.mem_map.mp m
    obtain ⟨ds, ed⟩ := e.u.dcl
    refine ⟨_, rfl, ?_, fun _ => ⟨rfl, rfl⟩⟩
    rw [pD_ent]
    cases q1 : e.fl <;> simp [dBind, dPure, dStuck, dOpt, dVar, dC, dRes, res, dOp2, dTest, dTruth, truth, dAndT, dOrT, dNotT, dIf, isBl, dAndV, dOrV, dNotV, dUn, gE, gSeq, gNx, gIf, gRet, gSet, gRetN, gStuck, bodyD, dCall, clL, cl, dCons, dNil, dFun, dResL, resL, T3.cond, gGt, gLt, gLe, gGe, gCmp, gInt, ofS_beq, ofS_inj, q_str, nq_str, q_int, nq_int, q_str2, in3, T3.dTup, okLen, sizeLine, gAdd, gAddI, gMul, ix0t, ix1t, ix2t, ix3t, ix0l, ix1l, ix2l, ix3l, gFld, dFld, fldOf, insAt, lstAt, dicAt, cellAt, insC, lstC, dicC, dSt, isC, gPut, T3.putAt, putFD, dNewRef, dFrz, cellV, cellD, nLst, gLen4, gLen, gExpr, gAppend, oneOf, nDictOf, dMake, get_end, get_end1, get_end2, get_end3, set_end, nLc, wOk, isOwn, iSrc, srcOf, srcRef, nListOf, tgName, setIf, wipe3, List.lookup, seqOf, Function.comp_def, StepOk, gFor, lb_l_same_1, Ent.d, q1, ed]
theorem bodyD_rt {n : Nat} {g : G} {ds : List D} {h h' : HD} {d : D} (σ : S3) (hσ : ds.map (fun d => some (T3.Slot.val d)) ++ List.replicate (n - ds.length) none = σ) (e : g σ h = .rt d h') : bodyD n g ds h = .ok d h' := by
  unfold T3.bodyD; rw [hσ, e]
theorem gSeq_nx {g g' : G} {σ σ' : S3} {h h' : HD} (e : g σ h = .nx σ' h') : gSeq g g' σ h = g' σ' h' := by
  unfold T3.gSeq; rw [e]
theorem gSeq_rt {g g' : G} {σ : S3} {h h' : HD} {d : D} (e : g σ h = .rt d h') : gSeq g g' σ h = .rt d h' := by
  unfold T3.gSeq; rw [e]
theorem or_ff {f g : F Bool} {σ : S3} {h : HD} (e : f σ h = .ok false h) (e2 : g σ h = .ok false h) : dOrT f g σ h = .ok false h := by
  unfold T3.dOrT T3.dBind; simp [dBind, dPure, dStuck, dOpt, dVar, dC, dRes, res, dOp2, dTest, dTruth, truth, dAndT, dOrT, dNotT, dIf, isBl, dAndV, dOrV, dNotV, dUn, gE, gSeq, gNx, gIf, gRet, gSet, gRetN, gStuck, bodyD, dCall, clL, cl, dCons, dNil, dFun, dResL, resL, T3.cond, gGt, gLt, gLe, gGe, gCmp, gInt, ofS_beq, ofS_inj, q_str, nq_str, q_int, nq_int, q_str2, in3, T3.dTup, okLen, sizeLine, gAdd, gAddI, gMul, ix0t, ix1t, ix2t, ix3t, ix0l, ix1l, ix2l, ix3l, gFld, dFld, fldOf, insAt, lstAt, dicAt, cellAt, insC, lstC, dicC, dSt, isC, gPut, T3.putAt, putFD, dNewRef, dFrz, cellV, cellD, nLst, gLen4, gLen, gExpr, gAppend, oneOf, nDictOf, dMake, get_end, get_end1, get_end2, get_end3, set_end, nLc, wOk, isOwn, iSrc, srcOf, srcRef, nListOf, tgName, setIf, wipe3, List.lookup, seqOf, Function.comp_def, StepOk, gFor, e, e2]
theorem rngK (p : Int → Bool) (j : Int) (hp : p j = true) (σ : S3) (h : HD) : (T3.dBind (T3.dOpt (some j)) fun j => T3.dBind (T3.dOpt (if p j then some () else none)) fun _ => T3.dPure (⟨rngD 0 j.toNat, always⟩ : Wk)) σ h = .ok ⟨rngD 0 j.toNat, always⟩ h := by
  simp only [T3.dBind, T3.dOpt, T3.dPure, hp, if_true]
theorem for_rng {t : F (List D)} {tg : Tg} {b : G} {σ : S3} {h : HD} {n : Nat} (e : t σ h = .ok [.int (n : Nat)] h) (ir : inR (n : Int) = true) : gFor (dBind t kRng1) tg b σ h = forF always tg b (rngD 0 n) σ h := by
  have k : kRng1 [.int (n : Nat)] σ h = .ok ⟨rngD 0 ((n : Nat) : Int).toNat, always⟩ h := rngK inR (n : Int) ir σ h
  rw [Int.toNat_natCast] at k
  unfold T3.gFor T3.gE T3.dBind
  simp only [e, k]
theorem if_nx {t : F Bool} {g : G} {σ : S3} {h : HD} (e : t σ h = .ok false h) : gIf t g gNx σ h = .nx σ h := by
  unfold T3.gIf T3.gE T3.gNx; simp [dBind, dPure, dStuck, dOpt, dVar, dC, dRes, res, dOp2, dTest, dTruth, truth, dAndT, dOrT, dNotT, dIf, isBl, dAndV, dOrV, dNotV, dUn, gE, gSeq, gNx, gIf, gRet, gSet, gRetN, gStuck, bodyD, dCall, clL, cl, dCons, dNil, dFun, dResL, resL, T3.cond, gGt, gLt, gLe, gGe, gCmp, gInt, ofS_beq, ofS_inj, q_str, nq_str, q_int, nq_int, q_str2, in3, T3.dTup, okLen, sizeLine, gAdd, gAddI, gMul, ix0t, ix1t, ix2t, ix3t, ix0l, ix1l, ix2l, ix3l, gFld, dFld, fldOf, insAt, lstAt, dicAt, cellAt, insC, lstC, dicC, dSt, isC, gPut, T3.putAt, putFD, dNewRef, dFrz, cellV, cellD, nLst, gLen4, gLen, gExpr, gAppend, oneOf, nDictOf, dMake, get_end, get_end1, get_end2, get_end3, set_end, nLc, wOk, isOwn, iSrc, srcOf, srcRef, nListOf, tgName, setIf, wipe3, List.lookup, seqOf, Function.comp_def, StepOk, gFor, e]
theorem if_ff {t : F Bool} {g g' : G} {σ : S3} {h : HD} (e : t σ h = .ok false h) : gIf t g g' σ h = g' σ h := by
  unfold T3.gIf T3.gE; simp [dBind, dPure, dStuck, dOpt, dVar, dC, dRes, res, dOp2, dTest, dTruth, truth, dAndT, dOrT, dNotT, dIf, isBl, dAndV, dOrV, dNotV, dUn, gE, gSeq, gNx, gIf, gRet, gSet, gRetN, gStuck, bodyD, dCall, clL, cl, dCons, dNil, dFun, dResL, resL, T3.cond, gGt, gLt, gLe, gGe, gCmp, gInt, ofS_beq, ofS_inj, q_str, nq_str, q_int, nq_int, q_str2, in3, T3.dTup, okLen, sizeLine, gAdd, gAddI, gMul, ix0t, ix1t, ix2t, ix3t, ix0l, ix1l, ix2l, ix3l, gFld, dFld, fldOf, insAt, lstAt, dicAt, cellAt, insC, lstC, dicC, dSt, isC, gPut, T3.putAt, putFD, dNewRef, dFrz, cellV, cellD, nLst, gLen4, gLen, gExpr, gAppend, oneOf, nDictOf, dMake, get_end, get_end1, get_end2, get_end3, set_end, nLc, wOk, isOwn, iSrc, srcOf, srcRef, nListOf, tgName, setIf, wipe3, List.lookup, seqOf, Function.comp_def, StepOk, gFor, e]
theorem lsame_ok {h : HD} {c q s : Nat} {b n : Int} {es : List Ent} (C : CAt a h c b q n es) (hs : h[s]? = some (qD es)) (hl : es.length ≤ 50) : den_l_same a [.ref c, stD b s n] h = .ok (.bl true) h := by
  have key := forF_inv (good := always) (tg := tgName 2) (body := lb_l_same_0 a) (Post := fun r => ∃ y, r = .nx [some (.val (.ref c)), some (.val (stD b s n)), y, none, none, none] h)
    (Inv := fun rem σ h' => h' = h ∧ (∃ y, σ = [some (.val (.ref c)), some (.val (stD b s n)), y, none, none, none] ∧ isOwn σ 2 = false) ∧ ∃ i, rem = (rngD 0 es.length).drop i) ?_ ?_ (rngD 0 es.length) [some (.val (.ref c)), some (.val (stD b s n)), none, none, none, none] h ⟨rfl, ⟨none, rfl, rfl⟩, 0, rfl⟩
  rotate_left
  · rintro x xs σ h' ⟨rfl, ⟨y, rfl, yo⟩, i, ex⟩
    obtain ⟨hi, rfl, rfl⟩ := rng_drop ex.symm
    refine ⟨rfl, [some (.val (.ref c)), some (.val (stD b s n)), some (.val (.int (0 + (i : Nat)))), none, none, none], by simp only [tgName, setIf, yo]; rfl, ?_⟩
    have e1 : gIx4 (.lst (es.map Ent.d)) (.int (i : Nat)) = some (es[i]).d := ix_lst _ i _ (by simp [dBind, dPure, dStuck, dOpt, dVar, dC, dRes, res, dOp2, dTest, dTruth, truth, dAndT, dOrT, dNotT, dIf, isBl, dAndV, dOrV, dNotV, dUn, gE, gSeq, gNx, gIf, gRet, gSet, gRetN, gStuck, bodyD, dCall, clL, cl, dCons, dNil, dFun, dResL, resL, T3.cond, gGt, gLt, gLe, gGe, gCmp, gInt, ofS_beq, ofS_inj, q_str, nq_str, q_int, nq_int, q_str2, in3, T3.dTup, okLen, sizeLine, gAdd, gAddI, gMul, ix0t, ix1t, ix2t, ix3t, ix0l, ix1l, ix2l, ix3l, gFld, dFld, fldOf, insAt, lstAt, dicAt, cellAt, insC, lstC, dicC, dSt, isC, gPut, T3.putAt, putFD, dNewRef, dFrz, cellV, cellD, nLst, gLen4, gLen, gExpr, gAppend, oneOf, nDictOf, dMake, get_end, get_end1, get_end2, get_end3, set_end, nLc, wOk, isOwn, iSrc, srcOf, srcRef, nListOf, tgName, setIf, wipe3, List.lookup, seqOf, Function.comp_def, StepOk, gFor, hi])
    have e2 := ne_ent es[i]
    obtain ⟨ds, ed⟩ := es[i].u.dcl
    rw [show (es[i]).d = .lst [.bl es[i].fl, .int es[i].ln, .tup ds, .dic (env1 es[i].k)] from by unfold Ent.d; rw [ed]] at e1 e2
    simp [dBind, dPure, dStuck, dOpt, dVar, dC, dRes, res, dOp2, dTest, dTruth, truth, dAndT, dOrT, dNotT, dIf, isBl, dAndV, dOrV, dNotV, dUn, gE, gSeq, gNx, gIf, gRet, gSet, gRetN, gStuck, bodyD, dCall, clL, cl, dCons, dNil, dFun, dResL, resL, T3.cond, gGt, gLt, gLe, gGe, gCmp, gInt, ofS_beq, ofS_inj, q_str, nq_str, q_int, nq_int, q_str2, in3, T3.dTup, okLen, sizeLine, gAdd, gAddI, gMul, ix0t, ix1t, ix2t, ix3t, ix0l, ix1l, ix2l, ix3l, gFld, dFld, fldOf, insAt, lstAt, dicAt, cellAt, insC, lstC, dicC, dSt, isC, gPut, T3.putAt, putFD, dNewRef, dFrz, cellV, cellD, nLst, gLen4, gLen, gExpr, gAppend, oneOf, nDictOf, dMake, get_end, get_end1, get_end2, get_end3, set_end, nLc, wOk, isOwn, iSrc, srcOf, srcRef, nListOf, tgName, setIf, wipe3, List.lookup, seqOf, Function.comp_def, StepOk, gFor, lb_l_same_0, C.c, C.q, hs, ofS_inj, e1, e2]
    exact ⟨i + 1, rfl⟩
  · rintro σ h' ⟨rfl, ⟨y, rfl, yo⟩, i, ex⟩
    exact ⟨rfl, y, rfl⟩
  obtain ⟨y, key⟩ := key
  have ir : inR (es.length : Int) = true := by simp [dBind, dPure, dStuck, dOpt, dVar, dC, dRes, res, dOp2, dTest, dTruth, truth, dAndT, dOrT, dNotT, dIf, isBl, dAndV, dOrV, dNotV, dUn, gE, gSeq, gNx, gIf, gRet, gSet, gRetN, gStuck, bodyD, dCall, clL, cl, dCons, dNil, dFun, dResL, resL, T3.cond, gGt, gLt, gLe, gGe, gCmp, gInt, ofS_beq, ofS_inj, q_str, nq_str, q_int, nq_int, q_str2, in3, T3.dTup, okLen, sizeLine, gAdd, gAddI, gMul, ix0t, ix1t, ix2t, ix3t, ix0l, ix1l, ix2l, ix3l, gFld, dFld, fldOf, insAt, lstAt, dicAt, cellAt, insC, lstC, dicC, dSt, isC, gPut, T3.putAt, putFD, dNewRef, dFrz, cellV, cellD, nLst, gLen4, gLen, gExpr, gAppend, oneOf, nDictOf, dMake, get_end, get_end1, get_end2, get_end3, set_end, nLc, wOk, isOwn, iSrc, srcOf, srcRef, nListOf, tgName, setIf, wipe3, List.lookup, seqOf, Function.comp_def, StepOk, gFor, inR]; omega
  have ir4 : inR 4 = true := by decide
  have lanesE : (rngD 0 4).filter (fun d => waits es (intD d)) = (([0, 1, 2, 3] : List Int).filter (fun i => waits es i)).map .int := by
    rw [rng4, show ([.int 0, .int 1, .int 2, .int 3] : List D) = ([0, 1, 2, 3] : List Int).map .int from rfl, List.filter_map]
    rfl
  unfold den_l_same g_l_same
  refine bodyD_rt [some (.val (.ref c)), some (.val (stD b s n)), none, none, none, none] rfl ?_
  have t1 : dTest (dOp2 (gEq4 true) (dFld a.c_Cell "name" (dVar 0)) (dC (.str "c"))) [some (.val (.ref c)), some (.val (stD b s n)), none, none, none, none] h = .ok false h := by
    simp [dBind, dPure, dStuck, dOpt, dVar, dC, dRes, res, dOp2, dTest, dTruth, truth, dAndT, dOrT, dNotT, dIf, isBl, dAndV, dOrV, dNotV, dUn, gE, gSeq, gNx, gIf, gRet, gSet, gRetN, gStuck, bodyD, dCall, clL, cl, dCons, dNil, dFun, dResL, resL, T3.cond, gGt, gLt, gLe, gGe, gCmp, gInt, ofS_beq, ofS_inj, q_str, nq_str, q_int, nq_int, q_str2, in3, T3.dTup, okLen, sizeLine, gAdd, gAddI, gMul, ix0t, ix1t, ix2t, ix3t, ix0l, ix1l, ix2l, ix3l, gFld, dFld, fldOf, insAt, lstAt, dicAt, cellAt, insC, lstC, dicC, dSt, isC, gPut, T3.putAt, putFD, dNewRef, dFrz, cellV, cellD, nLst, gLen4, gLen, gExpr, gAppend, oneOf, nDictOf, dMake, get_end, get_end1, get_end2, get_end3, set_end, nLc, wOk, isOwn, iSrc, srcOf, srcRef, nListOf, tgName, setIf, wipe3, List.lookup, seqOf, Function.comp_def, StepOk, gFor, C.c, ofS_inj, ne_strc]
  have t2 : dTest (dOp2 (gEq4 true) (dFld a.c_Cell "base" (dVar 0)) (dOp2 gIx4 (dVar 1) (dC (.int 0)))) [some (.val (.ref c)), some (.val (stD b s n)), none, none, none, none] h = .ok false h := by
    simp [dBind, dPure, dStuck, dOpt, dVar, dC, dRes, res, dOp2, dTest, dTruth, truth, dAndT, dOrT, dNotT, dIf, isBl, dAndV, dOrV, dNotV, dUn, gE, gSeq, gNx, gIf, gRet, gSet, gRetN, gStuck, bodyD, dCall, clL, cl, dCons, dNil, dFun, dResL, resL, T3.cond, gGt, gLt, gLe, gGe, gCmp, gInt, ofS_beq, ofS_inj, q_str, nq_str, q_int, nq_int, q_str2, in3, T3.dTup, okLen, sizeLine, gAdd, gAddI, gMul, ix0t, ix1t, ix2t, ix3t, ix0l, ix1l, ix2l, ix3l, gFld, dFld, fldOf, insAt, lstAt, dicAt, cellAt, insC, lstC, dicC, dSt, isC, gPut, T3.putAt, putFD, dNewRef, dFrz, cellV, cellD, nLst, gLen4, gLen, gExpr, gAppend, oneOf, nDictOf, dMake, get_end, get_end1, get_end2, get_end3, set_end, nLc, wOk, isOwn, iSrc, srcOf, srcRef, nListOf, tgName, setIf, wipe3, List.lookup, seqOf, Function.comp_def, StepOk, gFor, C.c, ofS_inj, ne_intc]
  have t3 : dTest (dOp2 (gEq4 true) (dProp a.c_Cell (den_Cell_present a) (dVar 0)) (dOp2 gIx4 (dVar 1) (dC (.int 2)))) [some (.val (.ref c)), some (.val (stD b s n)), none, none, none, none] h = .ok false h := by
    simp [dBind, dPure, dStuck, dOpt, dVar, dC, dRes, res, dOp2, dTest, dTruth, truth, dAndT, dOrT, dNotT, dIf, isBl, dAndV, dOrV, dNotV, dUn, gE, gSeq, gNx, gIf, gRet, gSet, gRetN, gStuck, bodyD, dCall, clL, cl, dCons, dNil, dFun, dResL, resL, T3.cond, gGt, gLt, gLe, gGe, gCmp, gInt, ofS_beq, ofS_inj, q_str, nq_str, q_int, nq_int, q_str2, in3, T3.dTup, okLen, sizeLine, gAdd, gAddI, gMul, ix0t, ix1t, ix2t, ix3t, ix0l, ix1l, ix2l, ix3l, gFld, dFld, fldOf, insAt, lstAt, dicAt, cellAt, insC, lstC, dicC, dSt, isC, gPut, T3.putAt, putFD, dNewRef, dFrz, cellV, cellD, nLst, gLen4, gLen, gExpr, gAppend, oneOf, nDictOf, dMake, get_end, get_end1, get_end2, get_end3, set_end, nLc, wOk, isOwn, iSrc, srcOf, srcRef, nListOf, tgName, setIf, wipe3, List.lookup, seqOf, Function.comp_def, StepOk, gFor, C.c, ofS_inj, ne_intc, dProp, present_ok a C]
  have t4 : dTest (dOp2 (gEq4 true) (dFun gLen4 (dCons (dFld a.c_Cell "queue" (dVar 0)) dNil)) (dFun gLen4 (dCons (dOp2 gIx4 (dVar 1) (dC (.int 1))) dNil))) [some (.val (.ref c)), some (.val (stD b s n)), none, none, none, none] h = .ok false h := by
    simp [dBind, dPure, dStuck, dOpt, dVar, dC, dRes, res, dOp2, dTest, dTruth, truth, dAndT, dOrT, dNotT, dIf, isBl, dAndV, dOrV, dNotV, dUn, gE, gSeq, gNx, gIf, gRet, gSet, gRetN, gStuck, bodyD, dCall, clL, cl, dCons, dNil, dFun, dResL, resL, T3.cond, gGt, gLt, gLe, gGe, gCmp, gInt, ofS_beq, ofS_inj, q_str, nq_str, q_int, nq_int, q_str2, in3, T3.dTup, okLen, sizeLine, gAdd, gAddI, gMul, ix0t, ix1t, ix2t, ix3t, ix0l, ix1l, ix2l, ix3l, gFld, dFld, fldOf, insAt, lstAt, dicAt, cellAt, insC, lstC, dicC, dSt, isC, gPut, T3.putAt, putFD, dNewRef, dFrz, cellV, cellD, nLst, gLen4, gLen, gExpr, gAppend, oneOf, nDictOf, dMake, get_end, get_end1, get_end2, get_end3, set_end, nLc, wOk, isOwn, iSrc, srcOf, srcRef, nListOf, tgName, setIf, wipe3, List.lookup, seqOf, Function.comp_def, StepOk, gFor, C.c, C.q, hs, ofS_inj, ne_intc]
  refine (gSeq_nx (if_nx (or_ff t1 (or_ff t2 (or_ff t3 t4))))).trans ?_
  have f0 : dCons (dFun gLen4 (dCons (dOp2 gIx4 (dVar 1) (dC (.int 1))) dNil)) dNil [some (.val (.ref c)), some (.val (stD b s n)), none, none, none, none] h = .ok [.int (es.length : Nat)] h := by
    simp [dBind, dPure, dStuck, dOpt, dVar, dC, dRes, res, dOp2, dTest, dTruth, truth, dAndT, dOrT, dNotT, dIf, isBl, dAndV, dOrV, dNotV, dUn, gE, gSeq, gNx, gIf, gRet, gSet, gRetN, gStuck, bodyD, dCall, clL, cl, dCons, dNil, dFun, dResL, resL, T3.cond, gGt, gLt, gLe, gGe, gCmp, gInt, ofS_beq, ofS_inj, q_str, nq_str, q_int, nq_int, q_str2, in3, T3.dTup, okLen, sizeLine, gAdd, gAddI, gMul, ix0t, ix1t, ix2t, ix3t, ix0l, ix1l, ix2l, ix3l, gFld, dFld, fldOf, insAt, lstAt, dicAt, cellAt, insC, lstC, dicC, dSt, isC, gPut, T3.putAt, putFD, dNewRef, dFrz, cellV, cellD, nLst, gLen4, gLen, gExpr, gAppend, oneOf, nDictOf, dMake, get_end, get_end1, get_end2, get_end3, set_end, nLc, wOk, isOwn, iSrc, srcOf, srcRef, nListOf, tgName, setIf, wipe3, List.lookup, seqOf, Function.comp_def, StepOk, gFor, hs]
  have f1 := (for_rng (tg := tgName 2) (b := lb_l_same_0 a) f0 ir).trans key
  refine (gSeq_nx f1).trans ?_
  have c1 : lcF always (tgName 4) (lb_l_same_3 a) (lb_l_same_4 a) (rngD 0 4) [] [some (.val (.ref c)), some (.val (stD b s n)), y, none, none, none] h = .ok (.lst ((([0, 1, 2, 3] : List Int).filter (fun i => waits es i)).map .int)) h := by
    rw [lc_filter (p := fun d => waits es (intD d)) (f := fun d => d)]
    · rw [List.nil_append, List.map_id', lanesE]
    · rfl
    · simp [dBind, dPure, dStuck, dOpt, dVar, dC, dRes, res, dOp2, dTest, dTruth, truth, dAndT, dOrT, dNotT, dIf, isBl, dAndV, dOrV, dNotV, dUn, gE, gSeq, gNx, gIf, gRet, gSet, gRetN, gStuck, bodyD, dCall, clL, cl, dCons, dNil, dFun, dResL, resL, T3.cond, gGt, gLt, gLe, gGe, gCmp, gInt, ofS_beq, ofS_inj, q_str, nq_str, q_int, nq_int, q_str2, in3, T3.dTup, okLen, sizeLine, gAdd, gAddI, gMul, ix0t, ix1t, ix2t, ix3t, ix0l, ix1l, ix2l, ix3l, gFld, dFld, fldOf, insAt, lstAt, dicAt, cellAt, insC, lstC, dicC, dSt, isC, gPut, T3.putAt, putFD, dNewRef, dFrz, cellV, cellD, nLst, gLen4, gLen, gExpr, gAppend, oneOf, nDictOf, dMake, get_end, get_end1, get_end2, get_end3, set_end, nLc, wOk, isOwn, iSrc, srcOf, srcRef, nListOf, tgName, setIf, wipe3, List.lookup, seqOf, Function.comp_def, StepOk, gFor, rngD]
    · intro x m
      rw [rng4] at m
      have hx : ∃ i : Int, x = .int i := by
        simp only [List.mem_cons, List.not_mem_nil, or_false] at m
        rcases m with rfl | rfl | rfl | rfl <;> exact ⟨_, rfl⟩
      obtain ⟨i, rfl⟩ := hx
      exact ⟨[some (.val (.ref c)), some (.val (stD b s n)), y, none, some (.val (.int i)), none], rfl, lane_ok a hs hl _ _ _ i, fun _ => ⟨rfl, rfl⟩⟩
  have s1 : gSet 3 (dFrz (nLc (dBind (dCons (dC (.int 4)) dNil) kRng1) (tgName 4) (lb_l_same_3 a) (lb_l_same_4 a) [4])) [some (.val (.ref c)), some (.val (stD b s n)), y, none, none, none] h =
      .nx [some (.val (.ref c)), some (.val (stD b s n)), y, some (.val (.lst ((([0, 1, 2, 3] : List Int).filter (fun i => waits es i)).map .int))), none, none] h := by
    simp only [T3.gSet, T3.gE, T3.dFrz, T3.dBind, T3.nLc, T3.dCons, T3.dC, T3.dNil, T3.dPure, T3.dOpt, kRng1, intOf, ir4, if_true, T3.wOk, List.all_cons, List.all_nil, T3.isOwn, List.getElem?_cons_succ, List.getElem?_cons_zero, Bool.not_false, Bool.and_true, T3.wipe3, List.set_cons_succ, List.set_cons_zero]
    rw [show (Int.toNat 4) = 4 from rfl]
    rw [c1]
    rfl
  refine (gSeq_nx s1).trans ?_
  have eqs := eq_ints (([0, 1, 2, 3] : List Int).filter (fun i => waits es i))
  simp [dBind, dPure, dStuck, dOpt, dVar, dC, dRes, res, dOp2, dTest, dTruth, truth, dAndT, dOrT, dNotT, dIf, isBl, dAndV, dOrV, dNotV, dUn, gE, gSeq, gNx, gIf, gRet, gSet, gRetN, gStuck, bodyD, dCall, clL, cl, dCons, dNil, dFun, dResL, resL, T3.cond, gGt, gLt, gLe, gGe, gCmp, gInt, ofS_beq, ofS_inj, q_str, nq_str, q_int, nq_int, q_str2, in3, T3.dTup, okLen, sizeLine, gAdd, gAddI, gMul, ix0t, ix1t, ix2t, ix3t, ix0l, ix1l, ix2l, ix3l, gFld, dFld, fldOf, insAt, lstAt, dicAt, cellAt, insC, lstC, dicC, dSt, isC, gPut, T3.putAt, putFD, dNewRef, dFrz, cellV, cellD, nLst, gLen4, gLen, gExpr, gAppend, oneOf, nDictOf, dMake, get_end, get_end1, get_end2, get_end3, set_end, nLc, wOk, isOwn, iSrc, srcOf, srcRef, nListOf, tgName, setIf, wipe3, List.lookup, seqOf, Function.comp_def, StepOk, gFor, dProp, C.c, lanes_ok a C, lanesE, eqs]
end
end W

set_option Elab.async false
set_option linter.all false
set_option maxRecDepth 100000
set_option maxHeartbeats 1000000
namespace W
open PySem L2 T3
section
variable (a : Ad)
theorem update_ok (row : Int) (h : HD) : ∃ u : Up, u.good ∧ den_l_update a [.int row] h = .ok u.d h := by
  have m1 := Int.emod_nonneg (row / 3) (b := 9) (by decide)
  have m2 := Int.emod_lt_of_pos (row / 3) (b := 9) (by decide)
  by_cases c0 : row % 3 = 0
  · refine ⟨.num (row / 3 % 9), ⟨m1, by omega⟩, ?_⟩
    simp [dBind, dPure, dStuck, dOpt, dVar, dC, dRes, res, dOp2, dTest, dTruth, truth, dAndT, dOrT, dNotT, dIf, isBl, dAndV, dOrV, dNotV, dUn, gE, gSeq, gNx, gIf, gRet, gSet, gRetN, gStuck, bodyD, dCall, clL, cl, dCons, dNil, dFun, dResL, resL, T3.cond, gGt, gLt, gLe, gGe, gCmp, gInt, ofS_beq, ofS_inj, q_str, nq_str, q_int, nq_int, q_str2, in3, T3.dTup, okLen, sizeLine, gAdd, gAddI, gMul, ix0t, ix1t, ix2t, ix3t, ix0l, ix1l, ix2l, ix3l, gFld, dFld, fldOf, insAt, lstAt, dicAt, cellAt, insC, lstC, dicC, dSt, isC, gPut, T3.putAt, putFD, dNewRef, dFrz, cellV, cellD, nLst, gLen4, gLen, gExpr, gAppend, oneOf, nDictOf, dMake, get_end, get_end1, get_end2, get_end3, set_end, nLc, wOk, isOwn, iSrc, srcOf, srcRef, nListOf, tgName, setIf, wipe3, List.lookup, seqOf, Function.comp_def, StepOk, gFor, gInt1, gMod, gDiv, T3.gSub, den_l_update, g_l_update, c0, Up.d]
  · by_cases c1 : row % 3 = 1
    · refine ⟨.plus, trivial, ?_⟩
      simp [dBind, dPure, dStuck, dOpt, dVar, dC, dRes, res, dOp2, dTest, dTruth, truth, dAndT, dOrT, dNotT, dIf, isBl, dAndV, dOrV, dNotV, dUn, gE, gSeq, gNx, gIf, gRet, gSet, gRetN, gStuck, bodyD, dCall, clL, cl, dCons, dNil, dFun, dResL, resL, T3.cond, gGt, gLt, gLe, gGe, gCmp, gInt, ofS_beq, ofS_inj, q_str, nq_str, q_int, nq_int, q_str2, in3, T3.dTup, okLen, sizeLine, gAdd, gAddI, gMul, ix0t, ix1t, ix2t, ix3t, ix0l, ix1l, ix2l, ix3l, gFld, dFld, fldOf, insAt, lstAt, dicAt, cellAt, insC, lstC, dicC, dSt, isC, gPut, T3.putAt, putFD, dNewRef, dFrz, cellV, cellD, nLst, gLen4, gLen, gExpr, gAppend, oneOf, nDictOf, dMake, get_end, get_end1, get_end2, get_end3, set_end, nLc, wOk, isOwn, iSrc, srcOf, srcRef, nListOf, tgName, setIf, wipe3, List.lookup, seqOf, Function.comp_def, StepOk, gFor, gInt1, gMod, gDiv, T3.gSub, den_l_update, g_l_update, c1, Up.d]
    · refine ⟨.twice (row / 3 % 9), ⟨m1, by omega⟩, ?_⟩
      simp [dBind, dPure, dStuck, dOpt, dVar, dC, dRes, res, dOp2, dTest, dTruth, truth, dAndT, dOrT, dNotT, dIf, isBl, dAndV, dOrV, dNotV, dUn, gE, gSeq, gNx, gIf, gRet, gSet, gRetN, gStuck, bodyD, dCall, clL, cl, dCons, dNil, dFun, dResL, resL, T3.cond, gGt, gLt, gLe, gGe, gCmp, gInt, ofS_beq, ofS_inj, q_str, nq_str, q_int, nq_int, q_str2, in3, T3.dTup, okLen, sizeLine, gAdd, gAddI, gMul, ix0t, ix1t, ix2t, ix3t, ix0l, ix1l, ix2l, ix3l, gFld, dFld, fldOf, insAt, lstAt, dicAt, cellAt, insC, lstC, dicC, dSt, isC, gPut, T3.putAt, putFD, dNewRef, dFrz, cellV, cellD, nLst, gLen4, gLen, gExpr, gAppend, oneOf, nDictOf, dMake, get_end, get_end1, get_end2, get_end3, set_end, nLc, wOk, isOwn, iSrc, srcOf, srcRef, nListOf, tgName, setIf, wipe3, List.lookup, seqOf, Function.comp_def, StepOk, gFor, gInt1, gMod, gDiv, T3.gSub, den_l_update, g_l_update, c0, c1, Up.d]
abbrev σR (ns acc : List Int) (k v : Int) : S3 := [some (.val (.scr ns)), some (.val (.int 60)), some (.own (.lst (acc.map .int))), some (.val (.int k)), some (.val (.int v))]
theorem rows_body (ns acc : List Int) (k : Int) (hk0 : 0 ≤ k) (hk : k < 60) (ha : acc.length < 60) (y : Option T3.Slot) (hy : True) (h : HD) :
    ∃ v : Int, lb_l_rows_0 a [some (.val (.scr ns)), some (.val (.int 60)), some (.own (.lst (acc.map .int))), some (.val (.int k)), y] h = .nx (σR ns (acc ++ [v]) k v) h := by
  have k1 : -18446744073709551616 < k := by omega
  have k2 : k < 18446744073709551616 := by omega
  have al : acc.length < 16777216 := by omega
  unfold lb_l_rows_0
  have e0 : ∃ v : Int, (gSeq (gSet 4 (dC (.int 0))) (gIf (dTest (dOp2 gGt (dFun gLen4 (dCons (dVar 0) dNil)) (dC (.int 0)))) (gSet 4 (dFun gInt1 (dCons (dOp2 gIx4 (dVar 0) (dOp2 gMod (dFun gInt1 (dCons (dVar 3) dNil)) (dFun gLen4 (dCons (dVar 0) dNil)))) dNil))) gNx)) [some (.val (.scr ns)), some (.val (.int 60)), some (.own (.lst (acc.map .int))), some (.val (.int k)), y] h = .nx (σR ns acc k v) h := by
    cases ns with
    | nil => exact ⟨0, by simp [dBind, dPure, dStuck, dOpt, dVar, dC, dRes, res, dOp2, dTest, dTruth, truth, dAndT, dOrT, dNotT, dIf, isBl, dAndV, dOrV, dNotV, dUn, gE, gSeq, gNx, gIf, gRet, gSet, gRetN, gStuck, bodyD, dCall, clL, cl, dCons, dNil, dFun, dResL, resL, T3.cond, gGt, gLt, gLe, gGe, gCmp, gInt, ofS_beq, ofS_inj, q_str, nq_str, q_int, nq_int, q_str2, in3, T3.dTup, okLen, sizeLine, gAdd, gAddI, gMul, ix0t, ix1t, ix2t, ix3t, ix0l, ix1l, ix2l, ix3l, gFld, dFld, fldOf, insAt, lstAt, dicAt, cellAt, insC, lstC, dicC, dSt, isC, gPut, T3.putAt, putFD, dNewRef, dFrz, cellV, cellD, nLst, gLen4, gLen, gExpr, gAppend, oneOf, nDictOf, dMake, get_end, get_end1, get_end2, get_end3, set_end, nLc, wOk, isOwn, iSrc, srcOf, srcRef, nListOf, tgName, setIf, wipe3, List.lookup, seqOf, Function.comp_def, StepOk, gFor, gInt1, gMod, gDiv, T3.gSub]⟩
    | cons n ns =>
      have hp : (0 : Int) < (ns.length : Int) + 1 := by omega
      have b1 := Int.emod_nonneg k (b := (ns.length : Int) + 1) (by omega)
      have b2 := Int.emod_lt_of_pos k hp
      obtain ⟨j, hj⟩ := Int.eq_ofNat_of_zero_le b1
      have hj2 : j < (n :: ns).length := by simp [dBind, dPure, dStuck, dOpt, dVar, dC, dRes, res, dOp2, dTest, dTruth, truth, dAndT, dOrT, dNotT, dIf, isBl, dAndV, dOrV, dNotV, dUn, gE, gSeq, gNx, gIf, gRet, gSet, gRetN, gStuck, bodyD, dCall, clL, cl, dCons, dNil, dFun, dResL, resL, T3.cond, gGt, gLt, gLe, gGe, gCmp, gInt, ofS_beq, ofS_inj, q_str, nq_str, q_int, nq_int, q_str2, in3, T3.dTup, okLen, sizeLine, gAdd, gAddI, gMul, ix0t, ix1t, ix2t, ix3t, ix0l, ix1l, ix2l, ix3l, gFld, dFld, fldOf, insAt, lstAt, dicAt, cellAt, insC, lstC, dicC, dSt, isC, gPut, T3.putAt, putFD, dNewRef, dFrz, cellV, cellD, nLst, gLen4, gLen, gExpr, gAppend, oneOf, nDictOf, dMake, get_end, get_end1, get_end2, get_end3, set_end, nLc, wOk, isOwn, iSrc, srcOf, srcRef, nListOf, tgName, setIf, wipe3, List.lookup, seqOf, Function.comp_def, StepOk, gFor, gInt1, gMod, gDiv, T3.gSub]; omega
      have ix : gIx4 (.scr (n :: ns)) (.int (k % ((ns.length : Int) + 1))) = some (.int ((n :: ns)[j])) := by
        rw [hj]
        have := L2.atI_nat (xs := n :: ns) (j := j) (v := (n :: ns)[j]) (by simp [dBind, dPure, dStuck, dOpt, dVar, dC, dRes, res, dOp2, dTest, dTruth, truth, dAndT, dOrT, dNotT, dIf, isBl, dAndV, dOrV, dNotV, dUn, gE, gSeq, gNx, gIf, gRet, gSet, gRetN, gStuck, bodyD, dCall, clL, cl, dCons, dNil, dFun, dResL, resL, T3.cond, gGt, gLt, gLe, gGe, gCmp, gInt, ofS_beq, ofS_inj, q_str, nq_str, q_int, nq_int, q_str2, in3, T3.dTup, okLen, sizeLine, gAdd, gAddI, gMul, ix0t, ix1t, ix2t, ix3t, ix0l, ix1l, ix2l, ix3l, gFld, dFld, fldOf, insAt, lstAt, dicAt, cellAt, insC, lstC, dicC, dSt, isC, gPut, T3.putAt, putFD, dNewRef, dFrz, cellV, cellD, nLst, gLen4, gLen, gExpr, gAppend, oneOf, nDictOf, dMake, get_end, get_end1, get_end2, get_end3, set_end, nLc, wOk, isOwn, iSrc, srcOf, srcRef, nListOf, tgName, setIf, wipe3, List.lookup, seqOf, Function.comp_def, StepOk, gFor, gInt1, gMod, gDiv, T3.gSub, hj2])
        simp only [gIx4, gIx, this]
        rfl
      exact ⟨(n :: ns)[j], by simp [dBind, dPure, dStuck, dOpt, dVar, dC, dRes, res, dOp2, dTest, dTruth, truth, dAndT, dOrT, dNotT, dIf, isBl, dAndV, dOrV, dNotV, dUn, gE, gSeq, gNx, gIf, gRet, gSet, gRetN, gStuck, bodyD, dCall, clL, cl, dCons, dNil, dFun, dResL, resL, T3.cond, gGt, gLt, gLe, gGe, gCmp, gInt, ofS_beq, ofS_inj, q_str, nq_str, q_int, nq_int, q_str2, in3, T3.dTup, okLen, sizeLine, gAdd, gAddI, gMul, ix0t, ix1t, ix2t, ix3t, ix0l, ix1l, ix2l, ix3l, gFld, dFld, fldOf, insAt, lstAt, dicAt, cellAt, insC, lstC, dicC, dSt, isC, gPut, T3.putAt, putFD, dNewRef, dFrz, cellV, cellD, nLst, gLen4, gLen, gExpr, gAppend, oneOf, nDictOf, dMake, get_end, get_end1, get_end2, get_end3, set_end, nLc, wOk, isOwn, iSrc, srcOf, srcRef, nListOf, tgName, setIf, wipe3, List.lookup, seqOf, Function.comp_def, StepOk, gFor, gInt1, gMod, gDiv, T3.gSub, hp, ix]⟩
  have e2 : ∀ v : Int, ∃ v' : Int, (gIf (dTest (dOp2 gLt (dVar 4) (dC (.int 0)))) (gSet 4 (dOp2 gSub (dC (.int 1)) (dOp2 gMul (dC (.int 2)) (dVar 4)))) gNx) (σR ns acc k v) h = .nx (σR ns acc k v') h := by
    intro v
    by_cases c : v < 0
    · exact ⟨1 - 2 * v, by simp [dBind, dPure, dStuck, dOpt, dVar, dC, dRes, res, dOp2, dTest, dTruth, truth, dAndT, dOrT, dNotT, dIf, isBl, dAndV, dOrV, dNotV, dUn, gE, gSeq, gNx, gIf, gRet, gSet, gRetN, gStuck, bodyD, dCall, clL, cl, dCons, dNil, dFun, dResL, resL, T3.cond, gGt, gLt, gLe, gGe, gCmp, gInt, ofS_beq, ofS_inj, q_str, nq_str, q_int, nq_int, q_str2, in3, T3.dTup, okLen, sizeLine, gAdd, gAddI, gMul, ix0t, ix1t, ix2t, ix3t, ix0l, ix1l, ix2l, ix3l, gFld, dFld, fldOf, insAt, lstAt, dicAt, cellAt, insC, lstC, dicC, dSt, isC, gPut, T3.putAt, putFD, dNewRef, dFrz, cellV, cellD, nLst, gLen4, gLen, gExpr, gAppend, oneOf, nDictOf, dMake, get_end, get_end1, get_end2, get_end3, set_end, nLc, wOk, isOwn, iSrc, srcOf, srcRef, nListOf, tgName, setIf, wipe3, List.lookup, seqOf, Function.comp_def, StepOk, gFor, gInt1, gMod, gDiv, T3.gSub, c]⟩
    · exact ⟨v, by simp [dBind, dPure, dStuck, dOpt, dVar, dC, dRes, res, dOp2, dTest, dTruth, truth, dAndT, dOrT, dNotT, dIf, isBl, dAndV, dOrV, dNotV, dUn, gE, gSeq, gNx, gIf, gRet, gSet, gRetN, gStuck, bodyD, dCall, clL, cl, dCons, dNil, dFun, dResL, resL, T3.cond, gGt, gLt, gLe, gGe, gCmp, gInt, ofS_beq, ofS_inj, q_str, nq_str, q_int, nq_int, q_str2, in3, T3.dTup, okLen, sizeLine, gAdd, gAddI, gMul, ix0t, ix1t, ix2t, ix3t, ix0l, ix1l, ix2l, ix3l, gFld, dFld, fldOf, insAt, lstAt, dicAt, cellAt, insC, lstC, dicC, dSt, isC, gPut, T3.putAt, putFD, dNewRef, dFrz, cellV, cellD, nLst, gLen4, gLen, gExpr, gAppend, oneOf, nDictOf, dMake, get_end, get_end1, get_end2, get_end3, set_end, nLc, wOk, isOwn, iSrc, srcOf, srcRef, nListOf, tgName, setIf, wipe3, List.lookup, seqOf, Function.comp_def, StepOk, gFor, gInt1, gMod, gDiv, T3.gSub, c]⟩
  have e3 : ∀ v : Int, ∃ v' : Int, (gIf (dOrT (dTest (dOp2 gGe (dVar 3) (dFun gLen4 (dCons (dVar 0) dNil)))) (dTest (dOp2 gLt (dVar 4) (dC (.int 1000000000))))) (gSeq (gSet 4 (dOp2 gMod (dFun gInt1 (dCons (dOp2 gAdd (dOp2 gMul (dOp2 gAdd (dOp2 gAdd (dVar 4) (dOp2 gMul (dC (.int 131)) (dVar 3))) (dC (.int 7))) (dC (.int 48271))) (dOp2 gMul (dOp2 gMul (dVar 3) (dVar 3)) (dC (.int 69621)))) dNil)) (dC (.int 1000000007))))
  (gSet 4 (dOp2 gMod (dFun gInt1 (dCons (dOp2 gMul (dOp2 gAdd (dOp2 gAdd (dVar 4) (dOp2 gMul (dC (.int 17)) (dVar 3))) (dC (.int 3))) (dC (.int 2862933555777941757))) dNil)) (dC (.int 18446744073709551557))))) gNx) (σR ns acc k v) h = .nx (σR ns acc k v') h := by
    intro v
    by_cases c1 : (ns.length : Int) ≤ k
    · exact ⟨((((v + 131 * k + 7) * 48271 + k * k * 69621) % 1000000007 + 17 * k + 3) * 2862933555777941757) % 18446744073709551557, by simp [dBind, dPure, dStuck, dOpt, dVar, dC, dRes, res, dOp2, dTest, dTruth, truth, dAndT, dOrT, dNotT, dIf, isBl, dAndV, dOrV, dNotV, dUn, gE, gSeq, gNx, gIf, gRet, gSet, gRetN, gStuck, bodyD, dCall, clL, cl, dCons, dNil, dFun, dResL, resL, T3.cond, gGt, gLt, gLe, gGe, gCmp, gInt, ofS_beq, ofS_inj, q_str, nq_str, q_int, nq_int, q_str2, in3, T3.dTup, okLen, sizeLine, gAdd, gAddI, gMul, ix0t, ix1t, ix2t, ix3t, ix0l, ix1l, ix2l, ix3l, gFld, dFld, fldOf, insAt, lstAt, dicAt, cellAt, insC, lstC, dicC, dSt, isC, gPut, T3.putAt, putFD, dNewRef, dFrz, cellV, cellD, nLst, gLen4, gLen, gExpr, gAppend, oneOf, nDictOf, dMake, get_end, get_end1, get_end2, get_end3, set_end, nLc, wOk, isOwn, iSrc, srcOf, srcRef, nListOf, tgName, setIf, wipe3, List.lookup, seqOf, Function.comp_def, StepOk, gFor, gInt1, gMod, gDiv, T3.gSub, c1, k1, k2]⟩
    · by_cases c2 : v < 1000000000
      · exact ⟨((((v + 131 * k + 7) * 48271 + k * k * 69621) % 1000000007 + 17 * k + 3) * 2862933555777941757) % 18446744073709551557, by simp [dBind, dPure, dStuck, dOpt, dVar, dC, dRes, res, dOp2, dTest, dTruth, truth, dAndT, dOrT, dNotT, dIf, isBl, dAndV, dOrV, dNotV, dUn, gE, gSeq, gNx, gIf, gRet, gSet, gRetN, gStuck, bodyD, dCall, clL, cl, dCons, dNil, dFun, dResL, resL, T3.cond, gGt, gLt, gLe, gGe, gCmp, gInt, ofS_beq, ofS_inj, q_str, nq_str, q_int, nq_int, q_str2, in3, T3.dTup, okLen, sizeLine, gAdd, gAddI, gMul, ix0t, ix1t, ix2t, ix3t, ix0l, ix1l, ix2l, ix3l, gFld, dFld, fldOf, insAt, lstAt, dicAt, cellAt, insC, lstC, dicC, dSt, isC, gPut, T3.putAt, putFD, dNewRef, dFrz, cellV, cellD, nLst, gLen4, gLen, gExpr, gAppend, oneOf, nDictOf, dMake, get_end, get_end1, get_end2, get_end3, set_end, nLc, wOk, isOwn, iSrc, srcOf, srcRef, nListOf, tgName, setIf, wipe3, List.lookup, seqOf, Function.comp_def, StepOk, gFor, gInt1, gMod, gDiv, T3.gSub, c1, c2, k1, k2]⟩
      · exact ⟨v, by simp [dBind, dPure, dStuck, dOpt, dVar, dC, dRes, res, dOp2, dTest, dTruth, truth, dAndT, dOrT, dNotT, dIf, isBl, dAndV, dOrV, dNotV, dUn, gE, gSeq, gNx, gIf, gRet, gSet, gRetN, gStuck, bodyD, dCall, clL, cl, dCons, dNil, dFun, dResL, resL, T3.cond, gGt, gLt, gLe, gGe, gCmp, gInt, ofS_beq, ofS_inj, q_str, nq_str, q_int, nq_int, q_str2, in3, T3.dTup, okLen, sizeLine, gAdd, gAddI, gMul, ix0t, ix1t, ix2t, ix3t, ix0l, ix1l, ix2l, ix3l, gFld, dFld, fldOf, insAt, lstAt, dicAt, cellAt, insC, lstC, dicC, dSt, isC, gPut, T3.putAt, putFD, dNewRef, dFrz, cellV, cellD, nLst, gLen4, gLen, gExpr, gAppend, oneOf, nDictOf, dMake, get_end, get_end1, get_end2, get_end3, set_end, nLc, wOk, isOwn, iSrc, srcOf, srcRef, nListOf, tgName, setIf, wipe3, List.lookup, seqOf, Function.comp_def, StepOk, gFor, gInt1, gMod, gDiv, T3.gSub, c1, c2]⟩
  obtain ⟨v0, e0⟩ := e0
  obtain ⟨v2, e2⟩ := e2 v0
  obtain ⟨v3, e3⟩ := e3 v2
  refine ⟨v3, ?_⟩
  have e4 : gAppend (dVar 2) (dCons (dVar 4) dNil) (σR ns acc k v3) h = .nx (σR ns (acc ++ [v3]) k v3) h := by
    simp [dBind, dPure, dStuck, dOpt, dVar, dC, dRes, res, dOp2, dTest, dTruth, truth, dAndT, dOrT, dNotT, dIf, isBl, dAndV, dOrV, dNotV, dUn, gE, gSeq, gNx, gIf, gRet, gSet, gRetN, gStuck, bodyD, dCall, clL, cl, dCons, dNil, dFun, dResL, resL, T3.cond, gGt, gLt, gLe, gGe, gCmp, gInt, ofS_beq, ofS_inj, q_str, nq_str, q_int, nq_int, q_str2, in3, T3.dTup, okLen, sizeLine, gAdd, gAddI, gMul, ix0t, ix1t, ix2t, ix3t, ix0l, ix1l, ix2l, ix3l, gFld, dFld, fldOf, insAt, lstAt, dicAt, cellAt, insC, lstC, dicC, dSt, isC, gPut, T3.putAt, putFD, dNewRef, dFrz, cellV, cellD, nLst, gLen4, gLen, gExpr, gAppend, oneOf, nDictOf, dMake, get_end, get_end1, get_end2, get_end3, set_end, nLc, wOk, isOwn, iSrc, srcOf, srcRef, nListOf, tgName, setIf, wipe3, List.lookup, seqOf, Function.comp_def, StepOk, gFor, gInt1, gMod, gDiv, T3.gSub, al]
  have q : ∀ (x y z : G) (σ : S3), gSeq x (gSeq y z) σ h = gSeq (gSeq x y) z σ h := fun x y z σ => by
    unfold T3.gSeq
    cases x σ h <;> rfl
  rw [q]
  exact (gSeq_nx e0).trans ((gSeq_nx e2).trans ((gSeq_nx e3).trans e4))
theorem rows_ok (ns : List Int) (h : HD) : ∃ R : List Int, R.length = 60 ∧ den_l_rows a [.scr ns, .int 60] h = .ok (.lst (R.map .int)) h := by
  have key := forF_inv (good := always) (tg := tgName 3) (body := lb_l_rows_0 a) (Post := fun r => ∃ (acc : List Int) (y z : Option T3.Slot), acc.length = 60 ∧ r = .nx [some (.val (.scr ns)), some (.val (.int 60)), some (.own (.lst (acc.map .int))), y, z] h)
    (Inv := fun rem σ h' => h' = h ∧ ∃ (i : Nat) (acc : List Int) (y z : Option T3.Slot), rem = (rngD 0 60).drop i ∧ i ≤ 60 ∧ acc.length = i ∧ σ = [some (.val (.scr ns)), some (.val (.int 60)), some (.own (.lst (acc.map .int))), y, z] ∧ isOwn σ 3 = false) ?_ ?_ (rngD 0 60) [some (.val (.scr ns)), some (.val (.int 60)), some (.own (.lst [])), none, none] h ⟨rfl, 0, [], none, none, rfl, by omega, rfl, rfl, rfl⟩
  rotate_left
  · rintro x xs σ h' ⟨rfl, i, acc, y, z, ex, hi, ha, rfl, yo⟩
    obtain ⟨hi, rfl, rfl⟩ := rng_drop ex.symm
    obtain ⟨v, hv⟩ := rows_body a ns acc (i : Int) (by omega) (by omega) (by omega) z trivial h'
    refine ⟨rfl, [some (.val (.scr ns)), some (.val (.int 60)), some (.own (.lst (acc.map .int))), some (.val (.int (i : Nat))), z], ?_, ?_⟩
    · have yo' : isOwn [some (T3.Slot.val (.scr ns)), some (.val (.int 60)), some (.own (.lst (acc.map .int))), y, z] 3 = false := yo
      simp only [tgName, setIf, yo']
      simp [dBind, dPure, dStuck, dOpt, dVar, dC, dRes, res, dOp2, dTest, dTruth, truth, dAndT, dOrT, dNotT, dIf, isBl, dAndV, dOrV, dNotV, dUn, gE, gSeq, gNx, gIf, gRet, gSet, gRetN, gStuck, bodyD, dCall, clL, cl, dCons, dNil, dFun, dResL, resL, T3.cond, gGt, gLt, gLe, gGe, gCmp, gInt, ofS_beq, ofS_inj, q_str, nq_str, q_int, nq_int, q_str2, in3, T3.dTup, okLen, sizeLine, gAdd, gAddI, gMul, ix0t, ix1t, ix2t, ix3t, ix0l, ix1l, ix2l, ix3l, gFld, dFld, fldOf, insAt, lstAt, dicAt, cellAt, insC, lstC, dicC, dSt, isC, gPut, T3.putAt, putFD, dNewRef, dFrz, cellV, cellD, nLst, gLen4, gLen, gExpr, gAppend, oneOf, nDictOf, dMake, get_end, get_end1, get_end2, get_end3, set_end, nLc, wOk, isOwn, iSrc, srcOf, srcRef, nListOf, tgName, setIf, wipe3, List.lookup, seqOf, Function.comp_def, StepOk, gFor, gInt1, gMod, gDiv, T3.gSub]
    · rw [hv]
      exact ⟨rfl, i + 1, acc ++ [v], _, _, rfl, by omega, by simp [dBind, dPure, dStuck, dOpt, dVar, dC, dRes, res, dOp2, dTest, dTruth, truth, dAndT, dOrT, dNotT, dIf, isBl, dAndV, dOrV, dNotV, dUn, gE, gSeq, gNx, gIf, gRet, gSet, gRetN, gStuck, bodyD, dCall, clL, cl, dCons, dNil, dFun, dResL, resL, T3.cond, gGt, gLt, gLe, gGe, gCmp, gInt, ofS_beq, ofS_inj, q_str, nq_str, q_int, nq_int, q_str2, in3, T3.dTup, okLen, sizeLine, gAdd, gAddI, gMul, ix0t, ix1t, ix2t, ix3t, ix0l, ix1l, ix2l, ix3l, gFld, dFld, fldOf, insAt, lstAt, dicAt, cellAt, insC, lstC, dicC, dSt, isC, gPut, T3.putAt, putFD, dNewRef, dFrz, cellV, cellD, nLst, gLen4, gLen, gExpr, gAppend, oneOf, nDictOf, dMake, get_end, get_end1, get_end2, get_end3, set_end, nLc, wOk, isOwn, iSrc, srcOf, srcRef, nListOf, tgName, setIf, wipe3, List.lookup, seqOf, Function.comp_def, StepOk, gFor, gInt1, gMod, gDiv, T3.gSub, ha], rfl, rfl⟩
  · rintro σ h' ⟨rfl, i, acc, y, z, ex, hi, ha, rfl, yo⟩
    refine ⟨rfl, acc, y, z, ?_, rfl⟩
    have : (rngD 0 60).length - i = 0 := by
      have := congrArg List.length ex
      rw [List.length_drop] at this
      exact this.symm
    simp [dBind, dPure, dStuck, dOpt, dVar, dC, dRes, res, dOp2, dTest, dTruth, truth, dAndT, dOrT, dNotT, dIf, isBl, dAndV, dOrV, dNotV, dUn, gE, gSeq, gNx, gIf, gRet, gSet, gRetN, gStuck, bodyD, dCall, clL, cl, dCons, dNil, dFun, dResL, resL, T3.cond, gGt, gLt, gLe, gGe, gCmp, gInt, ofS_beq, ofS_inj, q_str, nq_str, q_int, nq_int, q_str2, in3, T3.dTup, okLen, sizeLine, gAdd, gAddI, gMul, ix0t, ix1t, ix2t, ix3t, ix0l, ix1l, ix2l, ix3l, gFld, dFld, fldOf, insAt, lstAt, dicAt, cellAt, insC, lstC, dicC, dSt, isC, gPut, T3.putAt, putFD, dNewRef, dFrz, cellV, cellD, nLst, gLen4, gLen, gExpr, gAppend, oneOf, nDictOf, dMake, get_end, get_end1, get_end2, get_end3, set_end, nLc, wOk, isOwn, iSrc, srcOf, srcRef, nListOf, tgName, setIf, wipe3, List.lookup, seqOf, Function.comp_def, StepOk, gFor, gInt1, gMod, gDiv, T3.gSub, rngD] at this
    omega
  obtain ⟨R, y, z, hR, key⟩ := key
  refine ⟨R, hR, ?_⟩
  unfold den_l_rows g_l_rows
  refine bodyD_rt [some (.val (.scr ns)), some (.val (.int 60)), none, none, none] rfl ?_
  have s1 : gNew 2 (nLst dNil) [some (.val (.scr ns)), some (.val (.int 60)), none, none, none] h = .nx [some (.val (.scr ns)), some (.val (.int 60)), some (.own (.lst [])), none, none] h := by
    simp [dBind, dPure, dStuck, dOpt, dVar, dC, dRes, res, dOp2, dTest, dTruth, truth, dAndT, dOrT, dNotT, dIf, isBl, dAndV, dOrV, dNotV, dUn, gE, gSeq, gNx, gIf, gRet, gSet, gRetN, gStuck, bodyD, dCall, clL, cl, dCons, dNil, dFun, dResL, resL, T3.cond, gGt, gLt, gLe, gGe, gCmp, gInt, ofS_beq, ofS_inj, q_str, nq_str, q_int, nq_int, q_str2, in3, T3.dTup, okLen, sizeLine, gAdd, gAddI, gMul, ix0t, ix1t, ix2t, ix3t, ix0l, ix1l, ix2l, ix3l, gFld, dFld, fldOf, insAt, lstAt, dicAt, cellAt, insC, lstC, dicC, dSt, isC, gPut, T3.putAt, putFD, dNewRef, dFrz, cellV, cellD, nLst, gLen4, gLen, gExpr, gAppend, oneOf, nDictOf, dMake, get_end, get_end1, get_end2, get_end3, set_end, nLc, wOk, isOwn, iSrc, srcOf, srcRef, nListOf, tgName, setIf, wipe3, List.lookup, seqOf, Function.comp_def, StepOk, gFor, gInt1, gMod, gDiv, T3.gSub, gNew]
  refine (gSeq_nx s1).trans ?_
  have f0 : dCons (dVar 1) dNil [some (.val (.scr ns)), some (.val (.int 60)), some (.own (.lst [])), none, none] h = .ok [.int ((60 : Nat) : Int)] h := rfl
  have f1 := (for_rng (tg := tgName 3) (b := lb_l_rows_0 a) f0 (by decide)).trans key
  refine (gSeq_nx f1).trans ?_
  simp [dBind, dPure, dStuck, dOpt, dVar, dC, dRes, res, dOp2, dTest, dTruth, truth, dAndT, dOrT, dNotT, dIf, isBl, dAndV, dOrV, dNotV, dUn, gE, gSeq, gNx, gIf, gRet, gSet, gRetN, gStuck, bodyD, dCall, clL, cl, dCons, dNil, dFun, dResL, resL, T3.cond, gGt, gLt, gLe, gGe, gCmp, gInt, ofS_beq, ofS_inj, q_str, nq_str, q_int, nq_int, q_str2, in3, T3.dTup, okLen, sizeLine, gAdd, gAddI, gMul, ix0t, ix1t, ix2t, ix3t, ix0l, ix1l, ix2l, ix3l, gFld, dFld, fldOf, insAt, lstAt, dicAt, cellAt, insC, lstC, dicC, dSt, isC, gPut, T3.putAt, putFD, dNewRef, dFrz, cellV, cellD, nLst, gLen4, gLen, gExpr, gAppend, oneOf, nDictOf, dMake, get_end, get_end1, get_end2, get_end3, set_end, nLc, wOk, isOwn, iSrc, srcOf, srcRef, nListOf, tgName, setIf, wipe3, List.lookup, seqOf, Function.comp_def, StepOk, gFor, gInt1, gMod, gDiv, T3.gSub, gGh, wFrz]
end
end W

set_option Elab.async false
set_option linter.all false
set_option maxRecDepth 100000
set_option maxHeartbeats 1000000
namespace W
open PySem L2 T3
section
variable (a : Ad)
/-- the state of the law at a turn -/
structure Sit (h : HD) (c q s : Nat) (b n : Int) (es : List Ent) (t : Nat) : Prop where
  C : CAt a h c b q n es
  S : h[s]? = some (qD es)
  ne : q ≠ s
  len : es.length ≤ 50
  good : ∀ e ∈ es, e.good
  pot : (b.natAbs + 9) * 2 ^ es.length ≤ 58 * 2 ^ t
variable {a : Ad}
theorem Sit.cq {h : HD} {c q s : Nat} {b n : Int} {es : List Ent} {t : Nat} (T : Sit a h c q s b n es t) : c ≠ q := fun e => by
  have h1 := T.C.c; have h2 := T.C.q
  rw [e, h2] at h1; cases h1
theorem Sit.cs {h : HD} {c q s : Nat} {b n : Int} {es : List Ent} {t : Nat} (T : Sit a h c q s b n es t) : c ≠ s := fun e => by
  have h1 := T.C.c; have h2 := T.S
  rw [e, h2] at h1; cases h1
theorem Sit.small {h : HD} {c q s : Nat} {b n : Int} {es : List Ent} {t : Nat} (T : Sit a h c q s b n es t) (ht : t ≤ 59) : Small b es.length := by
  have := T.pot
  have h2 : 58 * 2 ^ t ≤ 58 * 2 ^ 59 := Nat.mul_le_mul_left _ (Nat.pow_le_pow_right (by decide) ht)
  have h3 : (58 * 2 ^ 59 : Nat) ≤ 10000000000000000000000000 := by decide
  exact Nat.le_trans this (Nat.le_trans h2 h3)
abbrev σW (ns R : List Int) (st : Int) (c : Nat) (S : D) (fl : Bool) (x6 x7 x8 x9 x10 x11 x12 x13 x14 : Option T3.Slot) : S3 :=
  [some (.val (.scr ns)), some (.val (.lst (R.map .int))), some (.val (.int st)), some (.val (.ref c)), some (.val S), some (.val (.bl fl)), x6, x7, x8, x9, x10, x11, x12, x13, x14]
/-- an update is sent -/
theorem sit_send {h : HD} {c q s : Nat} {b n : Int} {es : List Ent} {t : Nat} (T : Sit a h c q s b n es t) (ln : Int) (u : Up) (gu : u.good) (k : Int) (k0 : 0 ≤ k) (k6 : k ≤ 6) (hl : es.length < 50) :
    Sit a ((((h ++ [Cell.dic (env1 k)]).set q (qD (es ++ [Ent.mk false ln u k]))).set h.length (Cell.dic [(Sum.inr "k", D.int 99)])).set s (qD (es ++ [Ent.mk false ln u k]))) c q s b n (es ++ [Ent.mk false ln u k]) (t + 1) := by
  have hc := (List.getElem?_eq_some_iff.mp T.C.c).1
  have hq := (List.getElem?_eq_some_iff.mp T.C.q).1
  have hs := (List.getElem?_eq_some_iff.mp T.S).1
  refine ⟨⟨?_, ?_⟩, ?_, T.ne, by simp [dBind, dPure, dStuck, dOpt, dVar, dC, dRes, res, dOp2, dTest, dTruth, truth, dAndT, dOrT, dNotT, dIf, isBl, dAndV, dOrV, dNotV, dUn, gE, gSeq, gNx, gIf, gRet, gSet, gRetN, gStuck, bodyD, dCall, clL, cl, dCons, dNil, dFun, dResL, resL, T3.cond, gGt, gLt, gLe, gGe, gCmp, gInt, ofS_beq, ofS_inj, q_str, nq_str, q_int, nq_int, q_str2, in3, T3.dTup, okLen, sizeLine, gAdd, gAddI, gMul, ix0t, ix1t, ix2t, ix3t, ix0l, ix1l, ix2l, ix3l, gFld, dFld, fldOf, insAt, lstAt, dicAt, cellAt, insC, lstC, dicC, dSt, isC, gPut, T3.putAt, putFD, dNewRef, dFrz, cellV, cellD, nLst, gLen4, gLen, gExpr, gAppend, oneOf, nDictOf, dMake, get_end, get_end1, get_end2, get_end3, set_end, nLc, wOk, isOwn, iSrc, srcOf, srcRef, nListOf, tgName, setIf, wipe3, List.lookup, seqOf, Function.comp_def, StepOk, gFor, gInt1, gMod, gDiv, T3.gSub]; omega, ?_, ?_⟩
  · rw [List.getElem?_set_ne (Ne.symm T.cs), List.getElem?_set_ne (by omega), List.getElem?_set_ne (Ne.symm T.cq)]
    exact get_app T.C.c _
  · rw [List.getElem?_set_ne (Ne.symm T.ne), List.getElem?_set_ne (by omega), List.getElem?_set_self (by simp [dBind, dPure, dStuck, dOpt, dVar, dC, dRes, res, dOp2, dTest, dTruth, truth, dAndT, dOrT, dNotT, dIf, isBl, dAndV, dOrV, dNotV, dUn, gE, gSeq, gNx, gIf, gRet, gSet, gRetN, gStuck, bodyD, dCall, clL, cl, dCons, dNil, dFun, dResL, resL, T3.cond, gGt, gLt, gLe, gGe, gCmp, gInt, ofS_beq, ofS_inj, q_str, nq_str, q_int, nq_int, q_str2, in3, T3.dTup, okLen, sizeLine, gAdd, gAddI, gMul, ix0t, ix1t, ix2t, ix3t, ix0l, ix1l, ix2l, ix3l, gFld, dFld, fldOf, insAt, lstAt, dicAt, cellAt, insC, lstC, dicC, dSt, isC, gPut, T3.putAt, putFD, dNewRef, dFrz, cellV, cellD, nLst, gLen4, gLen, gExpr, gAppend, oneOf, nDictOf, dMake, get_end, get_end1, get_end2, get_end3, set_end, nLc, wOk, isOwn, iSrc, srcOf, srcRef, nListOf, tgName, setIf, wipe3, List.lookup, seqOf, Function.comp_def, StepOk, gFor, gInt1, gMod, gDiv, T3.gSub]; omega)]
  · rw [List.getElem?_set_self (by simp [dBind, dPure, dStuck, dOpt, dVar, dC, dRes, res, dOp2, dTest, dTruth, truth, dAndT, dOrT, dNotT, dIf, isBl, dAndV, dOrV, dNotV, dUn, gE, gSeq, gNx, gIf, gRet, gSet, gRetN, gStuck, bodyD, dCall, clL, cl, dCons, dNil, dFun, dResL, resL, T3.cond, gGt, gLt, gLe, gGe, gCmp, gInt, ofS_beq, ofS_inj, q_str, nq_str, q_int, nq_int, q_str2, in3, T3.dTup, okLen, sizeLine, gAdd, gAddI, gMul, ix0t, ix1t, ix2t, ix3t, ix0l, ix1l, ix2l, ix3l, gFld, dFld, fldOf, insAt, lstAt, dicAt, cellAt, insC, lstC, dicC, dSt, isC, gPut, T3.putAt, putFD, dNewRef, dFrz, cellV, cellD, nLst, gLen4, gLen, gExpr, gAppend, oneOf, nDictOf, dMake, get_end, get_end1, get_end2, get_end3, set_end, nLc, wOk, isOwn, iSrc, srcOf, srcRef, nListOf, tgName, setIf, wipe3, List.lookup, seqOf, Function.comp_def, StepOk, gFor, gInt1, gMod, gDiv, T3.gSub]; omega)]
  · intro e m
    rcases List.mem_append.mp m with m | m
    · exact T.good e m
    · have := List.mem_singleton.mp m
      subst this
      exact ⟨gu, k0, k6⟩
  · have := T.pot
    rw [List.length_append, List.length_singleton, Nat.pow_succ, Nat.pow_succ]
    have e1 : (b.natAbs + 9) * (2 ^ es.length * 2) = ((b.natAbs + 9) * 2 ^ es.length) * 2 := by rw [Nat.mul_assoc]
    have e2 : 58 * (2 ^ t * 2) = (58 * 2 ^ t) * 2 := by rw [Nat.mul_assoc]
    omega
theorem Sit.later {h : HD} {c q s : Nat} {b n : Int} {es : List Ent} {t : Nat} (T : Sit a h c q s b n es t) (h' : HD) (e1 : h'[c]? = h[c]?) (e2 : h'[q]? = h[q]?) (e3 : h'[s]? = h[s]?) : Sit a h' c q s b n es (t + 1) := by
  refine ⟨⟨by rw [e1]; exact T.C.c, by rw [e2]; exact T.C.q⟩, by rw [e3]; exact T.S, T.ne, T.len, T.good, ?_⟩
  have := T.pot
  rw [Nat.pow_succ]; omega
theorem lead_pot : ∀ (es : List Ent) (b : Int), (∀ e ∈ es, e.good) → ((lead b es).1.natAbs + 9) * 2 ^ (lead b es).2.length ≤ (b.natAbs + 9) * 2 ^ es.length
  | [], b, _ => Nat.le_refl _
  | e :: es, b, g => by
    unfold lead
    cases q : e.fl with
    | true =>
      have h1 := lead_pot es (e.u.ap b e.k) (fun x m => g x (List.mem_cons_of_mem _ m))
      have h2 := Nat.mul_le_mul_right (2 ^ es.length) (ap_pot e (g e List.mem_cons_self) b)
      have e1 : (b.natAbs + 9) * 2 ^ (e :: es).length = 2 * (b.natAbs + 9) * 2 ^ es.length := by
        rw [List.length_cons, Nat.pow_succ, ← Nat.mul_assoc, Nat.mul_comm _ 2, ← Nat.mul_assoc]
      rw [e1]
      exact Nat.le_trans h1 h2
    | false => exact Nat.le_refl _
theorem lead_len : ∀ (es : List Ent) (b : Int), (lead b es).2.length ≤ es.length
  | [], b => Nat.le_refl _
  | e :: es, b => by
    unfold lead
    cases q : e.fl with
    | true => exact Nat.le_trans (lead_len es _) (by simp [dBind, dPure, dStuck, dOpt, dVar, dC, dRes, res, dOp2, dTest, dTruth, truth, dAndT, dOrT, dNotT, dIf, isBl, dAndV, dOrV, dNotV, dUn, gE, gSeq, gNx, gIf, gRet, gSet, gRetN, gStuck, bodyD, dCall, clL, cl, dCons, dNil, dFun, dResL, resL, T3.cond, gGt, gLt, gLe, gGe, gCmp, gInt, ofS_beq, ofS_inj, q_str, nq_str, q_int, nq_int, q_str2, in3, T3.dTup, okLen, sizeLine, gAdd, gAddI, gMul, ix0t, ix1t, ix2t, ix3t, ix0l, ix1l, ix2l, ix3l, gFld, dFld, fldOf, insAt, lstAt, dicAt, cellAt, insC, lstC, dicC, dSt, isC, gPut, T3.putAt, putFD, dNewRef, dFrz, cellV, cellD, nLst, gLen4, gLen, gExpr, gAppend, oneOf, nDictOf, dMake, get_end, get_end1, get_end2, get_end3, set_end, nLc, wOk, isOwn, iSrc, srcOf, srcRef, nListOf, tgName, setIf, wipe3, List.lookup, seqOf, Function.comp_def, StepOk, gFor, gInt1, gMod, gDiv, T3.gSub])
    | false => exact Nat.le_refl _
theorem if_tt {t : F Bool} {g g' : G} {σ : S3} {h : HD} (e : t σ h = .ok true h) : gIf t g g' σ h = g σ h := by
  unfold T3.gIf T3.gE; simp [dBind, dPure, dStuck, dOpt, dVar, dC, dRes, res, dOp2, dTest, dTruth, truth, dAndT, dOrT, dNotT, dIf, isBl, dAndV, dOrV, dNotV, dUn, gE, gSeq, gNx, gIf, gRet, gSet, gRetN, gStuck, bodyD, dCall, clL, cl, dCons, dNil, dFun, dResL, resL, T3.cond, gGt, gLt, gLe, gGe, gCmp, gInt, ofS_beq, ofS_inj, q_str, nq_str, q_int, nq_int, q_str2, in3, T3.dTup, okLen, sizeLine, gAdd, gAddI, gMul, ix0t, ix1t, ix2t, ix3t, ix0l, ix1l, ix2l, ix3l, gFld, dFld, fldOf, insAt, lstAt, dicAt, cellAt, insC, lstC, dicC, dSt, isC, gPut, T3.putAt, putFD, dNewRef, dFrz, cellV, cellD, nLst, gLen4, gLen, gExpr, gAppend, oneOf, nDictOf, dMake, get_end, get_end1, get_end2, get_end3, set_end, nLc, wOk, isOwn, iSrc, srcOf, srcRef, nListOf, tgName, setIf, wipe3, List.lookup, seqOf, Function.comp_def, StepOk, gFor, gInt1, gMod, gDiv, T3.gSub, e]
theorem isi_bl (b : Bool) : isiD "bool" (.bl b) = some true := by kernel_rfl
end
end W

set_option Elab.async false
set_option linter.all false
set_option maxRecDepth 100000
set_option maxHeartbeats 1000000
namespace W
open PySem L2 T3
section
variable {a : Ad}
theorem stSet {i : Nat} {f : F D} {σ : S3} {h h' : HD} {d : D} (e : f σ h = .ok d h') (c : cl d = some d) : gSet i f σ h = .nx (σ.set i (some (.val d))) h' := by
  simp only [T3.gSet, T3.gE, e, c, T3.dOpt, T3.dPure]
/-- the first branch: an update is sent -/
theorem turn_send {h : HD} {c q s : Nat} {b n : Int} {es : List Ent} {t : Nat} (T : Sit a h c q s b n es t) (ns R : List Int) (st : Int) (fl : Bool) (row : Int) (x6 x8 x9 x10 x11 x12 x13 x14 : Option T3.Slot) :
    ∃ (h' : HD) (es' : List Ent) (y8 y9 y10 : Option T3.Slot), (gSeq (gSet 8 (dFrz (nLst (dCons (dC (.bl false)) (dCons (dOp2 gMod (dFun gInt1 (dCons (dOp2 gDiv (dVar 7) (dC (.int 3))) dNil)) (dC (.int 4))) (dCons (dCall 1 (den_l_update a) (dCons (dOp2 gDiv (dVar 7) (dC (.int 12))) dNil)) (dCons (dFrz (nDisp [((dC (.str "k")), (dOp2 gMod (dFun gInt1 (dCons (dOp2 gDiv (dVar 7) (dC (.int 400))) dNil)) (dC (.int 7))))])) dNil)))))))
  (gSeq (gSet 9 (dNewRef (nDictOf (dCons (dOp2 gIx4 (dVar 8) (dC (.int 3))) dNil))))
  (gSeq (gSet 10 (dMeth a.c_Cell "send" 4 (den_Cell_send a) (dVar 3) (dCons (dOp2 gIx4 (dVar 8) (dC (.int 1))) (dCons (dOp2 gIx4 (dVar 8) (dC (.int 2))) (dCons (dVar 9) dNil)))))
  (gSeq (gPutK (dVar 9) (dC (.str "k")) (dC (.int 99)))
  (gSeq (gIf (dOrT (dTest (dOp2 (gEq4 true) (dVar 10) (dOp2 gLt (dFun gLen4 (dCons (dOp2 gIx4 (dVar 4) (dC (.int 1))) dNil)) (dC (.int 50))))) (dNotT (dTruth (dIsi "bool" (dVar 10))))) (gRet (dC (.bl false))) gNx)
  (gIf (dTruth (dVar 10)) (gAppend (dOp2 gIx4 (dVar 4) (dC (.int 1))) (dCons (dVar 8) dNil)) gNx)))))) (σW ns R st c (stD b s n) fl x6 (some (.val (.int row))) x8 x9 x10 x11 x12 x13 x14) h =
      .nx (σW ns R st c (stD b s n) fl x6 (some (.val (.int row))) y8 y9 y10 x11 x12 x13 x14) h' ∧ Sit a h' c q s b n es' (t + 1) := by
  obtain ⟨u, gu, hu⟩ := update_ok a (row / 12) h
  have k0 := Int.emod_nonneg (row / 400) (b := 7) (by decide)
  have k6 := Int.emod_lt_of_pos (row / 400) (b := 7) (by decide)
  generalize ek : row / 400 % 7 = k at k0 k6
  obtain ⟨ds, ed⟩ := u.dcl
  have hc := (List.getElem?_eq_some_iff.mp T.C.c).1
  have hq := (List.getElem?_eq_some_iff.mp T.C.q).1
  have hs := (List.getElem?_eq_some_iff.mp T.S).1
  let eD : D := .lst [.bl false, .int (row / 3 % 4), .tup ds, .dic (env1 k)]
  have md : mergeD [] [(Sum.inr "k", D.int k)] = env1 k := by simp [dBind, dPure, dStuck, dOpt, dVar, dC, dRes, res, dOp2, dTest, dTruth, truth, dAndT, dOrT, dNotT, dIf, isBl, dAndV, dOrV, dNotV, dUn, gE, gSeq, gNx, gIf, gRet, gSet, gRetN, gStuck, bodyD, dCall, clL, cl, dCons, dNil, dFun, dResL, resL, T3.cond, gGt, gLt, gLe, gGe, gCmp, gInt, ofS_beq, ofS_inj, q_str, nq_str, q_int, nq_int, q_str2, in3, T3.dTup, okLen, sizeLine, gAdd, gAddI, gMul, ix0t, ix1t, ix2t, ix3t, ix0l, ix1l, ix2l, ix3l, gFld, dFld, fldOf, insAt, lstAt, dicAt, cellAt, insC, lstC, dicC, dSt, isC, gPut, T3.putAt, putFD, dNewRef, dFrz, cellV, cellD, nLst, gLen4, gLen, gExpr, gAppend, oneOf, nDictOf, dMake, get_end, get_end1, get_end2, get_end3, set_end, nLc, wOk, isOwn, iSrc, srcOf, srcRef, nListOf, tgName, setIf, wipe3, List.lookup, seqOf, Function.comp_def, StepOk, gFor, gInt1, gMod, gDiv, T3.gSub, mergeD, putD]
  have e8 : dFrz (nLst (dCons (dC (.bl false)) (dCons (dOp2 gMod (dFun gInt1 (dCons (dOp2 gDiv (dVar 7) (dC (.int 3))) dNil)) (dC (.int 4))) (dCons (dCall 1 (den_l_update a) (dCons (dOp2 gDiv (dVar 7) (dC (.int 12))) dNil)) (dCons (dFrz (nDisp [((dC (.str "k")), (dOp2 gMod (dFun gInt1 (dCons (dOp2 gDiv (dVar 7) (dC (.int 400))) dNil)) (dC (.int 7))))])) dNil)))))
      (σW ns R st c (stD b s n) fl x6 (some (.val (.int row))) x8 x9 x10 x11 x12 x13 x14) h = .ok eD h := by
    simp [dBind, dPure, dStuck, dOpt, dVar, dC, dRes, res, dOp2, dTest, dTruth, truth, dAndT, dOrT, dNotT, dIf, isBl, dAndV, dOrV, dNotV, dUn, gE, gSeq, gNx, gIf, gRet, gSet, gRetN, gStuck, bodyD, dCall, clL, cl, dCons, dNil, dFun, dResL, resL, T3.cond, gGt, gLt, gLe, gGe, gCmp, gInt, ofS_beq, ofS_inj, q_str, nq_str, q_int, nq_int, q_str2, in3, T3.dTup, okLen, sizeLine, gAdd, gAddI, gMul, ix0t, ix1t, ix2t, ix3t, ix0l, ix1l, ix2l, ix3l, gFld, dFld, fldOf, insAt, lstAt, dicAt, cellAt, insC, lstC, dicC, dSt, isC, gPut, T3.putAt, putFD, dNewRef, dFrz, cellV, cellD, nLst, gLen4, gLen, gExpr, gAppend, oneOf, nDictOf, dMake, get_end, get_end1, get_end2, get_end3, set_end, nLc, wOk, isOwn, iSrc, srcOf, srcRef, nListOf, tgName, setIf, wipe3, List.lookup, seqOf, Function.comp_def, StepOk, gFor, gInt1, gMod, gDiv, T3.gSub, hu, ed, nDisp, dPairs, keyOf, ek, md, eD]
  have e9 : dNewRef (nDictOf (dCons (dOp2 gIx4 (dVar 8) (dC (.int 3))) dNil)) (σW ns R st c (stD b s n) fl x6 (some (.val (.int row))) (some (.val eD)) x9 x10 x11 x12 x13 x14) h = .ok (.ref h.length) (h ++ [Cell.dic (env1 k)]) := by
    simp [dBind, dPure, dStuck, dOpt, dVar, dC, dRes, res, dOp2, dTest, dTruth, truth, dAndT, dOrT, dNotT, dIf, isBl, dAndV, dOrV, dNotV, dUn, gE, gSeq, gNx, gIf, gRet, gSet, gRetN, gStuck, bodyD, dCall, clL, cl, dCons, dNil, dFun, dResL, resL, T3.cond, gGt, gLt, gLe, gGe, gCmp, gInt, ofS_beq, ofS_inj, q_str, nq_str, q_int, nq_int, q_str2, in3, T3.dTup, okLen, sizeLine, gAdd, gAddI, gMul, ix0t, ix1t, ix2t, ix3t, ix0l, ix1l, ix2l, ix3l, gFld, dFld, fldOf, insAt, lstAt, dicAt, cellAt, insC, lstC, dicC, dSt, isC, gPut, T3.putAt, putFD, dNewRef, dFrz, cellV, cellD, nLst, gLen4, gLen, gExpr, gAppend, oneOf, nDictOf, dMake, get_end, get_end1, get_end2, get_end3, set_end, nLc, wOk, isOwn, iSrc, srcOf, srcRef, nListOf, tgName, setIf, wipe3, List.lookup, seqOf, Function.comp_def, StepOk, gFor, gInt1, gMod, gDiv, T3.gSub, eD]
  have C1 := T.C.app a [Cell.dic (env1 k)]
  have S1 := get_app T.S [Cell.dic (env1 k)]
  by_cases hl : es.length < 50
  · have sd := send_ok a C1 (row / 3 % 4) u (.ref h.length) k (.inr ⟨_, rfl, by simp [dBind, dPure, dStuck, dOpt, dVar, dC, dRes, res, dOp2, dTest, dTruth, truth, dAndT, dOrT, dNotT, dIf, isBl, dAndV, dOrV, dNotV, dUn, gE, gSeq, gNx, gIf, gRet, gSet, gRetN, gStuck, bodyD, dCall, clL, cl, dCons, dNil, dFun, dResL, resL, T3.cond, gGt, gLt, gLe, gGe, gCmp, gInt, ofS_beq, ofS_inj, q_str, nq_str, q_int, nq_int, q_str2, in3, T3.dTup, okLen, sizeLine, gAdd, gAddI, gMul, ix0t, ix1t, ix2t, ix3t, ix0l, ix1l, ix2l, ix3l, gFld, dFld, fldOf, insAt, lstAt, dicAt, cellAt, insC, lstC, dicC, dSt, isC, gPut, T3.putAt, putFD, dNewRef, dFrz, cellV, cellD, nLst, gLen4, gLen, gExpr, gAppend, oneOf, nDictOf, dMake, get_end, get_end1, get_end2, get_end3, set_end, nLc, wOk, isOwn, iSrc, srcOf, srcRef, nListOf, tgName, setIf, wipe3, List.lookup, seqOf, Function.comp_def, StepOk, gFor, gInt1, gMod, gDiv, T3.gSub]⟩) hl
    rw [ed] at sd
    have e10 : dMeth a.c_Cell "send" 4 (den_Cell_send a) (dVar 3) (dCons (dOp2 gIx4 (dVar 8) (dC (.int 1))) (dCons (dOp2 gIx4 (dVar 8) (dC (.int 2))) (dCons (dVar 9) dNil))) (σW ns R st c (stD b s n) fl x6 (some (.val (.int row))) (some (.val eD)) (some (.val (.ref h.length))) x10 x11 x12 x13 x14) (h ++ [Cell.dic (env1 k)]) =
        .ok (.bl true) ((h ++ [Cell.dic (env1 k)]).set q (qD (es ++ [Ent.mk false (row / 3 % 4) u k]))) := by
      simp [dBind, dPure, dStuck, dOpt, dVar, dC, dRes, res, dOp2, dTest, dTruth, truth, dAndT, dOrT, dNotT, dIf, isBl, dAndV, dOrV, dNotV, dUn, gE, gSeq, gNx, gIf, gRet, gSet, gRetN, gStuck, bodyD, dCall, clL, cl, dCons, dNil, dFun, dResL, resL, T3.cond, gGt, gLt, gLe, gGe, gCmp, gInt, ofS_beq, ofS_inj, q_str, nq_str, q_int, nq_int, q_str2, in3, T3.dTup, okLen, sizeLine, gAdd, gAddI, gMul, ix0t, ix1t, ix2t, ix3t, ix0l, ix1l, ix2l, ix3l, gFld, dFld, fldOf, insAt, lstAt, dicAt, cellAt, insC, lstC, dicC, dSt, isC, gPut, T3.putAt, putFD, dNewRef, dFrz, cellV, cellD, nLst, gLen4, gLen, gExpr, gAppend, oneOf, nDictOf, dMake, get_end, get_end1, get_end2, get_end3, set_end, nLc, wOk, isOwn, iSrc, srcOf, srcRef, nListOf, tgName, setIf, wipe3, List.lookup, seqOf, Function.comp_def, StepOk, gFor, gInt1, gMod, gDiv, T3.gSub, dMeth, mOk, C1.c, ofS_inj, eD, sd]
    have e11 : gPutK (dVar 9) (dC (.str "k")) (dC (.int 99)) (σW ns R st c (stD b s n) fl x6 (some (.val (.int row))) (some (.val eD)) (some (.val (.ref h.length))) (some (.val (.bl true))) x11 x12 x13 x14) ((h ++ [Cell.dic (env1 k)]).set q (qD (es ++ [Ent.mk false (row / 3 % 4) u k]))) =
        .nx (σW ns R st c (stD b s n) fl x6 (some (.val (.int row))) (some (.val eD)) (some (.val (.ref h.length))) (some (.val (.bl true))) x11 x12 x13 x14) (((h ++ [Cell.dic (env1 k)]).set q (qD (es ++ [Ent.mk false (row / 3 % 4) u k]))).set h.length (Cell.dic [(Sum.inr "k", D.int 99)])) := by
      have g1 : ((h ++ [Cell.dic (env1 k)]).set q (qD (es ++ [Ent.mk false (row / 3 % 4) u k])))[h.length]? = some (Cell.dic (env1 k)) := by
        rw [List.getElem?_set_ne (by omega)]; simp [dBind, dPure, dStuck, dOpt, dVar, dC, dRes, res, dOp2, dTest, dTruth, truth, dAndT, dOrT, dNotT, dIf, isBl, dAndV, dOrV, dNotV, dUn, gE, gSeq, gNx, gIf, gRet, gSet, gRetN, gStuck, bodyD, dCall, clL, cl, dCons, dNil, dFun, dResL, resL, T3.cond, gGt, gLt, gLe, gGe, gCmp, gInt, ofS_beq, ofS_inj, q_str, nq_str, q_int, nq_int, q_str2, in3, T3.dTup, okLen, sizeLine, gAdd, gAddI, gMul, ix0t, ix1t, ix2t, ix3t, ix0l, ix1l, ix2l, ix3l, gFld, dFld, fldOf, insAt, lstAt, dicAt, cellAt, insC, lstC, dicC, dSt, isC, gPut, T3.putAt, putFD, dNewRef, dFrz, cellV, cellD, nLst, gLen4, gLen, gExpr, gAppend, oneOf, nDictOf, dMake, get_end, get_end1, get_end2, get_end3, set_end, nLc, wOk, isOwn, iSrc, srcOf, srcRef, nListOf, tgName, setIf, wipe3, List.lookup, seqOf, Function.comp_def, StepOk, gFor, gInt1, gMod, gDiv, T3.gSub]
      have pd : putD (env1 k) (Sum.inr "k") (D.int 99) = ([(Sum.inr "k", D.int 99)] : List (Key × D)) := by simp [dBind, dPure, dStuck, dOpt, dVar, dC, dRes, res, dOp2, dTest, dTruth, truth, dAndT, dOrT, dNotT, dIf, isBl, dAndV, dOrV, dNotV, dUn, gE, gSeq, gNx, gIf, gRet, gSet, gRetN, gStuck, bodyD, dCall, clL, cl, dCons, dNil, dFun, dResL, resL, T3.cond, gGt, gLt, gLe, gGe, gCmp, gInt, ofS_beq, ofS_inj, q_str, nq_str, q_int, nq_int, q_str2, in3, T3.dTup, okLen, sizeLine, gAdd, gAddI, gMul, ix0t, ix1t, ix2t, ix3t, ix0l, ix1l, ix2l, ix3l, gFld, dFld, fldOf, insAt, lstAt, dicAt, cellAt, insC, lstC, dicC, dSt, isC, gPut, T3.putAt, putFD, dNewRef, dFrz, cellV, cellD, nLst, gLen4, gLen, gExpr, gAppend, oneOf, nDictOf, dMake, get_end, get_end1, get_end2, get_end3, set_end, nLc, wOk, isOwn, iSrc, srcOf, srcRef, nListOf, tgName, setIf, wipe3, List.lookup, seqOf, Function.comp_def, StepOk, gFor, gInt1, gMod, gDiv, T3.gSub, putD]
      generalize (h ++ [Cell.dic (env1 k)]).set q (qD (es ++ [Ent.mk false (row / 3 % 4) u k])) = hh at g1 ⊢
      simp [dBind, dPure, dStuck, dOpt, dVar, dC, dRes, res, dOp2, dTest, dTruth, truth, dAndT, dOrT, dNotT, dIf, isBl, dAndV, dOrV, dNotV, dUn, gE, gSeq, gNx, gIf, gRet, gSet, gRetN, gStuck, bodyD, dCall, clL, cl, dCons, dNil, dFun, dResL, resL, T3.cond, gGt, gLt, gLe, gGe, gCmp, gInt, ofS_beq, ofS_inj, q_str, nq_str, q_int, nq_int, q_str2, in3, T3.dTup, okLen, sizeLine, gAdd, gAddI, gMul, ix0t, ix1t, ix2t, ix3t, ix0l, ix1l, ix2l, ix3l, gFld, dFld, fldOf, insAt, lstAt, dicAt, cellAt, insC, lstC, dicC, dSt, isC, gPut, T3.putAt, putFD, dNewRef, dFrz, cellV, cellD, nLst, gLen4, gLen, gExpr, gAppend, oneOf, nDictOf, dMake, get_end, get_end1, get_end2, get_end3, set_end, nLc, wOk, isOwn, iSrc, srcOf, srcRef, nListOf, tgName, setIf, wipe3, List.lookup, seqOf, Function.comp_def, StepOk, gFor, gInt1, gMod, gDiv, T3.gSub, gPutK, keyOf, g1, pd]
    have S3' : (((h ++ [Cell.dic (env1 k)]).set q (qD (es ++ [Ent.mk false (row / 3 % 4) u k]))).set h.length (Cell.dic [(Sum.inr "k", D.int 99)]))[s]? = some (qD es) := by
      rw [List.getElem?_set_ne (by omega), List.getElem?_set_ne T.ne]; exact S1
    have l50 : (es.length : Int) < 50 := by omega
    have al : es.length < 16777216 := by omega
    have e12 : gIf (dOrT (dTest (dOp2 (gEq4 true) (dVar 10) (dOp2 gLt (dFun gLen4 (dCons (dOp2 gIx4 (dVar 4) (dC (.int 1))) dNil)) (dC (.int 50))))) (dNotT (dTruth (dIsi "bool" (dVar 10))))) (gRet (dC (.bl false))) gNx
        (σW ns R st c (stD b s n) fl x6 (some (.val (.int row))) (some (.val eD)) (some (.val (.ref h.length))) (some (.val (.bl true))) x11 x12 x13 x14) (((h ++ [Cell.dic (env1 k)]).set q (qD (es ++ [Ent.mk false (row / 3 % 4) u k]))).set h.length (Cell.dic [(Sum.inr "k", D.int 99)])) =
        .nx (σW ns R st c (stD b s n) fl x6 (some (.val (.int row))) (some (.val eD)) (some (.val (.ref h.length))) (some (.val (.bl true))) x11 x12 x13 x14) (((h ++ [Cell.dic (env1 k)]).set q (qD (es ++ [Ent.mk false (row / 3 % 4) u k]))).set h.length (Cell.dic [(Sum.inr "k", D.int 99)])) := by
      generalize ((h ++ [Cell.dic (env1 k)]).set q (qD (es ++ [Ent.mk false (row / 3 % 4) u k]))).set h.length (Cell.dic [(Sum.inr "k", D.int 99)]) = hh at S3' ⊢
      refine if_nx (or_ff ?_ ?_)
      · simp [dBind, dPure, dStuck, dOpt, dVar, dC, dRes, res, dOp2, dTest, dTruth, truth, dAndT, dOrT, dNotT, dIf, isBl, dAndV, dOrV, dNotV, dUn, gE, gSeq, gNx, gIf, gRet, gSet, gRetN, gStuck, bodyD, dCall, clL, cl, dCons, dNil, dFun, dResL, resL, T3.cond, gGt, gLt, gLe, gGe, gCmp, gInt, ofS_beq, ofS_inj, q_str, nq_str, q_int, nq_int, q_str2, in3, T3.dTup, okLen, sizeLine, gAdd, gAddI, gMul, ix0t, ix1t, ix2t, ix3t, ix0l, ix1l, ix2l, ix3l, gFld, dFld, fldOf, insAt, lstAt, dicAt, cellAt, insC, lstC, dicC, dSt, isC, gPut, T3.putAt, putFD, dNewRef, dFrz, cellV, cellD, nLst, gLen4, gLen, gExpr, gAppend, oneOf, nDictOf, dMake, get_end, get_end1, get_end2, get_end3, set_end, nLc, wOk, isOwn, iSrc, srcOf, srcRef, nListOf, tgName, setIf, wipe3, List.lookup, seqOf, Function.comp_def, StepOk, gFor, gInt1, gMod, gDiv, T3.gSub, S3', l50, ne_bl]
      · simp [dBind, dPure, dStuck, dOpt, dVar, dC, dRes, res, dOp2, dTest, dTruth, truth, dAndT, dOrT, dNotT, dIf, isBl, dAndV, dOrV, dNotV, dUn, gE, gSeq, gNx, gIf, gRet, gSet, gRetN, gStuck, bodyD, dCall, clL, cl, dCons, dNil, dFun, dResL, resL, T3.cond, gGt, gLt, gLe, gGe, gCmp, gInt, ofS_beq, ofS_inj, q_str, nq_str, q_int, nq_int, q_str2, in3, T3.dTup, okLen, sizeLine, gAdd, gAddI, gMul, ix0t, ix1t, ix2t, ix3t, ix0l, ix1l, ix2l, ix3l, gFld, dFld, fldOf, insAt, lstAt, dicAt, cellAt, insC, lstC, dicC, dSt, isC, gPut, T3.putAt, putFD, dNewRef, dFrz, cellV, cellD, nLst, gLen4, gLen, gExpr, gAppend, oneOf, nDictOf, dMake, get_end, get_end1, get_end2, get_end3, set_end, nLc, wOk, isOwn, iSrc, srcOf, srcRef, nListOf, tgName, setIf, wipe3, List.lookup, seqOf, Function.comp_def, StepOk, gFor, gInt1, gMod, gDiv, T3.gSub, dIsi, isi_bl]
    have ent : (Ent.mk false (row / 3 % 4) u k).d = eD := by simp [dBind, dPure, dStuck, dOpt, dVar, dC, dRes, res, dOp2, dTest, dTruth, truth, dAndT, dOrT, dNotT, dIf, isBl, dAndV, dOrV, dNotV, dUn, gE, gSeq, gNx, gIf, gRet, gSet, gRetN, gStuck, bodyD, dCall, clL, cl, dCons, dNil, dFun, dResL, resL, T3.cond, gGt, gLt, gLe, gGe, gCmp, gInt, ofS_beq, ofS_inj, q_str, nq_str, q_int, nq_int, q_str2, in3, T3.dTup, okLen, sizeLine, gAdd, gAddI, gMul, ix0t, ix1t, ix2t, ix3t, ix0l, ix1l, ix2l, ix3l, gFld, dFld, fldOf, insAt, lstAt, dicAt, cellAt, insC, lstC, dicC, dSt, isC, gPut, T3.putAt, putFD, dNewRef, dFrz, cellV, cellD, nLst, gLen4, gLen, gExpr, gAppend, oneOf, nDictOf, dMake, get_end, get_end1, get_end2, get_end3, set_end, nLc, wOk, isOwn, iSrc, srcOf, srcRef, nListOf, tgName, setIf, wipe3, List.lookup, seqOf, Function.comp_def, StepOk, gFor, gInt1, gMod, gDiv, T3.gSub, Ent.d, ed, eD]
    have e13 : gIf (dTruth (dVar 10)) (gAppend (dOp2 gIx4 (dVar 4) (dC (.int 1))) (dCons (dVar 8) dNil)) gNx
        (σW ns R st c (stD b s n) fl x6 (some (.val (.int row))) (some (.val eD)) (some (.val (.ref h.length))) (some (.val (.bl true))) x11 x12 x13 x14) (((h ++ [Cell.dic (env1 k)]).set q (qD (es ++ [Ent.mk false (row / 3 % 4) u k]))).set h.length (Cell.dic [(Sum.inr "k", D.int 99)])) =
        .nx (σW ns R st c (stD b s n) fl x6 (some (.val (.int row))) (some (.val eD)) (some (.val (.ref h.length))) (some (.val (.bl true))) x11 x12 x13 x14) ((((h ++ [Cell.dic (env1 k)]).set q (qD (es ++ [Ent.mk false (row / 3 % 4) u k]))).set h.length (Cell.dic [(Sum.inr "k", D.int 99)])).set s (qD (es ++ [Ent.mk false (row / 3 % 4) u k]))) := by
      have qe : qD (es ++ [Ent.mk false (row / 3 % 4) u k]) = Cell.lst (es.map Ent.d ++ [eD]) := by simp [dBind, dPure, dStuck, dOpt, dVar, dC, dRes, res, dOp2, dTest, dTruth, truth, dAndT, dOrT, dNotT, dIf, isBl, dAndV, dOrV, dNotV, dUn, gE, gSeq, gNx, gIf, gRet, gSet, gRetN, gStuck, bodyD, dCall, clL, cl, dCons, dNil, dFun, dResL, resL, T3.cond, gGt, gLt, gLe, gGe, gCmp, gInt, ofS_beq, ofS_inj, q_str, nq_str, q_int, nq_int, q_str2, in3, T3.dTup, okLen, sizeLine, gAdd, gAddI, gMul, ix0t, ix1t, ix2t, ix3t, ix0l, ix1l, ix2l, ix3l, gFld, dFld, fldOf, insAt, lstAt, dicAt, cellAt, insC, lstC, dicC, dSt, isC, gPut, T3.putAt, putFD, dNewRef, dFrz, cellV, cellD, nLst, gLen4, gLen, gExpr, gAppend, oneOf, nDictOf, dMake, get_end, get_end1, get_end2, get_end3, set_end, nLc, wOk, isOwn, iSrc, srcOf, srcRef, nListOf, tgName, setIf, wipe3, List.lookup, seqOf, Function.comp_def, StepOk, gFor, gInt1, gMod, gDiv, T3.gSub, qD, ent]
      rw [if_tt (by simp [dBind, dPure, dStuck, dOpt, dVar, dC, dRes, res, dOp2, dTest, dTruth, truth, dAndT, dOrT, dNotT, dIf, isBl, dAndV, dOrV, dNotV, dUn, gE, gSeq, gNx, gIf, gRet, gSet, gRetN, gStuck, bodyD, dCall, clL, cl, dCons, dNil, dFun, dResL, resL, T3.cond, gGt, gLt, gLe, gGe, gCmp, gInt, ofS_beq, ofS_inj, q_str, nq_str, q_int, nq_int, q_str2, in3, T3.dTup, okLen, sizeLine, gAdd, gAddI, gMul, ix0t, ix1t, ix2t, ix3t, ix0l, ix1l, ix2l, ix3l, gFld, dFld, fldOf, insAt, lstAt, dicAt, cellAt, insC, lstC, dicC, dSt, isC, gPut, T3.putAt, putFD, dNewRef, dFrz, cellV, cellD, nLst, gLen4, gLen, gExpr, gAppend, oneOf, nDictOf, dMake, get_end, get_end1, get_end2, get_end3, set_end, nLc, wOk, isOwn, iSrc, srcOf, srcRef, nListOf, tgName, setIf, wipe3, List.lookup, seqOf, Function.comp_def, StepOk, gFor, gInt1, gMod, gDiv, T3.gSub])]
      generalize ((h ++ [Cell.dic (env1 k)]).set q (qD (es ++ [Ent.mk false (row / 3 % 4) u k]))).set h.length (Cell.dic [(Sum.inr "k", D.int 99)]) = hh at S3'
      rw [qe]
      simp [dBind, dPure, dStuck, dOpt, dVar, dC, dRes, res, dOp2, dTest, dTruth, truth, dAndT, dOrT, dNotT, dIf, isBl, dAndV, dOrV, dNotV, dUn, gE, gSeq, gNx, gIf, gRet, gSet, gRetN, gStuck, bodyD, dCall, clL, cl, dCons, dNil, dFun, dResL, resL, T3.cond, gGt, gLt, gLe, gGe, gCmp, gInt, ofS_beq, ofS_inj, q_str, nq_str, q_int, nq_int, q_str2, in3, T3.dTup, okLen, sizeLine, gAdd, gAddI, gMul, ix0t, ix1t, ix2t, ix3t, ix0l, ix1l, ix2l, ix3l, gFld, dFld, fldOf, insAt, lstAt, dicAt, cellAt, insC, lstC, dicC, dSt, isC, gPut, T3.putAt, putFD, dNewRef, dFrz, cellV, cellD, nLst, gLen4, gLen, gExpr, gAppend, oneOf, nDictOf, dMake, get_end, get_end1, get_end2, get_end3, set_end, nLc, wOk, isOwn, iSrc, srcOf, srcRef, nListOf, tgName, setIf, wipe3, List.lookup, seqOf, Function.comp_def, StepOk, gFor, gInt1, gMod, gDiv, T3.gSub, S3', al, eD]
    refine ⟨_, _, some (.val eD), some (.val (.ref h.length)), some (.val (.bl true)), ?_, sit_send T (row / 3 % 4) u gu k k0 (by omega) hl⟩
    exact (gSeq_nx (stSet e8 rfl)).trans ((gSeq_nx (stSet e9 rfl)).trans ((gSeq_nx (stSet e10 rfl)).trans ((gSeq_nx e11).trans ((gSeq_nx e12).trans e13))))
  · have sd := send_full a C1 (row / 3 % 4) u (.ref h.length) hl rfl
    rw [ed] at sd
    have e10 : dMeth a.c_Cell "send" 4 (den_Cell_send a) (dVar 3) (dCons (dOp2 gIx4 (dVar 8) (dC (.int 1))) (dCons (dOp2 gIx4 (dVar 8) (dC (.int 2))) (dCons (dVar 9) dNil))) (σW ns R st c (stD b s n) fl x6 (some (.val (.int row))) (some (.val eD)) (some (.val (.ref h.length))) x10 x11 x12 x13 x14) (h ++ [Cell.dic (env1 k)]) =
        .ok (.bl false) (h ++ [Cell.dic (env1 k)]) := by
      simp [dBind, dPure, dStuck, dOpt, dVar, dC, dRes, res, dOp2, dTest, dTruth, truth, dAndT, dOrT, dNotT, dIf, isBl, dAndV, dOrV, dNotV, dUn, gE, gSeq, gNx, gIf, gRet, gSet, gRetN, gStuck, bodyD, dCall, clL, cl, dCons, dNil, dFun, dResL, resL, T3.cond, gGt, gLt, gLe, gGe, gCmp, gInt, ofS_beq, ofS_inj, q_str, nq_str, q_int, nq_int, q_str2, in3, T3.dTup, okLen, sizeLine, gAdd, gAddI, gMul, ix0t, ix1t, ix2t, ix3t, ix0l, ix1l, ix2l, ix3l, gFld, dFld, fldOf, insAt, lstAt, dicAt, cellAt, insC, lstC, dicC, dSt, isC, gPut, T3.putAt, putFD, dNewRef, dFrz, cellV, cellD, nLst, gLen4, gLen, gExpr, gAppend, oneOf, nDictOf, dMake, get_end, get_end1, get_end2, get_end3, set_end, nLc, wOk, isOwn, iSrc, srcOf, srcRef, nListOf, tgName, setIf, wipe3, List.lookup, seqOf, Function.comp_def, StepOk, gFor, gInt1, gMod, gDiv, T3.gSub, dMeth, mOk, C1.c, ofS_inj, eD, sd]
    have e11 : gPutK (dVar 9) (dC (.str "k")) (dC (.int 99)) (σW ns R st c (stD b s n) fl x6 (some (.val (.int row))) (some (.val eD)) (some (.val (.ref h.length))) (some (.val (.bl false))) x11 x12 x13 x14) (h ++ [Cell.dic (env1 k)]) =
        .nx (σW ns R st c (stD b s n) fl x6 (some (.val (.int row))) (some (.val eD)) (some (.val (.ref h.length))) (some (.val (.bl false))) x11 x12 x13 x14) (h ++ [Cell.dic [(Sum.inr "k", D.int 99)]]) := by
      have pd : putD (env1 k) (Sum.inr "k") (D.int 99) = ([(Sum.inr "k", D.int 99)] : List (Key × D)) := by simp [dBind, dPure, dStuck, dOpt, dVar, dC, dRes, res, dOp2, dTest, dTruth, truth, dAndT, dOrT, dNotT, dIf, isBl, dAndV, dOrV, dNotV, dUn, gE, gSeq, gNx, gIf, gRet, gSet, gRetN, gStuck, bodyD, dCall, clL, cl, dCons, dNil, dFun, dResL, resL, T3.cond, gGt, gLt, gLe, gGe, gCmp, gInt, ofS_beq, ofS_inj, q_str, nq_str, q_int, nq_int, q_str2, in3, T3.dTup, okLen, sizeLine, gAdd, gAddI, gMul, ix0t, ix1t, ix2t, ix3t, ix0l, ix1l, ix2l, ix3l, gFld, dFld, fldOf, insAt, lstAt, dicAt, cellAt, insC, lstC, dicC, dSt, isC, gPut, T3.putAt, putFD, dNewRef, dFrz, cellV, cellD, nLst, gLen4, gLen, gExpr, gAppend, oneOf, nDictOf, dMake, get_end, get_end1, get_end2, get_end3, set_end, nLc, wOk, isOwn, iSrc, srcOf, srcRef, nListOf, tgName, setIf, wipe3, List.lookup, seqOf, Function.comp_def, StepOk, gFor, gInt1, gMod, gDiv, T3.gSub, putD]
      simp [dBind, dPure, dStuck, dOpt, dVar, dC, dRes, res, dOp2, dTest, dTruth, truth, dAndT, dOrT, dNotT, dIf, isBl, dAndV, dOrV, dNotV, dUn, gE, gSeq, gNx, gIf, gRet, gSet, gRetN, gStuck, bodyD, dCall, clL, cl, dCons, dNil, dFun, dResL, resL, T3.cond, gGt, gLt, gLe, gGe, gCmp, gInt, ofS_beq, ofS_inj, q_str, nq_str, q_int, nq_int, q_str2, in3, T3.dTup, okLen, sizeLine, gAdd, gAddI, gMul, ix0t, ix1t, ix2t, ix3t, ix0l, ix1l, ix2l, ix3l, gFld, dFld, fldOf, insAt, lstAt, dicAt, cellAt, insC, lstC, dicC, dSt, isC, gPut, T3.putAt, putFD, dNewRef, dFrz, cellV, cellD, nLst, gLen4, gLen, gExpr, gAppend, oneOf, nDictOf, dMake, get_end, get_end1, get_end2, get_end3, set_end, nLc, wOk, isOwn, iSrc, srcOf, srcRef, nListOf, tgName, setIf, wipe3, List.lookup, seqOf, Function.comp_def, StepOk, gFor, gInt1, gMod, gDiv, T3.gSub, gPutK, keyOf, pd]
    have S3' := get_app T.S [Cell.dic [(Sum.inr "k", D.int 99)]]
    have l50 : ¬ (es.length : Int) < 50 := by omega
    have e12 : gIf (dOrT (dTest (dOp2 (gEq4 true) (dVar 10) (dOp2 gLt (dFun gLen4 (dCons (dOp2 gIx4 (dVar 4) (dC (.int 1))) dNil)) (dC (.int 50))))) (dNotT (dTruth (dIsi "bool" (dVar 10))))) (gRet (dC (.bl false))) gNx
        (σW ns R st c (stD b s n) fl x6 (some (.val (.int row))) (some (.val eD)) (some (.val (.ref h.length))) (some (.val (.bl false))) x11 x12 x13 x14) (h ++ [Cell.dic [(Sum.inr "k", D.int 99)]]) =
        .nx (σW ns R st c (stD b s n) fl x6 (some (.val (.int row))) (some (.val eD)) (some (.val (.ref h.length))) (some (.val (.bl false))) x11 x12 x13 x14) (h ++ [Cell.dic [(Sum.inr "k", D.int 99)]]) := by
      refine if_nx (or_ff ?_ ?_)
      · simp [dBind, dPure, dStuck, dOpt, dVar, dC, dRes, res, dOp2, dTest, dTruth, truth, dAndT, dOrT, dNotT, dIf, isBl, dAndV, dOrV, dNotV, dUn, gE, gSeq, gNx, gIf, gRet, gSet, gRetN, gStuck, bodyD, dCall, clL, cl, dCons, dNil, dFun, dResL, resL, T3.cond, gGt, gLt, gLe, gGe, gCmp, gInt, ofS_beq, ofS_inj, q_str, nq_str, q_int, nq_int, q_str2, in3, T3.dTup, okLen, sizeLine, gAdd, gAddI, gMul, ix0t, ix1t, ix2t, ix3t, ix0l, ix1l, ix2l, ix3l, gFld, dFld, fldOf, insAt, lstAt, dicAt, cellAt, insC, lstC, dicC, dSt, isC, gPut, T3.putAt, putFD, dNewRef, dFrz, cellV, cellD, nLst, gLen4, gLen, gExpr, gAppend, oneOf, nDictOf, dMake, get_end, get_end1, get_end2, get_end3, set_end, nLc, wOk, isOwn, iSrc, srcOf, srcRef, nListOf, tgName, setIf, wipe3, List.lookup, seqOf, Function.comp_def, StepOk, gFor, gInt1, gMod, gDiv, T3.gSub, S3', l50, ne_bl]
      · simp [dBind, dPure, dStuck, dOpt, dVar, dC, dRes, res, dOp2, dTest, dTruth, truth, dAndT, dOrT, dNotT, dIf, isBl, dAndV, dOrV, dNotV, dUn, gE, gSeq, gNx, gIf, gRet, gSet, gRetN, gStuck, bodyD, dCall, clL, cl, dCons, dNil, dFun, dResL, resL, T3.cond, gGt, gLt, gLe, gGe, gCmp, gInt, ofS_beq, ofS_inj, q_str, nq_str, q_int, nq_int, q_str2, in3, T3.dTup, okLen, sizeLine, gAdd, gAddI, gMul, ix0t, ix1t, ix2t, ix3t, ix0l, ix1l, ix2l, ix3l, gFld, dFld, fldOf, insAt, lstAt, dicAt, cellAt, insC, lstC, dicC, dSt, isC, gPut, T3.putAt, putFD, dNewRef, dFrz, cellV, cellD, nLst, gLen4, gLen, gExpr, gAppend, oneOf, nDictOf, dMake, get_end, get_end1, get_end2, get_end3, set_end, nLc, wOk, isOwn, iSrc, srcOf, srcRef, nListOf, tgName, setIf, wipe3, List.lookup, seqOf, Function.comp_def, StepOk, gFor, gInt1, gMod, gDiv, T3.gSub, dIsi, isi_bl]
    have e13 : gIf (dTruth (dVar 10)) (gAppend (dOp2 gIx4 (dVar 4) (dC (.int 1))) (dCons (dVar 8) dNil)) gNx
        (σW ns R st c (stD b s n) fl x6 (some (.val (.int row))) (some (.val eD)) (some (.val (.ref h.length))) (some (.val (.bl false))) x11 x12 x13 x14) (h ++ [Cell.dic [(Sum.inr "k", D.int 99)]]) =
        .nx (σW ns R st c (stD b s n) fl x6 (some (.val (.int row))) (some (.val eD)) (some (.val (.ref h.length))) (some (.val (.bl false))) x11 x12 x13 x14) (h ++ [Cell.dic [(Sum.inr "k", D.int 99)]]) := if_nx (by simp [dBind, dPure, dStuck, dOpt, dVar, dC, dRes, res, dOp2, dTest, dTruth, truth, dAndT, dOrT, dNotT, dIf, isBl, dAndV, dOrV, dNotV, dUn, gE, gSeq, gNx, gIf, gRet, gSet, gRetN, gStuck, bodyD, dCall, clL, cl, dCons, dNil, dFun, dResL, resL, T3.cond, gGt, gLt, gLe, gGe, gCmp, gInt, ofS_beq, ofS_inj, q_str, nq_str, q_int, nq_int, q_str2, in3, T3.dTup, okLen, sizeLine, gAdd, gAddI, gMul, ix0t, ix1t, ix2t, ix3t, ix0l, ix1l, ix2l, ix3l, gFld, dFld, fldOf, insAt, lstAt, dicAt, cellAt, insC, lstC, dicC, dSt, isC, gPut, T3.putAt, putFD, dNewRef, dFrz, cellV, cellD, nLst, gLen4, gLen, gExpr, gAppend, oneOf, nDictOf, dMake, get_end, get_end1, get_end2, get_end3, set_end, nLc, wOk, isOwn, iSrc, srcOf, srcRef, nListOf, tgName, setIf, wipe3, List.lookup, seqOf, Function.comp_def, StepOk, gFor, gInt1, gMod, gDiv, T3.gSub])
    refine ⟨_, es, some (.val eD), some (.val (.ref h.length)), some (.val (.bl false)), ?_, T.later (h ++ [Cell.dic [(Sum.inr "k", D.int 99)]]) (by rw [T.C.c]; exact get_app T.C.c _) (by rw [T.C.q]; exact get_app T.C.q _) (by rw [T.S]; exact S3')⟩
    exact (gSeq_nx (stSet e8 rfl)).trans ((gSeq_nx (stSet e9 rfl)).trans ((gSeq_nx (stSet e10 rfl)).trans ((gSeq_nx e11).trans ((gSeq_nx e12).trans e13))))
end
end W

set_option Elab.async false
set_option linter.all false
set_option maxRecDepth 100000
set_option maxHeartbeats 1000000
namespace W
open PySem L2 T3
section
variable {a : Ad}
def laneF (i : Int) : Int := if i = 0 then 3 else if i = 1 then 6 else if i = 2 then 12 else 24
theorem or_ff' {f g : F Bool} {σ : S3} {h : HD} (e : f σ h = .ok false h) (e2 : g σ h = .ok false h) : dOrT f g σ h = .ok false h := or_ff e e2
theorem turn_proc {h : HD} {c q s : Nat} {b n : Int} {es : List Ent} {t : Nat} (T : Sit a h c q s b n es t) (ht : t ≤ 58) (ns R : List Int) (st : Int) (fl : Bool) (row : Int) (x6 x8 x9 x10 x11 x12 x13 : Option T3.Slot) :
    ∃ (h' : HD) (c' q' s' : Nat) (b' n' : Int) (es' : List Ent) (y11 y12 y13 : Option T3.Slot), (gSeq (gSet 11 (dFrz (nLc (dBind (dCons (dC (.int 4)) dNil) kRng1) (tgName 14) (lb_law_0 a) (lb_law_1 a) [14])))
  (gSeq (gSet 12 (dMeth a.c_Cell "copied" 1 (den_Cell_copied a) (dVar 3) dNil))
  (gSeq (gSet 13 (dMethK a.c_Cell "processed" 2 1 3 (den_Cell_processed a) (dVar 3) (dCons (dVar 11) dNil) (dCons (dC (.int 7)) dNil)))
  (gSeq (gIf (dOrT (dNotT (dTruth (dCall 2 (den_l_same a) (dCons (dVar 3) (dCons (dVar 4) dNil))))) (dOrT (dNotT (dTruth (dCall 2 (den_l_same a) (dCons (dVar 12) (dCons (dVar 4) dNil))))) (dTest (dNeI a.c_Cell (den_Cell___eq__ a) (dVar 12) (dVar 3))))) (gRet (dC (.bl false))) gNx)
  (gSeq (gExpr (dMeth a.c_Cell "send" 4 (den_Cell_send a) (dVar 3) (dCons (dC (.int 0)) (dCons (dTup (dCons (dC (.str "number")) (dCons (dC (.int 1)) dNil))) (dCons (dFrz (nDisp [((dC (.str "k")), (dC (.int 1)))])) dNil)))))
  (gSeq (gIf (dTest (dOp2 (gEq4 true) (dFun gLen4 (dCons (dFld a.c_Cell "queue" (dVar 12)) dNil)) (dFun gLen4 (dCons (dOp2 gIx4 (dVar 4) (dC (.int 1))) dNil)))) (gRet (dC (.bl false))) gNx)
  (gSeq (gSet 3 (dVar 13))
  (gSet 4 (dCall 2 (den_l_processed a) (dCons (dVar 4) (dCons (dVar 11) dNil)))))))))))
      (σW ns R st c (stD b s n) fl x6 (some (.val (.int row))) x8 x9 x10 x11 x12 x13 none) h =
      .nx (σW ns R st c' (stD b' s' n') fl x6 (some (.val (.int row))) x8 x9 x10 y11 y12 y13 none) h' ∧ Sit a h' c' q' s' b' n' es' (t + 1) := by
  obtain ⟨L, hL⟩ : ∃ L : List Int, L = ([0, 1, 2, 3] : List Int).filter (fun i => row / laneF i % 2 == 1) := ⟨_, rfl⟩
  have hc := (List.getElem?_eq_some_iff.mp T.C.c).1
  have hq := (List.getElem?_eq_some_iff.mp T.C.q).1
  have hs := (List.getElem?_eq_some_iff.mp T.S).1
  have c1 : lcF always (tgName 14) (lb_law_0 a) (lb_law_1 a) (rngD 0 4) [] (σW ns R st c (stD b s n) fl x6 (some (.val (.int row))) x8 x9 x10 x11 x12 x13 none) h = .ok (.lst (L.map .int)) h := by
    rw [lc_filter (p := fun d => row / laneF (intD d) % 2 == 1) (f := fun d => d)]
    · rw [List.nil_append, List.map_id', rng4, hL, show ([.int 0, .int 1, .int 2, .int 3] : List D) = ([0, 1, 2, 3] : List Int).map .int from rfl, List.filter_map]
      rfl
    · rfl
    · simp [dBind, dPure, dStuck, dOpt, dVar, dC, dRes, res, dOp2, dTest, dTruth, truth, dAndT, dOrT, dNotT, dIf, isBl, dAndV, dOrV, dNotV, dUn, gE, gSeq, gNx, gIf, gRet, gSet, gRetN, gStuck, bodyD, dCall, clL, cl, dCons, dNil, dFun, dResL, resL, T3.cond, gGt, gLt, gLe, gGe, gCmp, gInt, ofS_beq, ofS_inj, q_str, nq_str, q_int, nq_int, q_str2, in3, T3.dTup, okLen, sizeLine, gAdd, gAddI, gMul, ix0t, ix1t, ix2t, ix3t, ix0l, ix1l, ix2l, ix3l, gFld, dFld, fldOf, insAt, lstAt, dicAt, cellAt, insC, lstC, dicC, dSt, isC, gPut, T3.putAt, putFD, dNewRef, dFrz, cellV, cellD, nLst, gLen4, gLen, gExpr, gAppend, oneOf, nDictOf, dMake, get_end, get_end1, get_end2, get_end3, set_end, nLc, wOk, isOwn, iSrc, srcOf, srcRef, nListOf, tgName, setIf, wipe3, List.lookup, seqOf, Function.comp_def, StepOk, gFor, gInt1, gMod, gDiv, T3.gSub, rngD]
    · intro x m
      rw [rng4] at m
      simp only [List.mem_cons, List.not_mem_nil, or_false] at m
      rcases m with rfl | rfl | rfl | rfl <;> refine ⟨_, rfl, ?_, fun _ => ⟨rfl, rfl⟩⟩ <;> simp [dBind, dPure, dStuck, dOpt, dVar, dC, dRes, res, dOp2, dTest, dTruth, truth, dAndT, dOrT, dNotT, dIf, isBl, dAndV, dOrV, dNotV, dUn, gE, gSeq, gNx, gIf, gRet, gSet, gRetN, gStuck, bodyD, dCall, clL, cl, dCons, dNil, dFun, dResL, resL, T3.cond, gGt, gLt, gLe, gGe, gCmp, gInt, ofS_beq, ofS_inj, q_str, nq_str, q_int, nq_int, q_str2, in3, T3.dTup, okLen, sizeLine, gAdd, gAddI, gMul, ix0t, ix1t, ix2t, ix3t, ix0l, ix1l, ix2l, ix3l, gFld, dFld, fldOf, insAt, lstAt, dicAt, cellAt, insC, lstC, dicC, dSt, isC, gPut, T3.putAt, putFD, dNewRef, dFrz, cellV, cellD, nLst, gLen4, gLen, gExpr, gAppend, oneOf, nDictOf, dMake, get_end, get_end1, get_end2, get_end3, set_end, nLc, wOk, isOwn, iSrc, srcOf, srcRef, nListOf, tgName, setIf, wipe3, List.lookup, seqOf, Function.comp_def, StepOk, gFor, gInt1, gMod, gDiv, T3.gSub, lb_law_0, intD, laneF]
  have e11 : dFrz (nLc (dBind (dCons (dC (.int 4)) dNil) kRng1) (tgName 14) (lb_law_0 a) (lb_law_1 a) [14]) (σW ns R st c (stD b s n) fl x6 (some (.val (.int row))) x8 x9 x10 x11 x12 x13 none) h = .ok (.lst (L.map .int)) h := by
    have ir4 : inR 4 = true := by decide
    simp only [T3.dFrz, T3.dBind, T3.nLc, T3.dCons, T3.dC, T3.dNil, T3.dPure, T3.dOpt, kRng1, intOf, ir4, if_true, T3.wOk, List.all_cons, List.all_nil, T3.isOwn, List.getElem?_cons_succ, List.getElem?_cons_zero, Bool.not_false, Bool.and_true, T3.wipe3, List.set_cons_succ, List.set_cons_zero]
    rw [show (Int.toNat 4) = 4 from rfl]
    rw [c1]
    rfl
  have hsm := T.small (by omega)
  have cp := copied_cell a T.C T.len
  have C1 := T.C.app a [cD a b (h.length + 2) n, qD [], qD es]
  have B1 : CAt a (h ++ [cD a b (h.length + 2) n, qD [], qD es]) h.length b (h.length + 2) n es := ⟨by simp [dBind, dPure, dStuck, dOpt, dVar, dC, dRes, res, dOp2, dTest, dTruth, truth, dAndT, dOrT, dNotT, dIf, isBl, dAndV, dOrV, dNotV, dUn, gE, gSeq, gNx, gIf, gRet, gSet, gRetN, gStuck, bodyD, dCall, clL, cl, dCons, dNil, dFun, dResL, resL, T3.cond, gGt, gLt, gLe, gGe, gCmp, gInt, ofS_beq, ofS_inj, q_str, nq_str, q_int, nq_int, q_str2, in3, T3.dTup, okLen, sizeLine, gAdd, gAddI, gMul, ix0t, ix1t, ix2t, ix3t, ix0l, ix1l, ix2l, ix3l, gFld, dFld, fldOf, insAt, lstAt, dicAt, cellAt, insC, lstC, dicC, dSt, isC, gPut, T3.putAt, putFD, dNewRef, dFrz, cellV, cellD, nLst, gLen4, gLen, gExpr, gAppend, oneOf, nDictOf, dMake, get_end, get_end1, get_end2, get_end3, set_end, nLc, wOk, isOwn, iSrc, srcOf, srcRef, nListOf, tgName, setIf, wipe3, List.lookup, seqOf, Function.comp_def, StepOk, gFor, gInt1, gMod, gDiv, T3.gSub], by simp [dBind, dPure, dStuck, dOpt, dVar, dC, dRes, res, dOp2, dTest, dTruth, truth, dAndT, dOrT, dNotT, dIf, isBl, dAndV, dOrV, dNotV, dUn, gE, gSeq, gNx, gIf, gRet, gSet, gRetN, gStuck, bodyD, dCall, clL, cl, dCons, dNil, dFun, dResL, resL, T3.cond, gGt, gLt, gLe, gGe, gCmp, gInt, ofS_beq, ofS_inj, q_str, nq_str, q_int, nq_int, q_str2, in3, T3.dTup, okLen, sizeLine, gAdd, gAddI, gMul, ix0t, ix1t, ix2t, ix3t, ix0l, ix1l, ix2l, ix3l, gFld, dFld, fldOf, insAt, lstAt, dicAt, cellAt, insC, lstC, dicC, dSt, isC, gPut, T3.putAt, putFD, dNewRef, dFrz, cellV, cellD, nLst, gLen4, gLen, gExpr, gAppend, oneOf, nDictOf, dMake, get_end, get_end1, get_end2, get_end3, set_end, nLc, wOk, isOwn, iSrc, srcOf, srcRef, nListOf, tgName, setIf, wipe3, List.lookup, seqOf, Function.comp_def, StepOk, gFor, gInt1, gMod, gDiv, T3.gSub]⟩
  have S1 := get_app T.S [cD a b (h.length + 2) n, qD [], qD es]
  have pr := processed_ok a C1 L 7 T.len T.good hsm
  have l1 : (h ++ [cD a b (h.length + 2) n, qD [], qD es]).length = h.length + 3 := by simp [dBind, dPure, dStuck, dOpt, dVar, dC, dRes, res, dOp2, dTest, dTruth, truth, dAndT, dOrT, dNotT, dIf, isBl, dAndV, dOrV, dNotV, dUn, gE, gSeq, gNx, gIf, gRet, gSet, gRetN, gStuck, bodyD, dCall, clL, cl, dCons, dNil, dFun, dResL, resL, T3.cond, gGt, gLt, gLe, gGe, gCmp, gInt, ofS_beq, ofS_inj, q_str, nq_str, q_int, nq_int, q_str2, in3, T3.dTup, okLen, sizeLine, gAdd, gAddI, gMul, ix0t, ix1t, ix2t, ix3t, ix0l, ix1l, ix2l, ix3l, gFld, dFld, fldOf, insAt, lstAt, dicAt, cellAt, insC, lstC, dicC, dSt, isC, gPut, T3.putAt, putFD, dNewRef, dFrz, cellV, cellD, nLst, gLen4, gLen, gExpr, gAppend, oneOf, nDictOf, dMake, get_end, get_end1, get_end2, get_end3, set_end, nLc, wOk, isOwn, iSrc, srcOf, srcRef, nListOf, tgName, setIf, wipe3, List.lookup, seqOf, Function.comp_def, StepOk, gFor, gInt1, gMod, gDiv, T3.gSub]
  rw [l1] at pr
  generalize eb : (lead b (es.map (mk L))) = lb at pr
  generalize eh1 : h ++ [cD a b (h.length + 2) n, qD [], qD es] = h1 at pr C1 B1 S1 l1 cp
  have C2 := C1.app a [cD a lb.1 (h.length + 3 + 3) (fin lb.1 lb.2), qD [], qD (es.map (mk L)), qD lb.2]
  have B2 := B1.app a [cD a lb.1 (h.length + 3 + 3) (fin lb.1 lb.2), qD [], qD (es.map (mk L)), qD lb.2]
  have S2 := get_app S1 [cD a lb.1 (h.length + 3 + 3) (fin lb.1 lb.2), qD [], qD (es.map (mk L)), qD lb.2]
  have M2 : CAt a (h1 ++ [cD a lb.1 (h.length + 3 + 3) (fin lb.1 lb.2), qD [], qD (es.map (mk L)), qD lb.2]) (h.length + 3) lb.1 (h.length + 3 + 3) (fin lb.1 lb.2) lb.2 := by
    rw [← l1]
    exact ⟨by simp [dBind, dPure, dStuck, dOpt, dVar, dC, dRes, res, dOp2, dTest, dTruth, truth, dAndT, dOrT, dNotT, dIf, isBl, dAndV, dOrV, dNotV, dUn, gE, gSeq, gNx, gIf, gRet, gSet, gRetN, gStuck, bodyD, dCall, clL, cl, dCons, dNil, dFun, dResL, resL, T3.cond, gGt, gLt, gLe, gGe, gCmp, gInt, ofS_beq, ofS_inj, q_str, nq_str, q_int, nq_int, q_str2, in3, T3.dTup, okLen, sizeLine, gAdd, gAddI, gMul, ix0t, ix1t, ix2t, ix3t, ix0l, ix1l, ix2l, ix3l, gFld, dFld, fldOf, insAt, lstAt, dicAt, cellAt, insC, lstC, dicC, dSt, isC, gPut, T3.putAt, putFD, dNewRef, dFrz, cellV, cellD, nLst, gLen4, gLen, gExpr, gAppend, oneOf, nDictOf, dMake, get_end, get_end1, get_end2, get_end3, set_end, nLc, wOk, isOwn, iSrc, srcOf, srcRef, nListOf, tgName, setIf, wipe3, List.lookup, seqOf, Function.comp_def, StepOk, gFor, gInt1, gMod, gDiv, T3.gSub], by simp [dBind, dPure, dStuck, dOpt, dVar, dC, dRes, res, dOp2, dTest, dTruth, truth, dAndT, dOrT, dNotT, dIf, isBl, dAndV, dOrV, dNotV, dUn, gE, gSeq, gNx, gIf, gRet, gSet, gRetN, gStuck, bodyD, dCall, clL, cl, dCons, dNil, dFun, dResL, resL, T3.cond, gGt, gLt, gLe, gGe, gCmp, gInt, ofS_beq, ofS_inj, q_str, nq_str, q_int, nq_int, q_str2, in3, T3.dTup, okLen, sizeLine, gAdd, gAddI, gMul, ix0t, ix1t, ix2t, ix3t, ix0l, ix1l, ix2l, ix3l, gFld, dFld, fldOf, insAt, lstAt, dicAt, cellAt, insC, lstC, dicC, dSt, isC, gPut, T3.putAt, putFD, dNewRef, dFrz, cellV, cellD, nLst, gLen4, gLen, gExpr, gAppend, oneOf, nDictOf, dMake, get_end, get_end1, get_end2, get_end3, set_end, nLc, wOk, isOwn, iSrc, srcOf, srcRef, nListOf, tgName, setIf, wipe3, List.lookup, seqOf, Function.comp_def, StepOk, gFor, gInt1, gMod, gDiv, T3.gSub]⟩
  have l2 : (h1 ++ [cD a lb.1 (h.length + 3 + 3) (fin lb.1 lb.2), qD [], qD (es.map (mk L)), qD lb.2]).length = h.length + 7 := by simp [dBind, dPure, dStuck, dOpt, dVar, dC, dRes, res, dOp2, dTest, dTruth, truth, dAndT, dOrT, dNotT, dIf, isBl, dAndV, dOrV, dNotV, dUn, gE, gSeq, gNx, gIf, gRet, gSet, gRetN, gStuck, bodyD, dCall, clL, cl, dCons, dNil, dFun, dResL, resL, T3.cond, gGt, gLt, gLe, gGe, gCmp, gInt, ofS_beq, ofS_inj, q_str, nq_str, q_int, nq_int, q_str2, in3, T3.dTup, okLen, sizeLine, gAdd, gAddI, gMul, ix0t, ix1t, ix2t, ix3t, ix0l, ix1l, ix2l, ix3l, gFld, dFld, fldOf, insAt, lstAt, dicAt, cellAt, insC, lstC, dicC, dSt, isC, gPut, T3.putAt, putFD, dNewRef, dFrz, cellV, cellD, nLst, gLen4, gLen, gExpr, gAppend, oneOf, nDictOf, dMake, get_end, get_end1, get_end2, get_end3, set_end, nLc, wOk, isOwn, iSrc, srcOf, srcRef, nListOf, tgName, setIf, wipe3, List.lookup, seqOf, Function.comp_def, StepOk, gFor, gInt1, gMod, gDiv, T3.gSub, l1]
  have e12 : dMeth a.c_Cell "copied" 1 (den_Cell_copied a) (dVar 3) dNil (σW ns R st c (stD b s n) fl x6 (some (.val (.int row))) x8 x9 x10 (some (.val (.lst (L.map .int)))) x12 x13 none) h = .ok (.ref h.length) h1 := by
    simp [dBind, dPure, dStuck, dOpt, dVar, dC, dRes, res, dOp2, dTest, dTruth, truth, dAndT, dOrT, dNotT, dIf, isBl, dAndV, dOrV, dNotV, dUn, gE, gSeq, gNx, gIf, gRet, gSet, gRetN, gStuck, bodyD, dCall, clL, cl, dCons, dNil, dFun, dResL, resL, T3.cond, gGt, gLt, gLe, gGe, gCmp, gInt, ofS_beq, ofS_inj, q_str, nq_str, q_int, nq_int, q_str2, in3, T3.dTup, okLen, sizeLine, gAdd, gAddI, gMul, ix0t, ix1t, ix2t, ix3t, ix0l, ix1l, ix2l, ix3l, gFld, dFld, fldOf, insAt, lstAt, dicAt, cellAt, insC, lstC, dicC, dSt, isC, gPut, T3.putAt, putFD, dNewRef, dFrz, cellV, cellD, nLst, gLen4, gLen, gExpr, gAppend, oneOf, nDictOf, dMake, get_end, get_end1, get_end2, get_end3, set_end, nLc, wOk, isOwn, iSrc, srcOf, srcRef, nListOf, tgName, setIf, wipe3, List.lookup, seqOf, Function.comp_def, StepOk, gFor, gInt1, gMod, gDiv, T3.gSub, dMeth, mOk, T.C.c, ofS_inj, cp]
  have e13 : dMethK a.c_Cell "processed" 2 1 3 (den_Cell_processed a) (dVar 3) (dCons (dVar 11) dNil) (dCons (dC (.int 7)) dNil) (σW ns R st c (stD b s n) fl x6 (some (.val (.int row))) x8 x9 x10 (some (.val (.lst (L.map .int)))) (some (.val (.ref h.length))) x13 none) h1 =
      .ok (.ref (h.length + 3)) (h1 ++ [cD a lb.1 (h.length + 3 + 3) (fin lb.1 lb.2), qD [], qD (es.map (mk L)), qD lb.2]) := by
    simp [dBind, dPure, dStuck, dOpt, dVar, dC, dRes, res, dOp2, dTest, dTruth, truth, dAndT, dOrT, dNotT, dIf, isBl, dAndV, dOrV, dNotV, dUn, gE, gSeq, gNx, gIf, gRet, gSet, gRetN, gStuck, bodyD, dCall, clL, cl, dCons, dNil, dFun, dResL, resL, T3.cond, gGt, gLt, gLe, gGe, gCmp, gInt, ofS_beq, ofS_inj, q_str, nq_str, q_int, nq_int, q_str2, in3, T3.dTup, okLen, sizeLine, gAdd, gAddI, gMul, ix0t, ix1t, ix2t, ix3t, ix0l, ix1l, ix2l, ix3l, gFld, dFld, fldOf, insAt, lstAt, dicAt, cellAt, insC, lstC, dicC, dSt, isC, gPut, T3.putAt, putFD, dNewRef, dFrz, cellV, cellD, nLst, gLen4, gLen, gExpr, gAppend, oneOf, nDictOf, dMake, get_end, get_end1, get_end2, get_end3, set_end, nLc, wOk, isOwn, iSrc, srcOf, srcRef, nListOf, tgName, setIf, wipe3, List.lookup, seqOf, Function.comp_def, StepOk, gFor, gInt1, gMod, gDiv, T3.gSub, dMethK, mOk, C1.c, ofS_inj, pr]
  generalize eh2 : h1 ++ [cD a lb.1 (h.length + 3 + 3) (fin lb.1 lb.2), qD [], qD (es.map (mk L)), qD lb.2] = h2 at e13 C2 B2 S2 M2 l2
  have sm1 := lsame_ok a C2 S2 T.len
  have sm2 := lsame_ok a B2 S2 T.len
  have sm3 := eq_ok a B2 C2
  have e14 : gIf (dOrT (dNotT (dTruth (dCall 2 (den_l_same a) (dCons (dVar 3) (dCons (dVar 4) dNil))))) (dOrT (dNotT (dTruth (dCall 2 (den_l_same a) (dCons (dVar 12) (dCons (dVar 4) dNil))))) (dTest (dNeI a.c_Cell (den_Cell___eq__ a) (dVar 12) (dVar 3))))) (gRet (dC (.bl false))) gNx
      (σW ns R st c (stD b s n) fl x6 (some (.val (.int row))) x8 x9 x10 (some (.val (.lst (L.map .int)))) (some (.val (.ref h.length))) (some (.val (.ref (h.length + 3)))) none) h2 =
      .nx (σW ns R st c (stD b s n) fl x6 (some (.val (.int row))) x8 x9 x10 (some (.val (.lst (L.map .int)))) (some (.val (.ref h.length))) (some (.val (.ref (h.length + 3)))) none) h2 := by
    refine if_nx (or_ff ?_ (or_ff ?_ ?_))
    · simp [dBind, dPure, dStuck, dOpt, dVar, dC, dRes, res, dOp2, dTest, dTruth, truth, dAndT, dOrT, dNotT, dIf, isBl, dAndV, dOrV, dNotV, dUn, gE, gSeq, gNx, gIf, gRet, gSet, gRetN, gStuck, bodyD, dCall, clL, cl, dCons, dNil, dFun, dResL, resL, T3.cond, gGt, gLt, gLe, gGe, gCmp, gInt, ofS_beq, ofS_inj, q_str, nq_str, q_int, nq_int, q_str2, in3, T3.dTup, okLen, sizeLine, gAdd, gAddI, gMul, ix0t, ix1t, ix2t, ix3t, ix0l, ix1l, ix2l, ix3l, gFld, dFld, fldOf, insAt, lstAt, dicAt, cellAt, insC, lstC, dicC, dSt, isC, gPut, T3.putAt, putFD, dNewRef, dFrz, cellV, cellD, nLst, gLen4, gLen, gExpr, gAppend, oneOf, nDictOf, dMake, get_end, get_end1, get_end2, get_end3, set_end, nLc, wOk, isOwn, iSrc, srcOf, srcRef, nListOf, tgName, setIf, wipe3, List.lookup, seqOf, Function.comp_def, StepOk, gFor, gInt1, gMod, gDiv, T3.gSub, sm1]
    · simp [dBind, dPure, dStuck, dOpt, dVar, dC, dRes, res, dOp2, dTest, dTruth, truth, dAndT, dOrT, dNotT, dIf, isBl, dAndV, dOrV, dNotV, dUn, gE, gSeq, gNx, gIf, gRet, gSet, gRetN, gStuck, bodyD, dCall, clL, cl, dCons, dNil, dFun, dResL, resL, T3.cond, gGt, gLt, gLe, gGe, gCmp, gInt, ofS_beq, ofS_inj, q_str, nq_str, q_int, nq_int, q_str2, in3, T3.dTup, okLen, sizeLine, gAdd, gAddI, gMul, ix0t, ix1t, ix2t, ix3t, ix0l, ix1l, ix2l, ix3l, gFld, dFld, fldOf, insAt, lstAt, dicAt, cellAt, insC, lstC, dicC, dSt, isC, gPut, T3.putAt, putFD, dNewRef, dFrz, cellV, cellD, nLst, gLen4, gLen, gExpr, gAppend, oneOf, nDictOf, dMake, get_end, get_end1, get_end2, get_end3, set_end, nLc, wOk, isOwn, iSrc, srcOf, srcRef, nListOf, tgName, setIf, wipe3, List.lookup, seqOf, Function.comp_def, StepOk, gFor, gInt1, gMod, gDiv, T3.gSub, sm2]
    · simp [dBind, dPure, dStuck, dOpt, dVar, dC, dRes, res, dOp2, dTest, dTruth, truth, dAndT, dOrT, dNotT, dIf, isBl, dAndV, dOrV, dNotV, dUn, gE, gSeq, gNx, gIf, gRet, gSet, gRetN, gStuck, bodyD, dCall, clL, cl, dCons, dNil, dFun, dResL, resL, T3.cond, gGt, gLt, gLe, gGe, gCmp, gInt, ofS_beq, ofS_inj, q_str, nq_str, q_int, nq_int, q_str2, in3, T3.dTup, okLen, sizeLine, gAdd, gAddI, gMul, ix0t, ix1t, ix2t, ix3t, ix0l, ix1l, ix2l, ix3l, gFld, dFld, fldOf, insAt, lstAt, dicAt, cellAt, insC, lstC, dicC, dSt, isC, gPut, T3.putAt, putFD, dNewRef, dFrz, cellV, cellD, nLst, gLen4, gLen, gExpr, gAppend, oneOf, nDictOf, dMake, get_end, get_end1, get_end2, get_end3, set_end, nLc, wOk, isOwn, iSrc, srcOf, srcRef, nListOf, tgName, setIf, wipe3, List.lookup, seqOf, Function.comp_def, StepOk, gFor, gInt1, gMod, gDiv, T3.gSub, dNeI, B2.c, C2.c, sm3]
  have md : mergeD [] [(Sum.inr "k", D.int 1)] = env1 1 := by simp [dBind, dPure, dStuck, dOpt, dVar, dC, dRes, res, dOp2, dTest, dTruth, truth, dAndT, dOrT, dNotT, dIf, isBl, dAndV, dOrV, dNotV, dUn, gE, gSeq, gNx, gIf, gRet, gSet, gRetN, gStuck, bodyD, dCall, clL, cl, dCons, dNil, dFun, dResL, resL, T3.cond, gGt, gLt, gLe, gGe, gCmp, gInt, ofS_beq, ofS_inj, q_str, nq_str, q_int, nq_int, q_str2, in3, T3.dTup, okLen, sizeLine, gAdd, gAddI, gMul, ix0t, ix1t, ix2t, ix3t, ix0l, ix1l, ix2l, ix3l, gFld, dFld, fldOf, insAt, lstAt, dicAt, cellAt, insC, lstC, dicC, dSt, isC, gPut, T3.putAt, putFD, dNewRef, dFrz, cellV, cellD, nLst, gLen4, gLen, gExpr, gAppend, oneOf, nDictOf, dMake, get_end, get_end1, get_end2, get_end3, set_end, nLc, wOk, isOwn, iSrc, srcOf, srcRef, nListOf, tgName, setIf, wipe3, List.lookup, seqOf, Function.comp_def, StepOk, gFor, gInt1, gMod, gDiv, T3.gSub, mergeD, putD]
  obtain ⟨v, h3, e15, k3⟩ : ∃ (v : D) (h3 : HD), dMeth a.c_Cell "send" 4 (den_Cell_send a) (dVar 3) (dCons (dC (.int 0)) (dCons (dTup (dCons (dC (.str "number")) (dCons (dC (.int 1)) dNil))) (dCons (dFrz (nDisp [((dC (.str "k")), (dC (.int 1)))])) dNil)))
      (σW ns R st c (stD b s n) fl x6 (some (.val (.int row))) x8 x9 x10 (some (.val (.lst (L.map .int)))) (some (.val (.ref h.length))) (some (.val (.ref (h.length + 3)))) none) h2 = .ok v h3 ∧ h3.length = h2.length ∧ ∀ j, j ≠ q → h3[j]? = h2[j]? := by
    by_cases hl : es.length < 50
    · have sd := send_ok a C2 0 (.num 1) (.dic (env1 1)) 1 (.inl rfl) hl
      refine ⟨.bl true, h2.set q (qD (es ++ [Ent.mk false 0 (.num 1) 1])), ?_, by simp [dBind, dPure, dStuck, dOpt, dVar, dC, dRes, res, dOp2, dTest, dTruth, truth, dAndT, dOrT, dNotT, dIf, isBl, dAndV, dOrV, dNotV, dUn, gE, gSeq, gNx, gIf, gRet, gSet, gRetN, gStuck, bodyD, dCall, clL, cl, dCons, dNil, dFun, dResL, resL, T3.cond, gGt, gLt, gLe, gGe, gCmp, gInt, ofS_beq, ofS_inj, q_str, nq_str, q_int, nq_int, q_str2, in3, T3.dTup, okLen, sizeLine, gAdd, gAddI, gMul, ix0t, ix1t, ix2t, ix3t, ix0l, ix1l, ix2l, ix3l, gFld, dFld, fldOf, insAt, lstAt, dicAt, cellAt, insC, lstC, dicC, dSt, isC, gPut, T3.putAt, putFD, dNewRef, dFrz, cellV, cellD, nLst, gLen4, gLen, gExpr, gAppend, oneOf, nDictOf, dMake, get_end, get_end1, get_end2, get_end3, set_end, nLc, wOk, isOwn, iSrc, srcOf, srcRef, nListOf, tgName, setIf, wipe3, List.lookup, seqOf, Function.comp_def, StepOk, gFor, gInt1, gMod, gDiv, T3.gSub], fun j hj => List.getElem?_set_ne (Ne.symm hj)⟩
      simp only [Up.d] at sd
      simp [dBind, dPure, dStuck, dOpt, dVar, dC, dRes, res, dOp2, dTest, dTruth, truth, dAndT, dOrT, dNotT, dIf, isBl, dAndV, dOrV, dNotV, dUn, gE, gSeq, gNx, gIf, gRet, gSet, gRetN, gStuck, bodyD, dCall, clL, cl, dCons, dNil, dFun, dResL, resL, T3.cond, gGt, gLt, gLe, gGe, gCmp, gInt, ofS_beq, ofS_inj, q_str, nq_str, q_int, nq_int, q_str2, in3, T3.dTup, okLen, sizeLine, gAdd, gAddI, gMul, ix0t, ix1t, ix2t, ix3t, ix0l, ix1l, ix2l, ix3l, gFld, dFld, fldOf, insAt, lstAt, dicAt, cellAt, insC, lstC, dicC, dSt, isC, gPut, T3.putAt, putFD, dNewRef, dFrz, cellV, cellD, nLst, gLen4, gLen, gExpr, gAppend, oneOf, nDictOf, dMake, get_end, get_end1, get_end2, get_end3, set_end, nLc, wOk, isOwn, iSrc, srcOf, srcRef, nListOf, tgName, setIf, wipe3, List.lookup, seqOf, Function.comp_def, StepOk, gFor, gInt1, gMod, gDiv, T3.gSub, dMeth, mOk, C2.c, ofS_inj, nDisp, dPairs, keyOf, md, sd]
    · have sd := send_full a C2 0 (.num 1) (.dic (env1 1)) hl rfl
      refine ⟨.bl false, h2, ?_, rfl, fun j hj => rfl⟩
      simp only [Up.d] at sd
      simp [dBind, dPure, dStuck, dOpt, dVar, dC, dRes, res, dOp2, dTest, dTruth, truth, dAndT, dOrT, dNotT, dIf, isBl, dAndV, dOrV, dNotV, dUn, gE, gSeq, gNx, gIf, gRet, gSet, gRetN, gStuck, bodyD, dCall, clL, cl, dCons, dNil, dFun, dResL, resL, T3.cond, gGt, gLt, gLe, gGe, gCmp, gInt, ofS_beq, ofS_inj, q_str, nq_str, q_int, nq_int, q_str2, in3, T3.dTup, okLen, sizeLine, gAdd, gAddI, gMul, ix0t, ix1t, ix2t, ix3t, ix0l, ix1l, ix2l, ix3l, gFld, dFld, fldOf, insAt, lstAt, dicAt, cellAt, insC, lstC, dicC, dSt, isC, gPut, T3.putAt, putFD, dNewRef, dFrz, cellV, cellD, nLst, gLen4, gLen, gExpr, gAppend, oneOf, nDictOf, dMake, get_end, get_end1, get_end2, get_end3, set_end, nLc, wOk, isOwn, iSrc, srcOf, srcRef, nListOf, tgName, setIf, wipe3, List.lookup, seqOf, Function.comp_def, StepOk, gFor, gInt1, gMod, gDiv, T3.gSub, dMeth, mOk, C2.c, ofS_inj, nDisp, dPairs, keyOf, md, sd]
  obtain ⟨l3, k3⟩ := k3
  have B3 : CAt a h3 h.length b (h.length + 2) n es := ⟨by rw [k3 _ (by omega)]; exact B2.c, by rw [k3 _ (by omega)]; exact B2.q⟩
  have M3 : CAt a h3 (h.length + 3) lb.1 (h.length + 3 + 3) (fin lb.1 lb.2) lb.2 := ⟨by rw [k3 _ (by omega)]; exact M2.c, by rw [k3 _ (by omega)]; exact M2.q⟩
  have S3' : h3[s]? = some (qD es) := by rw [k3 _ (Ne.symm T.ne)]; exact S2
  have e16 : gIf (dTest (dOp2 (gEq4 true) (dFun gLen4 (dCons (dFld a.c_Cell "queue" (dVar 12)) dNil)) (dFun gLen4 (dCons (dOp2 gIx4 (dVar 4) (dC (.int 1))) dNil)))) (gRet (dC (.bl false))) gNx
      (σW ns R st c (stD b s n) fl x6 (some (.val (.int row))) x8 x9 x10 (some (.val (.lst (L.map .int)))) (some (.val (.ref h.length))) (some (.val (.ref (h.length + 3)))) none) h3 =
      .nx (σW ns R st c (stD b s n) fl x6 (some (.val (.int row))) x8 x9 x10 (some (.val (.lst (L.map .int)))) (some (.val (.ref h.length))) (some (.val (.ref (h.length + 3)))) none) h3 := if_nx (by simp [dBind, dPure, dStuck, dOpt, dVar, dC, dRes, res, dOp2, dTest, dTruth, truth, dAndT, dOrT, dNotT, dIf, isBl, dAndV, dOrV, dNotV, dUn, gE, gSeq, gNx, gIf, gRet, gSet, gRetN, gStuck, bodyD, dCall, clL, cl, dCons, dNil, dFun, dResL, resL, T3.cond, gGt, gLt, gLe, gGe, gCmp, gInt, ofS_beq, ofS_inj, q_str, nq_str, q_int, nq_int, q_str2, in3, T3.dTup, okLen, sizeLine, gAdd, gAddI, gMul, ix0t, ix1t, ix2t, ix3t, ix0l, ix1l, ix2l, ix3l, gFld, dFld, fldOf, insAt, lstAt, dicAt, cellAt, insC, lstC, dicC, dSt, isC, gPut, T3.putAt, putFD, dNewRef, dFrz, cellV, cellD, nLst, gLen4, gLen, gExpr, gAppend, oneOf, nDictOf, dMake, get_end, get_end1, get_end2, get_end3, set_end, nLc, wOk, isOwn, iSrc, srcOf, srcRef, nListOf, tgName, setIf, wipe3, List.lookup, seqOf, Function.comp_def, StepOk, gFor, gInt1, gMod, gDiv, T3.gSub, B3.c, B3.q, S3', ofS_inj, ne_intc])
  obtain ⟨Y, s', lp, lp2, lp3⟩ := lprocessed_ok a (b := b) (n := n) S3' L T.len
  rw [eb] at lp lp2
  have e18 : dCall 2 (den_l_processed a) (dCons (dVar 4) (dCons (dVar 11) dNil)) (σW ns R st (h.length + 3) (stD b s n) fl x6 (some (.val (.int row))) x8 x9 x10 (some (.val (.lst (L.map .int)))) (some (.val (.ref h.length))) (some (.val (.ref (h.length + 3)))) none) h3 =
      .ok (stD lb.1 s' (fin lb.1 lb.2)) (h3 ++ Y) := by
    simp [dBind, dPure, dStuck, dOpt, dVar, dC, dRes, res, dOp2, dTest, dTruth, truth, dAndT, dOrT, dNotT, dIf, isBl, dAndV, dOrV, dNotV, dUn, gE, gSeq, gNx, gIf, gRet, gSet, gRetN, gStuck, bodyD, dCall, clL, cl, dCons, dNil, dFun, dResL, resL, T3.cond, gGt, gLt, gLe, gGe, gCmp, gInt, ofS_beq, ofS_inj, q_str, nq_str, q_int, nq_int, q_str2, in3, T3.dTup, okLen, sizeLine, gAdd, gAddI, gMul, ix0t, ix1t, ix2t, ix3t, ix0l, ix1l, ix2l, ix3l, gFld, dFld, fldOf, insAt, lstAt, dicAt, cellAt, insC, lstC, dicC, dSt, isC, gPut, T3.putAt, putFD, dNewRef, dFrz, cellV, cellD, nLst, gLen4, gLen, gExpr, gAppend, oneOf, nDictOf, dMake, get_end, get_end1, get_end2, get_end3, set_end, nLc, wOk, isOwn, iSrc, srcOf, srcRef, nListOf, tgName, setIf, wipe3, List.lookup, seqOf, Function.comp_def, StepOk, gFor, gInt1, gMod, gDiv, T3.gSub, lp]
  have gm : ∀ e ∈ es.map (mk L), e.good := fun e m => by
    obtain ⟨x, hx, rfl⟩ := List.mem_map.mp m
    exact mk_good L x (T.good x hx)
  refine ⟨h3 ++ Y, h.length + 3, h.length + 3 + 3, s', lb.1, fin lb.1 lb.2, lb.2, some (.val (.lst (L.map .int))), some (.val (.ref h.length)), some (.val (.ref (h.length + 3))), ?_, M3.app a Y, lp2, by omega, ?_, ?_, ?_⟩
  · refine (gSeq_nx (stSet e11 rfl)).trans ((gSeq_nx (stSet e12 rfl)).trans ((gSeq_nx (stSet e13 rfl)).trans ((gSeq_nx e14).trans ?_)))
    have x15 : gExpr (dMeth a.c_Cell "send" 4 (den_Cell_send a) (dVar 3) (dCons (dC (.int 0)) (dCons (dTup (dCons (dC (.str "number")) (dCons (dC (.int 1)) dNil))) (dCons (dFrz (nDisp [((dC (.str "k")), (dC (.int 1)))])) dNil))))
      (σW ns R st c (stD b s n) fl x6 (some (.val (.int row))) x8 x9 x10 (some (.val (.lst (L.map .int)))) (some (.val (.ref h.length))) (some (.val (.ref (h.length + 3)))) none) h2 = .nx (σW ns R st c (stD b s n) fl x6 (some (.val (.int row))) x8 x9 x10 (some (.val (.lst (L.map .int)))) (some (.val (.ref h.length))) (some (.val (.ref (h.length + 3)))) none) h3 := by
      unfold T3.gExpr T3.gE; simp only [e15]; rfl
    exact (gSeq_nx x15).trans ((gSeq_nx e16).trans ((gSeq_nx (stSet (d := .ref (h.length + 3)) rfl rfl)).trans (stSet e18 rfl)))
  · have := lead_len (es.map (mk L)) b
    rw [eb, List.length_map] at this
    have := T.len
    omega
  · intro e m
    have := (lead_small (es.map (mk L)) b gm (by rw [List.length_map]; exact hsm)).2
    rw [eb] at this
    exact gm e (this e m)
  · have h1 := lead_pot (es.map (mk L)) b gm
    rw [eb, List.length_map] at h1
    have := T.pot
    rw [Nat.pow_succ]
    omega
end
end W

set_option Elab.async false
set_option linter.all false
set_option maxRecDepth 100000
set_option maxHeartbeats 1000000
namespace W
open PySem L2 T3
section
variable {a : Ad}
theorem gIf_of {t : F Bool} {g g' : G} {σ : S3} {h : HD} {b : Bool} (e : t σ h = .ok b h) : gIf t g g' σ h = (if b then g else g') σ h := by
  unfold T3.gIf T3.gE; simp [dBind, dPure, dStuck, dOpt, dVar, dC, dRes, res, dOp2, dTest, dTruth, truth, dAndT, dOrT, dNotT, dIf, isBl, dAndV, dOrV, dNotV, dUn, gE, gSeq, gNx, gIf, gRet, gSet, gRetN, gStuck, bodyD, dCall, clL, cl, dCons, dNil, dFun, dResL, resL, T3.cond, gGt, gLt, gLe, gGe, gCmp, gInt, ofS_beq, ofS_inj, q_str, nq_str, q_int, nq_int, q_str2, in3, T3.dTup, okLen, sizeLine, gAdd, gAddI, gMul, ix0t, ix1t, ix2t, ix3t, ix0l, ix1l, ix2l, ix3l, gFld, dFld, fldOf, insAt, lstAt, dicAt, cellAt, insC, lstC, dicC, dSt, isC, gPut, T3.putAt, putFD, dNewRef, dFrz, cellV, cellD, nLst, gLen4, gLen, gExpr, gAppend, oneOf, nDictOf, dMake, get_end, get_end1, get_end2, get_end3, set_end, nLc, wOk, isOwn, iSrc, srcOf, srcRef, nListOf, tgName, setIf, wipe3, List.lookup, seqOf, Function.comp_def, StepOk, gFor, gInt1, gMod, gDiv, T3.gSub, e]
theorem turn_ok {h : HD} {c q s : Nat} {b n : Int} {es : List Ent} {t : Nat} (T : Sit a h c q s b n es t) (ht : t ≤ 58) (ns R : List Int) (hR : R.length = 60) (st : Int) (fl : Bool) (j : Nat) (hj : j < 60) (x7 x8 x9 x10 x11 x12 x13 : Option T3.Slot) :
    ∃ (h' : HD) (c' q' s' : Nat) (b' n' : Int) (es' : List Ent) (y7 y8 y9 y10 y11 y12 y13 : Option T3.Slot), lb_law_2 a (σW ns R st c (stD b s n) fl (some (.val (.int (j : Nat)))) x7 x8 x9 x10 x11 x12 x13 none) h =
      .nx (σW ns R st c' (stD b' s' n') fl (some (.val (.int (j : Nat)))) y7 y8 y9 y10 y11 y12 y13 none) h' ∧ Sit a h' c' q' s' b' n' es' (t + 1) := by
  have ix : gIx4 (.lst (R.map .int)) (.int (j : Nat)) = some (.int (R[j]'(by omega))) := ix_lst _ j _ (by simp [dBind, dPure, dStuck, dOpt, dVar, dC, dRes, res, dOp2, dTest, dTruth, truth, dAndT, dOrT, dNotT, dIf, isBl, dAndV, dOrV, dNotV, dUn, gE, gSeq, gNx, gIf, gRet, gSet, gRetN, gStuck, bodyD, dCall, clL, cl, dCons, dNil, dFun, dResL, resL, T3.cond, gGt, gLt, gLe, gGe, gCmp, gInt, ofS_beq, ofS_inj, q_str, nq_str, q_int, nq_int, q_str2, in3, T3.dTup, okLen, sizeLine, gAdd, gAddI, gMul, ix0t, ix1t, ix2t, ix3t, ix0l, ix1l, ix2l, ix3l, gFld, dFld, fldOf, insAt, lstAt, dicAt, cellAt, insC, lstC, dicC, dSt, isC, gPut, T3.putAt, putFD, dNewRef, dFrz, cellV, cellD, nLst, gLen4, gLen, gExpr, gAppend, oneOf, nDictOf, dMake, get_end, get_end1, get_end2, get_end3, set_end, nLc, wOk, isOwn, iSrc, srcOf, srcRef, nListOf, tgName, setIf, wipe3, List.lookup, seqOf, Function.comp_def, StepOk, gFor, gInt1, gMod, gDiv, T3.gSub, hR, hj])
  generalize R[j]'(by omega) = row at ix
  have e7 : dOp2 gIx4 (dVar 1) (dVar 6) (σW ns R st c (stD b s n) fl (some (.val (.int (j : Nat)))) x7 x8 x9 x10 x11 x12 x13 none) h = .ok (.int row) h := by
    simp [dBind, dPure, dStuck, dOpt, dVar, dC, dRes, res, dOp2, dTest, dTruth, truth, dAndT, dOrT, dNotT, dIf, isBl, dAndV, dOrV, dNotV, dUn, gE, gSeq, gNx, gIf, gRet, gSet, gRetN, gStuck, bodyD, dCall, clL, cl, dCons, dNil, dFun, dResL, resL, T3.cond, gGt, gLt, gLe, gGe, gCmp, gInt, ofS_beq, ofS_inj, q_str, nq_str, q_int, nq_int, q_str2, in3, T3.dTup, okLen, sizeLine, gAdd, gAddI, gMul, ix0t, ix1t, ix2t, ix3t, ix0l, ix1l, ix2l, ix3l, gFld, dFld, fldOf, insAt, lstAt, dicAt, cellAt, insC, lstC, dicC, dSt, isC, gPut, T3.putAt, putFD, dNewRef, dFrz, cellV, cellD, nLst, gLen4, gLen, gExpr, gAppend, oneOf, nDictOf, dMake, get_end, get_end1, get_end2, get_end3, set_end, nLc, wOk, isOwn, iSrc, srcOf, srcRef, nListOf, tgName, setIf, wipe3, List.lookup, seqOf, Function.comp_def, StepOk, gFor, gInt1, gMod, gDiv, T3.gSub, ix]
  have ec : dOrT (dTest (dOp2 gGt (dOp2 gMod (dVar 7) (dC (.int 3))) (dC (.int 0)))) (dTruth (dVar 5)) (σW ns R st c (stD b s n) fl (some (.val (.int (j : Nat)))) (some (.val (.int row))) x8 x9 x10 x11 x12 x13 none) h = .ok (decide (0 < row % 3) || fl) h := by
    by_cases q1 : 0 < row % 3
    · simp [dBind, dPure, dStuck, dOpt, dVar, dC, dRes, res, dOp2, dTest, dTruth, truth, dAndT, dOrT, dNotT, dIf, isBl, dAndV, dOrV, dNotV, dUn, gE, gSeq, gNx, gIf, gRet, gSet, gRetN, gStuck, bodyD, dCall, clL, cl, dCons, dNil, dFun, dResL, resL, T3.cond, gGt, gLt, gLe, gGe, gCmp, gInt, ofS_beq, ofS_inj, q_str, nq_str, q_int, nq_int, q_str2, in3, T3.dTup, okLen, sizeLine, gAdd, gAddI, gMul, ix0t, ix1t, ix2t, ix3t, ix0l, ix1l, ix2l, ix3l, gFld, dFld, fldOf, insAt, lstAt, dicAt, cellAt, insC, lstC, dicC, dSt, isC, gPut, T3.putAt, putFD, dNewRef, dFrz, cellV, cellD, nLst, gLen4, gLen, gExpr, gAppend, oneOf, nDictOf, dMake, get_end, get_end1, get_end2, get_end3, set_end, nLc, wOk, isOwn, iSrc, srcOf, srcRef, nListOf, tgName, setIf, wipe3, List.lookup, seqOf, Function.comp_def, StepOk, gFor, gInt1, gMod, gDiv, T3.gSub, q1]
    · simp [dBind, dPure, dStuck, dOpt, dVar, dC, dRes, res, dOp2, dTest, dTruth, truth, dAndT, dOrT, dNotT, dIf, isBl, dAndV, dOrV, dNotV, dUn, gE, gSeq, gNx, gIf, gRet, gSet, gRetN, gStuck, bodyD, dCall, clL, cl, dCons, dNil, dFun, dResL, resL, T3.cond, gGt, gLt, gLe, gGe, gCmp, gInt, ofS_beq, ofS_inj, q_str, nq_str, q_int, nq_int, q_str2, in3, T3.dTup, okLen, sizeLine, gAdd, gAddI, gMul, ix0t, ix1t, ix2t, ix3t, ix0l, ix1l, ix2l, ix3l, gFld, dFld, fldOf, insAt, lstAt, dicAt, cellAt, insC, lstC, dicC, dSt, isC, gPut, T3.putAt, putFD, dNewRef, dFrz, cellV, cellD, nLst, gLen4, gLen, gExpr, gAppend, oneOf, nDictOf, dMake, get_end, get_end1, get_end2, get_end3, set_end, nLc, wOk, isOwn, iSrc, srcOf, srcRef, nListOf, tgName, setIf, wipe3, List.lookup, seqOf, Function.comp_def, StepOk, gFor, gInt1, gMod, gDiv, T3.gSub, q1]
  have fin : ∀ (h' : HD) (c' q' s' : Nat) (b' n' : Int) (es' : List Ent) (y8 y9 y10 y11 y12 y13 : Option T3.Slot), Sit a h' c' q' s' b' n' es' (t + 1) →
      gIf (dNotT (dTruth (dCall 2 (den_l_same a) (dCons (dVar 3) (dCons (dVar 4) dNil))))) (gRet (dC (.bl false))) gNx (σW ns R st c' (stD b' s' n') fl (some (.val (.int (j : Nat)))) (some (.val (.int row))) y8 y9 y10 y11 y12 y13 none) h' =
        .nx (σW ns R st c' (stD b' s' n') fl (some (.val (.int (j : Nat)))) (some (.val (.int row))) y8 y9 y10 y11 y12 y13 none) h' := by
    intro h' c' q' s' b' n' es' y8 y9 y10 y11 y12 y13 T'
    have sm := lsame_ok a T'.C T'.S T'.len
    exact if_nx (by simp [dBind, dPure, dStuck, dOpt, dVar, dC, dRes, res, dOp2, dTest, dTruth, truth, dAndT, dOrT, dNotT, dIf, isBl, dAndV, dOrV, dNotV, dUn, gE, gSeq, gNx, gIf, gRet, gSet, gRetN, gStuck, bodyD, dCall, clL, cl, dCons, dNil, dFun, dResL, resL, T3.cond, gGt, gLt, gLe, gGe, gCmp, gInt, ofS_beq, ofS_inj, q_str, nq_str, q_int, nq_int, q_str2, in3, T3.dTup, okLen, sizeLine, gAdd, gAddI, gMul, ix0t, ix1t, ix2t, ix3t, ix0l, ix1l, ix2l, ix3l, gFld, dFld, fldOf, insAt, lstAt, dicAt, cellAt, insC, lstC, dicC, dSt, isC, gPut, T3.putAt, putFD, dNewRef, dFrz, cellV, cellD, nLst, gLen4, gLen, gExpr, gAppend, oneOf, nDictOf, dMake, get_end, get_end1, get_end2, get_end3, set_end, nLc, wOk, isOwn, iSrc, srcOf, srcRef, nListOf, tgName, setIf, wipe3, List.lookup, seqOf, Function.comp_def, StepOk, gFor, gInt1, gMod, gDiv, T3.gSub, sm])
  cases hb : (decide (0 < row % 3) || fl) with
  | true =>
    obtain ⟨h', es', y8, y9, y10, e1, T'⟩ := turn_send T ns R st fl row (some (.val (.int (j : Nat)))) x8 x9 x10 x11 x12 x13 none
    refine ⟨h', c, q, s, b, n, es', some (.val (.int row)), y8, y9, y10, x11, x12, x13, ?_, T'⟩
    unfold lb_law_2
    refine (gSeq_nx (stSet e7 rfl)).trans ?_
    refine (gSeq_nx (σ' := σW ns R st c (stD b s n) fl (some (.val (.int (j : Nat)))) (some (.val (.int row))) y8 y9 y10 x11 x12 x13 none) (h' := h') ?_).trans (fin h' c q s b n es' y8 y9 y10 x11 x12 x13 T')
    refine (gIf_of ec).trans ?_
    rw [hb]
    exact e1
  | false =>
    obtain ⟨h', c', q', s', b', n', es', y11, y12, y13, e1, T'⟩ := turn_proc T ht ns R st fl row (some (.val (.int (j : Nat)))) x8 x9 x10 x11 x12 x13
    refine ⟨h', c', q', s', b', n', es', some (.val (.int row)), x8, x9, x10, y11, y12, y13, ?_, T'⟩
    unfold lb_law_2
    refine (gSeq_nx (stSet e7 rfl)).trans ?_
    refine (gSeq_nx (σ' := σW ns R st c' (stD b' s' n') fl (some (.val (.int (j : Nat)))) (some (.val (.int row))) x8 x9 x10 y11 y12 y13 none) (h' := h') ?_).trans (fin h' c' q' s' b' n' es' x8 x9 x10 y11 y12 y13 T')
    refine (gIf_of ec).trans ?_
    rw [hb]
    exact e1
theorem plain_law (a : Ad) (ns : List Int) (hl : ns.length ≤ 63) : ∃ h, den_law a [.scr ns] [] = .ok (.bl true) h := by
  obtain ⟨R, hR, er⟩ := rows_ok a ns []
  obtain ⟨r0, er0⟩ : ∃ r0 : Int, gIx4 (.lst (R.map .int)) (.int 0) = some (.int r0) := by
    match R, hR with
    | r :: R, _ => exact ⟨r, ix0l _ _⟩
  have k0 := Int.emod_nonneg r0 (b := 50) (by decide)
  have k6 := Int.emod_lt_of_pos r0 (b := 50) (by decide)
  generalize est : r0 % 50 = st at k0 k6
  have i1 := init_ok a [] st
  simp only [List.nil_append, List.length_nil, Nat.zero_add] at i1
  let h0 : HD := [cD a st 1 st, qD [], qD []]
  have T0 : Sit a h0 0 1 2 st st [] 0 := ⟨⟨rfl, rfl⟩, rfl, by decide, by simp [dBind, dPure, dStuck, dOpt, dVar, dC, dRes, res, dOp2, dTest, dTruth, truth, dAndT, dOrT, dNotT, dIf, isBl, dAndV, dOrV, dNotV, dUn, gE, gSeq, gNx, gIf, gRet, gSet, gRetN, gStuck, bodyD, dCall, clL, cl, dCons, dNil, dFun, dResL, resL, T3.cond, gGt, gLt, gLe, gGe, gCmp, gInt, ofS_beq, ofS_inj, q_str, nq_str, q_int, nq_int, q_str2, in3, T3.dTup, okLen, sizeLine, gAdd, gAddI, gMul, ix0t, ix1t, ix2t, ix3t, ix0l, ix1l, ix2l, ix3l, gFld, dFld, fldOf, insAt, lstAt, dicAt, cellAt, insC, lstC, dicC, dSt, isC, gPut, T3.putAt, putFD, dNewRef, dFrz, cellV, cellD, nLst, gLen4, gLen, gExpr, gAppend, oneOf, nDictOf, dMake, get_end, get_end1, get_end2, get_end3, set_end, nLc, wOk, isOwn, iSrc, srcOf, srcRef, nListOf, tgName, setIf, wipe3, List.lookup, seqOf, Function.comp_def, StepOk, gFor, gInt1, gMod, gDiv, T3.gSub], (fun e m => by cases m), (by show (st.natAbs + 9) * 1 ≤ 58 * 1; omega)⟩
  let z : S3 := [some (.val (.scr ns)), none, none, none, none, none, none, none, none, none, none, none, none, none, none]
  unfold den_law g_law
  have e1 : dCall 2 (den_l_rows a) (dCons (dVar 0) (dCons (dC (.int 60)) dNil)) z [] = .ok (.lst (R.map .int)) [] := by
    simp [dBind, dPure, dStuck, dOpt, dVar, dC, dRes, res, dOp2, dTest, dTruth, truth, dAndT, dOrT, dNotT, dIf, isBl, dAndV, dOrV, dNotV, dUn, gE, gSeq, gNx, gIf, gRet, gSet, gRetN, gStuck, bodyD, dCall, clL, cl, dCons, dNil, dFun, dResL, resL, T3.cond, gGt, gLt, gLe, gGe, gCmp, gInt, ofS_beq, ofS_inj, q_str, nq_str, q_int, nq_int, q_str2, in3, T3.dTup, okLen, sizeLine, gAdd, gAddI, gMul, ix0t, ix1t, ix2t, ix3t, ix0l, ix1l, ix2l, ix3l, gFld, dFld, fldOf, insAt, lstAt, dicAt, cellAt, insC, lstC, dicC, dSt, isC, gPut, T3.putAt, putFD, dNewRef, dFrz, cellV, cellD, nLst, gLen4, gLen, gExpr, gAppend, oneOf, nDictOf, dMake, get_end, get_end1, get_end2, get_end3, set_end, nLc, wOk, isOwn, iSrc, srcOf, srcRef, nListOf, tgName, setIf, wipe3, List.lookup, seqOf, Function.comp_def, StepOk, gFor, gInt1, gMod, gDiv, T3.gSub, z, er]
  have e2 : dOp2 gMod (dFun gInt1 (dCons (dOp2 gIx4 (dVar 1) (dC (.int 0))) dNil)) (dC (.int 50)) (z.set 1 (some (.val (.lst (R.map .int))))) [] = .ok (.int st) [] := by
    simp [dBind, dPure, dStuck, dOpt, dVar, dC, dRes, res, dOp2, dTest, dTruth, truth, dAndT, dOrT, dNotT, dIf, isBl, dAndV, dOrV, dNotV, dUn, gE, gSeq, gNx, gIf, gRet, gSet, gRetN, gStuck, bodyD, dCall, clL, cl, dCons, dNil, dFun, dResL, resL, T3.cond, gGt, gLt, gLe, gGe, gCmp, gInt, ofS_beq, ofS_inj, q_str, nq_str, q_int, nq_int, q_str2, in3, T3.dTup, okLen, sizeLine, gAdd, gAddI, gMul, ix0t, ix1t, ix2t, ix3t, ix0l, ix1l, ix2l, ix3l, gFld, dFld, fldOf, insAt, lstAt, dicAt, cellAt, insC, lstC, dicC, dSt, isC, gPut, T3.putAt, putFD, dNewRef, dFrz, cellV, cellD, nLst, gLen4, gLen, gExpr, gAppend, oneOf, nDictOf, dMake, get_end, get_end1, get_end2, get_end3, set_end, nLc, wOk, isOwn, iSrc, srcOf, srcRef, nListOf, tgName, setIf, wipe3, List.lookup, seqOf, Function.comp_def, StepOk, gFor, gInt1, gMod, gDiv, T3.gSub, z, er0, est]
  have e3 : dMake a.c_Cell 3 (den_Cell___init__ a) (dCons (dC (.str "c")) (dCons (dVar 2) dNil)) ((z.set 1 (some (.val (.lst (R.map .int))))).set 2 (some (.val (.int st)))) [] = .ok (.ref 0) [cD a st 1 st, qD []] := by
    simp [dBind, dPure, dStuck, dOpt, dVar, dC, dRes, res, dOp2, dTest, dTruth, truth, dAndT, dOrT, dNotT, dIf, isBl, dAndV, dOrV, dNotV, dUn, gE, gSeq, gNx, gIf, gRet, gSet, gRetN, gStuck, bodyD, dCall, clL, cl, dCons, dNil, dFun, dResL, resL, T3.cond, gGt, gLt, gLe, gGe, gCmp, gInt, ofS_beq, ofS_inj, q_str, nq_str, q_int, nq_int, q_str2, in3, T3.dTup, okLen, sizeLine, gAdd, gAddI, gMul, ix0t, ix1t, ix2t, ix3t, ix0l, ix1l, ix2l, ix3l, gFld, dFld, fldOf, insAt, lstAt, dicAt, cellAt, insC, lstC, dicC, dSt, isC, gPut, T3.putAt, putFD, dNewRef, dFrz, cellV, cellD, nLst, gLen4, gLen, gExpr, gAppend, oneOf, nDictOf, dMake, get_end, get_end1, get_end2, get_end3, set_end, nLc, wOk, isOwn, iSrc, srcOf, srcRef, nListOf, tgName, setIf, wipe3, List.lookup, seqOf, Function.comp_def, StepOk, gFor, gInt1, gMod, gDiv, T3.gSub, z, i1]
  have e4 : dFrz (nLst (dCons (dVar 2) (dCons (dNewRef (nLst dNil)) (dCons (dVar 2) dNil)))) (((z.set 1 (some (.val (.lst (R.map .int))))).set 2 (some (.val (.int st)))).set 3 (some (.val (.ref 0)))) [cD a st 1 st, qD []] = .ok (stD st 2 st) h0 := by
    simp [dBind, dPure, dStuck, dOpt, dVar, dC, dRes, res, dOp2, dTest, dTruth, truth, dAndT, dOrT, dNotT, dIf, isBl, dAndV, dOrV, dNotV, dUn, gE, gSeq, gNx, gIf, gRet, gSet, gRetN, gStuck, bodyD, dCall, clL, cl, dCons, dNil, dFun, dResL, resL, T3.cond, gGt, gLt, gLe, gGe, gCmp, gInt, ofS_beq, ofS_inj, q_str, nq_str, q_int, nq_int, q_str2, in3, T3.dTup, okLen, sizeLine, gAdd, gAddI, gMul, ix0t, ix1t, ix2t, ix3t, ix0l, ix1l, ix2l, ix3l, gFld, dFld, fldOf, insAt, lstAt, dicAt, cellAt, insC, lstC, dicC, dSt, isC, gPut, T3.putAt, putFD, dNewRef, dFrz, cellV, cellD, nLst, gLen4, gLen, gExpr, gAppend, oneOf, nDictOf, dMake, get_end, get_end1, get_end2, get_end3, set_end, nLc, wOk, isOwn, iSrc, srcOf, srcRef, nListOf, tgName, setIf, wipe3, List.lookup, seqOf, Function.comp_def, StepOk, gFor, gInt1, gMod, gDiv, T3.gSub, z, h0]
  obtain ⟨fl, e5⟩ : ∃ fl : Bool, dOp2 (gEq4 false) (dOp2 gMod (dOp2 gDiv (dOp2 gIx4 (dVar 1) (dC (.int 0))) (dC (.int 50))) (dC (.int 6))) (dC (.int 0)) ((((z.set 1 (some (.val (.lst (R.map .int))))).set 2 (some (.val (.int st)))).set 3 (some (.val (.ref 0)))).set 4 (some (.val (stD st 2 st)))) h0 = .ok (.bl fl) h0 :=
    ⟨r0 / 50 % 6 == 0, by simp [dBind, dPure, dStuck, dOpt, dVar, dC, dRes, res, dOp2, dTest, dTruth, truth, dAndT, dOrT, dNotT, dIf, isBl, dAndV, dOrV, dNotV, dUn, gE, gSeq, gNx, gIf, gRet, gSet, gRetN, gStuck, bodyD, dCall, clL, cl, dCons, dNil, dFun, dResL, resL, T3.cond, gGt, gLt, gLe, gGe, gCmp, gInt, ofS_beq, ofS_inj, q_str, nq_str, q_int, nq_int, q_str2, in3, T3.dTup, okLen, sizeLine, gAdd, gAddI, gMul, ix0t, ix1t, ix2t, ix3t, ix0l, ix1l, ix2l, ix3l, gFld, dFld, fldOf, insAt, lstAt, dicAt, cellAt, insC, lstC, dicC, dSt, isC, gPut, T3.putAt, putFD, dNewRef, dFrz, cellV, cellD, nLst, gLen4, gLen, gExpr, gAppend, oneOf, nDictOf, dMake, get_end, get_end1, get_end2, get_end3, set_end, nLc, wOk, isOwn, iSrc, srcOf, srcRef, nListOf, tgName, setIf, wipe3, List.lookup, seqOf, Function.comp_def, StepOk, gFor, gInt1, gMod, gDiv, T3.gSub, z, er0]⟩
  have key := forF_inv (good := always) (tg := tgName 6) (body := lb_law_2 a) (Post := fun r => ∃ (h' : HD) (σ' : S3), r = .nx σ' h')
    (Inv := fun rem σ h' => ∃ (i : Nat) (c q s : Nat) (b n : Int) (es : List Ent) (x6 x7 x8 x9 x10 x11 x12 x13 : Option T3.Slot), rem = (rngD 1 59).drop i ∧ i ≤ 59 ∧ σ = σW ns R st c (stD b s n) fl x6 x7 x8 x9 x10 x11 x12 x13 none ∧ isOwn σ 6 = false ∧ Sit a h' c q s b n es i) ?_ ?_ (rngD 1 59)
    (σW ns R st 0 (stD st 2 st) fl none none none none none none none none none) h0 ⟨0, 0, 1, 2, st, st, [], none, none, none, none, none, none, none, none, rfl, by omega, rfl, rfl, T0⟩
  rotate_left
  · rintro x xs σ h' ⟨i, c, q, s, b, n, es, x6, x7, x8, x9, x10, x11, x12, x13, ex, hi, rfl, xo, T⟩
    obtain ⟨hi, rfl, rfl⟩ := rng_drop ex.symm
    obtain ⟨h2, c', q', s', b', n', es', y7, y8, y9, y10, y11, y12, y13, e, T'⟩ := turn_ok T (by omega) ns R hR st fl (1 + i) (by omega) x7 x8 x9 x10 x11 x12 x13
    refine ⟨rfl, σW ns R st c (stD b s n) fl (some (.val (.int ((1 + i : Nat) : Int)))) x7 x8 x9 x10 x11 x12 x13 none, ?_, ?_⟩
    · have ei : ((1 + i : Nat) : Int) = 1 + (i : Int) := by omega
      simp only [tgName, setIf, xo, ei]
      rfl
    · rw [e]
      exact ⟨i + 1, c', q', s', b', n', es', _, y7, y8, y9, y10, y11, y12, y13, rfl, by omega, rfl, rfl, T'⟩
  · rintro σ h' ⟨i, c, q, s, b, n, es, x6, x7, x8, x9, x10, x11, x12, x13, ex, hi, rfl, xo, T⟩
    exact ⟨rfl, h', _, rfl⟩
  obtain ⟨h', σ', key⟩ := key
  refine ⟨h', bodyD_rt z rfl ?_⟩
  refine (gSeq_nx (stSet e1 rfl)).trans ((gSeq_nx (stSet e2 rfl)).trans ((gSeq_nx (stSet e3 rfl)).trans ((gSeq_nx (stSet e4 rfl)).trans ((gSeq_nx (stSet e5 rfl)).trans ?_))))
  have f1 : gFor (dBind (dCons (dC (.int 1)) (dCons (dC (.int 60)) dNil)) kRng2) (tgName 6) (lb_law_2 a) (σW ns R st 0 (stD st 2 st) fl none none none none none none none none none) h0 = .nx σ' h' := key
  refine (gSeq_nx f1).trans ?_
  simp [dBind, dPure, dStuck, dOpt, dVar, dC, dRes, res, dOp2, dTest, dTruth, truth, dAndT, dOrT, dNotT, dIf, isBl, dAndV, dOrV, dNotV, dUn, gE, gSeq, gNx, gIf, gRet, gSet, gRetN, gStuck, bodyD, dCall, clL, cl, dCons, dNil, dFun, dResL, resL, T3.cond, gGt, gLt, gLe, gGe, gCmp, gInt, ofS_beq, ofS_inj, q_str, nq_str, q_int, nq_int, q_str2, in3, T3.dTup, okLen, sizeLine, gAdd, gAddI, gMul, ix0t, ix1t, ix2t, ix3t, ix0l, ix1l, ix2l, ix3l, gFld, dFld, fldOf, insAt, lstAt, dicAt, cellAt, insC, lstC, dicC, dSt, isC, gPut, T3.putAt, putFD, dNewRef, dFrz, cellV, cellD, nLst, gLen4, gLen, gExpr, gAppend, oneOf, nDictOf, dMake, get_end, get_end1, get_end2, get_end3, set_end, nLc, wOk, isOwn, iSrc, srcOf, srcRef, nListOf, tgName, setIf, wipe3, List.lookup, seqOf, Function.comp_def, StepOk, gFor, gInt1, gMod, gDiv, T3.gSub]
end
end W

set_option Elab.async false
set_option linter.all false
set_option maxRecDepth 100000
set_option maxHeartbeats 2000000
namespace W
open PySem L2 T3
/-! ### the ending -/
theorem sp_law {K : PySem.W.Frag} {a : Ad} {n : Nat} (PL : ∀ ns : List Int, ns.length ≤ n → ∃ h, den_law a [.scr ns] [] = .ok (.bl true) h) {H : Hp} {b : Addr} {ns : List Int} (hl : ns.length ≤ n) (s : SqL K H b (ns.map V.int)) : SpD K 1 (den_law a) [.ref b] H (fun v _ => v = .bl true) (fun _ _ _ => False) := by
  obtain ⟨h, e⟩ := PL ns hl
  have no : ∀ x, ¬ Mu (fun _ => False) [] [] x := fun x m => by
    rcases m with m | m | m
    · exact m
    · cases m
    · cases m
  refine ⟨fun _ => False, [], [], [.scr ns], ⟨.nil, .nil, List.nodup_nil, fun _ m => m.elim, fun _ m => m.elim⟩, .cons (.scr ?_) .nil, rfl, ?_⟩
  · rcases s with s | s
    · exact .inl ⟨s, no _⟩
    · exact .inr (.inr s)
  · rw [e]
    intro ρ H2 v _ _ r
    cases r; rfl
theorem all_mk (PL : ∀ (a : Ad) (ns : List Int), ns.length ≤ 63 → ∃ h, den_law a [.scr ns] [] = .ok (.bl true) h) {l : PySem.W.OpenLaw} {w : World} {K : PySem.W.Frag} {h : Heap} {mg : Str → Option Value} {fa : Addr} (X : K.In h) (G : h.Ns mainGlobals mg) (hfa : mg "law" = some (.ref fa))
    {C_Cell : Addr}
    {x_kind_of_value : Addr} {oc_kind_of_value kV_kind_of_value dc_kind_of_value pm_kind_of_value cd_kind_of_value ct_kind_of_value : Value} {od_kind_of_value an_kind_of_value : Option Addr} {sl_kind_of_value : Array (Option Value)}
    {x_same : Addr} {oc_same kV_same dc_same pm_same cd_same ct_same : Value} {od_same an_same : Option Addr} {sl_same : Array (Option Value)}
    {x_same_fields : Addr} {oc_same_fields kV_same_fields dc_same_fields pm_same_fields cd_same_fields ct_same_fields : Value} {od_same_fields an_same_fields : Option Addr} {sl_same_fields : Array (Option Value)}
    {x_copied : Addr} {oc_copied kV_copied dc_copied pm_copied cd_copied ct_copied : Value} {od_copied an_copied : Option Addr} {sl_copied : Array (Option Value)}
    {x_bounded_number : Addr} {oc_bounded_number kV_bounded_number dc_bounded_number pm_bounded_number cd_bounded_number ct_bounded_number : Value} {od_bounded_number an_bounded_number : Option Addr} {sl_bounded_number : Array (Option Value)}
    {x_need_number : Addr} {oc_need_number kV_need_number dc_need_number pm_need_number cd_need_number ct_need_number : Value} {od_need_number an_need_number : Option Addr} {sl_need_number : Array (Option Value)}
    {x_add : Addr} {oc_add kV_add dc_add pm_add cd_add ct_add : Value} {od_add an_add : Option Addr} {sl_add : Array (Option Value)}
    {x_calculate : Addr} {oc_calculate kV_calculate dc_calculate pm_calculate cd_calculate ct_calculate : Value} {od_calculate an_calculate : Option Addr} {sl_calculate : Array (Option Value)}
    {x_operate : Addr} {oc_operate kV_operate dc_operate pm_operate cd_operate ct_operate : Value} {od_operate an_operate : Option Addr} {sl_operate : Array (Option Value)}
    {x_evaluate_binary : Addr} {oc_evaluate_binary kV_evaluate_binary dc_evaluate_binary pm_evaluate_binary cd_evaluate_binary ct_evaluate_binary : Value} {od_evaluate_binary an_evaluate_binary : Option Addr} {sl_evaluate_binary : Array (Option Value)}
    {x_evaluate : Addr} {oc_evaluate kV_evaluate dc_evaluate pm_evaluate cd_evaluate ct_evaluate : Value} {od_evaluate an_evaluate : Option Addr} {sl_evaluate : Array (Option Value)}
    {x_applied : Addr} {oc_applied kV_applied dc_applied pm_applied cd_applied ct_applied : Value} {od_applied an_applied : Option Addr} {sl_applied : Array (Option Value)}
    {x_Cell___init__ : Addr} {oc_Cell___init__ kV_Cell___init__ dc_Cell___init__ pm_Cell___init__ cd_Cell___init__ ct_Cell___init__ : Value} {od_Cell___init__ an_Cell___init__ : Option Addr} {sl_Cell___init__ : Array (Option Value)}
    {x_Cell___eq__ : Addr} {oc_Cell___eq__ kV_Cell___eq__ dc_Cell___eq__ pm_Cell___eq__ cd_Cell___eq__ ct_Cell___eq__ : Value} {od_Cell___eq__ an_Cell___eq__ : Option Addr} {sl_Cell___eq__ : Array (Option Value)}
    {x_Cell_present : Addr} {oc_Cell_present kV_Cell_present dc_Cell_present pm_Cell_present cd_Cell_present ct_Cell_present : Value} {od_Cell_present an_Cell_present : Option Addr} {sl_Cell_present : Array (Option Value)}
    {p_Cell_present : Addr} {r_Cell_present : List Value}
    {x_Cell_waits_in : Addr} {oc_Cell_waits_in kV_Cell_waits_in dc_Cell_waits_in pm_Cell_waits_in cd_Cell_waits_in ct_Cell_waits_in : Value} {od_Cell_waits_in an_Cell_waits_in : Option Addr} {sl_Cell_waits_in : Array (Option Value)}
    {x_Cell_open_lanes : Addr} {oc_Cell_open_lanes kV_Cell_open_lanes dc_Cell_open_lanes pm_Cell_open_lanes cd_Cell_open_lanes ct_Cell_open_lanes : Value} {od_Cell_open_lanes an_Cell_open_lanes : Option Addr} {sl_Cell_open_lanes : Array (Option Value)}
    {p_Cell_open_lanes : Addr} {r_Cell_open_lanes : List Value}
    {x_Cell_send : Addr} {oc_Cell_send kV_Cell_send dc_Cell_send pm_Cell_send cd_Cell_send ct_Cell_send : Value} {od_Cell_send an_Cell_send : Option Addr} {sl_Cell_send : Array (Option Value)}
    {x_Cell_processed : Addr} {oc_Cell_processed kV_Cell_processed dc_Cell_processed pm_Cell_processed cd_Cell_processed ct_Cell_processed : Value} {od_Cell_processed an_Cell_processed : Option Addr} {sl_Cell_processed : Array (Option Value)}
    {x_Cell_copied : Addr} {oc_Cell_copied kV_Cell_copied dc_Cell_copied pm_Cell_copied cd_Cell_copied ct_Cell_copied : Value} {od_Cell_copied an_Cell_copied : Option Addr} {sl_Cell_copied : Array (Option Value)}
    {x_l_rows : Addr} {oc_l_rows kV_l_rows dc_l_rows pm_l_rows cd_l_rows ct_l_rows : Value} {od_l_rows an_l_rows : Option Addr} {sl_l_rows : Array (Option Value)}
    {x_l_update : Addr} {oc_l_update kV_l_update dc_l_update pm_l_update cd_l_update ct_l_update : Value} {od_l_update an_l_update : Option Addr} {sl_l_update : Array (Option Value)}
    {x_l_apply : Addr} {oc_l_apply kV_l_apply dc_l_apply pm_l_apply cd_l_apply ct_l_apply : Value} {od_l_apply an_l_apply : Option Addr} {sl_l_apply : Array (Option Value)}
    {x_l_processed : Addr} {oc_l_processed kV_l_processed dc_l_processed pm_l_processed cd_l_processed ct_l_processed : Value} {od_l_processed an_l_processed : Option Addr} {sl_l_processed : Array (Option Value)}
    {x_l_same : Addr} {oc_l_same kV_l_same dc_l_same pm_l_same cd_l_same ct_l_same : Value} {od_l_same an_l_same : Option Addr} {sl_l_same : Array (Option Value)}
    {x_law : Addr} {oc_law kV_law dc_law pm_law cd_law ct_law : Value} {od_law an_law : Option Addr} {sl_law : Array (Option Value)}
    {t_MOST_NUMBER : Tok}
    {t_QUEUE_MOST : Tok}
    (aC_Cell : PySem.W.nsIn K mainGlobals "Cell" = some (some (.ref C_Cell)))
    (a_kind_of_value : PySem.W.nsIn K mainGlobals "kind_of_value" = some (some (.ref x_kind_of_value)))
    (l_kind_of_value : K.lookup x_kind_of_value = some ⟨oc_kind_of_value, od_kind_of_value, .func (PySem.W.fnOf "kind_of_value" "kind_of_value" (defArgs st_kind_of_value) (defBody st_kind_of_value) (defScope st_kind_of_value) .none kV_kind_of_value dc_kind_of_value pm_kind_of_value an_kind_of_value cd_kind_of_value ct_kind_of_value), sl_kind_of_value⟩)
    (c_kind_of_value : PySem.W.codeIn K cd_kind_of_value "kind_of_value" = true)
    (k_kind_of_value : PySem.W.keepIn K (.ref x_kind_of_value) = true)
    (a_same : PySem.W.nsIn K mainGlobals "same" = some (some (.ref x_same)))
    (l_same : K.lookup x_same = some ⟨oc_same, od_same, .func (PySem.W.fnOf "same" "same" (defArgs st_same) (defBody st_same) (defScope st_same) .none kV_same dc_same pm_same an_same cd_same ct_same), sl_same⟩)
    (c_same : PySem.W.codeIn K cd_same "same" = true)
    (k_same : PySem.W.keepIn K (.ref x_same) = true)
    (a_same_fields : PySem.W.nsIn K mainGlobals "same_fields" = some (some (.ref x_same_fields)))
    (l_same_fields : K.lookup x_same_fields = some ⟨oc_same_fields, od_same_fields, .func (PySem.W.fnOf "same_fields" "same_fields" (defArgs st_same_fields) (defBody st_same_fields) (defScope st_same_fields) .none kV_same_fields dc_same_fields pm_same_fields an_same_fields cd_same_fields ct_same_fields), sl_same_fields⟩)
    (c_same_fields : PySem.W.codeIn K cd_same_fields "same_fields" = true)
    (k_same_fields : PySem.W.keepIn K (.ref x_same_fields) = true)
    (a_copied : PySem.W.nsIn K mainGlobals "copied" = some (some (.ref x_copied)))
    (l_copied : K.lookup x_copied = some ⟨oc_copied, od_copied, .func (PySem.W.fnOf "copied" "copied" (defArgs st_copied) (defBody st_copied) (defScope st_copied) .none kV_copied dc_copied pm_copied an_copied cd_copied ct_copied), sl_copied⟩)
    (c_copied : PySem.W.codeIn K cd_copied "copied" = true)
    (k_copied : PySem.W.keepIn K (.ref x_copied) = true)
    (a_bounded_number : PySem.W.nsIn K mainGlobals "bounded_number" = some (some (.ref x_bounded_number)))
    (l_bounded_number : K.lookup x_bounded_number = some ⟨oc_bounded_number, od_bounded_number, .func (PySem.W.fnOf "bounded_number" "bounded_number" (defArgs st_bounded_number) (defBody st_bounded_number) (defScope st_bounded_number) .none kV_bounded_number dc_bounded_number pm_bounded_number an_bounded_number cd_bounded_number ct_bounded_number), sl_bounded_number⟩)
    (c_bounded_number : PySem.W.codeIn K cd_bounded_number "bounded_number" = true)
    (k_bounded_number : PySem.W.keepIn K (.ref x_bounded_number) = true)
    (a_need_number : PySem.W.nsIn K mainGlobals "need_number" = some (some (.ref x_need_number)))
    (l_need_number : K.lookup x_need_number = some ⟨oc_need_number, od_need_number, .func (PySem.W.fnOf "need_number" "need_number" (defArgs st_need_number) (defBody st_need_number) (defScope st_need_number) .none kV_need_number dc_need_number pm_need_number an_need_number cd_need_number ct_need_number), sl_need_number⟩)
    (c_need_number : PySem.W.codeIn K cd_need_number "need_number" = true)
    (k_need_number : PySem.W.keepIn K (.ref x_need_number) = true)
    (a_add : PySem.W.nsIn K mainGlobals "add" = some (some (.ref x_add)))
    (l_add : K.lookup x_add = some ⟨oc_add, od_add, .func (PySem.W.fnOf "add" "add" (defArgs st_add) (defBody st_add) (defScope st_add) .none kV_add dc_add pm_add an_add cd_add ct_add), sl_add⟩)
    (c_add : PySem.W.codeIn K cd_add "add" = true)
    (k_add : PySem.W.keepIn K (.ref x_add) = true)
    (a_calculate : PySem.W.nsIn K mainGlobals "calculate" = some (some (.ref x_calculate)))
    (l_calculate : K.lookup x_calculate = some ⟨oc_calculate, od_calculate, .func (PySem.W.fnOf "calculate" "calculate" (defArgs st_calculate) (defBody st_calculate) (defScope st_calculate) .none kV_calculate dc_calculate pm_calculate an_calculate cd_calculate ct_calculate), sl_calculate⟩)
    (c_calculate : PySem.W.codeIn K cd_calculate "calculate" = true)
    (k_calculate : PySem.W.keepIn K (.ref x_calculate) = true)
    (a_operate : PySem.W.nsIn K mainGlobals "operate" = some (some (.ref x_operate)))
    (l_operate : K.lookup x_operate = some ⟨oc_operate, od_operate, .func (PySem.W.fnOf "operate" "operate" (defArgs st_operate) (defBody st_operate) (defScope st_operate) .none kV_operate dc_operate pm_operate an_operate cd_operate ct_operate), sl_operate⟩)
    (c_operate : PySem.W.codeIn K cd_operate "operate" = true)
    (k_operate : PySem.W.keepIn K (.ref x_operate) = true)
    (a_evaluate_binary : PySem.W.nsIn K mainGlobals "evaluate_binary" = some (some (.ref x_evaluate_binary)))
    (l_evaluate_binary : K.lookup x_evaluate_binary = some ⟨oc_evaluate_binary, od_evaluate_binary, .func (PySem.W.fnOf "evaluate_binary" "evaluate_binary" (defArgs st_evaluate_binary) (defBody st_evaluate_binary) (defScope st_evaluate_binary) .none kV_evaluate_binary dc_evaluate_binary pm_evaluate_binary an_evaluate_binary cd_evaluate_binary ct_evaluate_binary), sl_evaluate_binary⟩)
    (c_evaluate_binary : PySem.W.codeIn K cd_evaluate_binary "evaluate_binary" = true)
    (k_evaluate_binary : PySem.W.keepIn K (.ref x_evaluate_binary) = true)
    (a_evaluate : PySem.W.nsIn K mainGlobals "evaluate" = some (some (.ref x_evaluate)))
    (l_evaluate : K.lookup x_evaluate = some ⟨oc_evaluate, od_evaluate, .func (PySem.W.fnOf "evaluate" "evaluate" (defArgs st_evaluate) (defBody st_evaluate) (defScope st_evaluate) .none kV_evaluate dc_evaluate pm_evaluate an_evaluate cd_evaluate ct_evaluate), sl_evaluate⟩)
    (c_evaluate : PySem.W.codeIn K cd_evaluate "evaluate" = true)
    (k_evaluate : PySem.W.keepIn K (.ref x_evaluate) = true)
    (a_applied : PySem.W.nsIn K mainGlobals "applied" = some (some (.ref x_applied)))
    (l_applied : K.lookup x_applied = some ⟨oc_applied, od_applied, .func (PySem.W.fnOf "applied" "applied" (defArgs st_applied) (defBody st_applied) (defScope st_applied) .none kV_applied dc_applied pm_applied an_applied cd_applied ct_applied), sl_applied⟩)
    (c_applied : PySem.W.codeIn K cd_applied "applied" = true)
    (k_applied : PySem.W.keepIn K (.ref x_applied) = true)
    (a_Cell___init__ : PySem.W.findIn K (.ref C_Cell) "__init__" = some (some (.ref x_Cell___init__)))
    (i_Cell___init__ : PySem.W.isFn K (.ref x_Cell___init__) = true)
    (l_Cell___init__ : K.lookup x_Cell___init__ = some ⟨oc_Cell___init__, od_Cell___init__, .func (PySem.W.fnOf "__init__" "Cell.__init__" (defArgs st_Cell___init__) (defBody st_Cell___init__) (defScope st_Cell___init__) .none kV_Cell___init__ dc_Cell___init__ pm_Cell___init__ an_Cell___init__ cd_Cell___init__ ct_Cell___init__), sl_Cell___init__⟩)
    (c_Cell___init__ : PySem.W.codeIn K cd_Cell___init__ "Cell.__init__" = true)
    (k_Cell___init__ : PySem.W.keepIn K (.ref x_Cell___init__) = true)
    (a_Cell___eq__ : PySem.W.findIn K (.ref C_Cell) "__eq__" = some (some (.ref x_Cell___eq__)))
    (i_Cell___eq__ : PySem.W.isFn K (.ref x_Cell___eq__) = true)
    (l_Cell___eq__ : K.lookup x_Cell___eq__ = some ⟨oc_Cell___eq__, od_Cell___eq__, .func (PySem.W.fnOf "__eq__" "Cell.__eq__" (defArgs st_Cell___eq__) (defBody st_Cell___eq__) (defScope st_Cell___eq__) .none kV_Cell___eq__ dc_Cell___eq__ pm_Cell___eq__ an_Cell___eq__ cd_Cell___eq__ ct_Cell___eq__), sl_Cell___eq__⟩)
    (c_Cell___eq__ : PySem.W.codeIn K cd_Cell___eq__ "Cell.__eq__" = true)
    (k_Cell___eq__ : PySem.W.keepIn K (.ref x_Cell___eq__) = true)
    (a_Cell_present : PySem.W.findIn K (.ref C_Cell) "present" = some (some (.ref p_Cell_present)))
    (g_Cell_present : PySem.W.specialIn K (.ref p_Cell_present) "__get__" = some (some (.builtin "property.__get__")))
    (t_Cell_present : PySem.W.takesIn K (.ref p_Cell_present) = some true)
    (q_Cell_present : PySem.W.recIn K p_Cell_present "property" = some (.ref x_Cell_present :: r_Cell_present))
    (l_Cell_present : K.lookup x_Cell_present = some ⟨oc_Cell_present, od_Cell_present, .func (PySem.W.fnOf "present" "Cell.present" (defArgs st_Cell_present) (defBody st_Cell_present) (defScope st_Cell_present) .none kV_Cell_present dc_Cell_present pm_Cell_present an_Cell_present cd_Cell_present ct_Cell_present), sl_Cell_present⟩)
    (c_Cell_present : PySem.W.codeIn K cd_Cell_present "Cell.present" = true)
    (k_Cell_present : PySem.W.keepIn K (.ref x_Cell_present) = true)
    (a_Cell_waits_in : PySem.W.findIn K (.ref C_Cell) "waits_in" = some (some (.ref x_Cell_waits_in)))
    (i_Cell_waits_in : PySem.W.isFn K (.ref x_Cell_waits_in) = true)
    (l_Cell_waits_in : K.lookup x_Cell_waits_in = some ⟨oc_Cell_waits_in, od_Cell_waits_in, .func (PySem.W.fnOf "waits_in" "Cell.waits_in" (defArgs st_Cell_waits_in) (defBody st_Cell_waits_in) (defScope st_Cell_waits_in) .none kV_Cell_waits_in dc_Cell_waits_in pm_Cell_waits_in an_Cell_waits_in cd_Cell_waits_in ct_Cell_waits_in), sl_Cell_waits_in⟩)
    (c_Cell_waits_in : PySem.W.codeIn K cd_Cell_waits_in "Cell.waits_in" = true)
    (k_Cell_waits_in : PySem.W.keepIn K (.ref x_Cell_waits_in) = true)
    (a_Cell_open_lanes : PySem.W.findIn K (.ref C_Cell) "open_lanes" = some (some (.ref p_Cell_open_lanes)))
    (g_Cell_open_lanes : PySem.W.specialIn K (.ref p_Cell_open_lanes) "__get__" = some (some (.builtin "property.__get__")))
    (t_Cell_open_lanes : PySem.W.takesIn K (.ref p_Cell_open_lanes) = some true)
    (q_Cell_open_lanes : PySem.W.recIn K p_Cell_open_lanes "property" = some (.ref x_Cell_open_lanes :: r_Cell_open_lanes))
    (l_Cell_open_lanes : K.lookup x_Cell_open_lanes = some ⟨oc_Cell_open_lanes, od_Cell_open_lanes, .func (PySem.W.fnOf "open_lanes" "Cell.open_lanes" (defArgs st_Cell_open_lanes) (defBody st_Cell_open_lanes) (defScope st_Cell_open_lanes) .none kV_Cell_open_lanes dc_Cell_open_lanes pm_Cell_open_lanes an_Cell_open_lanes cd_Cell_open_lanes ct_Cell_open_lanes), sl_Cell_open_lanes⟩)
    (c_Cell_open_lanes : PySem.W.codeIn K cd_Cell_open_lanes "Cell.open_lanes" = true)
    (k_Cell_open_lanes : PySem.W.keepIn K (.ref x_Cell_open_lanes) = true)
    (a_Cell_send : PySem.W.findIn K (.ref C_Cell) "send" = some (some (.ref x_Cell_send)))
    (i_Cell_send : PySem.W.isFn K (.ref x_Cell_send) = true)
    (l_Cell_send : K.lookup x_Cell_send = some ⟨oc_Cell_send, od_Cell_send, .func (PySem.W.fnOf "send" "Cell.send" (defArgs st_Cell_send) (defBody st_Cell_send) (defScope st_Cell_send) .none kV_Cell_send dc_Cell_send pm_Cell_send an_Cell_send cd_Cell_send ct_Cell_send), sl_Cell_send⟩)
    (c_Cell_send : PySem.W.codeIn K cd_Cell_send "Cell.send" = true)
    (k_Cell_send : PySem.W.keepIn K (.ref x_Cell_send) = true)
    (a_Cell_processed : PySem.W.findIn K (.ref C_Cell) "processed" = some (some (.ref x_Cell_processed)))
    (i_Cell_processed : PySem.W.isFn K (.ref x_Cell_processed) = true)
    (l_Cell_processed : K.lookup x_Cell_processed = some ⟨oc_Cell_processed, od_Cell_processed, .func (PySem.W.fnOf "processed" "Cell.processed" (defArgs st_Cell_processed) (defBody st_Cell_processed) (defScope st_Cell_processed) .none kV_Cell_processed dc_Cell_processed pm_Cell_processed an_Cell_processed cd_Cell_processed ct_Cell_processed), sl_Cell_processed⟩)
    (c_Cell_processed : PySem.W.codeIn K cd_Cell_processed "Cell.processed" = true)
    (k_Cell_processed : PySem.W.keepIn K (.ref x_Cell_processed) = true)
    (a_Cell_copied : PySem.W.findIn K (.ref C_Cell) "copied" = some (some (.ref x_Cell_copied)))
    (i_Cell_copied : PySem.W.isFn K (.ref x_Cell_copied) = true)
    (l_Cell_copied : K.lookup x_Cell_copied = some ⟨oc_Cell_copied, od_Cell_copied, .func (PySem.W.fnOf "copied" "Cell.copied" (defArgs st_Cell_copied) (defBody st_Cell_copied) (defScope st_Cell_copied) .none kV_Cell_copied dc_Cell_copied pm_Cell_copied an_Cell_copied cd_Cell_copied ct_Cell_copied), sl_Cell_copied⟩)
    (c_Cell_copied : PySem.W.codeIn K cd_Cell_copied "Cell.copied" = true)
    (k_Cell_copied : PySem.W.keepIn K (.ref x_Cell_copied) = true)
    (a_l_rows : PySem.W.nsIn K mainGlobals "_law_rows" = some (some (.ref x_l_rows)))
    (l_l_rows : K.lookup x_l_rows = some ⟨oc_l_rows, od_l_rows, .func (PySem.W.fnOf "_law_rows" "_law_rows" (defArgs st_l_rows) (defBody st_l_rows) (defScope st_l_rows) .none kV_l_rows dc_l_rows pm_l_rows an_l_rows cd_l_rows ct_l_rows), sl_l_rows⟩)
    (c_l_rows : PySem.W.codeIn K cd_l_rows "_law_rows" = true)
    (k_l_rows : PySem.W.keepIn K (.ref x_l_rows) = true)
    (a_l_update : PySem.W.nsIn K mainGlobals "_law_update" = some (some (.ref x_l_update)))
    (l_l_update : K.lookup x_l_update = some ⟨oc_l_update, od_l_update, .func (PySem.W.fnOf "_law_update" "_law_update" (defArgs st_l_update) (defBody st_l_update) (defScope st_l_update) .none kV_l_update dc_l_update pm_l_update an_l_update cd_l_update ct_l_update), sl_l_update⟩)
    (c_l_update : PySem.W.codeIn K cd_l_update "_law_update" = true)
    (k_l_update : PySem.W.keepIn K (.ref x_l_update) = true)
    (a_l_apply : PySem.W.nsIn K mainGlobals "_law_apply" = some (some (.ref x_l_apply)))
    (l_l_apply : K.lookup x_l_apply = some ⟨oc_l_apply, od_l_apply, .func (PySem.W.fnOf "_law_apply" "_law_apply" (defArgs st_l_apply) (defBody st_l_apply) (defScope st_l_apply) .none kV_l_apply dc_l_apply pm_l_apply an_l_apply cd_l_apply ct_l_apply), sl_l_apply⟩)
    (c_l_apply : PySem.W.codeIn K cd_l_apply "_law_apply" = true)
    (k_l_apply : PySem.W.keepIn K (.ref x_l_apply) = true)
    (a_l_processed : PySem.W.nsIn K mainGlobals "_law_processed" = some (some (.ref x_l_processed)))
    (l_l_processed : K.lookup x_l_processed = some ⟨oc_l_processed, od_l_processed, .func (PySem.W.fnOf "_law_processed" "_law_processed" (defArgs st_l_processed) (defBody st_l_processed) (defScope st_l_processed) .none kV_l_processed dc_l_processed pm_l_processed an_l_processed cd_l_processed ct_l_processed), sl_l_processed⟩)
    (c_l_processed : PySem.W.codeIn K cd_l_processed "_law_processed" = true)
    (k_l_processed : PySem.W.keepIn K (.ref x_l_processed) = true)
    (a_l_same : PySem.W.nsIn K mainGlobals "_law_same" = some (some (.ref x_l_same)))
    (l_l_same : K.lookup x_l_same = some ⟨oc_l_same, od_l_same, .func (PySem.W.fnOf "_law_same" "_law_same" (defArgs st_l_same) (defBody st_l_same) (defScope st_l_same) .none kV_l_same dc_l_same pm_l_same an_l_same cd_l_same ct_l_same), sl_l_same⟩)
    (c_l_same : PySem.W.codeIn K cd_l_same "_law_same" = true)
    (k_l_same : PySem.W.keepIn K (.ref x_l_same) = true)
    (a_law : PySem.W.nsIn K mainGlobals "law" = some (some (.ref x_law)))
    (l_law : K.lookup x_law = some ⟨oc_law, od_law, .func (PySem.W.fnOf "law" "law" (defArgs st_law) (defBody st_law) (defScope st_law) .none kV_law dc_law pm_law an_law cd_law ct_law), sl_law⟩)
    (c_law : PySem.W.codeIn K cd_law "law" = true)
    (k_law : PySem.W.keepIn K (.ref x_law) = true)
    (pg_Cell : PySem.W.plainGet K C_Cell Str.empty = true)
    (hd_Cell : PySem.W.hasDictIn K C_Cell = true)
    (po_Cell : PySem.W.plainOver K C_Cell = true)
    (sa_Cell : PySem.W.findIn K (.ref C_Cell) "__setattr__" = some (some (.builtin "object.__setattr__")))
    (ha_Cell : PySem.W.findIn K (.ref C_Cell) "__class__" = some (some (.builtin "object.__class__")))
    (hn_Cell : PySem.W.specialIn K (.builtin "object.__class__") "__get__" = some (some (.builtin "getset_descriptor.__get__")))
    (ht_Cell : PySem.W.takesIn K (.builtin "object.__class__") = some true)
    (hm_Cell : PySem.W.mroIn K C_Cell (.type "object") = some true)
    (mk_Cell : PySem.W.makesIn K C_Cell = true)
    (kc_Cell : PySem.W.keepIn K (.ref C_Cell) = true)
    (ne_Cell : PySem.W.findIn K (.ref C_Cell) "__ne__" = some (some (.builtin "object.__ne__")))
    (n_Cell_base : PySem.W.findIn K (.ref C_Cell) "base" = some none)
    (n_Cell_name : PySem.W.findIn K (.ref C_Cell) "name" = some none)
    (n_Cell_now : PySem.W.findIn K (.ref C_Cell) "now" = some none)
    (n_Cell_queue : PySem.W.findIn K (.ref C_Cell) "queue" = some none)
    (z_abs : PySem.W.nsIn K mainGlobals "abs" = some none)
    (z_bool : PySem.W.nsIn K mainGlobals "bool" = some none)
    (z_dict : PySem.W.nsIn K mainGlobals "dict" = some none)
    (z_int : PySem.W.nsIn K mainGlobals "int" = some none)
    (z_isinstance : PySem.W.nsIn K mainGlobals "isinstance" = some none)
    (z_len : PySem.W.nsIn K mainGlobals "len" = some none)
    (z_list : PySem.W.nsIn K mainGlobals "list" = some none)
    (z_range : PySem.W.nsIn K mainGlobals "range" = some none)
    (z_str : PySem.W.nsIn K mainGlobals "str" = some none)
    (z_zip : PySem.W.nsIn K mainGlobals "zip" = some none)
    (g_MOST_NUMBER : PySem.W.nsIn K mainGlobals "MOST_NUMBER" = some (some (.int 1000000000000000000000000000000 t_MOST_NUMBER)))
    (g_QUEUE_MOST : PySem.W.nsIn K mainGlobals "QUEUE_MOST" = some (some (.int 50 t_QUEUE_MOST))) :
    ∃ (fd : FuncData) (sp : Sp), (∀ (s : Shared) (v : Value), BindsTo s fd ⟨[v], []⟩ [("_law_script", v)]) ∧ (∀ base : Heap, K.In base → base.Ns mainGlobals mg → FnOk l.prog w K mg base (L2.CX l.prog w) 13 fa fd ["_law_script"] sp) ∧ ∀ (H : Hp) (b : Addr) (ns : List Int), ns.length ≤ 63 → SqL K H b (ns.map V.int) → sp [.ref b] H (fun v _ => v = .bl true) fun _ _ _ => False := by
  have e := hfa.symm.trans (PySem.W.mg_of X G a_law)
  cases e
  let a : Ad := {
    f_kind_of_value := x_kind_of_value
    d_kind_of_value := PySem.W.fnOf "kind_of_value" "kind_of_value" (defArgs st_kind_of_value) (defBody st_kind_of_value) (defScope st_kind_of_value) .none kV_kind_of_value dc_kind_of_value pm_kind_of_value an_kind_of_value cd_kind_of_value ct_kind_of_value
    f_same := x_same
    d_same := PySem.W.fnOf "same" "same" (defArgs st_same) (defBody st_same) (defScope st_same) .none kV_same dc_same pm_same an_same cd_same ct_same
    f_same_fields := x_same_fields
    d_same_fields := PySem.W.fnOf "same_fields" "same_fields" (defArgs st_same_fields) (defBody st_same_fields) (defScope st_same_fields) .none kV_same_fields dc_same_fields pm_same_fields an_same_fields cd_same_fields ct_same_fields
    f_copied := x_copied
    d_copied := PySem.W.fnOf "copied" "copied" (defArgs st_copied) (defBody st_copied) (defScope st_copied) .none kV_copied dc_copied pm_copied an_copied cd_copied ct_copied
    f_bounded_number := x_bounded_number
    d_bounded_number := PySem.W.fnOf "bounded_number" "bounded_number" (defArgs st_bounded_number) (defBody st_bounded_number) (defScope st_bounded_number) .none kV_bounded_number dc_bounded_number pm_bounded_number an_bounded_number cd_bounded_number ct_bounded_number
    f_need_number := x_need_number
    d_need_number := PySem.W.fnOf "need_number" "need_number" (defArgs st_need_number) (defBody st_need_number) (defScope st_need_number) .none kV_need_number dc_need_number pm_need_number an_need_number cd_need_number ct_need_number
    f_add := x_add
    d_add := PySem.W.fnOf "add" "add" (defArgs st_add) (defBody st_add) (defScope st_add) .none kV_add dc_add pm_add an_add cd_add ct_add
    f_calculate := x_calculate
    d_calculate := PySem.W.fnOf "calculate" "calculate" (defArgs st_calculate) (defBody st_calculate) (defScope st_calculate) .none kV_calculate dc_calculate pm_calculate an_calculate cd_calculate ct_calculate
    f_operate := x_operate
    d_operate := PySem.W.fnOf "operate" "operate" (defArgs st_operate) (defBody st_operate) (defScope st_operate) .none kV_operate dc_operate pm_operate an_operate cd_operate ct_operate
    f_evaluate_binary := x_evaluate_binary
    d_evaluate_binary := PySem.W.fnOf "evaluate_binary" "evaluate_binary" (defArgs st_evaluate_binary) (defBody st_evaluate_binary) (defScope st_evaluate_binary) .none kV_evaluate_binary dc_evaluate_binary pm_evaluate_binary an_evaluate_binary cd_evaluate_binary ct_evaluate_binary
    f_evaluate := x_evaluate
    d_evaluate := PySem.W.fnOf "evaluate" "evaluate" (defArgs st_evaluate) (defBody st_evaluate) (defScope st_evaluate) .none kV_evaluate dc_evaluate pm_evaluate an_evaluate cd_evaluate ct_evaluate
    f_applied := x_applied
    d_applied := PySem.W.fnOf "applied" "applied" (defArgs st_applied) (defBody st_applied) (defScope st_applied) .none kV_applied dc_applied pm_applied an_applied cd_applied ct_applied
    f_Cell___init__ := x_Cell___init__
    d_Cell___init__ := PySem.W.fnOf "__init__" "Cell.__init__" (defArgs st_Cell___init__) (defBody st_Cell___init__) (defScope st_Cell___init__) .none kV_Cell___init__ dc_Cell___init__ pm_Cell___init__ an_Cell___init__ cd_Cell___init__ ct_Cell___init__
    f_Cell___eq__ := x_Cell___eq__
    d_Cell___eq__ := PySem.W.fnOf "__eq__" "Cell.__eq__" (defArgs st_Cell___eq__) (defBody st_Cell___eq__) (defScope st_Cell___eq__) .none kV_Cell___eq__ dc_Cell___eq__ pm_Cell___eq__ an_Cell___eq__ cd_Cell___eq__ ct_Cell___eq__
    f_Cell_present := x_Cell_present
    d_Cell_present := PySem.W.fnOf "present" "Cell.present" (defArgs st_Cell_present) (defBody st_Cell_present) (defScope st_Cell_present) .none kV_Cell_present dc_Cell_present pm_Cell_present an_Cell_present cd_Cell_present ct_Cell_present
    f_Cell_waits_in := x_Cell_waits_in
    d_Cell_waits_in := PySem.W.fnOf "waits_in" "Cell.waits_in" (defArgs st_Cell_waits_in) (defBody st_Cell_waits_in) (defScope st_Cell_waits_in) .none kV_Cell_waits_in dc_Cell_waits_in pm_Cell_waits_in an_Cell_waits_in cd_Cell_waits_in ct_Cell_waits_in
    f_Cell_open_lanes := x_Cell_open_lanes
    d_Cell_open_lanes := PySem.W.fnOf "open_lanes" "Cell.open_lanes" (defArgs st_Cell_open_lanes) (defBody st_Cell_open_lanes) (defScope st_Cell_open_lanes) .none kV_Cell_open_lanes dc_Cell_open_lanes pm_Cell_open_lanes an_Cell_open_lanes cd_Cell_open_lanes ct_Cell_open_lanes
    f_Cell_send := x_Cell_send
    d_Cell_send := PySem.W.fnOf "send" "Cell.send" (defArgs st_Cell_send) (defBody st_Cell_send) (defScope st_Cell_send) .none kV_Cell_send dc_Cell_send pm_Cell_send an_Cell_send cd_Cell_send ct_Cell_send
    f_Cell_processed := x_Cell_processed
    d_Cell_processed := PySem.W.fnOf "processed" "Cell.processed" (defArgs st_Cell_processed) (defBody st_Cell_processed) (defScope st_Cell_processed) .none kV_Cell_processed dc_Cell_processed pm_Cell_processed an_Cell_processed cd_Cell_processed ct_Cell_processed
    f_Cell_copied := x_Cell_copied
    d_Cell_copied := PySem.W.fnOf "copied" "Cell.copied" (defArgs st_Cell_copied) (defBody st_Cell_copied) (defScope st_Cell_copied) .none kV_Cell_copied dc_Cell_copied pm_Cell_copied an_Cell_copied cd_Cell_copied ct_Cell_copied
    f_l_rows := x_l_rows
    d_l_rows := PySem.W.fnOf "_law_rows" "_law_rows" (defArgs st_l_rows) (defBody st_l_rows) (defScope st_l_rows) .none kV_l_rows dc_l_rows pm_l_rows an_l_rows cd_l_rows ct_l_rows
    f_l_update := x_l_update
    d_l_update := PySem.W.fnOf "_law_update" "_law_update" (defArgs st_l_update) (defBody st_l_update) (defScope st_l_update) .none kV_l_update dc_l_update pm_l_update an_l_update cd_l_update ct_l_update
    f_l_apply := x_l_apply
    d_l_apply := PySem.W.fnOf "_law_apply" "_law_apply" (defArgs st_l_apply) (defBody st_l_apply) (defScope st_l_apply) .none kV_l_apply dc_l_apply pm_l_apply an_l_apply cd_l_apply ct_l_apply
    f_l_processed := x_l_processed
    d_l_processed := PySem.W.fnOf "_law_processed" "_law_processed" (defArgs st_l_processed) (defBody st_l_processed) (defScope st_l_processed) .none kV_l_processed dc_l_processed pm_l_processed an_l_processed cd_l_processed ct_l_processed
    f_l_same := x_l_same
    d_l_same := PySem.W.fnOf "_law_same" "_law_same" (defArgs st_l_same) (defBody st_l_same) (defScope st_l_same) .none kV_l_same dc_l_same pm_l_same an_l_same cd_l_same ct_l_same
    f_law := fa
    d_law := PySem.W.fnOf "law" "law" (defArgs st_law) (defBody st_law) (defScope st_law) .none kV_law dc_law pm_law an_law cd_law ct_law
    c_Cell := C_Cell
    pr_Cell_present := p_Cell_present
    pr_Cell_open_lanes := p_Cell_open_lanes
  }
  have F_kind_of_value := fun_mk (st := st_kind_of_value) l_kind_of_value c_kind_of_value k_kind_of_value
  have F_same := fun_mk (st := st_same) l_same c_same k_same
  have F_same_fields := fun_mk (st := st_same_fields) l_same_fields c_same_fields k_same_fields
  have F_copied := fun_mk (st := st_copied) l_copied c_copied k_copied
  have F_bounded_number := fun_mk (st := st_bounded_number) l_bounded_number c_bounded_number k_bounded_number
  have F_need_number := fun_mk (st := st_need_number) l_need_number c_need_number k_need_number
  have F_add := fun_mk (st := st_add) l_add c_add k_add
  have F_calculate := fun_mk (st := st_calculate) l_calculate c_calculate k_calculate
  have F_operate := fun_mk (st := st_operate) l_operate c_operate k_operate
  have F_evaluate_binary := fun_mk (st := st_evaluate_binary) l_evaluate_binary c_evaluate_binary k_evaluate_binary
  have F_evaluate := fun_mk (st := st_evaluate) l_evaluate c_evaluate k_evaluate
  have F_applied := fun_mk (st := st_applied) l_applied c_applied k_applied
  have F_Cell___init__ := fun_mk (st := st_Cell___init__) l_Cell___init__ c_Cell___init__ k_Cell___init__
  have F_Cell___eq__ := fun_mk (st := st_Cell___eq__) l_Cell___eq__ c_Cell___eq__ k_Cell___eq__
  have F_Cell_present := fun_mk (st := st_Cell_present) l_Cell_present c_Cell_present k_Cell_present
  have F_Cell_waits_in := fun_mk (st := st_Cell_waits_in) l_Cell_waits_in c_Cell_waits_in k_Cell_waits_in
  have F_Cell_open_lanes := fun_mk (st := st_Cell_open_lanes) l_Cell_open_lanes c_Cell_open_lanes k_Cell_open_lanes
  have F_Cell_send := fun_mk (st := st_Cell_send) l_Cell_send c_Cell_send k_Cell_send
  have F_Cell_processed := fun_mk (st := st_Cell_processed) l_Cell_processed c_Cell_processed k_Cell_processed
  have F_Cell_copied := fun_mk (st := st_Cell_copied) l_Cell_copied c_Cell_copied k_Cell_copied
  have F_l_rows := fun_mk (st := st_l_rows) l_l_rows c_l_rows k_l_rows
  have F_l_update := fun_mk (st := st_l_update) l_l_update c_l_update k_l_update
  have F_l_apply := fun_mk (st := st_l_apply) l_l_apply c_l_apply k_l_apply
  have F_l_processed := fun_mk (st := st_l_processed) l_l_processed c_l_processed k_l_processed
  have F_l_same := fun_mk (st := st_l_same) l_l_same c_l_same k_l_same
  have F_law := fun_mk (st := st_law) l_law c_law k_law
  have T : Tx K mg a := {
    z_abs := PySem.W.mg_none_of X G z_abs
    z_bool := PySem.W.mg_none_of X G z_bool
    z_dict := PySem.W.mg_none_of X G z_dict
    z_int := PySem.W.mg_none_of X G z_int
    z_isinstance := PySem.W.mg_none_of X G z_isinstance
    z_len := PySem.W.mg_none_of X G z_len
    z_list := PySem.W.mg_none_of X G z_list
    z_range := PySem.W.mg_none_of X G z_range
    z_str := PySem.W.mg_none_of X G z_str
    z_zip := PySem.W.mg_none_of X G z_zip
    g_MOST_NUMBER := ⟨_, PySem.W.mg_of X G g_MOST_NUMBER⟩
    g_QUEUE_MOST := ⟨_, PySem.W.mg_of X G g_QUEUE_MOST⟩
    F_kind_of_value := F_kind_of_value
    b_kind_of_value := F_kind_of_value.binds (ps := ["value"]) fun _ _ _ _ _ _ us hl => match us, hl with | [_], _ => rfl
    m_kind_of_value := PySem.W.mg_of X G a_kind_of_value
    F_same := F_same
    b_same := F_same.binds (ps := ["first", "second"]) fun _ _ _ _ _ _ us hl => match us, hl with | [_, _], _ => rfl
    m_same := PySem.W.mg_of X G a_same
    F_same_fields := F_same_fields
    b_same_fields := F_same_fields.binds (ps := ["first", "second"]) fun _ _ _ _ _ _ us hl => match us, hl with | [_, _], _ => rfl
    m_same_fields := PySem.W.mg_of X G a_same_fields
    F_copied := F_copied
    b_copied := F_copied.binds (ps := ["value"]) fun _ _ _ _ _ _ us hl => match us, hl with | [_], _ => rfl
    m_copied := PySem.W.mg_of X G a_copied
    F_bounded_number := F_bounded_number
    b_bounded_number := F_bounded_number.binds (ps := ["number"]) fun _ _ _ _ _ _ us hl => match us, hl with | [_], _ => rfl
    m_bounded_number := PySem.W.mg_of X G a_bounded_number
    F_need_number := F_need_number
    b_need_number := F_need_number.binds (ps := ["value"]) fun _ _ _ _ _ _ us hl => match us, hl with | [_], _ => rfl
    m_need_number := PySem.W.mg_of X G a_need_number
    F_add := F_add
    b_add := F_add.binds (ps := ["first", "second"]) fun _ _ _ _ _ _ us hl => match us, hl with | [_, _], _ => rfl
    m_add := PySem.W.mg_of X G a_add
    F_calculate := F_calculate
    b_calculate := F_calculate.binds (ps := ["sign", "first", "second"]) fun _ _ _ _ _ _ us hl => match us, hl with | [_, _, _], _ => rfl
    m_calculate := PySem.W.mg_of X G a_calculate
    F_operate := F_operate
    b_operate := F_operate.binds (ps := ["sign", "first", "second"]) fun _ _ _ _ _ _ us hl => match us, hl with | [_, _, _], _ => rfl
    m_operate := PySem.W.mg_of X G a_operate
    F_evaluate_binary := F_evaluate_binary
    b_evaluate_binary := F_evaluate_binary.binds (ps := ["expression", "environment", "owner"]) fun _ _ _ _ _ _ us hl => match us, hl with | [_, _, _], _ => rfl
    m_evaluate_binary := PySem.W.mg_of X G a_evaluate_binary
    F_evaluate := F_evaluate
    b_evaluate := F_evaluate.binds (ps := ["expression", "environment", "owner"]) fun _ _ _ _ _ _ us hl => match us, hl with | [_, _, _], _ => rfl
    m_evaluate := PySem.W.mg_of X G a_evaluate
    F_applied := F_applied
    b_applied := F_applied.binds (ps := ["name", "value", "expression", "environment", "owner"]) fun _ _ _ _ _ _ us hl => match us, hl with | [_, _, _, _, _], _ => rfl
    m_applied := PySem.W.mg_of X G a_applied
    F_Cell___init__ := F_Cell___init__
    b_Cell___init__ := F_Cell___init__.binds (ps := ["self", "name", "value"]) fun _ _ _ _ _ _ us hl => match us, hl with | [_, _, _], _ => rfl
    F_Cell___eq__ := F_Cell___eq__
    b_Cell___eq__ := F_Cell___eq__.binds (ps := ["self", "other"]) fun _ _ _ _ _ _ us hl => match us, hl with | [_, _], _ => rfl
    F_Cell_present := F_Cell_present
    b_Cell_present := F_Cell_present.binds (ps := ["self"]) fun _ _ _ _ _ _ us hl => match us, hl with | [_], _ => rfl
    p_Cell_present := ⟨a_Cell_present, g_Cell_present, t_Cell_present, ⟨r_Cell_present, q_Cell_present⟩⟩
    F_Cell_waits_in := F_Cell_waits_in
    b_Cell_waits_in := F_Cell_waits_in.binds (ps := ["self", "lane"]) fun _ _ _ _ _ _ us hl => match us, hl with | [_, _], _ => rfl
    t_Cell_waits_in := ⟨a_Cell_waits_in, i_Cell_waits_in, k_Cell_waits_in⟩
    F_Cell_open_lanes := F_Cell_open_lanes
    b_Cell_open_lanes := F_Cell_open_lanes.binds (ps := ["self"]) fun _ _ _ _ _ _ us hl => match us, hl with | [_], _ => rfl
    p_Cell_open_lanes := ⟨a_Cell_open_lanes, g_Cell_open_lanes, t_Cell_open_lanes, ⟨r_Cell_open_lanes, q_Cell_open_lanes⟩⟩
    F_Cell_send := F_Cell_send
    b_Cell_send := F_Cell_send.binds (ps := ["self", "lane", "expression", "environment"]) fun _ _ _ _ _ _ us hl => match us, hl with | [_, _, _, _], _ => rfl
    t_Cell_send := ⟨a_Cell_send, i_Cell_send, k_Cell_send⟩
    F_Cell_processed := F_Cell_processed
    kb_Cell_processed := ⟨fun s us ws _ h1 h2 => match us, ws, h1, h2 with | [_, _], [_], _, _ => .of_eq rfl, fun r z => r.append z⟩
    t_Cell_processed := ⟨a_Cell_processed, i_Cell_processed, k_Cell_processed⟩
    F_Cell_copied := F_Cell_copied
    b_Cell_copied := F_Cell_copied.binds (ps := ["self"]) fun _ _ _ _ _ _ us hl => match us, hl with | [_], _ => rfl
    t_Cell_copied := ⟨a_Cell_copied, i_Cell_copied, k_Cell_copied⟩
    F_l_rows := F_l_rows
    b_l_rows := F_l_rows.binds (ps := ["_law_script", "_law_count"]) fun _ _ _ _ _ _ us hl => match us, hl with | [_, _], _ => rfl
    m_l_rows := PySem.W.mg_of X G a_l_rows
    F_l_update := F_l_update
    b_l_update := F_l_update.binds (ps := ["_law_row"]) fun _ _ _ _ _ _ us hl => match us, hl with | [_], _ => rfl
    m_l_update := PySem.W.mg_of X G a_l_update
    F_l_apply := F_l_apply
    b_l_apply := F_l_apply.binds (ps := ["_law_value", "_law_entry"]) fun _ _ _ _ _ _ us hl => match us, hl with | [_, _], _ => rfl
    m_l_apply := PySem.W.mg_of X G a_l_apply
    F_l_processed := F_l_processed
    b_l_processed := F_l_processed.binds (ps := ["_law_state", "_law_lanes"]) fun _ _ _ _ _ _ us hl => match us, hl with | [_, _], _ => rfl
    m_l_processed := PySem.W.mg_of X G a_l_processed
    F_l_same := F_l_same
    b_l_same := F_l_same.binds (ps := ["_law_cell", "_law_state"]) fun _ _ _ _ _ _ us hl => match us, hl with | [_, _], _ => rfl
    m_l_same := PySem.W.mg_of X G a_l_same
    F_law := F_law
    b_law := F_law.binds (ps := ["_law_script"]) fun _ _ _ _ _ _ us hl => match us, hl with | [_], _ => rfl
    m_law := PySem.W.mg_of X G a_law
    i_Cell := ⟨⟨pg_Cell, hd_Cell, po_Cell, sa_Cell⟩, ha_Cell, hn_Cell, ht_Cell, hm_Cell⟩
    mc_Cell := PySem.W.mg_of X G aC_Cell
    k_Cell := ⟨mk_Cell, a_Cell___init__, i_Cell___init__, kc_Cell⟩
    q_Cell := ⟨a_Cell___eq__, i_Cell___eq__, ne_Cell, hm_Cell⟩
    n_Cell_base := n_Cell_base
    n_Cell_name := n_Cell_name
    n_Cell_now := n_Cell_now
    n_Cell_queue := n_Cell_queue
  }
  exact ⟨_, SpD K 1 (den_law a), fun s v => .of_eq rfl, fun base _ _ => ok_law T, fun H b ns hl s => sp_law (PL a) hl s⟩
theorem walk {l : PySem.W.OpenLaw} {q : Program} {loose : List Str} {XP : (Str → Option Value) → Heap → Prop} {YP : World → Heap → Prop} {d : DefRec} {K : Params → PySem.W.Frag} (hn : l.most = some 63) (hdf : d.params.defaults = [])
    (hY : ∀ (w : World) (h : Heap), YP w h → (K w.params).In h)
    (F : ∀ (w : World) (mg : Str → Option Value) (fa : Addr) (h : Heap), (K w.params).In h → h.Ns mainGlobals mg → mg d.name = some (.ref fa) →
      ∃ (fd : FuncData) (sp : Sp), (∀ (s : Shared) (u : Value), BindsTo s fd ⟨[u], []⟩ [("_law_script", u)]) ∧ (∀ base : Heap, (K w.params).In base → base.Ns mainGlobals mg → FnOk l.prog w (K w.params) mg base (L2.CX l.prog w) 13 fa fd ["_law_script"] sp) ∧
        ∀ (H : Hp) (b : Addr) (ns : List Int), ns.length ≤ 63 → SqL (K w.params) H b (ns.map V.int) → sp [.ref b] H (fun v _ => v = .bl true) fun _ _ _ => False) :
    PySem.W.WalkO q loose XP YP l.row.toRowW d [] (fun f vs => PySem.call f vs) := by
  let sp1 : World → Sp := fun w vs H Q E => ∃ (b : Addr) (ns : List Int), vs = [.ref b] ∧ ns.length ≤ 63 ∧ SqL (K w.params) H b (ns.map V.int) ∧ (∀ v, v = V.bl true → ∀ H', Q v H')
  refine L2.walk_of (n := 63) (k := 13) (x := "_law_script") (CX := fun w => L2.CX l.prog w) (sp := sp1) hn (by decide) hdf ⟨rfl, by decide, by decide⟩ hY (fun w mg fa h KX G hm => ?_) (fun w H a ns hl _ hS => ⟨a, ns, rfl, hl, hS, fun _ e _ => e⟩) fun _ _ _ _ _ z => ?_
  · obtain ⟨fd, sp, hb, hF, hs⟩ := F w mg fa h KX G hm
    refine ⟨fd, hb, fun base h1 h2 => ?_⟩
    refine ⟨fun vs H Q E ⟨b, ns, e, _⟩ => by rw [e]; rfl, fun A outer s H args us vs Q E hr he hb hv ⟨b, ns, e, hl, hS, hq⟩ => ?_⟩
    subst e
    refine codeAny_mono ((hF base h1 h2).run A outer s H args us _ _ _ hr he hb hv (hs H b ns hl hS)) fun r s' z => ?_
    cases r with
    | error e =>
      obtain ⟨_, _, _, _, _, _, _, _, _, _, _, _, e⟩ := z
      exact e.elim
    | ok fl => cases fl with
      | ret u =>
        obtain ⟨v, H', o, b1, un, hok, r, e⟩ := z
        exact ⟨v, H', o, b1, un, hok, r, hq v e H'⟩
      | _ => exact z
  · obtain ⟨_, _, _, _, _, _, _, _, _, _, _, _, e⟩ := z
    exact e.elim
end W

open PySem PySem.W PyProof.Rows in
set_option maxRecDepth 100000 in
set_option maxHeartbeats 0 in
theorem PySem.Challenge.cw_viewloom_k47_cells_and_their_queues_holds : PySem.Challenge.rw_viewloom_k47_cells_and_their_queues.Holds := by
  w_on; o_law; k_head; (case hw => w_witness2)
  k_fill
  refine W.walk (l := PySem.Challenge.rw_viewloom_k47_cells_and_their_queues) rfl rfl (fun w h Y => PySem.W.kIn_of Y) ?F
  case F =>
    intro w mg fa h KX G hmg
    refine' W.all_mk W.plain_law KX G hmg ?aC_Cell ?a_kind_of_value ?l_kind_of_value ?c_kind_of_value ?k_kind_of_value ?a_same ?l_same ?c_same ?k_same ?a_same_fields ?l_same_fields ?c_same_fields ?k_same_fields ?a_copied ?l_copied ?c_copied ?k_copied ?a_bounded_number ?l_bounded_number ?c_bounded_number ?k_bounded_number ?a_need_number ?l_need_number ?c_need_number ?k_need_number ?a_add ?l_add ?c_add ?k_add ?a_calculate ?l_calculate ?c_calculate ?k_calculate ?a_operate ?l_operate ?c_operate ?k_operate ?a_evaluate_binary ?l_evaluate_binary ?c_evaluate_binary ?k_evaluate_binary ?a_evaluate ?l_evaluate ?c_evaluate ?k_evaluate ?a_applied ?l_applied ?c_applied ?k_applied ?a_Cell___init__ ?i_Cell___init__ ?l_Cell___init__ ?c_Cell___init__ ?k_Cell___init__ ?a_Cell___eq__ ?i_Cell___eq__ ?l_Cell___eq__ ?c_Cell___eq__ ?k_Cell___eq__ ?a_Cell_present ?g_Cell_present ?t_Cell_present ?q_Cell_present ?l_Cell_present ?c_Cell_present ?k_Cell_present ?a_Cell_waits_in ?i_Cell_waits_in ?l_Cell_waits_in ?c_Cell_waits_in ?k_Cell_waits_in ?a_Cell_open_lanes ?g_Cell_open_lanes ?t_Cell_open_lanes ?q_Cell_open_lanes ?l_Cell_open_lanes ?c_Cell_open_lanes ?k_Cell_open_lanes ?a_Cell_send ?i_Cell_send ?l_Cell_send ?c_Cell_send ?k_Cell_send ?a_Cell_processed ?i_Cell_processed ?l_Cell_processed ?c_Cell_processed ?k_Cell_processed ?a_Cell_copied ?i_Cell_copied ?l_Cell_copied ?c_Cell_copied ?k_Cell_copied ?a_l_rows ?l_l_rows ?c_l_rows ?k_l_rows ?a_l_update ?l_l_update ?c_l_update ?k_l_update ?a_l_apply ?l_l_apply ?c_l_apply ?k_l_apply ?a_l_processed ?l_l_processed ?c_l_processed ?k_l_processed ?a_l_same ?l_l_same ?c_l_same ?k_l_same ?a_law ?l_law ?c_law ?k_law ?pg_Cell ?hd_Cell ?po_Cell ?sa_Cell ?ha_Cell ?hn_Cell ?ht_Cell ?hm_Cell ?mk_Cell ?kc_Cell ?ne_Cell ?n_Cell_base ?n_Cell_name ?n_Cell_now ?n_Cell_queue ?z_abs ?z_bool ?z_dict ?z_int ?z_isinstance ?z_len ?z_list ?z_range ?z_str ?z_zip ?g_MOST_NUMBER ?g_QUEUE_MOST
    (case aC_Cell => k_is)
    (case a_kind_of_value => k_is)
    (case l_kind_of_value => k_is)
    (case c_kind_of_value => k_is)
    (case k_kind_of_value => k_is)
    (case a_same => k_is)
    (case l_same => k_is)
    (case c_same => k_is)
    (case k_same => k_is)
    (case a_same_fields => k_is)
    (case l_same_fields => k_is)
    (case c_same_fields => k_is)
    (case k_same_fields => k_is)
    (case a_copied => k_is)
    (case l_copied => k_is)
    (case c_copied => k_is)
    (case k_copied => k_is)
    (case a_bounded_number => k_is)
    (case l_bounded_number => k_is)
    (case c_bounded_number => k_is)
    (case k_bounded_number => k_is)
    (case a_need_number => k_is)
    (case l_need_number => k_is)
    (case c_need_number => k_is)
    (case k_need_number => k_is)
    (case a_add => k_is)
    (case l_add => k_is)
    (case c_add => k_is)
    (case k_add => k_is)
    (case a_calculate => k_is)
    (case l_calculate => k_is)
    (case c_calculate => k_is)
    (case k_calculate => k_is)
    (case a_operate => k_is)
    (case l_operate => k_is)
    (case c_operate => k_is)
    (case k_operate => k_is)
    (case a_evaluate_binary => k_is)
    (case l_evaluate_binary => k_is)
    (case c_evaluate_binary => k_is)
    (case k_evaluate_binary => k_is)
    (case a_evaluate => k_is)
    (case l_evaluate => k_is)
    (case c_evaluate => k_is)
    (case k_evaluate => k_is)
    (case a_applied => k_is)
    (case l_applied => k_is)
    (case c_applied => k_is)
    (case k_applied => k_is)
    (case a_Cell___init__ => k_is)
    (case i_Cell___init__ => k_is)
    (case l_Cell___init__ => k_is)
    (case c_Cell___init__ => k_is)
    (case k_Cell___init__ => k_is)
    (case a_Cell___eq__ => k_is)
    (case i_Cell___eq__ => k_is)
    (case l_Cell___eq__ => k_is)
    (case c_Cell___eq__ => k_is)
    (case k_Cell___eq__ => k_is)
    (case a_Cell_present => k_is)
    (case g_Cell_present => k_is)
    (case t_Cell_present => k_is)
    (case q_Cell_present => k_is)
    (case l_Cell_present => k_is)
    (case c_Cell_present => k_is)
    (case k_Cell_present => k_is)
    (case a_Cell_waits_in => k_is)
    (case i_Cell_waits_in => k_is)
    (case l_Cell_waits_in => k_is)
    (case c_Cell_waits_in => k_is)
    (case k_Cell_waits_in => k_is)
    (case a_Cell_open_lanes => k_is)
    (case g_Cell_open_lanes => k_is)
    (case t_Cell_open_lanes => k_is)
    (case q_Cell_open_lanes => k_is)
    (case l_Cell_open_lanes => k_is)
    (case c_Cell_open_lanes => k_is)
    (case k_Cell_open_lanes => k_is)
    (case a_Cell_send => k_is)
    (case i_Cell_send => k_is)
    (case l_Cell_send => k_is)
    (case c_Cell_send => k_is)
    (case k_Cell_send => k_is)
    (case a_Cell_processed => k_is)
    (case i_Cell_processed => k_is)
    (case l_Cell_processed => k_is)
    (case c_Cell_processed => k_is)
    (case k_Cell_processed => k_is)
    (case a_Cell_copied => k_is)
    (case i_Cell_copied => k_is)
    (case l_Cell_copied => k_is)
    (case c_Cell_copied => k_is)
    (case k_Cell_copied => k_is)
    (case a_l_rows => k_is)
    (case l_l_rows => k_is)
    (case c_l_rows => k_is)
    (case k_l_rows => k_is)
    (case a_l_update => k_is)
    (case l_l_update => k_is)
    (case c_l_update => k_is)
    (case k_l_update => k_is)
    (case a_l_apply => k_is)
    (case l_l_apply => k_is)
    (case c_l_apply => k_is)
    (case k_l_apply => k_is)
    (case a_l_processed => k_is)
    (case l_l_processed => k_is)
    (case c_l_processed => k_is)
    (case k_l_processed => k_is)
    (case a_l_same => k_is)
    (case l_l_same => k_is)
    (case c_l_same => k_is)
    (case k_l_same => k_is)
    (case a_law => k_is)
    (case l_law => k_is)
    (case c_law => k_is)
    (case k_law => k_is)
    (case pg_Cell => k_is)
    (case hd_Cell => k_is)
    (case po_Cell => k_is)
    (case sa_Cell => k_is)
    (case ha_Cell => k_is)
    (case hn_Cell => k_is)
    (case ht_Cell => k_is)
    (case hm_Cell => k_is)
    (case mk_Cell => k_is)
    (case kc_Cell => k_is)
    (case ne_Cell => k_is)
    (case n_Cell_base => k_is)
    (case n_Cell_name => k_is)
    (case n_Cell_now => k_is)
    (case n_Cell_queue => k_is)
    (case z_abs => k_is)
    (case z_bool => k_is)
    (case z_dict => k_is)
    (case z_int => k_is)
    (case z_isinstance => k_is)
    (case z_len => k_is)
    (case z_list => k_is)
    (case z_range => k_is)
    (case z_str => k_is)
    (case z_zip => k_is)
    (case g_MOST_NUMBER => k_is)
    (case g_QUEUE_MOST => k_is)
