import PyProof.Rows.All
import KE.DataCmp
import Wide.All
import OpenK.AllK
import Wide.FinOn
import HandS.ForMost
import HandS.ForExc
import HandS.Deep
import HandS.TupAny
import HandS.IsInst
import HandS.ExcInit
import HandS.TryMany
import HandS.CallSlots
import HandS.Property
import HandS.Conv
import HandS.Style
import HandS.HeadHook2
import KE.KDictKeyed
import KE.KDictDisplayH
import HandS.Star
import HandS.Flow
import KE.SortData
import HandS.Defaults
import HandS.ExcOwn
import HandS.Walk
import HandS.Zip
import HandS.Iter
import HandS.WordsExc
import KE.KExcSuper
import HandS.ExcSuper
import HandS.ExcIs
import KE.KExcIs
import HandS.Set
import HandS.Strs
import PyProof.DictKinds
import HandS.SlotsOwn
import HandS.OwnEq
import HandS.TupMul
import KE.GoesMore
import HandS.Words
import HandS.Head0
import HandS.Head1
import HandS.Head2
import HandS.HeadEnd
import HandS.HeadHook1
import KE.GoesZip
import PySem.Challenge.RW_listletters_k11_whole_partings
set_option Elab.async false
set_option linter.all false
set_option maxRecDepth 100000
set_option maxHeartbeats 1000000
/-! Pl: values as trees. D: a value with all that it holds; Rp: how it lies in the abstract heap, with the addresses that it owns. -/
namespace Pl
open PySem PySem.Spec PyProof.Rows L2

/-- a value as a tree; the flag of a thing that may be written: true while it is held at one place alone -/
inductive D where
  | non | bl (b : Bool) | int (i : Int) | str (x : Str)
  | tup (ds : List D)
  | lst (m : Bool) (ds : List D)
  | dic (m : Bool) (kvs : List (D × D))
  | obj (m : Bool) (c : Str) (fs : List (Str × D))
  /-- the law's own list, that nobody may write -/
  | scr (ns : List Int)
  deriving Inhabited

mutual
/-- nothing in it may be written -/
def D.fz : D → Bool
  | .non => true
  | .bl _ => true
  | .int _ => true
  | .str _ => true
  | .tup ds => D.fzL ds
  | .lst m ds => !m && D.fzL ds
  | .dic m kvs => !m && D.fzP kvs
  | .obj m _ fs => !m && D.fzF fs
  | .scr _ => true
def D.fzL : List D → Bool
  | [] => true
  | d :: ds => D.fz d && D.fzL ds
def D.fzP : List (D × D) → Bool
  | [] => true
  | (k, d) :: r => D.fz k && (D.fz d && D.fzP r)
def D.fzF : List (Str × D) → Bool
  | [] => true
  | (_, d) :: r => D.fz d && D.fzF r
end
mutual
/-- from now on nothing in it is written -/
def D.frz : D → D
  | .non => .non
  | .bl b => .bl b
  | .int i => .int i
  | .str x => .str x
  | .tup ds => .tup (D.frzL ds)
  | .lst _ ds => .lst false (D.frzL ds)
  | .dic _ kvs => .dic false (D.frzP kvs)
  | .obj _ c fs => .obj false c (D.frzF fs)
  | .scr ns => .scr ns
def D.frzL : List D → List D
  | [] => []
  | d :: ds => D.frz d :: D.frzL ds
def D.frzP : List (D × D) → List (D × D)
  | [] => []
  | (k, d) :: r => (D.frz k, D.frz d) :: D.frzP r
def D.frzF : List (Str × D) → List (Str × D)
  | [] => []
  | (f, d) :: r => (f, D.frz d) :: D.frzF r
end
mutual
theorem D.frz_fz : ∀ d : D, (D.frz d).fz = true
  | .non => rfl
  | .bl _ => rfl
  | .int _ => rfl
  | .str _ => rfl
  | .tup ds => D.frzL_fz ds
  | .lst _ ds => by simp only [D.frz, D.fz, D.frzL_fz ds, Bool.not_false, Bool.and_self]
  | .dic _ kvs => by simp only [D.frz, D.fz, D.frzP_fz kvs, Bool.not_false, Bool.and_self]
  | .obj _ _ fs => by simp only [D.frz, D.fz, D.frzF_fz fs, Bool.not_false, Bool.and_self]
  | .scr _ => rfl
theorem D.frzL_fz : ∀ ds : List D, D.fzL (D.frzL ds) = true
  | [] => rfl
  | d :: ds => by simp only [D.frzL, D.fzL, D.frz_fz d, D.frzL_fz ds, Bool.and_self]
theorem D.frzP_fz : ∀ ds : List (D × D), D.fzP (D.frzP ds) = true
  | [] => rfl
  | (k, d) :: ds => by simp only [D.frzP, D.fzP, D.frz_fz k, D.frz_fz d, D.frzP_fz ds, Bool.and_self]
theorem D.frzF_fz : ∀ ds : List (Str × D), D.fzF (D.frzF ds) = true
  | [] => rfl
  | (k, d) :: ds => by simp only [D.frzF, D.fzF, D.frz_fz d, D.frzF_fz ds, Bool.and_self]
end
mutual
theorem D.frz_id : ∀ d : D, d.fz = true → D.frz d = d
  | .non, _ => rfl
  | .bl _, _ => rfl
  | .int _, _ => rfl
  | .str _, _ => rfl
  | .tup ds, h => by rw [D.frz, D.frzL_id ds h]
  | .lst m ds, h => by
    simp only [D.fz, Bool.and_eq_true, Bool.not_eq_true'] at h
    rw [D.frz, D.frzL_id ds h.2, h.1]
  | .dic m kvs, h => by
    simp only [D.fz, Bool.and_eq_true, Bool.not_eq_true'] at h
    rw [D.frz, D.frzP_id kvs h.2, h.1]
  | .obj m c fs, h => by
    simp only [D.fz, Bool.and_eq_true, Bool.not_eq_true'] at h
    rw [D.frz, D.frzF_id fs h.2, h.1]
  | .scr _, _ => rfl
theorem D.frzL_id : ∀ ds : List D, D.fzL ds = true → D.frzL ds = ds
  | [], _ => rfl
  | d :: ds, h => by
    simp only [D.fzL, Bool.and_eq_true] at h
    rw [D.frzL, D.frz_id d h.1, D.frzL_id ds h.2]
theorem D.frzP_id : ∀ ds : List (D × D), D.fzP ds = true → D.frzP ds = ds
  | [], _ => rfl
  | (k, d) :: ds, h => by
    simp only [D.fzP, Bool.and_eq_true] at h
    rw [D.frzP, D.frz_id k h.1, D.frz_id d h.2.1, D.frzP_id ds h.2.2]
theorem D.frzF_id : ∀ ds : List (Str × D), D.fzF ds = true → D.frzF ds = ds
  | [], _ => rfl
  | (k, d) :: ds, h => by
    simp only [D.fzF, Bool.and_eq_true] at h
    rw [D.frzF, D.frz_id d h.1, D.frzF_id ds h.2]
end

mutual
/-- as a key -/
def D.key : D → Option NestedKey
  | .non => some .none
  | .bl b => some (.num (if b = true then 1 else 0))
  | .int i => some (.num i)
  | .str x => some (.text x)
  | .tup ds => match D.keyL ds with
    | some ks => some (.tup ks)
    | none => none
  | .lst _ _ => none
  | .dic _ _ => none
  | .obj _ _ _ => none
  | .scr _ => none
def D.keyL : List D → Option (List NestedKey)
  | [] => some []
  | d :: ds => match D.key d, D.keyL ds with
    | some k, some ks => some (k :: ks)
    | _, _ => none
end

abbrev Fset := Addr → Prop
/-- the object at a is just this one -/
def pin (a : Addr) (o : Obj) : HO := .ext fun h => h.get? a = some o

section
variable (K : PySem.W.Frag) (w : World) (F : Fset) (H : Hp)
/-- a list that nobody writes -/
def LstF (a : Addr) (vs : List V) : Prop := F a ∧ H a = some (.lst vs)
/-- the law's own list -/
def LstZ (a : Addr) (vs : List V) : Prop :=
  (∃ o, H a = some (.frz o (.lst vs))) ∨
    ∃ (o : Obj) (its : Array Value) (n : Nat), K.lookup a = some o ∧ o.cls = .type "list" ∧ o.dict = none ∧ o.data = .seq its n ∧ its.size ≤ sizeLine ∧ Vals vs its.toList
mutual
def Rp : D → V → List Addr → Prop
  | .non, v, S => v = .non ∧ S = []
  | .bl b, v, S => v = .bl b ∧ S = []
  | .int i, v, S => v = .int i ∧ S = []
  | .str x, v, S => v = .str x ∧ S = []
  | .tup ds, v, S => ∃ a vs, v = .ref a ∧ SqT K H a vs ∧ RpL ds vs S
  | .lst m ds, v, S => ∃ a vs, v = .ref a ∧ ((m = true ∧ H a = some (.lst vs) ∧ ∃ S', S = a :: S' ∧ RpL ds vs S') ∨ (m = false ∧ LstF F H a vs ∧ S = [] ∧ RpL ds vs []))
  | .dic m kvs, v, S => ∃ a o es ep, v = .ref a ∧ (a == sysModules) = false ∧ H a = some (pin a o) ∧ o.ExactDict ∧ o.data = .dict es ep ∧ kvs.length ≤ sizeLine ∧
      ((m = true ∧ ∃ S', S = a :: S' ∧ RpP kvs es.toList S') ∨ (m = false ∧ F a ∧ S = [] ∧ RpP kvs es.toList []))
  | .obj m c fs, v, S => ∃ a dx fvs, v = .ref a ∧ H a = some (.ins (He.ga K c) dx fvs) ∧
      ((m = true ∧ ∃ S', S = a :: S' ∧ RpF fs fvs S') ∨ (m = false ∧ F a ∧ S = [] ∧ RpF fs fvs []))
  | .scr ns, v, S => ∃ a, v = .ref a ∧ LstZ K H a (ns.map V.int) ∧ S = []
def RpL : List D → List V → List Addr → Prop
  | [], vs, S => vs = [] ∧ S = []
  | d :: ds, vs, S => ∃ v r S1 S2, vs = v :: r ∧ S = S1 ++ S2 ∧ Rp d v S1 ∧ RpL ds r S2
def RpP : List (D × D) → List DictEntry → List Addr → Prop
  | [], es, S => es = [] ∧ S = []
  | (k, d) :: kvs, es, S => ∃ (e : DictEntry) (r : List DictEntry) (S1 S2 : List Addr) (kv vv : V) (kk : NestedKey), es = e :: r ∧ S = S1 ++ S2 ∧ RelV kv e.key ∧ RelV vv e.val ∧ Rp k kv [] ∧ Rp d vv S1 ∧ k.key = some kk ∧ e.hash = NestedKey.hash w kk ∧ RpP kvs r S2
def RpF : List (Str × D) → List (Str × V) → List Addr → Prop
  | [], fvs, S => fvs = [] ∧ S = []
  | (f, d) :: fs, fvs, S => ∃ v r S1 S2, fvs = (f, v) :: r ∧ S = S1 ++ S2 ∧ Rp d v S1 ∧ RpF fs r S2
end
end

/-- what may be owned -/
def Wr : HO → Prop
  | .lst _ => True
  | .ext _ => True
  | .ins _ _ _ => True
  | _ => False
structure Good (F : Fset) (H : Hp) (S : List Addr) : Prop where
  nd : S.Nodup
  own : ∀ a ∈ S, ¬ F a ∧ ∃ o, H a = some o ∧ Wr o
  fro : ∀ a, F a → ∃ o, H a = some o
/-- from one state to a later one: but for what is owned all is as it was -/
structure Step (F : Fset) (H : Hp) (S : List Addr) (F' : Fset) (H' : Hp) (S' : List Addr) : Prop where
  keep : ∀ a o, H a = some o → a ∉ S → H' a = some o
  mono : ∀ a, F a → F' a
  fin : ∀ a, F' a → F a ∨ a ∈ S ∨ H a = none
  sin : ∀ a ∈ S', a ∈ S ∨ H a = none
  good : Good F' H' S'

section
variable {F F' F1 F2 : Fset} {H H' H1 H2 : Hp} {S S' S1 S2 R T : List Addr}
theorem Good.sub (g : Good F H S) (h : ∀ a ∈ T, a ∈ S) (nd : T.Nodup) : Good F H T := ⟨nd, fun a ha => g.own a (h a ha), g.fro⟩
theorem Good.perm (g : Good F H S) (h : S.Perm T) : Good F H T := g.sub (fun a ha => h.mem_iff.mpr ha) (h.nodup_iff.mp g.nd)
theorem Good.left (g : Good F H (S ++ T)) : Good F H S := g.sub (fun a ha => List.mem_append_left _ ha) (List.nodup_append.mp g.nd).1
theorem Good.right (g : Good F H (S ++ T)) : Good F H T := g.sub (fun a ha => List.mem_append_right _ ha) (List.nodup_append.mp g.nd).2.1
theorem Good.nil (g : Good F H S) : Good F H [] := g.sub (fun a ha => nomatch ha) List.nodup_nil
theorem Good.disj (g : Good F H (S ++ T)) {a : Addr} (h1 : a ∈ S) (h2 : a ∈ T) : False := (List.nodup_append.mp g.nd).2.2 a h1 a h2 rfl
theorem Step.refl (g : Good F H S) : Step F H S F H S := ⟨fun _ _ h _ => h, fun _ h => h, fun _ h => .inl h, fun _ h => .inl h, g⟩
theorem Step.weak (g : Good F H S) (h : ∀ a ∈ T, a ∈ S) (nd : T.Nodup) : Step F H S F H T := ⟨fun _ _ h _ => h, fun _ h => h, fun _ h => .inl h, fun a ha => .inl (h a ha), g.sub h nd⟩
theorem Step.trans (a : Step F H S F1 H1 S1) (b : Step F1 H1 S1 F2 H2 S2) : Step F H S F2 H2 S2 := by
  have out : ∀ c, H1 c = none → c ∈ S ∨ H c = none := fun c h => by
    cases e : H c with
    | none => exact .inr rfl
    | some o =>
      refine .inl (Classical.byContradiction fun n => ?_)
      rw [a.keep c o e n] at h; cases h
  refine ⟨fun c o h n => b.keep c o (a.keep c o h n) fun z => ?_, fun c h => b.mono c (a.mono c h), fun c h => ?_, fun c h => ?_, b.good⟩
  · rcases a.sin c z with z | z
    · exact n z
    · rw [z] at h; cases h
  · rcases b.fin c h with z | z | z
    · exact a.fin c z
    · exact .inr (a.sin c z)
    · exact .inr (out c z)
  · rcases b.sin c h with z | z
    · exact a.sin c z
    · exact out c z
theorem Step.permL (a : Step F H S F' H' S') (h : S.Perm T) : Step F H T F' H' S' :=
  ⟨fun c o e n => a.keep c o e fun z => n (h.mem_iff.mp z), a.mono, fun c e => (a.fin c e).imp id fun z => z.imp (fun z => h.mem_iff.mp z) id, fun c e => (a.sin c e).imp (fun z => h.mem_iff.mp z) id, a.good⟩
theorem Step.permR (a : Step F H S F' H' S') (h : S'.Perm T) : Step F H S F' H' T :=
  ⟨a.keep, a.mono, a.fin, fun c e => a.sin c (h.mem_iff.mpr e), a.good.perm h⟩
theorem Step.subR (a : Step F H S F' H' S') (h : ∀ c ∈ T, c ∈ S') (nd : T.Nodup) : Step F H S F' H' T :=
  ⟨a.keep, a.mono, a.fin, fun c e => a.sin c (h c e), a.good.sub h nd⟩
/-- beside what is held aside -/
theorem Step.frame (a : Step F H S F' H' S') (g : Good F H (R ++ S)) : Step F H (R ++ S) F' H' (R ++ S') := by
  have hR : ∀ c ∈ R, c ∉ S := fun c h1 h2 => g.disj h1 h2
  have hR' : ∀ c ∈ R, c ∉ S' := fun c h1 h2 => by
    rcases a.sin c h2 with z | z
    · exact hR c h1 z
    · obtain ⟨_, o, e, _⟩ := g.own c (List.mem_append_left _ h1)
      rw [z] at e; cases e
  refine ⟨fun c o h n => a.keep c o h fun z => n (List.mem_append_right _ z), a.mono, fun c h => (a.fin c h).imp id fun z => z.imp (List.mem_append_right _) id, fun c h => ?_, ?_⟩
  · rcases List.mem_append.mp h with z | z
    · exact .inl (List.mem_append_left _ z)
    · exact (a.sin c z).imp (List.mem_append_right _) id
  · refine ⟨List.nodup_append.mpr ⟨(List.nodup_append.mp g.nd).1, a.good.nd, fun c h1 d h2 e => hR' c h1 (e ▸ h2)⟩, fun c h => ?_, a.good.fro⟩
    rcases List.mem_append.mp h with z | z
    · obtain ⟨nf, o, e, wr⟩ := g.own c (List.mem_append_left _ z)
      refine ⟨fun f => ?_, o, a.keep c o e (hR c z), wr⟩
      rcases a.fin c f with q | q | q
      · exact nf q
      · exact hR c z q
      · rw [q] at e; cases e
    · exact a.good.own c z
end

/-! ### what is represented stays represented -/
section
variable {K : PySem.W.Frag} {w : World} {F F' : Fset} {H H' : Hp}
/-- the part of a step that a value leans on -/
structure Stays (F : Fset) (H : Hp) (F' : Fset) (H' : Hp) (R : List Addr) : Prop where
  own : ∀ a ∈ R, ∀ o, H a = some o → H' a = some o
  fro : ∀ a o, F a → H a = some o → F' a ∧ H' a = some o
  tup : ∀ a xs, H a = some (.tup xs) → H' a = some (.tup xs)
  frz : ∀ a o u, H a = some (.frz o u) → H' a = some (.frz o u)
theorem Stays.sub {R R' : List Addr} (s : Stays F H F' H' R) (h : ∀ a ∈ R', a ∈ R) : Stays F H F' H' R' := ⟨fun a ha => s.own a (h a ha), s.fro, s.tup, s.frz⟩
theorem Step.stays {S S' R : List Addr} (a : Step F H S F' H' S') (g : Good F H (R ++ S)) : Stays F H F' H' R := by
  have nw : ∀ c o, H c = some o → ¬ Wr o → c ∉ S := fun c o e n z => by
    obtain ⟨_, u, e', wr⟩ := g.own c (List.mem_append_right _ z)
    rw [e] at e'; cases e'; exact n wr
  exact ⟨fun c h o e => a.keep c o e fun z => g.disj h z, fun c o f e => ⟨a.mono c f, a.keep c o e fun z => (g.own c (List.mem_append_right _ z)).1 f⟩,
    fun c xs e => a.keep c _ e (nw c _ e fun z => z), fun c o u e => a.keep c _ e (nw c _ e fun z => z)⟩
theorem Stays.sqT {R : List Addr} (s : Stays F H F' H' R) {a : Addr} {vs : List V} (h : SqT K H a vs) : SqT K H' a vs := by
  rcases h with (h | ⟨o, h⟩) | h
  · exact .inl (.inl (s.tup _ _ h))
  · exact .inl (.inr ⟨o, s.frz _ _ _ h⟩)
  · exact .inr h
theorem Stays.lstF {R : List Addr} (s : Stays F H F' H' R) {a : Addr} {vs : List V} (h : LstF F H a vs) : LstF F' H' a vs := s.fro _ _ h.1 h.2
theorem Stays.lstZ {R : List Addr} (s : Stays F H F' H' R) {a : Addr} {vs : List V} (h : LstZ K H a vs) : LstZ K H' a vs := h.imp (fun ⟨o, h⟩ => ⟨o, s.frz _ _ _ h⟩) id
theorem LstF.sqL {a : Addr} {vs : List V} (h : LstF F H a vs) : SqL K H a vs := .inl (.inl h.2)
theorem LstZ.sqL {a : Addr} {vs : List V} (h : LstZ K H a vs) : SqL K H a vs := by
  rcases h with ⟨o, h⟩ | h
  · exact .inl (.inr ⟨o, h⟩)
  · exact .inr h
mutual
theorem Rp.stay : ∀ (d : D) {v : V} {S : List Addr}, Stays F H F' H' S → Rp K w F H d v S → Rp K w F' H' d v S
  | .non, _, _, _, h => h
  | .bl _, _, _, _, h => h
  | .int _, _, _, _, h => h
  | .str _, _, _, _, h => h
  | .tup ds, v, S, s, h => by
    simp only [Rp] at h ⊢
    obtain ⟨a, vs, e, q, r⟩ := h
    exact ⟨a, vs, e, s.sqT q, RpL.stay ds s r⟩
  | .lst m ds, v, S, s, h => by
    simp only [Rp] at h ⊢
    obtain ⟨a, vs, e, h⟩ := h
    refine ⟨a, vs, e, ?_⟩
    rcases h with ⟨hm, q, S', hS, r⟩ | ⟨hm, q, hS, r⟩
    · exact .inl ⟨hm, s.own a (by rw [hS]; exact List.mem_cons_self) _ q, S', hS, RpL.stay ds (s.sub fun b hb => by rw [hS]; exact List.mem_cons_of_mem _ hb) r⟩
    · exact .inr ⟨hm, s.lstF q, hS, RpL.stay ds (s.sub fun b hb => nomatch hb) r⟩
  | .dic m kvs, v, S, s, h => by
    simp only [Rp] at h ⊢
    obtain ⟨a, o, es, ep, e, hy, q, hx, hd, hl, h⟩ := h
    rcases h with ⟨hm, S', hS, r⟩ | ⟨hm, f, hS, r⟩
    · exact ⟨a, o, es, ep, e, hy, s.own a (by rw [hS]; exact List.mem_cons_self) _ q, hx, hd, hl, .inl ⟨hm, S', hS, RpP.stay kvs (s.sub fun b hb => by rw [hS]; exact List.mem_cons_of_mem _ hb) r⟩⟩
    · exact ⟨a, o, es, ep, e, hy, (s.fro _ _ f q).2, hx, hd, hl, .inr ⟨hm, (s.fro _ _ f q).1, hS, RpP.stay kvs (s.sub fun b hb => nomatch hb) r⟩⟩
  | .obj m c fs, v, S, s, h => by
    simp only [Rp] at h ⊢
    obtain ⟨a, dx, fvs, e, q, h⟩ := h
    rcases h with ⟨hm, S', hS, r⟩ | ⟨hm, f, hS, r⟩
    · exact ⟨a, dx, fvs, e, s.own a (by rw [hS]; exact List.mem_cons_self) _ q, .inl ⟨hm, S', hS, RpF.stay fs (s.sub fun b hb => by rw [hS]; exact List.mem_cons_of_mem _ hb) r⟩⟩
    · exact ⟨a, dx, fvs, e, (s.fro _ _ f q).2, .inr ⟨hm, (s.fro _ _ f q).1, hS, RpF.stay fs (s.sub fun b hb => nomatch hb) r⟩⟩
  | .scr ns, v, S, s, h => by
    simp only [Rp] at h ⊢
    obtain ⟨a, e, q, hS⟩ := h
    exact ⟨a, e, s.lstZ q, hS⟩
theorem RpL.stay : ∀ (ds : List D) {vs : List V} {S : List Addr}, Stays F H F' H' S → RpL K w F H ds vs S → RpL K w F' H' ds vs S
  | [], _, _, _, h => h
  | d :: ds, vs, S, s, h => by
    simp only [RpL] at h ⊢
    obtain ⟨v, r, S1, S2, e1, e2, h1, h2⟩ := h
    exact ⟨v, r, S1, S2, e1, e2, Rp.stay d (s.sub fun b hb => by rw [e2]; exact List.mem_append_left _ hb) h1, RpL.stay ds (s.sub fun b hb => by rw [e2]; exact List.mem_append_right _ hb) h2⟩
theorem RpP.stay : ∀ (ds : List (D × D)) {es : List DictEntry} {S : List Addr}, Stays F H F' H' S → RpP K w F H ds es S → RpP K w F' H' ds es S
  | [], _, _, _, h => h
  | (k, d) :: ds, es, S, s, h => by
    simp only [RpP] at h ⊢
    obtain ⟨e, r, S1, S2, kv, vv, kk, e1, e2, r1, r2, h1, h2, h3, h4, h5⟩ := h
    exact ⟨e, r, S1, S2, kv, vv, kk, e1, e2, r1, r2, Rp.stay k (s.sub fun b hb => nomatch hb) h1, Rp.stay d (s.sub fun b hb => by rw [e2]; exact List.mem_append_left _ hb) h2, h3, h4, RpP.stay ds (s.sub fun b hb => by rw [e2]; exact List.mem_append_right _ hb) h5⟩
theorem RpF.stay : ∀ (ds : List (Str × D)) {fvs : List (Str × V)} {S : List Addr}, Stays F H F' H' S → RpF K w F H ds fvs S → RpF K w F' H' ds fvs S
  | [], _, _, _, h => h
  | (f, d) :: ds, fvs, S, s, h => by
    simp only [RpF] at h ⊢
    obtain ⟨v, r, S1, S2, e1, e2, h1, h2⟩ := h
    exact ⟨v, r, S1, S2, e1, e2, Rp.stay d (s.sub fun b hb => by rw [e2]; exact List.mem_append_left _ hb) h1, RpF.stay ds (s.sub fun b hb => by rw [e2]; exact List.mem_append_right _ hb) h2⟩
end
end
end Pl
set_option Elab.async false
set_option linter.all false
set_option maxRecDepth 100000
set_option maxHeartbeats 1000000
/-! Pl: freezing, slots, results, readings. -/
namespace Pl
open PySem PySem.Spec PyProof.Rows L2

mutual
theorem D.key_frz : ∀ (d : D) {k : NestedKey}, d.key = some k → D.frz d = d
  | .non, _, _ => rfl
  | .bl _, _, _ => rfl
  | .int _, _, _ => rfl
  | .str _, _, _ => rfl
  | .tup ds, k, h => by
    rw [D.key] at h
    cases e : D.keyL ds with
    | none => rw [e] at h; cases h
    | some ks => rw [D.frz, D.keyL_frz ds e]
  | .lst _ _, _, h => by simp [D.key] at h
  | .dic _ _, _, h => by simp [D.key] at h
  | .obj _ _ _, _, h => by simp [D.key] at h
  | .scr _, _, h => by simp [D.key] at h
theorem D.keyL_frz : ∀ (ds : List D) {ks : List NestedKey}, D.keyL ds = some ks → D.frzL ds = ds
  | [], _, _ => rfl
  | d :: ds, ks, h => by
    rw [D.keyL] at h
    cases e1 : D.key d with
    | none => rw [e1] at h; cases h
    | some k =>
      cases e2 : D.keyL ds with
      | none => rw [e1, e2] at h; cases h
      | some r => rw [D.frzL, D.key_frz d e1, D.keyL_frz ds e2]
end

section
variable {K : PySem.W.Frag} {w : World} {F F' : Fset} {H H' : Hp}
theorem LstF.mono {a : Addr} {vs : List V} (h : LstF F H a vs) (m : ∀ a, F a → F' a) : LstF F' H a vs := ⟨m _ h.1, h.2⟩
mutual
/-- frozen: what was owned goes over to what nobody writes -/
theorem Rp.frz : ∀ (d : D) {v : V} {S : List Addr}, (∀ a, F a → F' a) → (∀ a ∈ S, F' a) → Rp K w F H d v S → Rp K w F' H (D.frz d) v []
  | .non, _, _, _, _, h => ⟨h.1, rfl⟩
  | .bl _, _, _, _, _, h => ⟨h.1, rfl⟩
  | .int _, _, _, _, _, h => ⟨h.1, rfl⟩
  | .str _, _, _, _, _, h => ⟨h.1, rfl⟩
  | .tup ds, v, S, m, s, h => by
    rw [Rp] at h; rw [D.frz, Rp]
    obtain ⟨a, vs, e, q, r⟩ := h
    exact ⟨a, vs, e, q, RpL.frz ds m s r⟩
  | .lst b ds, v, S, m, s, h => by
    rw [Rp] at h; rw [D.frz, Rp]
    obtain ⟨a, vs, e, h⟩ := h
    refine ⟨a, vs, e, .inr ⟨rfl, ?_, rfl, ?_⟩⟩
    · rcases h with ⟨_, q, S', hS, r⟩ | ⟨_, q, hS, r⟩
      · exact ⟨s a (by rw [hS]; exact List.mem_cons_self), q⟩
      · exact q.mono m
    · rcases h with ⟨_, q, S', hS, r⟩ | ⟨_, q, hS, r⟩
      · exact RpL.frz ds m (fun b hb => s b (by rw [hS]; exact List.mem_cons_of_mem _ hb)) r
      · exact RpL.frz (S := []) ds m (fun b hb => nomatch hb) r
  | .dic b kvs, v, S, m, s, h => by
    rw [Rp] at h; rw [D.frz, Rp]
    obtain ⟨a, o, es, ep, e, hy, q, hx, hd, hl, h⟩ := h
    have len : ∀ l : List (D × D), (D.frzP l).length = l.length := fun l => by
      induction l with
      | nil => rfl
      | cons p l ih => obtain ⟨k, d⟩ := p; rw [D.frzP, List.length_cons, List.length_cons, ih]
    rcases h with ⟨_, S', hS, r⟩ | ⟨_, f, hS, r⟩
    · exact ⟨a, o, es, ep, e, hy, q, hx, hd, by rw [len]; exact hl, .inr ⟨rfl, s a (by rw [hS]; exact List.mem_cons_self), rfl, RpP.frz kvs m (fun b hb => s b (by rw [hS]; exact List.mem_cons_of_mem _ hb)) r⟩⟩
    · exact ⟨a, o, es, ep, e, hy, q, hx, hd, by rw [len]; exact hl, .inr ⟨rfl, m _ f, rfl, RpP.frz (S := []) kvs m (fun b hb => nomatch hb) r⟩⟩
  | .obj b c fs, v, S, m, s, h => by
    rw [Rp] at h; rw [D.frz, Rp]
    obtain ⟨a, dx, fvs, e, q, h⟩ := h
    rcases h with ⟨_, S', hS, r⟩ | ⟨_, f, hS, r⟩
    · exact ⟨a, dx, fvs, e, q, .inr ⟨rfl, s a (by rw [hS]; exact List.mem_cons_self), rfl, RpF.frz fs m (fun b hb => s b (by rw [hS]; exact List.mem_cons_of_mem _ hb)) r⟩⟩
    · exact ⟨a, dx, fvs, e, q, .inr ⟨rfl, m _ f, rfl, RpF.frz (S := []) fs m (fun b hb => nomatch hb) r⟩⟩
  | .scr ns, v, S, m, s, h => by
    rw [Rp] at h; rw [D.frz, Rp]
    obtain ⟨a, e, q, hS⟩ := h
    exact ⟨a, e, q, rfl⟩
theorem RpL.frz : ∀ (ds : List D) {vs : List V} {S : List Addr}, (∀ a, F a → F' a) → (∀ a ∈ S, F' a) → RpL K w F H ds vs S → RpL K w F' H (D.frzL ds) vs []
  | [], _, _, _, _, h => ⟨h.1, rfl⟩
  | d :: ds, vs, S, m, s, h => by
    rw [RpL] at h; rw [D.frzL, RpL]
    obtain ⟨v, r, S1, S2, e1, e2, h1, h2⟩ := h
    exact ⟨v, r, [], [], e1, rfl, Rp.frz d m (fun b hb => s b (by rw [e2]; exact List.mem_append_left _ hb)) h1, RpL.frz ds m (fun b hb => s b (by rw [e2]; exact List.mem_append_right _ hb)) h2⟩
theorem RpP.frz : ∀ (ds : List (D × D)) {es : List DictEntry} {S : List Addr}, (∀ a, F a → F' a) → (∀ a ∈ S, F' a) → RpP K w F H ds es S → RpP K w F' H (D.frzP ds) es []
  | [], _, _, _, _, h => ⟨h.1, rfl⟩
  | (k, d) :: ds, es, S, m, s, h => by
    rw [RpP] at h; rw [D.frzP, RpP]
    obtain ⟨e, r, S1, S2, kv, vv, kk, e1, e2, r1, r2, h1, h2, h3, h4, h5⟩ := h
    exact ⟨e, r, [], [], kv, vv, kk, e1, rfl, r1, r2, Rp.frz (S := []) k m (fun b hb => nomatch hb) h1, Rp.frz d m (fun b hb => s b (by rw [e2]; exact List.mem_append_left _ hb)) h2, by rw [D.key_frz k h3]; exact h3, h4, RpP.frz ds m (fun b hb => s b (by rw [e2]; exact List.mem_append_right _ hb)) h5⟩
theorem RpF.frz : ∀ (ds : List (Str × D)) {fvs : List (Str × V)} {S : List Addr}, (∀ a, F a → F' a) → (∀ a ∈ S, F' a) → RpF K w F H ds fvs S → RpF K w F' H (D.frzF ds) fvs []
  | [], _, _, _, _, h => ⟨h.1, rfl⟩
  | (f, d) :: ds, fvs, S, m, s, h => by
    rw [RpF] at h; rw [D.frzF, RpF]
    obtain ⟨v, r, S1, S2, e1, e2, h1, h2⟩ := h
    exact ⟨v, r, [], [], e1, rfl, Rp.frz d m (fun b hb => s b (by rw [e2]; exact List.mem_append_left _ hb)) h1, RpF.frz ds m (fun b hb => s b (by rw [e2]; exact List.mem_append_right _ hb)) h2⟩
end
mutual
/-- a frozen value owns nothing -/
theorem Rp.fz_nil : ∀ (d : D) {v : V} {S : List Addr}, d.fz = true → Rp K w F H d v S → S = []
  | .non, _, _, _, h => h.2
  | .bl _, _, _, _, h => h.2
  | .int _, _, _, _, h => h.2
  | .str _, _, _, _, h => h.2
  | .tup ds, v, S, z, h => by
    rw [Rp] at h
    obtain ⟨a, vs, e, q, r⟩ := h
    exact RpL.fz_nil ds z r
  | .lst m ds, v, S, z, h => by
    simp only [D.fz, Bool.and_eq_true, Bool.not_eq_true'] at z
    rw [Rp] at h
    obtain ⟨a, vs, e, ⟨hm, _⟩ | ⟨_, _, hS, _⟩⟩ := h
    · rw [z.1] at hm; cases hm
    · exact hS
  | .dic m kvs, v, S, z, h => by
    simp only [D.fz, Bool.and_eq_true, Bool.not_eq_true'] at z
    rw [Rp] at h
    obtain ⟨a, o, es, ep, e, hy, q, hx, hd, hl, ⟨hm, _⟩ | ⟨_, _, hS, _⟩⟩ := h
    · rw [z.1] at hm; cases hm
    · exact hS
  | .obj m c fs, v, S, z, h => by
    simp only [D.fz, Bool.and_eq_true, Bool.not_eq_true'] at z
    rw [Rp] at h
    obtain ⟨a, dx, fvs, e, q, ⟨hm, _⟩ | ⟨_, _, hS, _⟩⟩ := h
    · rw [z.1] at hm; cases hm
    · exact hS
  | .scr ns, v, S, z, h => by
    rw [Rp] at h
    obtain ⟨a, e, q, hS⟩ := h
    exact hS
theorem RpL.fz_nil : ∀ (ds : List D) {vs : List V} {S : List Addr}, D.fzL ds = true → RpL K w F H ds vs S → S = []
  | [], _, _, _, h => h.2
  | d :: ds, vs, S, z, h => by
    simp only [D.fzL, Bool.and_eq_true] at z
    rw [RpL] at h
    obtain ⟨v, r, S1, S2, e1, e2, h1, h2⟩ := h
    rw [e2, Rp.fz_nil d z.1 h1, RpL.fz_nil ds z.2 h2]; rfl
end
end
end Pl
set_option Elab.async false
set_option linter.all false
set_option maxRecDepth 100000
set_option maxHeartbeats 1000000
/-! Pl: slots, results, readings. -/
namespace Pl
open PySem PySem.Spec PyProof.Rows L2

/-- the slots' values -/
abbrev Env := List (Option D)
/-- an exception: its class, its fields -/
structure Exn where
  cls : Str
  fs : List (Str × D)
/-- what comes of a piece of code -/
inductive R (α : Type) where
  | ok (a : α) (e : Env)
  | exc (x : Exn) (e : Env)
  | fail
def R.bind {α β : Type} (r : R α) (k : α → Env → R β) : R β := match r with
  | .ok a e => k a e
  | .exc x e => .exc x e
  | .fail => .fail
theorem R.bind_ok {α β : Type} (a : α) (e : Env) (k : α → Env → R β) : (R.ok a e).bind k = k a e := rfl
theorem R.bind_exc {α β : Type} (x : Exn) (e : Env) (k : α → Env → R β) : (R.exc x e : R α).bind k = .exc x e := rfl
theorem R.bind_fail {α β : Type} (k : α → Env → R β) : (R.fail : R α).bind k = .fail := rfl
theorem R.bind_assoc {α β γ : Type} (r : R α) (k : α → Env → R β) (l : β → Env → R γ) : (r.bind k).bind l = r.bind fun a e => (k a e).bind l := by cases r <;> rfl
/-- a value or none, in slots as they are -/
def R.of {α : Type} (o : Option α) (e : Env) : R α := match o with
  | some a => .ok a e
  | none => .fail
abbrev M (α : Type) := Env → R α

section
variable (K : PySem.W.Frag) (w : World) (F : Fset) (H : Hp)
def EnvR : Env → L2.St → List Addr → Prop
  | [], σ, S => σ = [] ∧ S = []
  | none :: e, σ, S => ∃ x r, σ = x :: r ∧ EnvR e r S
  | some d :: e, σ, S => ∃ v r S1 S2, σ = some v :: r ∧ S = S1 ++ S2 ∧ Rp K w F H d v S1 ∧ EnvR e r S2
/-- all that is held: temporaries ds at vs, the slots -/
def At (e : Env) (σ : L2.St) (ds : List D) (vs : List V) (S : List Addr) : Prop :=
  ∃ Sd Se, S = Sd ++ Se ∧ RpL K w F H ds vs Sd ∧ EnvR K w F H e σ Se ∧ Good F H S
/-- an exception as it flies -/
def ExnR (x : Exn) (cls : Value) (dd : Option Addr) : Prop :=
  cls = .ref (He.ga K x.cls) ∧ match x.fs with
    | [] => dd = none
    | fs => ∃ d fvs, dd = some d ∧ H d = some (.xd fvs) ∧ RpF K w F H fs fvs []
end

section
variable {K : PySem.W.Frag} {w : World} {F F' : Fset} {H H' : Hp}
theorem EnvR.stay : ∀ {e : Env} {σ : L2.St} {S : List Addr}, Stays F H F' H' S → EnvR K w F H e σ S → EnvR K w F' H' e σ S
  | [], _, _, _, h => ⟨h.1, h.2⟩
  | none :: e, σ, S, s, h => by
    rw [EnvR] at h ⊢
    obtain ⟨x, r, e1, h⟩ := h
    exact ⟨x, r, e1, EnvR.stay s h⟩
  | some d :: e, σ, S, s, h => by
    rw [EnvR] at h ⊢
    obtain ⟨v, r, S1, S2, e1, e2, h1, h2⟩ := h
    exact ⟨v, r, S1, S2, e1, e2, Rp.stay d (s.sub fun b hb => by rw [e2]; exact List.mem_append_left _ hb) h1, EnvR.stay (s.sub fun b hb => by rw [e2]; exact List.mem_append_right _ hb) h2⟩
theorem EnvR.len : ∀ {e : Env} {σ : L2.St} {S : List Addr}, EnvR K w F H e σ S → e.length = σ.length
  | [], _, _, h => by rw [h.1]; rfl
  | none :: e, σ, S, h => by
    rw [EnvR] at h
    obtain ⟨x, r, e1, h⟩ := h
    rw [e1, List.length_cons, List.length_cons, h.len]
  | some d :: e, σ, S, h => by
    rw [EnvR] at h
    obtain ⟨v, r, S1, S2, e1, e2, h1, h2⟩ := h
    rw [e1, List.length_cons, List.length_cons, h2.len]
/-- a slot's value taken out -/
theorem EnvR.take : ∀ {e : Env} {σ : L2.St} {S : List Addr} {i : Nat} {d : D}, EnvR K w F H e σ S → e[i]? = some (some d) →
    ∃ v S1 S2, σ[i]? = some (some v) ∧ S.Perm (S1 ++ S2) ∧ Rp K w F H d v S1 ∧ EnvR K w F H (e.set i none) σ S2
  | [], _, _, i, d, _, g => by simp at g
  | none :: e, σ, S, 0, d, h, g => by simp at g
  | none :: e, σ, S, i + 1, d, h, g => by
    rw [EnvR] at h
    obtain ⟨x, r, e1, h⟩ := h
    obtain ⟨v, S1, S2, q1, q2, q3, q4⟩ := EnvR.take (i := i) h (by simpa using g)
    exact ⟨v, S1, S2, by rw [e1]; simpa using q1, q2, q3, by rw [List.set_cons_succ, EnvR]; exact ⟨x, r, e1, q4⟩⟩
  | some d' :: e, σ, S, 0, d, h, g => by
    rw [EnvR] at h
    obtain ⟨v, r, S1, S2, e1, e2, h1, h2⟩ := h
    simp at g
    subst g
    exact ⟨v, S1, S2, by rw [e1]; rfl, by rw [e2], h1, by rw [List.set_cons_zero, EnvR]; exact ⟨_, r, e1, h2⟩⟩
  | some d' :: e, σ, S, i + 1, d, h, g => by
    rw [EnvR] at h
    obtain ⟨v', r, T1, T2, e1, e2, h1, h2⟩ := h
    obtain ⟨v, S1, S2, q1, q2, q3, q4⟩ := EnvR.take (i := i) h2 (by simpa using g)
    refine ⟨v, S1, T1 ++ S2, by rw [e1]; simpa using q1, ?_, q3, by rw [List.set_cons_succ, EnvR]; exact ⟨v', r, T1, S2, e1, rfl, h1, q4⟩⟩
    rw [e2]
    refine ((List.Perm.refl T1).append q2).trans ?_
    rw [← List.append_assoc, ← List.append_assoc]
    exact List.perm_append_comm.append_right _
/-- a slot forgotten -/
theorem EnvR.drop : ∀ {e : Env} {σ : L2.St} {S : List Addr} (i : Nat), EnvR K w F H e σ S → ∃ S2, S2.Sublist S ∧ EnvR K w F H (e.set i none) σ S2
  | [], _, S, i, h => ⟨S, List.Sublist.refl _, h⟩
  | none :: e, σ, S, 0, h => ⟨S, List.Sublist.refl _, h⟩
  | none :: e, σ, S, i + 1, h => by
    rw [EnvR] at h
    obtain ⟨x, r, e1, h⟩ := h
    obtain ⟨S2, s, q⟩ := EnvR.drop i h
    exact ⟨S2, s, by rw [List.set_cons_succ, EnvR]; exact ⟨x, r, e1, q⟩⟩
  | some d' :: e, σ, S, 0, h => by
    rw [EnvR] at h
    obtain ⟨v, r, S1, S2, e1, e2, h1, h2⟩ := h
    exact ⟨S2, by rw [e2]; exact List.sublist_append_right _ _, by rw [List.set_cons_zero, EnvR]; exact ⟨_, r, e1, h2⟩⟩
  | some d' :: e, σ, S, i + 1, h => by
    rw [EnvR] at h
    obtain ⟨v', r, T1, T2, e1, e2, h1, h2⟩ := h
    obtain ⟨S2, s, q⟩ := EnvR.drop i h2
    exact ⟨T1 ++ S2, by rw [e2]; exact (List.Sublist.refl T1).append s, by rw [List.set_cons_succ, EnvR]; exact ⟨v', r, T1, S2, e1, rfl, h1, q⟩⟩
/-- a value put at an empty slot -/
theorem EnvR.put : ∀ {e : Env} {σ : L2.St} {S S1 : List Addr} {i : Nat} {d : D} {v : V}, EnvR K w F H e σ S → e[i]? = some none → Rp K w F H d v S1 →
    ∃ S2, S2.Perm (S1 ++ S) ∧ EnvR K w F H (e.set i (some d)) (σ.set i (some v)) S2
  | [], _, _, _, i, _, _, _, g, _ => by simp at g
  | none :: e, σ, S, S1, 0, d, v, h, g, q => by
    rw [EnvR] at h
    obtain ⟨x, r, e1, h⟩ := h
    subst e1
    exact ⟨S1 ++ S, List.Perm.refl _, by rw [List.set_cons_zero, List.set_cons_zero, EnvR]; exact ⟨v, r, S1, S, rfl, rfl, q, h⟩⟩
  | none :: e, σ, S, S1, i + 1, d, v, h, g, q => by
    rw [EnvR] at h
    obtain ⟨x, r, e1, h⟩ := h
    subst e1
    obtain ⟨S2, p, k⟩ := EnvR.put (i := i) h (by simpa using g) q
    exact ⟨S2, p, by rw [List.set_cons_succ, List.set_cons_succ, EnvR]; exact ⟨x, _, rfl, k⟩⟩
  | some d' :: e, σ, S, S1, 0, d, v, h, g, q => by simp at g
  | some d' :: e, σ, S, S1, i + 1, d, v, h, g, q => by
    rw [EnvR] at h
    obtain ⟨v', r, T1, T2, e1, e2, h1, h2⟩ := h
    subst e1
    obtain ⟨S2, p, k⟩ := EnvR.put (i := i) h2 (by simpa using g) q
    refine ⟨T1 ++ S2, ?_, by rw [List.set_cons_succ, List.set_cons_succ, EnvR]; exact ⟨v', _, T1, S2, rfl, rfl, h1, k⟩⟩
    rw [e2]
    refine ((List.Perm.refl T1).append p).trans ?_
    rw [← List.append_assoc, ← List.append_assoc]
    exact List.perm_append_comm.append_right _
/-- an empty slot may hold anything -/
theorem EnvR.any : ∀ {e : Env} {σ : L2.St} {S : List Addr} {i : Nat} (x : Option V), EnvR K w F H e σ S → e[i]? = some none → EnvR K w F H e (σ.set i x) S
  | [], _, _, i, _, _, g => by simp at g
  | none :: e, σ, S, 0, x, h, g => by
    rw [EnvR] at h ⊢
    obtain ⟨y, r, e1, h⟩ := h
    subst e1
    exact ⟨x, r, rfl, h⟩
  | none :: e, σ, S, i + 1, x, h, g => by
    rw [EnvR] at h ⊢
    obtain ⟨y, r, e1, h⟩ := h
    subst e1
    exact ⟨y, _, rfl, EnvR.any (i := i) x h (by simpa using g)⟩
  | some d :: e, σ, S, 0, x, h, g => by simp at g
  | some d :: e, σ, S, i + 1, x, h, g => by
    rw [EnvR] at h ⊢
    obtain ⟨v, r, S1, S2, e1, e2, h1, h2⟩ := h
    subst e1
    exact ⟨v, _, S1, S2, rfl, e2, h1, EnvR.any (i := i) x h2 (by simpa using g)⟩
theorem RpL.cons {d : D} {ds : List D} {v : V} {vs : List V} {S1 S2 : List Addr} (h : Rp K w F H d v S1) (r : RpL K w F H ds vs S2) : RpL K w F H (d :: ds) (v :: vs) (S1 ++ S2) := by
  rw [RpL]; exact ⟨v, vs, S1, S2, rfl, rfl, h, r⟩
theorem RpL.nil : RpL K w F H [] [] [] := ⟨rfl, rfl⟩
theorem RpL.uncons {d : D} {ds : List D} {vs : List V} {S : List Addr} (h : RpL K w F H (d :: ds) vs S) : ∃ v r S1 S2, vs = v :: r ∧ S = S1 ++ S2 ∧ Rp K w F H d v S1 ∧ RpL K w F H ds r S2 := by
  rw [RpL] at h; exact h
theorem RpL.append : ∀ {ds es : List D} {vs us : List V} {S T : List Addr}, RpL K w F H ds vs S → RpL K w F H es us T → RpL K w F H (ds ++ es) (vs ++ us) (S ++ T)
  | [], _, _, _, _, _, h, r => by obtain ⟨rfl, rfl⟩ := h; exact r
  | d :: ds, es, vs, us, S, T, h, r => by
    obtain ⟨v, vs', S1, S2, rfl, rfl, h1, h2⟩ := h.uncons
    rw [List.cons_append, List.cons_append, List.append_assoc]
    exact RpL.cons h1 (h2.append r)
theorem RpL.split : ∀ {ds es : List D} {vs : List V} {S : List Addr}, RpL K w F H (ds ++ es) vs S → ∃ vs1 vs2 S1 S2, vs = vs1 ++ vs2 ∧ S = S1 ++ S2 ∧ RpL K w F H ds vs1 S1 ∧ RpL K w F H es vs2 S2
  | [], es, vs, S, h => ⟨[], vs, [], S, rfl, rfl, RpL.nil, h⟩
  | d :: ds, es, vs, S, h => by
    obtain ⟨v, r, S1, S2, rfl, rfl, h1, h2⟩ := h.uncons
    obtain ⟨a, b, T1, T2, rfl, rfl, q1, q2⟩ := RpL.split (ds := ds) h2
    exact ⟨v :: a, b, S1 ++ T1, T2, rfl, by rw [List.append_assoc], RpL.cons h1 q1, q2⟩
theorem RpL.length : ∀ {ds : List D} {vs : List V} {S : List Addr}, RpL K w F H ds vs S → ds.length = vs.length
  | [], _, _, h => by rw [h.1]; rfl
  | d :: ds, vs, S, h => by
    obtain ⟨v, r, S1, S2, rfl, rfl, h1, h2⟩ := h.uncons
    rw [List.length_cons, List.length_cons, h2.length]
/-- frozen parts: item by item -/
theorem RpL.get : ∀ {ds : List D} {vs : List V} {i : Nat} {d : D}, RpL K w F H ds vs [] → ds[i]? = some d → ∃ v, vs[i]? = some v ∧ Rp K w F H d v []
  | [], _, _, _, _, g => by simp at g
  | d :: ds, vs, 0, d', h, g => by
    obtain ⟨v, r, S1, S2, rfl, e, h1, h2⟩ := h.uncons
    obtain ⟨rfl, rfl⟩ := List.append_eq_nil_iff.mp e.symm
    simp at g; subst g
    exact ⟨v, rfl, h1⟩
  | d :: ds, vs, i + 1, d', h, g => by
    obtain ⟨v, r, S1, S2, rfl, e, h1, h2⟩ := h.uncons
    obtain ⟨rfl, rfl⟩ := List.append_eq_nil_iff.mp e.symm
    obtain ⟨v', q1, q2⟩ := RpL.get (i := i) h2 (by simpa using g)
    exact ⟨v', by simpa using q1, q2⟩
theorem RpL.of_get : ∀ {ds : List D} {vs : List V}, ds.length = vs.length → (∀ (i : Nat) (d : D) (v : V), ds[i]? = some d → vs[i]? = some v → Rp K w F H d v []) → RpL K w F H ds vs []
  | [], [], _, _ => RpL.nil
  | [], _ :: _, h, _ => by simp at h
  | _ :: _, [], h, _ => by simp at h
  | d :: ds, v :: vs, h, g => RpL.cons (S1 := []) (S2 := []) (g 0 d v rfl rfl) (RpL.of_get (by simpa using h) fun i d' v' h1 h2 => g (i + 1) d' v' (by simpa using h1) (by simpa using h2))

/-! ### at a place in the code -/
section
variable {e e' : Env} {σ : L2.St} {ds : List D} {vs : List V} {S S' T : List Addr} {d : D} {v : V}
theorem At.good (a : At K w F H e σ ds vs S) : Good F H S := let ⟨_, _, _, _, _, g⟩ := a; g
theorem At.stays {F' : Fset} {H' : Hp} {e' : Env} {σ' : L2.St} {ds' : List D} {vs' : List V} (st : Step F H S F' H' S') (a : At K w F' H' e' σ' ds' vs' S') : Good F' H' S' := a.good
/-- the temporaries dropped -/
theorem At.pop (a : At K w F H e σ (d :: ds) (v :: vs) S) : ∃ T, At K w F H e σ ds vs T ∧ Step F H S F H T := by
  obtain ⟨Sd, Se, rfl, h, q, g⟩ := a
  obtain ⟨v', r, S1, S2, e1, rfl, h1, h2⟩ := h.uncons
  cases e1
  have g2 : Good F H (S2 ++ Se) := (by rw [List.append_assoc] at g; exact g.right)
  refine ⟨S2 ++ Se, ⟨S2, Se, rfl, h2, q, g2⟩, Step.weak g (fun a ha => ?_) g2.nd⟩
  rw [List.append_assoc]; exact List.mem_append_right _ ha
/-- what an operation leaves: the operands at xs are used up, the result d at v with what it owns -/
theorem At.nth0 (a : At K w F H e σ (d :: ds) (v :: vs) S) : ∃ S1 S2, S = S1 ++ S2 ∧ Rp K w F H d v S1 ∧ At K w F H e σ ds vs S2 := by
  obtain ⟨Sd, Se, rfl, h, q, g⟩ := a
  obtain ⟨v', r, S1, S2, e1, rfl, h1, h2⟩ := h.uncons
  cases e1
  rw [List.append_assoc] at g ⊢
  exact ⟨S1, S2 ++ Se, rfl, h1, ⟨S2, Se, rfl, h2, q, g.right⟩⟩
theorem At.push {S1 : List Addr} (a : At K w F H e σ ds vs S) (h : Rp K w F H d v S1) (g : Good F H (S1 ++ S)) : At K w F H e σ (d :: ds) (v :: vs) (S1 ++ S) := by
  obtain ⟨Sd, Se, rfl, h', q, g'⟩ := a
  exact ⟨S1 ++ Sd, Se, by rw [List.append_assoc], RpL.cons h h', q, g⟩
theorem At.push0 (a : At K w F H e σ ds vs S) (h : Rp K w F H d v []) : At K w F H e σ (d :: ds) (v :: vs) S := a.push (S1 := []) h a.good
theorem At.stay {F' : Fset} {H' : Hp} (a : At K w F H e σ ds vs S) (s : Stays F H F' H' S) (g : Good F' H' S) : At K w F' H' e σ ds vs S := by
  obtain ⟨Sd, Se, rfl, h, q, _⟩ := a
  exact ⟨Sd, Se, rfl, RpL.stay _ (s.sub fun b hb => List.mem_append_left _ hb) h, q.stay (s.sub fun b hb => List.mem_append_right _ hb), g⟩
theorem At.len (a : At K w F H e σ ds vs S) : e.length = σ.length := let ⟨_, _, _, _, q, _⟩ := a; q.len
end
end

/-! ### what comes of it -/
section
variable (X : Cx) (W : WX) (F : Fset) (H : Hp) (S : List Addr) (σ : L2.St)
def Pst {α : Type} (r : R α) (G : α → Env → Prop) : Prop := match r with
  | .ok a e => G a e
  | .exc x e => ∀ cls dd F' H' S', Step F H S F' H' S' → At X.K X.w F' H' e σ [] [] S' → ExnR X.K X.w F' H' x cls dd → W cls dd σ H'
  | .fail => False
end
/-- the reading of an expression -/
def tE (X : Cx) (W : WX) (m : M D) : TE := fun σ H Q => ∃ F e S, At X.K X.w F H e σ [] [] S ∧
  Pst X W F H S σ (m e) fun d e' => ∀ v F' H' S', Step F H S F' H' S' → At X.K X.w F' H' e' σ [d] [v] S' → Q v H'
/-- .. of a test -/
def tT (X : Cx) (W : WX) (m : M D) : TT := fun σ H Q => ∃ F e S, At X.K X.w F H e σ [] [] S ∧
  Pst X W F H S σ (m e) fun d e' => match d with
    | .bl b => ∀ F' H' S', Step F H S F' H' S' → At X.K X.w F' H' e' σ [] [] S' → Q b H'
    | _ => False
/-- the arguments, from the left -/
def mNil : M (List D) := fun e => .ok [] e
def mCons (m : M D) (ms : M (List D)) : M (List D) := fun e => (m e).bind fun d e1 => (ms e1).bind fun ds e2 => .ok (d :: ds) e2
/-- .. of arguments -/
def tA (X : Cx) (W : WX) (m : M (List D)) : TA := fun σ H Q => ∃ F e S, At X.K X.w F H e σ [] [] S ∧
  Pst X W F H S σ (m e) fun ds e' => ∀ vs F' H' S', Step F H S F' H' S' → At X.K X.w F' H' e' σ ds vs S' → Q vs H'

section
variable {X : Cx} {W : WX} {F F1 : Fset} {H H1 : Hp} {S S1 : List Addr} {σ : L2.St} {e : Env} {ds : List D} {vs : List V}
theorem Pst.mono {α : Type} {r : R α} {G G' : α → Env → Prop} (h : Pst X W F H S σ r G) (k : ∀ a e, G a e → G' a e) : Pst X W F H S σ r G' := by
  cases r with
  | ok a e => exact k a e h
  | exc x e => exact h
  | fail => exact h
/-- beside what is held aside, an inner piece's exceptions are the whole's -/
theorem exc_aside {x : Exn} {e' : Env} {Sd Se : List Addr} (g : Good F H (Sd ++ Se)) (st : Step F H S1 F H (Sd ++ Se))
    (h : ∀ cls dd F' H' S', Step F H S1 F' H' S' → At X.K X.w F' H' e' σ [] [] S' → ExnR X.K X.w F' H' x cls dd → W cls dd σ H') :
    ∀ cls dd F' H' S', Step F H Se F' H' S' → At X.K X.w F' H' e' σ [] [] S' → ExnR X.K X.w F' H' x cls dd → W cls dd σ H' := fun cls dd F' H' S' s a q =>
  h cls dd F' H' S' ((st.trans (s.frame g)).subR (fun c hc => List.mem_append_right _ hc) a.good.nd) a q
/-- THE STEP: a piece m first, then k -/
theorem bindE {β : Type} {m : M D} {k : D → Env → R β} {G : β → Env → Prop} (A : At X.K X.w F1 H1 e σ ds vs S1) (st : Step F H S F1 H1 S1) (h : Pst X W F H S σ ((m e).bind k) G) :
    tE X W m σ H1 fun v H2 => ∃ d F2 e2 S2, Step F H S F2 H2 S2 ∧ At X.K X.w F2 H2 e2 σ (d :: ds) (v :: vs) S2 ∧ Pst X W F H S σ (k d e2) G := by
  obtain ⟨Sd, Se, rfl, hd, he, g⟩ := A
  refine ⟨F1, e, Se, ⟨[], Se, rfl, RpL.nil, he, g.right⟩, ?_⟩
  cases r : m e with
  | ok d e' =>
    rw [r] at h
    intro v F' H' S' s a
    obtain ⟨S3, S4, rfl, q1, q2⟩ := a.nth0
    obtain ⟨_, Se', rfl, q0, q3, _⟩ := q2
    obtain rfl := q0.2
    have fr := s.frame g
    have hd' : RpL X.K X.w F' H' ds vs Sd := RpL.stay ds (s.stays g) hd
    have pm : (Sd ++ (S3 ++ ([] ++ Se'))).Perm ((S3 ++ Sd) ++ Se') := by
      rw [List.nil_append, ← List.append_assoc]
      exact List.perm_append_comm.append_right _
    refine ⟨d, F', e', (S3 ++ Sd) ++ Se', st.trans (fr.permR pm), ⟨S3 ++ Sd, Se', rfl, RpL.cons q1 hd', q3, fr.good.perm pm⟩, h⟩
  | exc x e' =>
    rw [r] at h
    intro cls dd F' H' S' s a q
    exact h cls dd F' H' S' ((st.trans (s.frame g)).subR (fun c hc => List.mem_append_right _ hc) a.good.nd) a q
  | fail => rw [r] at h; exact h.elim
theorem bindA {β : Type} {m : M (List D)} {k : List D → Env → R β} {G : β → Env → Prop} (A : At X.K X.w F1 H1 e σ ds vs S1) (st : Step F H S F1 H1 S1) (h : Pst X W F H S σ ((m e).bind k) G) :
    tA X W m σ H1 fun us H2 => ∃ es F2 e2 S2, Step F H S F2 H2 S2 ∧ At X.K X.w F2 H2 e2 σ (es ++ ds) (us ++ vs) S2 ∧ es.length = us.length ∧ Pst X W F H S σ (k es e2) G := by
  obtain ⟨Sd, Se, rfl, hd, he, g⟩ := A
  refine ⟨F1, e, Se, ⟨[], Se, rfl, RpL.nil, he, g.right⟩, ?_⟩
  cases r : m e with
  | ok es e' =>
    rw [r] at h
    intro us F' H' S' s a
    obtain ⟨S3, Se', rfl, q1, q3, _⟩ := a
    have fr := s.frame g
    have hd' : RpL X.K X.w F' H' ds vs Sd := RpL.stay ds (s.stays g) hd
    have pm : (Sd ++ (S3 ++ Se')).Perm ((S3 ++ Sd) ++ Se') := by
      rw [← List.append_assoc]
      exact List.perm_append_comm.append_right _
    exact ⟨es, F', e', (S3 ++ Sd) ++ Se', st.trans (fr.permR pm), ⟨S3 ++ Sd, Se', rfl, q1.append hd', q3, fr.good.perm pm⟩, q1.length, h⟩
  | exc x e' =>
    rw [r] at h
    intro cls dd F' H' S' s a q
    exact h cls dd F' H' S' ((st.trans (s.frame g)).subR (fun c hc => List.mem_append_right _ hc) a.good.nd) a q
  | fail => rw [r] at h; exact h.elim
theorem bindA2 {β : Type} {m : M (List D)} {k : List D → Env → R β} {G : β → Env → Prop} (A : At X.K X.w F1 H1 e σ ds vs S1) (st : Step F H S F1 H1 S1) (h : Pst X W F H S σ ((m e).bind k) G) :
    tA X W m σ H1 fun us H2 => ∃ es F2 e2 S2, Step F H S F2 H2 S2 ∧ Step F1 H1 S1 F2 H2 S2 ∧ At X.K X.w F2 H2 e2 σ (es ++ ds) (us ++ vs) S2 ∧ es.length = us.length ∧ Pst X W F H S σ (k es e2) G := by
  obtain ⟨Sd, Se, rfl, hd, he, g⟩ := A
  refine ⟨F1, e, Se, ⟨[], Se, rfl, RpL.nil, he, g.right⟩, ?_⟩
  cases r : m e with
  | ok es e' =>
    rw [r] at h
    intro us F' H' S' s a
    obtain ⟨S3, Se', rfl, q1, q3, _⟩ := a
    have fr := s.frame g
    have hd' : RpL X.K X.w F' H' ds vs Sd := RpL.stay ds (s.stays g) hd
    have pm : (Sd ++ (S3 ++ Se')).Perm ((S3 ++ Sd) ++ Se') := by
      rw [← List.append_assoc]
      exact List.perm_append_comm.append_right _
    exact ⟨es, F', e', (S3 ++ Sd) ++ Se', st.trans (fr.permR pm), fr.permR pm, ⟨S3 ++ Sd, Se', rfl, q1.append hd', q3, fr.good.perm pm⟩, q1.length, h⟩
  | exc x e' =>
    rw [r] at h
    intro cls dd F' H' S' s a q
    exact h cls dd F' H' S' ((st.trans (s.frame g)).subR (fun c hc => List.mem_append_right _ hc) a.good.nd) a q
  | fail => rw [r] at h; exact h.elim
theorem bindT {β : Type} {m : M D} {k : D → Env → R β} {G : β → Env → Prop} (A : At X.K X.w F1 H1 e σ ds vs S1) (st : Step F H S F1 H1 S1) (h : Pst X W F H S σ ((m e).bind fun d e' => match d with | .bl b => k (.bl b) e' | _ => .fail) G) :
    tT X W m σ H1 fun b H2 => ∃ F2 e2 S2, Step F H S F2 H2 S2 ∧ At X.K X.w F2 H2 e2 σ ds vs S2 ∧ Pst X W F H S σ (k (.bl b) e2) G := by
  obtain ⟨Sd, Se, rfl, hd, he, g⟩ := A
  refine ⟨F1, e, Se, ⟨[], Se, rfl, RpL.nil, he, g.right⟩, ?_⟩
  cases r : m e with
  | ok d e' =>
    rw [r] at h
    cases d with
    | bl b =>
      intro F' H' S' s a
      obtain ⟨_, Se', rfl, q0, q3, _⟩ := a
      obtain rfl := q0.2
      have fr := s.frame g
      exact ⟨F', e', Sd ++ Se', st.trans fr, ⟨Sd, Se', rfl, RpL.stay ds (s.stays g) hd, q3, fr.good⟩, h⟩
    | _ => exact h.elim
  | exc x e' =>
    rw [r] at h
    intro cls dd F' H' S' s a q
    exact h cls dd F' H' S' ((st.trans (s.frame g)).subR (fun c hc => List.mem_append_right _ hc) a.good.nd) a q
  | fail => rw [r] at h; exact h.elim
end
end Pl
set_option Elab.async false
set_option linter.all false
set_option maxRecDepth 100000
set_option maxHeartbeats 1000000
/-! Pl: expressions. -/
namespace Pl
open PySem PySem.Spec PyProof.Rows L2

theorem PEimp {X : Cx} {e : Expr} {t t' : TE} (h : PE X e t) (k : ∀ σ H Q, t' σ H Q → t σ H Q) : PE X e t' := ⟨fun pins s σ H Q I q => h.run pins s σ H Q I (k σ H Q q)⟩
theorem PTimp {X : Cx} {e : Expr} {t t' : TT} (h : PT X e t) (k : ∀ σ H Q, t' σ H Q → t σ H Q) : PT X e t' := ⟨fun pins s σ H Q I q => h.run pins s σ H Q I (k σ H Q q)⟩
theorem PWimp {X : Cx} {e : Expr} {t t' : TT} (h : PW X e t) (k : ∀ σ H Q, t' σ H Q → t σ H Q) : PW X e t' := ⟨fun wh pins s σ H Q I q => h.run wh pins s σ H Q I (k σ H Q q)⟩
theorem PAimp {X : Cx} {e : List Expr} {t t' : TA} (h : PA X e t) (k : ∀ σ H Q, t' σ H Q → t σ H Q) : PA X e t' := ⟨fun pos pins s σ H Q I q => h.run pos pins s σ H Q I (k σ H Q q)⟩

section
variable {K : PySem.W.Frag} {w : World} {F F' : Fset} {H H' : Hp} {S S1 S2 R T : List Addr} {a p : Addr} {o : HO} {e : Env} {σ : L2.St} {d d' : D} {ds : List D} {v : V} {vs : List V}
/-! ### new things -/
theorem Stays.new (hp : H p = none) : Stays F H F (upd H p o) R :=
  ⟨fun a _ u q => by rw [upd_ne (ne_of_none q hp)]; exact q, fun a u f q => ⟨f, by rw [upd_ne (ne_of_none q hp)]; exact q⟩, fun a xs q => by rw [upd_ne (ne_of_none q hp)]; exact q, fun a u x q => by rw [upd_ne (ne_of_none q hp)]; exact q⟩
theorem Good.new (g : Good F H S) (hp : H p = none) : Good F (upd H p o) S :=
  ⟨g.nd, fun a ha => let ⟨n, u, q, wr⟩ := g.own a ha; ⟨n, u, by rw [upd_ne (ne_of_none q hp)]; exact q, wr⟩, fun a f => let ⟨u, q⟩ := g.fro a f; ⟨u, by rw [upd_ne (ne_of_none q hp)]; exact q⟩⟩
theorem Step.new (g : Good F H S) (hp : H p = none) : Step F H S F (upd H p o) S :=
  ⟨fun a u q _ => by rw [upd_ne (ne_of_none q hp)]; exact q, fun _ h => h, fun _ h => .inl h, fun _ h => .inl h, g.new hp⟩
theorem Step.newO (g : Good F H S) (hp : H p = none) (wr : Wr o) : Step F H S F (upd H p o) (p :: S) := by
  have np : p ∉ S := fun z => by obtain ⟨_, u, q, _⟩ := g.own p z; rw [hp] at q; cases q
  refine ⟨fun a u q _ => by rw [upd_ne (ne_of_none q hp)]; exact q, fun _ h => h, fun _ h => .inl h, fun c h => ?_, ⟨List.nodup_cons.mpr ⟨np, g.nd⟩, fun c h => ?_, (g.new hp).fro⟩⟩
  · rcases List.mem_cons.mp h with z | z
    · subst z; exact .inr hp
    · exact .inl z
  · rcases List.mem_cons.mp h with z | z
    · subst z
      refine ⟨fun f => ?_, o, upd_same, wr⟩
      obtain ⟨u, q⟩ := g.fro c f
      rw [hp] at q; cases q
    · exact (g.new hp).own c z
theorem At.new (A : At K w F H e σ ds vs S) (hp : H p = none) : At K w F (upd H p o) e σ ds vs S := A.stay (Stays.new hp) (A.good.new hp)

/-! ### a value freezes -/
theorem Good.freeze (g : Good F H (S1 ++ S)) : Step F H (S1 ++ S) (fun a => F a ∨ a ∈ S1) H S := by
  refine ⟨fun _ _ q _ => q, fun _ h => .inl h, fun c h => ?_, fun c h => .inl (List.mem_append_right _ h), ⟨(List.nodup_append.mp g.nd).2.1, fun c h => ?_, fun c h => ?_⟩⟩
  · rcases h with h | h
    · exact .inl h
    · exact .inr (.inl (List.mem_append_left _ h))
  · obtain ⟨n, q⟩ := g.own c (List.mem_append_right _ h)
    exact ⟨fun z => z.elim n fun z => g.disj z h, q⟩
  · rcases h with h | h
    · exact g.fro c h
    · obtain ⟨_, u, q, _⟩ := g.own c (List.mem_append_left _ h)
      exact ⟨u, q⟩
theorem stays_fre : Stays F H (fun a => F a ∨ a ∈ S1) H R := ⟨fun _ _ _ q => q, fun _ _ f q => ⟨.inl f, q⟩, fun _ _ q => q, fun _ _ _ q => q⟩
theorem At.freeze (A : At K w F H e σ (d :: ds) (v :: vs) S) : ∃ F' T, Step F H S F' H T ∧ Rp K w F' H d.frz v [] ∧ At K w F' H e σ ds vs T := by
  obtain ⟨S1, S2, rfl, h, B⟩ := A.nth0
  refine ⟨fun a => F a ∨ a ∈ S1, S2, A.good.freeze, Rp.frz d (fun a f => .inl f) (fun a h => .inr h) h, B.stay stays_fre A.good.freeze.good⟩
theorem At.freezeL {es : List D} {us : List V} (A : At K w F H e σ (es ++ ds) (us ++ vs) S) (hl : es.length = us.length) : ∃ F' T, Step F H S F' H T ∧ RpL K w F' H (D.frzL es) us [] ∧ At K w F' H e σ ds vs T := by
  obtain ⟨Sd, Se, rfl, h, q, g⟩ := A
  obtain ⟨u1, u2, S1, S2, e1, rfl, h1, h2⟩ := RpL.split h
  obtain ⟨rfl, rfl⟩ := List.append_inj e1.symm (by rw [← h1.length, hl])
  rw [List.append_assoc] at g ⊢
  have st := g.freeze
  refine ⟨fun a => F a ∨ a ∈ S1, S2 ++ Se, st, RpL.frz es (fun a f => .inl f) (fun a h => .inr h) h1, ⟨S2, Se, rfl, RpL.stay _ stays_fre h2, q.stay stays_fre, st.good⟩⟩
end

/-- an operation's result beside what is held -/
theorem At.res {K : PySem.W.Frag} {w : World} {F F' : Fset} {H H' : Hp} {S1 T : List Addr} {e : Env} {σ : L2.St} {ds : List D} {vs : List V} {d : D} {v : V} (A : At K w F H e σ ds vs T) (st : Step F H [] F' H' S1) (r : Rp K w F' H' d v S1) :
    ∃ T', Step F H T F' H' T' ∧ At K w F' H' e σ (d :: ds) (v :: vs) T' := by
  have g : Good F H (T ++ []) := by rw [List.append_nil]; exact A.good
  have fr := st.frame g
  have pm : (T ++ S1).Perm (S1 ++ T) := List.perm_append_comm
  have fr2 : Step F H T F' H' (S1 ++ T) := by
    have z := fr.permR pm
    rw [List.append_nil] at z
    exact z
  exact ⟨S1 ++ T, fr2, At.push (A.stay (st.stays g) fr2.good.right) r fr2.good⟩

/-! ### names, constants -/
def mVar (i : Nat) : M D := fun e => match e[i]? with
  | some (some d) => if d.fz = true then .ok d e else .ok d.frz (e.set i (some d.frz))
  | _ => .fail
/-- read for the last time -/
def mMov (i : Nat) : M D := fun e => match e[i]? with
  | some (some d) => .ok d (e.set i none)
  | _ => .fail
def mC (d : D) : M D := fun e => .ok d e
section
variable {X : Cx} {W : WX}
theorem set_none {α : Type} : ∀ {l : List (Option α)} {i : Nat}, i < l.length → (l.set i none)[i]? = some none
  | [], _, h => by simp at h
  | _ :: _, 0, _ => rfl
  | _ :: l, i + 1, h => by rw [List.set_cons_succ, List.getElem?_cons_succ]; exact set_none (by simpa using h)
theorem lt_of_get {α : Type} {l : List α} {i : Nat} {x : α} (h : l[i]? = some x) : i < l.length := (List.getElem?_eq_some_iff.mp h).1
theorem set_get {α : Type} : ∀ {l : List α} {i : Nat} {x : α}, l[i]? = some x → l.set i x = l
  | [], _, _, h => by simp at h
  | y :: l, 0, x, h => by simp at h; subst h; rfl
  | y :: l, i + 1, x, h => by rw [List.set_cons_succ, set_get (by simpa using h)]
/-- a slot frozen -/
theorem At.slotFz {K : PySem.W.Frag} {w : World} {F : Fset} {H : Hp} {S : List Addr} {e : Env} {σ : L2.St} {ds : List D} {vs : List V} {i : Nat} {d : D} (A : At K w F H e σ ds vs S) (h : e[i]? = some (some d)) :
    ∃ v F' T, σ[i]? = some (some v) ∧ Step F H S F' H T ∧ Rp K w F' H d.frz v [] ∧ At K w F' H (e.set i (some d.frz)) σ ds vs T := by
  obtain ⟨Sd, Se, rfl, hd, he, g⟩ := A
  obtain ⟨v, S1, S2, q1, q2, q3, q4⟩ := he.take h
  have pm : (Sd ++ Se).Perm (S1 ++ (Sd ++ S2)) := by
    refine ((List.Perm.refl Sd).append q2).trans ?_
    rw [← List.append_assoc, ← List.append_assoc]
    exact List.perm_append_comm.append_right _
  have g2 := g.perm pm
  have st := g2.freeze
  have r : Rp K w (fun a => F a ∨ a ∈ S1) H d.frz v [] := Rp.frz d (fun a f => .inl f) (fun a h => .inr h) q3
  obtain ⟨S3, p3, q5⟩ := (q4.stay (F' := fun a => F a ∨ a ∈ S1) stays_fre).put (i := i) (set_none (lt_of_get h)) r
  rw [List.nil_append] at p3
  rw [set_get q1] at q5
  have es : (e.set i none).set i (some d.frz) = e.set i (some d.frz) := List.set_set ..
  rw [es] at q5
  have pm3 : (Sd ++ S2).Perm (Sd ++ S3) := (List.Perm.refl Sd).append p3.symm
  exact ⟨v, _, Sd ++ S3, q1, (st.permL pm.symm).permR pm3, r, ⟨Sd, S3, rfl, RpL.stay _ stays_fre hd, q5, st.good.perm pm3⟩⟩
theorem dE_var {x : Str} {pos : Pos} (i : Nat) (hN : X.N[i]? = some x := by rfl) (hv : Vis X.env.scope x := by first | exact Or.inl rfl | exact Or.inr (Or.inl rfl) | exact Or.inr (Or.inr rfl)) (hd : (x == ("__debug__" : Str)) = false := by decide)
    (hcd : (x == ("__classdict__" : Str)) = false := by decide) : PE X (.Name x pos) (tE X W (mVar i)) := by
  refine PEimp (pe_var hN hv hd hcd) fun σ H Q q => ?_
  obtain ⟨F, e, S, A, q⟩ := q
  unfold mVar at q
  split at q
  · rename_i d h
    obtain ⟨v, F', T, h1, st, r, B⟩ := A.slotFz h
    refine ⟨v, h1, ?_⟩
    split at q
    · rename_i z
      rw [D.frz_id d z, set_get h] at B
      rw [D.frz_id d z] at r
      exact q v F' H T st (B.push0 r)
    · exact q v F' H T st (B.push0 r)
  · exact q.elim
theorem dE_mov {x : Str} {pos : Pos} (i : Nat) (hN : X.N[i]? = some x := by rfl) (hv : Vis X.env.scope x := by first | exact Or.inl rfl | exact Or.inr (Or.inl rfl) | exact Or.inr (Or.inr rfl)) (hd : (x == ("__debug__" : Str)) = false := by decide)
    (hcd : (x == ("__classdict__" : Str)) = false := by decide) : PE X (.Name x pos) (tE X W (mMov i)) := by
  refine PEimp (pe_var hN hv hd hcd) fun σ H Q q => ?_
  obtain ⟨F, e, S, A, q⟩ := q
  unfold mMov at q
  split at q
  · rename_i d h
    obtain ⟨Sd, Se, rfl, hd, he, g⟩ := A
    obtain ⟨v, S1, S2, q1, q2, q3, q4⟩ := he.take h
    obtain rfl := hd.2
    have pm : ([] ++ Se).Perm (S1 ++ S2) := q2
    exact ⟨v, q1, q v F H (S1 ++ S2) ((Step.refl g).permR pm) (At.push ⟨[], S2, rfl, hd, q4, (g.perm pm).right⟩ q3 (g.perm pm))⟩
  · exact q.elim
theorem tE_const {v : V} {d : D} (h : ∀ F H, Rp X.K X.w F H d v []) : ∀ σ H Q, tE X W (mC d) σ H Q → tC v σ H Q := fun σ H Q q => by
  obtain ⟨F, e, S, A, q⟩ := q
  exact q v F H S (Step.refl A.good) (A.push0 (h F H))
theorem dE_int {i j pos} : PE X (.Constant (.int i) j pos) (tE X W (mC (.int i))) := PEimp pe_int (tE_const fun _ _ => ⟨rfl, rfl⟩)
theorem dE_bl {b j pos} : PE X (.Constant (.bool b) j pos) (tE X W (mC (.bl b))) := PEimp pe_bl (tE_const fun _ _ => ⟨rfl, rfl⟩)
theorem dE_non {j pos} : PE X (.Constant .none j pos) (tE X W (mC .non)) := PEimp pe_non (tE_const fun _ _ => ⟨rfl, rfl⟩)
theorem dE_str {x j pos} : PE X (.Constant (.str x) j pos) (tE X W (mC (.str x))) := PEimp pe_str (tE_const fun _ _ => ⟨rfl, rfl⟩)
/-- a module's constant -/
structure GloD (K : PySem.W.Frag) (w : World) (mg : Str → Option Value) (x : Str) (d : D) : Prop where
  ex : ∃ v u, mg x = some u ∧ RelV v u ∧ ∀ F H, Rp K w F H d v []
theorem dE_glo {x : Str} {pos : Pos} {d : D} (h : GloD X.K X.w X.mg x d) (hg : Gl X x := by rfl) (hd : (x == ("__debug__" : Str)) = false := by decide) : PE X (.Name x pos) (tE X W (mC d)) := by
  obtain ⟨v, u, hm, r, q⟩ := h.ex
  exact PEimp (pe_glob hg hm r hd) (tE_const q)
end

/-! ### operations upon values: the operands frozen -/
def mBin (f : D → D → Option D) (a b : M D) : M D := fun e => (a e).bind fun x e1 => (b e1).bind fun y e2 => R.of (f x.frz y.frz) e2
def mUn (f : D → Option D) (a : M D) : M D := fun e => (a e).bind fun x e1 => R.of (f x.frz) e1
/-- what a rule by values does with trees -/
def Op2 (K : PySem.W.Frag) (w : World) (r : R2) (f : D → D → Option D) : Prop := ∀ (F : Fset) (H : Hp) (S1 S2 : List Addr) (d1 d2 d : D) (x y : V) (Q : VK), Good F H [] → Rp K w F H d1 x S1 → Rp K w F H d2 y S2 → f d1 d2 = some d →
  (∀ v F' H' S', Step F H [] F' H' S' → Rp K w F' H' d v S' → Q v H') → r x y H Q
def Op1 (K : PySem.W.Frag) (w : World) (r : V → Hp → VK → Prop) (f : D → Option D) : Prop := ∀ (F : Fset) (H : Hp) (S1 : List Addr) (d1 d : D) (x : V) (Q : VK), Good F H [] → Rp K w F H d1 x S1 → f d1 = some d →
  (∀ v F' H' S', Step F H [] F' H' S' → Rp K w F' H' d v S' → Q v H') → r x H Q
def OpL (K : PySem.W.Frag) (w : World) (r : List V → Hp → VK → Prop) (f : List D → Option D) : Prop := ∀ (F : Fset) (H : Hp) (S1 : List Addr) (ds : List D) (d : D) (vs : List V) (Q : VK), Good F H [] → RpL K w F H ds vs S1 → f ds = some d →
  (∀ v F' H' S', Step F H [] F' H' S' → Rp K w F' H' d v S' → Q v H') → r vs H Q
section
variable {X : Cx} {W : WX}
theorem Pst.of {α : Type} {F : Fset} {H : Hp} {S : List Addr} {σ : L2.St} {o : Option α} {e : Env} {G : α → Env → Prop} (h : Pst X W F H S σ (R.of o e) G) : ∃ a, o = some a ∧ G a e := by
  cases o with
  | none => exact h.elim
  | some a => exact ⟨a, rfl, h⟩
theorem tE_op2 {r : R2} {f : D → D → Option D} (hf : Op2 X.K X.w r f) {a b : M D} : ∀ σ H Q, tE X W (mBin f a b) σ H Q → tOp r (tE X W a) (tE X W b) σ H Q := fun σ H Q q => by
  obtain ⟨F, e, S, A, q⟩ := q
  obtain ⟨F1, e1, S1, A1, q1⟩ := bindE A (Step.refl A.good) q
  refine ⟨F1, e1, S1, A1, q1.mono fun x e2 k v F' H' S' st B => ?_⟩
  obtain ⟨d1, F2, e3, S2, st2, A2, q2⟩ := k v F' H' S' st B
  obtain ⟨F3, e4, S3, A3, q3⟩ := bindE A2 st2 q2
  refine ⟨F3, e4, S3, A3, q3.mono fun y e5 k2 u F4 H4 S4 st4 B4 => ?_⟩
  obtain ⟨d2, F5, e6, S5, st5, A5, q5⟩ := k2 u F4 H4 S4 st4 B4
  obtain ⟨d, hd, g⟩ := Pst.of q5
  obtain ⟨F6, T6, st6, r2, A6⟩ := A5.freeze
  obtain ⟨F7, T7, st7, r1, A7⟩ := A6.freeze
  refine hf F7 H4 [] [] d1.frz d2.frz d v u Q A7.good.nil r1 (Rp.stay _ (st7.stays (R := []) A6.good) r2) hd fun z F8 H8 S8 st8 r8 => ?_
  obtain ⟨T9, st9, A9⟩ := A7.res st8 r8
  exact g z F8 H8 T9 (((st5.trans st6).trans st7).trans st9) A9
theorem tE_op1 {r : V → Hp → VK → Prop} {f : D → Option D} (hf : Op1 X.K X.w r f) {a : M D} : ∀ σ H Q, tE X W (mUn f a) σ H Q → tE X W a σ H fun x H1 => r x H1 Q := fun σ H Q q => by
  obtain ⟨F, e, S, A, q⟩ := q
  obtain ⟨F1, e1, S1, A1, q1⟩ := bindE A (Step.refl A.good) q
  refine ⟨F1, e1, S1, A1, q1.mono fun x e2 k v F' H' S' st B => ?_⟩
  obtain ⟨d1, F2, e3, S2, st2, A2, q2⟩ := k v F' H' S' st B
  obtain ⟨d, hd, g⟩ := Pst.of q2
  obtain ⟨F7, T7, st7, r1, A7⟩ := A2.freeze
  refine hf F7 H' [] d1.frz d v Q A7.good.nil r1 hd fun z F8 H8 S8 st8 r8 => ?_
  obtain ⟨T9, st9, A9⟩ := A7.res st8 r8
  exact g z F8 H8 T9 ((st2.trans st7).trans st9) A9
def mB (f : List D → Option D) (ms : M (List D)) : M D := fun e => (ms e).bind fun ds e1 => R.of (f (D.frzL ds)) e1
theorem tE_opL {r : List V → Hp → VK → Prop} {f : List D → Option D} (hf : OpL X.K X.w r f) {ms : M (List D)} : ∀ σ H Q, tE X W (mB f ms) σ H Q → tCB r (tA X W ms) σ H Q := fun σ H Q q => by
  obtain ⟨F, e, S, A, q⟩ := q
  obtain ⟨F1, e1, S1, A1, q1⟩ := bindA A (Step.refl A.good) q
  refine ⟨F1, e1, S1, A1, q1.mono fun x e2 k us F' H' S' st B => ?_⟩
  obtain ⟨es, F2, e3, S2, st2, A2, hl, q2⟩ := k us F' H' S' st B
  obtain ⟨d, hd, g⟩ := Pst.of q2
  obtain ⟨F7, T7, st7, r1, A7⟩ := A2.freezeL hl
  refine hf F7 H' [] _ d us Q A7.good.nil r1 hd fun z F8 H8 S8 st8 r8 => ?_
  obtain ⟨T9, st9, A9⟩ := A7.res st8 r8
  exact g z F8 H8 T9 ((st2.trans st7).trans st9) A9

/-! ### peeking: a slot's value is looked at when the operation is done, and stays where it is -/
theorem At.peek {K : PySem.W.Frag} {w : World} {F : Fset} {H : Hp} {S : List Addr} {e : Env} {σ : L2.St} {ds : List D} {vs : List V} {i : Nat} {d : D} (A : At K w F H e σ ds vs S) (h : e[i]? = some (some d)) :
    ∃ v S1, σ[i]? = some (some v) ∧ Rp K w F H d v S1 := by
  obtain ⟨Sd, Se, rfl, hd, he, g⟩ := A
  obtain ⟨v, S1, S2, q1, q2, q3, q4⟩ := he.take h
  exact ⟨v, S1, q1, q3⟩
def isIn (e : Env) (i : Nat) : Bool := match e[i]? with
  | some (some _) => true
  | _ => false
theorem isIn_get {e : Env} {i : Nat} (h : isIn e i = true) : ∃ d, e[i]? = some (some d) := by
  unfold isIn at h
  split at h
  · exact ⟨_, by assumption⟩
  · cases h
/-- x op e -/
def mBinL (f : D → D → Option D) (i : Nat) (b : M D) : M D := fun e => if isIn e i = true then (b e).bind fun y e1 => match e1[i]? with
  | some (some x) => R.of (f x y.frz) e1
  | _ => .fail else .fail
/-- e op x -/
def mBinR (f : D → D → Option D) (a : M D) (i : Nat) : M D := fun e => (a e).bind fun x e1 => match e1[i]? with
  | some (some y) => R.of (f x.frz y) e1
  | _ => .fail
/-- op x -/
def mUnP (f : D → Option D) (i : Nat) : M D := fun e => match e[i]? with
  | some (some x) => R.of (f x) e
  | _ => .fail
/-- what the PE of a name says -/
theorem tE_binL {r : R2} {f : D → D → Option D} (hf : Op2 X.K X.w r f) {i : Nat} {b : M D} : ∀ σ H Q, tE X W (mBinL f i b) σ H Q → tOp r (tVar i) (tE X W b) σ H Q := fun σ H Q q => by
  obtain ⟨F, e, S, A, q⟩ := q
  unfold mBinL at q
  split at q
  · rename_i hi
    obtain ⟨d0, h0⟩ := isIn_get hi
    obtain ⟨v, _, hv, _⟩ := A.peek h0
    refine ⟨v, hv, ?_⟩
    obtain ⟨F1, e1, S1, A1, q1⟩ := bindE A (Step.refl A.good) q
    refine ⟨F1, e1, S1, A1, q1.mono fun y e2 k u F' H' S' st B => ?_⟩
    obtain ⟨d2, F2, e3, S2, st2, A2, q2⟩ := k u F' H' S' st B
    split at q2
    · rename_i x hx
      obtain ⟨d, hd, g⟩ := Pst.of q2
      obtain ⟨F6, T6, st6, r2, A6⟩ := A2.freeze
      obtain ⟨v', S7, hv', r1⟩ := A6.peek hx
      rw [hv] at hv'; cases hv'
      refine hf F6 H' S7 [] x d2.frz d v u Q A6.good.nil r1 r2 hd fun z F8 H8 S8 st8 r8 => ?_
      obtain ⟨T9, st9, A9⟩ := A6.res st8 r8
      exact g z F8 H8 T9 ((st2.trans st6).trans st9) A9
    · exact q2.elim
  · exact q.elim
theorem tE_binR {r : R2} {f : D → D → Option D} (hf : Op2 X.K X.w r f) {i : Nat} {a : M D} : ∀ σ H Q, tE X W (mBinR f a i) σ H Q → tOp r (tE X W a) (tVar i) σ H Q := fun σ H Q q => by
  obtain ⟨F, e, S, A, q⟩ := q
  obtain ⟨F1, e1, S1, A1, q1⟩ := bindE A (Step.refl A.good) q
  refine ⟨F1, e1, S1, A1, q1.mono fun y e2 k u F' H' S' st B => ?_⟩
  obtain ⟨d1, F2, e3, S2, st2, A2, q2⟩ := k u F' H' S' st B
  split at q2
  · rename_i y hy
    obtain ⟨d, hd, g⟩ := Pst.of q2
    obtain ⟨F6, T6, st6, r1, A6⟩ := A2.freeze
    obtain ⟨v, S7, hv, r2⟩ := A6.peek hy
    refine ⟨v, hv, hf F6 H' [] S7 d1.frz y d u v Q A6.good.nil r1 r2 hd fun z F8 H8 S8 st8 r8 => ?_⟩
    obtain ⟨T9, st9, A9⟩ := A6.res st8 r8
    exact g z F8 H8 T9 ((st2.trans st6).trans st9) A9
  · exact q2.elim
theorem tE_unP {r : V → Hp → VK → Prop} {f : D → Option D} (hf : Op1 X.K X.w r f) {i : Nat} : ∀ σ H Q, tE X W (mUnP f i) σ H Q → tVar i σ H fun x H1 => r x H1 Q := fun σ H Q q => by
  obtain ⟨F, e, S, A, q⟩ := q
  unfold mUnP at q
  split at q
  · rename_i x hx
    obtain ⟨d, hd, g⟩ := Pst.of q
    obtain ⟨v, S7, hv, r1⟩ := A.peek hx
    refine ⟨v, hv, hf F H S7 x d v Q A.good.nil r1 hd fun z F8 H8 S8 st8 r8 => ?_⟩
    obtain ⟨T9, st9, A9⟩ := A.res st8 r8
    exact g z F8 H8 T9 st9 A9
  · exact q.elim

/-! ### argument lists -/
theorem dA_nil : PA X [] (tA X W mNil) := PAimp pa_nil fun σ H Q q => by
  obtain ⟨F, e, S, A, q⟩ := q
  obtain ⟨Sd, Se, rfl, hd, he, g⟩ := A
  obtain rfl := hd.2
  exact q [] F H _ (Step.refl g) ⟨[], Se, rfl, RpL.nil, he, g⟩
theorem dA_cons {e : Expr} {es : List Expr} {m : M D} {ms : M (List D)} (ha : PE X e (tE X W m)) (hr : PA X es (tA X W ms)) (hs : starEach (e :: es) X.env = (false, eval e X.env) :: starEach es X.env := by rfl) : PA X (e :: es) (tA X W (mCons m ms)) :=
  PAimp (pa_cons ha hr hs) fun σ H Q q => by
  obtain ⟨F, e, S, A, q⟩ := q
  obtain ⟨F1, e1, S1, A1, q1⟩ := bindE A (Step.refl A.good) q
  refine ⟨F1, e1, S1, A1, q1.mono fun x e2 k v F' H' S' st B => ?_⟩
  obtain ⟨d1, F2, e3, S2, st2, A2, q2⟩ := k v F' H' S' st B
  obtain ⟨F3, e4, S3, A3, q3⟩ := bindA A2 st2 q2
  refine ⟨F3, e4, S3, A3, q3.mono fun y e5 k2 us F4 H4 S4 st4 B4 => ?_⟩
  obtain ⟨es, F5, e6, S5, st5, A5, hl, q5⟩ := k2 us F4 H4 S4 st4 B4
  obtain ⟨Sd, Se, rfl, hd, he, g⟩ := A5
  obtain ⟨v1, v2, T1, T2, ev, rfl, h1, h2⟩ := RpL.split hd
  obtain ⟨rfl, rfl⟩ := List.append_inj ev.symm (by rw [← h1.length, hl])
  obtain ⟨v', r', T3, T4, ev2, rfl, h3, h4⟩ := h2.uncons
  cases ev2
  obtain rfl := h4.2
  have pm : ((T1 ++ (T3 ++ [])) ++ Se).Perm ((T3 ++ T1) ++ Se) := by
    rw [List.append_nil]; exact List.perm_append_comm.append_right _
  exact q5 (v :: _) F5 H4 _ (st5.permR pm) ⟨T3 ++ T1, Se, rfl, RpL.cons h3 h1, he, g.perm pm⟩
end
end Pl
set_option Elab.async false
set_option linter.all false
set_option maxRecDepth 100000
set_option maxHeartbeats 1000000
/-! Pl: operations upon values. -/
namespace Pl
open PySem PySem.Spec PyProof.Rows L2

mutual
/-- as data -/
def D.py : D → Option PyData
  | .non => some .none
  | .bl b => some (.bool b)
  | .int i => some (.int i)
  | .str x => some (.str x)
  | .tup ds => match D.pyL ds with
    | some ps => some (.tuple ps)
    | none => none
  | .lst _ ds => match D.pyL ds with
    | some ps => some (.list ps)
    | none => none
  | .dic _ _ => none
  | .obj _ _ _ => none
  | .scr _ => none
def D.pyL : List D → Option (List PyData)
  | [] => some []
  | d :: ds => match D.py d, D.pyL ds with
    | some p, some ps => some (p :: ps)
    | _, _ => none
end
/-- a plain value -/
def D.flat : D → Option V
  | .non => some .non
  | .bl b => some (.bl b)
  | .int i => some (.int i)
  | .str x => some (.str x)
  | _ => none
def D.flatL : List D → Option (List V)
  | [] => some []
  | d :: ds => match D.flat d, D.flatL ds with
    | some p, some ps => some (p :: ps)
    | _, _ => none

section
variable {K : PySem.W.Frag} {w : World} {F F' : Fset} {H H' : Hp} {S : List Addr}
mutual
theorem Rp.dp : ∀ (d : D) {p : PyData} {v : V} {S : List Addr}, d.py = some p → Rp K w F H d v S → Dp K H v p
  | .non, p, v, S, e, h => by cases e; obtain ⟨rfl, _⟩ := h; exact .non
  | .bl b, p, v, S, e, h => by cases e; obtain ⟨rfl, _⟩ := h; exact .bl b
  | .int i, p, v, S, e, h => by cases e; obtain ⟨rfl, _⟩ := h; exact .int i
  | .str x, p, v, S, e, h => by cases e; obtain ⟨rfl, _⟩ := h; exact .str x
  | .tup ds, p, v, S, e, h => by
    rw [D.py] at e
    cases q : D.pyL ds with
    | none => rw [q] at e; cases e
    | some ps =>
      rw [q] at e; cases e
      rw [Rp] at h
      obtain ⟨a, vs, rfl, s, r⟩ := h
      exact .tup s (RpL.dp ds q r)
  | .lst m ds, p, v, S, e, h => by
    rw [D.py] at e
    cases q : D.pyL ds with
    | none => rw [q] at e; cases e
    | some ps =>
      rw [q] at e; cases e
      rw [Rp] at h
      obtain ⟨a, vs, rfl, ⟨_, s, S', _, r⟩ | ⟨_, s, _, r⟩⟩ := h
      · exact .lst (SqL.of s) (RpL.dp ds q r)
      · exact .lst s.sqL (RpL.dp ds q r)
  | .dic _ _, p, v, S, e, h => by cases e
  | .obj _ _ _, p, v, S, e, h => by cases e
  | .scr _, p, v, S, e, h => by cases e
theorem RpL.dp : ∀ (ds : List D) {ps : List PyData} {vs : List V} {S : List Addr}, D.pyL ds = some ps → RpL K w F H ds vs S → DpAll K H vs ps
  | [], ps, vs, S, e, h => by cases e; obtain ⟨rfl, _⟩ := h; exact .nil
  | d :: ds, ps, vs, S, e, h => by
    obtain ⟨v, r, S1, S2, rfl, rfl, h1, h2⟩ := h.uncons
    rw [D.pyL] at e
    cases q1 : D.py d with
    | none => rw [q1] at e; cases e
    | some p =>
      cases q2 : D.pyL ds with
      | none => rw [q1, q2] at e; cases e
      | some ps' =>
        rw [q1, q2] at e; cases e
        exact .cons (Rp.dp d q1 h1) (RpL.dp ds q2 h2)
end
theorem Rp.flat {d : D} {v u : V} (e : d.flat = some u) (h : Rp K w F H d v S) : v = u := by
  cases d with
  | non => cases e; exact h.1
  | bl b => cases e; exact h.1
  | int b => cases e; exact h.1
  | str b => cases e; exact h.1
  | _ => cases e
theorem D.flat_ok {d : D} {u : V} (e : d.flat = some u) : flatV u = true := by
  cases d with
  | non => cases e; rfl
  | bl b => cases e; rfl
  | int b => cases e; rfl
  | str b => cases e; rfl
  | _ => cases e
theorem RpL.flat : ∀ {ds : List D} {vs us : List V} {S : List Addr}, D.flatL ds = some us → RpL K w F H ds vs S → vs = us ∧ us.all flatV = true
  | [], vs, us, S, e, h => by cases e; exact ⟨h.1, rfl⟩
  | d :: ds, vs, us, S, e, h => by
    obtain ⟨v, r, S1, S2, rfl, rfl, h1, h2⟩ := h.uncons
    rw [D.flatL] at e
    cases q1 : D.flat d with
    | none => rw [q1] at e; cases e
    | some p =>
      cases q2 : D.flatL ds with
      | none => rw [q1, q2] at e; cases e
      | some ps' =>
        rw [q1, q2] at e; cases e
        obtain ⟨rfl, h3⟩ := RpL.flat q2 h2
        rw [Rp.flat q1 h1]
        exact ⟨rfl, by rw [List.all_cons, D.flat_ok q1, h3]; rfl⟩
/-- the items of a tuple or list -/
theorem Rp.seq {d : D} {ds : List D} {v : V} (e : d = .tup ds ∨ ∃ m, d = .lst m ds) (h : Rp K w F H d v S) : ∃ a vs S', v = .ref a ∧ (SqL K H a vs ∨ SqT K H a vs) ∧ RpL K w F H ds vs S' := by
  rcases e with rfl | ⟨m, rfl⟩
  · rw [Rp] at h
    obtain ⟨a, vs, rfl, s, r⟩ := h
    exact ⟨a, vs, _, rfl, .inr s, r⟩
  · rw [Rp] at h
    obtain ⟨a, vs, rfl, ⟨_, s, S', _, r⟩ | ⟨_, s, _, r⟩⟩ := h
    · exact ⟨a, vs, _, rfl, .inl (SqL.of s), r⟩
    · exact ⟨a, vs, _, rfl, .inl s.sqL, r⟩
end

/-! ### helpers for results -/
section
variable {K : PySem.W.Frag} {w : World} {F : Fset} {H : Hp} {Q : VK} {d : D}
theorem res0 {v : V} (g : Good F H []) (k : ∀ v F' H' S', Step F H [] F' H' S' → Rp K w F' H' d v S' → Q v H') (r : Rp K w F H d v []) : Q v H := k v F H [] (Step.refl g) r
/-- a new tuple of frozen things -/
theorem resT {ds : List D} {vs : List V} (g : Good F H []) (k : ∀ v F' H' S', Step F H [] F' H' S' → Rp K w F' H' (.tup ds) v S' → Q v H') (r : RpL K w F H ds vs []) : ∀ p, H p = none → Q (.ref p) (upd H p (.tup vs)) := fun p hp =>
  k _ F _ [] (Step.new g hp) (by rw [Rp]; exact ⟨p, vs, rfl, SqT.of upd_same, RpL.stay ds (Stays.new hp) r⟩)
theorem resL {ds : List D} {vs : List V} (g : Good F H []) (k : ∀ v F' H' S', Step F H [] F' H' S' → Rp K w F' H' (.lst true ds) v S' → Q v H') (r : RpL K w F H ds vs []) : ∀ p, H p = none → Q (.ref p) (upd H p (.lst vs)) := fun p hp =>
  k _ F _ [p] (Step.newO g hp trivial) (by rw [Rp]; exact ⟨p, vs, rfl, .inl ⟨rfl, upd_same, [], rfl, RpL.stay ds (Stays.new hp) r⟩⟩)
end

/-! ### arithmetic -/
def dAdd : D → D → Option D
  | .int a, .int b => some (.int (a + b))
  | .str a, .str b => if a.length + b.length ≤ sizeLine then some (.str (a ++ b)) else none
  | .tup a, .tup b => if D.fzL a = true ∧ D.fzL b = true ∧ a.length + b.length ≤ sizeLine then some (.tup (a ++ b)) else none
  | .lst _ a, .lst _ b => if D.fzL a = true ∧ D.fzL b = true ∧ a.length + b.length ≤ sizeLine then some (.lst true (a ++ b)) else none
  | _, _ => none
def dSub : D → D → Option D
  | .int a, .int b => some (.int (a - b))
  | _, _ => none
def small64B (a : Int) : Bool := decide (-(2 ^ 64) < a) && decide (a < 2 ^ 64)
def dMul : D → D → Option D
  | .int a, .int b => if small64B a || small64B b then some (.int (a * b)) else none
  | _, _ => none
def dDiv : D → D → Option D
  | .int a, .int b => if 0 < b ∧ b < 1073741824 then some (.int (a / b)) else none
  | _, _ => none
def dMod : D → D → Option D
  | .int a, .int b => if 0 < b then some (.int (a % b)) else none
  | _, _ => none
def dPow : D → D → Option D
  | .int a, .int b => if 0 ≤ b ∧ b ≤ 1000000 ∧ a.natAbs < 2 ^ 64 then some (.int (a ^ b.toNat)) else none
  | _, _ => none
def dNeg : D → Option D
  | .int a => some (.int (-a))
  | _ => none
section
variable {X : Cx} {K : PySem.W.Frag} {w : World}
theorem op2_sub : Op2 K w (rI0 fun i j => .int (i - j)) dSub := fun F H S1 S2 d1 d2 d x y Q g h1 h2 e k => by
  cases d1 <;> cases d2 <;> first | cases e | skip
  exact ⟨_, _, h1.1, h2.1, res0 g k ⟨rfl, rfl⟩⟩
theorem op2_mul : Op2 K w (rI CMul fun i j => .int (i * j)) dMul := fun F H S1 S2 d1 d2 d x y Q g h1 h2 e k => by
  cases d1 <;> cases d2 <;> first | cases e | skip
  rename_i a b
  simp only [dMul] at e
  split at e
  · rename_i c
    cases e
    refine ⟨_, _, h1.1, h2.1, ?_, res0 g k ⟨rfl, rfl⟩⟩
    rw [Bool.or_eq_true] at c
    rcases c with c | c
    · rw [small64B, Bool.and_eq_true, decide_eq_true_eq, decide_eq_true_eq] at c; exact .inl c
    · rw [small64B, Bool.and_eq_true, decide_eq_true_eq, decide_eq_true_eq] at c; exact .inr c
  · cases e
theorem op2_div : Op2 K w (rI CDiv fun i j => .int (i / j)) dDiv := fun F H S1 S2 d1 d2 d x y Q g h1 h2 e k => by
  cases d1 <;> cases d2 <;> first | cases e | skip
  simp only [dDiv] at e
  split at e
  · rename_i c
    cases e
    exact ⟨_, _, h1.1, h2.1, c, res0 g k ⟨rfl, rfl⟩⟩
  · cases e
theorem op2_mod : Op2 K w (rI (fun _ j => 0 < j) fun i j => .int (i % j)) dMod := fun F H S1 S2 d1 d2 d x y Q g h1 h2 e k => by
  cases d1 <;> cases d2 <;> first | cases e | skip
  simp only [dMod] at e
  split at e
  · rename_i c
    cases e
    exact ⟨_, _, h1.1, h2.1, c, res0 g k ⟨rfl, rfl⟩⟩
  · cases e
theorem op2_pow : Op2 K w (rI CPow fun i j => .int (i ^ j.toNat)) dPow := fun F H S1 S2 d1 d2 d x y Q g h1 h2 e k => by
  cases d1 <;> cases d2 <;> first | cases e | skip
  simp only [dPow] at e
  split at e
  · rename_i c
    cases e
    exact ⟨_, _, h1.1, h2.1, c, res0 g k ⟨rfl, rfl⟩⟩
  · cases e
theorem op1_neg : Op1 K w (rU fun i => .int (-i)) dNeg := fun F H S1 d1 d x Q g h1 e k => by
  cases d1 <;> first | cases e | skip
  exact ⟨_, h1.1, res0 g k ⟨rfl, rfl⟩⟩
theorem RpL.fzs {ds : List D} {vs : List V} {F : Fset} {H : Hp} {S : List Addr} (z : D.fzL ds = true) (h : RpL K w F H ds vs S) : RpL K w F H ds vs [] := by
  have e := RpL.fz_nil ds z h
  subst e
  exact h
def rAddA (K : PySem.W.Frag) : R2 := fun x y H Q => (∃ i j, x = .int i ∧ y = .int j ∧ Q (.int (i + j)) H) ∨ ((∃ i j, x = .str i ∧ y = .str j ∧ i.length + j.length ≤ sizeLine ∧ Q (.str (i ++ j)) H) ∨ (rCatA K x y H Q ∨ rCat x y H Q))
theorem op_addA : OpR X (binaryOp .Add) (rAddA X.K) := op_add.or (op_add_str.or (op_catA.or op_cat))
theorem op2_add : Op2 K w (rAddA K) dAdd := fun F H S1 S2 d1 d2 d x y Q g h1 h2 e k => by
  cases d1 <;> cases d2 <;> first | cases e | skip
  · exact .inl ⟨_, _, h1.1, h2.1, res0 g k ⟨rfl, rfl⟩⟩
  · simp only [dAdd] at e
    split at e
    · rename_i c
      cases e
      exact .inr (.inl ⟨_, _, h1.1, h2.1, c, res0 g k ⟨rfl, rfl⟩⟩)
    · cases e
  · simp only [dAdd] at e
    split at e
    · rename_i c
      cases e
      obtain ⟨z1, z2, hl⟩ := c
      rw [Rp] at h1 h2
      obtain ⟨a, xs, rfl, s1, r1⟩ := h1
      obtain ⟨b, ys, rfl, s2, r2⟩ := h2
      have r1 := r1.fzs z1
      have r2 := r2.fzs z2
      have l1 := r1.length
      have l2 := r2.length
      refine .inr (.inr (.inl ⟨a, b, xs, ys, rfl, rfl, s1, s2, by omega, fun e1 => ?_, fun _ e2 => ?_, fun _ _ p hp => ?_⟩))
      · subst e1
        have : _ = [] := List.eq_nil_of_length_eq_zero l1
        subst this
        exact res0 g k (by rw [Rp]; exact ⟨b, ys, rfl, s2, r2⟩)
      · subst e2
        have : _ = [] := List.eq_nil_of_length_eq_zero l2
        subst this
        rw [List.append_nil] at k
        exact res0 g k (by rw [Rp]; exact ⟨a, xs, rfl, s1, r1⟩)
      · exact resT g k (r1.append r2) p hp
    · cases e
  · rename_i m1 es m2 fs
    simp only [dAdd] at e
    split at e
    · rename_i c
      cases e
      obtain ⟨z1, z2, hl⟩ := c
      rw [Rp] at h1 h2
      obtain ⟨a, xs, rfl, h1⟩ := h1
      obtain ⟨b, ys, rfl, h2⟩ := h2
      have q1 : H a = some (.lst xs) ∧ RpL K w F H es xs [] := by
        rcases h1 with ⟨_, s, S', _, r⟩ | ⟨_, s, _, r⟩
        · exact ⟨s, r.fzs z1⟩
        · exact ⟨s.2, r⟩
      have q2 : H b = some (.lst ys) ∧ RpL K w F H fs ys [] := by
        rcases h2 with ⟨_, s, S', _, r⟩ | ⟨_, s, _, r⟩
        · exact ⟨s, r.fzs z2⟩
        · exact ⟨s.2, r⟩
      have l1 := q1.2.length
      have l2 := q2.2.length
      exact .inr (.inr (.inr ⟨a, b, xs, ys, rfl, rfl, q1.1, q2.1, by omega, resL g k (q1.2.append q2.2)⟩))
    · cases e
end

/-! ### comparisons -/
def dEq (neg : Bool) (a b : D) : Option D := match a.py, b.py with
  | some p, some q => if SeqAt.shaped p = true ∧ SeqAt.shaped q = true then some (.bl (if neg then !PyData.eqv p q else PyData.eqv p q)) else none
  | _, _ => none
def dLt : D → D → Option D
  | .int a, .int b => some (.bl (decide (a < b)))
  | .str a, .str b => some (.bl (decide (a.cps.toList < b.cps.toList)))
  | _, _ => none
def dCmpI (p : Int → Int → Bool) : D → D → Option D
  | .int a, .int b => some (.bl (p a b))
  | _, _ => none
def dLe : D → D → Option D := dCmpI fun i j => decide (i ≤ j)
def dGt : D → D → Option D := dCmpI fun i j => decide (j < i)
def dGe : D → D → Option D := dCmpI fun i j => decide (j ≤ i)
def dIn (neg : Bool) (x c : D) : Option D := match c with
  | .str s => match x with
    | .str t => some (.bl (if neg then !(!(Builtin.Str.occurrences s t 0 s.length 1).isEmpty) else !(Builtin.Str.occurrences s t 0 s.length 1).isEmpty))
    | _ => none
  | .tup ds => match x.flat, D.flatL ds with
    | some u, some us => some (.bl (if neg then !inV u us else inV u us))
    | _, _ => none
  | .lst _ ds => match x.py, D.pyL ds with
    | some p, some ps => if SeqAt.shaped p = true ∧ SeqAt.shaped (.list ps) = true then some (.bl (if neg then !ps.any (fun z => PyData.eqv z p) else ps.any fun z => PyData.eqv z p)) else none
    | _, _ => none
  | _ => none
def dIsN (neg : Bool) : D → Option D
  | .non => some (.bl (!neg))
  | _ => some (.bl neg)
section
variable {X : Cx} {K : PySem.W.Frag} {w : World}
theorem op2_eq : Op2 K w (rEqD K) (dEq false) := fun F H S1 S2 d1 d2 d x y Q g h1 h2 e k => by
  unfold dEq at e
  split at e
  · rename_i p q e1 e2
    split at e
    · rename_i c
      cases e
      exact ⟨p, q, Rp.dp _ e1 h1, Rp.dp _ e2 h2, c.1, c.2, res0 g k ⟨rfl, rfl⟩⟩
    · cases e
  · cases e
theorem op2_ne : Op2 K w (rNeD K) (dEq true) := fun F H S1 S2 d1 d2 d x y Q g h1 h2 e k => by
  unfold dEq at e
  split at e
  · rename_i p q e1 e2
    split at e
    · rename_i c
      cases e
      exact ⟨p, q, Rp.dp _ e1 h1, Rp.dp _ e2 h2, c.1, c.2, res0 g k ⟨rfl, rfl⟩⟩
    · cases e
  · cases e
def rLtA : R2 := fun x y H Q => (∃ i j, x = .int i ∧ y = .int j ∧ Q (.bl (decide (i < j))) H) ∨ (∃ i j, x = .str i ∧ y = .str j ∧ Q (.bl (decide (i.cps.toList < j.cps.toList))) H)
theorem op_ltA : OpR X (compareOp .Lt) rLtA := op_lt.or op_lt_str
theorem op2_lt : Op2 K w rLtA dLt := fun F H S1 S2 d1 d2 d x y Q g h1 h2 e k => by
  cases d1 <;> cases d2 <;> first | cases e | skip
  · exact .inl ⟨_, _, h1.1, h2.1, res0 g k ⟨rfl, rfl⟩⟩
  · exact .inr ⟨_, _, h1.1, h2.1, res0 g k ⟨rfl, rfl⟩⟩
theorem op2_cmpI (p : Int → Int → Bool) : Op2 K w (rI0 fun i j => .bl (p i j)) (dCmpI p) := fun F H S1 S2 d1 d2 d x y Q g h1 h2 e k => by
  cases d1 <;> cases d2 <;> first | cases e | skip
  exact ⟨_, _, h1.1, h2.1, res0 g k ⟨rfl, rfl⟩⟩
def rInA (K : PySem.W.Frag) : R2 := fun x y H Q => (∃ i j, x = .str i ∧ y = .str j ∧ Q (.bl (!(Builtin.Str.occurrences j i 0 j.length 1).isEmpty)) H) ∨ (rIn K false x y H Q ∨ rInD K x y H Q)
theorem op_inA (hu : X.A.units + 65 < cLine) : OpR X (compareOp .In) (rInA X.K) := op_in_str.or (op_in_seq.or (op_inD hu))
def rNotInA (K : PySem.W.Frag) : R2 := fun x y H Q => (∃ i j, x = .str i ∧ y = .str j ∧ Q (.bl (!(!(Builtin.Str.occurrences j i 0 j.length 1).isEmpty))) H) ∨ (rIn K true x y H Q ∨ rNotInD K x y H Q)
theorem op_notInA (hu : X.A.units + 65 < cLine) : OpR X (compareOp .NotIn) (rNotInA X.K) := op_notIn_str.or (op_notIn_seq.or (op_notInD hu))
theorem in_parts {F : Fset} {H : Hp} {S1 S2 : List Addr} {d1 d2 d : D} {x y : V} {neg : Bool} (h1 : Rp K w F H d1 x S1) (h2 : Rp K w F H d2 y S2) (e : dIn neg d1 d2 = some d) :
    (∃ s t, x = .str t ∧ y = .str s ∧ d = .bl (if neg then !(!(Builtin.Str.occurrences s t 0 s.length 1).isEmpty) else !(Builtin.Str.occurrences s t 0 s.length 1).isEmpty)) ∨
    (∃ a us, y = .ref a ∧ SqT K H a us ∧ flatV x = true ∧ us.all flatV = true ∧ d = .bl (if neg then !inV x us else inV x us)) ∨
    (∃ p ps, Dp K H x p ∧ Dp K H y (.list ps) ∧ SeqAt.shaped p = true ∧ SeqAt.shaped (.list ps) = true ∧ d = .bl (if neg then !ps.any (fun z => PyData.eqv z p) else ps.any fun z => PyData.eqv z p)) := by
  unfold dIn at e
  split at e
  · rename_i s
    split at e
    · rename_i t
      cases e
      exact .inl ⟨s, t, h1.1, h2.1, rfl⟩
    · cases e
  · rename_i ds
    split at e
    · rename_i u us e1 e2
      cases e
      rw [Rp] at h2
      obtain ⟨a, vs, rfl, s, r⟩ := h2
      obtain ⟨rfl, f⟩ := RpL.flat e2 r
      obtain rfl := Rp.flat e1 h1
      exact .inr (.inl ⟨a, _, rfl, s, D.flat_ok e1, f, rfl⟩)
    · cases e
  · rename_i m ds
    split at e
    · rename_i p ps e1 e2
      split at e
      · rename_i c
        cases e
        exact .inr (.inr ⟨p, ps, Rp.dp _ e1 h1, Rp.dp (.lst m ds) (by rw [D.py, e2]) h2, c.1, c.2, rfl⟩)
      · cases e
    · cases e
  · cases e
theorem op2_in : Op2 K w (rInA K) (dIn false) := fun F H S1 S2 d1 d2 d x y Q g h1 h2 e k => by
  rcases in_parts h1 h2 e with ⟨s, t, e1, e2, rfl⟩ | ⟨a, us, e1, s, f1, f2, rfl⟩ | ⟨p, ps, q1, q2, s1, s2, rfl⟩
  · exact .inl ⟨t, s, e1, e2, res0 g k ⟨rfl, rfl⟩⟩
  · exact .inr (.inl ⟨a, us, e1, .inr s, f1, f2, res0 g k ⟨rfl, rfl⟩⟩)
  · exact .inr (.inr ⟨p, ps, q1, q2, s1, s2, res0 g k ⟨rfl, rfl⟩⟩)
theorem op2_notIn : Op2 K w (rNotInA K) (dIn true) := fun F H S1 S2 d1 d2 d x y Q g h1 h2 e k => by
  rcases in_parts h1 h2 e with ⟨s, t, e1, e2, rfl⟩ | ⟨a, us, e1, s, f1, f2, rfl⟩ | ⟨p, ps, q1, q2, s1, s2, rfl⟩
  · exact .inl ⟨t, s, e1, e2, res0 g k ⟨rfl, rfl⟩⟩
  · exact .inr (.inl ⟨a, us, e1, .inr s, f1, f2, res0 g k ⟨rfl, rfl⟩⟩)
  · exact .inr (.inr ⟨p, ps, q1, q2, s1, s2, res0 g k ⟨rfl, rfl⟩⟩)
def D.isNon : D → Bool
  | .non => true
  | _ => false
theorem non_iff {F : Fset} {H : Hp} {S : List Addr} {d : D} {x : V} (h : Rp K w F H d x S) : decide (x = .non) = d.isNon := by
  cases d with
  | non => obtain rfl := h.1; rfl
  | bl b => obtain rfl := h.1; rfl
  | int b => obtain rfl := h.1; rfl
  | str b => obtain rfl := h.1; rfl
  | tup ds => rw [Rp] at h; obtain ⟨a, vs, rfl, _⟩ := h; rfl
  | lst m ds => rw [Rp] at h; obtain ⟨a, vs, rfl, _⟩ := h; rfl
  | dic m kvs => rw [Rp] at h; obtain ⟨a, _, _, _, rfl, _⟩ := h; rfl
  | obj m c fs => rw [Rp] at h; obtain ⟨a, _, _, rfl, _⟩ := h; rfl
  | scr ns => rw [Rp] at h; obtain ⟨a, rfl, _⟩ := h; rfl
def rIsN : V → Hp → VK → Prop := fun x H Q => Q (.bl (decide (x = .non))) H
def rNotN : V → Hp → VK → Prop := fun x H Q => Q (.bl (!decide (x = .non))) H
theorem op1_isN : Op1 K w rIsN (dIsN false) := fun F H S1 d1 d x Q g h1 e k => by
  show Q (.bl (decide (x = .non))) H
  rw [non_iff h1]
  refine res0 g k ?_
  cases d1 <;> (cases e; exact ⟨rfl, rfl⟩)
theorem op1_notN : Op1 K w rNotN (dIsN true) := fun F H S1 d1 d x Q g h1 e k => by
  show Q (.bl (!decide (x = .non))) H
  rw [non_iff h1]
  refine res0 g k ?_
  cases d1 <;> (cases e; exact ⟨rfl, rfl⟩)
end
end Pl
set_option Elab.async false
set_option linter.all false
set_option maxRecDepth 100000
set_option maxHeartbeats 1000000
/-! Pl: expressions by their syntax. -/
namespace Pl
open PySem PySem.Spec PyProof.Rows L2

/-- on the answer of a test -/
def onB {β : Type} (k : Bool → Env → R β) (d : D) (e : Env) : R β := match d with
  | .bl b => k b e
  | _ => .fail
def mAnd (a b : M D) : M D := fun e => (a e).bind (onB fun c e1 => if c = true then b e1 else .ok (.bl false) e1)
def mOr (a b : M D) : M D := fun e => (a e).bind (onB fun c e1 => if c = true then .ok (.bl true) e1 else b e1)
def mNot (a : M D) : M D := fun e => (a e).bind (onB fun c e1 => .ok (.bl (!c)) e1)
def mIte (c a b : M D) : M D := fun e => (c e).bind (onB fun t e1 => if t = true then a e1 else b e1)
/-- a op b op' c, b reckoned once -/
def mChain (f f' : D → D → Option D) (a b c : M D) : M D := fun e => (a e).bind fun x e1 => (b e1).bind fun y e2 => (R.of (f x.frz y.frz) e2).bind (onB fun k e3 => if k = true then (c e3).bind fun z e4 => R.of (f' y.frz z.frz) e4 else .ok (.bl false) e3)
def mTup (ms : M (List D)) : M D := fun e => (ms e).bind fun ds e1 => if ds.length ≤ sizeLine then .ok (.tup ds) e1 else .fail
def mLst (ms : M (List D)) : M D := fun e => (ms e).bind fun ds e1 => if ds.length ≤ sizeLine then .ok (.lst true ds) e1 else .fail
def D.items : D → Option (List D)
  | .tup ds => some ds
  | .lst _ ds => some ds
  | _ => none
def mStar (m : M D) (ms : M (List D)) : M (List D) := fun e => (m e).bind fun d e1 => (R.of d.frz.items e1).bind fun xs e2 => (ms e2).bind fun ds e3 => .ok (xs ++ ds) e3

section
variable {X : Cx} {W : WX} {F F1 : Fset} {H H1 : Hp} {S S1 : List Addr} {σ : L2.St} {e : Env} {ds : List D} {vs : List V}
theorem bindB {β : Type} {m : M D} {k : Bool → Env → R β} {G : β → Env → Prop} (A : At X.K X.w F1 H1 e σ ds vs S1) (st : Step F H S F1 H1 S1) (h : Pst X W F H S σ ((m e).bind (onB k)) G) :
    tT X W m σ H1 fun b H2 => ∃ F2 e2 S2, Step F H S F2 H2 S2 ∧ At X.K X.w F2 H2 e2 σ ds vs S2 ∧ Pst X W F H S σ (k b e2) G := by
  refine bindT (k := fun d e' => onB k d e') A st ?_
  cases r : m e with
  | ok d e' =>
    rw [r] at h
    cases d <;> first | exact h | exact h.elim
  | exc x e' => rw [r] at h; exact h
  | fail => rw [r] at h; exact h
/-- a test read as a value -/
theorem tT_tE {m : M D} {Q : Bool → Hp → Prop} (h : tT X W m σ H Q) : tE X W m σ H fun x H' => ∃ k, x = .bl k ∧ Q k H' := by
  obtain ⟨F, e, S, A, q⟩ := h
  refine ⟨F, e, S, A, q.mono fun d e' k v F' H' S' st B => ?_⟩
  obtain ⟨S3, S4, rfl, r, B'⟩ := B.nth0
  cases d with
  | bl b =>
    obtain ⟨T, B2, st2⟩ := B.pop
    exact ⟨b, r.1, k F' H' T (st.trans st2) B2⟩
  | _ => exact k.elim
end

section
variable {X : Cx} {W : WX} {a b c : Expr} {pos : Pos} {ma mb mc : M D}
/-- an expression that gives True or False, as a test -/
theorem dT_of {e : Expr} {m : M D} (h : PE X e (tE X W m)) (he : ∀ whole, isTrue e X.env whole = (do let v ← whole; standAt e.pos; holding [v] (truthy v)) := by intro _; rfl) : PT X e (tT X W m) :=
  PTimp (pt_val h he) fun σ H Q q => tT_tE q
theorem tT_and : ∀ σ H Q, tT X W (mAnd ma mb) σ H Q → tAnd (tT X W ma) (tT X W mb) σ H Q := fun σ H Q q => by
  obtain ⟨F, e, S, A, q⟩ := q
  obtain ⟨F1, e1, S1, A1, q1⟩ := bindB A (Step.refl A.good) q
  refine ⟨F1, e1, S1, A1, q1.mono fun d e2 k => ?_⟩
  cases d with
  | bl t =>
    intro F' H' S' st B
    obtain ⟨F2, e3, S2, st2, A2, q2⟩ := k F' H' S' st B
    cases t with
    | true =>
      rw [if_pos rfl] at q2 ⊢
      refine ⟨F2, e3, S2, A2, ?_⟩
      cases r : mb e3 with
      | ok d e4 =>
        rw [r] at q2
        cases d with
        | bl t => exact fun F' H' S' st B => q2 F' H' S' (st2.trans st) B
        | _ => exact q2.elim
      | exc x e4 => rw [r] at q2; exact fun cls dd F' H' S' st B => q2 cls dd F' H' S' (st2.trans st) B
      | fail => rw [r] at q2; exact q2
    | false =>
      rw [if_neg Bool.false_ne_true] at q2 ⊢
      exact q2 F2 H' S2 st2 A2
  | _ => exact k
/-- from one state to a later one -/
theorem Pst.later {α : Type} {r : R α} {F F' : Fset} {H H' : Hp} {S S' : List Addr} {σ : L2.St} {G G' : α → Env → Prop} (h : Pst X W F H S σ r G) (st : Step F H S F' H' S') (k : ∀ a e, G a e → G' a e) : Pst X W F' H' S' σ r G' := by
  cases r with
  | ok a e => exact k a e h
  | exc x e => exact fun cls dd F2 H2 S2 st2 B => h cls dd F2 H2 S2 (st.trans st2) B
  | fail => exact h
theorem tT_later {m : M D} {F F' : Fset} {H H' : Hp} {S S' : List Addr} {σ : L2.St} {e : Env} {Q : Bool → Hp → Prop} (A : At X.K X.w F' H' e σ [] [] S') (st : Step F H S F' H' S')
    (h : Pst X W F H S σ (m e) fun d e' => match d with
    | .bl b => ∀ F' H' S', Step F H S F' H' S' → At X.K X.w F' H' e' σ [] [] S' → Q b H'
    | _ => False) : tT X W m σ H' Q := ⟨F', e, S', A, h.later st fun d e' k => by
  cases d with
  | bl t => exact fun F2 H2 S2 st2 B => k F2 H2 S2 (st.trans st2) B
  | _ => exact k⟩
theorem tE_later {m : M D} {F F' : Fset} {H H' : Hp} {S S' : List Addr} {σ : L2.St} {e : Env} {Q : VK} (A : At X.K X.w F' H' e σ [] [] S') (st : Step F H S F' H' S')
    (h : Pst X W F H S σ (m e) fun d e' => ∀ v F' H' S', Step F H S F' H' S' → At X.K X.w F' H' e' σ [d] [v] S' → Q v H') : tE X W m σ H' Q := ⟨F', e, S', A, h.later st fun d e' k v F2 H2 S2 st2 B => k v F2 H2 S2 (st.trans st2) B⟩
theorem tT_or : ∀ σ H Q, tT X W (mOr ma mb) σ H Q → tOr (tT X W ma) (tT X W mb) σ H Q := fun σ H Q q => by
  obtain ⟨F, e, S, A, q⟩ := q
  obtain ⟨F1, e1, S1, A1, q1⟩ := bindB A (Step.refl A.good) q
  refine ⟨F1, e1, S1, A1, q1.mono fun d e2 k => ?_⟩
  cases d with
  | bl t =>
    intro F' H' S' st B
    obtain ⟨F2, e3, S2, st2, A2, q2⟩ := k F' H' S' st B
    cases t with
    | true =>
      rw [if_pos rfl] at q2 ⊢
      exact q2 F2 H' S2 st2 A2
    | false =>
      rw [if_neg Bool.false_ne_true] at q2 ⊢
      exact tT_later A2 st2 q2
  | _ => exact k
theorem tT_not : ∀ σ H Q, tT X W (mNot ma) σ H Q → tNot (tT X W ma) σ H Q := fun σ H Q q => by
  obtain ⟨F, e, S, A, q⟩ := q
  obtain ⟨F1, e1, S1, A1, q1⟩ := bindB A (Step.refl A.good) q
  refine ⟨F1, e1, S1, A1, q1.mono fun d e2 k => ?_⟩
  cases d with
  | bl t =>
    intro F' H' S' st B
    obtain ⟨F2, e3, S2, st2, A2, q2⟩ := k F' H' S' st B
    exact q2 F2 H' S2 st2 A2
  | _ => exact k
theorem dW_and1 (ha : PT X a (tT X W ma)) : PW X (.BoolOp .And [a] pos) (tT X W ma) := pw_and1 ha
theorem dW_or1 (ha : PT X a (tT X W ma)) : PW X (.BoolOp .Or [a] pos) (tT X W ma) := pw_or1 ha
theorem dW_and {rest : List Expr} (ha : PT X a (tT X W ma)) (hb : PW X (.BoolOp .And (b :: rest) pos) (tT X W mb)) : PW X (.BoolOp .And (a :: b :: rest) pos) (tT X W (mAnd ma mb)) := PWimp (pw_and ha hb) tT_and
theorem dW_or {rest : List Expr} (ha : PT X a (tT X W ma)) (hb : PW X (.BoolOp .Or (b :: rest) pos) (tT X W mb)) : PW X (.BoolOp .Or (a :: b :: rest) pos) (tT X W (mOr ma mb)) := PWimp (pw_or ha hb) tT_or
theorem dT_not (ha : PT X a (tT X W ma)) : PT X (.UnaryOp .Not a pos) (tT X W (mNot ma)) := PTimp (pt_not ha) tT_not
/-- as values -/
theorem dE_one {op} (h : PE X a (tE X W ma)) : PE X (.BoolOp op [a] pos) (tE X W ma) := pe_one h
theorem dE_and {rest : List Expr} (ha : PE X a (tE X W ma)) (hb : PE X (.BoolOp .And (b :: rest) pos) (tE X W mb)) : PE X (.BoolOp .And (a :: b :: rest) pos) (tE X W (mAnd ma mb)) :=
  PEimp (pe_and ha hb) fun σ H Q q => by
  obtain ⟨F, e, S, A, q⟩ := q
  refine tT_tE (Q := fun t H1 => if t = true then tE X W mb σ H1 Q else Q (.bl false) H1) ?_
  obtain ⟨F1, e1, S1, A1, q1⟩ := bindB A (Step.refl A.good) q
  refine ⟨F1, e1, S1, A1, q1.mono fun d e2 k => ?_⟩
  cases d with
  | bl t =>
    intro F' H' S' st B
    obtain ⟨F2, e3, S2, st2, A2, q2⟩ := k F' H' S' st B
    cases t with
    | true =>
      rw [if_pos rfl] at q2 ⊢
      exact tE_later A2 st2 q2
    | false =>
      rw [if_neg Bool.false_ne_true] at q2 ⊢
      exact q2 _ F2 H' S2 st2 (A2.push0 ⟨rfl, rfl⟩)
  | _ => exact k
theorem dE_or {rest : List Expr} (ha : PE X a (tE X W ma)) (hb : PE X (.BoolOp .Or (b :: rest) pos) (tE X W mb)) : PE X (.BoolOp .Or (a :: b :: rest) pos) (tE X W (mOr ma mb)) :=
  PEimp (pe_or ha hb) fun σ H Q q => by
  obtain ⟨F, e, S, A, q⟩ := q
  refine tT_tE (Q := fun t H1 => if t = true then Q (.bl true) H1 else tE X W mb σ H1 Q) ?_
  obtain ⟨F1, e1, S1, A1, q1⟩ := bindB A (Step.refl A.good) q
  refine ⟨F1, e1, S1, A1, q1.mono fun d e2 k => ?_⟩
  cases d with
  | bl t =>
    intro F' H' S' st B
    obtain ⟨F2, e3, S2, st2, A2, q2⟩ := k F' H' S' st B
    cases t with
    | true =>
      rw [if_pos rfl] at q2 ⊢
      exact q2 _ F2 H' S2 st2 (A2.push0 ⟨rfl, rfl⟩)
    | false =>
      rw [if_neg Bool.false_ne_true] at q2 ⊢
      exact tE_later A2 st2 q2
  | _ => exact k
theorem dE_not (ha : PE X a (tE X W ma)) : PE X (.UnaryOp .Not a pos) (tE X W (mNot ma)) :=
  PEimp (pe_not ha) fun σ H Q q => by
  obtain ⟨F, e, S, A, q⟩ := q
  refine tT_tE (Q := fun t H1 => Q (.bl (!t)) H1) ?_
  obtain ⟨F1, e1, S1, A1, q1⟩ := bindB A (Step.refl A.good) q
  refine ⟨F1, e1, S1, A1, q1.mono fun d e2 k => ?_⟩
  cases d with
  | bl t =>
    intro F' H' S' st B
    obtain ⟨F2, e3, S2, st2, A2, q2⟩ := k F' H' S' st B
    exact q2 _ F2 H' S2 st2 (A2.push0 ⟨rfl, rfl⟩)
  | _ => exact k
theorem dE_ite (hc : PT X c (tT X W mc)) (ha : PE X a (tE X W ma)) (hb : PE X b (tE X W mb)) : PE X (.IfExp c a b pos) (tE X W (mIte mc ma mb)) :=
  PEimp (pe_ifExp hc ha hb) fun σ H Q q => by
  obtain ⟨F, e, S, A, q⟩ := q
  obtain ⟨F1, e1, S1, A1, q1⟩ := bindB A (Step.refl A.good) q
  refine ⟨F1, e1, S1, A1, q1.mono fun d e2 k => ?_⟩
  cases d with
  | bl t =>
    intro F' H' S' st B
    obtain ⟨F2, e3, S2, st2, A2, q2⟩ := k F' H' S' st B
    cases t with
    | true => exact tE_later A2 st2 q2
    | false => exact tE_later A2 st2 q2
  | _ => exact k

/-! ### operators -/
theorem dE_bop {op : Operator} {r : R2} {f : D → D → Option D} (ho : OpR X (binaryOp op) r) (hf : Op2 X.K X.w r f) (ha : PE X a (tE X W ma)) (hb : PE X b (tE X W mb)) : PE X (.BinOp a op b pos) (tE X W (mBin f ma mb)) := PEimp (pe_op ho ha hb) (tE_op2 hf)
theorem dE_add (ha : PE X a (tE X W ma)) (hb : PE X b (tE X W mb)) : PE X (.BinOp a .Add b pos) (tE X W (mBin dAdd ma mb)) := dE_bop op_addA op2_add ha hb
theorem dE_sub (ha : PE X a (tE X W ma)) (hb : PE X b (tE X W mb)) : PE X (.BinOp a .Sub b pos) (tE X W (mBin dSub ma mb)) := dE_bop op_sub op2_sub ha hb
theorem dE_fdiv (ha : PE X a (tE X W ma)) (hb : PE X b (tE X W mb)) : PE X (.BinOp a .FloorDiv b pos) (tE X W (mBin dDiv ma mb)) := dE_bop op_fdiv op2_div ha hb
theorem dE_mod (ha : PE X a (tE X W ma)) (hb : PE X b (tE X W mb)) : PE X (.BinOp a .Mod b pos) (tE X W (mBin dMod ma mb)) := dE_bop op_mod op2_mod ha hb
theorem dE_pow (ha : PE X a (tE X W ma)) (hb : PE X b (tE X W mb)) : PE X (.BinOp a .Pow b pos) (tE X W (mBin dPow ma mb)) := dE_bop op_pow op2_pow ha hb
theorem dE_neg (ha : PE X a (tE X W ma)) : PE X (.UnaryOp .USub a pos) (tE X W (mUn dNeg ma)) := PEimp (pe_un un_neg ha) (tE_op1 op1_neg)
theorem dE_cmp {op : CmpOp} {r : R2} {f : D → D → Option D} (ho : OpR X (compareOp op) r) (hf : Op2 X.K X.w r f) (ha : PE X a (tE X W ma)) (hb : PE X b (tE X W mb)) (hm : behindInMarks op b = false) : PE X (.Compare a [op] [b] pos) (tE X W (mBin f ma mb)) := PEimp (pe_cmpR ho ha hb hm) (tE_op2 hf)
theorem dT_cmp {op : CmpOp} {r : R2} {f : D → D → Option D} (ho : OpR X (compareOp op) r) (hf : Op2 X.K X.w r f) (ha : PE X a (tE X W ma)) (hb : PE X b (tE X W mb)) (hm : behindInMarks op b = false) : PT X (.Compare a [op] [b] pos) (tT X W (mBin f ma mb)) := PTimp (pt_cmpR ho ha hb hm) fun σ H Q q => tE_op2 hf _ _ _ (tT_tE q)
/-- the left one looked at where it is -/
theorem dE_cmpL {x : Str} {p : Pos} {op : CmpOp} {r : R2} {f : D → D → Option D} (ho : OpR X (compareOp op) r) (hf : Op2 X.K X.w r f) (i : Nat) (hp : PE X (.Name x p) (tVar i)) (hb : PE X b (tE X W mb)) (hm : behindInMarks op b = false) : PE X (.Compare (.Name x p) [op] [b] pos) (tE X W (mBinL f i mb)) := PEimp (pe_cmpR ho hp hb hm) (tE_binL hf)
theorem dT_cmpL {x : Str} {p : Pos} {op : CmpOp} {r : R2} {f : D → D → Option D} (ho : OpR X (compareOp op) r) (hf : Op2 X.K X.w r f) (i : Nat) (hp : PE X (.Name x p) (tVar i)) (hb : PE X b (tE X W mb)) (hm : behindInMarks op b = false) : PT X (.Compare (.Name x p) [op] [b] pos) (tT X W (mBinL f i mb)) := PTimp (pt_cmpR ho hp hb hm) fun σ H Q q => tE_binL hf _ _ _ (tT_tE q)
/-- the right one looked at where it is -/
theorem dE_cmpP {x : Str} {p : Pos} {op : CmpOp} {r : R2} {f : D → D → Option D} (ho : OpR X (compareOp op) r) (hf : Op2 X.K X.w r f) (i : Nat) (ha : PE X a (tE X W ma)) (hp : PE X (.Name x p) (tVar i)) (hm : behindInMarks op (.Name x p) = false) : PE X (.Compare a [op] [.Name x p] pos) (tE X W (mBinR f ma i)) := PEimp (pe_cmpR ho ha hp hm) (tE_binR hf)
theorem dT_cmpP {x : Str} {p : Pos} {op : CmpOp} {r : R2} {f : D → D → Option D} (ho : OpR X (compareOp op) r) (hf : Op2 X.K X.w r f) (i : Nat) (ha : PE X a (tE X W ma)) (hp : PE X (.Name x p) (tVar i)) (hm : behindInMarks op (.Name x p) = false) : PT X (.Compare a [op] [.Name x p] pos) (tT X W (mBinR f ma i)) := PTimp (pt_cmpR ho ha hp hm) fun σ H Q q => tE_binR hf _ _ _ (tT_tE q)
/-- is None -/
theorem dE_isN {j pos'} (ha : PE X a (tE X W ma)) : PE X (.Compare a [.Is] [.Constant .none j pos'] pos) (tE X W (mUn (dIsN false) ma)) := PEimp (pe_cmp (pc_isN ha)) (tE_op1 (r := rIsN) op1_isN)
theorem dE_notN {j pos'} (ha : PE X a (tE X W ma)) : PE X (.Compare a [.IsNot] [.Constant .none j pos'] pos) (tE X W (mUn (dIsN true) ma)) := PEimp (pe_cmp (pc_notN ha)) (tE_op1 (r := rNotN) op1_notN)
theorem dT_isN {j pos'} (ha : PE X a (tE X W ma)) : PT X (.Compare a [.Is] [.Constant .none j pos'] pos) (tT X W (mUn (dIsN false) ma)) := PTimp (pt_cmp (pc_isN ha)) fun σ H Q q => tE_op1 (r := rIsN) op1_isN _ _ _ (tT_tE q)
theorem dT_notN {j pos'} (ha : PE X a (tE X W ma)) : PT X (.Compare a [.IsNot] [.Constant .none j pos'] pos) (tT X W (mUn (dIsN true) ma)) := PTimp (pt_cmp (pc_notN ha)) fun σ H Q q => tE_op1 (r := rNotN) op1_notN _ _ _ (tT_tE q)
/-! ### displays -/
theorem dE_tup {es : List Expr} {ms : M (List D)} {x1} (h : PA X es (tA X W ms)) : PE X (.Tuple es x1 pos) (tE X W (mTup ms)) := PEimp (pe_tup h) fun σ H Q q => by
  obtain ⟨F, e, S, A, q⟩ := q
  obtain ⟨F1, e1, S1, A1, q1⟩ := bindA A (Step.refl A.good) q
  refine ⟨F1, e1, S1, A1, q1.mono fun ds e2 k vs F' H' S' st B => ?_⟩
  obtain ⟨es, F2, e3, S2, st2, A2, hl, q2⟩ := k vs F' H' S' st B
  split at q2
  · rename_i hz
    refine ⟨by rw [← hl]; exact hz, fun p hp => ?_⟩
    obtain ⟨Sd, Se, rfl, hd, he, g⟩ := A2
    rw [List.append_nil, List.append_nil] at hd
    refine q2 _ F2 _ _ (st2.trans (Step.new g hp)) ⟨Sd, Se, rfl, ?_, he.stay (Stays.new hp), g.new hp⟩
    have r : Rp X.K X.w F2 (upd H' p (.tup vs)) (.tup es) (.ref p) Sd := by rw [Rp]; exact ⟨p, vs, rfl, SqT.of upd_same, RpL.stay _ (Stays.new hp) hd⟩
    have z := RpL.cons r (RpL.nil)
    rw [List.append_nil] at z
    exact z
  · exact q2.elim
theorem dE_lst {es : List Expr} {ms : M (List D)} (h : PA X es (tA X W ms)) : PE X (.List es pos) (tE X W (mLst ms)) := PEimp (pe_lst h) fun σ H Q q => by
  obtain ⟨F, e, S, A, q⟩ := q
  obtain ⟨F1, e1, S1, A1, q1⟩ := bindA A (Step.refl A.good) q
  refine ⟨F1, e1, S1, A1, q1.mono fun ds e2 k vs F' H' S' st B => ?_⟩
  obtain ⟨es, F2, e3, S2, st2, A2, hl, q2⟩ := k vs F' H' S' st B
  split at q2
  · rename_i hz
    refine ⟨by rw [← hl]; exact hz, fun p hp => ?_⟩
    obtain ⟨Sd, Se, rfl, hd, he, g⟩ := A2
    rw [List.append_nil, List.append_nil] at hd
    have st3 := Step.newO (o := .lst vs) g hp trivial
    refine q2 _ F2 _ _ (st2.trans st3) ⟨p :: Sd, Se, rfl, ?_, he.stay (Stays.new hp), st3.good⟩
    have r : Rp X.K X.w F2 (upd H' p (.lst vs)) (.lst true es) (.ref p) (p :: Sd) := by rw [Rp]; exact ⟨p, vs, rfl, .inl ⟨rfl, upd_same, Sd, rfl, RpL.stay _ (Stays.new hp) hd⟩⟩
    have z := RpL.cons r (RpL.nil)
    rw [List.append_nil] at z
    exact z
  · exact q2.elim
theorem dA_star {es : List Expr} {ms : M (List D)} {p : Pos} (ha : PE X a (tE X W ma)) (hr : PA X es (tA X W ms)) (hs : starEach (.Starred a p :: es) X.env = (true, eval a X.env) :: starEach es X.env := by rfl) : PA X (.Starred a p :: es) (tA X W (mStar ma ms)) :=
  PAimp (StX.pa_star ha hr hs) fun σ H Q q => by
  obtain ⟨F, e, S, A, q⟩ := q
  obtain ⟨F1, e1, S1, A1, q1⟩ := bindE A (Step.refl A.good) q
  refine ⟨F1, e1, S1, A1, q1.mono fun x e2 k v F' H' S' st B => ?_⟩
  obtain ⟨d1, F2, e3, S2, st2, A2, q2⟩ := k v F' H' S' st B
  obtain ⟨F3, T3, st3, r3, A3⟩ := A2.freeze
  cases ei : d1.frz.items with
  | none => rw [ei] at q2; exact q2.elim
  | some xs =>
    rw [ei] at q2
    have hseq : d1.frz = .tup xs ∨ ∃ m, d1.frz = .lst m xs := by
      cases q : d1.frz <;> rw [q] at ei <;> first | (cases ei; exact .inl rfl) | (cases ei; exact .inr ⟨_, rfl⟩) | cases ei
    obtain ⟨p', us, S', e1', hs', r'⟩ := Rp.seq hseq r3
    have fz : D.fzL xs = true := by
      have z := D.frz_fz d1
      rcases hseq with q | ⟨m, q⟩
      · rw [q, D.fz] at z; exact z
      · rw [q, D.fz, Bool.and_eq_true] at z; exact z.2
    obtain rfl := RpL.fz_nil xs fz r'
    refine ⟨p', us, e1', hs'.symm, ?_⟩
    obtain ⟨F4, e4, S4, A4, q4⟩ := bindA2 (m := ms) (k := fun ds e4 => R.ok (xs ++ ds) e4) A3 (st2.trans st3) q2
    refine ⟨F4, e4, S4, A4, q4.mono fun y e5 k2 ws F5 H5 S5 st5 B5 => ?_⟩
    obtain ⟨es', F6, e6, S6, st6, st7, A6, hl, q6⟩ := k2 ws F5 H5 S5 st5 B5
    obtain ⟨Sd, Se, rfl, hd, he, g⟩ := A6
    rw [List.append_nil, List.append_nil] at hd
    have r6 : RpL X.K X.w F6 H5 xs us [] := RpL.stay _ (st7.stays (R := []) A3.good) r'
    have z := r6.append hd
    rw [List.nil_append] at z
    exact q6 (us ++ ws) F6 H5 _ st6 ⟨Sd, Se, rfl, z, he, g⟩
end
end Pl
set_option Elab.async false
set_option linter.all false
set_option maxRecDepth 100000
set_option maxHeartbeats 1000000
/-! Pl: subscripts, slices, fields, built-ins. -/
namespace Pl
open PySem PySem.Spec PyProof.Rows L2

/-! ### x[i] -/
/-- an item: it must be frozen -/
def dIdx (c k : D) : Option D := match k with
  | .int i => match c with
    | .tup ds => (atI ds i).bind fun d => if d.fz = true then some d else none
    | .lst _ ds => (atI ds i).bind fun d => if d.fz = true then some d else none
    | .str x => if x.length ≤ sizeLine then (atI x.cps.toList i).map fun c => .str ⟨#[c]⟩ else none
    | _ => none
  | _ => none
section
variable {X : Cx} {W : WX} {K : PySem.W.Frag} {w : World} {F : Fset} {H : Hp}
theorem RpL.getS : ∀ {ds : List D} {vs : List V} {S : List Addr} {j : Nat} {d : D}, RpL K w F H ds vs S → ds[j]? = some d → ∃ v S1, vs[j]? = some v ∧ Rp K w F H d v S1
  | [], _, _, _, _, _, g => by simp at g
  | d :: ds, vs, S, 0, d', h, g => by
    obtain ⟨v, r, S1, S2, rfl, rfl, h1, h2⟩ := h.uncons
    simp at g; subst g
    exact ⟨v, S1, rfl, h1⟩
  | d :: ds, vs, S, j + 1, d', h, g => by
    obtain ⟨v, r, S1, S2, rfl, rfl, h1, h2⟩ := h.uncons
    obtain ⟨v', S3, q1, q2⟩ := RpL.getS (j := j) h2 (by simpa using g)
    exact ⟨v', S3, by simpa using q1, q2⟩
theorem RpL.atI {ds : List D} {vs : List V} {S : List Addr} {i : Int} {d : D} (h : RpL K w F H ds vs S) (g : atI ds i = some d) : ∃ v S1, L2.atI vs i = some v ∧ Rp K w F H d v S1 := by
  unfold L2.atI at g ⊢
  rw [← h.length]
  cases e : ixN ds.length i with
  | none => rw [e] at g; cases g
  | some j =>
    rw [e] at g
    exact h.getS g
theorem op2_idx : Op2 K w (rIx K) dIdx := fun F H S1 S2 d1 d2 d x y Q g h1 h2 e k => by
  unfold dIdx at e
  split at e
  · rename_i i
    obtain rfl := h2.1
    split at e
    · rename_i ds
      cases q : atI ds i with
      | none => rw [q] at e; cases e
      | some d' =>
        rw [q] at e
        simp only [Option.bind_some] at e
        split at e
        · rename_i z
          cases e
          rw [Rp] at h1
          obtain ⟨a, vs, rfl, s, r⟩ := h1
          obtain ⟨v, S3, q1, q2⟩ := r.atI q
          obtain rfl := Rp.fz_nil _ z q2
          exact .inr (.inl ⟨a, vs, i, v, rfl, rfl, s, q1, res0 g k q2⟩)
        · cases e
    · rename_i m ds
      cases q : atI ds i with
      | none => rw [q] at e; cases e
      | some d' =>
        rw [q] at e
        simp only [Option.bind_some] at e
        split at e
        · rename_i z
          cases e
          obtain ⟨a, vs, S', rfl, s, r⟩ := Rp.seq (.inr ⟨m, rfl⟩) h1
          obtain ⟨v, S3, q1, q2⟩ := r.atI q
          obtain rfl := Rp.fz_nil _ z q2
          rcases s with s | s
          · exact .inl ⟨a, vs, i, v, rfl, rfl, s, q1, res0 g k q2⟩
          · exact .inr (.inl ⟨a, vs, i, v, rfl, rfl, s, q1, res0 g k q2⟩)
        · cases e
    · rename_i z
      split at e
      · rename_i hz
        cases q : atI z.cps.toList i with
        | none => rw [q] at e; cases e
        | some c =>
          rw [q] at e
          cases e
          exact .inr (.inr ⟨z, i, c, h1.1, rfl, hz, q, res0 g k ⟨rfl, rfl⟩⟩)
      · cases e
    · cases e
  · cases e
variable {a b : Expr} {pos : Pos} {ma mb : M D}
theorem dE_idx (ha : PE X a (tE X W ma)) (hb : PE X b (tE X W mb)) (hs : PlainIx b := by exact fun _ _ => rfl) : PE X (.Subscript a b pos) (tE X W (mBin dIdx ma mb)) := PEimp (pe_ix ix_seq ha hb hs) (tE_op2 op2_idx)
/-- x[i], x looked at where it is -/
theorem dE_idxL {x : Str} {p : Pos} (i : Nat) (hp : PE X (.Name x p) (tVar i)) (hb : PE X b (tE X W mb)) (hs : PlainIx b := by exact fun _ _ => rfl) : PE X (.Subscript (.Name x p) b pos) (tE X W (mBinL dIdx i mb)) := PEimp (pe_ix ix_seq hp hb hs) (tE_binL op2_idx)
end

/-! ### x[i:j] -/
def D.opt : D → Option (Option Int)
  | .int i => some (some i)
  | _ => none
def mNoPart : M (Option Int) := fun e => .ok none e
def mPart (m : M D) : M (Option Int) := fun e => (m e).bind fun d e1 => match d with
  | .int i => .ok (some i) e1
  | _ => .fail
def cutD (ds : List D) (lo hi : Option Int) : List D := (ds.drop (HT.sIx ds.length 0 lo)).take (HT.sIx ds.length ds.length hi - HT.sIx ds.length 0 lo)
def dCut (d : D) (lo hi : Option Int) : Option D := match d with
  | .tup ds => some (.tup (cutD ds lo hi))
  | .lst _ ds => some (.lst true (cutD ds lo hi))
  | _ => none
def mSlice (a : M D) (lo hi : M (Option Int)) : M D := fun e => (a e).bind fun x e1 => (lo e1).bind fun l e2 => (hi e2).bind fun u e3 => R.of (dCut x.frz l u) e3
def tO (X : Cx) (W : WX) (m : M (Option Int)) : TO := fun σ H Q => ∃ F e S, At X.K X.w F H e σ [] [] S ∧
  Pst X W F H S σ (m e) fun o e' => ∀ F' H' S', Step F H S F' H' S' → At X.K X.w F' H' e' σ [] [] S' → Q o H'
section
variable {X : Cx} {W : WX} {K : PySem.W.Frag} {w : World} {F F1 : Fset} {H H1 : Hp} {S S1 : List Addr} {σ : L2.St} {e : Env} {ds : List D} {vs : List V}
theorem bindO {β : Type} {m : M (Option Int)} {k : Option Int → Env → R β} {G : β → Env → Prop} (A : At X.K X.w F1 H1 e σ ds vs S1) (st : Step F H S F1 H1 S1) (h : Pst X W F H S σ ((m e).bind k) G) :
    tO X W m σ H1 fun o H2 => ∃ F2 e2 S2, Step F H S F2 H2 S2 ∧ At X.K X.w F2 H2 e2 σ ds vs S2 ∧ Pst X W F H S σ (k o e2) G := by
  obtain ⟨Sd, Se, rfl, hd, he, g⟩ := A
  refine ⟨F1, e, Se, ⟨[], Se, rfl, RpL.nil, he, g.right⟩, ?_⟩
  cases r : m e with
  | ok o e' =>
    rw [r] at h
    intro F' H' S' s a
    obtain ⟨_, Se', rfl, q0, q3, _⟩ := a
    obtain rfl := q0.2
    have fr := s.frame g
    exact ⟨F', e', Sd ++ Se', st.trans fr, ⟨Sd, Se', rfl, RpL.stay ds (s.stays g) hd, q3, fr.good⟩, h⟩
  | exc x e' =>
    rw [r] at h
    intro cls dd F' H' S' s a q
    exact h cls dd F' H' S' ((st.trans (s.frame g)).subR (fun c hc => List.mem_append_right _ hc) a.good.nd) a q
  | fail => rw [r] at h; exact h.elim
theorem poImp {o : Option Expr} {t t' : TO} (h : PO X o t) (k : ∀ σ H Q, t' σ H Q → t σ H Q) : PO X o t' := by
  cases h with
  | mk r => exact ⟨fun pins s σ H Q I q => r pins s σ H Q I (k σ H Q q)⟩
theorem dO_none : PO X none (tO X W mNoPart) := poImp po_none fun σ H Q q => by
  obtain ⟨F, e, S, A, q⟩ := q
  exact q F H S (Step.refl A.good) A
theorem dO_some {a : Expr} {m : M D} (h : PE X a (tE X W m)) : PO X (some a) (tO X W (mPart m)) := poImp (po_some h) fun σ H Q q => by
  obtain ⟨F, e, S, A, q⟩ := q
  obtain ⟨F1, e1, S1, A1, q1⟩ := bindE A (Step.refl A.good) q
  refine ⟨F1, e1, S1, A1, q1.mono fun x e2 k v F' H' S' st B => ?_⟩
  obtain ⟨d1, F2, e3, S2, st2, A2, q2⟩ := k v F' H' S' st B
  cases d1 with
  | int i =>
    obtain ⟨S3, S4, rfl, r, B'⟩ := A2.nth0
    obtain ⟨T, B2, st3⟩ := A2.pop
    exact ⟨i, r.1, q2 F2 H' T (st2.trans st3) B2⟩
  | _ => exact q2.elim
theorem RpL.take {n : Nat} : ∀ {ds : List D} {vs : List V}, RpL K w F H ds vs [] → RpL K w F H (ds.take n) (vs.take n) [] := fun {ds vs} h =>
  RpL.of_get (by rw [List.length_take, List.length_take, h.length]) fun i d v h1 h2 => by
    rw [List.getElem?_take] at h1 h2
    split at h1
    · rename_i c
      rw [if_pos c] at h2
      obtain ⟨v', q1, q2⟩ := h.get h1
      rw [q1] at h2; cases h2; exact q2
    · cases h1
theorem RpL.drop {n : Nat} : ∀ {ds : List D} {vs : List V}, RpL K w F H ds vs [] → RpL K w F H (ds.drop n) (vs.drop n) [] := fun {ds vs} h =>
  RpL.of_get (by rw [List.length_drop, List.length_drop, h.length]) fun i d v h1 h2 => by
    rw [List.getElem?_drop] at h1 h2
    obtain ⟨v', q1, q2⟩ := h.get h1
    rw [q1] at h2; cases h2; exact q2
def rSlX (K : PySem.W.Frag) : V → Option Int → Option Int → Hp → VK → Prop := fun x lo hi H Q => rSlA K x lo hi H Q ∨ rSlL K x lo hi H Q
theorem sl_any : SlR X (rSlX X.K) := sl_tupA.or sl_list
theorem op_cut {d d' : D} {v : V} {lo hi : Option Int} {Q : VK} (g : Good F H []) (z : d.fz = true) (h : Rp K w F H d v []) (e : dCut d lo hi = some d') (k : ∀ v F' H' S', Step F H [] F' H' S' → Rp K w F' H' d' v S' → Q v H') : rSlX K v lo hi H Q := by
  unfold dCut at e
  split at e
  · rename_i ds
    cases e
    rw [Rp] at h
    obtain ⟨a, vs, rfl, s, r⟩ := h
    have r2 : RpL K w F H (cutD ds lo hi) (cutV vs lo hi) [] := by
      unfold cutD cutV
      rw [r.length]
      exact r.drop.take
    refine .inl ⟨a, vs, rfl, s, fun c => ?_, fun c p hp => resT g k r2 p hp⟩
    have e : cutD ds lo hi = ds := by
      unfold cutD
      rw [r.length, c.1, c.2, List.drop_zero, Nat.sub_zero, ← r.length, List.take_length]
    rw [e] at k
    exact res0 g k (by rw [Rp]; exact ⟨a, vs, rfl, s, r⟩)
  · rename_i m ds
    cases e
    obtain ⟨a, vs, S', rfl, s, r⟩ := Rp.seq (.inr ⟨m, rfl⟩) h
    have z2 : D.fzL ds = true := by rw [D.fz, Bool.and_eq_true] at z; exact z.2
    have r := r.fzs z2
    have r2 : RpL K w F H (cutD ds lo hi) (cutV vs lo hi) [] := by
      unfold cutD cutV
      rw [r.length]
      exact r.drop.take
    rcases s with s | s
    · exact .inr ⟨a, vs, rfl, s, resL g k r2⟩
    · rw [Rp] at h
      obtain ⟨a', vs', e1, h⟩ := h
      cases e1
      have s2 : H a = some (.lst vs') ∧ RpL K w F H ds vs' [] := by
        rcases h with ⟨_, s, S', e, r⟩ | ⟨_, s, e, r⟩
        · cases e
        · exact ⟨s.2, r⟩
      have r2 : RpL K w F H (cutD ds lo hi) (cutV vs' lo hi) [] := by
        unfold cutD cutV
        rw [s2.2.length]
        exact s2.2.drop.take
      exact .inr ⟨a, vs', rfl, SqL.of s2.1, resL g k r2⟩
  · cases e
variable {a : Expr} {lo hi : Option Expr} {p2 pos : Pos} {ma : M D} {ml mh : M (Option Int)}
theorem dE_slice (ha : PE X a (tE X W ma)) (hl : PO X lo (tO X W ml)) (hh : PO X hi (tO X W mh)) : PE X (.Subscript a (.Slice lo hi none p2) pos) (tE X W (mSlice ma ml mh)) := PEimp (pe_slice sl_any ha hl hh) fun σ H Q q => by
  obtain ⟨F, e, S, A, q⟩ := q
  obtain ⟨F1, e1, S1, A1, q1⟩ := bindE A (Step.refl A.good) q
  refine ⟨F1, e1, S1, A1, q1.mono fun x e2 k v F' H' S' st B => ?_⟩
  obtain ⟨d1, F2, e3, S2, st2, A2, q2⟩ := k v F' H' S' st B
  obtain ⟨F3, e4, S3, A3, q3⟩ := bindO A2 st2 q2
  refine ⟨F3, e4, S3, A3, q3.mono fun l e5 k2 F4 H4 S4 st4 B4 => ?_⟩
  obtain ⟨F5, e6, S5, st5, A5, q5⟩ := k2 F4 H4 S4 st4 B4
  obtain ⟨F6, e7, S6, A6, q6⟩ := bindO A5 st5 q5
  refine ⟨F6, e7, S6, A6, q6.mono fun u e8 k3 F7 H7 S7 st7 B7 => ?_⟩
  obtain ⟨F8, e9, S8, st8, A8, q8⟩ := k3 F7 H7 S7 st7 B7
  obtain ⟨d, hd, g⟩ := Pst.of q8
  obtain ⟨F9, T9, st9, r9, A9⟩ := A8.freeze
  refine op_cut A9.good.nil (D.frz_fz d1) r9 hd fun z F10 H10 S10 st10 r10 => ?_
  obtain ⟨T11, st11, A11⟩ := A9.res st10 r10
  exact g z F10 H10 T11 ((st8.trans st9).trans st11) A11
end
end Pl
set_option Elab.async false
set_option linter.all false
set_option maxRecDepth 100000
set_option maxHeartbeats 1000000
/-! Pl: fields, isinstance, built-in functions. -/
namespace Pl
open PySem PySem.Spec PyProof.Rows L2

/-! ### o.f -/
def dFld (cs : List Str) (f : Str) : D → Option D
  | .obj _ c fs => if cs.contains c = true then (fs.lookup f).bind fun d => if d.fz = true then some d else none else none
  | _ => none
/-- a field that the classes cs do not have as a name of their own -/
structure FldF (K : PySem.W.Frag) (cs : List Str) (f : Str) : Prop where
  ok : ∀ c, cs.contains c = true → Cls K (He.ga K c) ∧ NoAttr K (He.ga K c) f
section
variable {X : Cx} {W : WX} {K : PySem.W.Frag} {w : World} {F : Fset} {H : Hp}
theorem RpF.lookup : ∀ {fs : List (Str × D)} {fvs : List (Str × V)} {S : List Addr} {f : Str} {d : D}, RpF K w F H fs fvs S → fs.lookup f = some d → ∃ v S1, fvs.lookup f = some v ∧ Rp K w F H d v S1
  | [], _, _, _, _, _, g => by cases g
  | (g, d) :: fs, fvs, S, f, d', h, e => by
    rw [RpF] at h
    obtain ⟨v, r, S1, S2, rfl, rfl, h1, h2⟩ := h
    rw [List.lookup] at e ⊢
    cases q : (f == g) with
    | true => rw [q] at e; cases e; exact ⟨v, S1, rfl, h1⟩
    | false => rw [q] at e; exact h2.lookup e
def rFld (K : PySem.W.Frag) (f : Str) : V → Hp → VK → Prop := fun x H1 Q => ∃ a C dx fs v, x = .ref a ∧ H1 a = some (.ins C dx fs) ∧ Cls K C ∧ NoAttr K C f ∧ fs.lookup f = some v ∧ Q v H1
theorem op1_fld {cs : List Str} {f : Str} (hc : FldF K cs f) : Op1 K w (rFld K f) (dFld cs f) := fun F H S1 d1 d x Q g h1 e k => by
  cases d1 with
  | obj m c fs =>
    simp only [dFld] at e
    split at e
    · rename_i hcs
      cases q : fs.lookup f with
      | none => rw [q] at e; cases e
      | some d' =>
        rw [q] at e
        simp only [Option.bind_some] at e
        split at e
        · rename_i z
          cases e
          rw [Rp] at h1
          obtain ⟨a, dx, fvs, rfl, hH, h1⟩ := h1
          have r : ∃ S', RpF K w F H fs fvs S' := by
            rcases h1 with ⟨_, S', _, r⟩ | ⟨_, _, _, r⟩
            · exact ⟨_, r⟩
            · exact ⟨_, r⟩
          obtain ⟨S', r⟩ := r
          obtain ⟨v, S3, q1, q2⟩ := r.lookup q
          obtain rfl := Rp.fz_nil _ z q2
          exact ⟨a, _, dx, fvs, v, rfl, hH, (hc.ok c hcs).1, (hc.ok c hcs).2, q1, res0 g k q2⟩
        · cases e
    · cases e
  | _ => cases e
variable {a : Expr} {pos : Pos} {ma : M D} {f : Str}
theorem dE_fld {cs : List Str} (hc : FldF X.K cs f) (ha : PE X a (tE X W ma)) (hb : attributeBase a f X.env (eval a X.env) = eval a X.env := by rfl) : PE X (.Attribute a f pos) (tE X W (mUn (dFld cs f) ma)) := PEimp (pe_fld ha hb) fun σ H Q q => tE_op1 (r := rFld X.K f) (op1_fld hc) _ _ _ q
/-- x.f, x looked at where it is -/
theorem dE_fldP {x : Str} {p : Pos} {cs : List Str} (i : Nat) (hc : FldF X.K cs f) (hp : PE X (.Name x p) (tVar i)) (hb : attributeBase (.Name x p) f X.env (eval (.Name x p) X.env) = eval (.Name x p) X.env := by rfl) : PE X (.Attribute (.Name x p) f pos) (tE X W (mUnP (dFld cs f) i)) := PEimp (pe_fld hp hb) fun σ H Q q => tE_unP (r := rFld X.K f) (op1_fld hc) _ _ _ q
end

/-! ### isinstance -/
def D.ty (K : PySem.W.Frag) : D → Value
  | .non => .type "NoneType"
  | .bl _ => .type "bool"
  | .int _ => .type "int"
  | .str _ => .type "str"
  | .tup _ => .type "tuple"
  | .lst _ _ => .type "list"
  | .dic _ _ => .type "dict"
  | .obj _ c _ => .ref (He.ga K c)
  | .scr _ => .type "list"
structure ClsI (K : PySem.W.Frag) (C : Addr) : Prop where
  cl : Cls K C
  ha : PySem.W.findIn K (.ref C) "__class__" = some (some (.builtin "object.__class__"))
  hn : PySem.W.specialIn K (.builtin "object.__class__") "__get__" = some (some (.builtin "getset_descriptor.__get__"))
  htk : PySem.W.takesIn K (.builtin "object.__class__") = some true
  hm : PySem.W.mroIn K C (.type "object") = some true
def isiObj (cs : List Str) : D → Bool
  | .obj _ c _ => cs.contains c
  | _ => true
/-- the built-in types that are asked for -/
def askTy : List String := ["tuple", "list", "dict", "int", "bool", "str"]
def hasTy : List String := ["NoneType", "bool", "int", "str", "tuple", "list", "dict"]
/-- what the head says of the own classes cs -/
structure IsiF (K : PySem.W.Frag) (cs : List Str) : Prop where
  own : ∀ c, cs.contains c = true → ClsI K (He.ga K c)
  ob : ∀ c, cs.contains c = true → ∀ n ∈ askTy, PySem.W.kitOne K (.ref (He.ga K c)) (.type n) = some false
  bo : ∀ c, cs.contains c = true → ∀ n ∈ hasTy, PySem.W.kitOne K (.type n) (.ref (He.ga K c)) = some false
  oo : ∀ c c', cs.contains c = true → cs.contains c' = true → PySem.W.kitOne K (.ref (He.ga K c)) (.ref (He.ga K c')) = some (c == c')
def isNm (a n : String) : Bool := a == n || (a == "bool" && n == "int")
def isTy (n : String) : D → Bool
  | .non => isNm "NoneType" n
  | .bl _ => isNm "bool" n
  | .int _ => isNm "int" n
  | .str _ => isNm "str" n
  | .tup _ => isNm "tuple" n
  | .lst _ _ => isNm "list" n
  | .dic _ _ => isNm "dict" n
  | .obj _ _ _ => false
  | .scr _ => isNm "list" n
def isCl (c : Str) : D → Bool
  | .obj _ c' _ => c' == c
  | _ => false
/-- isinstance(x, T) for a built-in T; for an own class; for a tuple of built-in ones -/
def dIsT (cs : List Str) (n : String) (d : D) : Option D := if isiObj cs d = true then some (.bl (isTy n d)) else none
def dIsC (cs : List Str) (c : Str) (d : D) : Option D := if isiObj cs d = true then some (.bl (isCl c d)) else none
def dIsTs (cs : List Str) (ns : List String) (d : D) : Option D := if isiObj cs d = true then some (.bl (ns.any fun n => isTy n d)) else none
section
variable {X : Cx} {W : WX} {K : PySem.W.Frag} {w : World} {F : Fset} {H : Hp}
theorem kit_all : ∀ a ∈ hasTy, ∀ n ∈ askTy, kitB a n = some (isNm a n) := by decide +kernel
theorem kit_isT {cs : List Str} (hI : IsiF K cs) {n : String} (hn : n ∈ askTy) {d : D} (h : isiObj cs d = true) : PySem.W.kitOne K (d.ty K) (.type n) = some (isTy n d) := by
  have go : ∀ a ∈ hasTy, PySem.W.kitOne K (.type a) (.type n) = some (isNm a n) := fun a ha => kit_ty (kit_all a ha n hn)
  cases d with
  | obj m c fs => exact hI.ob c h n hn
  | non => exact go _ (by decide)
  | bl b => exact go _ (by decide)
  | int b => exact go _ (by decide)
  | str b => exact go _ (by decide)
  | tup b => exact go _ (by decide)
  | lst m b => exact go _ (by decide)
  | dic m b => exact go _ (by decide)
  | scr b => exact go _ (by decide)
theorem kit_isC {cs : List Str} (hI : IsiF K cs) {c : Str} (hc : cs.contains c = true) {d : D} (h : isiObj cs d = true) : PySem.W.kitOne K (d.ty K) (.ref (He.ga K c)) = some (isCl c d) := by
  cases d with
  | obj m c' fs => exact hI.oo c' c h hc
  | non => exact hI.bo c hc _ (by decide)
  | bl b => exact hI.bo c hc _ (by decide)
  | int b => exact hI.bo c hc _ (by decide)
  | str b => exact hI.bo c hc _ (by decide)
  | tup b => exact hI.bo c hc _ (by decide)
  | lst m b => exact hI.bo c hc _ (by decide)
  | dic m b => exact hI.bo c hc _ (by decide)
  | scr b => exact hI.bo c hc _ (by decide)
theorem kit_isTs {cs : List Str} (hI : IsiF K cs) {d : D} (h : isiObj cs d = true) : ∀ {ns : List String}, (∀ n ∈ ns, n ∈ askTy) → PySem.W.kitAny K (d.ty K) (ns.map Value.type) = some (ns.any fun n => isTy n d)
  | [], _ => kitAny_nil
  | n :: ns, hn => by
    rw [List.map_cons, List.any_cons]
    refine kitAny_cons (kit_isT hI (hn n List.mem_cons_self) h) (fun e => ?_) fun e => by rw [e]; rfl
    rw [e, Bool.false_or]
    exact kit_isTs hI h fun m hm => hn m (List.mem_cons_of_mem _ hm)
/-- what the library's isinstance asks of a value -/
theorem kit_rp {cs : List Str} {pins : List (Addr × Obj)} {σ : L2.St} {s : Shared} {d : D} {v : V} {u : Value} {S : List Addr} (hI : IsiF X.K cs) (I : Inv X pins σ H s) (r : RelV v u) (h : Rp X.K X.w F H d v S) (ho : isiObj cs d = true) :
    ∃ P : Heap → Prop, PySem.W.KitX X.K u (d.ty X.K) P ∧ P s.heap ∧ u ≠ .builtin "__main__.__loader__#opaque" := by
  cases d with
  | non => obtain rfl := h.1; exact kit_of I r (.base .non)
  | bl b => obtain rfl := h.1; exact kit_of I r (.base (.bl b))
  | int b => obtain rfl := h.1; exact kit_of I r (.base (.int b))
  | str b => obtain rfl := h.1; exact kit_of I r (.base (.str b))
  | tup ds =>
    rw [Rp] at h
    obtain ⟨a, vs, rfl, s', _⟩ := h
    rcases s' with (s' | ⟨o, s'⟩) | ⟨o, its, n, hk, hc, _⟩
    · exact kit_of I r (.base (.tup s'))
    · exact kit_of I r (.fTuple s')
    · exact kit_of I r (.kTuple hk hc)
  | lst m ds =>
    rw [Rp] at h
    obtain ⟨a, vs, rfl, ⟨_, s', _⟩ | ⟨_, s', _⟩⟩ := h
    · exact kit_of I r (.base (.lst s'))
    · exact kit_of I r (.base (.lst s'.2))
  | dic m kvs =>
    rw [Rp] at h
    obtain ⟨a, o, es, ep, rfl, hy, q, hx, hd, _⟩ := h
    cases (show u = Value.ref a from r)
    have z : s.heap.get? a = some o := (I.hok a _ q).1
    exact ⟨_, PySem.W.kitx_dict, ⟨o, z, hx.1⟩, fun z => nomatch z⟩
  | obj m c fs =>
    rw [Rp] at h
    obtain ⟨a, dx, fvs, rfl, q, _⟩ := h
    have z := hI.own c ho
    exact kit_of I r (.base (.ins q z.cl z.ha z.hn z.htk z.hm))
  | scr ns =>
    rw [Rp] at h
    obtain ⟨a, rfl, s', _⟩ := h
    rcases s' with ⟨o, s'⟩ | ⟨o, its, n, hk, hc, _⟩
    · exact kit_of I r (.base (.frz s'))
    · exact kit_of I r (.kList hk hc)
def rIsD (K : PySem.W.Frag) (w : World) (cs : List Str) (u : Value) (f : D → Bool) : List V → Hp → VK → Prop := fun xs H Q => ∃ (x c : V) (F : Fset) (d : D) (S : List Addr), xs = [x, c] ∧ ClsV c u ∧ Rp K w F H d x S ∧ isiObj cs d = true ∧ PySem.W.kitOne K (d.ty K) u = some (f d) ∧ Q (.bl (f d)) H
theorem call_isD {cs : List Str} (hI : IsiF X.K cs) {u : Value} {f : D → Bool} : CallR X (.builtin "isinstance") (rIsD X.K X.w cs u f) := by
  intro pins s σ H xs us Q I r h
  obtain ⟨x, c, F, d, S, rfl, k, hr, ho, e, q⟩ := h
  obtain ⟨u1, u2, rfl, r1, r2⟩ := vals2 r
  have e2 := k.eq r2
  subst e2
  obtain ⟨P, Z, p, hx⟩ := kit_rp hI I r1 hr ho
  exact PySem.W.kia_one Z I.kIn p e hx fun tk => ⟨.bl (f d), H, I.tok tk, rfl, q⟩
def rIsDs (K : PySem.W.Frag) (w : World) (cs : List Str) (us : List Value) (f : D → Bool) : List V → Hp → VK → Prop := fun xs H Q => ∃ (x : V) (tp : Addr) (vs : List V) (F : Fset) (d : D) (S : List Addr), xs = [x, .ref tp] ∧ H tp = some (.tup vs) ∧ Paired ClsV vs us ∧ Rp K w F H d x S ∧ isiObj cs d = true ∧ PySem.W.kitAny K (d.ty K) us = some (f d) ∧ Q (.bl (f d)) H
theorem call_isDs {cs : List Str} (hI : IsiF X.K cs) {us : List Value} {f : D → Bool} : CallR X (.builtin "isinstance") (rIsDs X.K X.w cs us f) := by
  intro pins s σ H xs ws Q I r h
  obtain ⟨x, tp, vs, F, d, S, rfl, hT, k, hr, ho, e, q⟩ := h
  obtain ⟨u1, u2, rfl, r1, r2⟩ := vals2 r
  cases (show u2 = Value.ref tp from r2)
  obtain ⟨P, Z, p, hx⟩ := kit_rp hI I r1 hr ho
  obtain ⟨_, its, rv, o, h1, h2, n, h3⟩ := (show ObjOk X.prog X.w H s.heap tp (.tup vs) from I.hok tp _ hT)
  have e3 := ClsV.all k rv
  subst e3
  obtain ⟨oc, od, dt, sl⟩ := o
  simp only at h2 h3
  subst h2 h3
  exact PySem.W.kia_tup Z I.kIn p h1 e hx fun tk => ⟨.bl (f d), H, I.tok tk, rfl, q⟩
variable {a : Expr} {p pos : Pos} {ma : M D}
theorem tE_mono {m : M D} {σ : L2.St} {H : Hp} {Q Q' : VK} (h : tE X W m σ H Q) (k : ∀ v H', Q v H' → Q' v H') : tE X W m σ H Q' := by
  obtain ⟨F, e, S, A, q⟩ := h
  exact ⟨F, e, S, A, q.mono fun d e' g v F' H' S' st B => k _ _ (g v F' H' S' st B)⟩
/-- isinstance(e, T), T built-in -/
theorem dE_isT {cs : List Str} (hI : IsiF X.K cs) {x : Str} {n : String} {px pf : Pos} (hn : n ∈ askTy) (ha : PE X a (tE X W ma)) (hv : bootBuiltins x = some (.type n)) (mx : X.mg x = none) (mi : X.mg "isinstance" = none) (hx : x ≠ "__name__" := by decide) (hxd : (x == ("__debug__" : Str)) = false := by decide)
    (gx : Gl X x := by rfl) (gi : Gl X "isinstance" := by rfl)
    (hs1 : starEach [a, .Name x px] X.env = (false, eval a X.env) :: starEach [.Name x px] X.env := by rfl) (hs2 : starEach [.Name x px] X.env = (false, eval (.Name x px) X.env) :: starEach [] X.env := by rfl) (hpl : (backTo pos (starEach [.Name x px] X.env)).any (·.1) = false := by rfl) :
    PE X (.Call (.Name "isinstance" pf) [a, .Name x px] [] pos) (tE X W (mUn (dIsT cs n) ma)) :=
  PEimp (pe_callB (call_isD hI (u := .type n) (f := isTy n)) gi mi (by decide +kernel) (pa_cons ha (pa_cons (pe_bltn (v := .ty n) gx mx hv rfl hx hxd) pa_nil hs2) hs1) (he := hs1) (hpl := hpl)) fun σ H Q q =>
    tE_op1 (r := fun x H Q => rIsD X.K X.w cs (.type n) (isTy n) [x, .ty n] H Q) (fun F H S1 d1 d x Q gd h1 e k => by
      unfold dIsT at e
      split at e
      · rename_i ho
        cases e
        exact ⟨x, _, F, d1, S1, rfl, .ty n, h1, ho, kit_isT hI hn ho, res0 gd k ⟨rfl, rfl⟩⟩
      · cases e) _ _ _ q
theorem dE_isTP {cs : List Str} (hI : IsiF X.K cs) {y : Str} {py : Pos} (i : Nat) {x : Str} {n : String} {px pf : Pos} (hn : n ∈ askTy) (ha : PE X (.Name y py) (tVar i)) (hv : bootBuiltins x = some (.type n)) (mx : X.mg x = none) (mi : X.mg "isinstance" = none) (hx : x ≠ "__name__" := by decide) (hxd : (x == ("__debug__" : Str)) = false := by decide)
    (gx : Gl X x := by rfl) (gi : Gl X "isinstance" := by rfl) :
    PE X (.Call (.Name "isinstance" pf) [.Name y py, .Name x px] [] pos) (tE X W (mUnP (dIsT cs n) i)) :=
  PEimp (pe_callB (call_isD hI (u := .type n) (f := isTy n)) gi mi (by decide +kernel) (pa_cons ha (pa_cons (pe_bltn (v := .ty n) gx mx hv rfl hx hxd) pa_nil))) fun σ H Q q =>
    tE_unP (r := fun x H Q => rIsD X.K X.w cs (.type n) (isTy n) [x, .ty n] H Q) (fun F H S1 d1 d x Q gd h1 e k => by
      unfold dIsT at e
      split at e
      · rename_i ho
        cases e
        exact ⟨x, _, F, d1, S1, rfl, .ty n, h1, ho, kit_isT hI hn ho, res0 gd k ⟨rfl, rfl⟩⟩
      · cases e) _ _ _ q
end
end Pl
set_option Elab.async false
set_option linter.all false
set_option maxRecDepth 100000
set_option maxHeartbeats 1000000
/-! Pl: isinstance with own classes and tuples of classes; len, all, any, int, list, tuple, max, min, sum, sorted, str. -/
namespace Pl
open PySem PySem.Spec PyProof.Rows L2

section
variable {X : Cx} {W : WX} {K : PySem.W.Frag} {w : World} {F : Fset} {H : Hp} {a b : Expr} {p pos : Pos} {ma mb : M D} {es : List Expr} {ms : M (List D)}
/-- isinstance(e, C), C an own class -/
theorem dE_isC {cs : List Str} (hI : IsiF X.K cs) {x : Str} {px pf : Pos} (hc : cs.contains x = true) (ha : PE X a (tE X W ma)) (mx : X.mg x = some (.ref (He.ga X.K x))) (mi : X.mg "isinstance" = none) (hxd : (x == ("__debug__" : Str)) = false := by decide)
    (gx : Gl X x := by rfl) (gi : Gl X "isinstance" := by rfl)
    (hs1 : starEach [a, .Name x px] X.env = (false, eval a X.env) :: starEach [.Name x px] X.env := by rfl) (hs2 : starEach [.Name x px] X.env = (false, eval (.Name x px) X.env) :: starEach [] X.env := by rfl) (hpl : (backTo pos (starEach [.Name x px] X.env)).any (·.1) = false := by rfl) :
    PE X (.Call (.Name "isinstance" pf) [a, .Name x px] [] pos) (tE X W (mUn (dIsC cs x) ma)) :=
  PEimp (pe_callB (call_isD hI (u := .ref (He.ga X.K x)) (f := isCl x)) gi mi (by decide +kernel) (pa_cons ha (pa_cons (pe_glob (v := .ref (He.ga X.K x)) gx mx rfl hxd) pa_nil hs2) hs1) (he := hs1) (hpl := hpl)) fun σ H Q q =>
    tE_op1 (r := fun y H Q => rIsD X.K X.w cs (.ref (He.ga X.K x)) (isCl x) [y, .ref (He.ga X.K x)] H Q) (fun F H S1 d1 d y Q gd h1 e k => by
      unfold dIsC at e
      split at e
      · rename_i ho
        cases e
        exact ⟨y, _, F, d1, S1, rfl, .own _, h1, ho, kit_isC hI hc ho, res0 gd k ⟨rfl, rfl⟩⟩
      · cases e) _ _ _ q
theorem clsV_tys : ∀ ns : List String, Paired ClsV (ns.map V.ty) (ns.map Value.type)
  | [] => .nil
  | n :: ns => .cons (.ty n) (clsV_tys ns)
/-- isinstance(e, (T1, T2)) -/
theorem dE_isTs {cs : List Str} (hI : IsiF X.K cs) {x y : Str} {n k : String} {px py pf pt : Pos} {kt : Nat} (hn : n ∈ askTy) (hk : k ∈ askTy) (ha : PE X a (tE X W ma)) (hv : bootBuiltins x = some (.type n)) (hv2 : bootBuiltins y = some (.type k)) (mx : X.mg x = none) (my : X.mg y = none) (mi : X.mg "isinstance" = none)
    (hx : x ≠ "__name__" := by decide) (hxd : (x == ("__debug__" : Str)) = false := by decide) (hy : y ≠ "__name__" := by decide) (hyd : (y == ("__debug__" : Str)) = false := by decide) (gx : Gl X x := by rfl) (gy : Gl X y := by rfl) (gi : Gl X "isinstance" := by rfl)
    (hs1 : starEach [a, .Tuple [.Name x px, .Name y py] kt pt] X.env = (false, eval a X.env) :: starEach [.Tuple [.Name x px, .Name y py] kt pt] X.env := by rfl) (hpl : (backTo pos (starEach [.Tuple [.Name x px, .Name y py] kt pt] X.env)).any (·.1) = false := by rfl) :
    PE X (.Call (.Name "isinstance" pf) [a, .Tuple [.Name x px, .Name y py] kt pt] [] pos) (tE X W (mUn (dIsTs cs [n, k]) ma)) :=
  PEimp (pe_callB (call_isDs hI (us := [.type n, .type k]) (f := fun d => [n, k].any fun m => isTy m d)) gi mi (by decide +kernel) (pa_cons ha (pa_cons (pe_tup (pa_cons (pe_bltn (v := .ty n) gx mx hv rfl hx hxd) (pa_cons (pe_bltn (v := .ty k) gy my hv2 rfl hy hyd) pa_nil))) pa_nil) hs1) (he := hs1) (hpl := hpl)) fun σ H Q q =>
    tE_op1 (r := fun z H Q => [V.ty n, V.ty k].length ≤ sizeLine ∧ ∀ p, H p = none → rIsDs X.K X.w cs [.type n, .type k] (fun d => [n, k].any fun m => isTy m d) [z, .ref p] (upd H p (.tup [.ty n, .ty k])) Q) (fun F H S1 d1 d z Q gd h1 e kk => by
      unfold dIsTs at e
      split at e
      · rename_i ho
        cases e
        refine ⟨by show 2 ≤ sizeLine; decide, fun p hp => ?_⟩
        exact ⟨z, p, [.ty n, .ty k], F, d1, S1, rfl, upd_same, clsV_tys [n, k], Rp.stay d1 (Stays.new hp) h1, ho, kit_isTs hI ho (ns := [n, k]) (by intro m hm; rcases List.mem_cons.mp hm with rfl | hm; exact hn; rcases List.mem_cons.mp hm with rfl | hm; exact hk; exact nomatch hm),
          kk _ F _ [] (Step.new gd hp) ⟨rfl, rfl⟩⟩
      · cases e) _ _ _ q

/-! ### built-in functions upon values -/
theorem dE_callB {id : String} {x : Str} {r : List V → Hp → VK → Prop} {f : List D → Option D} (hc : CallR X (.builtin id) r) (hf : OpL X.K X.w r f) (hm : X.mg x = none) (ha : PA X (a :: es) (tA X W ms)) (hv : bootBuiltins x = some (.builtin id)) (hg : Gl X x := by rfl) (hn : x ≠ "__name__" := by decide) (hdb : (x == ("__debug__" : Str)) = false := by decide)
    (he : starEach (a :: es) X.env = (false, eval a X.env) :: starEach es X.env := by rfl) (hpl : (backTo pos (starEach es X.env)).any (·.1) = false := by rfl) : PE X (.Call (.Name x p) (a :: es) [] pos) (tE X W (mB f ms)) := PEimp (pe_callB hc hg hm hv ha hn hdb he hpl) (tE_opL hf)
theorem dE_callT {T : String} {x : Str} {r : List V → Hp → VK → Prop} {f : List D → Option D} (hc : CallR X (.type T) r) (hf : OpL X.K X.w r f) (hm : X.mg x = none) (ha : PA X (a :: es) (tA X W ms)) (hv : bootBuiltins x = some (.type T)) (hg : Gl X x := by rfl) (hn : x ≠ "__name__" := by decide) (hdb : (x == ("__debug__" : Str)) = false := by decide)
    (he : starEach (a :: es) X.env = (false, eval a X.env) :: starEach es X.env := by rfl) (hpl : (backTo pos (starEach es X.env)).any (·.1) = false := by rfl) : PE X (.Call (.Name x p) (a :: es) [] pos) (tE X W (mB f ms)) := PEimp (pe_callTy hc hg hm hv ha hn hdb he hpl) (tE_opL hf)
/-- one argument -/
def one (f : D → Option D) : List D → Option D
  | [d] => f d
  | _ => none
theorem OpL.one {r : V → Hp → VK → Prop} {r' : List V → Hp → VK → Prop} {f : D → Option D} (hf : Op1 K w r f) (hr : ∀ x H Q, r x H Q → r' [x] H Q) : OpL K w r' (one f) := fun F H S1 ds d vs Q g h e k => by
  match ds, h, e with
  | [d1], h, e =>
    obtain ⟨v, r, S1, S2, rfl, rfl, h1, h2⟩ := h.uncons
    obtain ⟨rfl, rfl⟩ := h2
    exact hr _ _ _ (hf F H S1 d1 d v Q g h1 e k)
/-- f(x), x looked at where it is -/
theorem dE_callBP {id : String} {x : Str} {r : List V → Hp → VK → Prop} {f : D → Option D} {y : Str} {py : Pos} (i : Nat) (hc : CallR X (.builtin id) r) (hf : Op1 X.K X.w (fun z H Q => r [z] H Q) f) (hm : X.mg x = none) (ha : PE X (.Name y py) (tVar i)) (hv : bootBuiltins x = some (.builtin id)) (hg : Gl X x := by rfl) (hn : x ≠ "__name__" := by decide) (hdb : (x == ("__debug__" : Str)) = false := by decide) :
    PE X (.Call (.Name x p) [.Name y py] [] pos) (tE X W (mUnP f i)) := PEimp (pe_callB hc hg hm hv (pa_cons ha pa_nil) hn hdb) fun σ H Q q => tE_unP (r := fun z H Q => r [z] H Q) hf _ _ _ q
theorem dE_callTP {T : String} {x : Str} {r : List V → Hp → VK → Prop} {f : D → Option D} {y : Str} {py : Pos} (i : Nat) (hc : CallR X (.type T) r) (hf : Op1 X.K X.w (fun z H Q => r [z] H Q) f) (hm : X.mg x = none) (ha : PE X (.Name y py) (tVar i)) (hv : bootBuiltins x = some (.type T)) (hg : Gl X x := by rfl) (hn : x ≠ "__name__" := by decide) (hdb : (x == ("__debug__" : Str)) = false := by decide) :
    PE X (.Call (.Name x p) [.Name y py] [] pos) (tE X W (mUnP f i)) := PEimp (pe_callTy hc hg hm hv (pa_cons ha pa_nil) hn hdb) fun σ H Q q => tE_unP (r := fun z H Q => r [z] H Q) hf _ _ _ q
/-! len -/
def dLen : D → Option D
  | .str x => if x.length ≤ sizeLine then some (.int x.length) else none
  | .tup ds => some (.int ds.length)
  | .lst _ ds => some (.int ds.length)
  | _ => none
def rLenA (K : PySem.W.Frag) : List V → Hp → VK → Prop := fun xs H Q => (∃ p ys, xs = [.ref p] ∧ (SqL K H p ys ∨ SqT K H p ys) ∧ Q (.int ys.length) H) ∨ ∃ z, xs = [.str z] ∧ z.length ≤ sizeLine ∧ Q (.int z.length) H
theorem call_lenA : CallR X (.builtin "len") (rLenA X.K) := call_len_seq.or call_len_str
theorem op1_len : Op1 K w (fun z H Q => rLenA K [z] H Q) dLen := fun F H S1 d1 d x Q g h1 e k => by
  cases d1 with
  | str z =>
    obtain rfl := h1.1
    simp only [dLen] at e
    split at e
    · rename_i c
      cases e
      exact .inr ⟨z, rfl, c, res0 g k ⟨rfl, rfl⟩⟩
    · cases e
  | tup ds =>
    cases e
    obtain ⟨a, vs, S', rfl, s, r⟩ := Rp.seq (.inl rfl) h1
    exact .inl ⟨a, vs, rfl, s, by rw [← r.length]; exact res0 g k ⟨rfl, rfl⟩⟩
  | lst m ds =>
    cases e
    obtain ⟨a, vs, S', rfl, s, r⟩ := Rp.seq (.inr ⟨m, rfl⟩) h1
    exact .inl ⟨a, vs, rfl, s, by rw [← r.length]; exact res0 g k ⟨rfl, rfl⟩⟩
  | _ => cases e
theorem dE_len (hm : X.mg "len" = none) (ha : PE X a (tE X W ma)) (hg : Gl X "len" := by rfl) (he : starEach [a] X.env = (false, eval a X.env) :: starEach [] X.env := by rfl) : PE X (.Call (.Name "len" p) [a] [] pos) (tE X W (mB (one dLen) (mCons ma mNil))) :=
  dE_callB call_lenA (.one op1_len fun _ _ _ h => h) hm (dA_cons ha dA_nil he) boot_len hg (he := he)
theorem dE_lenP {y : Str} {py : Pos} (i : Nat) (hm : X.mg "len" = none) (ha : PE X (.Name y py) (tVar i)) (hg : Gl X "len" := by rfl) : PE X (.Call (.Name "len" p) [.Name y py] [] pos) (tE X W (mUnP dLen i)) := dE_callBP i call_lenA op1_len hm ha boot_len hg
/-! all, any -/
def D.blsL : List D → Option (List Bool)
  | [] => some []
  | .bl b :: ds => (D.blsL ds).map (b :: ·)
  | _ => none
theorem RpL.bls : ∀ {ds : List D} {vs : List V} {bs : List Bool} {S : List Addr}, D.blsL ds = some bs → RpL K w F H ds vs S → vs = bs.map V.bl
  | [], _, _, _, e, h => by cases e; exact h.1
  | d :: ds, vs, bs, S, e, h => by
    obtain ⟨v, r, S1, S2, rfl, rfl, h1, h2⟩ := h.uncons
    cases d with
    | bl b =>
      rw [D.blsL] at e
      cases q : D.blsL ds with
      | none => rw [q] at e; cases e
      | some bs' =>
        rw [q] at e; cases e
        rw [RpL.bls q h2, h1.1]; rfl
    | _ => cases e
def dAll : D → Option D
  | .lst _ ds => (D.blsL ds).map fun bs => .bl (bs.all id)
  | _ => none
def dAny : D → Option D
  | .lst _ ds => (D.blsL ds).map fun bs => .bl (bs.any id)
  | _ => none
theorem Rp.lst {m : Bool} {ds : List D} {v : V} {S : List Addr} (h : Rp K w F H (.lst m ds) v S) : ∃ a vs S', v = .ref a ∧ H a = some (.lst vs) ∧ RpL K w F H ds vs S' := by
  rw [Rp] at h
  obtain ⟨a, vs, rfl, ⟨_, s, S', _, r⟩ | ⟨_, s, _, r⟩⟩ := h
  · exact ⟨a, vs, _, rfl, s, r⟩
  · exact ⟨a, vs, _, rfl, s.2, r⟩
theorem op1_all : Op1 K w (fun z H Q => rAll K [z] H Q) dAll := fun F H S1 d1 d x Q g h1 e k => by
  cases d1 with
  | lst m ds =>
    simp only [dAll] at e
    cases q : D.blsL ds with
    | none => rw [q] at e; cases e
    | some bs =>
      rw [q] at e; cases e
      obtain ⟨a, vs, S', rfl, s, r⟩ := h1.lst
      obtain rfl := r.bls q
      exact ⟨a, bs, rfl, SqL.of s, res0 g k ⟨rfl, rfl⟩⟩
  | _ => cases e
theorem op1_any : Op1 K w (fun z H Q => rAny K [z] H Q) dAny := fun F H S1 d1 d x Q g h1 e k => by
  cases d1 with
  | lst m ds =>
    simp only [dAny] at e
    cases q : D.blsL ds with
    | none => rw [q] at e; cases e
    | some bs =>
      rw [q] at e; cases e
      obtain ⟨a, vs, S', rfl, s, r⟩ := h1.lst
      obtain rfl := r.bls q
      exact ⟨a, bs, rfl, SqL.of s, res0 g k ⟨rfl, rfl⟩⟩
  | _ => cases e
theorem dE_all (hc : X.calm = true) (hm : X.mg "all" = none) (ha : PE X a (tE X W ma)) (hg : Gl X "all" := by rfl) (he : starEach [a] X.env = (false, eval a X.env) :: starEach [] X.env := by rfl) : PE X (.Call (.Name "all" p) [a] [] pos) (tE X W (mB (one dAll) (mCons ma mNil))) :=
  dE_callB (cr_all hc) (.one op1_all fun _ _ _ h => h) hm (dA_cons ha dA_nil he) (by decide +kernel) hg (he := he)
theorem dE_any (hc : X.calm = true) (hm : X.mg "any" = none) (ha : PE X a (tE X W ma)) (hg : Gl X "any" := by rfl) (he : starEach [a] X.env = (false, eval a X.env) :: starEach [] X.env := by rfl) : PE X (.Call (.Name "any" p) [a] [] pos) (tE X W (mB (one dAny) (mCons ma mNil))) :=
  dE_callB (cr_any hc) (.one op1_any fun _ _ _ h => h) hm (dA_cons ha dA_nil he) (by decide +kernel) hg (he := he)
/-! int -/
def dInt : D → Option D
  | .int i => some (.int i)
  | .bl b => some (.int (if b then 1 else 0))
  | _ => none
theorem dE_intc (hm : X.mg "int" = none) (ha : PE X a (tE X W ma)) (hg : Gl X "int" := by rfl) (he : starEach [a] X.env = (false, eval a X.env) :: starEach [] X.env := by rfl) : PE X (.Call (.Name "int" p) [a] [] pos) (tE X W (mB (one dInt) (mCons ma mNil))) :=
  dE_callT call_int1 (r := fun xs H Q => (∃ i, xs = [.int i] ∧ Q (.int i) H) ∨ ∃ k, xs = [.bl k] ∧ Q (.int (if k then 1 else 0)) H) (.one (r := fun z H Q => (∃ i, [z] = [V.int i] ∧ Q (.int i) H) ∨ ∃ k, [z] = [V.bl k] ∧ Q (.int (if k then 1 else 0)) H) (fun F H S1 d1 d x Q g h1 e k => by
    cases d1 with
    | int i => cases e; obtain rfl := h1.1; exact .inl ⟨i, rfl, res0 g k ⟨rfl, rfl⟩⟩
    | bl b => cases e; obtain rfl := h1.1; exact .inr ⟨b, rfl, res0 g k ⟨rfl, rfl⟩⟩
    | _ => cases e) fun _ _ _ h => h) hm (dA_cons ha dA_nil he) (by decide +kernel) hg (he := he)
/-! list, tuple -/
def dList : D → Option D
  | .tup ds => if D.fzL ds = true then some (.lst true ds) else none
  | .lst _ ds => if D.fzL ds = true then some (.lst true ds) else none
  | .scr ns => some (.lst true (ns.map .int))
  | _ => none
theorem rpL_ints : ∀ ns : List Int, RpL K w F H (ns.map D.int) (ns.map V.int) []
  | [] => RpL.nil
  | n :: ns => RpL.cons (S1 := []) (S2 := []) (d := .int n) (v := .int n) ⟨rfl, rfl⟩ (rpL_ints ns)
theorem op1_list : Op1 K w (fun z H Q => ∃ p ys, [z] = [.ref p] ∧ (SqL K H p ys ∨ SqT K H p ys) ∧ ∀ l, H l = none → Q (.ref l) (upd H l (.lst ys))) dList := fun F H S1 d1 d x Q g h1 e k => by
  cases d1 with
  | tup ds =>
    simp only [dList] at e
    split at e
    · rename_i z
      cases e
      obtain ⟨a, vs, S', rfl, s, r⟩ := Rp.seq (.inl rfl) h1
      exact ⟨a, vs, rfl, s, resL g k (r.fzs z)⟩
    · cases e
  | lst m ds =>
    simp only [dList] at e
    split at e
    · rename_i z
      cases e
      obtain ⟨a, vs, S', rfl, s, r⟩ := Rp.seq (.inr ⟨m, rfl⟩) h1
      exact ⟨a, vs, rfl, s, resL g k (r.fzs z)⟩
    · cases e
  | scr ns =>
    cases e
    rw [Rp] at h1
    obtain ⟨a, rfl, s, _⟩ := h1
    exact ⟨a, _, rfl, .inl s.sqL, resL g k (rpL_ints ns)⟩
  | _ => cases e
theorem dE_list (hm : X.mg "list" = none) (ha : PE X a (tE X W ma)) (hg : Gl X "list" := by rfl) (he : starEach [a] X.env = (false, eval a X.env) :: starEach [] X.env := by rfl) : PE X (.Call (.Name "list" p) [a] [] pos) (tE X W (mB (one dList) (mCons ma mNil))) :=
  dE_callT call_list_of (.one op1_list fun _ _ _ h => h) hm (dA_cons ha dA_nil he) (by decide +kernel) hg (he := he)
def dTuple : D → Option D
  | .tup ds => if D.fzL ds = true then some (.tup ds) else none
  | .lst _ ds => if D.fzL ds = true then some (.tup ds) else none
  | _ => none
theorem op1_tuple : Op1 K w (fun z H Q => ∃ p ys, [z] = [.ref p] ∧ ((SqL K H p ys ∧ ∀ l, H l = none → Q (.ref l) (upd H l (.tup ys))) ∨ (SqT K H p ys ∧ Q (.ref p) H))) dTuple := fun F H S1 d1 d x Q g h1 e k => by
  cases d1 with
  | lst m ds =>
    simp only [dTuple] at e
    split at e
    · rename_i z
      cases e
      obtain ⟨a, vs, S', rfl, s, r⟩ := h1.lst
      exact ⟨a, vs, rfl, .inl ⟨SqL.of s, resT g k (r.fzs z)⟩⟩
    · cases e
  | tup ds =>
    simp only [dTuple] at e
    split at e
    · rename_i z
      cases e
      have h2 := h1
      rw [Rp] at h2
      obtain ⟨a, vs, rfl, s, r⟩ := h2
      exact ⟨a, vs, rfl, .inr ⟨s, res0 g k (by rw [Rp]; exact ⟨a, vs, rfl, s, r.fzs z⟩)⟩⟩
    · cases e
  | _ => cases e
theorem dE_tuple (hm : X.mg "tuple" = none) (ha : PE X a (tE X W ma)) (hg : Gl X "tuple" := by rfl) (he : starEach [a] X.env = (false, eval a X.env) :: starEach [] X.env := by rfl) : PE X (.Call (.Name "tuple" p) [a] [] pos) (tE X W (mB (one dTuple) (mCons ma mNil))) :=
  dE_callT call_tuple_of (.one op1_tuple fun _ _ _ h => h) hm (dA_cons ha dA_nil he) (by decide +kernel) hg (he := he)
/-! max, min, sum -/
def dMax2 : List D → Option D
  | [.int i, .int j] => some (.int (if j > i then j else i))
  | _ => none
def dMin2 : List D → Option D
  | [.int i, .int j] => some (.int (if j < i then j else i))
  | _ => none
theorem RpL.two {ds : List D} {vs : List V} {S : List Addr} {i j : Int} (h : RpL K w F H [.int i, .int j] vs S) : vs = [.int i, .int j] := by
  obtain ⟨v, r, S1, S2, rfl, rfl, h1, h2⟩ := h.uncons
  obtain ⟨v', r', S3, S4, rfl, rfl, h3, h4⟩ := h2.uncons
  rw [h1.1, h3.1, h4.1]
theorem opL_max2 : OpL K w (fun xs H Q => ∃ i j, xs = [.int i, .int j] ∧ Q (.int (if j > i then j else i)) H) dMax2 := fun F H S1 ds d vs Q g h e k => by
  unfold dMax2 at e
  split at e
  · cases e
    exact ⟨_, _, RpL.two (ds := []) h, res0 g k ⟨rfl, rfl⟩⟩
  · cases e
theorem opL_min2 : OpL K w (fun xs H Q => ∃ i j, xs = [.int i, .int j] ∧ Q (.int (if j < i then j else i)) H) dMin2 := fun F H S1 ds d vs Q g h e k => by
  unfold dMin2 at e
  split at e
  · cases e
    exact ⟨_, _, RpL.two (ds := []) h, res0 g k ⟨rfl, rfl⟩⟩
  · cases e
theorem dE_max2 (hc : X.calm = true) (hm : X.mg "max" = none) (ha : PE X a (tE X W ma)) (hb : PE X b (tE X W mb)) (hg : Gl X "max" := by rfl) (he : starEach [a, b] X.env = (false, eval a X.env) :: starEach [b] X.env := by rfl) (he2 : starEach [b] X.env = (false, eval b X.env) :: starEach [] X.env := by rfl) (hpl : (backTo pos (starEach [b] X.env)).any (·.1) = false := by rfl) :
    PE X (.Call (.Name "max" p) [a, b] [] pos) (tE X W (mB dMax2 (mCons ma (mCons mb mNil)))) := dE_callB (call_max2 hc) opL_max2 hm (dA_cons ha (dA_cons hb dA_nil he2) he) (by decide +kernel) hg (he := he) (hpl := hpl)
theorem dE_min2 (hc : X.calm = true) (hm : X.mg "min" = none) (ha : PE X a (tE X W ma)) (hb : PE X b (tE X W mb)) (hg : Gl X "min" := by rfl) (he : starEach [a, b] X.env = (false, eval a X.env) :: starEach [b] X.env := by rfl) (he2 : starEach [b] X.env = (false, eval b X.env) :: starEach [] X.env := by rfl) (hpl : (backTo pos (starEach [b] X.env)).any (·.1) = false := by rfl) :
    PE X (.Call (.Name "min" p) [a, b] [] pos) (tE X W (mB dMin2 (mCons ma (mCons mb mNil)))) := dE_callB (call_min2 hc) opL_min2 hm (dA_cons ha (dA_cons hb dA_nil he2) he) (by decide +kernel) hg (he := he) (hpl := hpl)
def D.intsL : List D → Option (List Int)
  | [] => some []
  | .int b :: ds => (D.intsL ds).map (b :: ·)
  | _ => none
theorem RpL.ints : ∀ {ds : List D} {vs : List V} {bs : List Int} {S : List Addr}, D.intsL ds = some bs → RpL K w F H ds vs S → vs = bs.map V.int
  | [], _, _, _, e, h => by cases e; exact h.1
  | d :: ds, vs, bs, S, e, h => by
    obtain ⟨v, r, S1, S2, rfl, rfl, h1, h2⟩ := h.uncons
    cases d with
    | int b =>
      rw [D.intsL] at e
      cases q : D.intsL ds with
      | none => rw [q] at e; cases e
      | some bs' =>
        rw [q] at e; cases e
        rw [RpL.ints q h2, h1.1]; rfl
    | _ => cases e
def dSum : D → Option D
  | .lst _ ds => (D.intsL ds).map fun bs => .int bs.sum
  | _ => none
def dMaxL : D → Option D
  | .lst _ ds => (D.intsL ds).bind fun bs => match bs with
    | [] => none
    | b :: r => some (.int (r.foldl max b))
  | _ => none
theorem foldl_max : ∀ (r : List Int) (b : Int), (r.foldl max b = b ∨ r.foldl max b ∈ r) ∧ b ≤ r.foldl max b ∧ ∀ y ∈ r, y ≤ r.foldl max b
  | [], b => ⟨.inl rfl, Int.le_refl _, fun _ h => nomatch h⟩
  | c :: r, b => by
    obtain ⟨h1, h2, h3⟩ := foldl_max r (max b c)
    refine ⟨?_, ?_, fun y hy => ?_⟩
    · rcases h1 with h1 | h1
      · rw [List.foldl_cons, h1]
        rcases Int.le_total b c with q | q
        · rw [Int.max_eq_right q]; exact .inr List.mem_cons_self
        · rw [Int.max_eq_left q]; exact .inl rfl
      · exact .inr (List.mem_cons_of_mem _ h1)
    · rw [List.foldl_cons]; exact Int.le_trans (Int.le_max_left b c) h2
    · rw [List.foldl_cons]
      rcases List.mem_cons.mp hy with rfl | hy
      · exact Int.le_trans (Int.le_max_right b y) h2
      · exact h3 y hy
theorem op1_sum : Op1 K w (fun z H Q => rSum K [z] H Q) dSum := fun F H S1 d1 d x Q g h1 e k => by
  cases d1 with
  | lst m ds =>
    simp only [dSum] at e
    cases q : D.intsL ds with
    | none => rw [q] at e; cases e
    | some bs =>
      rw [q] at e; cases e
      obtain ⟨a, vs, S', rfl, s, r⟩ := h1.lst
      obtain rfl := r.ints q
      exact ⟨a, bs, rfl, SqL.of s, res0 g k ⟨rfl, rfl⟩⟩
  | _ => cases e
theorem op1_maxL : Op1 K w (fun z H Q => rMax K [z] H Q) dMaxL := fun F H S1 d1 d x Q g h1 e k => by
  cases d1 with
  | lst m ds =>
    simp only [dMaxL] at e
    cases q : D.intsL ds with
    | none => rw [q] at e; cases e
    | some bs =>
      rw [q] at e
      cases bs with
      | nil => cases e
      | cons b r =>
        cases e
        obtain ⟨a, vs, S', rfl, s, rr⟩ := h1.lst
        obtain rfl := rr.ints q
        obtain ⟨f1, f2, f3⟩ := foldl_max r b
        refine ⟨a, b :: r, rfl, SqL.of s, Nat.succ_pos _, fun m hm hle => ?_⟩
        have : m = r.foldl max b := by
          refine Int.le_antisymm ?_ ?_
          · rcases List.mem_cons.mp hm with rfl | hm
            · exact f2
            · exact f3 m hm
          · rcases f1 with f1 | f1
            · rw [f1]; exact hle b List.mem_cons_self
            · exact hle _ (List.mem_cons_of_mem _ f1)
        subst this
        exact res0 g k ⟨rfl, rfl⟩
  | _ => cases e
theorem dE_sum (hc : X.calm = true) (hm : X.mg "sum" = none) (ha : PE X a (tE X W ma)) (hg : Gl X "sum" := by rfl) (he : starEach [a] X.env = (false, eval a X.env) :: starEach [] X.env := by rfl) : PE X (.Call (.Name "sum" p) [a] [] pos) (tE X W (mB (one dSum) (mCons ma mNil))) :=
  dE_callB (cr_sum hc) (.one op1_sum fun _ _ _ h => h) hm (dA_cons ha dA_nil he) (by decide +kernel) hg (he := he)
theorem dE_maxL (hc : X.calm = true) (hm : X.mg "max" = none) (ha : PE X a (tE X W ma)) (hg : Gl X "max" := by rfl) (he : starEach [a] X.env = (false, eval a X.env) :: starEach [] X.env := by rfl) : PE X (.Call (.Name "max" p) [a] [] pos) (tE X W (mB (one dMaxL) (mCons ma mNil))) :=
  dE_callB (cr_max hc) (.one op1_maxL fun _ _ _ h => h) hm (dA_cons ha dA_nil he) (by decide +kernel) hg (he := he)
/-! str -/
def dStr : D → Option D
  | .int i => if i.natAbs.log2 < 1920 then some (.str (toString i)) else none
  | _ => none
theorem dE_strI (hm : X.mg "str" = none) (ha : PE X a (tE X W ma)) (hg : Gl X "str" := by rfl) (he : starEach [a] X.env = (false, eval a X.env) :: starEach [] X.env := by rfl) : PE X (.Call (.Name "str" p) [a] [] pos) (tE X W (mB (one dStr) (mCons ma mNil))) :=
  dE_callT call_str_int (.one (r := fun z H Q => ∃ i, [z] = [V.int i] ∧ i.natAbs.log2 < 1920 ∧ Q (.str (toString i)) H) (fun F H S1 d1 d x Q g h1 e k => by
    cases d1 with
    | int i =>
      simp only [dStr] at e
      split at e
      · rename_i c
        cases e
        obtain rfl := h1.1
        exact ⟨i, rfl, c, res0 g k ⟨rfl, rfl⟩⟩
      · cases e
    | _ => cases e) fun _ _ _ h => h) hm (dA_cons ha dA_nil he) (by decide +kernel) hg (he := he)
/-! multiplication: ints, lists, tuples -/
def repD (k : Int) (ds : List D) : List D := (List.replicate k.toNat ds).flatten
theorem fzL_append : ∀ {a b : List D}, D.fzL (a ++ b) = (D.fzL a && D.fzL b)
  | [], b => by rw [List.nil_append, D.fzL, Bool.true_and]
  | d :: a, b => by rw [List.cons_append, D.fzL, D.fzL, fzL_append, Bool.and_assoc]
theorem RpL.rep {ds : List D} {vs : List V} (h : RpL K w F H ds vs []) : ∀ n : Nat, RpL K w F H (List.replicate n ds).flatten (List.replicate n vs).flatten []
  | 0 => RpL.nil
  | n + 1 => by rw [List.replicate_succ, List.replicate_succ, List.flatten_cons, List.flatten_cons]; exact h.append (RpL.rep h n)
end
end Pl
set_option Elab.async false
set_option linter.all false
set_option maxRecDepth 100000
set_option maxHeartbeats 1000000
/-! Pl: statements. -/
namespace Pl
open PySem PySem.Spec PyProof.Rows L2

inductive Fl where
  | next
  | brk
  | ret (d : D)
/-- the first parameter stays in its slot (it is lent by the caller) -/
def PnOk (pn : Option V) (σ : L2.St) : Prop := ∀ v, pn = some v → σ[0]? = some (some v)
theorem PnOk.none {σ : L2.St} : PnOk none σ := fun _ h => nomatch h
theorem PnOk.set {pn : Option V} {σ : L2.St} {i : Nat} {x : Option V} (h : PnOk pn σ) (hi : i ≠ 0 ∨ pn = .none) : PnOk pn (σ.set i x) := fun v e => by
  rcases hi with hi | hi
  · rw [List.getElem?_set_ne hi]; exact h v e
  · rw [hi] at e; cases e

section
variable (X : Cx) (pn : Option V) (W : WX) (Dd : Ends)
def PstS (F : Fset) (H : Hp) (S : List Addr) (r : R Fl) : Prop := match r with
  | .ok .next e => ∀ σ' F' H' S', Step F H S F' H' S' → At X.K X.w F' H' e σ' [] [] S' → PnOk pn σ' → Dd.nx σ' H'
  | .ok .brk e => ∀ σ' F' H' S', Step F H S F' H' S' → At X.K X.w F' H' e σ' [] [] S' → PnOk pn σ' → Dd.bk σ' H'
  | .ok (.ret d) e => ∀ v σ' F' H' S', Step F H S F' H' S' → At X.K X.w F' H' e σ' [d] [v] S' → PnOk pn σ' → Dd.rt v H'
  | .exc x e => ∀ σ' cls dd F' H' S', Step F H S F' H' S' → At X.K X.w F' H' e σ' [] [] S' → PnOk pn σ' → ExnR X.K X.w F' H' x cls dd → W cls dd σ' H'
  | .fail => False
def tS (m : M Fl) : TS := fun Dd σ H => ∃ F e S, At X.K X.w F H e σ [] [] S ∧ PnOk pn σ ∧ PstS X pn W Dd F H S (m e)
end
section
variable {X : Cx} {pn : Option V} {W : WX} {Dd : Ends} {F F' F1 : Fset} {H H' H1 : Hp} {S S' S1 : List Addr} {σ : L2.St} {e : Env}
theorem PstS.later {r : R Fl} (h : PstS X pn W Dd F H S r) (st : Step F H S F' H' S') : PstS X pn W Dd F' H' S' r := by
  cases r with
  | ok f e =>
    cases f with
    | next => exact fun σ' F2 H2 S2 st2 A p => h σ' F2 H2 S2 (st.trans st2) A p
    | brk => exact fun σ' F2 H2 S2 st2 A p => h σ' F2 H2 S2 (st.trans st2) A p
    | ret d => exact fun v σ' F2 H2 S2 st2 A p => h v σ' F2 H2 S2 (st.trans st2) A p
  | exc x e => exact fun σ' cls dd F2 H2 S2 st2 A p => h σ' cls dd F2 H2 S2 (st.trans st2) A p
  | fail => exact h
/-- an expression first, then the rest of the statement -/
theorem stE {m : M D} {k : D → Env → R Fl} (A : At X.K X.w F1 H1 e σ [] [] S1) (p : PnOk pn σ) (st : Step F H S F1 H1 S1) (h : PstS X pn W Dd F H S ((m e).bind k)) :
    tE X W m σ H1 fun v H2 => ∃ d F2 e2 S2, Step F H S F2 H2 S2 ∧ At X.K X.w F2 H2 e2 σ [d] [v] S2 ∧ PstS X pn W Dd F H S (k d e2) := by
  refine ⟨F1, e, S1, A, ?_⟩
  cases r : m e with
  | ok d e' => rw [r] at h; exact fun v F' H' S' s a => ⟨d, F', e', S', st.trans s, a, h⟩
  | exc x e' => rw [r] at h; exact fun cls dd F' H' S' s a q => h σ cls dd F' H' S' (st.trans s) a p q
  | fail => rw [r] at h; exact h.elim
theorem stB {m : M D} {k : Bool → Env → R Fl} (A : At X.K X.w F1 H1 e σ [] [] S1) (p : PnOk pn σ) (st : Step F H S F1 H1 S1) (h : PstS X pn W Dd F H S ((m e).bind (onB k))) :
    tT X W m σ H1 fun b H2 => ∃ F2 e2 S2, Step F H S F2 H2 S2 ∧ At X.K X.w F2 H2 e2 σ [] [] S2 ∧ PstS X pn W Dd F H S (k b e2) := by
  refine ⟨F1, e, S1, A, ?_⟩
  cases r : m e with
  | ok d e' =>
    rw [r] at h
    cases d with
    | bl b => exact fun F' H' S' s a => ⟨F', e', S', st.trans s, a, h⟩
    | _ => exact h.elim
  | exc x e' => rw [r] at h; exact fun cls dd F' H' S' s a q => h σ cls dd F' H' S' (st.trans s) a p q
  | fail => rw [r] at h; exact h.elim
theorem stA {m : M (List D)} {k : List D → Env → R Fl} (A : At X.K X.w F1 H1 e σ [] [] S1) (p : PnOk pn σ) (st : Step F H S F1 H1 S1) (h : PstS X pn W Dd F H S ((m e).bind k)) :
    tA X W m σ H1 fun vs H2 => ∃ ds F2 e2 S2, Step F H S F2 H2 S2 ∧ At X.K X.w F2 H2 e2 σ ds vs S2 ∧ PstS X pn W Dd F H S (k ds e2) := by
  refine ⟨F1, e, S1, A, ?_⟩
  cases r : m e with
  | ok d e' => rw [r] at h; exact fun v F' H' S' s a => ⟨d, F', e', S', st.trans s, a, h⟩
  | exc x e' => rw [r] at h; exact fun cls dd F' H' S' s a q => h σ cls dd F' H' S' (st.trans s) a p q
  | fail => rw [r] at h; exact h.elim
/-- a value goes into a slot -/
theorem At.store {K : PySem.W.Frag} {w : World} {ds : List D} {vs : List V} {d : D} {v : V} {i : Nat} (A : At K w F H e σ (d :: ds) (v :: vs) S) (hi : i < e.length) : ∃ S', At K w F H (e.set i (some d)) (σ.set i (some v)) ds vs S' ∧ Step F H S F H S' := by
  obtain ⟨Sd, Se, rfl, hd, he, g⟩ := A
  obtain ⟨v', r, S1, S2, e1, rfl, h1, h2⟩ := hd.uncons
  cases e1
  obtain ⟨S3, sub, q⟩ := he.drop i
  obtain ⟨S4, pm, q2⟩ := (q.any (some v) (set_none hi)).put (set_none hi) h1
  rw [List.set_set, List.set_set] at q2
  have nd : (S2 ++ S4).Nodup := by
    have n1 : ((S1 ++ S2) ++ S3).Nodup := ((List.Sublist.refl (S1 ++ S2)).append sub).nodup g.nd
    have p1 : (S2 ++ S4).Perm ((S1 ++ S2) ++ S3) := by
      refine ((List.Perm.refl S2).append pm).trans ?_
      rw [← List.append_assoc]
      exact List.perm_append_comm.append_right _
    exact p1.nodup_iff.mpr n1
  have sb : ∀ a ∈ S2 ++ S4, a ∈ (S1 ++ S2) ++ Se := fun a ha => by
    rcases List.mem_append.mp ha with z | z
    · exact List.mem_append_left _ (List.mem_append_right _ z)
    · rcases List.mem_append.mp (pm.mem_iff.mp z) with z | z
      · exact List.mem_append_left _ (List.mem_append_left _ z)
      · exact List.mem_append_right _ (sub.subset z)
  exact ⟨S2 ++ S4, ⟨S2, S4, rfl, h2, q2, g.sub sb nd⟩, Step.weak g sb nd⟩
end

/-! ### small statements -/
def mSeq (a b : M Fl) : M Fl := fun e => (a e).bind fun f e1 => match f with
  | .next => b e1
  | f => .ok f e1
def mNext : M Fl := fun e => .ok .next e
def mBrk : M Fl := fun e => .ok .brk e
def mRet (m : M D) : M Fl := fun e => (m e).bind fun d e1 => .ok (.ret d) e1
def mDo (m : M D) : M Fl := fun e => (m e).bind fun _ e1 => .ok .next e1
def mIf (c : M D) (a b : M Fl) : M Fl := fun e => (c e).bind (onB fun t e1 => if t = true then a e1 else b e1)
def mSet (i : Nat) (m : M D) : M Fl := fun e => (m e).bind fun d e1 => if i < e1.length then .ok .next (e1.set i (some d)) else .fail
def mPar (i j : Nat) (m : M (List D)) : M Fl := fun e => (m e).bind fun ds e1 => match ds with
  | [a, b] => if i < e1.length ∧ j < e1.length then .ok .next ((e1.set i (some a)).set j (some b)) else .fail
  | _ => .fail
def mPar3 (i j l : Nat) (m : M (List D)) : M Fl := fun e => (m e).bind fun ds e1 => match ds with
  | [a, b, c] => if i < e1.length ∧ j < e1.length ∧ l < e1.length then .ok .next (((e1.set i (some a)).set j (some b)).set l (some c)) else .fail
  | _ => .fail
section
variable {X : Cx} {pn : Option V} {W : WX} {st : Stmt} {rest a b : List Stmt} {m m' : M Fl} {c e : Expr} {md : M D} {pos : Pos}
theorem PSimp {t t' : TS} (h : PS X st t) (k : ∀ D σ H, t' D σ H → t D σ H) : PS X st t' := ⟨fun pins s σ H D I q => h.run pins s σ H D I (k D σ H q)⟩
theorem PSsimp {t t' : TS} (h : PSs X rest t) (k : ∀ D σ H, t' D σ H → t D σ H) : PSs X rest t' := ⟨fun pins s σ H D I q => h.run pins s σ H D I (k D σ H q)⟩
theorem dSs_nil : PSs X [] (tS X pn W mNext) := PSsimp pss_nil fun D σ H q => by
  obtain ⟨F, e, S, A, p, q⟩ := q
  exact q σ F H S (Step.refl A.good) A p
theorem tS_seq : ∀ Dd σ H, tS X pn W (mSeq m m') Dd σ H → tSeq (tS X pn W m) (tS X pn W m') Dd σ H := fun Dd σ H q => by
  obtain ⟨F, e, S, A, p, q⟩ := q
  refine ⟨F, e, S, A, p, ?_⟩
  unfold mSeq at q
  cases r : m e with
  | ok f e1 =>
    rw [r] at q
    cases f with
    | next => exact fun σ' F' H' S' st B p' => ⟨F', e1, S', B, p', PstS.later q st⟩
    | brk => exact q
    | ret d => exact q
  | exc x e1 => rw [r] at q; exact q
  | fail => rw [r] at q; exact q
theorem dSs_cons (h1 : PS X st (tS X pn W m)) (h2 : PSs X rest (tS X pn W m')) : PSs X (st :: rest) (tS X pn W (mSeq m m')) := PSsimp (pss_cons h1 h2) tS_seq
theorem dSs_one (h1 : PS X st (tS X pn W m)) : PSs X [st] (tS X pn W m) := pss_one h1
theorem dS_ret (h : PE X e (tE X W md)) : PS X (.Return (some e) pos) (tS X pn W (mRet md)) := PSimp (ps_ret h) fun Dd σ H q => by
  obtain ⟨F, e, S, A, p, q⟩ := q
  refine tE_mono (stE A p (Step.refl A.good) q) fun v H' z => ?_
  obtain ⟨d, F2, e2, S2, st, B, k⟩ := z
  exact k v σ F2 H' S2 st B p
theorem dS_retN : PS X (.Return none pos) (tS X pn W (mRet (mC .non))) := PSimp ps_retN fun Dd σ H q => by
  obtain ⟨F, e, S, A, p, q⟩ := q
  exact q .non σ F H S (Step.refl A.good) (A.push0 ⟨rfl, rfl⟩) p
theorem dS_pass : PS X (.Pass pos) (tS X pn W mNext) := PSimp ps_pass fun D σ H q => by
  obtain ⟨F, e, S, A, p, q⟩ := q
  exact q σ F H S (Step.refl A.good) A p
theorem dS_brk : PS X (.Break pos) (tS X pn W mBrk) := PSimp ps_break fun D σ H q => by
  obtain ⟨F, e, S, A, p, q⟩ := q
  exact q σ F H S (Step.refl A.good) A p
theorem dS_do (h : PE X e (tE X W md)) (hs : swapsWith e none pos.line X.env = pure false := by rfl) : PS X (.Expr e pos) (tS X pn W (mDo md)) := PSimp (ps_expr h hs) fun Dd σ H q => by
  obtain ⟨F, e, S, A, p, q⟩ := q
  refine tE_mono (stE A p (Step.refl A.good) q) fun v H' z => ?_
  obtain ⟨d, F2, e2, S2, st, B, k⟩ := z
  obtain ⟨T, B2, st2⟩ := B.pop
  exact k σ F2 H' T (st.trans st2) B2 p
theorem tT_mono {m : M D} {σ : L2.St} {H : Hp} {Q Q' : Bool → Hp → Prop} (h : tT X W m σ H Q) (k : ∀ v H', Q v H' → Q' v H') : tT X W m σ H Q' := by
  obtain ⟨F, e, S, A, q⟩ := h
  refine ⟨F, e, S, A, q.mono fun d e' g => ?_⟩
  cases d with
  | bl b => exact fun F' H' S' st B => k _ _ (g F' H' S' st B)
  | _ => exact g
theorem dS_if (hc : PT X c (tT X W md)) (ha : PSs X a (tS X pn W m)) (hb : PSs X b (tS X pn W m')) : PS X (.If c a b pos) (tS X pn W (mIf md m m')) := PSimp (ps_if hc ha hb) fun Dd σ H q => by
  obtain ⟨F, e, S, A, p, q⟩ := q
  refine tT_mono (stB A p (Step.refl A.good) q) fun t H' z => ?_
  obtain ⟨F2, e2, S2, st, B, k⟩ := z
  cases t with
  | true =>
    rw [if_pos rfl] at k ⊢
    exact ⟨F2, e2, S2, B, p, k.later st⟩
  | false =>
    rw [if_neg Bool.false_ne_true] at k ⊢
    exact ⟨F2, e2, S2, B, p, k.later st⟩
theorem dS_set {x : Str} {px : Pos} (i : Nat) (hN : X.N.Nodup) (h : PE X e (tE X W md)) (hp : i ≠ 0 ∨ pn = none) (hi : X.N[i]? = some x := by rfl) (hx : Loc X.env.scope x := by first | exact .inl rfl | exact .inr rfl) (hs : swapsWith e (some (.Name x px)) pos.line X.env = pure false := by rfl)
    (hf : X.fn x = true ∨ X.env.scope.names.lookup x = some .local := by first | exact .inl rfl | exact .inr rfl | assumption) : PS X (.Assign [.Name x px] e pos) (tS X pn W (mSet i md)) := PSimp (ps_set hN hi hx h hs hf) fun Dd σ H q => by
  obtain ⟨F, e, S, A, p, q⟩ := q
  refine tE_mono (stE A p (Step.refl A.good) q) fun v H' z => ?_
  obtain ⟨d, F2, e2, S2, st, B, k⟩ := z
  split at k
  · rename_i hl
    obtain ⟨S3, B3, st3⟩ := B.store hl
    exact k _ F2 H' S3 (st.trans st3) B3 (p.set hp)
  · exact k.elim
theorem tA_mono {m : M (List D)} {σ : L2.St} {H : Hp} {Q Q' : List V → Hp → Prop} (h : tA X W m σ H Q) (k : ∀ v H', Q v H' → Q' v H') : tA X W m σ H Q' := by
  obtain ⟨F, e, S, A, q⟩ := h
  exact ⟨F, e, S, A, q.mono fun d e' g v F' H' S' st B => k _ _ (g v F' H' S' st B)⟩
theorem At.parts2 {K : PySem.W.Frag} {w : World} {F : Fset} {H : Hp} {S : List Addr} {σ : L2.St} {e : Env} {d1 d2 : D} {vs : List V} (A : At K w F H e σ [d1, d2] vs S) : ∃ v1 v2, vs = [v1, v2] := by
  obtain ⟨Sd, Se, rfl, h, _, _⟩ := A
  have l := h.length
  match vs, l with
  | [v1, v2], _ => exact ⟨v1, v2, rfl⟩
theorem dS_par {i j : Nat} {x y : Str} {e1 e2 : Expr} {px py pt : Pos} {kt k2 pt2} {ms : M (List D)} (hN : X.N.Nodup) (ha : PA X [e1, e2] (tA X W ms)) (hp : (i ≠ 0 ∧ j ≠ 0) ∨ pn = none) (hi : X.N[i]? = some x := by rfl) (hj : X.N[j]? = some y := by rfl) (hij : i ≠ j := by decide) (hc : X.calm = true := by rfl)
    (hx : X.env.scope.names.lookup x = some .local := by rfl) (hy : X.env.scope.names.lookup y = some .local := by rfl)
    (hw : swappedStores [.Tuple [.Name x px, .Name y py] kt pt] (.Tuple [e1, e2] k2 pt2) X.env = pure (some [x, y]) := by rfl)
    (hs : swapsWithSole [.Tuple [.Name x px, .Name y py] kt pt] (.Tuple [e1, e2] k2 pt2) pos.line X.env = pure false := by rfl) :
    PS X (.Assign [.Tuple [.Name x px, .Name y py] kt pt] (.Tuple [e1, e2] k2 pt2) pos) (tS X pn W (mPar i j ms)) := PSimp (ps_par hc hN hi hj hij hx hy ha hw hs) fun Dd σ H q => by
  obtain ⟨F, e, S, A, p, q⟩ := q
  refine tA_mono (stA A p (Step.refl A.good) q) fun vs H' z => ?_
  obtain ⟨ds, F2, e2, S2, st, B, k⟩ := z
  match ds, k with
  | [d1, d2], k =>
    obtain ⟨v1, v2, rfl⟩ := B.parts2
    refine ⟨v1, v2, rfl, ?_⟩
    simp only at k
    split at k
    · rename_i hl
      obtain ⟨S3, B3, st3⟩ := B.store hl.1
      obtain ⟨S4, B4, st4⟩ := B3.store (i := j) (by rw [List.length_set]; exact hl.2)
      exact k _ F2 H' S4 ((st.trans st3).trans st4) B4 ((p.set (hp.imp (·.1) id)).set (hp.imp (·.2) id))
    · exact k.elim
end
/-! ### targets -/
/-- a target: a name's slot, or several -/
inductive Tgt where
  | nm (i : Nat)
  | tp (ts : List Tgt)
mutual
def asg : Tgt → D → Env → Option Env
  | .nm i, d, e => if i < e.length then some (e.set i (some d)) else none
  | .tp ts, d, e => match d with
    | .tup ds => asgL ts ds e
    | _ => none
def asgL : List Tgt → List D → Env → Option Env
  | [], [], e => some e
  | t :: ts, d :: ds, e => match asg t d e with
    | some e' => asgL ts ds e'
    | none => none
  | _, _, _ => none
end
mutual
def Tgt.sl : Tgt → List Nat
  | .nm i => [i]
  | .tp ts => Tgt.slL ts
def Tgt.slL : List Tgt → List Nat
  | [] => []
  | t :: ts => Tgt.sl t ++ Tgt.slL ts
end
/-- the slots but for these as they were -/
def KeepOut (l : List Nat) (σ σ' : L2.St) : Prop := ∀ is : List Nat, (∀ j ∈ l, j ∈ is) → wipe σ' is = wipe σ is
theorem wipe_in {x : Option V} : ∀ {is : List Nat} {i : Nat} {σ : L2.St}, i ∈ is → wipe (σ.set i x) is = wipe σ is
  | [], _, _, h => nomatch h
  | j :: js, i, σ, h => by
    unfold wipe
    by_cases hj : i ∈ js
    · rw [wipe_in hj]
    · have e : i = j := by
        rcases List.mem_cons.mp h with z | z
        · exact z
        · exact absurd z hj
      subst e
      have out : ∀ (js : List Nat) (σ : L2.St), i ∉ js → wipe (σ.set i x) js = (wipe σ js).set i x := by
        intro js
        induction js with
        | nil => intro σ _; rfl
        | cons k ks ih =>
          intro σ hk
          unfold wipe
          rw [ih σ (fun z => hk (List.mem_cons_of_mem _ z))]
          exact List.set_comm _ _ (fun z => hk (by rw [z]; exact List.mem_cons_self))
      rw [out js σ hj, List.set_set]
theorem KeepOut.refl {l : List Nat} {σ : L2.St} : KeepOut l σ σ := fun _ _ => rfl
theorem KeepOut.trans {l m : List Nat} {σ σ' σ2 : L2.St} (a : KeepOut l σ σ') (b : KeepOut m σ' σ2) : KeepOut (l ++ m) σ σ2 := fun is h => by
  rw [b is fun j hj => h j (List.mem_append_right _ hj), a is fun j hj => h j (List.mem_append_left _ hj)]
/-- what a target does -/
def tG (X : Cx) (pn : Option V) (t : Tgt) : TG := fun v σ H Q => ∃ d F e S ds vs, At X.K X.w F H e σ (d :: ds) (v :: vs) S ∧ PnOk pn σ ∧ match asg t d e with
  | some e' => ∀ σ' S', At X.K X.w F H e' σ' ds vs S' → Step F H S F H S' → PnOk pn σ' → KeepOut t.sl σ σ' → Q σ' H
  | none => False
def tGs (X : Cx) (pn : Option V) (ts : List Tgt) : TGs := fun us σ H Q => ∃ es F e S ds vs, At X.K X.w F H e σ (es ++ ds) (us ++ vs) S ∧ es.length = us.length ∧ PnOk pn σ ∧ match asgL ts es e with
  | some e' => ∀ σ' S', At X.K X.w F H e' σ' ds vs S' → Step F H S F H S' → PnOk pn σ' → KeepOut (Tgt.slL ts) σ σ' → Q σ' H
  | none => False
section
variable {X : Cx} {pn : Option V} {W : WX} {pos : Pos}
theorem PGimp {t : Expr} {g g' : TG} (h : PG X t g) (k : ∀ v σ H Q, g' v σ H Q → g v σ H Q) : PG X t g' := ⟨fun pins s σ H v u Q I r q => h.run pins s σ H v u Q I r (k v σ H Q q)⟩
theorem PGsimp {t : List Expr} {g g' : TGs} (h : PGs X t g) (k : ∀ v σ H Q, g' v σ H Q → g v σ H Q) : PGs X t g' := ⟨fun pins s σ H v u Q I r q => h.run pins s σ H v u Q I r (k v σ H Q q)⟩
theorem dG_nm {x : Str} (i : Nat) (hN : X.N.Nodup) (hp : i ≠ 0 ∨ pn = none) (hi : X.N[i]? = some x := by rfl) (hx : Loc X.env.scope x := by first | exact .inl rfl | exact .inr rfl) (hf : X.fn x = true ∨ X.env.scope.names.lookup x = some .local := by first | exact .inl rfl | exact .inr rfl | assumption) :
    PG X (.Name x pos) (tG X pn (.nm i)) := PGimp (pg_name hN hi hx hf) fun v σ H Q q => by
  obtain ⟨d, F, e, S, ds, vs, A, p, q⟩ := q
  rw [asg] at q
  split at q
  · rename_i e' he
    split at he
    · rename_i hl
      cases he
      obtain ⟨S3, B3, st3⟩ := A.store hl
      exact q _ S3 B3 st3 (p.set hp) fun is h => wipe_in (h i (by rw [Tgt.sl]; exact List.mem_cons_self))
    · cases he
  · exact q.elim
theorem dGs_nil : PGs X [] (tGs X pn []) := PGsimp pgs_nil fun us σ H Q q => by
  obtain ⟨es, F, e, S, ds, vs, A, hl, p, q⟩ := q
  cases es with
  | nil =>
    have : us = [] := List.eq_nil_of_length_eq_zero hl.symm
    subst this
    exact ⟨rfl, q σ S A (Step.refl A.good) p KeepOut.refl⟩
  | cons d es => exact q.elim
theorem dGs_cons {t : Expr} {ts : List Expr} {g : Tgt} {gs : List Tgt} (h1 : PG X t (tG X pn g)) (h2 : PGs X ts (tGs X pn gs)) (hs : (assignEach (t :: ts) X.env).map (·.2) = assign t X.env :: (assignEach ts X.env).map (·.2) := by rfl) : PGs X (t :: ts) (tGs X pn (g :: gs)) := PGsimp (pgs_cons h1 h2 hs) fun us σ H Q q => by
  obtain ⟨es, F, e, S, ds, vs, A, hl, p, q⟩ := q
  cases es with
  | nil => exact q.elim
  | cons d es =>
    cases us with
    | nil => cases hl
    | cons v us =>
      rw [asgL] at q
      refine ⟨v, us, rfl, d, F, e, S, es ++ ds, us ++ vs, A, p, ?_⟩
      cases r : asg g d e with
      | none => rw [r] at q; exact q.elim
      | some e' =>
        rw [r] at q
        refine fun σ' S' B st p' ko => ⟨es, F, e', S', ds, vs, B, by simpa using hl, p', ?_⟩
        simp only at q
        cases r2 : asgL gs es e' with
        | none => rw [r2] at q; exact q.elim
        | some e2 =>
          rw [r2] at q
          exact fun σ2 S2 B2 st2 p2 ko2 => q σ2 S2 B2 (st.trans st2) p2 (by rw [Tgt.slL]; exact ko.trans ko2)
theorem dG_tp {es : List Expr} {k n : Nat} {gs : List Tgt} (h : PGs X es (tGs X pn gs)) (hg : gs.length = n := by rfl) (hc : X.calm = true := by rfl) (hn : (assignEach es X.env).length = n := by rfl) (hst : (assignEach es X.env).findIdx? (·.1) = none := by rfl) : PG X (.Tuple es k pos) (tG X pn (.tp gs)) := PGimp (pg_tup hc h hn hst) fun v σ H Q q => by
  obtain ⟨d, F, e, S, ds, vs, A, p, q⟩ := q
  cases d with
  | tup xs =>
    obtain ⟨Sd, Se, rfl, hd, he, g⟩ := A
    obtain ⟨v', r, S1, S2, e1, rfl, h1, h2⟩ := hd.uncons
    cases e1
    rw [Rp] at h1
    obtain ⟨a, us, rfl, s, r1⟩ := h1
    rw [asg] at q
    have len : ∀ (gs : List Tgt) (xs : List D) (e : Env) (e' : Env), asgL gs xs e = some e' → gs.length = xs.length := by
      intro gs
      induction gs with
      | nil => intro xs e e' h; cases xs with
        | nil => rfl
        | cons _ _ => cases h
      | cons g gs ih =>
        intro xs e e' h
        cases xs with
        | nil => cases h
        | cons x xs =>
          rw [asgL] at h
          cases r : asg g x e with
          | none => rw [r] at h; cases h
          | some e2 => rw [r] at h; rw [List.length_cons, List.length_cons, ih xs e2 e' h]
    cases r2 : asgL gs xs e with
    | none => rw [r2] at q; exact q.elim
    | some e' =>
      rw [r2] at q
      have hl := len gs xs e e' r2
      refine ⟨a, us, rfl, s, by rw [← r1.length, ← hl, hg], xs, F, e, (S1 ++ S2) ++ Se, ds, vs, ⟨S1 ++ S2, Se, rfl, r1.append h2, he, g⟩, r1.length, p, ?_⟩
      rw [r2]
      refine fun σ' S' B st p' ko => q σ' S' B st p' ?_
      rw [Tgt.sl]
      exact ko
  | _ => exact q.elim
/-- targets = value -/
def mAsg (t : Tgt) (m : M D) : M Fl := fun e => (m e).bind fun d e1 => match asg t d e1 with
  | some e2 => .ok .next e2
  | none => .fail
theorem dS_asg {tg e : Expr} {g : Tgt} {md : M D} (he : PE X e (tE X W md)) (hg : PG X tg (tG X pn g)) (hs : swapsWithSole [tg] e pos.line X.env = pure false := by rfl) (hw : swappedStores [tg] e X.env = pure none := by rfl)
    (h1 : (assignEach [tg] X.env).map (·.2) = [assign tg X.env] := by rfl) : PS X (.Assign [tg] e pos) (tS X pn W (mAsg g md)) := PSimp (ps_asg he hg hs hw h1) fun Dd σ H q => by
  obtain ⟨F, e, S, A, p, q⟩ := q
  refine tE_mono (stE A p (Step.refl A.good) q) fun v H' z => ?_
  obtain ⟨d, F2, e2, S2, st, B, k⟩ := z
  refine ⟨d, F2, e2, S2, [], [], B, p, ?_⟩
  cases r : asg g d e2 with
  | none => rw [r] at k; exact k.elim
  | some e' =>
    rw [r] at k
    exact fun σ' S' B' st' p' _ => k σ' F2 H' S' (st.trans st') B' p'
end
end Pl
set_option Elab.async false
set_option linter.all false
set_option maxRecDepth 100000
set_option maxHeartbeats 1000000
/-! Pl: defs and calls. -/
namespace Pl
open PySem PySem.Spec PyProof.Rows L2

/-- what a call gives: its value (or its exception), and what became of a lent first argument -/
inductive RC where
  | ok (d : D) (io : List D)
  | exc (x : Exn) (io : List D)
  | fail
/-- the lent argument behind the run -/
def pickIO : Nat → Env → Option (List D)
  | 0, _ => some []
  | _ + 1, some d :: _ => some [d]
  | _ + 1, _ => none
def runE (n : Nat) (r : R Fl) : RC := match r with
  | .ok (.ret d) e => match pickIO n e with
    | some io => .ok d io
    | none => .fail
  | .ok .next e => match pickIO n e with
    | some io => .ok .non io
    | none => .fail
  | .ok .brk _ => .fail
  | .exc x e => match pickIO n e with
    | some io => .exc x io
    | none => .fail
  | .fail => .fail
/-- a def of np parameters and N slots: its body run at its arguments; n = 1: its first argument is lent -/
def runF (n np N : Nat) (m : M Fl) (args : List D) : RC := if args.length = np then runE n (m (args.map some ++ List.replicate (N - args.length) none)) else .fail
/-- what such a def promises -/
def SpD (K : PySem.W.Frag) (w : World) (n : Nat) (c : List D → RC) : Sp := fun vs H Q E => ∃ F ds S, Good F H S ∧ RpL K w F H ds vs S ∧ match c ds with
  | .ok d io => ∀ v F' H' S', Step F H S F' H' S' → RpL K w F' H' (d :: io) (v :: vs.take n) S' → Q v H'
  | .exc x io => ∀ cls dd F' H' S', Step F H S F' H' S' → RpL K w F' H' io (vs.take n) S' → ExnR K w F' H' x cls dd → E cls dd H'
  | .fail => False
section
variable {K : PySem.W.Frag} {w : World} {F : Fset} {H : Hp}
theorem envR_none : ∀ n : Nat, EnvR K w F H (List.replicate n none) (List.replicate n none) []
  | 0 => ⟨rfl, rfl⟩
  | n + 1 => by rw [List.replicate_succ, List.replicate_succ, EnvR]; exact ⟨none, _, rfl, envR_none n⟩
theorem envR_start (n : Nat) : ∀ {ds : List D} {vs : List V} {S : List Addr}, RpL K w F H ds vs S → EnvR K w F H (ds.map some ++ List.replicate n none) (vs.map some ++ List.replicate n none) S
  | [], vs, S, h => by
    obtain ⟨rfl, rfl⟩ := h
    exact envR_none n
  | d :: ds, vs, S, h => by
    obtain ⟨v, r, S1, S2, rfl, rfl, h1, h2⟩ := h.uncons
    rw [List.map_cons, List.map_cons, List.cons_append, List.cons_append, EnvR]
    exact ⟨v, _, S1, S2, rfl, rfl, h1, envR_start n h2⟩
def pnOf (n : Nat) (vs : List V) : Option V := if n = 0 then none else vs[0]?
theorem pn_start {n k : Nat} {vs : List V} : PnOk (pnOf n vs) (vs.map some ++ List.replicate k none) := fun v e => by
  unfold pnOf at e
  split at e
  · cases e
  · cases vs with
    | nil => cases e
    | cons a r => cases e; rfl
/-- the lent argument, behind the run -/
theorem pick_ok {n : Nat} {e : Env} {σ : L2.St} {ds : List D} {us vs : List V} {S : List Addr} {io : List D} (A : At K w F H e σ ds us S) (p : PnOk (pnOf n vs) σ) (hv : n ≤ 1 ∧ n ≤ vs.length) (h : pickIO n e = some io) :
    ∃ T, RpL K w F H (ds ++ io) (us ++ vs.take n) T ∧ Step F H S F H T := by
  obtain ⟨Sd, Se, rfl, hd, he, g⟩ := A
  match n, hv, h, p with
  | 0, hv, h, p =>
    cases h
    rw [List.append_nil, List.take_zero, List.append_nil]
    exact ⟨Sd, hd, Step.weak g (fun a ha => List.mem_append_left _ ha) g.left.nd⟩
  | 1, hv, h, p =>
    cases e with
    | nil => cases h
    | cons x e =>
      cases x with
      | none => cases h
      | some d =>
        cases h
        obtain ⟨v, S1, S2, q1, q2, q3, q4⟩ := he.take (i := 0) (d := d) rfl
        cases vs with
        | nil => exact absurd hv.2 (by simp)
        | cons v0 vr =>
          have e1 := p v0 rfl
          rw [q1] at e1
          cases e1
          have sb : ∀ a ∈ Sd ++ S1, a ∈ Sd ++ Se := fun a ha => by
            rcases List.mem_append.mp ha with z | z
            · exact List.mem_append_left _ z
            · exact List.mem_append_right _ (q2.mem_iff.mpr (List.mem_append_left _ z))
          have nd : (Sd ++ S1).Nodup := by
            have n2 : (Sd ++ (S1 ++ S2)).Nodup := ((List.Perm.refl Sd).append q2).nodup_iff.mp g.nd
            rw [← List.append_assoc] at n2
            exact (List.nodup_append.mp n2).1
          have z := hd.append (RpL.cons (vs := []) (S2 := []) q3 RpL.nil)
          rw [List.append_nil] at z
          exact ⟨Sd ++ S1, z, Step.weak g sb nd⟩
  | n + 2, hv, h, p => exact absurd hv.1 (by omega)
end
/-- a def's body, run -/
theorem body_run {X : Cx} {n np : Nat} {m : M Fl} {vs : List V} {H : Hp} {Q : VK} {E : XK} {W : WX} (hn : n ≤ 1 ∧ n ≤ np) (hW : ∀ cls d σ H, E cls d H → W cls d σ H) (h : SpD X.K X.w n (runF n np X.N.length m) vs H Q E) :
    tS X (pnOf n vs) W m { nx := fun _ H' => Q .non H', rt := Q } (L2.start X.N vs) H := by
  obtain ⟨F, ds, S, g, r, h⟩ := h
  have hl := r.length
  unfold runF at h
  by_cases hnp : ds.length = np
  · rw [if_pos hnp] at h
    unfold L2.start
    rw [hl] at h
    refine ⟨F, _, S, ⟨[], S, rfl, RpL.nil, envR_start _ r, g⟩, pn_start, ?_⟩
    have hv : n ≤ 1 ∧ n ≤ vs.length := ⟨hn.1, by omega⟩
    generalize m (ds.map some ++ List.replicate (X.N.length - vs.length) none) = rr at h
    cases rr with
    | ok f e =>
      cases f with
      | next =>
        intro σ' F' H' S' st A p
        cases q : pickIO n e with
        | none => simp only [runE, q] at h
        | some io =>
          simp only [runE, q] at h
          obtain ⟨T, z, st2⟩ := pick_ok A p hv q
          exact h .non F' H' T (st.trans st2) (RpL.cons (S1 := []) (d := .non) (v := .non) ⟨rfl, rfl⟩ z)
      | brk => exact h.elim
      | ret d =>
        intro v σ' F' H' S' st A p
        cases q : pickIO n e with
        | none => simp only [runE, q] at h
        | some io =>
          simp only [runE, q] at h
          obtain ⟨T, z, st2⟩ := pick_ok A p hv q
          exact h v F' H' T (st.trans st2) z
    | exc x e =>
      intro σ' cls dd F' H' S' st A p xr
      cases q : pickIO n e with
      | none => simp only [runE, q] at h
      | some io =>
        simp only [runE, q] at h
        obtain ⟨T, z, st2⟩ := pick_ok A p hv q
        exact hW _ _ _ _ (h cls dd F' H' T (st.trans st2) z xr)
    | fail => exact h.elim
  · rw [if_neg hnp] at h
    exact h.elim

/-- a def that stands as the module's x: what it does is c -/
structure FnX (P : Program) (w : World) (K : PySem.W.Frag) (mg : Str → Option Value) (base : Heap) (x : Str) (k : Nat) (n : Nat) (c : List D → RC) : Prop where
  ex : ∃ f fd ps, mg x = some (.ref f) ∧ PySem.W.keepIn K (.ref f) = true ∧ Binds K fd ps [] ∧ FnOk P w K mg base (L2.CX P w) k f fd ps (SpD K w n c)
/-- a method m of the class at C -/
structure MtX (P : Program) (w : World) (K : PySem.W.Frag) (mg : Str → Option Value) (base : Heap) (c m : Str) (k : Nat) (n : Nat) (f : List D → RC) : Prop where
  ex : ∃ fa fd ps, Cls K (He.ga K c) ∧ Meth K (He.ga K c) m fa ∧ Binds K fd ps [] ∧ FnOk P w K mg base (L2.CX P w) k fa fd ps (SpD K w n f)
/-- the rule for a def of the text -/
theorem fnOk_of {P : Program} {w : World} {K : PySem.W.Frag} {mg : Str → Option Value} {base : Heap} {x qual : Str} {params : Arguments} {body : List Stmt} {scope : Scope} {f : Addr} {fd : FuncData} {N ps : List Str} {k n : Nat} {m : M Fl}
    (F : FunD K x qual params body scope [] [] f fd) (S : FnScope N ps scope) (hn : n ≤ 1 ∧ n ≤ ps.length)
    (hb : ∀ (cdv : Value) (A : Around) (outer : List PySem.Env) (s : Shared) (H : Hp) (E : XK) (pn : Option V) (W : WX), Room k (A.deeper (envOfC qual scope s.heap.objs.size f cdv)) → (n = 0 → pn = none) →
      Takes (cxOf (L2.CX P w) P w K mg base N qual scope f cdv A outer s H E) W → PSs (cxOf (L2.CX P w) P w K mg base N qual scope f cdv A outer s H E) body (tS (cxOf (L2.CX P w) P w K mg base N qual scope f cdv A outer s H E) pn W m)) :
    FnOk P w K mg base (L2.CX P w) (k + 1) f fd ps (SpD K w n (runF n ps.length N.length m)) := by
  refine F.ok S (fun vs H Q E h => ?_) (fun cdv A outer s H vs Q E hr h => ⟨tS (cxOf (L2.CX P w) P w K mg base N qual scope f cdv A outer s H E) (pnOf n vs) (fun cls d _ H => E cls d H) m, ?_, ?_⟩)
  · obtain ⟨F, ds, S, g, r, h⟩ := h
    rw [← r.length]
    unfold runF at h
    by_cases hnp : ds.length = ps.length
    · exact hnp
    · rw [if_neg hnp] at h
      exact h.elim
  · exact hb cdv A outer s H E _ _ hr (fun e => by rw [e]; rfl) (takes_of rfl rfl rfl rfl)
  · exact body_run (X := cxOf (L2.CX P w) P w K mg base N qual scope f cdv A outer s H E) hn (fun _ _ _ _ h => h) h
end Pl
set_option Elab.async false
set_option linter.all false
set_option maxRecDepth 100000
set_option maxHeartbeats 1000000
/-! Pl: calls of defs and methods, instances made, properties. -/
namespace Pl
open PySem PySem.Spec PyProof.Rows L2

def mCall (c : List D → RC) (ms : M (List D)) : M D := fun e => (ms e).bind fun ds e1 => match c ds with
  | .ok d _ => .ok d e1
  | .exc x _ => .exc x e1
  | .fail => .fail
/-- x(y, ..), y's value lent -/
def mCallIO (c : List D → RC) (i : Nat) (ms : M (List D)) : M D := fun e => match e[i]? with
  | some (some d) => (ms (e.set i none)).bind fun ds e1 => match e1[i]? with
    | some none => match c (d :: ds) with
      | .ok r [d'] => .ok r (e1.set i (some d'))
      | .exc x [d'] => .exc x (e1.set i (some d'))
      | _ => .fail
    | _ => .fail
  | _ => .fail
section
variable {X : Cx} {W : WX} {F F1 : Fset} {H H1 : Hp} {S S1 : List Addr} {σ : L2.St} {e : Env} {c : List D → RC} {Q : VK}
/-- the callee's promise, from the caller's state: its arguments ds at vs -/
theorem SpD.call {ds : List D} {vs : List V} (A : At X.K X.w F1 H1 e σ ds vs S1) (st : Step F H S F1 H1 S1)
    (h : Pst X W F H S σ (match c ds with | .ok d _ => .ok d e | .exc x _ => .exc x e | .fail => .fail) fun d e' => ∀ v F' H' S', Step F H S F' H' S' → At X.K X.w F' H' e' σ [d] [v] S' → Q v H') :
    SpD X.K X.w 0 c vs H1 Q (fun cls d H' => W cls d σ H') := by
  obtain ⟨Sd, Se, rfl, hd, he, g⟩ := A
  refine ⟨F1, ds, Sd, g.left, hd, ?_⟩
  have fr : ∀ {F' : Fset} {H' : Hp} {S' : List Addr}, Step F1 H1 Sd F' H' S' → Step F1 H1 (Sd ++ Se) F' H' (Se ++ S') ∧ EnvR X.K X.w F' H' e σ Se := fun {F' H' S'} s => by
    have gg : Good F1 H1 (Se ++ Sd) := g.perm List.perm_append_comm
    exact ⟨(s.frame gg).permL List.perm_append_comm, he.stay (s.stays gg)⟩
  cases r : c ds with
  | ok d io =>
    rw [r] at h
    intro v F' H' S' s rp
    obtain ⟨f1, f2⟩ := fr s
    obtain ⟨v', rr, T1, T2, e1, rfl, h1, h2⟩ := rp.uncons
    cases e1
    have f3 := (st.trans f1).subR (T := Se ++ T1) (fun a ha => by
      rcases List.mem_append.mp ha with z | z
      · exact List.mem_append_left _ z
      · exact List.mem_append_right _ (List.mem_append_left _ z)) (by
      have n := f1.good.nd
      rw [← List.append_assoc] at n
      exact (List.nodup_append.mp n).1)
    have f4 := f3.permR (T := T1 ++ Se) List.perm_append_comm
    refine h v F' H' (T1 ++ Se) f4 ⟨T1, Se, rfl, ?_, f2, f4.good⟩
    have z := RpL.cons h1 (RpL.nil (K := X.K) (w := X.w) (F := F') (H := H'))
    rw [List.append_nil] at z
    exact z
  | exc x io =>
    rw [r] at h
    intro cls dd F' H' S' s rp xr
    obtain ⟨f1, f2⟩ := fr s
    have f3 := (st.trans f1).subR (T := Se) (fun a ha => List.mem_append_left _ ha) (List.nodup_append.mp f1.good.nd).1
    exact h cls dd F' H' Se f3 ⟨[], Se, rfl, RpL.nil, f2, f3.good⟩ xr
  | fail => rw [r] at h; exact h.elim
theorem pe_callW {x : Str} {p pos : Pos} {a : Expr} {es : List Expr} {t : TA} {f : Addr} {fd : FuncData} {ps : List Str} {sp : Sp} {k : Nat} (F : FnOk X.prog X.w X.K X.mg X.base (L2.CX X.prog X.w) k f fd ps sp) (hr : Room k X.A) (hm : X.mg x = some (.ref f)) (hk : PySem.W.keepIn X.K (.ref f) = true) (hb : Binds X.K fd ps [])
    (tk : Takes X W) (ha : PA X (a :: es) t) (hg : Gl X x := by rfl) (hdb : (x == ("__debug__" : Str)) = false := by decide) (he : starEach (a :: es) X.env = (false, eval a X.env) :: starEach es X.env := by rfl) (hpl : (backTo pos (starEach es X.env)).any (·.1) = false := by rfl) :
    PE X (.Call (.Name x p) (a :: es) [] pos) (fun σ H Q => t σ H fun vs H1 => sp vs H1 Q fun cls d H' => W cls d σ H') :=
  PEimp (pe_callSD F hr hg hm hk hb .nil (fun σ => passAt tk σ) ha hdb he hpl) fun σ H Q q => by
    show t σ H fun vs H1 => sp (vs ++ []) H1 Q (WE W σ)
    have e : (fun (vs : List V) H1 => sp (vs ++ []) H1 Q (WE W σ)) = fun vs H1 => sp vs H1 Q fun cls d H' => W cls d σ H' := by
      funext vs H1
      rw [List.append_nil]
    rw [e]
    exact q
variable {x : Str} {p pos : Pos} {a : Expr} {es : List Expr} {ms : M (List D)} {k : Nat}
/-- x(e, ..) -/
theorem dE_call (F : FnX X.prog X.w X.K X.mg X.base x k 0 c) (hr : Room k X.A) (tk : Takes X W) (ha : PA X (a :: es) (tA X W ms)) (hg : Gl X x := by rfl) (hdb : (x == ("__debug__" : Str)) = false := by decide)
    (he : starEach (a :: es) X.env = (false, eval a X.env) :: starEach es X.env := by rfl) (hpl : (backTo pos (starEach es X.env)).any (·.1) = false := by rfl) : PE X (.Call (.Name x p) (a :: es) [] pos) (tE X W (mCall c ms)) := by
  obtain ⟨f, fd, ps, hm, hk, hb, FO⟩ := F.ex
  refine PEimp (pe_callW FO hr hm hk hb tk ha hg hdb he hpl) fun σ H Q q => ?_
  obtain ⟨F, e, S, A, q⟩ := q
  obtain ⟨F1, e1, S1, A1, q1⟩ := bindA A (Step.refl A.good) q
  refine ⟨F1, e1, S1, A1, q1.mono fun ds e2 k vs F' H' S' st B => ?_⟩
  obtain ⟨es, F2, e3, S2, st2, A2, hl, q2⟩ := k vs F' H' S' st B
  rw [List.append_nil, List.append_nil] at A2
  exact SpD.call A2 st2 q2
/-- x() -/
theorem dE_call0 (F : FnX X.prog X.w X.K X.mg X.base x k 0 c) (hr : Room k X.A) (tk : Takes X W) (hg : Gl X x := by rfl) (hdb : (x == ("__debug__" : Str)) = false := by decide) : PE X (.Call (.Name x p) [] [] pos) (tE X W (mCall c mNil)) := by
  obtain ⟨f, fd, ps, hm, hk, hb, FO⟩ := F.ex
  refine ⟨fun pins s σ H Q I q => ?_⟩
  refine wpAny_Call_Name_kw (ld_glob I hg hm ?_ hdb)
  refine PySem.W.callWith_K0 I.kIn hk (run_fnSD (us := []) (vs := []) (dvs := []) (E := fun σ => WE W σ) FO hr hb .nil (passAt tk σ) I .nil ?_)
  obtain ⟨F, e, S, A, q⟩ := q
  exact SpD.call A (Step.refl A.good) q
/-- .. with a lent first argument: from the state in which it is taken out -/
theorem SpD.callIO {ds : List D} {vs : List V} {d : D} {v : V} {i : Nat} {e0 : Env} (A : At X.K X.w F1 H1 e σ (d :: ds) (v :: vs) S1) (hv : σ[i]? = some (some v)) (st : Step F H S F1 H1 S1)
    (h : Pst X W F H S σ (match e[i]? with
    | some none => match c (d :: ds) with
      | .ok r [d'] => .ok r (e.set i (some d'))
      | .exc x [d'] => .exc x (e.set i (some d'))
      | _ => .fail
    | _ => .fail) fun d e' => ∀ v F' H' S', Step F H S F' H' S' → At X.K X.w F' H' e' σ [d] [v] S' → Q v H') :
    SpD X.K X.w 1 c (v :: vs) H1 Q (fun cls d H' => W cls d σ H') := by
  obtain ⟨Sd, Se, rfl, hd, he, g⟩ := A
  split at h
  · rename_i hi
    refine ⟨F1, d :: ds, Sd, g.left, hd, ?_⟩
    have fr : ∀ {F' : Fset} {H' : Hp} {S' : List Addr}, Step F1 H1 Sd F' H' S' → Step F1 H1 (Sd ++ Se) F' H' (Se ++ S') ∧ EnvR X.K X.w F' H' e σ Se := fun {F' H' S'} s => by
      have gg : Good F1 H1 (Se ++ Sd) := g.perm List.perm_append_comm
      exact ⟨(s.frame gg).permL List.perm_append_comm, he.stay (s.stays gg)⟩
    cases r : c (d :: ds) with
    | ok x io =>
      rw [r] at h
      match io, h with
      | [d'], h =>
        intro v2 F' H' S' s rp
        obtain ⟨f1, f2⟩ := fr s
        obtain ⟨v', rr, T1, T2, e1, rfl, h1, h2⟩ := rp.uncons
        cases e1
        obtain ⟨v3, r3, T3, T4, e3, rfl, h3, h4⟩ := h2.uncons
        cases e3
        obtain rfl := h4.2
        obtain ⟨T5, pm, f5⟩ := f2.put hi h3
        rw [set_get hv] at f5
        have pm2 : (Se ++ (T1 ++ (T3 ++ []))).Perm (T1 ++ T5) := by
          rw [List.append_nil]
          refine List.perm_append_comm.trans ?_
          rw [List.append_assoc]
          exact (List.Perm.refl T1).append pm.symm
        have f6 := (st.trans f1).permR pm2
        refine h v2 F' H' (T1 ++ T5) f6 ⟨T1, T5, rfl, ?_, f5, f6.good⟩
        have z := RpL.cons h1 (RpL.nil (K := X.K) (w := X.w) (F := F') (H := H'))
        rw [List.append_nil] at z
        exact z
      | [], h => exact h.elim
      | _ :: _ :: _, h => exact h.elim
    | exc x io =>
      rw [r] at h
      match io, h with
      | [d'], h =>
        intro cls dd F' H' S' s rp xr
        obtain ⟨f1, f2⟩ := fr s
        obtain ⟨v3, r3, T3, T4, e3, rfl, h3, h4⟩ := rp.uncons
        cases e3
        obtain rfl := h4.2
        obtain ⟨T5, pm, f5⟩ := f2.put hi h3
        rw [set_get hv] at f5
        have pm2 : (Se ++ (T3 ++ [])).Perm T5 := by
          rw [List.append_nil]
          exact List.perm_append_comm.trans pm.symm
        have f6 := (st.trans f1).permR pm2
        exact h cls dd F' H' T5 f6 ⟨[], T5, rfl, RpL.nil, f5, f6.good⟩ xr
      | [], h => exact h.elim
      | _ :: _ :: _, h => exact h.elim
    | fail => rw [r] at h; exact h.elim
  · exact h.elim
/-- a slot's value taken out, held aside -/
theorem At.takeOut {K : PySem.W.Frag} {w : World} {i : Nat} {d : D} (A : At K w F H e σ [] [] S) (h : e[i]? = some (some d)) : ∃ v T, σ[i]? = some (some v) ∧ At K w F H (e.set i none) σ [d] [v] T ∧ Step F H S F H T := by
  obtain ⟨Sd, Se, rfl, hd, he, g⟩ := A
  obtain rfl := hd.2
  obtain ⟨v, S1, S2, q1, q2, q3, q4⟩ := he.take h
  have pm : ([] ++ Se).Perm (S1 ++ S2) := q2
  refine ⟨v, S1 ++ S2, q1, ⟨S1, S2, rfl, ?_, q4, g.perm pm⟩, (Step.refl g).permR pm⟩
  have z := RpL.cons q3 (RpL.nil (K := K) (w := w) (F := F) (H := H))
  rw [List.append_nil] at z
  exact z
theorem At.front {K : PySem.W.Frag} {w : World} {d : D} {v : V} {ds : List D} {vs : List V} (A : At K w F H e σ (ds ++ [d]) (vs ++ [v]) S) (hl : ds.length = vs.length) : ∃ T, At K w F H e σ (d :: ds) (v :: vs) T ∧ Step F H S F H T := by
  obtain ⟨Sd, Se, rfl, hd, he, g⟩ := A
  obtain ⟨v1, v2, T1, T2, ev, rfl, h1, h2⟩ := RpL.split hd
  obtain ⟨rfl, rfl⟩ := List.append_inj ev.symm (by rw [← h1.length, hl])
  have pm : ((T1 ++ T2) ++ Se).Perm ((T2 ++ T1) ++ Se) := List.perm_append_comm.append_right _
  refine ⟨(T2 ++ T1) ++ Se, ⟨T2 ++ T1, Se, rfl, ?_, he, g.perm pm⟩, (Step.refl g).permR pm⟩
  obtain ⟨v3, r3, T3, T4, e3, rfl, h3, h4⟩ := h2.uncons
  cases e3
  obtain rfl := h4.2
  rw [List.append_nil]
  exact RpL.cons h3 h1
/-- x(y, e, ..), y lent -/
theorem dE_callIO {y : Str} {py : Pos} (i : Nat) (F : FnX X.prog X.w X.K X.mg X.base x k 1 c) (hr : Room k X.A) (tk : Takes X W) (hy : PE X (.Name y py) (tVar i)) (ha : PA X es (tA X W ms)) (hg : Gl X x := by rfl) (hdb : (x == ("__debug__" : Str)) = false := by decide)
    (hpl : (backTo pos (starEach es X.env)).any (·.1) = false := by rfl) : PE X (.Call (.Name x p) (.Name y py :: es) [] pos) (tE X W (mCallIO c i ms)) := by
  obtain ⟨f, fd, ps, hm, hk, hb, FO⟩ := F.ex
  refine PEimp (pe_callW FO hr hm hk hb tk (pa_cons hy ha) hg hdb rfl hpl) fun σ H Q q => ?_
  obtain ⟨F, e, S, A, q⟩ := q
  unfold mCallIO at q
  split at q
  · rename_i d hd
    obtain ⟨v, T, hv, B, st⟩ := A.takeOut hd
    refine ⟨v, hv, ?_⟩
    obtain ⟨F1, e1, S1, A1, q1⟩ := bindA B st q
    refine ⟨F1, e1, S1, A1, q1.mono fun ds e2 k vs F' H' S' st B => ?_⟩
    obtain ⟨es, F2, e3, S2, st2, A2, hl, q2⟩ := k vs F' H' S' st B
    obtain ⟨T3, A3, st3⟩ := A2.front hl
    exact SpD.callIO (e0 := e) A3 hv (st2.trans st3) q2
  · exact q.elim
end

/-! ### methods -/
/-- o.m(e, ..) -/
def mMeth (cl m : Str) (c : List D → RC) (mo : M D) (ms : M (List D)) : M D := fun e => (mo e).bind fun d e1 => match d.frz with
  | .obj _ cl' fs => if cl' = cl ∧ fs.lookup m = none then (ms e1).bind fun ds e2 => match c (d.frz :: ds) with
    | .ok r _ => .ok r e2
    | .exc x _ => .exc x e2
    | .fail => .fail else .fail
  | _ => .fail
/-- x.m(e, ..), x lent -/
def mMethIO (cl m : Str) (c : List D → RC) (i : Nat) (ms : M (List D)) : M D := fun e => match e[i]? with
  | some (some (.obj b cl' fs)) => if cl' = cl ∧ fs.lookup m = none then mCallIO c i ms e else .fail
  | _ => .fail
section
variable {X : Cx} {W : WX} {F F1 : Fset} {H H1 : Hp} {S S1 : List Addr} {σ : L2.St} {e : Env} {c : List D → RC} {Q : VK} {C f : Addr} {fd : FuncData} {ps : List Str} {sp : Sp} {k : Nat} {cl m : Str} {pos apos : Pos} {o a : Expr} {es : List Expr} {ta : TE} {t : TA} {ms : M (List D)} {mo : M D}
theorem pe_methW {pl : Sem Bool} (he : PE X o ta) (hc : Cls X.K C) (hm : Meth X.K C m f) (F : FnOk X.prog X.w X.K X.mg X.base (L2.CX X.prog X.w) k f fd ps sp) (hr : Room k X.A) (hb : Binds X.K fd ps []) (tk : Takes X W) (ha : PA X (a :: es) t)
    (hst : starEach (a :: es) X.env = (false, eval a X.env) :: starEach es X.env := by rfl) (hpl : (backTo pos (starEach es X.env)).any (·.1) = false := by rfl)
    (ht : eval (.Call (.Attribute o m apos) (a :: es) [] pos) X.env = (do
      let ov ← eval o X.env
      standAt apos.atName
      let (f, first) ← holding [ov] (getMethod ov m pl)
      callWith pos f first (backTo pos (starEach (a :: es) X.env)) (backToKw pos (keywordEach [] X.env))) := by rfl) :
    PE X (.Call (.Attribute o m apos) (a :: es) [] pos) (fun σ H Q => ta σ H fun x H1 => ∃ a dx fs, x = .ref a ∧ H1 a = some (.ins C dx fs) ∧ fs.lookup m = none ∧ t σ H1 fun vs H2 => sp (x :: vs) H2 Q fun cls d H' => W cls d σ H') := by
  refine ⟨fun pins s σ H Q I h => ?_⟩
  refine PySem.W.methodCall_KW (pl := pl) (thn (he.run pins s σ H _ I h) fun u s1 ⟨x, H1, I1, rx, a, dx, fs, ex, ea, l, q⟩ => ?_) ht
  subst ex
  obtain rfl : u = Value.ref a := rx
  refine getmeth_ok I1 ea hc hm l ?_
  refine PySem.W.callWith_K (first := [.ref a]) (h₀ := X.base) I.ok.mod.kin hm.kp (thn (ha.run pos pins s1 σ H1 _ I1 q) fun us s2 ⟨vs, H2, I2, r, q2⟩ => ⟨I2.kIn, ?_⟩) hst hpl
  exact run_fnSD (us := .ref a :: us) (vs := .ref a :: vs) (dvs := []) (E := fun σ => WE W σ) F hr hb .nil (passAt tk σ) I2 (.cons rfl r) (by rw [List.append_nil]; exact q2)
theorem pe_methW0 {pl : Sem Bool} (he : PE X o ta) (hc : Cls X.K C) (hm : Meth X.K C m f) (F : FnOk X.prog X.w X.K X.mg X.base (L2.CX X.prog X.w) k f fd ps sp) (hr : Room k X.A) (hb : Binds X.K fd ps []) (tk : Takes X W)
    (ht : eval (.Call (.Attribute o m apos) [] [] pos) X.env = (do
      let ov ← eval o X.env
      standAt apos.atName
      let (f, first) ← holding [ov] (getMethod ov m pl)
      callWith pos f first (backTo pos (starEach [] X.env)) (backToKw pos (keywordEach [] X.env))) := by rfl) :
    PE X (.Call (.Attribute o m apos) [] [] pos) (fun σ H Q => ta σ H fun x H1 => ∃ a dx fs, x = .ref a ∧ H1 a = some (.ins C dx fs) ∧ fs.lookup m = none ∧ sp [x] H1 Q fun cls d H' => W cls d σ H') := by
  refine ⟨fun pins s σ H Q I h => ?_⟩
  refine PySem.W.methodCall_KW (pl := pl) (thn (he.run pins s σ H _ I h) fun u s1 ⟨x, H1, I1, rx, a, dx, fs, ex, ea, l, q⟩ => ?_) ht
  subst ex
  obtain rfl : u = Value.ref a := rx
  refine getmeth_ok I1 ea hc hm l ?_
  exact PySem.W.callWith_K0 (first := [.ref a]) I1.kIn hm.kp (run_fnSD (us := [.ref a]) (vs := [.ref a]) (dvs := []) (E := fun σ => WE W σ) F hr hb .nil (passAt tk σ) I1 (.cons rfl .nil) q)
theorem RpF.lookN {K : PySem.W.Frag} {w : World} : ∀ {fs : List (Str × D)} {fvs : List (Str × V)} {S : List Addr} {f : Str}, RpF K w F H fs fvs S → fs.lookup f = none → fvs.lookup f = none
  | [], _, _, _, h, _ => by rw [h.1]; rfl
  | (g, d) :: fs, fvs, S, f, h, e => by
    rw [RpF] at h
    obtain ⟨v, r, S1, S2, rfl, rfl, h1, h2⟩ := h
    rw [List.lookup] at e ⊢
    cases q : (f == g) with
    | true => rw [q] at e; cases e
    | false => rw [q] at e; exact h2.lookN e
theorem Rp.ins {K : PySem.W.Frag} {w : World} {b : Bool} {cl m : Str} {fs : List (Str × D)} {v : V} {S : List Addr} (h : Rp K w F H (.obj b cl fs) v S) (hm : fs.lookup m = none) : ∃ a dx fvs, v = .ref a ∧ H a = some (.ins (He.ga K cl) dx fvs) ∧ fvs.lookup m = none := by
  rw [Rp] at h
  obtain ⟨a, dx, fvs, rfl, q, ⟨_, S', _, r⟩ | ⟨_, _, _, r⟩⟩ := h
  · exact ⟨a, dx, fvs, rfl, q, r.lookN hm⟩
  · exact ⟨a, dx, fvs, rfl, q, r.lookN hm⟩
theorem dE_meth {pl : Sem Bool} (ho : PE X o (tE X W mo)) (F : MtX X.prog X.w X.K X.mg X.base cl m k 0 c) (hr : Room k X.A) (tk : Takes X W) (ha : PA X (a :: es) (tA X W ms))
    (hst : starEach (a :: es) X.env = (false, eval a X.env) :: starEach es X.env := by rfl) (hpl : (backTo pos (starEach es X.env)).any (·.1) = false := by rfl)
    (ht : eval (.Call (.Attribute o m apos) (a :: es) [] pos) X.env = (do
      let ov ← eval o X.env
      standAt apos.atName
      let (f, first) ← holding [ov] (getMethod ov m pl)
      callWith pos f first (backTo pos (starEach (a :: es) X.env)) (backToKw pos (keywordEach [] X.env))) := by rfl) :
    PE X (.Call (.Attribute o m apos) (a :: es) [] pos) (tE X W (mMeth cl m c mo ms)) := by
  obtain ⟨f, fd, ps, hc, hm, hb, FO⟩ := F.ex
  refine PEimp (pe_methW ho hc hm FO hr hb tk ha hst hpl ht) fun σ H Q q => ?_
  obtain ⟨F, e, S, A, q⟩ := q
  obtain ⟨F1, e1, S1, A1, q1⟩ := bindE A (Step.refl A.good) q
  refine ⟨F1, e1, S1, A1, q1.mono fun ds e2 k v F' H' S' st B => ?_⟩
  obtain ⟨d, F2, e3, S2, st2, A2, q2⟩ := k v F' H' S' st B
  obtain ⟨F3, T3, st3, r3, A3⟩ := A2.freeze
  split at q2
  · rename_i b cl' fs hfz
    split at q2
    · rename_i hcl
      obtain ⟨rfl, hlk⟩ := hcl
      rw [hfz] at r3
      obtain ⟨a, dx, fvs, ev, hH, hl⟩ := r3.ins hlk
      refine ⟨a, dx, fvs, ev, hH, hl, ?_⟩
      obtain ⟨F4, e4, S4, A4, q4⟩ := bindA (A3.push0 r3) (st2.trans st3) q2
      refine ⟨F4, e4, S4, A4, q4.mono fun ds e5 k2 vs F5 H5 S5 st5 B5 => ?_⟩
      obtain ⟨es, F6, e6, S6, st6, A6, hle, q6⟩ := k2 vs F5 H5 S5 st5 B5
      obtain ⟨T7, A7, st7⟩ := A6.front hle
      rw [hfz] at q6
      exact SpD.call A7 (st6.trans st7) q6
    · exact q2.elim
  · exact q2.elim
theorem dE_meth0 {pl : Sem Bool} (ho : PE X o (tE X W mo)) (F : MtX X.prog X.w X.K X.mg X.base cl m k 0 c) (hr : Room k X.A) (tk : Takes X W)
    (ht : eval (.Call (.Attribute o m apos) [] [] pos) X.env = (do
      let ov ← eval o X.env
      standAt apos.atName
      let (f, first) ← holding [ov] (getMethod ov m pl)
      callWith pos f first (backTo pos (starEach [] X.env)) (backToKw pos (keywordEach [] X.env))) := by rfl) :
    PE X (.Call (.Attribute o m apos) [] [] pos) (tE X W (mMeth cl m c mo mNil)) := by
  obtain ⟨f, fd, ps, hc, hm, hb, FO⟩ := F.ex
  refine PEimp (pe_methW0 ho hc hm FO hr hb tk ht) fun σ H Q q => ?_
  obtain ⟨F, e, S, A, q⟩ := q
  obtain ⟨F1, e1, S1, A1, q1⟩ := bindE A (Step.refl A.good) q
  refine ⟨F1, e1, S1, A1, q1.mono fun ds e2 k v F' H' S' st B => ?_⟩
  obtain ⟨d, F2, e3, S2, st2, A2, q2⟩ := k v F' H' S' st B
  obtain ⟨F3, T3, st3, r3, A3⟩ := A2.freeze
  split at q2
  · rename_i b cl' fs hfz
    split at q2
    · rename_i hcl
      obtain ⟨rfl, hlk⟩ := hcl
      rw [hfz] at r3
      obtain ⟨a, dx, fvs, ev, hH, hl⟩ := r3.ins hlk
      refine ⟨a, dx, fvs, ev, hH, hl, ?_⟩
      rw [hfz] at q2
      exact SpD.call (A3.push0 r3) (st2.trans st3) q2
    · exact q2.elim
  · exact q2.elim
/-- x.m(e, ..), x lent -/
theorem dE_methIO {pl : Sem Bool} {y : Str} {py : Pos} (i : Nat) (hy : PE X (.Name y py) (tVar i)) (F : MtX X.prog X.w X.K X.mg X.base cl m k 1 c) (hr : Room k X.A) (tk : Takes X W) (ha : PA X (a :: es) (tA X W ms))
    (hst : starEach (a :: es) X.env = (false, eval a X.env) :: starEach es X.env := by rfl) (hpl : (backTo pos (starEach es X.env)).any (·.1) = false := by rfl)
    (ht : eval (.Call (.Attribute (.Name y py) m apos) (a :: es) [] pos) X.env = (do
      let ov ← eval (.Name y py) X.env
      standAt apos.atName
      let (f, first) ← holding [ov] (getMethod ov m pl)
      callWith pos f first (backTo pos (starEach (a :: es) X.env)) (backToKw pos (keywordEach [] X.env))) := by rfl) :
    PE X (.Call (.Attribute (.Name y py) m apos) (a :: es) [] pos) (tE X W (mMethIO cl m c i ms)) := by
  obtain ⟨f, fd, ps, hc, hm, hb, FO⟩ := F.ex
  refine PEimp (pe_methW hy hc hm FO hr hb tk ha hst hpl ht) fun σ H Q q => ?_
  obtain ⟨F, e, S, A, q⟩ := q
  unfold mMethIO at q
  split at q
  · rename_i b cl' fs hd
    split at q
    · rename_i hcl
      obtain ⟨rfl, hlk⟩ := hcl
      unfold mCallIO at q
      rw [hd] at q
      obtain ⟨v, T, hv, B, st⟩ := A.takeOut hd
      obtain ⟨S3, S4, rfl, r, B'⟩ := B.nth0
      obtain ⟨a, dx, fvs, ev, hH, hl⟩ := r.ins hlk
      refine ⟨v, hv, a, dx, fvs, ev, hH, hl, ?_⟩
      obtain ⟨F1, e1, S1, A1, q1⟩ := bindA B st q
      refine ⟨F1, e1, S1, A1, q1.mono fun ds e2 k vs F' H' S' st B => ?_⟩
      obtain ⟨es, F2, e3, S2, st2, A2, hl, q2⟩ := k vs F' H' S' st B
      obtain ⟨T3, A3, st3⟩ := A2.front hl
      exact SpD.callIO (e0 := e) A3 hv (st2.trans st3) q2
    · exact q.elim
  · exact q.elim
theorem dE_methIO0 {pl : Sem Bool} {y : Str} {py : Pos} (i : Nat) (hy : PE X (.Name y py) (tVar i)) (F : MtX X.prog X.w X.K X.mg X.base cl m k 1 c) (hr : Room k X.A) (tk : Takes X W)
    (ht : eval (.Call (.Attribute (.Name y py) m apos) [] [] pos) X.env = (do
      let ov ← eval (.Name y py) X.env
      standAt apos.atName
      let (f, first) ← holding [ov] (getMethod ov m pl)
      callWith pos f first (backTo pos (starEach [] X.env)) (backToKw pos (keywordEach [] X.env))) := by rfl) :
    PE X (.Call (.Attribute (.Name y py) m apos) [] [] pos) (tE X W (mMethIO cl m c i mNil)) := by
  obtain ⟨f, fd, ps, hc, hm, hb, FO⟩ := F.ex
  refine PEimp (pe_methW0 hy hc hm FO hr hb tk ht) fun σ H Q q => ?_
  obtain ⟨F, e, S, A, q⟩ := q
  unfold mMethIO at q
  split at q
  · rename_i b cl' fs hd
    split at q
    · rename_i hcl
      obtain ⟨rfl, hlk⟩ := hcl
      unfold mCallIO at q
      rw [hd] at q
      obtain ⟨v, T, hv, B, st⟩ := A.takeOut hd
      obtain ⟨S3, S4, rfl, r, B'⟩ := B.nth0
      obtain ⟨a, dx, fvs, ev, hH, hl⟩ := r.ins hlk
      exact ⟨v, hv, a, dx, fvs, ev, hH, hl, SpD.callIO (e0 := e) B hv st q⟩
    · exact q.elim
  · exact q.elim
end
end Pl
set_option Elab.async false
set_option linter.all false
set_option maxRecDepth 100000
set_option maxHeartbeats 1000000
/-! Pl: instances made, properties, own ==. -/
namespace Pl
open PySem PySem.Spec PyProof.Rows L2

/-- C(e, ..): c is what __init__ does, the new instance lent -/
def mMake (cl : Str) (c : List D → RC) (ms : M (List D)) : M D := fun e => (ms e).bind fun ds e1 => match c (.obj true cl [] :: ds) with
  | .ok .non [d] => .ok d e1
  | .exc x _ => .exc x e1
  | _ => .fail
/-- a class of the text that is made by its __init__ -/
structure MkX (P : Program) (w : World) (K : PySem.W.Frag) (mg : Str → Option Value) (base : Heap) (cl : Str) (k : Nat) (c : List D → RC) : Prop where
  ex : ∃ f fd ps, mg cl = some (.ref (He.ga K cl)) ∧ Mk K (He.ga K cl) f ∧ Binds K fd ps [] ∧ FnOk P w K mg base (L2.CX P w) k f fd ps (SpD K w 1 c)
section
variable {X : Cx} {W : WX} {F F1 : Fset} {H H1 : Hp} {S S1 : List Addr} {σ : L2.St} {e : Env} {c : List D → RC} {Q : VK} {k : Nat} {cl x : Str} {p pos : Pos} {a : Expr} {es : List Expr} {ms : M (List D)} {t : TA} {C f : Addr} {fd : FuncData} {ps : List Str} {sp : Sp}
theorem run_makeW {pins : List (Addr × Obj)} {s : Shared} {us : List Value} {vs : List V} {Es : XK} (Mm : Mk X.K C f) (F : FnOk X.prog X.w X.K X.mg X.base (L2.CX X.prog X.w) k f fd ps sp) (hr : Room (k + 1) X.A) (hb : Binds X.K fd ps [])
    (hx : PassesAt (L2.CX X.prog X.w) X σ Es) (I : Inv X pins σ H s) (r : Vals vs us)
    (h : ∀ x dx, H x = none → H dx = none → dx ≠ x → sp (.ref x :: vs) (upd (upd H dx (.own x)) x (.ins C dx [])) (fun v H2 => v = .non ∧ Q (.ref x) H2) Es) :
    wpAny (model X.prog X.w) X.A (call (.ref C) us) (EP X pins σ Q) X.xe s := by
  have hq := h (s.heap.objs.size + 1) s.heap.objs.size (I.hok.fresh (Nat.le_succ _)) (I.hok.fresh (Nat.le_refl _)) (Nat.ne_of_lt (Nat.lt_succ_self _))
  have I2 := Inv.made (C := C) I
  have r2 : Vals (V.ref (s.heap.objs.size + 1) :: vs) (Value.ref (s.heap.objs.size + 1) :: us) := .cons rfl r
  have hl : (Value.ref (s.heap.objs.size + 1) :: us).length = ps.length := by
    have e := r2.length
    rw [F.len _ _ _ _ hq] at e
    exact e.symm
  have hb' := hb _ (Value.ref (s.heap.objs.size + 1) :: us) I2.kIn (by rw [List.append_nil]; exact hl)
  rw [List.append_nil] at hb'
  refine wpAny_call (make_map (f := f) I.kIn Mm.makes Mm.init (beq_iff_eq.mp Mm.fn) (codeAny_mono (F.run _ X.stack _ _ ⟨Value.ref (s.heap.objs.size + 1) :: us, []⟩ (Value.ref (s.heap.objs.size + 1) :: us) _ _ Es (hr.make C us [])
    (I2.env0.make C us []) hb' r2 hq) fun r s' hq' => ?_))
  cases r with
  | error e => exact hx pins _ _ e s' I2 hq'
  | ok fl =>
    cases fl with
    | ret u =>
      obtain ⟨v, H', I3, rv, ev, q3⟩ := I2.after hq'
      subst ev
      exact ⟨rv, ⟨V.ref (s.heap.objs.size + 1), H', I3, rfl, q3⟩⟩
    | next => exact False.elim hq'
    | brk => exact False.elim hq'
    | cont => exact False.elim hq'
theorem pe_makeW (Mm : Mk X.K C f) (F : FnOk X.prog X.w X.K X.mg X.base (L2.CX X.prog X.w) k f fd ps sp) (hr : Room (k + 1) X.A) (hm : X.mg x = some (.ref C)) (hb : Binds X.K fd ps []) (tk : Takes X W)
    (ha : PA X (a :: es) t) (hg : Gl X x := by rfl) (hdb : (x == ("__debug__" : Str)) = false := by decide) (he : starEach (a :: es) X.env = (false, eval a X.env) :: starEach es X.env := by rfl) (hpl : (backTo pos (starEach es X.env)).any (·.1) = false := by rfl) :
    PE X (.Call (.Name x p) (a :: es) [] pos) (fun σ H Q => t σ H fun vs H1 => ∀ x dx, H1 x = none → H1 dx = none → dx ≠ x → sp (.ref x :: vs) (upd (upd H1 dx (.own x)) x (.ins C dx [])) (fun v H2 => v = .non ∧ Q (.ref x) H2) fun cls d H' => W cls d σ H') := by
  refine ⟨fun pins s σ H Q I h => ?_⟩
  refine wpAny_Call_Name_kw (ld_glob I hg hm ?_ hdb)
  refine PySem.W.callWith_K (h₀ := X.base) I.ok.mod.kin Mm.kp (thn (ha.run pos pins s σ H _ I h) fun us s1 ⟨vs, H1, I1, r, q⟩ => ⟨I1.kIn, ?_⟩) he hpl
  exact run_makeW Mm F hr hb (passAt tk σ) I1 r q
theorem dE_make (Fm : MkX X.prog X.w X.K X.mg X.base cl k c) (hr : Room (k + 1) X.A) (tk : Takes X W) (ha : PA X (a :: es) (tA X W ms)) (hg : Gl X cl := by rfl) (hdb : (cl == ("__debug__" : Str)) = false := by decide)
    (he : starEach (a :: es) X.env = (false, eval a X.env) :: starEach es X.env := by rfl) (hpl : (backTo pos (starEach es X.env)).any (·.1) = false := by rfl) : PE X (.Call (.Name cl p) (a :: es) [] pos) (tE X W (mMake cl c ms)) := by
  obtain ⟨f, fd, ps, hm, hk, hb, FO⟩ := Fm.ex
  refine PEimp (pe_makeW hk FO hr hm hb tk ha hg hdb he hpl) fun σ H Q q => ?_
  obtain ⟨F, e, S, A, q⟩ := q
  obtain ⟨F1, e1, S1, A1, q1⟩ := bindA A (Step.refl A.good) q
  refine ⟨F1, e1, S1, A1, q1.mono fun ds e2 k vs F' H' S' st B => ?_⟩
  obtain ⟨es, F2, e3, S2, st2, A2, hl, q2⟩ := k vs F' H' S' st B
  rw [List.append_nil, List.append_nil] at A2
  intro x dx hx hdx hne
  have hx2 : (upd H' dx (.own x)) x = none := by rw [upd_ne (Ne.symm hne)]; exact hx
  have A3 := A2.new (o := .own x) hdx
  have st3 := Step.newO (o := .ins (He.ga X.K cl) dx []) A3.good hx2 trivial
  have A4 := A3.new (o := .ins (He.ga X.K cl) dx []) hx2
  have r : Rp X.K X.w F2 (upd (upd H' dx (.own x)) x (.ins (He.ga X.K cl) dx [])) (.obj true cl []) (.ref x) [x] := by
    rw [Rp]; exact ⟨x, dx, [], rfl, upd_same, .inl ⟨rfl, [], rfl, rfl, rfl⟩⟩
  have A5 := A4.push r st3.good
  have st5 : Step F H S F2 (upd (upd H' dx (.own x)) x (.ins (He.ga X.K cl) dx [])) ([x] ++ S2) := (st2.trans (Step.new (o := .own x) A2.good hdx)).trans st3
  obtain ⟨Sd, Se, e5, hd, he, g⟩ := A5
  rw [e5] at st5 g
  refine ⟨F2, _, Sd, g.left, hd, ?_⟩
  have fr : ∀ {F' : Fset} {H'' : Hp} {S' : List Addr}, Step F2 (upd (upd H' dx (.own x)) x (.ins (He.ga X.K cl) dx [])) Sd F' H'' S' → Step F H S F' H'' (Se ++ S') ∧ EnvR X.K X.w F' H'' e3 σ Se := fun {F' H'' S'} s => by
    have gg : Good F2 (upd (upd H' dx (.own x)) x (.ins (He.ga X.K cl) dx [])) (Se ++ Sd) := g.perm List.perm_append_comm
    exact ⟨st5.trans ((s.frame gg).permL List.perm_append_comm), he.stay (s.stays gg)⟩
  cases rc : c (.obj true cl [] :: es) with
  | ok d io =>
    rw [rc] at q2
    match d, io, q2 with
    | .non, [d'], q2 =>
      intro v F' H'' S' s rp
      obtain ⟨f1, f2⟩ := fr s
      obtain ⟨v', rr, T1, T2, e1, rfl, h1, h2⟩ := rp.uncons
      cases e1
      obtain ⟨v3, r3, T3, T4, e3, rfl, h3, h4⟩ := h2.uncons
      cases e3
      obtain rfl := h4.2
      obtain rfl := h1.2
      refine ⟨h1.1, ?_⟩
      have pm : (Se ++ ([] ++ (T3 ++ []))).Perm (T3 ++ Se) := by
        rw [List.append_nil, List.nil_append]; exact List.perm_append_comm
      have f6 := f1.permR pm
      refine q2 _ F' H'' (T3 ++ Se) f6 ⟨T3, Se, rfl, ?_, f2, f6.good⟩
      have z := RpL.cons h3 (RpL.nil (K := X.K) (w := X.w) (F := F') (H := H''))
      rw [List.append_nil] at z
      exact z
    | .non, [], q2 => exact q2.elim
    | .non, _ :: _ :: _, q2 => exact q2.elim
    | .bl _, _, q2 => exact q2.elim
    | .int _, _, q2 => exact q2.elim
    | .str _, _, q2 => exact q2.elim
    | .tup _, _, q2 => exact q2.elim
    | .lst _ _, _, q2 => exact q2.elim
    | .dic _ _, _, q2 => exact q2.elim
    | .obj _ _ _, _, q2 => exact q2.elim
    | .scr _, _, q2 => exact q2.elim
  | exc x io =>
    rw [rc] at q2
    intro cls dd F' H'' S' s rp xr
    obtain ⟨f1, f2⟩ := fr s
    have f3 := f1.subR (T := Se) (fun a ha => List.mem_append_left _ ha) (List.nodup_append.mp f1.good.nd).1
    exact q2 cls dd F' H'' Se f3 ⟨[], Se, rfl, RpL.nil, f2, f3.good⟩ xr
  | fail => rw [rc] at q2; exact q2.elim
end

/-! ### properties -/
structure PrX (P : Program) (w : World) (K : PySem.W.Frag) (mg : Str → Option Value) (base : Heap) (cl m : Str) (k : Nat) (c : List D → RC) : Prop where
  ex : ∃ p g fd ps, Cls K (He.ga K cl) ∧ PropOf K (He.ga K cl) m p g ∧ Binds K fd ps [] ∧ FnOk P w K mg base (L2.CX P w) k g fd ps (SpD K w 0 c)
def mProp (cl : Str) (c : List D → RC) (mo : M D) : M D := fun e => (mo e).bind fun d e1 => match d.frz with
  | .obj b cl' fs => if cl' = cl then match c [d.frz] with
    | .ok r _ => .ok r e1
    | _ => .fail else .fail
  | _ => .fail
section
variable {X : Cx} {W : WX} {c : List D → RC} {k : Nat} {cl m : Str} {pos : Pos} {o : Expr} {mo : M D}
theorem dE_prop (F : PrX X.prog X.w X.K X.mg X.base cl m k c) (hr : Room (k + 1) X.A) (ho : PE X o (tE X W mo)) (hab : attributeBase o m X.env (eval o X.env) = eval o X.env := by rfl) : PE X (.Attribute o m pos) (tE X W (mProp cl c mo)) := by
  obtain ⟨p, g, fd, ps, hc, hp, hb, FO⟩ := F.ex
  refine PEimp (pe_prop ho hc hp FO hr hb .nil (E := E0) passL hab) fun σ H Q q => ?_
  obtain ⟨F, e, S, A, q⟩ := q
  obtain ⟨F1, e1, S1, A1, q1⟩ := bindE A (Step.refl A.good) q
  refine ⟨F1, e1, S1, A1, q1.mono fun ds e2 k v F' H' S' st B => ?_⟩
  obtain ⟨d, F2, e3, S2, st2, A2, q2⟩ := k v F' H' S' st B
  obtain ⟨F3, T3, st3, r3, A3⟩ := A2.freeze
  split at q2
  · rename_i b cl' fs hfz
    split at q2
    · rename_i hcl
      subst hcl
      have r4 := r3
      rw [hfz, Rp] at r4
      obtain ⟨a, dx, fvs, ev, hH, _⟩ := r4
      refine ⟨a, dx, fvs, ev, hH, ?_⟩
      have z := SpD.call (W := fun _ _ _ _ => False) (c := c) (Q := Q) (A3.push0 r3) (st2.trans st3) (by
        cases rc : c [d.frz] with
        | ok r io => rw [rc] at q2; exact q2
        | exc x io => rw [rc] at q2; exact q2.elim
        | fail => rw [rc] at q2; exact q2.elim)
      rw [ev] at z
      exact z
    · exact q2.elim
  · exact q2.elim
end
end Pl
set_option Elab.async false
set_option linter.all false
set_option maxRecDepth 100000
set_option maxHeartbeats 1000000
/-! Pl: what is walked; for, while. -/
namespace Pl
open PySem PySem.Spec PyProof.Rows L2

def NewH (H H' : Hp) : Prop := H' = H ∨ ∃ p xs, H p = none ∧ H' = upd H p (.tup xs)
/-- the walk J, from here on: it gives ds -/
structure ItR (K : PySem.W.Frag) (w : World) (J : It) (F : Fset) (H : Hp) (ds : List D) : Prop where
  go : ∀ i F' H', i < ds.length → Stays F H F' H' [] → J.go i H'
  stop : ∀ F' H', Stays F H F' H' [] → J.stop ds.length H'
  yld : ∀ i F' H' x H2, Stays F H F' H' [] → i < ds.length → J.yld i H' x H2 → NewH H' H2 ∧ ∃ d, ds[i]? = some d ∧ Rp K w F' H2 d x []
/-- the reading of what is walked -/
def tI (X : Cx) (W : WX) (m : M (List D)) : TI := fun σ H R => ∃ F e S, At X.K X.w F H e σ [] [] S ∧
  Pst X W F H S σ (m e) fun ds e' => ∀ J F' H' S', Step F H S F' H' S' → At X.K X.w F' H' e' σ [] [] S' → ItR X.K X.w J F' H' ds → R J H'

section
variable {K : PySem.W.Frag} {w : World} {F F' F2 : Fset} {H H' H2 : Hp} {R S : List Addr} {e : Env} {σ : L2.St} {ds : List D} {vs : List V}
theorem Stays.trans (a : Stays F H F' H' R) (b : Stays F' H' F2 H2 R) : Stays F H F2 H2 R :=
  ⟨fun c h o q => b.own c h o (a.own c h o q), fun c o f q => let ⟨f', q'⟩ := a.fro c o f q; b.fro c o f' q', fun c xs q => b.tup c xs (a.tup c xs q), fun c o u q => b.frz c o u (a.frz c o u q)⟩
theorem Stays.refl : Stays F H F H R := ⟨fun _ _ _ q => q, fun _ _ f q => ⟨f, q⟩, fun _ _ q => q, fun _ _ _ q => q⟩
theorem Step.stays0 {S' : List Addr} (a : Step F H S F' H' S') (g : Good F H S) : Stays F H F' H' [] := a.stays (R := []) g
theorem NewH.stays (n : NewH H H') : Stays F H F H' R := by
  rcases n with rfl | ⟨p, o, hp, rfl⟩
  · exact Stays.refl
  · exact Stays.new hp
theorem At.newH (A : At K w F H e σ ds vs S) (n : NewH H H') : At K w F H' e σ ds vs S ∧ Step F H S F H' S := by
  rcases n with rfl | ⟨p, o, hp, rfl⟩
  · exact ⟨A, Step.refl A.good⟩
  · exact ⟨A.new hp, Step.new A.good hp⟩
end

/-! ### sources -/
def D.itemsS : D → Option (List D)
  | .tup ds => some ds
  | .lst _ ds => some ds
  | .scr ns => some (ns.map D.int)
  | _ => none
def mIt (m : M D) : M (List D) := fun e => (m e).bind fun d e1 => R.of d.frz.itemsS e1
def iSeq (K : PySem.W.Frag) (tl : TE) : TI := fun σ H R => tl σ H fun x H1 => ∃ a, x = .ref a ∧ (((∃ xs, SqL K H1 a xs) ∧ R (Itl K a) H1) ∨ ((∃ xs, SqT K H1 a xs) ∧ R (Itt K a) H1))
section
variable {X : Cx} {W : WX} {tg : Expr}
theorem PIimp {e : Expr} {t t' : TI} (h : PI X tg e t) (k : ∀ σ H R, t' σ H R → t σ H R) : PI X tg e t' := ⟨fun pins s σ H R I q => h.run pins s σ H R I (k σ H R q)⟩
theorem pi_seq {l : Expr} {tl : TE} (hl : PE X l tl) : PI X tg l (iSeq X.K tl) := by
  refine ⟨fun pins s σ H R I h => ?_⟩
  refine thn (hl.run pins s σ H _ I h) fun v s1 ⟨x, H1, I1, r1, q1⟩ => ?_
  obtain ⟨a, e, q1⟩ := q1
  subst e
  cases r1
  rcases q1 with ⟨⟨xs, hq⟩, q⟩ | ⟨⟨xs, hq⟩, q⟩
  · obtain ⟨its, rv, p, hz⟩ := I1.list hq
    refine wpAny_pyIter_list p.isList ?_
    refine ⟨s1.heap.objs.size, [s1.heap.objs.size], _, _, H1, rfl, I1.kept (t' := s1.toks) fun b o e => Heap.get?_push_of_some _ e, turn_list a _, ⟨_, Heap.get?_push_size _ rfl, rfl, rfl⟩, fun b hb => ?_, q⟩
    have e : b = s1.heap.objs.size := by simpa using hb
    subst e
    exact I1.fpOk (Nat.le_refl _) (I1.hok.fresh (Nat.le_refl _))
  · obtain ⟨its, rv, p, hz⟩ := I1.tuple hq
    refine wpAny_pyIter_tuple (show s1.heap.IsTuple a its.toArray from p) ?_
    refine ⟨s1.heap.objs.size, [s1.heap.objs.size], _, _, H1, rfl, I1.kept (t' := s1.toks) fun b o e => Heap.get?_push_of_some _ e, turn_tuple a _, ⟨_, Heap.get?_push_size _ rfl, rfl, rfl⟩, fun b hb => ?_, q⟩
    have e : b = s1.heap.objs.size := by simpa using hb
    subst e
    exact I1.fpOk (Nat.le_refl _) (I1.hok.fresh (Nat.le_refl _))
section
variable {K : PySem.W.Frag} {w : World} {F : Fset} {H : Hp} {a : Addr} {ds : List D} {vs : List V}
theorem RpL.stay0 {F' : Fset} {H' : Hp} (s : Stays F H F' H' []) (r : RpL K w F H ds vs []) : RpL K w F' H' ds vs [] := RpL.stay ds s r
theorem itR_list (hs : ∀ F' H', Stays F H F' H' [] → SqL K H' a vs) (r : RpL K w F H ds vs []) : ItR K w (Itl K a) F H ds where
  go := fun i F' H' hi s => ⟨vs, vs[i]'(by rw [← r.length]; exact hi), hs F' H' s, by simp [← r.length, hi]⟩
  stop := fun F' H' s => ⟨vs, hs F' H' s, by rw [r.length]; exact Nat.le_refl _⟩
  yld := fun i F' H' x H2 s hi y => by
    obtain ⟨rfl, y⟩ := y
    refine ⟨.inl rfl, ds[i], by simp [hi], ?_⟩
    obtain ⟨v, q1, q2⟩ := (r.stay0 s).get (i := i) (d := ds[i]) (by simp [hi])
    have q3 := y vs (hs F' _ s)
    rw [q1] at q3; cases q3; exact q2
theorem itR_tup (hs : ∀ F' H', Stays F H F' H' [] → SqT K H' a vs) (r : RpL K w F H ds vs []) : ItR K w (Itt K a) F H ds where
  go := fun i F' H' hi s => ⟨vs, vs[i]'(by rw [← r.length]; exact hi), hs F' H' s, by simp [← r.length, hi]⟩
  stop := fun F' H' s => ⟨vs, hs F' H' s, by rw [r.length]; exact Nat.le_refl _⟩
  yld := fun i F' H' x H2 s hi y => by
    obtain ⟨rfl, y⟩ := y
    refine ⟨.inl rfl, ds[i], by simp [hi], ?_⟩
    obtain ⟨v, q1, q2⟩ := (r.stay0 s).get (i := i) (d := ds[i]) (by simp [hi])
    have q3 := y vs (hs F' _ s)
    rw [q1] at q3; cases q3; exact q2
/-- a frozen thing with items -/
theorem Rp.walks {d : D} {v : V} (h : Rp K w F H d v []) (z : d.fz = true) (e : d.itemsS = some ds) :
    ∃ a vs, v = .ref a ∧ RpL K w F H ds vs [] ∧ ((∀ F' H', Stays F H F' H' [] → SqL K H' a vs) ∨ ∀ F' H', Stays F H F' H' [] → SqT K H' a vs) := by
  unfold D.itemsS at e
  split at e
  · cases e
    rw [Rp] at h
    obtain ⟨a, vs, rfl, s, r⟩ := h
    exact ⟨a, vs, rfl, r, .inr fun F' H' st => st.sqT s⟩
  · cases e
    rw [Rp] at h
    obtain ⟨a, vs, rfl, ⟨_, s, S', e', r⟩ | ⟨_, s, _, r⟩⟩ := h
    · cases e'
    · exact ⟨a, vs, rfl, r, .inl fun F' H' st => (st.lstF s).sqL⟩
  · cases e
    rw [Rp] at h
    obtain ⟨a, rfl, s, _⟩ := h
    exact ⟨a, _, rfl, rpL_ints _, .inl fun F' H' st => (st.lstZ s).sqL⟩
  · cases e
end
theorem dI_seq {l : Expr} {m : M D} (hl : PE X l (tE X W m)) : PI X tg l (tI X W (mIt m)) := PIimp (pi_seq hl) fun σ H R q => by
  obtain ⟨F, e, S, A, q⟩ := q
  obtain ⟨F1, e1, S1, A1, q1⟩ := bindE A (Step.refl A.good) q
  refine ⟨F1, e1, S1, A1, q1.mono fun x e2 k v F' H' S' st B => ?_⟩
  obtain ⟨d1, F2, e3, S2, st2, A2, q2⟩ := k v F' H' S' st B
  obtain ⟨ds, hd, g⟩ := Pst.of q2
  obtain ⟨F3, T3, st3, r3, A3⟩ := A2.freeze
  obtain ⟨a, vs, rfl, r, hs⟩ := r3.walks (D.frz_fz d1) hd
  refine ⟨a, rfl, ?_⟩
  rcases hs with hs | hs
  · exact .inl ⟨⟨vs, hs _ _ Stays.refl⟩, g _ F3 H' T3 (st2.trans st3) A3 (itR_list hs r)⟩
  · exact .inr ⟨⟨vs, hs _ _ Stays.refl⟩, g _ F3 H' T3 (st2.trans st3) A3 (itR_tup hs r)⟩

/-! ### range -/
def rngD (lo : Int) (n : Nat) : List D := (List.range n).map fun k => .int (lo + (k : Nat))
def rngC (lo c : Int) (n : Nat) : List D := (List.range n).map fun k => .int (lo + (k : Nat) * c)
def smI (i : Int) : Bool := decide (-(2 ^ 62) ≤ i) && decide (i < 2 ^ 62)
def mRng1 (ms : M (List D)) : M (List D) := fun e => (ms e).bind fun ds e1 => match ds with
  | [.int j] => if smI j = true then .ok (rngD 0 j.toNat) e1 else .fail
  | _ => .fail
def mRng2 (ms : M (List D)) : M (List D) := fun e => (ms e).bind fun ds e1 => match ds with
  | [.int i, .int j] => if smI i = true ∧ smI j = true then .ok (rngD i (j - i).toNat) e1 else .fail
  | _ => .fail
def mRng3 (ms : M (List D)) : M (List D) := fun e => (ms e).bind fun ds e1 => match ds with
  | [.int i, .int j, .int c] => if smI i = true ∧ smI j = true ∧ c = -1 then .ok (rngC i (-1) (i - j).toNat) e1 else .fail
  | _ => .fail
theorem smI_iff {i : Int} (h : smI i = true) : -(2 ^ 62) ≤ i ∧ i < 2 ^ 62 := by
  unfold smI at h
  rw [Bool.and_eq_true, decide_eq_true_eq, decide_eq_true_eq] at h
  exact h
section
variable {K : PySem.W.Frag} {w : World} {F : Fset} {H : Hp}
theorem itR_rng {lo : Int} {n : Nat} : ItR K w (Itr lo n) F H (rngD lo n) where
  go := fun i F' H' hi s => by
    have hi' : i < n := by unfold rngD at hi; simpa using hi
    exact hi'
  stop := fun F' H' s => by unfold rngD; simp [Itr]
  yld := fun i F' H' x H2 s hi y => by
    obtain ⟨rfl, rfl⟩ := y
    have hi' : i < n := by unfold rngD at hi; simpa using hi
    exact ⟨.inl rfl, .int (lo + i), by unfold rngD; simp [hi'], rfl, rfl⟩
theorem itR_rngC {lo c : Int} {n : Nat} : ItR K w (Itc lo c n) F H (rngC lo c n) where
  go := fun i F' H' hi s => by
    have hi' : i < n := by unfold rngC at hi; simpa using hi
    exact hi'
  stop := fun F' H' s => by unfold rngC; simp [Itc]
  yld := fun i F' H' x H2 s hi y => by
    obtain ⟨rfl, rfl⟩ := y
    have hi' : i < n := by unfold rngC at hi; simpa using hi
    exact ⟨.inl rfl, .int (lo + i * c), by unfold rngC; simp [hi'], rfl, rfl⟩
end
theorem At.ints {K : PySem.W.Frag} {w : World} {F : Fset} {H : Hp} {e : Env} {σ : L2.St} {vs : List V} {S : List Addr} {ds : List D} {is : List Int} (A : At K w F H e σ ds vs S) (h : D.intsL ds = some is) : vs = is.map V.int ∧ At K w F H e σ [] [] S := by
  obtain ⟨Sd, Se, rfl, hd, he, g⟩ := A
  refine ⟨hd.ints h, ?_⟩
  have e0 : Sd = [] := by
    have : ∀ {ds : List D} {vs : List V} {S : List Addr} {is : List Int}, D.intsL ds = some is → RpL K w F H ds vs S → S = [] := by
      intro ds
      induction ds with
      | nil => intro vs S is _ r; exact r.2
      | cons d ds ih =>
        intro vs S is h r
        obtain ⟨v, r', S1, S2, rfl, rfl, h1, h2⟩ := r.uncons
        cases d with
        | int i =>
          rw [D.intsL] at h
          cases q : D.intsL ds with
          | none => rw [q] at h; cases h
          | some is' =>
            rw [h1.2, ih q h2]; rfl
        | _ => cases h
    exact this h hd
  subst e0
  exact ⟨[], Se, rfl, RpL.nil, he, g⟩
variable {a b c : Expr} {p pos : Pos} {ms : M (List D)}
theorem dI_rng1 (hm : X.mg "range" = none) (ha : PA X [a] (tA X W ms)) (hg : Gl X "range" := by rfl) (hs : starEach [a] X.env = [(false, eval a X.env)] := by rfl) : PI X tg (.Call (.Name "range" p) [a] [] pos) (tI X W (mRng1 ms)) := PIimp (pi_range1 hg hm ha hs) fun σ H R q => by
  obtain ⟨F, e, S, A, q⟩ := q
  obtain ⟨F1, e1, S1, A1, q1⟩ := bindA A (Step.refl A.good) q
  refine ⟨F1, e1, S1, A1, q1.mono fun x e2 k vs F' H' S' st B => ?_⟩
  obtain ⟨ds, F2, e3, S2, st2, A2, hl, q2⟩ := k vs F' H' S' st B
  rw [List.append_nil, List.append_nil] at A2
  split at q2
  · rename_i j
    split at q2
    · rename_i hj
      obtain ⟨e1, A3⟩ := A2.ints (is := [j]) rfl
      obtain ⟨h1, h2⟩ := smI_iff hj
      exact ⟨j, e1, h1, h2, q2 _ F2 H' S2 st2 A3 itR_rng⟩
    · exact q2.elim
  · exact q2.elim
theorem dI_rng2 (hm : X.mg "range" = none) (ha : PA X [a, b] (tA X W ms)) (hg : Gl X "range" := by rfl) (hs : starEach [a, b] X.env = [(false, eval a X.env), (false, eval b X.env)] := by rfl) (hs2 : starEach [b] X.env = [(false, eval b X.env)] := by rfl) : PI X tg (.Call (.Name "range" p) [a, b] [] pos) (tI X W (mRng2 ms)) := PIimp (pi_range2 hg hm ha hs hs2) fun σ H R q => by
  obtain ⟨F, e, S, A, q⟩ := q
  obtain ⟨F1, e1, S1, A1, q1⟩ := bindA A (Step.refl A.good) q
  refine ⟨F1, e1, S1, A1, q1.mono fun x e2 k vs F' H' S' st B => ?_⟩
  obtain ⟨ds, F2, e3, S2, st2, A2, hl, q2⟩ := k vs F' H' S' st B
  rw [List.append_nil, List.append_nil] at A2
  split at q2
  · rename_i i j
    split at q2
    · rename_i hj
      obtain ⟨e1, A3⟩ := A2.ints (is := [i, j]) rfl
      obtain ⟨h1, h2⟩ := smI_iff hj.1
      obtain ⟨h3, h4⟩ := smI_iff hj.2
      exact ⟨i, j, e1, ⟨h1, h2, h3, h4⟩, q2 _ F2 H' S2 st2 A3 itR_rng⟩
    · exact q2.elim
  · exact q2.elim
theorem dI_rng3 (hm : X.mg "range" = none) (ha : PA X [a, b, c] (tA X W ms)) (hg : Gl X "range" := by rfl) (hs : starEach [a, b, c] X.env = (false, eval a X.env) :: starEach [b, c] X.env := by rfl) (hpl : (backTo pos (starEach [b, c] X.env)).any (·.1) = false := by rfl) : PI X tg (.Call (.Name "range" p) [a, b, c] [] pos) (tI X W (mRng3 ms)) := PIimp (pi_range3 hg hm ha hs hpl) fun σ H R q => by
  obtain ⟨F, e, S, A, q⟩ := q
  obtain ⟨F1, e1, S1, A1, q1⟩ := bindA A (Step.refl A.good) q
  refine ⟨F1, e1, S1, A1, q1.mono fun x e2 k vs F' H' S' st B => ?_⟩
  obtain ⟨ds, F2, e3, S2, st2, A2, hl, q2⟩ := k vs F' H' S' st B
  rw [List.append_nil, List.append_nil] at A2
  split at q2
  · rename_i i j c
    split at q2
    · rename_i hj
      obtain ⟨e1, A3⟩ := A2.ints (is := [i, j, c]) rfl
      obtain ⟨h1, h2⟩ := smI_iff hj.1
      obtain ⟨h3, h4⟩ := smI_iff hj.2.1
      obtain ⟨_, _, rfl⟩ := hj
      exact ⟨i, j, -1, _, e1, RgC.neg h1 h2 h3 h4, q2 _ F2 H' S2 st2 A3 itR_rngC⟩
    · exact q2.elim
  · exact q2.elim

/-! ### zip of two lists or of two tuples; enumerate of a list -/
def zipD : List D → List D → List D
  | a :: as, b :: bs => .tup [a, b] :: zipD as bs
  | _, _ => []
def D.isTup : D → Bool
  | .tup _ => true
  | _ => false
def mZip (ms : M (List D)) : M (List D) := fun e => (ms e).bind fun ds e1 => match D.frzL ds with
  | [.tup as, .tup bs] => .ok (zipD as bs) e1
  | [.lst _ as, .lst _ bs] => .ok (zipD as bs) e1
  | _ => .fail
theorem zipD_len : ∀ as bs : List D, (zipD as bs).length = min as.length bs.length
  | [], _ => by simp [zipD]
  | _ :: _, [] => by simp [zipD]
  | a :: as, b :: bs => by rw [zipD, List.length_cons, zipD_len, List.length_cons, List.length_cons]; omega
theorem zipD_get : ∀ {as bs : List D} {i : Nat} {a b : D}, as[i]? = some a → bs[i]? = some b → (zipD as bs)[i]? = some (.tup [a, b])
  | [], _, _, _, _, h, _ => by simp at h
  | _ :: _, [], _, _, _, _, h => by simp at h
  | a :: as, b :: bs, 0, _, _, h, h' => by simp at h h'; subst h h'; rfl
  | a :: as, b :: bs, i + 1, _, _, h, h' => by rw [zipD, List.getElem?_cons_succ]; exact zipD_get (by simpa using h) (by simpa using h')
section
variable {K : PySem.W.Frag} {w : World} {F : Fset} {H : Hp} {as bs : List D} {us vs : List V} {x y : Addr}
theorem rp_pair {F' : Fset} {H' : Hp} {T : Addr} {a b : D} {u v : V} (hT : H' T = none) (ha : Rp K w F' H' a u []) (hb : Rp K w F' H' b v []) : Rp K w F' (upd H' T (.tup [u, v])) (.tup [a, b]) (.ref T) [] := by
  rw [Rp]
  exact ⟨T, [u, v], rfl, SqT.of upd_same, RpL.cons (S1 := []) (S2 := []) (Rp.stay _ (Stays.new hT) ha) (RpL.cons (S1 := []) (S2 := []) (Rp.stay _ (Stays.new hT) hb) RpL.nil)⟩
theorem itR_zip {J : It} (hgo : ∀ i H', J.go i H' = ∃ (xs ys : List V) (p q : V), SqL K H' x xs ∧ SqL K H' y ys ∧ xs[i]? = some p ∧ ys[i]? = some q)
    (hy : ∀ i H' v H2, J.yld i H' v H2 = ∃ T p q, v = .ref T ∧ H' T = none ∧ H2 = upd H' T (.tup [p, q]) ∧ (∀ xs, SqL K H' x xs → xs[i]? = some p) ∧ ∀ ys, SqL K H' y ys → ys[i]? = some q)
    (hst : ∀ i H', J.stop i H' = ∃ xs ys : List V, SqL K H' x xs ∧ SqL K H' y ys ∧ (xs.length ≤ i ∨ ys.length ≤ i))
    (h1 : ∀ F' H', Stays F H F' H' [] → SqL K H' x us) (h2 : ∀ F' H', Stays F H F' H' [] → SqL K H' y vs) (r1 : RpL K w F H as us []) (r2 : RpL K w F H bs vs []) : ItR K w J F H (zipD as bs) where
  go := fun i F' H' hi s => by
    rw [zipD_len, r1.length, r2.length] at hi
    rw [hgo]
    exact ⟨us, vs, us[i]'(by omega), vs[i]'(by omega), h1 F' H' s, h2 F' H' s, by simp [show i < us.length by omega], by simp [show i < vs.length by omega]⟩
  stop := fun F' H' s => by
    rw [zipD_len, r1.length, r2.length, hst]
    exact ⟨us, vs, h1 F' H' s, h2 F' H' s, by omega⟩
  yld := fun i F' H' v H2 s hi y => by
    rw [zipD_len] at hi
    rw [hy] at y
    obtain ⟨T, p, q, rfl, hT, rfl, y1, y2⟩ := y
    obtain ⟨u1, k1, k2⟩ := (r1.stay0 s).get (i := i) (d := as[i]'(by omega)) (by simp [show i < as.length by omega])
    obtain ⟨u2, k3, k4⟩ := (r2.stay0 s).get (i := i) (d := bs[i]'(by omega)) (by simp [show i < bs.length by omega])
    have e1 := y1 us (h1 F' H' s)
    have e2 := y2 vs (h2 F' H' s)
    rw [k1] at e1; cases e1
    rw [k3] at e2; cases e2
    exact ⟨.inr ⟨T, _, hT, rfl⟩, _, zipD_get (by simp [show i < as.length by omega]) (by simp [show i < bs.length by omega]), rp_pair hT k2 k4⟩
theorem itR_zipT {J : It} (hgo : ∀ i H', J.go i H' = ∃ (xs ys : List V) (p q : V), SqT K H' x xs ∧ SqT K H' y ys ∧ xs[i]? = some p ∧ ys[i]? = some q)
    (hy : ∀ i H' v H2, J.yld i H' v H2 = ∃ T p q, v = .ref T ∧ H' T = none ∧ H2 = upd H' T (.tup [p, q]) ∧ (∀ xs, SqT K H' x xs → xs[i]? = some p) ∧ ∀ ys, SqT K H' y ys → ys[i]? = some q)
    (hst : ∀ i H', J.stop i H' = ∃ xs ys : List V, SqT K H' x xs ∧ SqT K H' y ys ∧ (xs.length ≤ i ∨ ys.length ≤ i))
    (h1 : ∀ F' H', Stays F H F' H' [] → SqT K H' x us) (h2 : ∀ F' H', Stays F H F' H' [] → SqT K H' y vs) (r1 : RpL K w F H as us []) (r2 : RpL K w F H bs vs []) : ItR K w J F H (zipD as bs) where
  go := fun i F' H' hi s => by
    rw [zipD_len, r1.length, r2.length] at hi
    rw [hgo]
    exact ⟨us, vs, us[i]'(by omega), vs[i]'(by omega), h1 F' H' s, h2 F' H' s, by simp [show i < us.length by omega], by simp [show i < vs.length by omega]⟩
  stop := fun F' H' s => by
    rw [zipD_len, r1.length, r2.length, hst]
    exact ⟨us, vs, h1 F' H' s, h2 F' H' s, by omega⟩
  yld := fun i F' H' v H2 s hi y => by
    rw [zipD_len] at hi
    rw [hy] at y
    obtain ⟨T, p, q, rfl, hT, rfl, y1, y2⟩ := y
    obtain ⟨u1, k1, k2⟩ := (r1.stay0 s).get (i := i) (d := as[i]'(by omega)) (by simp [show i < as.length by omega])
    obtain ⟨u2, k3, k4⟩ := (r2.stay0 s).get (i := i) (d := bs[i]'(by omega)) (by simp [show i < bs.length by omega])
    have e1 := y1 us (h1 F' H' s)
    have e2 := y2 vs (h2 F' H' s)
    rw [k1] at e1; cases e1
    rw [k3] at e2; cases e2
    exact ⟨.inr ⟨T, _, hT, rfl⟩, _, zipD_get (by simp [show i < as.length by omega]) (by simp [show i < bs.length by omega]), rp_pair hT k2 k4⟩
end
theorem RpL.two0 {K : PySem.W.Frag} {w : World} {F : Fset} {H : Hp} {d1 d2 : D} {vs : List V} (r : RpL K w F H [d1, d2] vs []) : ∃ v1 v2, vs = [v1, v2] ∧ Rp K w F H d1 v1 [] ∧ Rp K w F H d2 v2 [] := by
  obtain ⟨v1, r1, S1, S2, rfl, e, h1, h2⟩ := r.uncons
  obtain ⟨rfl, rfl⟩ := List.append_eq_nil_iff.mp e.symm
  obtain ⟨v2, r2, S1, S2, rfl, e, h3, h4⟩ := h2.uncons
  obtain ⟨rfl, rfl⟩ := List.append_eq_nil_iff.mp e.symm
  obtain ⟨rfl, _⟩ := h4
  exact ⟨v1, v2, rfl, h1, h3⟩
theorem RpL.one0 {K : PySem.W.Frag} {w : World} {F : Fset} {H : Hp} {d1 : D} {vs : List V} (r : RpL K w F H [d1] vs []) : ∃ v1, vs = [v1] ∧ Rp K w F H d1 v1 [] := by
  obtain ⟨v1, r1, S1, S2, rfl, e, h1, h2⟩ := r.uncons
  obtain ⟨rfl, rfl⟩ := List.append_eq_nil_iff.mp e.symm
  obtain ⟨rfl, _⟩ := h2
  exact ⟨v1, rfl, h1⟩
theorem frzL_fz2 {ds : List D} {a b : D} (h : D.frzL ds = [a, b]) : a.fz = true ∧ b.fz = true := by
  have z := D.frzL_fz ds
  rw [h] at z
  simpa [D.fzL] using z
theorem frzL_fz1 {ds : List D} {a : D} (h : D.frzL ds = [a]) : a.fz = true := by
  have z := D.frzL_fz ds
  rw [h] at z
  simpa [D.fzL] using z
theorem dI_zip {elts : List Expr} {kk : Nat} {tpos : Pos} (hm : X.mg "zip" = none) (ha : PA X [a, b] (tA X W ms)) (hg : Gl X "zip" := by rfl) (hs : starEach [a, b] X.env = (false, eval a X.env) :: starEach [b] X.env := by rfl) (hpl : (backTo pos (starEach [b] X.env)).any (·.1) = false := by rfl) :
    PI X (.Tuple elts kk tpos) (.Call (.Name "zip" p) [a, b] [] pos) (tI X W (mZip ms)) := PIimp (RZ.pi_zipA hg hm ha hs hpl) fun σ H R q => by
  obtain ⟨F, e, S, A, q⟩ := q
  obtain ⟨F1, e1, S1, A1, q1⟩ := bindA A (Step.refl A.good) q
  refine ⟨F1, e1, S1, A1, q1.mono fun x e2 k vs F' H' S' st B => ?_⟩
  obtain ⟨ds, F2, e3, S2, st2, A2, hl, q2⟩ := k vs F' H' S' st B
  obtain ⟨F3, T3, st3, r3, A3⟩ := A2.freezeL hl
  split at q2
  · rename_i as bs he
    rw [he] at r3
    obtain ⟨v1, v2, rfl, h1, h2⟩ := r3.two0
    rw [Rp] at h1 h2
    obtain ⟨x, us, rfl, s1, r1⟩ := h1
    obtain ⟨y, ws, rfl, s2, r2⟩ := h2
    exact ⟨x, y, us, ws, rfl, .inr ⟨s1, s2, q2 _ F3 H' T3 (st2.trans st3) A3 (itR_zipT (fun _ _ => rfl) (fun _ _ _ _ => rfl) (fun _ _ => rfl) (fun _ _ s => s.sqT s1) (fun _ _ s => s.sqT s2) r1 r2)⟩⟩
  · rename_i m1 as m2 bs he
    obtain ⟨z1, z2⟩ := frzL_fz2 he
    rw [he] at r3
    obtain ⟨v1, v2, rfl, h1, h2⟩ := r3.two0
    rw [Rp] at h1 h2
    obtain ⟨x, us, rfl, ⟨_, _, _, e', _⟩ | ⟨_, s1, _, r1⟩⟩ := h1
    · cases e'
    · obtain ⟨y, ws, rfl, ⟨_, _, _, e', _⟩ | ⟨_, s2, _, r2⟩⟩ := h2
      · cases e'
      · exact ⟨x, y, us, ws, rfl, .inl ⟨s1.sqL, s2.sqL, q2 _ F3 H' T3 (st2.trans st3) A3 (itR_zip (fun _ _ => rfl) (fun _ _ _ _ => rfl) (fun _ _ => rfl) (fun _ _ s => (s.lstF s1).sqL) (fun _ _ s => (s.lstF s2).sqL) r1 r2)⟩⟩
  · exact q2.elim
end
end Pl
set_option Elab.async false
set_option linter.all false
set_option maxRecDepth 100000
set_option maxHeartbeats 1000000
/-! Pl: for, while. -/
namespace Pl
open PySem PySem.Spec PyProof.Rows L2

/-- behind a turn of a loop's body -/
def onFl (r : R Fl) (k : Env → R Fl) : R Fl := match r with
  | .ok .next e => k e
  | .ok .brk e => .ok .next e
  | .ok (.ret d) e => .ok (.ret d) e
  | .exc x e => .exc x e
  | .fail => .fail
def forL (t : Tgt) (b : M Fl) : List D → M Fl
  | [] => mNext
  | d :: ds => fun e => match asg t d e with
    | some e1 => onFl (b e1) (forL t b ds)
    | none => .fail
def mFor (it : M (List D)) (t : Tgt) (b : M Fl) : M Fl := fun e => (it e).bind (forL t b)
def whileN (c : M D) (b : M Fl) : Nat → M Fl
  | 0 => fun _ => .fail
  | n + 1 => fun e => (c e).bind (onB fun t e1 => if t = true then onFl (b e1) (whileN c b n) else .ok .next e1)
def R.ran {α : Type} : R α → Bool
  | .fail => false
  | _ => true
open Classical in
noncomputable def mWhile (c : M D) (b : M Fl) : M Fl := fun e => if h : ∃ n, (whileN c b n e).ran = true then whileN c b (Classical.choose h) e else .fail
theorem forL_cons (t : Tgt) (b : M Fl) (d : D) (ds : List D) (e : Env) : forL t b (d :: ds) e = match asg t d e with
    | some e1 => onFl (b e1) (forL t b ds)
    | none => .fail := rfl
theorem whileN_succ (c : M D) (b : M Fl) (n : Nat) (e : Env) : whileN c b (n + 1) e = (c e).bind (onB fun t e1 => if t = true then onFl (b e1) (whileN c b n) else .ok .next e1) := rfl
theorem onFl_ran {r : R Fl} {k k' : Env → R Fl} (h : (onFl r k).ran = true) (hk : ∀ e, (k e).ran = true → k' e = k e) : onFl r k' = onFl r k := by
  cases r with
  | ok f e =>
    cases f with
    | next => exact hk e h
    | brk => rfl
    | ret d => rfl
  | exc x e => rfl
  | fail => rfl
theorem whileN_more (c : M D) (b : M Fl) : ∀ (n m : Nat) (e : Env), n ≤ m → (whileN c b n e).ran = true → whileN c b m e = whileN c b n e
  | 0, _, _, _, h => nomatch h
  | n + 1, 0, _, hl, _ => absurd hl (by omega)
  | n + 1, m + 1, e, hl, h => by
    rw [whileN_succ] at h ⊢
    rw [whileN_succ]
    cases r : c e with
    | ok d e1 =>
      rw [r] at h
      rw [R.bind_ok, R.bind_ok]
      rw [R.bind_ok] at h
      cases d with
      | bl t =>
        show (if t = true then _ else _) = (if t = true then _ else _)
        cases t with
        | true => exact onFl_ran h fun e' h' => whileN_more c b n m e' (by omega) h'
        | false => rfl
      | _ => rfl
    | exc x e1 => rfl
    | fail => rfl
theorem mWhile_eq {c : M D} {b : M Fl} {n : Nat} {e : Env} (h : (whileN c b n e).ran = true) : mWhile c b e = whileN c b n e := by
  have hx : ∃ n, (whileN c b n e).ran = true := ⟨n, h⟩
  unfold mWhile
  rw [dif_pos hx]
  have h2 := Classical.choose_spec hx
  rcases Nat.le_total n (Classical.choose hx) with l | l
  · exact whileN_more c b _ _ e l h
  · exact (whileN_more c b _ _ e l h2).symm

section
variable {X : Cx} {pn : Option V} {W : WX} {Dd : Ends} {F F' F1 : Fset} {H H' H1 : Hp} {S S' S1 : List Addr} {σ : L2.St} {e : Env}
theorem stI {m : M (List D)} {k : List D → Env → R Fl} (A : At X.K X.w F1 H1 e σ [] [] S1) (p : PnOk pn σ) (st : Step F H S F1 H1 S1) (h : PstS X pn W Dd F H S ((m e).bind k)) :
    tI X W m σ H1 fun J H2 => ∃ ds F2 e2 S2, Step F H S F2 H2 S2 ∧ At X.K X.w F2 H2 e2 σ [] [] S2 ∧ ItR X.K X.w J F2 H2 ds ∧ PstS X pn W Dd F H S (k ds e2) := by
  refine ⟨F1, e, S1, A, ?_⟩
  cases r : m e with
  | ok d e' => rw [r] at h; exact fun J F' H' S' s a i => ⟨d, F', e', S', st.trans s, a, i, h⟩
  | exc x e' => rw [r] at h; exact fun cls dd F' H' S' s a q => h σ cls dd F' H' S' (st.trans s) a p q
  | fail => rw [r] at h; exact h.elim
theorem tI_mono {m : M (List D)} {σ : L2.St} {H : Hp} {Q Q' : It → Hp → Prop} (h : tI X W m σ H Q) (k : ∀ v H', Q v H' → Q' v H') : tI X W m σ H Q' := by
  obtain ⟨F, e, S, A, q⟩ := h
  exact ⟨F, e, S, A, q.mono fun d e' g J F' H' S' st B i => k _ _ (g J F' H' S' st B i)⟩
/-- a turn's body, then the rest -/
theorem PstS.body {r : R Fl} {k : Env → R Fl} {N : L2.St → Hp → Prop} (h : PstS X pn W Dd F H S (onFl r k)) (hN : ∀ σ' F' H' e' S', Step F H S F' H' S' → At X.K X.w F' H' e' σ' [] [] S' → PnOk pn σ' → PstS X pn W Dd F H S (k e') → N σ' H') :
    PstS X pn W { Dd with nx := N, ct := N, bk := Dd.nx } F H S r := by
  cases r with
  | ok f e =>
    cases f with
    | next => exact fun σ' F' H' S' st A p => hN σ' F' H' e S' st A p h
    | brk => exact h
    | ret d => exact h
  | exc x e => exact h
  | fail => exact h
variable {iter : Expr} {tg c : Expr} {body : List Stmt} {pos : Pos} {it : M (List D)} {t : Tgt} {b : M Fl} {mc : M D}
theorem dS_for (hp : PassesOwn (model X.prog X.w) X.A X.env X.xe) (hi : PI X tg iter (tI X W it)) (hg : PG X tg (tG X pn t)) (hb : PSs X body (tS X pn W b)) (hc : X.calm = true := by rfl)
    (hs : ∀ x, foldedSetIterable iter X.env x = pure x := by intro _; rfl) : PS X (.For tg iter body [] pos) (tS X pn W (mFor it t b)) := PSimp (ps_for hp hc hi hg hb hs) fun Dd σ H q => by
  obtain ⟨F, e, S, A, p, q⟩ := q
  refine tI_mono (stI A p (Step.refl A.good) q) fun J H2 z => ?_
  obtain ⟨ds, F2, e2, S2, st, B, ir, k⟩ := z
  have w : L2.Walk J ds.length (fun H' => ∃ F', Stays F2 H2 F' H' []) (fun i H' x H3 => ∀ F', Stays F2 H2 F' H' [] → NewH H' H3 ∧ ∃ d, ds[i]? = some d ∧ Rp X.K X.w F' H3 d x []) :=
    ⟨fun i H hi ⟨F', s⟩ => ir.go i F' H hi s, fun H ⟨F', s⟩ => ir.stop F' H s, fun i H x H' hi _ y F' s => ir.yld i F' H x H' s hi y⟩
  refine L2.for_it w (fun i σ' H' => ∃ F' e' S', Step F2 H2 S2 F' H' S' ∧ At X.K X.w F' H' e' σ' [] [] S' ∧ PnOk pn σ' ∧ PstS X pn W Dd F' H' S' (forL t b (ds.drop i) e')) ⟨F2, e2, S2, Step.refl B.good, B, p, k.later st⟩ ?_ ?_ ?_
  · rintro i σ' H' hi ⟨F', e', S', s, A', p', k'⟩
    exact ⟨F', s.stays0 B.good⟩
  · rintro i x σ' H' H3 hi ⟨F', e', S', s, A', p', k'⟩ y
    obtain ⟨nw, d, hd, r⟩ := y F' (s.stays0 B.good)
    obtain ⟨A3, s3⟩ := A'.newH nw
    have dr : ds.drop i = d :: ds.drop (i + 1) := by
      obtain ⟨h1, h2⟩ := List.getElem?_eq_some_iff.mp hd
      rw [List.drop_eq_getElem_cons h1, h2]
    rw [dr, forL_cons] at k'
    refine ⟨d, F', e', S', [], [], A3.push0 r, p', ?_⟩
    cases ra : asg t d e' with
    | none => rw [ra] at k'; exact k'.elim
    | some e1 =>
      rw [ra] at k'
      refine fun σ4 S4 A4 s4 p4 _ => ⟨F', e1, S4, A4, p4, ?_⟩
      exact (k'.later (s3.trans s4)).body fun σ5 F5 H5 e5 S5 st5 A5 p5 k5 => ⟨F5, e5, S5, ((s.trans s3).trans s4).trans st5, A5, p5, k5.later st5⟩
  · rintro σ' H' ⟨F', e', S', s, A', p', k'⟩
    rw [List.drop_length] at k'
    exact k' σ' F' H' S' (Step.refl A'.good) A' p'
theorem whileN_cases {n : Nat} {e : Env} (h : PstS X pn W Dd F H S (mWhile mc b e)) : ∃ n, PstS X pn W Dd F H S (whileN mc b n e) := by
  unfold mWhile at h
  split at h
  · exact ⟨_, h⟩
  · exact h.elim
theorem dS_while (hp : PassesOwn (model X.prog X.w) X.A X.env X.xe) (hc : PT X c (tT X W mc)) (hb : PSs X body (tS X pn W b)) : PS X (.While c body [] pos) (tS X pn W (mWhile mc b)) := PSimp (ps_while hp hc hb) fun Dd σ H q => by
  obtain ⟨F, e, S, A, p, q⟩ := q
  obtain ⟨n, q⟩ := whileN_cases (n := 0) q
  refine ⟨fun m σ' H' => ∃ F' e' S', At X.K X.w F' H' e' σ' [] [] S' ∧ PnOk pn σ' ∧ PstS X pn W Dd F' H' S' (whileN mc b m e'), ⟨n, F, e, S, A, p, q⟩, ?_⟩
  rintro m σ' H' ⟨F', e', S', A', p', k'⟩
  cases m with
  | zero => exact k'.elim
  | succ m =>
    rw [whileN_succ] at k'
    refine tT_mono (stB A' p' (Step.refl A'.good) k') fun t H2 z => ?_
    obtain ⟨F2, e2, S2, st, B, k⟩ := z
    cases t with
    | true =>
      rw [if_pos rfl] at k ⊢
      refine ⟨fun σ' H' => ∃ F' e' S', At X.K X.w F' H' e' σ' [] [] S' ∧ PnOk pn σ' ∧ PstS X pn W Dd F' H' S' (whileN mc b m e'), fun σ3 H3 z => ⟨m, Nat.lt_succ_self m, z⟩, F2, e2, S2, B, p', ?_⟩
      exact (k.later st).body fun σ5 F5 H5 e5 S5 st5 A5 p5 k5 => ⟨F5, e5, S5, A5, p5, k5.later st5⟩
    | false =>
      rw [if_neg Bool.false_ne_true] at k ⊢
      exact k σ' F2 H2 S2 st B p'
end
end Pl
set_option Elab.async false
set_option linter.all false
set_option maxRecDepth 100000
set_option maxHeartbeats 1000000
/-! Pl: list comprehensions. -/
namespace Pl
open PySem PySem.Spec PyProof.Rows L2

def noX : WX := fun _ _ _ _ => False
/-- nothing is raised -/
def noE {α : Type} (r : R α) : R α := match r with
  | .exc _ _ => .fail
  | r => r
def wipeE : Env → List Nat → Env
  | e, [] => e
  | e, i :: is => (wipeE e is).set i none
/-- what was held in the block's own slots ahead of it -/
def backE (e : Env) : List Nat → Env → Env
  | [], eb => eb
  | i :: is, eb => backE e is (eb.set i ((wipeE e is)[i]?.join))
def lcL (t : Tgt) (own : List Nat) (c y : M D) : List D → List D → Env → R (List D)
  | [], acc, e => .ok acc e
  | d :: ds, acc, e => match asg t d e with
    | some e1 => (noE (c e1)).bind (onB fun b e2 => if b = true then (noE (y e2)).bind fun z e3 => if acc.length < sizeLine then lcL t own c y ds (acc ++ [z]) (wipeE e3 own) else .fail
      else lcL t own c y ds acc (wipeE e2 own))
    | none => .fail
def mLc (it : M (List D)) (t : Tgt) (own : List Nat) (c y : M D) : M D := fun e => (it e).bind fun ds e1 => (lcL t own c y ds [] (wipeE e1 own)).bind fun ys e2 => .ok (.lst true ys) (backE e1 own e2)
theorem lcL_cons (t : Tgt) (own : List Nat) (c y : M D) (d : D) (ds acc : List D) (e : Env) : lcL t own c y (d :: ds) acc e = match asg t d e with
    | some e1 => (noE (c e1)).bind (onB fun b e2 => if b = true then (noE (y e2)).bind fun z e3 => if acc.length < sizeLine then lcL t own c y ds (acc ++ [z]) (wipeE e3 own) else .fail
      else lcL t own c y ds acc (wipeE e2 own))
    | none => .fail := rfl

theorem wipeE_len (e : Env) : ∀ is : List Nat, (wipeE e is).length = e.length
  | [] => rfl
  | i :: is => by rw [wipeE, List.length_set, wipeE_len e is]
/-- nothing is held at is -/
def NoneAt (e : Env) (is : List Nat) : Prop := ∀ i ∈ is, i < e.length → e[i]? = some none
theorem noneAt_wipe (e : Env) : ∀ is : List Nat, NoneAt (wipeE e is) is
  | [] => fun i h => nomatch h
  | j :: js => fun i h hl => by
    rw [wipeE] at hl ⊢
    by_cases e' : j = i
    · subst e'
      rw [List.length_set] at hl
      exact set_none hl
    · rw [List.getElem?_set_ne e']
      rw [List.length_set] at hl
      rcases List.mem_cons.mp h with z | z
      · exact absurd z.symm e'
      · exact noneAt_wipe e js i z hl

section
variable {K : PySem.W.Frag} {w : World} {F F' : Fset} {H H' : Hp} {S S1 S2 T : List Addr} {a p : Addr} {o : HO} {e : Env} {σ : L2.St} {d d' : D} {ds : List D} {v : V} {vs : List V}
theorem EnvR.out {i : Nat} {x : Option V} (h : EnvR K w F H e σ S) (hl : ¬ i < e.length) : e.set i none = e ∧ σ.set i x = σ := by
  have l := h.len
  exact ⟨List.set_eq_of_length_le (by omega), List.set_eq_of_length_le (by omega)⟩
/-- a slot emptied -/
theorem EnvR.dropV (h : EnvR K w F H e σ S) (i : Nat) : ∃ S2, S2.Sublist S ∧ EnvR K w F H (e.set i none) (σ.set i none) S2 := by
  obtain ⟨S2, sb, q⟩ := h.drop i
  by_cases hl : i < e.length
  · exact ⟨S2, sb, q.any none (set_none hl)⟩
  · obtain ⟨e1, e2⟩ := h.out (x := none) hl
    rw [e1, e2]
    exact ⟨S, List.Sublist.refl _, h⟩
theorem EnvR.wipe (h : EnvR K w F H e σ S) : ∀ is : List Nat, ∃ S2, S2.Sublist S ∧ EnvR K w F H (wipeE e is) (L2.wipe σ is) S2
  | [] => ⟨S, List.Sublist.refl _, h⟩
  | i :: is => by
    obtain ⟨S2, sb, q⟩ := EnvR.wipe h is
    obtain ⟨S3, sb2, q2⟩ := q.dropV i
    exact ⟨S3, sb2.trans sb, q2⟩
theorem get_out {α : Type} {l : List α} {i : Nat} (h : ¬ i < l.length) : l[i]? = none := List.getElem?_eq_none (by omega)
/-- the block's own slots emptied, what they held aside -/
theorem EnvR.aside (h : EnvR K w F H e σ S) : ∀ is : List Nat, ∃ Sa Sb, S.Perm (Sa ++ Sb) ∧ EnvR K w F H (wipeE e is) (L2.wipe σ is) Sb ∧
    ∀ {F' : Fset} {H' : Hp} {eb : Env} {Sc : List Addr}, Stays F H F' H' Sa → EnvR K w F' H' eb (L2.wipe σ is) Sc → NoneAt eb is → ∃ S', S'.Perm (Sa ++ Sc) ∧ EnvR K w F' H' (backE e is eb) σ S'
  | [] => ⟨[], S, List.Perm.refl _, h, fun {F' H' eb Sc} _ q _ => ⟨Sc, List.Perm.refl _, q⟩⟩
  | i :: is => by
    obtain ⟨Sa, Sb, pm, q, back⟩ := EnvR.aside h is
    have nb := noneAt_wipe e is
    by_cases hl : i < (wipeE e is).length
    · cases g : (wipeE e is)[i]? with
      | none => rw [List.getElem?_eq_getElem hl] at g; cases g
      | some z =>
        cases z with
        | some d =>
          obtain ⟨v, S1, S2, g1, g2, g3, g4⟩ := q.take g
          refine ⟨S1 ++ Sa, S2, ?_, g4.any none (set_none hl), fun {F' H' eb Sc} st qe ne => ?_⟩
          · refine pm.trans (((List.Perm.refl Sa).append g2).trans ?_)
            rw [← List.append_assoc]
            exact List.perm_append_comm.append_right _
          · have nis : i ∉ is := fun z => by
              have w := nb i z hl
              rw [g] at w; cases w
            have le : i < eb.length := by
              have := qe.len
              rw [wipe_length] at this
              have l2 := q.len
              rw [wipe_length] at l2
              omega
            obtain ⟨S3, p3, q3⟩ := qe.put (i := i) (ne i List.mem_cons_self le) (Rp.stay d (st.sub fun b hb => List.mem_append_left _ hb) g3)
            have eσ : (L2.wipe σ (i :: is)).set i (some v) = L2.wipe σ is := by
              show ((L2.wipe σ is).set i none).set i (some v) = _
              rw [List.set_set, set_get g1]
            rw [eσ] at q3
            obtain ⟨S4, p4, q4⟩ := back (st.sub fun b hb => List.mem_append_right _ hb) q3 fun j hj hjl => by
              have hij : i ≠ j := fun z => nis (z ▸ hj)
              rw [List.getElem?_set_ne hij]
              rw [List.length_set] at hjl
              exact ne j (List.mem_cons_of_mem _ hj) hjl
            refine ⟨S4, ?_, ?_⟩
            · refine p4.trans (((List.Perm.refl Sa).append p3).trans ?_)
              rw [← List.append_assoc]
              exact List.perm_append_comm.append_right _
            · rw [backE, g]
              exact q4
        | none =>
          refine ⟨Sa, Sb, pm, ?_, fun {F' H' eb Sc} st qe ne => ?_⟩
          · have z := q.any none g
            rw [wipeE, set_get g]
            exact z
          · have le : i < eb.length := by
              have := qe.len
              rw [wipe_length] at this
              have l2 := q.len
              rw [wipe_length] at l2
              omega
            obtain ⟨x, hx⟩ : ∃ x, (L2.wipe σ is)[i]? = some x := ⟨_, List.getElem?_eq_getElem (by rw [← q.len]; exact hl)⟩
            have z := qe.any x (ne i List.mem_cons_self le)
            have eσ : (L2.wipe σ (i :: is)).set i x = L2.wipe σ is := by
              show ((L2.wipe σ is).set i none).set i x = _
              rw [List.set_set, set_get hx]
            rw [eσ] at z
            rw [backE, g]
            have e2 : eb.set i ((some (none : Option D)).join) = eb := set_get (ne i List.mem_cons_self le)
            rw [e2]
            exact back st z fun j hj hjl => ne j (List.mem_cons_of_mem _ hj) hjl
    · obtain ⟨e1, e2⟩ := q.out (x := none) hl
      refine ⟨Sa, Sb, pm, ?_, fun {F' H' eb Sc} st qe ne => ?_⟩
      · show EnvR K w F H ((wipeE e is).set i none) ((L2.wipe σ is).set i none) Sb
        rw [e1, e2]; exact q
      · have qe : EnvR K w F' H' eb ((L2.wipe σ is).set i none) Sc := qe
        rw [e2] at qe
        have le : ¬ i < eb.length := by
          have := qe.len
          have l2 := q.len
          omega
        rw [backE, List.set_eq_of_length_le (by omega)]
        exact back st qe fun j hj hjl => ne j (List.mem_cons_of_mem _ hj) hjl

/-! ### writing what is owned -/
theorem Step.write (g : Good F H S) (hp : p ∈ S) (wr : Wr o) : Step F H S F (upd H p o) S := by
  have np : ∀ c u, H c = some u → c ∉ S → c ≠ p := fun c u _ n z => n (z ▸ hp)
  refine ⟨fun c u q n => by rw [upd_ne (np c u q n)]; exact q, fun _ f => f, fun _ f => .inl f, fun _ h => .inl h, ⟨g.nd, fun c hc => ?_, fun c f => ?_⟩⟩
  · refine ⟨(g.own c hc).1, ?_⟩
    by_cases z : c = p
    · subst z; exact ⟨o, upd_same, wr⟩
    · rw [upd_ne z]; exact (g.own c hc).2
  · have z : c ≠ p := fun z => (g.own p hp).1 (z ▸ f)
    rw [upd_ne z]; exact g.fro c f
theorem Stays.write {R : List Addr} (g : Good F H S) (hp : p ∈ S) (hr : p ∉ R) : Stays F H F (upd H p o) R := by
  obtain ⟨nf, u, hu, wr⟩ := g.own p hp
  refine ⟨fun c hc x q => ?_, fun c x f q => ⟨f, ?_⟩, fun c xs q => ?_, fun c x y q => ?_⟩
  · have z : c ≠ p := fun z => by rw [z] at hc; exact hr hc
    rw [upd_ne z]; exact q
  · have z : c ≠ p := fun z => by rw [z] at f; exact nf f
    rw [upd_ne z]; exact q
  · rw [upd_ne (fun z => by rw [z, hu] at q; cases q; exact wr)]; exact q
  · rw [upd_ne (fun z => by rw [z, hu] at q; cases q; exact wr)]; exact q
/-- an item goes to the end of a list that is held as a temporary -/
theorem At.app {acc : List D} (A : At K w F H e σ [d, .lst true acc] [v, .ref p] S) : ∃ avs S', H p = some (.lst avs) ∧ avs.length = acc.length ∧ At K w F (upd H p (.lst (avs ++ [v]))) e σ [.lst true (acc ++ [d])] [.ref p] S' ∧ Step F H S F (upd H p (.lst (avs ++ [v]))) S' := by
  obtain ⟨Sd, Se, rfl, h, q, g⟩ := A
  obtain ⟨v', r, S1, S2, e1, rfl, h1, h2⟩ := h.uncons
  cases e1
  obtain ⟨v', r, S2, S3, e1, rfl, h4, h3⟩ := h2.uncons
  cases e1
  obtain rfl := h3.2
  rw [List.append_nil] at g ⊢
  rw [Rp] at h4
  obtain ⟨a, avs, e1, ⟨_, hp, S4, rfl, r⟩ | ⟨z, _⟩⟩ := h4
  · cases e1
    have pm : ((S1 ++ p :: S4) ++ Se).Perm ((p :: (S4 ++ S1)) ++ Se) := List.Perm.append_right _ (List.perm_append_comm.trans (by rw [List.cons_append]))
    have g2 := g.perm pm
    have nd := List.nodup_append.mp g2.nd
    have na : p ∉ S4 ++ S1 := (List.nodup_cons.mp nd.1).1
    have ne : p ∉ Se := fun z => nd.2.2 p List.mem_cons_self p z rfl
    have m : p ∈ (p :: (S4 ++ S1)) ++ Se := List.mem_append_left _ List.mem_cons_self
    have sw : Step F H ((p :: (S4 ++ S1)) ++ Se) F (upd H p (.lst (avs ++ [v]))) ((p :: (S4 ++ S1)) ++ Se) := Step.write g2 m trivial
    refine ⟨avs, (p :: (S4 ++ S1)) ++ Se, hp, r.length.symm, ⟨_, Se, rfl, ?_, q.stay (Stays.write g2 m ne), sw.good⟩, sw.permL pm.symm⟩
    have r1 : RpL K w F (upd H p (.lst (avs ++ [v]))) acc avs S4 := RpL.stay _ (Stays.write g2 m fun z => na (List.mem_append_left _ z)) r
    have r2 : Rp K w F (upd H p (.lst (avs ++ [v]))) d v S1 := Rp.stay _ (Stays.write g2 m fun z => na (List.mem_append_right _ z)) h1
    have r3 := r1.append (RpL.cons r2 RpL.nil)
    rw [List.append_nil] at r3
    have z : Rp K w F (upd H p (.lst (avs ++ [v]))) (.lst true (acc ++ [d])) (.ref p) (p :: (S4 ++ S1)) := by
      rw [Rp]
      exact ⟨p, _, rfl, .inl ⟨rfl, upd_same, _, rfl, r3⟩⟩
    have z2 := RpL.cons z RpL.nil
    rw [List.append_nil] at z2
    exact z2
  · cases z
end

section
variable {X : Cx} {W : WX} {F F1 : Fset} {H H1 : Hp} {S S1 : List Addr} {σ σ' : L2.St} {e : Env} {ds : List D} {vs : List V}
theorem bindI {β : Type} {m : M (List D)} {k : List D → Env → R β} {G : β → Env → Prop} (A : At X.K X.w F1 H1 e σ [] [] S1) (st : Step F H S F1 H1 S1) (h : Pst X W F H S σ ((m e).bind k) G) :
    tI X W m σ H1 fun J H2 => ∃ ds F2 e2 S2, Step F H S F2 H2 S2 ∧ At X.K X.w F2 H2 e2 σ [] [] S2 ∧ ItR X.K X.w J F2 H2 ds ∧ Pst X W F H S σ (k ds e2) G := by
  refine ⟨F1, e, S1, A, ?_⟩
  cases r : m e with
  | ok d e' => rw [r] at h; exact fun J F' H' S' s a i => ⟨d, F', e', S', st.trans s, a, i, h⟩
  | exc x e' => rw [r] at h; exact fun cls dd F' H' S' s a q => h cls dd F' H' S' (st.trans s) a q
  | fail => rw [r] at h; exact h.elim
theorem lcL_ok {t : Tgt} {own : List Nat} {c y : M D} : ∀ {ds acc : List D} {e : Env} {x : Exn} {e' : Env}, lcL t own c y ds acc e ≠ .exc x e'
  | [], acc, e, x, e', h => by cases h
  | d :: ds, acc, e, x, e', h => by
    rw [lcL_cons] at h
    split at h
    · rename_i e1 _
      cases r : c e1 with
      | ok z e2 =>
        rw [r] at h
        simp only [noE, R.bind_ok] at h
        cases z with
        | bl b =>
          simp only [onB] at h
          split at h
          · cases r2 : y e2 with
            | ok z e3 =>
              rw [r2] at h
              simp only [R.bind_ok] at h
              split at h
              · exact lcL_ok h
              · cases h
            | exc x e => rw [r2] at h; cases h
            | fail => rw [r2] at h; cases h
          · exact lcL_ok h
        | _ => cases h
      | exc x e => rw [r] at h; cases h
      | fail => rw [r] at h; cases h
    · cases h
/-- a turn that goes -/
theorem lcL_turn {t : Tgt} {own : List Nat} {c y : M D} {d : D} {ds acc ys : List D} {e eE : Env} (h : lcL t own c y (d :: ds) acc e = .ok ys eE) : ∃ e1 b e2, asg t d e = some e1 ∧ c e1 = .ok (.bl b) e2 ∧
    ((b = true ∧ ∃ z e3, y e2 = .ok z e3 ∧ acc.length < sizeLine ∧ lcL t own c y ds (acc ++ [z]) (wipeE e3 own) = .ok ys eE) ∨ (b = false ∧ lcL t own c y ds acc (wipeE e2 own) = .ok ys eE)) := by
  rw [lcL_cons] at h
  split at h
  · rename_i e1 ha
    cases r : c e1 with
    | ok z e2 =>
      rw [r] at h
      simp only [noE, R.bind_ok] at h
      cases z with
      | bl b =>
        simp only [onB] at h
        refine ⟨e1, b, e2, ha, r, ?_⟩
        split at h
        · rename_i hb
          refine .inl ⟨hb, ?_⟩
          cases r2 : y e2 with
          | ok z e3 =>
            rw [r2] at h
            simp only [R.bind_ok] at h
            split at h
            · rename_i hl
              exact ⟨z, e3, rfl, hl, h⟩
            · cases h
          | exc x e => rw [r2] at h; cases h
          | fail => rw [r2] at h; cases h
        · rename_i hb
          exact .inr ⟨by simpa using hb, h⟩
      | _ => cases h
    | exc x e => rw [r] at h; cases h
    | fail => rw [r] at h; cases h
  · cases h
theorem tT_here {m : M D} {b : Bool} {e2 : Env} (A : At X.K X.w F1 H1 e σ ds vs S1) (h : m e = .ok (.bl b) e2) : tT X noX m σ H1 fun b' H2 => b' = b ∧ ∃ F2 S2, Step F1 H1 S1 F2 H2 S2 ∧ At X.K X.w F2 H2 e2 σ ds vs S2 := by
  refine tT_mono (bindT (β := Bool) (k := fun d e' => match d with | .bl b => .ok b e' | _ => .fail) (G := fun b' e' => b' = b ∧ e' = e2) A (Step.refl A.good) ?_) fun b' H2 ⟨F2, e3, S2, st, B, k⟩ => ?_
  · rw [h]; exact ⟨rfl, rfl⟩
  · obtain ⟨rfl, rfl⟩ : b' = b ∧ e3 = e2 := k
    exact ⟨rfl, F2, S2, st, B⟩
theorem tE_here {m : M D} {d : D} {e2 : Env} (A : At X.K X.w F1 H1 e σ ds vs S1) (h : m e = .ok d e2) : tE X noX m σ H1 fun v H2 => ∃ F2 S2, Step F1 H1 S1 F2 H2 S2 ∧ At X.K X.w F2 H2 e2 σ (d :: ds) (v :: vs) S2 := by
  refine tE_mono (bindE (β := D) (k := fun d e' => .ok d e') (G := fun b' e' => b' = d ∧ e' = e2) A (Step.refl A.good) ?_) fun v H2 ⟨d', F2, e3, S2, st, B, k⟩ => ?_
  · rw [h]; exact ⟨rfl, rfl⟩
  · obtain ⟨rfl, rfl⟩ : d' = d ∧ e3 = e2 := k
    exact ⟨F2, S2, st, B⟩
/-- the turn's end: the block's own slots are emptied -/
theorem At.wipe (A : At X.K X.w F H e σ ds vs S) (is : List Nat) : ∃ S', At X.K X.w F H (wipeE e is) (L2.wipe σ is) ds vs S' ∧ Step F H S F H S' := by
  obtain ⟨Sd, Se, rfl, h, q, g⟩ := A
  obtain ⟨S2, sb, q2⟩ := q.wipe is
  have nd : (Sd ++ S2).Nodup := ((List.Sublist.refl Sd).append sb).nodup g.nd
  have su : ∀ a ∈ Sd ++ S2, a ∈ Sd ++ Se := fun a ha => ((List.Sublist.refl Sd).append sb).subset ha
  exact ⟨Sd ++ S2, ⟨Sd, S2, rfl, h, q2, g.sub su nd⟩, Step.weak g su nd⟩
/-- the comprehension's reading -/
theorem tE_lc {it : M (List D)} {t : Tgt} {own : List Nat} {c y : M D} (hsl : ∀ j ∈ t.sl, j ∈ own) : ∀ σ H Q, tE X W (mLc it t own c y) σ H Q → tLc (tI X W it) (tG X none t) (tT X noX c) (tE X noX y) own σ H Q := fun σ H Q q => by
  obtain ⟨F, e, S, A, q⟩ := q
  obtain ⟨F1, e1, S1, A1, q1⟩ := bindI A (Step.refl A.good) q
  refine ⟨F1, e1, S1, A1, q1.mono fun ds e2 k J F' H' S' st B ir => ?_⟩
  obtain ⟨ds, F2, e3, S2, st2, A2, ir, q2⟩ := k J F' H' S' st B ir
  intro p hp
  cases rr : lcL t own c y ds [] (wipeE e3 own) with
  | exc x e => exact absurd rr lcL_ok
  | fail => rw [rr] at q2; exact q2.elim
  | ok ys eE =>
    rw [rr] at q2
    obtain ⟨_, Se, rfl, z, he, g⟩ := A2
    obtain rfl := z.2
    rw [List.nil_append] at g st2
    obtain ⟨Sa, Sb, pm, q3, back⟩ := he.aside own
    have g2 := g.perm pm
    have gp : Step F2 H' Sb F2 (upd H' p (.lst [])) (p :: Sb) := Step.newO g2.right hp trivial
    have A0 : At X.K X.w F2 (upd H' p (.lst [])) (wipeE e3 own) (L2.wipe σ own) [.lst true []] [.ref p] (p :: Sb) := by
      refine ⟨[p], Sb, rfl, ?_, q3.stay (Stays.new hp), gp.good⟩
      have r : Rp X.K X.w F2 (upd H' p (.lst [])) (.lst true []) (.ref p) [p] := by
        rw [Rp]; exact ⟨p, [], rfl, .inl ⟨rfl, upd_same, [], rfl, RpL.nil⟩⟩
      have z := RpL.cons r RpL.nil
      rw [List.append_nil] at z
      exact z
    have w : L2.Walk J ds.length (fun H3 => ∃ F3, Stays F2 H' F3 H3 []) (fun i H3 x H4 => ∀ F3, Stays F2 H' F3 H3 [] → NewH H3 H4 ∧ ∃ d, ds[i]? = some d ∧ Rp X.K X.w F3 H4 d x []) :=
      ⟨fun i H hi ⟨F', s⟩ => ir.go i F' H hi s, fun H ⟨F', s⟩ => ir.stop F' H s, fun i H x H' hi _ y F' s => ir.yld i F' H x H' s hi y⟩
    refine L2.lc_it w (fun i H3 => ∃ F3 e4 S3 acc, Step F2 H' Sb F3 H3 S3 ∧ At X.K X.w F3 H3 e4 (L2.wipe σ own) [.lst true acc] [.ref p] S3 ∧ NoneAt e4 own ∧ lcL t own c y (ds.drop i) acc e4 = .ok ys eE) ⟨F2, _, _, [], gp, A0, noneAt_wipe _ _, rr⟩ ?_ ?_ ?_
    · rintro i H3 hi ⟨F3, e4, S3, acc, s, A3, ne, r3⟩
      exact ⟨F3, s.stays0 g2.right⟩
    · rintro i x H3 H4 hi ⟨F3, e4, S3, acc, s, A3, ne, r3⟩ yy
      obtain ⟨nw, d, hd, r⟩ := yy F3 (s.stays0 g2.right)
      obtain ⟨A4, s4⟩ := A3.newH nw
      have dr : ds.drop i = d :: ds.drop (i + 1) := by
        obtain ⟨h1, h2⟩ := List.getElem?_eq_some_iff.mp hd
        rw [List.drop_eq_getElem_cons h1, h2]
      rw [dr] at r3
      obtain ⟨e5, b, e6, ha, hc, hy⟩ := lcL_turn r3
      refine ⟨d, F3, e4, S3, [.lst true acc], [.ref p], A4.push0 r, PnOk.none, ?_⟩
      rw [ha]
      refine fun σ5 S5 A5 s5 _ ko => ⟨(ko own hsl).trans ?_, ?_⟩
      · have idem : ∀ is : List Nat, L2.wipe (L2.wipe σ is) is = L2.wipe σ is := by
          intro is
          have fixed : ∀ (js : List Nat) (τ : L2.St), (∀ j ∈ js, ∀ x, τ[j]? = some x → x = none) → L2.wipe τ js = τ := by
            intro js
            induction js with
            | nil => intro τ _; rfl
            | cons j js ih =>
              intro τ h
              show (L2.wipe τ js).set j none = τ
              rw [ih τ fun k hk => h k (List.mem_cons_of_mem _ hk)]
              by_cases hl : j < τ.length
              · obtain ⟨x, hx⟩ : ∃ x, τ[j]? = some x := ⟨_, List.getElem?_eq_getElem hl⟩
                have := h j List.mem_cons_self x hx
                subst this
                exact set_get hx
              · exact List.set_eq_of_length_le (by omega)
          refine fixed is _ fun j hj x hx => ?_
          cases x with
          | none => rfl
          | some v => exact absurd hj (wipe_some hx).2
        exact idem own
      · have kw : L2.wipe σ5 own = L2.wipe σ own := by
          rw [ko own hsl]
          have idem : ∀ is : List Nat, L2.wipe (L2.wipe σ is) is = L2.wipe σ is := by
            intro is
            have fixed : ∀ (js : List Nat) (τ : L2.St), (∀ j ∈ js, ∀ x, τ[j]? = some x → x = none) → L2.wipe τ js = τ := by
              intro js
              induction js with
              | nil => intro τ _; rfl
              | cons j js ih =>
                intro τ h
                show (L2.wipe τ js).set j none = τ
                rw [ih τ fun k hk => h k (List.mem_cons_of_mem _ hk)]
                by_cases hl : j < τ.length
                · obtain ⟨x, hx⟩ : ∃ x, τ[j]? = some x := ⟨_, List.getElem?_eq_getElem hl⟩
                  have := h j List.mem_cons_self x hx
                  subst this
                  exact set_get hx
                · exact List.set_eq_of_length_le (by omega)
            refine fixed is _ fun j hj x hx => ?_
            cases x with
            | none => rfl
            | some v => exact absurd hj (wipe_some hx).2
          exact idem own
        refine tT_mono (tT_here A5 hc) fun b' H6 ⟨hb, F6, S6, s6, A6⟩ => ?_
        subst hb
        rcases hy with ⟨rfl, z, e7, hz, hl, hr⟩ | ⟨rfl, hr⟩
        · rw [if_pos rfl]
          refine tE_mono (tE_here A6 hz) fun v H7 ⟨F7, S7, s7, A7⟩ => ?_
          obtain ⟨avs, S8, h8, l8, A8, s8⟩ := A7.app
          obtain ⟨S9, A9, s9⟩ := A8.wipe own
          rw [kw] at A9
          exact ⟨avs, h8, by rw [l8]; exact hl, F7, _, S9, _, (((((s.trans s4).trans s5).trans s6).trans s7).trans s8).trans s9, A9, noneAt_wipe _ _, hr⟩
        · rw [if_neg Bool.false_ne_true]
          obtain ⟨S9, A9, s9⟩ := A6.wipe own
          rw [kw] at A9
          exact ⟨F6, _, S9, _, (((s.trans s4).trans s5).trans s6).trans s9, A9, noneAt_wipe _ _, hr⟩
    · rintro H3 ⟨F3, e4, S3, acc, s, A3, ne, r3⟩
      rw [List.drop_length] at r3
      cases r3
      obtain ⟨Sl, Sc, rfl, hl, q4, g4⟩ := A3
      have fr := s.frame g2
      have stA : Stays F2 H' F3 H3 Sa := s.stays g2
      obtain ⟨S5, p5, q5⟩ := back stA q4 ne
      have pm2 : (Sa ++ (Sl ++ Sc)).Perm (Sl ++ S5) := by
        have h1 : (Sa ++ (Sl ++ Sc)).Perm (Sl ++ (Sa ++ Sc)) := by
          rw [← List.append_assoc, ← List.append_assoc]
          exact List.perm_append_comm.append_right _
        exact h1.trans ((List.Perm.refl Sl).append p5.symm)
      have tot := ((st2.permR pm).trans fr).permR pm2
      exact q2 (.ref p) F3 H3 _ tot ⟨Sl, S5, rfl, hl, q5, tot.good⟩
end
end Pl
set_option Elab.async false
set_option linter.all false
set_option maxRecDepth 100000
set_option maxHeartbeats 1000000
/-! Pl: list comprehensions, by their syntax. -/
namespace Pl
open PySem PySem.Spec PyProof.Rows L2
section
variable {X : Cx} {W : WX} {pn : Option V}
theorem PTsimp {e : List Expr} {t t' : TT} (h : PTs X e t) (k : ∀ σ H Q, t' σ H Q → t σ H Q) : PTs X e t' := ⟨fun pins s σ H Q I q => h.run pins s σ H Q I (k σ H Q q)⟩
theorem dTs_nil : PTs X [] (tT X noX (mC (.bl true))) := PTsimp pts_nil fun σ H Q q => by
  obtain ⟨F, e, S, A, q⟩ := q
  exact q F H S (Step.refl A.good) A
theorem dTs_one {c : Expr} {m : M D} (h : PT X c (tT X noX m)) : PTs X [c] (tT X noX m) := pts_one h
variable {elt tg iter : Expr} {ifs : List Expr} {scope : Scope} {own : List (Str × Nat)} {pos spos py : Pos} {it : M (List D)} {t : Tgt} {c y : M D}
theorem dE_lc (hN : X.N.Nodup) (hi : PI X tg iter (tI X W it)) (ok : BlkOk X.N X.env.scope scope own) (hsl : ∀ j ∈ t.sl, j ∈ own.map (·.2))
    (hg : ∀ (s : Shared) (H : Hp) (C : Addr) (cl : List (Str × Addr)) (fp : List Addr), PG (X.blk s H scope (compEnvC scope cl C X.env) fp) tg (tG (X.blk s H scope (compEnvC scope cl C X.env) fp) none t))
    (ht : ∀ (s : Shared) (H : Hp) (C : Addr) (cl : List (Str × Addr)) (fp : List Addr), PTs (X.blk s H scope (compEnvC scope cl C X.env) fp) ifs (tT (X.blk s H scope (compEnvC scope cl C X.env) fp) noX c))
    (he : ∀ (s : Shared) (H : Hp) (C : Addr) (cl : List (Str × Addr)) (fp : List Addr), PE (X.blk s H scope (compEnvC scope cl C X.env) fp) elt (tE (X.blk s H scope (compEnvC scope cl C X.env) fp) noX y))
    (hc : X.calm = true := by rfl) (hs : ∀ x, foldedSetIterable iter X.env x = pure x := by intro _; rfl) : PE X (.ListComp elt [⟨tg, iter, ifs, 0⟩] scope pos) (tE X W (mLc it t (own.map (·.2)) c y)) :=
  PEimp (pe_lc (wi := tI X W it) (g := tG X none t) (tt := tT X noX c) (te := tE X noX y) hc hN hi ok hg ht he hs) (tE_lc hsl)
/-- y = [..] on one line -/
theorem dS_lc {x : Str} (i : Nat) (hN : X.N.Nodup) (hp : i ≠ 0 ∨ pn = none) (hi : PI X tg iter (tI X W it)) (ok : BlkOk X.N X.env.scope scope own) (hsl : ∀ j ∈ t.sl, j ∈ own.map (·.2))
    (hg : ∀ (s : Shared) (H : Hp) (C : Addr) (cl : List (Str × Addr)) (fp : List Addr), PG (X.blk s H scope (compEnvC scope cl C X.env) fp) tg (tG (X.blk s H scope (compEnvC scope cl C X.env) fp) none t))
    (ht : ∀ (s : Shared) (H : Hp) (C : Addr) (cl : List (Str × Addr)) (fp : List Addr), PTs (X.blk s H scope (compEnvC scope cl C X.env) fp) ifs (tT (X.blk s H scope (compEnvC scope cl C X.env) fp) noX c))
    (he : ∀ (s : Shared) (H : Hp) (C : Addr) (cl : List (Str × Addr)) (fp : List Addr), PE (X.blk s H scope (compEnvC scope cl C X.env) fp) elt (tE (X.blk s H scope (compEnvC scope cl C X.env) fp) noX y))
    (hsw : swapsWith (.ListComp elt [⟨tg, iter, ifs, 0⟩] scope pos) (some (.Name x py)) spos.line X.env = pure true) (hx : X.N[i]? = some x := by rfl) (hxl : X.env.scope.names.lookup x = some .local := by rfl)
    (hc : X.calm = true := by rfl) (hs : ∀ x, foldedSetIterable iter X.env x = pure x := by intro _; rfl) : PS X (.Assign [.Name x py] (.ListComp elt [⟨tg, iter, ifs, 0⟩] scope pos) spos) (tS X pn W (mSet i (mLc it t (own.map (·.2)) c y))) :=
  PSimp (ps_setLc (wi := tI X W it) (g := tG X none t) (tt := tT X noX c) (te := tE X noX y) hc hN hx hxl hsw hi ok hg ht he hs) fun Dd σ H q => by
  obtain ⟨F, e, S, A, p, q⟩ := q
  refine tE_lc hsl _ _ _ (tE_mono (stE A p (Step.refl A.good) q) fun v H' z => ?_)
  obtain ⟨d, F2, e2, S2, st, B, k⟩ := z
  split at k
  · rename_i hl
    obtain ⟨S3, B3, st3⟩ := B.store hl
    exact k _ F2 H' S3 (st.trans st3) B3 (p.set hp)
  · exact k.elim
end
end Pl
set_option Elab.async false
set_option linter.all false
set_option maxRecDepth 100000
set_option maxHeartbeats 1000000
/-! Pl: own exceptions: super().__init__(text), self.f = f; made, raised. -/
namespace Pl
open PySem PySem.Spec PyProof.Rows L2 PySem.W PySem.HandSPX

/-- the body of such an __init__: its field, if it has one -/
def SupCall (x : Str) (j : Nat) (p0 p1 p2 p3 p4 : Pos) (pl : Sem Bool) : Prop := ∀ env : PySem.Env, eval (.Call (.Attribute (.Call (.Name "super" p0) [] [] p1) "__init__" p2) [.Constant (.str x) j p3] [] p4) env = (do
  let ov ← attributeBase (.Call (.Name "super" p0) [] [] p1) "__init__" env (eval (.Call (.Name "super" p0) [] [] p1) env)
  standAt p2.atName
  let (f, first) ← holding [ov] (getMethod ov "__init__" pl)
  callWith p4 f first (backTo p4 (starEach [.Constant (.str x) j p3] env)) [])
def ExBody (fld : Option Str) (body : List Stmt) : Prop := match fld with
  | none => ∃ (x : Str) (j : Nat) (p0 p1 p2 p3 p4 p5 : Pos), body = [.Expr (.Call (.Attribute (.Call (.Name "super" p0) [] [] p1) "__init__" p2) [.Constant (.str x) j p3] [] p4) p5] ∧ ∃ pl, SupCall x j p0 p1 p2 p3 p4 pl
  | some f => ∃ (x : Str) (j : Nat) (p0 p1 p2 p3 p4 p5 q1 q2 q3 q4 : Pos), body = [.Expr (.Call (.Attribute (.Call (.Name "super" p0) [] [] p1) "__init__" p2) [.Constant (.str x) j p3] [] p4) p5, .Assign [.Attribute (.Name "self" q1) f q2] (.Name f q3) q4] ∧ ∃ pl, SupCall x j p0 p1 p2 p3 p4 pl
def exNames (fld : Option Str) : List Str := match fld with
  | none => ["self"]
  | some f => ["self", f]
/-- what the written part says of such a class at C, of its __init__ at fI -/
structure ExT (P : Program) (K : Frag) (mg : Str → Option Value) (C fI : Addr) (fld : Option Str) : Prop where
  oex : OexC K C
  fn : ∃ (oc : Value) (od : Option Addr) (osl : Array (Option Value)) (fd : FuncData) (body : List Stmt) (cc : Addr) (cl : Value) (cld : Option Addr) (csl : Array (Option Value)) (cda : Addr) (ccl : Value) (cdd : Option Addr) (vs : Array Value) (ccs : Array (Option Value)) (file : Str) (tf : Tok) (ar : Arg),
    K.lookup fI = some ⟨oc, od, .func fd, osl⟩ ∧ fd.body = .stmts body ∧ ExBody fld body ∧ fd.closure = [(("__class__" : Str), cc)] ∧ K.lookup cc = some ⟨cl, cld, .cell (some (.ref C)), csl⟩ ∧
    fd.code = .ref cda ∧ codeIn K fd.code fd.qualname = true ∧ K.lookup cda = some ⟨ccl, cdd, .fields vs, ccs⟩ ∧ vs[2]? = some (.str file tf) ∧ ((P.main.file : Str) == file) = true ∧ fd.globals = mainGlobals ∧ fd.builtins = builtinsNs ∧
    (∀ vs : List Value, vs.length = (exNames fld).length → bindArgs fd ⟨vs, []⟩ = pure ((exNames fld).zip vs)) ∧ (fd.params.posonlyargs ++ fd.params.args).head? = some ar ∧ ar.arg = "self" ∧
    fd.scope.kind = .function ∧ fd.scope.isCoroutine = false ∧ fd.scope.isGenerator = false ∧ (∀ x ∈ fd.scope.names, x.2 ≠ .cell) ∧ (∀ y ∈ exNames fld, fd.scope.names.lookup y = some .local) ∧ fd.scope.names.lookup ("super" : Str) = some .globalImplicit ∧ fd.scope.names.lookup ("__class__" : Str) = some .free
  iC : findIn K (.ref C) "__init__" = some (some (.ref fI))
  tI : typeIn K (.ref fI) = some (.type "function")
  sup : ks_superIn K C C "__init__" = some (some (.builtin "ValueError.__init__"))
  isV : subIn K (.ref C) (.type "ValueError") = some true
  isC : subIn K (.ref C) (.ref C) = some true
  opq : nsIn K cStatics "thirdparty.any" = some none
  top : (P.main.scope.names.lookup ("super" : Str)).isSome = false
  gS : mg "super" = none
  noF : ∀ f, fld = some f → findIn K (.ref C) f = some none ∧ (f == ("__debug__" : Str)) = false ∧ f ≠ "self"
section
variable {prog : Program} {w : World} {A : Around} {E : Value → Shared → Prop} {R : Result → Shared → Prop} {h : Heap} {g : Array GenState} {d : Drawn} {t : Nat} {os : OsState}
/-- ValueError.__init__ bound to the exception at e, called -/
theorem call_mw {nm q : Str} {C N : Addr} {bs bm : List Value} {hdct : Bool} {sn : List Str} {sub : List Value} {ab : Bool} {col : Option Bool} {dd : Option Addr} {k0 k1 k2 k3 k5 : Option Value} {u e t0 : Addr} {rest : List Value} {Q : Value → Shared → Prop}
    (hC : h.get? C = some (excClassObj nm q C N bs bm hdct sn sub ab col dd k0 k1 k2 k3 k5 "ValueError.__new__")) (he : h.get? e = some (excO C t0)) (hu : h.get? u = some (kxs_mw "ValueError.__init__" e)) (hrest : rest.length ≤ sizeLine)
    (hq : ∀ h' t1, (∀ b o, b ≠ e → h.get? b = some o → h'.get? b = some o) → h'.get? e = some (excO C t1) → Q .none ⟨h', g, d, t, os⟩) :
    wpAny (model prog w) A (call (.ref u) rest) Q E ⟨h, g, d, t, os⟩ := by
  refine wpAny_call (codeAny_of_tree ?_)
  show wpAny _ A.in1 (callAny (.ref u) ⟨rest, []⟩) _ _ _
  simp only [callAny]
  refine wpAny_bind (wpAny_load hu ?_)
  simp only [kxs_mw, show (Value.type "method-wrapper" == Value.type "method" || Value.type "method-wrapper" == Value.type "builtin_function_or_method" || Value.type "method-wrapper" == Value.type "method-wrapper") = true by decide, if_true]
  refine KFB.if_so (by decide) ?_
  refine wpAny_bind (check_bound_init F.excBase_ValueError.toExcCallFacts hC he rfl ?_)
  refine wpAny_bind (wpAny_pure (wpAny_pure ?_))
  refine ⟨plainId_quiet F.excBase_ValueError.init.plain _, codeAny_builtin F.excBase_ValueError.initEntry ?_⟩
  exact exc_init_tree (cls := .ref C) (t0 := t0) (dv := none) (c2 := .none) (c3 := .none) (b4 := .bool false) he hrest fun h' k e' t' => hq h' _ k e'
/-- super().__init__(x), in such an __init__ -/
theorem super_init {P : Program} {K : Frag} {mg mb : Str → Option Value} {C fI : Addr} {fld : Option Str} {fd : FuncData} {body : List Stmt} {L x t0 : Addr} {m : Str → Option Value} {xt : Str} {j : Nat} {p0 p1 p2 p3 p4 p5 : Pos} {of : Obj} {cc cda : Addr} {cl ccl : Value} {cld cdd : Option Addr} {csl ccs : Array (Option Value)} {vs : Array Value} {file : Str} {tf : Tok} {ar : Arg} {pl : Sem Bool} {Q : Flow → Shared → Prop} {s : Shared}
    (he : SupCall xt j p0 p1 p2 p3 p4 pl) (T : ExT P K mg C fI fld) (X : K.In s.heap) (hf : s.heap.get? fI = some of) (hfd : of.data = .func fd) (hcl : fd.closure = [(("__class__" : Str), cc)]) (hcc : K.lookup cc = some ⟨cl, cld, .cell (some (.ref C)), csl⟩)
    (hcd : fd.code = .ref cda) (hcda : K.lookup cda = some ⟨ccl, cdd, .fields vs, ccs⟩) (hvs : vs[2]? = some (.str file tf)) (hfile : ((P.main.file : Str) == file) = true) (hgl : fd.globals = mainGlobals) (hbt : fd.builtins = builtinsNs)
    (har : (fd.params.posonlyargs ++ fd.params.args).head? = some ar) (hself : ar.arg = "self") (hk : fd.scope.kind = .function) (hks : fd.scope.names.lookup ("super" : Str) = some .globalImplicit) (hkc : fd.scope.names.lookup ("__class__" : Str) = some .free) (hkl : fd.scope.names.lookup ("self" : Str) = some .local)
    (hg : s.heap.Ns mainGlobals mg) (hb : s.heap.Ns builtinsNs mb) (hmb : mb "super" = some (.type "super")) (hns : s.heap.Ns L m) (hm : m "self" = some (.ref x)) (hx : s.heap.get? x = some (excO C t0))
    (hq : ∀ h' t1 tk', (∀ b o, b ≠ x → s.heap.get? b = some o → h'.get? b = some o) → h'.get? x = some (excO C t1) → Q .next { s with heap := h', toks := tk' }) :
    _root_.PySem.wpAt (model P w) A (.func body (callEnv fd L fI)) (exec (.Expr (.Call (.Attribute (.Call (.Name "super" p0) [] [] p1) "__init__" p2) [.Constant (.str xt) j p3] [] p4) p5) (callEnv fd L fI)) Q E s := by
  obtain ⟨nm, q, N, bs, bm, sn, sub, ab, col, dd, k0, k1, k2, k3, k5, hC, hbm⟩ := T.oex.cls
  have hcls : clsIn K C = some { name := nm, bases := bs, mro := .ref C :: bm, ns := N, qualname := q, hasDict := true, slotNames := sn, subclasses := sub, abstract := ab, collection := col, hasDel := false } := by unfold clsIn; rw [hC] <;> rfl
  have hCh := X _ _ hC
  obtain ⟨hp, g, d, t, os⟩ := s
  have I : InstAt hp x (excO C t0) C none := ⟨hx, rfl, rfl, trivial⟩
  have hso : alongIn K "__init__" bm = some (some (.builtin "ValueError.__init__")) := by
    have z := T.sup
    unfold ks_superIn at z
    rw [hcls, Option.bind_some] at z
    rw [ESX.drop_own] at z
    exact z
  refine ks_wpAt_Expr_any ?_ (by unfold interactive; show (fd.scope.kind == .module && _) = false; rw [hk]; rfl) (by unfold swapsWith; rfl)
  refine ks_wpAt_MethodCall (pl := pl) ?_ (he _)
  refine ks_wpAt_super_base (env := callEnv fd L fI) hks hkc (by decide) rfl hf hfd har hcd (X _ _ hcda) rfl hvs hfile T.top ?_
  refine ks_loadName_global hk hks (Calls.loadGlobal_builtin (env := callEnv fd L fI) (by show hp.Ns fd.globals mg; rw [hgl]; exact hg) T.gS (by show hp.Ns fd.builtins mb; rw [hbt]; exact hb) hmb ⟨rfl, ?_⟩)
  refine wpAny_loadName_free hk hkc (show fd.closure.lookup ("__class__" : Str) = some cc from by rw [hcl]; rfl) ⟨_, X _ _ hcc, rfl⟩ ?_
  rw [hself]
  refine wpAny_loadName_local hk hkl hns hm ?_
  refine ks_wpAny_isType_cls hCh rfl ⟨rfl, ?_⟩
  refine ks_wpAny_call_super hCh rfl hx rfl (fun c e => nomatch e) (looks_subIn X T.isC) (fun h2 e2 kp2 => ?_)
  have X2 : K.In h2 := X.keeps kp2
  have I2 : InstAt h2 x (excO C t0) C none := ⟨kp2 _ _ hx, rfl, rfl, trivial⟩
  have up : ∀ b o, h2.get? b = some o → (h2.push (kxs_mw "ValueError.__init__" x)).get? b = some o := fun b o e => Heap.get?_push_of_some _ e
  refine kxs_getMethod kxs_ValueError e2 (looks_opaque X2 T.opq) (l₀ := .ref C :: bm) (fun A Q E s k q => wpAny_bind ((looks_clsIn X2 hcls) A _ E s k (wpAny_pure q))) (ESX.drop_own C bm) X2 hso (I2.type.andThen (looks_subIn X2 T.isV)) (ks_ne X I hcls) (by decide) ?_
  show wpAny _ _ (callWith p4 (.ref h2.objs.size) [] (backTo p4 (starEach [.Constant (.str xt) j p3] (callEnv fd L fI))) []) _ _ _
  refine kxs_callWith (i := "ValueError.__init__") (x := x) rfl (Calls.evalArgs_plain (Calls.spliced_cons (Calls.Constant_str (k := j) (pos := p3) (Calls.spliced_nil ⟨?_, ?_⟩))))
  · exact Heap.get?_push_size _ rfl
  · refine call_mw (hC := up _ _ (kp2 _ _ hCh)) (he := up _ _ (kp2 _ _ hx)) (hu := Heap.get?_push_size _ rfl) (by show 1 ≤ sizeLine; rw [sizeLine_eq]; decide) fun h' t1 k e' => hq h' t1 _ (fun b o hb hbo => k b o hb (up _ _ (kp2 _ _ hbo))) e'
/-- what such an __init__ leaves of a fresh exception at x -/
def ExInit (fld : Option Str) (h h' : Heap) (x C : Addr) (vs : List Value) : Prop :=
  (∀ b o, b ≠ x → h.get? b = some o → h'.get? b = some o) ∧ ∃ t1, match fld, vs with
    | none, [] => h'.get? x = some (excO C t1)
    | some f, [v] => ∃ dx, h'.get? x = some { cls := .ref C, dict := some dx, data := .fields #[.ref t1, .none, .none, .none, .bool false, .none] } ∧ h.objs.size ≤ dx ∧ dx ≠ x ∧ h'.Ns1 dx (fun y => if y = f then some v else none)
    | _, _ => False
theorem look_put {α : Type} (f g : Str) (y : α) (fs : List (Str × α)) : ((f, y) :: fs).lookup g = if g = f then some y else fs.lookup g := by
  by_cases h : g = f
  · subst h
    simp [List.lookup]
  · have e : (g == f) = false := by simpa using h
    rw [if_neg h]
    simp [List.lookup, e]
theorem ex_init {P : Program} {K : Frag} {mg mb : Str → Option Value} {C fI : Addr} {fld : Option Str} {x t0 : Addr} {vs : List Value} {s : Shared} (T : ExT P K mg C fI fld) (X : K.In s.heap) (hlim : s.heap.NoLimit) (hl : vs.length + 1 = (exNames fld).length)
    (hx : s.heap.get? x = some (excO C t0)) (hnx : K.lookup x = none) (hroom : A.depth < recursionLimit) (hg : s.heap.Ns mainGlobals mg) (hb : s.heap.Ns builtinsNs mb) (hmb : mb "super" = some (.type "super"))
    (hq : ∀ h' tk, ExInit fld s.heap h' x C vs → R (.ok (.ret .none)) { s with heap := h', toks := tk }) : codeAny (model P w) A (.call (.ref fI) ⟨.ref x :: vs, []⟩) R s := by
  obtain ⟨oc, od, osl, fd, body, cc, cl, cld, csl, cda, ccl, cdd, cvs, ccs, file, tf, ar, ho, hbody, hB, hcl, hcc, hcd, hcode, hcda, hvs, hfile, hgl, hbt, hbind, har, hself, hk, hco, hgen, hcell, hloc, hks, hkc⟩ := T.fn
  have hz : ∀ y ∈ (exNames fld).zip (.ref x :: vs), fd.scope.names.lookup y.1 = some .local := fun y hy => hloc y.1 (List.of_mem_zip (show (y.1, y.2) ∈ _ from hy)).1
  refine ks_codeAny_call_defAt (fd := fd) (body := body) (binds := (exNames fld).zip (.ref x :: vs)) hroom (X _ _ ho) rfl hlim (codeRec_of X hcode) hbody (BindsTo.of_eq (hbind _ hl)) hcell hz (fun h₁ hns hk₁ => ?_) hco hgen hk
  have X1 : K.In h₁ := X.keeps hk₁
  have kn : ∀ {a : Addr} {m : Str → Option Value}, s.heap.Ns a m → h₁.Ns a m := fun h => h.keeps hk₁
  have sx : h₁.get? x = some (excO C t0) := hk₁ _ _ hx
  cases fld with
  | none =>
    cases vs with
    | cons v vs => exact absurd hl (by show ¬ (vs.length + 1 + 1 = 1); omega)
    | nil =>
      obtain ⟨xt, j, p0, p1, p2, p3, p4, p5, rfl, pl, he⟩ := hB
      refine ks_wpAt_execs_cons ?_
      refine super_init he T X1 (X1 _ _ ho) rfl hcl hcc hcd hcda hvs hfile hgl hbt har hself hk hks hkc (hloc _ List.mem_cons_self) (kn hg) (kn hb) hmb hns rfl sx fun h2 t1 tk2 k2 e2 => ?_
      exact PySem.wpAt_of_wpAny (wpAny_execs_nil (hq h2 tk2 ⟨fun b o hb e => k2 b o hb (hk₁ b o e), t1, e2⟩))
  | some f =>
    obtain ⟨nf, hdb, nself⟩ := T.noF f rfl
    cases vs with
    | nil => exact absurd hl (by show ¬ (0 + 1 = 2); omega)
    | cons v r =>
    cases r with
    | cons v2 r => exact absurd hl (by show ¬ (r.length + 1 + 1 + 1 = 2); omega)
    | nil =>
      obtain ⟨xt, j, p0, p1, p2, p3, p4, p5, q1, q2, q3, q4, rfl, pl, he⟩ := hB
      refine ks_wpAt_execs_cons ?_
      have hself' : (((exNames (some f)).zip [Value.ref x, v]).reverse.lookup ("self" : Str)) = some (.ref x) := by
        show ([(f, v), (("self" : Str), Value.ref x)].lookup ("self" : Str)) = some (.ref x)
        rw [look_put, if_neg (Ne.symm nself), look_put, if_pos rfl]
      have hf' : (((exNames (some f)).zip [Value.ref x, v]).reverse.lookup f) = some v := by
        show ([(f, v), (("self" : Str), Value.ref x)].lookup f) = some v
        rw [look_put, if_pos rfl]
      refine super_init he T X1 (X1 _ _ ho) rfl hcl hcc hcd hcda hvs hfile hgl hbt har hself hk hks hkc (hloc _ List.mem_cons_self) (kn hg) (kn hb) hmb hns hself' sx fun h2 t1 tk2 k2 e2 => ?_
      have hxL : s.heap.objs.size ≠ x := Nat.ne_of_gt (Heap.lt_size hx)
      have hns2 : h2.Ns s.heap.objs.size (fun y => ((exNames (some f)).zip [Value.ref x, v]).reverse.lookup y) := hns.at fun o q => k2 _ o hxL q
      obtain ⟨nm, q, N, bs, bm, sn, sub, ab, col, dd, k0, k1, kk2, k3, k5, hC, hbm⟩ := T.oex.cls
      have hcls : clsIn K C = some { name := nm, bases := bs, mro := .ref C :: bm, ns := N, qualname := q, hasDict := true, slotNames := sn, subclasses := sub, abstract := ab, collection := col, hasDel := false } := by unfold clsIn; rw [hC] <;> rfl
      have X2 : K.In h2 := fun a o e => by
        exact k2 a o (fun z => by rw [z, hnx] at e; cases e) (X1 a o e)
      refine ks_wpAt_execs_cons (PySem.wpAt_of_wpAny (plainObj_wpAny_Assign_Attribute ?_))
      refine ldc hk (hloc f (List.mem_cons_of_mem _ List.mem_cons_self)) hns2 hf' (ldc hk (hloc _ List.mem_cons_self) hns2 hself' ?_) hdb
      refine set_plain X2 (ox := excO C t1) (od := none) ⟨e2, rfl, rfl, trivial⟩ T.oex.sa ?_
      refine exc_osa X2 e2 hcls (show refsVE (.ref C :: bm) = true from hbm) rfl nf (fun h' tk' dx k' dn dne hx' hn' => ?_)
      show _root_.PySem.wpAt _ _ _ (execs [] _) _ _ _
      refine PySem.wpAt_of_wpAny (wpAny_execs_nil (hq h' tk' ⟨fun b o hb e => k' b o hb (k2 b o hb (hk₁ b o e)), t1, dx, hx', Nat.le_of_lt (Nat.lt_of_lt_of_le hns2.lt dn), dne, hn'⟩))
end
end Pl
set_option Elab.async false
set_option linter.all false
set_option maxRecDepth 100000
set_option maxHeartbeats 1000000
/-! Pl: own exceptions made and raised. -/
namespace Pl
open PySem PySem.Spec PyProof.Rows L2 PySem.W PySem.HandSPX
def ExMade (fld : Option Str) (h h' : Heap) (e C : Addr) (vs : List Value) : Prop :=
  (∀ b o, h.get? b = some o → h'.get? b = some o) ∧ h.objs.size ≤ e ∧ ∃ t1, match fld, vs with
    | none, [] => h'.get? e = some (excO C t1)
    | some f, [v] => ∃ dx, h'.get? e = some { cls := .ref C, dict := some dx, data := .fields #[.ref t1, .none, .none, .none, .bool false, .none] } ∧ h.objs.size ≤ dx ∧ dx ≠ e ∧ h'.Ns1 dx (fun y => if y = f then some v else none)
    | _, _ => False
section
variable {w : World} {A : Around} {R : Result → Shared → Prop}
theorem ex_made {P : Program} {K : Frag} {mg mb : Str → Option Value} {C fI : Addr} {fld : Option Str} {us : List Value} {s : Shared} (T : ExT P K mg C fI fld) (X : K.In s.heap) (hlim : s.heap.NoLimit) (hl : us.length + 1 = (exNames fld).length)
    (hroom : A.depth + 1 < recursionLimit) (hg : s.heap.Ns mainGlobals mg) (hb : s.heap.Ns builtinsNs mb) (hmb : mb "super" = some (.type "super"))
    (hq : ∀ h' tk e, ExMade fld s.heap h' e C us → R (.ok (.ret (.ref e))) { s with heap := h', toks := tk }) : codeAny (model P w) A (.call (.ref C) ⟨us, []⟩) R s := by
  obtain ⟨nm, q, N, bs, bm, sn, sub, ab, col, dd, k0, k1, k2, k3, k5, hC, hbm⟩ := T.oex.cls
  obtain ⟨hp, g, dr, tk, os⟩ := s
  have k : ∀ b o, hp.get? b = some o → ((hp.push (kdv_tup us)).push (excO C hp.objs.size)).get? b = some o := fun b o e => Heap.get?_push_of_some _ (Heap.get?_push_of_some _ e)
  have hget : ((hp.push (kdv_tup us)).push (excO C hp.objs.size)).get? (hp.objs.size + 1) = some (excO C hp.objs.size) := by heap_get
  have hnx : K.lookup (hp.objs.size + 1) = none := by
    cases e : K.lookup (hp.objs.size + 1) with
    | none => rfl
    | some o =>
      have z : hp.get? (hp.objs.size + 1) = some o := X _ _ e
      exact absurd (Nat.lt_of_succ_lt (Heap.lt_size z)) (Nat.lt_irrefl _)
  have hsz : us.length ≤ sizeLine := by
    rw [sizeLine_eq]
    cases fld with
    | none => have : us.length + 1 = 1 := hl; omega
    | some f => have : us.length + 1 = 2 := hl; omega
  refine call_own F.excBase_ValueError (fun X => refsVE_contains X bm hbm) (X _ _ hC) (looks_findIn X T.iC) (fun self => bind_fn X self T.tI) hsz ?_
  refine ex_init (s := ⟨(hp.push (kdv_tup us)).push (excO C hp.objs.size), g, dr, tk, os⟩) T (X.keeps k) (hlim.keeps k) hl hget hnx ?_ (hg.keeps k) (hb.keeps k) hmb fun h' tk' hi => ?_
  · show A.depth + 1 < recursionLimit
    exact hroom
  · obtain ⟨k', t1, hi⟩ := hi
    have old : ∀ b o, hp.get? b = some o → h'.get? b = some o := fun b o e => k' b o (Nat.ne_of_lt (Nat.lt_succ_of_lt (Heap.lt_size e))) (k b o e)
    refine ⟨rfl, hq h' tk' (hp.objs.size + 1) ⟨old, Nat.le_succ _, t1, ?_⟩⟩
    cases fld with
    | none =>
      cases us with
      | nil => exact hi
      | cons v us => exact hi.elim
    | some f =>
      cases us with
      | nil => exact hi.elim
      | cons v us =>
        cases us with
        | cons v2 us => exact hi.elim
        | nil =>
          obtain ⟨dx, h1, h2, h3, h4⟩ := hi
          refine ⟨dx, h1, ?_, h3, h4⟩
          have z : hp.objs.size + 1 + 1 ≤ dx := by
            have q := h2
            rw [Heap.size_push, Heap.size_push] at q
            exact q
          show hp.objs.size ≤ dx
          omega
end
theorem relO_one {f : Str} {v : V} {v' : Value} (r : RelV v v') (g : Str) : RelO (List.lookup g [(f, v)]) (if g = f then some v' else none) := by
  rw [lookup_put]
  by_cases h : g = f
  · rw [if_pos h, if_pos h]; exact r
  · rw [if_neg h, if_neg h]; trivial
section
variable {X : Cx} {C fI : Addr} {fld : Option Str}
def MkQ (C : Addr) (fld : Option Str) (vs : List V) (H1 : L2.Hp) (Q : XK) : Prop := match fld, vs with
  | none, [] => Q (.ref C) none H1
  | some f, [v] => ∀ d, H1 d = none → Q (.ref C) (some d) (upd H1 d (.xd [(f, v)]))
  | _, _ => False
/-- cl(e, ..) -/
def tMkEx (C : Addr) (fld : Option Str) (ta : TA) : L2.St → L2.Hp → XK → Prop := fun σ H Q => ta σ H fun vs H1 => MkQ C fld vs H1 Q
theorem mk_ex {pins : List (Addr × Obj)} {σ : L2.St} {H1 : L2.Hp} {Q : XK} {s1 : Shared} {us : List Value} {vs : List V} {k : Nat} {E : Value → Shared → Prop} (T : ExT X.prog X.K X.mg C fI fld) (hr : Room k X.A) (I1 : L2.Inv X pins σ H1 s1) (r1 : Vals vs us) (q1 : MkQ C fld vs H1 Q) : wpAny (model X.prog X.w) X.A (call (.ref C) us) (MkP X pins σ Q) E s1 := by
  have hlim := I1.nolimit
  obtain ⟨mb, h1, h2⟩ := I1.mod.blt
  have hg := I1.mod.glob.keeps I1.bk
  have hb := h1.keeps I1.bk
  have hmb : mb "super" = some (.type "super") := (h2 _ (by decide)).trans (by first | rfl | boot_by_name | kernel_rfl)
  have hl : us.length + 1 = (exNames fld).length := by
    have e := r1.length
    cases fld with
    | none =>
      cases vs with
      | nil => rw [← e]; rfl
      | cons v vs => exact q1.elim
    | some f =>
      cases vs with
      | nil => exact q1.elim
      | cons v vs =>
        cases vs with
        | nil => rw [← e]; rfl
        | cons v2 vs => exact q1.elim
  obtain ⟨hp, g, dr, tk, os⟩ := s1
  refine wpAny_call (ex_made T I1.kIn hlim hl (by have := hr.dp; omega) hg hb hmb fun h' tk' e M => ?_)
  show MkP X pins σ Q (.ref e) ⟨h', g, dr, tk', os⟩
  obtain ⟨mk, mn, t1, M⟩ := M
  obtain ⟨G', g1, g2⟩ := restrict h' fun b => decide (b ≠ e)
  have gk : ∀ b, b ≠ e → G'.get? b = h'.get? b := fun b hb => g1 b (decide_eq_true hb)
  have ge : G'.get? e = none := g2 e (by simp)
  have old : ∀ b o, hp.get? b = some o → G'.get? b = some o := fun b o q => (gk b (Nat.ne_of_lt (Nat.lt_of_lt_of_le (Heap.lt_size q) mn))).trans (mk b o q)
  have back : ∀ b o, G'.get? b = some o → h'.get? b = some o := fun b o q => by
    by_cases hb : b = e
    · rw [hb, ge] at q; cases q
    · exact (gk b hb).symm.trans q
  cases fld with
  | none =>
    cases r1 with
    | cons _ _ => exact q1.elim
    | nil =>
      have J : L2.Inv X pins σ H1 ⟨G', g, dr, tk', os⟩ := I1.kept (t' := tk') old
      exact ⟨e, _, _, ⟨G', g, dr, tk', os⟩, _, .ref C, none, rfl, J, back, ge, M, ⟨rfl, rfl⟩, rfl, rfl, I1.hok.fresh mn, rfl, I1.bare, raises_own T.oex.exC T.oex.tyC, q1⟩
  | some f =>
    cases r1 with
    | nil => exact q1.elim
    | @cons v v' _ _ rv rn =>
      cases rn with
      | cons _ _ => exact q1.elim
      | nil =>
        obtain ⟨d, hoe, dbig, dne, hns⟩ := M
        have ob : ObjOk X.prog X.w (upd H1 d (.xd [(f, v)])) G' d (.xd [(f, v)]) :=
          ⟨_, hns.at (fun o q => (gk d dne).trans q), fun y => relO_one rv y⟩
        have J : L2.Inv X pins σ (upd H1 d (.xd [(f, v)])) ⟨G', g, dr, tk', os⟩ := I1.laid (t' := tk') old dbig ob
        refine ⟨e, _, _, ⟨G', g, dr, tk', os⟩, _, .ref C, some d, rfl, J, back, ge, hoe, ⟨rfl, rfl⟩, rfl, rfl, ?_, rfl, I1.bare, raises_own T.oex.exC T.oex.tyC, q1 d (I1.hok.fresh dbig)⟩
        rw [upd_ne (Ne.symm dne)]
        exact I1.hok.fresh mn
variable {cl : Str} {a : Expr} {es : List Expr} {ta : TA} {p pos : Pos} {k : Nat}
theorem pmk_ex (T : ExT X.prog X.K X.mg C fI fld) (hm : X.mg cl = some (.ref C)) (hr : Room k X.A) (ha : PA X (a :: es) ta) (hg : Gl X cl := by rfl) (hdb : (cl == ("__debug__" : Str)) = false := by decide)
    (he : starEach (a :: es) X.env = (false, eval a X.env) :: starEach es X.env := by rfl) (hpl : (backTo pos (starEach es X.env)).any (·.1) = false := by rfl) :
    PMk X (.Call (.Name cl p) (a :: es) [] pos) (tMkEx C fld ta) := by
  intro pins s σ H Q I h
  refine wpAny_Call_Name_kw (ld_glob I hg hm ?_ hdb)
  refine PySem.W.callWith_K (h₀ := X.base) I.ok.mod.kin T.oex.kC (thn (ha.run pos pins s σ H _ I h) fun us s1 hh => ?_) he hpl
  obtain ⟨vs, H1, I1, r1, q1⟩ := hh
  exact ⟨I1.kIn, mk_ex T hr I1 r1 q1⟩
theorem pmk_ex0 (T : ExT X.prog X.K X.mg C fI none) (hm : X.mg cl = some (.ref C)) (hr : Room k X.A) (hg : Gl X cl := by rfl) (hdb : (cl == ("__debug__" : Str)) = false := by decide) :
    PMk X (.Call (.Name cl p) [] [] pos) (fun _ H Q => Q (.ref C) none H) := by
  intro pins s σ H Q I h
  refine wpAny_Call_Name_kw (ld_glob I hg hm ?_ hdb)
  exact PySem.W.callWith_K0 I.kIn T.oex.kC (mk_ex (vs := []) T hr I .nil h)
end
/-! ### raise -/
def mRaise0 (cl : Str) : M Fl := fun e => .exc ⟨cl, []⟩ e
def mRaise1 (cl f : Str) (m : M D) : M Fl := fun e => (m e).bind fun d e1 => .exc ⟨cl, [(f, d.frz)]⟩ e1
/-- the class cl of the text -/
structure ExX (P : Program) (K : Frag) (mg : Str → Option Value) (cl : Str) (fld : Option Str) : Prop where
  gC : mg cl = some (.ref (He.ga K cl))
  ex : ∃ fI, ExT P K mg (He.ga K cl) fI fld
section
variable {X : Cx} {pn : Option V} {W : WX} {cl f : Str} {a : Expr} {m : M D} {p pos pos2 : Pos} {k : Nat}
theorem dS_raise0 (T : ExX X.prog X.K X.mg cl none) (hr : Room k X.A) (tk : Takes X W) (hc : X.calm = true := by rfl) (hg : Gl X cl := by rfl) (hdb : (cl == ("__debug__" : Str)) = false := by decide) : PS X (.Raise (some (.Call (.Name cl p) [] [] pos)) none pos2) (tS X pn W (mRaise0 cl)) := by
  obtain ⟨fI, E⟩ := T.ex
  refine PSimp (ps_raise hc tk (pmk_ex0 E T.gC hr hg hdb)) fun Dd σ H q => ?_
  obtain ⟨F, e, S, A, p, q⟩ := q
  exact q σ _ _ F H S (Step.refl A.good) A p ⟨rfl, rfl⟩
theorem dS_raise1 (T : ExX X.prog X.K X.mg cl (some f)) (hr : Room k X.A) (tk : Takes X W) (ha : PE X a (tE X W m)) (hc : X.calm = true := by rfl) (hg : Gl X cl := by rfl) (hdb : (cl == ("__debug__" : Str)) = false := by decide)
    (he : starEach [a] X.env = (false, eval a X.env) :: starEach [] X.env := by rfl) : PS X (.Raise (some (.Call (.Name cl p) [a] [] pos)) none pos2) (tS X pn W (mRaise1 cl f m)) := by
  obtain ⟨fI, E⟩ := T.ex
  refine PSimp (ps_raise hc tk (pmk_ex E T.gC hr (pa_cons ha pa_nil he) hg hdb he rfl)) fun Dd σ H q => ?_
  obtain ⟨F, e, S, A, p, q⟩ := q
  refine tE_mono (stE A p (Step.refl A.good) q) fun v H' z => ?_
  obtain ⟨d, F2, e2, S2, st, B, k⟩ := z
  obtain ⟨F3, T3, st3, r3, B3⟩ := B.freeze
  intro x hx
  have sn : Step F3 H' T3 F3 (upd H' x (.xd [(f, v)])) T3 := Step.new B3.good hx
  refine k σ _ _ F3 _ T3 ((st.trans st3).trans sn) (B3.new hx) p ⟨rfl, x, _, rfl, upd_same, ?_⟩
  rw [RpF]
  exact ⟨v, [], [], [], rfl, rfl, Rp.stay _ (Stays.new hx) r3, by rw [RpF]; exact ⟨rfl, rfl⟩⟩
end
end Pl
set_option Elab.async false
set_option linter.all false
set_option maxRecDepth 100000
set_option maxHeartbeats 1000000
/-! Pl: try with several clauses, with and without a name. -/
namespace Pl
open PySem PySem.Spec PyProof.Rows L2

abbrev Ts : Type := Addr → Value → Option Addr → TS
/-- what the clauses wish -/
def wMix (K : PySem.W.Frag) (Wout : WX) (D : Ends) : List (Value × Option Nat × Ts) → WX
  | [] => Wout
  | (c, none, ts) :: r => fun cls d σ H => ∃ b, PySem.W.exmOne K cls c = some b ∧ (b = true → ∀ a, H a = none → ts a cls d D σ H) ∧ (b = false → wMix K Wout D r cls d σ H)
  | (c, some i, ts) :: r => fun cls d σ H => ∃ b, PySem.W.exmOne K cls c = some b ∧
    (b = true → ∀ a, H a = none → ts a cls d { nx := fun σ' H' => D.nx (σ'.set i none) H', rt := D.rt, bk := fun σ' H' => D.bk (σ'.set i none) H', ct := fun σ' H' => D.ct (σ'.set i none) H' } (σ.set i (some (.ref a))) H) ∧ (b = false → wMix K Wout D r cls d σ H)
inductive HdM (X : Cx) : List ExceptHandler → List (Value × Option Nat × Ts) → Prop
  | nil : HdM X [] []
  | only {x : Str} {c : Value} {ts : Ts} {b₀ : Stmt} {suite : List Stmt} {np pos' : Pos} {hds : List ExceptHandler} {l : List (Value × Option Nat × Ts)} (hc : Names X x c)
      (hsu : ∀ (a : Addr) (oe : Obj) (cls : Value) (d : Option Addr) (pn : List (Addr × Obj)), Zc cls d oe → (∃ vs, oe.data = .fields vs) → PSs (X.suite a ((a, oe) :: pn)) (b₀ :: suite) (ts a cls d)) (r : HdM X hds l) :
      HdM X (.ExceptHandler (some (.Name x np)) none (b₀ :: suite) pos' :: hds) ((c, none, ts) :: l)
  | as {x n : Str} {c : Value} {i : Nat} {ts : Ts} {b₀ : Stmt} {suite : List Stmt} {np pos' : Pos} {hds : List ExceptHandler} {l : List (Value × Option Nat × Ts)} (hc : Names X x c) (hi : X.N[i]? = some n) (hln : X.env.kindOf n = some .local)
      (hsu : ∀ (a : Addr) (oe : Obj) (cls : Value) (d : Option Addr) (pn : List (Addr × Obj)), Zc cls d oe → (∃ vs, oe.data = .fields vs) → PSs (X.suite a ((a, oe) :: pn)) (b₀ :: suite) (ts a cls d)) (r : HdM X hds l) :
      HdM X (.ExceptHandler (some (.Name x np)) (some n) (b₀ :: suite) pos' :: hds) ((c, some i, ts) :: l)
section
variable {X : Cx} {body : List Stmt} {h₀ : ExceptHandler} {hds : List ExceptHandler} {l : List (Value × Option Nat × Ts)} {pos : Pos} {tb : WX → TS} {Wout : WX}
theorem ps_try_mix (hs : X.stack = X.env :: X.outer) (hf : X.env.frame = some X.env.locals) (hN : X.N.Nodup) (tk : Takes X Wout)
    (hb : ∀ (W : WX) (pn : List (Addr × Obj)) (xe : Value → Shared → Prop), Takes (X.tr pn xe) W → PassesOwn (model X.prog X.w) X.A X.env xe → PSs (X.tr pn xe) body (tb W))
    (hh : HdM X (h₀ :: hds) l) : PS X (.Try body (h₀ :: hds) [] [] pos) (fun D σ H => tb (wMix X.K Wout D l) D σ H) := by
  refine ⟨fun pins s σ H D I h => ?_⟩
  have ok := I.ok
  have hfr : X.A.frames = some (X.env :: X.outer) := by rw [ok.frames, hs]
  refine wpAny_Try_except ?_
  refine wpAny_mono ((hb (wMix X.K Wout D l) (X.pn ++ pins) (fun e s₁ => wpAny (model X.prog X.w) X.A (noteFrame e X.env) (fun _ s₂ => wpAny (model X.prog X.w) X.A (setFlight e none) (fun _ s₃ =>
    wpAny (model X.prog X.w) X.A (handleBy e X.env (h₀ :: hds)) (SP X pins D) X.xe s₃) X.xe s₂) X.xe s₁) (fun u s' xx => ?_) PassesOwn.looking).run [] s σ H D (I.toTry _) h) (fun f s1 hsp => ?_) (fun e s1 he => he)
  · -- the catch
    obtain ⟨a, B, sI, pins', σ', H', cls, d, rfl, J', nb, up, sky, na, os, ag, w⟩ := xx
    have J : Inv X pins σ' H' sI := J'.ofTry ok
    have sky' : Sky B (X.env :: X.outer) a (Zc cls d) X.env.locals s'.heap := by rw [← hs]; exact sky
    show wpAny (model X.prog X.w) X.A (noteFrame (.ref a) X.env) _ _ _
    refine Sky.land Zc.steady hfr hf sky' fun h3 fl3 up3 => ?_
    have J3 : Inv X pins σ' H' { s' with heap := h3 } := J.landed nb fl3.1 (up.trans up3) os ag
    obtain ⟨oe3, vs3, he3, hz3, hd3⟩ := fl3.there
    have notFr : ∀ {h : Heap} {o : Obj} {vs : Array Value}, h.FunFrames B (X.env :: X.outer) → h.get? a = some o → o.data = .fields vs → a ∉ frs (X.env :: X.outer) := fun {h o vs} ff e dd hm => by
      obtain ⟨_, o', e', hnf⟩ := ff.mem hm
      rw [e] at e'; cases e'
      exact hnf _ dd
    have nfr := notFr fl3.2.2.1 he3 hd3
    have nL : a ≠ X.env.locals := fun z => nfr (List.mem_filterMap.mpr ⟨X.env, List.mem_cons_self, by rw [hf, z]⟩)
    have nF : a ∉ X.fs := fun hm => by
      obtain ⟨e, he, q⟩ := List.mem_filterMap.mp hm
      exact nfr (List.mem_filterMap.mpr ⟨e, List.mem_cons_of_mem _ he, q⟩)
    have S3 := J3.suite he3 hd3 na nL nF
    have go : ∀ {hds' : List ExceptHandler} {l' : List (Value × Option Nat × Ts)}, HdM X hds' l' → wMix X.K Wout D l' cls d σ' H' →
        wpAny (model X.prog X.w) X.A (handleBy (.ref a) X.env hds') (SP X pins D) X.xe { s' with heap := h3 } := by
      intro hds' l' hk
      induction hk with
      | nil =>
        intro w
        refine wpAny_handleBy_nil ?_
        obtain ⟨k1, k2, k3, oe, vs, T, oT, ts', he, hz, hd, h1, hr⟩ := id fl3
        unfold PySem.passOn
        refine wpAny_bind (wpAny_field he hd h1 ?_)
        rw [if_neg (show ¬ ((Value.ref T == Value.none) = true) from by simp)]
        have fin : wpAny (model X.prog X.w) X.A (setFlight (.ref a) X.env.frame) (fun _ s4 => wpAny (model X.prog X.w) X.A (throw (.ref a) : Sem Flow) (SP X pins D) X.xe s4) X.xe { s' with heap := h3 } := by
          rw [hf]
          refine HandSPX.setFlight_upZ fl3 fun h4 hh4 up4 => wpAny_throw (tk _ _ ?_)
          exact ⟨a, B, sI, pins, σ', H', cls, d, rfl, J, nb, (up.trans up3).trans up4, .inr (.inr (by rw [hs]; exact hh4)), na, os, ag, w⟩
        first
          | exact wpAny_bind (wpAny_pure (wpAny_bind fin))
          | exact wpAny_bind fin
      | @only x c ts b₀ suite np pos' hds2 l2 hc hsu r ih =>
        intro w
        obtain ⟨b, hb1, hyes, hno⟩ := w
        refine wpAny_handleBy_cons (codeAny_handlers_test ?_) (by intro q; cases q)
        have LT : PySem.W.Looks (model X.prog X.w) h3 (typeOf (.ref a)) cls := fun A Q E s k q => wpAny_typeOf_ref (k _ _ he3) (by rw [hz3.1]; exact q)
        have LM := PySem.W.exm_one (M := model X.prog X.w) (J3.kIn) LT hb1
        have test : ∀ {Q : Value → Shared → Prop} {E : Value → Shared → Prop}, Q c { s' with heap := h3 } → wpAny (model X.prog X.w) (X.A.mark (some (.ref a))) (eval (.Name x np) X.env) Q E { s' with heap := h3 } := fun {Q E} q => by
          obtain ⟨hg, hdbg, hm | ⟨hm, hv, hnn⟩⟩ := hc
          · exact ld_glob (X := X.suite a ((a, oe3) :: (X.pn ++ pins))) S3 hg hm q hdbg
          · exact ld_blt (X := X.suite a ((a, oe3) :: (X.pn ++ pins))) S3 hg hm hv q hnn hdbg
        refine test (LM.here ?_)
        cases b with
        | true =>
          refine codeAny_handlers_suite ?_
          refine HandSPX.lands_againZ fl3 fun h4 fl4 up4 => ?_
          have J4 : Inv X pins σ' H' { s' with heap := h4 } := J.landed nb fl4.1 ((up.trans up3).trans up4) os ag
          obtain ⟨oe4, vs4, he4, hz4, hd4⟩ := fl4.there
          have S4 := J4.suite he4 hd4 na nL nF
          refine wpAny_mono ((hsu a oe4 cls d (X.pn ++ pins) hz4 ⟨_, hd4⟩).run [] _ _ H' _ S4 (hyes rfl a na)) (fun f s6 hsp => ?_) (fun _ _ z => False.elim z)
          cases f with
          | next =>
            obtain ⟨σ6, H6, S6, q6⟩ := hsp
            exact ⟨_, _, S6.unsuite ok, q6⟩
          | brk =>
            obtain ⟨σ6, H6, S6, q6⟩ := hsp
            exact ⟨_, _, S6.unsuite ok, q6⟩
          | cont =>
            obtain ⟨σ6, H6, S6, q6⟩ := hsp
            exact ⟨_, _, S6.unsuite ok, q6⟩
          | ret u =>
            obtain ⟨v6, σ6, H6, S6, r6, q6⟩ := hsp
            exact ⟨_, _, _, S6.unsuite ok, r6, q6⟩
        | false =>
          show wpAny _ X.A (handleBy (.ref a) X.env hds2) _ _ _
          exact ih (hno rfl)
      | @as x n c i ts b₀ suite np pos' hds2 l2 hc hi hln hsu r ih =>
        intro w
        obtain ⟨b, hb1, hyes, hno⟩ := w
        have hloc : Loc X.env.scope n := .inl hln
        refine wpAny_handleBy_cons (codeAny_handlers_test ?_) (by intro q; cases q)
        have LT : PySem.W.Looks (model X.prog X.w) h3 (typeOf (.ref a)) cls := fun A Q E s k q => wpAny_typeOf_ref (k _ _ he3) (by rw [hz3.1]; exact q)
        have LM := PySem.W.exm_one (M := model X.prog X.w) (J3.kIn) LT hb1
        have test : ∀ {Q : Value → Shared → Prop} {E : Value → Shared → Prop}, Q c { s' with heap := h3 } → wpAny (model X.prog X.w) (X.A.mark (some (.ref a))) (eval (.Name x np) X.env) Q E { s' with heap := h3 } := fun {Q E} q => by
          obtain ⟨hg, hdbg, hm | ⟨hm, hv, hnn⟩⟩ := hc
          · exact ld_glob (X := X.suite a ((a, oe3) :: (X.pn ++ pins))) S3 hg hm q hdbg
          · exact ld_blt (X := X.suite a ((a, oe3) :: (X.pn ++ pins))) S3 hg hm hv q hnn hdbg
        refine test (LM.here ?_)
        cases b with
        | true =>
          refine codeAny_handlers_suite_as ?_
          refine HandSPX.lands_againZ fl3 fun h4 fl4 up4 => ?_
          have J4 : Inv X pins σ' H' { s' with heap := h4 } := J.landed nb fl4.1 ((up.trans up3).trans up4) os ag
          obtain ⟨oe4, vs4, he4, hz4, hd4⟩ := fl4.there
          have S4 := J4.suite he4 hd4 na nL nF
          refine store_ok (X := X.suite a ((a, oe4) :: (X.pn ++ pins))) (v := .ref a) S4 hN hi hloc rfl (fun s5 S5 => ?_) (.inr hln)
          refine wpAny_mono ((hsu a oe4 cls d (X.pn ++ pins) hz4 ⟨_, hd4⟩).run [] s5 _ H' _ S5 (hyes rfl a na)) (fun f s6 hsp => ?_) (fun _ _ z => False.elim z)
          have end_ : ∀ {σ6 : L2.St} {H6 : Hp} {Q : Shared → Prop}, Inv (X.suite a ((a, oe4) :: (X.pn ++ pins))) [] σ6 H6 s6 → (∀ s7, Inv X pins (σ6.set i none) H6 s7 → Q s7) →
              wpAny (model X.prog X.w) X.A (do bindName X.env n .none; unbindBehindTheSuite X.env n pos') (fun _ s7 => Q s7) X.xe s6 := fun {σ6 H6 Q} S6 hq => gone_ok (S6.unsuite ok) hN hi hln hq
          cases f with
          | next =>
            obtain ⟨σ6, H6, S6, q6⟩ := hsp
            exact end_ S6 fun s7 J7 => ⟨_, _, J7, q6⟩
          | brk =>
            obtain ⟨σ6, H6, S6, q6⟩ := hsp
            exact end_ S6 fun s7 J7 => ⟨_, _, J7, q6⟩
          | cont =>
            obtain ⟨σ6, H6, S6, q6⟩ := hsp
            exact end_ S6 fun s7 J7 => ⟨_, _, J7, q6⟩
          | ret u =>
            obtain ⟨v6, σ6, H6, S6, r6, q6⟩ := hsp
            exact end_ S6 fun s7 J7 => ⟨_, _, _, J7, r6, q6⟩
        | false =>
          show wpAny _ X.A (handleBy (.ref a) X.env hds2) _ _ _
          exact ih (hno rfl)
    exact go hh w
  · cases f with
    | next =>
      obtain ⟨σ', H', J', q⟩ := hsp
      exact wpAny_execs_nil ⟨σ', H', J'.ofTry ok, q⟩
    | brk =>
      obtain ⟨σ', H', J', q⟩ := hsp
      exact ⟨σ', H', J'.ofTry ok, q⟩
    | cont =>
      obtain ⟨σ', H', J', q⟩ := hsp
      exact ⟨σ', H', J'.ofTry ok, q⟩
    | ret u =>
      obtain ⟨v, σ', H', J', r, q⟩ := hsp
      exact ⟨v, σ', H', J'.ofTry ok, r, q⟩
end
end Pl
set_option Elab.async false
set_option linter.all false
set_option maxRecDepth 100000
set_option maxHeartbeats 1000000
/-! Pl: try, its clauses and what a clause's suite says. -/
namespace Pl
open PySem PySem.Spec PyProof.Rows L2

def isSubX (c C : Str) : Bool := c == C || C == "LetterError"
/-- what the written part says of the classes of exceptions -/
structure ExS (K : PySem.W.Frag) (mg : Str → Option Value) (exs : List Str) : Prop where
  exm : ∀ c ∈ exs, ∀ C ∈ ("LetterError" : Str) :: exs, PySem.W.exmOne K (.ref (He.ga K c)) (.ref (He.ga K C)) = some (isSubX c C)
  kit : ∀ c ∈ exs, ∀ C ∈ ("LetterError" : Str) :: exs, PySem.W.kitOne K (.ref (He.ga K c)) (.ref (He.ga K C)) = some (isSubX c C)
  cls : ∀ c ∈ exs, (PySem.W.clsIn K (He.ga K c)).isSome = true ∧ PySem.W.findIn K (.ref (He.ga K c)) "__getattribute__" = some (some (.builtin "BaseException.__getattribute__")) ∧ PySem.W.findIn K (.ref (He.ga K c)) "__getattr__" = some none ∧ PySem.W.subIn K (.ref (He.ga K c)) (.type "BaseException") = some true ∧
    PySem.W.findIn K (.ref (He.ga K c)) "__class__" = some (some (.builtin "object.__class__")) ∧ PySem.W.mroIn K (He.ga K c) (.type "object") = some true ∧ PySem.W.hasDictIn K (He.ga K c) = true ∧ (∀ f ∈ (["index", "line"] : List Str), PySem.W.findIn K (.ref (He.ga K c)) f = some none)
  hn : PySem.W.specialIn K (.builtin "object.__class__") "__get__" = some (some (.builtin "getset_descriptor.__get__"))
  ht : PySem.W.takesIn K (.builtin "object.__class__") = some true
  nm : ∀ C ∈ ("LetterError" : Str) :: exs, mg C = some (.ref (He.ga K C))

abbrev Hd : Type := Str × Option Nat × (Exn → M Fl)
def slotOk (o : Option Nat) (e : Env) : Bool := match o with
  | none => true
  | some i => decide (i < e.length)
def preAs (o : Option Nat) (e : Env) : Env := match o with
  | none => e
  | some i => e.set i none
def endAs (o : Option Nat) (r : R Fl) : R Fl := match r with
  | .ok .next e => .ok .next (preAs o e)
  | .ok .brk e => .ok .brk (preAs o e)
  | .ok (.ret d) e => .ok (.ret d) e
  | _ => .fail
def catchF (x : Exn) : List Hd → Env → R Fl
  | [], e => .exc x e
  | (C, o, h) :: r, e => if isSubX x.cls C = true then (if slotOk o e = true then endAs o (h x (preAs o e)) else .fail) else catchF x r e
def mTry (exs : List Str) (b : M Fl) (hs : List Hd) : M Fl := fun e => match b e with
  | .exc x e1 => if exs.contains x.cls = true then catchF x hs e1 else .fail
  | r => r
section
variable {X : Cx} {pn : Option V} {W : WX}
/-- a clause's suite -/
def tH (X : Cx) (pn : Option V) (exs : List Str) (o : Option Nat) (h : Exn → M Fl) : Ts := fun a cls d D σ H => ∃ x F e S, ExnR X.K X.w F H x cls d ∧ exs.contains x.cls = true ∧ (∀ i, o = some i → σ[i]? = some (some (.ref a))) ∧
  At X.K X.w F H e σ [] [] S ∧ PnOk pn σ ∧ PstS X pn noX D F H S (h x e)
theorem At.hide {K : PySem.W.Frag} {w : World} {F : Fset} {H : Hp} {S : List Addr} {σ : L2.St} {e : Env} (A : At K w F H e σ [] [] S) (i : Nat) (x : Option V) : ∃ S', At K w F H (e.set i none) (σ.set i x) [] [] S' ∧ Step F H S F H S' := by
  obtain ⟨Sd, Se, rfl, h, q, g⟩ := A
  obtain rfl := h.2
  obtain ⟨S2, sb, q2⟩ := q.drop i
  have nd : S2.Nodup := sb.nodup g.nd
  have su : ∀ a ∈ S2, a ∈ [] ++ Se := fun a ha => sb.subset ha
  refine ⟨S2, ⟨[], S2, rfl, RpL.nil, ?_, g.sub su nd⟩, Step.weak g su nd⟩
  by_cases hl : i < e.length
  · exact q2.any x (set_none hl)
  · have l := q.len
    rw [List.set_eq_of_length_le (show σ.length ≤ i by omega)]
    exact q2
def hdV (X : Cx) (pn : Option V) (exs : List Str) (h : Hd) : Value × Option Nat × Ts := (.ref (He.ga X.K h.1), h.2.1, tH X pn exs h.2.1 h.2.2)
theorem wMix_of {exs : List Str} (T : ExS X.K X.mg exs) {Dd : Ends} {x : Exn} {cls : Value} {dd : Option Addr} {F : Fset} {H : Hp} {e : Env} {σ : L2.St} {S : List Addr} (hx : exs.contains x.cls = true) (A : At X.K X.w F H e σ [] [] S) (p : PnOk pn σ) (r : ExnR X.K X.w F H x cls dd) :
    ∀ hs : List Hd, (∀ h ∈ hs, h.1 ∈ ("LetterError" : Str) :: exs) → (∀ h ∈ hs, ∀ i, h.2.1 = some i → i ≠ 0 ∨ pn = none) → PstS X pn W Dd F H S (catchF x hs e) → wMix X.K W Dd (hs.map (hdV X pn exs)) cls dd σ H
  | [], _, _, q => q σ cls dd F H S (Step.refl A.good) A p r
  | (C, o, h) :: hs, hm, hi, q => by
    have hxm : x.cls ∈ exs := List.elem_iff.mp hx
    have ex := T.exm x.cls hxm C (hm _ List.mem_cons_self)
    rw [← r.1] at ex
    rw [catchF] at q
    have rest : isSubX x.cls C = false → wMix X.K W Dd (hs.map (hdV X pn exs)) cls dd σ H := fun hb => by
      rw [hb, if_neg Bool.false_ne_true] at q
      exact wMix_of T hx A p r hs (fun h hh => hm h (List.mem_cons_of_mem _ hh)) (fun h hh => hi h (List.mem_cons_of_mem _ hh)) q
    cases o with
    | none =>
      refine ⟨isSubX x.cls C, ex, fun hb a ha => ?_, rest⟩
      rw [hb, if_pos rfl, slotOk, if_pos rfl] at q
      refine ⟨x, F, e, S, r, hx, fun i z => (by cases z), A, p, ?_⟩
      show PstS X pn noX Dd F H S (h x e)
      cases rr : h x e with
      | ok f e2 =>
        have q : PstS X pn W Dd F H S (endAs none (h x e)) := q
        rw [rr] at q
        cases f with
        | next => exact q
        | brk => exact q
        | ret d => exact q
      | exc y e2 =>
        have q : PstS X pn W Dd F H S (endAs none (h x e)) := q
        rw [rr] at q; exact q.elim
      | fail =>
        have q : PstS X pn W Dd F H S (endAs none (h x e)) := q
        rw [rr] at q; exact q.elim
    | some i =>
      refine ⟨isSubX x.cls C, ex, fun hb a ha => ?_, rest⟩
      rw [hb, if_pos rfl] at q
      split at q
      · rename_i hs'
        have hl : i < e.length := of_decide_eq_true hs'
        obtain ⟨S2, A2, st2⟩ := A.hide i (some (.ref a))
        have q : PstS X pn W Dd F H S (endAs (some i) (h x (e.set i none))) := q
        have hp := hi _ List.mem_cons_self i rfl
        refine ⟨x, F, e.set i none, S2, r, hx, fun j z => ?_, A2, p.set hp, ?_⟩
        · cases z
          rw [List.getElem?_set_self (by rw [← A.len]; exact hl)]
        · show PstS X pn noX { nx := fun σ' H' => Dd.nx (σ'.set i none) H', rt := Dd.rt, bk := fun σ' H' => Dd.bk (σ'.set i none) H', ct := fun σ' H' => Dd.ct (σ'.set i none) H' } F H S2 (h x (e.set i none))
          cases rr : h x (e.set i none) with
          | ok f e2 =>
            rw [rr] at q
            cases f with
            | next =>
              intro σ' F' H' S' st B p'
              obtain ⟨S3, B3, st3⟩ := B.hide i none
              exact q _ F' H' S3 ((st2.trans st).trans st3) B3 (p'.set hp)
            | brk =>
              intro σ' F' H' S' st B p'
              obtain ⟨S3, B3, st3⟩ := B.hide i none
              exact q _ F' H' S3 ((st2.trans st).trans st3) B3 (p'.set hp)
            | ret d => exact fun v σ' F' H' S' st B p' => q v _ F' H' S' (st2.trans st) B p'
          | exc y e2 => rw [rr] at q; exact q.elim
          | fail => rw [rr] at q; exact q.elim
      · exact q.elim
variable {body : List Stmt} {h₀ : ExceptHandler} {hds : List ExceptHandler} {pos : Pos} {m : M Fl} {exs : List Str} {hs : List Hd}
theorem dS_try (T : ExS X.K X.mg exs) (hst : X.stack = X.env :: X.outer) (hf : X.env.frame = some X.env.locals) (hN : X.N.Nodup) (tk : Takes X W) (hm : ∀ h ∈ hs, h.1 ∈ ("LetterError" : Str) :: exs) (hi : ∀ h ∈ hs, ∀ i, h.2.1 = some i → i ≠ 0 ∨ pn = none)
    (hb : ∀ (W : WX) (pl : List (Addr × Obj)) (xe : Value → Shared → Prop), Takes (X.tr pl xe) W → PassesOwn (model X.prog X.w) X.A X.env xe → PSs (X.tr pl xe) body (tS (X.tr pl xe) pn W m))
    (hh : HdM X (h₀ :: hds) (hs.map (hdV X pn exs))) : PS X (.Try body (h₀ :: hds) [] [] pos) (tS X pn W (mTry exs m hs)) := PSimp (ps_try_mix (tb := fun W => tS X pn W m) hst hf hN tk hb hh) fun Dd σ H q => by
  obtain ⟨F, e, S, A, p, q⟩ := q
  refine ⟨F, e, S, A, p, ?_⟩
  unfold mTry at q
  cases rr : m e with
  | ok f e2 => rw [rr] at q; cases f <;> exact q
  | exc x e2 =>
    rw [rr] at q
    intro σ' cls dd F' H' S' st B p' r
    simp only at q
    split at q
    · rename_i hx
      exact wMix_of T hx B p' r hs hm hi (q.later st)
    · exact q.elim
  | fail => rw [rr] at q; exact q
theorem hdM_nil : HdM X [] (([] : List Hd).map (hdV X pn exs)) := .nil
theorem hdM_only {x : Str} {b₀ : Stmt} {suite : List Stmt} {np pos' : Pos} {h : Exn → M Fl} (T : ExS X.K X.mg exs) (hx : x ∈ ("LetterError" : Str) :: exs)
    (hsu : ∀ (a : Addr) (oe : Obj) (cls : Value) (d : Option Addr) (pl : List (Addr × Obj)), Zc cls d oe → (∃ vs, oe.data = .fields vs) → PSs (X.suite a ((a, oe) :: pl)) (b₀ :: suite) (tH X pn exs none h a cls d)) (r : HdM X hds (hs.map (hdV X pn exs))) (hg : Gl X x := by rfl) (hdb : (x == ("__debug__" : Str)) = false := by decide) :
    HdM X (.ExceptHandler (some (.Name x np)) none (b₀ :: suite) pos' :: hds) (((x, none, h) :: hs : List Hd).map (hdV X pn exs)) := .only ⟨hg, hdb, .inl (T.nm x hx)⟩ hsu r
theorem hdM_as {x n : Str} {b₀ : Stmt} {suite : List Stmt} {np pos' : Pos} {h : Exn → M Fl} (i : Nat) (T : ExS X.K X.mg exs) (hx : x ∈ ("LetterError" : Str) :: exs)
    (hsu : ∀ (a : Addr) (oe : Obj) (cls : Value) (d : Option Addr) (pl : List (Addr × Obj)), Zc cls d oe → (∃ vs, oe.data = .fields vs) → PSs (X.suite a ((a, oe) :: pl)) (b₀ :: suite) (tH X pn exs (some i) h a cls d)) (r : HdM X hds (hs.map (hdV X pn exs))) (hi : X.N[i]? = some n := by rfl) (hln : X.env.kindOf n = some .local := by rfl) (hg : Gl X x := by rfl) (hdb : (x == ("__debug__" : Str)) = false := by decide) :
    HdM X (.ExceptHandler (some (.Name x np)) (some n) (b₀ :: suite) pos' :: hds) (((x, some i, h) :: hs : List Hd).map (hdV X pn exs)) := .as ⟨hg, hdb, .inl (T.nm x hx)⟩ hi hln hsu r
end

/-! ### what a suite says of the exception in hand -/
section
variable {X : Cx} {exs : List Str} {o : Option Nat} {a : Addr} {oe : Obj} {cls : Value} {d : Option Addr} {pl : List (Addr × Obj)}
/-- a state in which the exception is in hand -/
def XIn (X : Cx) (exs : List Str) (o : Option Nat) (a : Addr) (cls : Value) (d : Option Addr) (x : Exn) (F : Fset) (σ : L2.St) (H : Hp) : Prop := ExnR X.K X.w F H x cls d ∧ exs.contains x.cls = true ∧ (∀ i, o = some i → σ[i]? = some (some (.ref a))) ∧ Good F H []
/-- nothing new is laid -/
def tX0 (X : Cx) (exs : List Str) (o : Option Nat) (a : Addr) (cls : Value) (d : Option Addr) (g : Exn → Option D) : TE := fun σ H Q => ∃ x F, XIn X exs o a cls d x F σ H ∧ ∃ r, g x = some r ∧ ∀ v, Rp X.K X.w F H r v [] → Q v H
def tXp (X : Cx) (exs : List Str) (o : Option Nat) (a : Addr) (cls : Value) (d : Option Addr) (g : Exn → Option D) : TE := fun σ H Q => ∃ x F, XIn X exs o a cls d x F σ H ∧ ∃ r, g x = some r ∧ ∀ v F' H' S', Step F H [] F' H' S' → Rp X.K X.w F' H' r v S' → Q v H'
def tXt (X : Cx) (exs : List Str) (o : Option Nat) (a : Addr) (cls : Value) (d : Option Addr) (g : Exn → Option Bool) : TT := fun σ H Q => ∃ x F, XIn X exs o a cls d x F σ H ∧ ∃ r, g x = some r ∧ Q r H
def tXs (X : Cx) (exs : List Str) (o : Option Nat) (a : Addr) (cls : Value) (d : Option Addr) (g : Exn → Option (List D)) : TA := fun σ H Q => ∃ x F, XIn X exs o a cls d x F σ H ∧ ∃ rs, g x = some rs ∧ ∀ vs, RpL X.K X.w F H rs vs [] → Q vs H
theorem xE_0 {e : Expr} {g : Exn → Option D} {X' : Cx} (h : PE X' e (tX0 X exs o a cls d g)) : PE X' e (tXp X exs o a cls d g) := PEimp h fun σ H Q q => by
  obtain ⟨x, F, I, r, hr, k⟩ := q
  exact ⟨x, F, I, r, hr, fun v hv => k v F H [] (Step.refl I.2.2.2) hv⟩
theorem xE_c {X' : Cx} {e : Expr} {v : V} {r : D} (h : PE X' e (tC v)) (hv : ∀ F H, Rp X.K X.w F H r v []) : PE X' e (tX0 X exs o a cls d fun _ => some r) := PEimp h fun σ H Q q => by
  obtain ⟨x, F, I, r, hr, k⟩ := q
  cases hr
  exact k v (hv F H)
theorem RpF.look {K : PySem.W.Frag} {w : World} {F : Fset} {H : Hp} {f : Str} {r : D} : ∀ {fs : List (Str × D)} {fvs : List (Str × V)} {S : List Addr}, RpF K w F H fs fvs S → S = [] → fs.lookup f = some r → ∃ v, fvs.lookup f = some v ∧ Rp K w F H r v []
  | [], _, _, _, _, h => by cases h
  | (g, d') :: fs, fvs, S, h, e, q => by
    rw [RpF] at h
    obtain ⟨v, r', S1, S2, rfl, e2, h1, h2⟩ := h
    obtain ⟨rfl, rfl⟩ := List.append_eq_nil_iff.mp (e2.symm.trans e)
    rw [look_put] at q
    rw [lookup_put]
    by_cases hg : f = g
    · rw [if_pos hg] at q ⊢
      cases q
      exact ⟨v, rfl, h1⟩
    · rw [if_neg hg] at q ⊢
      exact RpF.look h2 rfl q
theorem xE_err {n f : Str} {p pos : Pos} {i : Nat} (T : ExS X.K X.mg exs) (hz : Zc cls d oe) (hf : ∃ vs, oe.data = .fields vs) (he : PE (X.suite a ((a, oe) :: pl)) (.Name n p) (tVar i)) (hfm : f ∈ (["index", "line"] : List Str))
    (hb : attributeBase (.Name n p) f X.env (eval (.Name n p) X.env) = eval (.Name n p) X.env := by rfl) : PE (X.suite a ((a, oe) :: pl)) (.Attribute (.Name n p) f pos) (tX0 X exs (some i) a cls d fun x => x.fs.lookup f) := by
  refine ⟨fun pins s σ H Q I h => ?_⟩
  obtain ⟨x, F, XI, r, hr, k⟩ := h
  obtain ⟨er, hx, hsl, _⟩ := XI
  have hxm : x.cls ∈ exs := List.elem_iff.mp hx
  obtain ⟨k1, k2, k3, k4, k5, k6, k7, k8⟩ := T.cls x.cls hxm
  refine attr_of hb (thn (he.run pins s σ H (fun y H1 => y = .ref a ∧ H1 = H) I ⟨.ref a, hsl i rfl, rfl, rfl⟩) fun u s1 hh => ?_)
  obtain ⟨y, H1, I1, rx, rfl, rfl⟩ := hh
  obtain rfl : u = Value.ref a := rx
  obtain ⟨ec, er⟩ := er
  have hr : x.fs.lookup f = some r := hr
  cases hfs : x.fs with
  | nil => rw [hfs] at hr; cases hr
  | cons q0 fs0 =>
    rw [hfs] at er
    obtain ⟨dd, fvs, ed, ea, rf⟩ := er
    obtain ⟨v, hv, rv⟩ := RpF.look rf rfl (by rw [← hfs]; exact hr)
    subst ec
    subst ed
    obtain ⟨ha, _⟩ := I1.pin (a, oe) (List.mem_append_left _ List.mem_cons_self)
    obtain ⟨vs, hd⟩ := hf
    have hx' : ObjOk X.prog X.w H1 s1.heap dd (.xd fvs) := I1.hok dd _ ea
    obtain ⟨mA, hns, hrl⟩ := hx'
    obtain ⟨od, ho, hl⟩ := lookIn_ns hns
    obtain ⟨u, hu, ru⟩ := RelO.some_of (v := v) (o := mA f) (by rw [← hv]; exact hrl f)
    have J : PySem.W.InstAt s1.heap a oe (He.ga X.K x.cls) (some od) := ⟨ha, hz.1, by unfold PySem.W.notCls; rw [hd] <;> rfl, by rw [hz.2]; exact ho⟩
    exact HandSPX.exc_get I1.kIn J k2 k3 k4 (PySem.W.findObj_own k7 (k8 f hfm) rfl (by rw [hl, hu])) (handed_of ru) ⟨v, H1, I1.tok _, ru, k v rv⟩
def rIsX (X : Cx) (exs : List Str) (o : Option Nat) (a : Addr) (cls : Value) (d : Option Addr) (C : Str) (σ : L2.St) : List V → Hp → VK → Prop := fun xs H Q => ∃ x F, XIn X exs o a cls d x F σ H ∧ xs = [.ref a, .ref (He.ga X.K C)] ∧ Q (.bl (isSubX x.cls C)) H
theorem call_isX {C : Str} {σ : L2.St} (T : ExS X.K X.mg exs) (hC : C ∈ ("LetterError" : Str) :: exs) (hz : Zc cls d oe) (hf : ∃ vs, oe.data = .fields vs) : CallR (X.suite a ((a, oe) :: pl)) (.builtin "isinstance") (rIsX X exs o a cls d C σ) := by
  intro pins s σ' H xs us Q I r h
  obtain ⟨x, F, XI, rfl, q⟩ := h
  obtain ⟨er, hx, hsl, _⟩ := XI
  have hxm : x.cls ∈ exs := List.elem_iff.mp hx
  obtain ⟨k1, k2, k3, k4, k5, k6, k7, k8⟩ := T.cls x.cls hxm
  cases r with
  | cons rx rr =>
    cases rr with
    | cons rt rr =>
      cases rr
      cases rx
      cases rt
      obtain ⟨hget, _⟩ := I.pin (a, oe) (List.mem_append.mpr (.inl List.mem_cons_self))
      obtain ⟨vs, hv⟩ := hf
      have J : ∃ od, PySem.W.InstAt s.heap a oe (He.ga X.K x.cls) od := by
        obtain ⟨ec, er⟩ := er
        have hc : oe.cls = .ref (He.ga X.K x.cls) := hz.1.trans ec
        cases hfs : x.fs with
        | nil =>
          rw [hfs] at er
          have er : d = none := er
          exact ⟨none, hget, hc, by unfold PySem.W.notCls; rw [hv] <;> rfl, by rw [hz.2, er]; trivial⟩
        | cons q0 fs0 =>
          rw [hfs] at er
          obtain ⟨dd, fvs, ed, ea, rf⟩ := er
          have hx' : ObjOk X.prog X.w H s.heap dd (.xd fvs) := I.hok dd _ ea
          obtain ⟨mA, hns, hrl⟩ := hx'
          obtain ⟨od, ho, hl⟩ := lookIn_ns hns
          exact ⟨some od, hget, hc, by unfold PySem.W.notCls; rw [hv] <;> rfl, by rw [hz.2, ed]; exact ho⟩
      obtain ⟨od, J⟩ := J
      exact PySem.W.kia_one (PySem.W.kitx_exc k1 k2 k3 k4 k5 T.hn T.ht k6) I.kIn J (T.kit x.cls hxm C hC) (fun z => nomatch z) fun tk => ⟨.bl _, H, I.tok _, rfl, q⟩
theorem xE_is {n C : Str} {p px pf pos : Pos} {i : Nat} (T : ExS X.K X.mg exs) (hC : C ∈ ("LetterError" : Str) :: exs) (hz : Zc cls d oe) (hf : ∃ vs, oe.data = .fields vs) (he : PE (X.suite a ((a, oe) :: pl)) (.Name n p) (tVar i)) (mi : X.mg "isinstance" = none) (gi : Gl X "isinstance" := by rfl) (gx : Gl X C := by rfl) (hdb : (C == ("__debug__" : Str)) = false := by decide) :
    PE (X.suite a ((a, oe) :: pl)) (.Call (.Name "isinstance" pf) [.Name n p, .Name C px] [] pos) (tX0 X exs (some i) a cls d fun x => some (.bl (isSubX x.cls C))) := by
  refine ⟨fun pins s σ H Q I h => ?_⟩
  refine (pe_callB (call_isX (o := some i) (σ := σ) T hC hz hf) gi mi (by decide +kernel) (pa_cons he (pa_cons (pe_glob (v := .ref (He.ga X.K C)) gx (T.nm C hC) rfl hdb) pa_nil))).run pins s σ H Q I ?_
  obtain ⟨x, F, XI, r, hr, k⟩ := h
  cases hr
  exact ⟨.ref a, XI.2.2.1 i rfl, x, F, XI, rfl, k _ ⟨rfl, rfl⟩⟩
theorem xT_of {X' : Cx} {e : Expr} {g : Exn → Option Bool} (h : PE X' e (tX0 X exs o a cls d fun x => (g x).map D.bl)) (hw : ∀ whole, isTrue e X'.env whole = (do let v ← whole; standAt e.pos; holding [v] (truthy v)) := by intro _; rfl) : PT X' e (tXt X exs o a cls d g) :=
  PTimp (pt_val h hw) fun σ H Q q => by
  obtain ⟨x, F, I, r, hr, k⟩ := q
  exact ⟨x, F, I, .bl r, by show (g x).map D.bl = _; rw [hr]; rfl, fun v hv => ⟨r, hv.1, k⟩⟩
theorem xE_ite {X' : Cx} {c y z : Expr} {pos : Pos} {gc : Exn → Option Bool} {gy gz : Exn → Option D} (hc : PT X' c (tXt X exs o a cls d gc)) (hy : PE X' y (tXp X exs o a cls d gy)) (hz : PE X' z (tXp X exs o a cls d gz)) :
    PE X' (.IfExp c y z pos) (tXp X exs o a cls d fun x => (gc x).bind fun b => if b = true then gy x else gz x) := PEimp (pe_ifExp hc hy hz) fun σ H Q q => by
  obtain ⟨x, F, I, r, hr, k⟩ := q
  dsimp only at hr
  cases hb : gc x with
  | none => rw [hb] at hr; cases hr
  | some b =>
    rw [hb] at hr
    refine ⟨x, F, I, b, hb, ?_⟩
    cases b with
    | true => exact ⟨x, F, I, r, hr, k⟩
    | false => exact ⟨x, F, I, r, hr, k⟩
theorem xA_nil {X' : Cx} : PA X' [] (tXs X exs o a cls d fun _ => some []) := PAimp pa_nil fun σ H Q q => by
  obtain ⟨x, F, I, r, hr, k⟩ := q
  dsimp only at hr
  cases hr
  exact k [] RpL.nil
theorem xA_cons {X' : Cx} {e : Expr} {es : List Expr} {g : Exn → Option D} {gs : Exn → Option (List D)} (h : PE X' e (tX0 X exs o a cls d g)) (hr : PA X' es (tXs X exs o a cls d gs)) (hs : starEach (e :: es) X'.env = (false, eval e X'.env) :: starEach es X'.env := by rfl) :
    PA X' (e :: es) (tXs X exs o a cls d fun x => (g x).bind fun r => (gs x).map fun rs => r :: rs) := PAimp (pa_cons h hr hs) fun σ H Q q => by
  obtain ⟨x, F, I, r, hr, k⟩ := q
  dsimp only at hr
  cases hg : g x with
  | none => rw [hg] at hr; cases hr
  | some r0 =>
    cases hgs : gs x with
    | none => rw [hg, hgs] at hr; cases hr
    | some rs =>
      rw [hg, hgs] at hr
      cases hr
      exact ⟨x, F, I, r0, hg, fun v hv => ⟨x, F, I, rs, hgs, fun vs hvs => k _ (RpL.cons (S1 := []) hv hvs)⟩⟩
theorem xE_lst {X' : Cx} {es : List Expr} {pos : Pos} {gs : Exn → Option (List D)} (h : PA X' es (tXs X exs o a cls d gs)) (hl : es.length ≤ 8) (hg : ∀ x rs, gs x = some rs → rs.length = es.length) : PE X' (.List es pos) (tXp X exs o a cls d fun x => (gs x).map (D.lst true)) := PEimp (pe_lst h) fun σ H Q q => by
  obtain ⟨x, F, I, r, hr, k⟩ := q
  dsimp only at hr
  cases hgs : gs x with
  | none => rw [hgs] at hr; cases hr
  | some rs =>
    rw [hgs] at hr
    cases hr
    refine ⟨x, F, I, rs, hgs, fun vs hvs => ⟨by rw [← hvs.length, hg x rs hgs, sizeLine_eq]; omega, fun p hp => ?_⟩⟩
    refine k _ F _ [p] (Step.newO I.2.2.2 hp trivial) ?_
    rw [Rp]
    exact ⟨p, vs, rfl, .inl ⟨rfl, upd_same, [], rfl, RpL.stay _ (Stays.new hp) hvs⟩⟩
/-- y = e, in a suite -/
theorem xS_set {X' : Cx} {pn : Option V} {y : Str} {px pos : Pos} {e : Expr} {g : Exn → Option D} (j : Nat) (hK : X'.K = X.K) (hw' : X'.w = X.w) (hN : X'.N.Nodup) (h : PE X' e (tXp X exs o a cls d g)) (hp : j ≠ 0 ∨ pn = none) (hi : X'.N[j]? = some y := by rfl) (hx : Loc X'.env.scope y := by first | exact .inl rfl | exact .inr rfl)
    (hs : swapsWith e (some (.Name y px)) pos.line X'.env = pure false := by rfl) (hf : X'.fn y = true ∨ X'.env.scope.names.lookup y = some .local := by first | exact .inl rfl | exact .inr rfl | assumption) :
    PSs X' [.Assign [.Name y px] e pos] (tH X pn exs o (fun x => mSet j fun e => R.of (g x) e) a cls d) := pss_one (PSimp (ps_set hN hi hx h hs hf) fun Dd σ H q => by
  obtain ⟨x, F, e0, S, er, hx, hsl, A, p, q⟩ := q
  unfold mSet at q
  dsimp only at q
  cases hg : g x with
  | none => rw [hg] at q; exact q.elim
  | some r =>
    rw [hg] at q
    refine ⟨x, F, ⟨er, hx, hsl, A.good.nil⟩, r, hg, fun v F' H' S' st rv => ?_⟩
    obtain ⟨T', st', A'⟩ := A.res st rv
    have q : PstS X pn noX Dd F H S (if j < e0.length then .ok .next (e0.set j (some r)) else .fail) := q
    split at q
    · rename_i hl
      obtain ⟨S3, B3, st3⟩ := A'.store hl
      exact q _ F' H' S3 (st'.trans st3) B3 (p.set hp)
    · exact q.elim)
end
end Pl
set_option Elab.async false
set_option linter.all false
set_option maxRecDepth 100000
set_option maxHeartbeats 1000000
/-! Pl: writing what a name holds. -/
namespace Pl
open PySem PySem.Spec PyProof.Rows L2
section
variable {K : PySem.W.Frag} {w : World} {F F' : Fset} {H H' : Hp} {S S1 S2 T : List Addr} {a p : Addr} {o : HO} {e : Env} {σ : L2.St} {d d' : D} {ds : List D} {v : V} {vs : List V} {i : Nat}
/-- a name's value among the temporaries -/
theorem At.out (A : At K w F H e σ ds vs S) (h : e[i]? = some (some d)) : ∃ v T, σ[i]? = some (some v) ∧ At K w F H (e.set i none) σ (d :: ds) (v :: vs) T ∧ Step F H S F H T := by
  obtain ⟨Sd, Se, rfl, hd, he, g⟩ := A
  obtain ⟨v, S1, S2, q1, q2, q3, q4⟩ := he.take h
  have pm : (Sd ++ Se).Perm ((S1 ++ Sd) ++ S2) := by
    refine ((List.Perm.refl Sd).append q2).trans ?_
    rw [← List.append_assoc]
    exact List.perm_append_comm.append_right _
  exact ⟨v, (S1 ++ Sd) ++ S2, q1, ⟨S1 ++ Sd, S2, rfl, RpL.cons q3 hd, q4, g.perm pm⟩, (Step.refl g).permR pm⟩
/-- .. and back -/
theorem At.back (A : At K w F H e σ (d :: ds) (v :: vs) S) (hi : e[i]? = some none) (hv : σ[i]? = some (some v)) : ∃ T, At K w F H (e.set i (some d)) σ ds vs T ∧ Step F H S F H T := by
  obtain ⟨Sd, Se, rfl, hd, he, g⟩ := A
  obtain ⟨v', r, S1, S2, e1, rfl, h1, h2⟩ := hd.uncons
  cases e1
  obtain ⟨S3, pm, q⟩ := he.put hi h1
  rw [set_get hv] at q
  have pm2 : ((S1 ++ S2) ++ Se).Perm (S2 ++ S3) := by
    refine (List.perm_append_comm.append_right _).trans ?_
    rw [List.append_assoc]
    exact (List.Perm.refl S2).append pm.symm
  exact ⟨S2 ++ S3, ⟨S2, S3, rfl, h2, q, g.perm pm2⟩, (Step.refl g).permR pm2⟩
theorem At.swap {d1 d2 : D} {v1 v2 : V} (A : At K w F H e σ (d1 :: d2 :: ds) (v1 :: v2 :: vs) S) : ∃ T, At K w F H e σ (d2 :: d1 :: ds) (v2 :: v1 :: vs) T ∧ Step F H S F H T := by
  obtain ⟨Sd, Se, rfl, hd, he, g⟩ := A
  obtain ⟨v', r, S1, S2, e1, rfl, h1, h2⟩ := hd.uncons
  cases e1
  obtain ⟨v', r, S3, S4, e1, rfl, h3, h4⟩ := h2.uncons
  cases e1
  have pm : ((S1 ++ (S3 ++ S4)) ++ Se).Perm ((S3 ++ (S1 ++ S4)) ++ Se) := by
    refine List.Perm.append_right _ ?_
    rw [← List.append_assoc, ← List.append_assoc]
    exact List.perm_append_comm.append_right _
  exact ⟨_, ⟨S3 ++ (S1 ++ S4), Se, rfl, RpL.cons h3 (RpL.cons h1 h4), he, g.perm pm⟩, (Step.refl g).permR pm⟩
/-- the temporaries written at a -/
theorem At.wr {Sd Se S1 : List Addr} {ds' : List D} {vs' : List V} (g : Good F H (Sd ++ Se)) (he : EnvR K w F H e σ Se) (pm : Sd.Perm (a :: S1)) (wr : Wr o)
    (h : Stays F H F (upd H a o) S1 → ∃ S' S0, S'.Perm S0 ∧ S0.Sublist (a :: S1) ∧ RpL K w F (upd H a o) ds' vs' S') : ∃ T, At K w F (upd H a o) e σ ds' vs' T ∧ Step F H (Sd ++ Se) F (upd H a o) T := by
  have pm2 : (Sd ++ Se).Perm ((a :: S1) ++ Se) := pm.append_right _
  have g2 := g.perm pm2
  have nd := List.nodup_append.mp g2.nd
  have na : a ∉ S1 := (List.nodup_cons.mp nd.1).1
  have ne : a ∉ Se := fun z => nd.2.2 a List.mem_cons_self a z rfl
  have m : a ∈ (a :: S1) ++ Se := List.mem_append_left _ List.mem_cons_self
  obtain ⟨S', S0, p1, sb, r⟩ := h (Stays.write g2 m na)
  have sw : Step F H ((a :: S1) ++ Se) F (upd H a o) ((a :: S1) ++ Se) := Step.write g2 m wr
  have su : ∀ b ∈ S' ++ Se, b ∈ (a :: S1) ++ Se := fun b hb => by
    rcases List.mem_append.mp hb with z | z
    · exact List.mem_append_left _ (sb.subset (p1.mem_iff.mp z))
    · exact List.mem_append_right _ z
  have nd2 : (S' ++ Se).Nodup := (p1.append_right Se).nodup_iff.mpr ((sb.append (List.Sublist.refl Se)).nodup g2.nd)
  have sw2 := (sw.subR su nd2).permL pm2.symm
  exact ⟨S' ++ Se, ⟨S', Se, rfl, r, he.stay (Stays.write g2 m ne), sw2.good⟩, sw2⟩

/-- an item of a list replaced -/
theorem RpL.put : ∀ {ds : List D} {vs : List V} {S S1 : List Addr} {j : Nat} {d : D} {v : V}, RpL K w F H ds vs S → Rp K w F H d v S1 → j < ds.length → ∃ S' S0, S'.Perm (S1 ++ S0) ∧ S0.Sublist S ∧ RpL K w F H (ds.set j d) (vs.set j v) S'
  | [], _, _, _, _, _, _, _, _, l => absurd l (by simp)
  | d' :: ds, vs, S, S1, 0, d, v, h, r, _ => by
    obtain ⟨v', r', T1, T2, rfl, rfl, h1, h2⟩ := h.uncons
    exact ⟨S1 ++ T2, T2, List.Perm.refl _, List.sublist_append_right _ _, RpL.cons r h2⟩
  | d' :: ds, vs, S, S1, j + 1, d, v, h, r, l => by
    obtain ⟨v', r', T1, T2, rfl, rfl, h1, h2⟩ := h.uncons
    obtain ⟨S', S0, pm, sb, q⟩ := RpL.put (j := j) h2 r (by simpa using l)
    refine ⟨T1 ++ S', T1 ++ S0, ?_, (List.Sublist.refl T1).append sb, RpL.cons h1 q⟩
    refine ((List.Perm.refl T1).append pm).trans ?_
    rw [← List.append_assoc, ← List.append_assoc]
    exact List.perm_append_comm.append_right _
/-- x[j] = d, the list and the value held -/
theorem At.setAt {xs : List D} {j : Nat} (A : At K w F H e σ [d, .lst true xs] [v, .ref p] S) (hj : j < xs.length) : ∃ us T, H p = some (.lst us) ∧ us.length = xs.length ∧ At K w F (upd H p (.lst (us.set j v))) e σ [.lst true (xs.set j d)] [.ref p] T ∧ Step F H S F (upd H p (.lst (us.set j v))) T := by
  obtain ⟨Sd, Se, rfl, h, q, g⟩ := A
  obtain ⟨v', r, S1, S2, e1, rfl, h1, h2⟩ := h.uncons
  cases e1
  obtain ⟨v', r, S2, S3, e1, rfl, h4, h3⟩ := h2.uncons
  cases e1
  obtain rfl := h3.2
  rw [List.append_nil] at g ⊢
  rw [Rp] at h4
  obtain ⟨a, us, e1, ⟨_, hp, S4, rfl, r⟩ | ⟨z, _⟩⟩ := h4
  · cases e1
    have pm : (S1 ++ p :: S4).Perm (p :: (S1 ++ S4)) := List.perm_middle
    obtain ⟨T, B, st⟩ := At.wr (o := .lst (us.set j v)) (ds' := [.lst true (xs.set j d)]) (vs' := [.ref p]) g q pm trivial fun s => by
      have r1 := RpL.stay xs (s.sub fun b hb => List.mem_append_right _ hb) r
      have r2 := Rp.stay d (s.sub fun b hb => List.mem_append_left _ hb) h1
      obtain ⟨S', S0, p1, sb, r3⟩ := r1.put r2 hj
      refine ⟨p :: S', p :: (S1 ++ S0), p1.cons _, ((List.Sublist.refl S1).append sb).cons₂ _, ?_⟩
      have z : Rp K w F (upd H p (.lst (us.set j v))) (.lst true (xs.set j d)) (.ref p) (p :: S') := by
        rw [Rp]
        exact ⟨p, _, rfl, .inl ⟨rfl, upd_same, _, rfl, r3⟩⟩
      have z2 := RpL.cons z RpL.nil
      rw [List.append_nil] at z2
      exact z2
    exact ⟨us, T, hp, r.length.symm, B, st⟩
  · cases z
/-! ### fields -/
def putD (f : Str) (d : D) : List (Str × D) → List (Str × D)
  | [] => [(f, d)]
  | (g, x) :: r => if g = f then (g, d) :: r else (g, x) :: putD f d r
theorem RpF.put {f : Str} : ∀ {fs : List (Str × D)} {fvs : List (Str × V)} {S S1 : List Addr} {d : D} {v : V}, RpF K w F H fs fvs S → Rp K w F H d v S1 → ∃ S' S0, S'.Perm (S1 ++ S0) ∧ S0.Sublist S ∧ RpF K w F H (putD f d fs) (putF f v fvs) S'
  | [], fvs, S, S1, d, v, h, r => by
    rw [RpF] at h
    obtain ⟨rfl, rfl⟩ := h
    refine ⟨S1 ++ [], [], List.Perm.refl _, List.Sublist.refl _, ?_⟩
    rw [putD, putF, RpF]
    exact ⟨v, [], S1, [], rfl, rfl, r, by rw [RpF]; exact ⟨rfl, rfl⟩⟩
  | (g, d') :: fs, fvs, S, S1, d, v, h, r => by
    rw [RpF] at h
    obtain ⟨v', r', T1, T2, rfl, rfl, h1, h2⟩ := h
    rw [putD, putF]
    by_cases hg : g = f
    · rw [if_pos hg, if_pos hg]
      exact ⟨S1 ++ T2, T2, List.Perm.refl _, List.sublist_append_right _ _, by rw [RpF]; exact ⟨v, r', S1, T2, rfl, rfl, r, h2⟩⟩
    · rw [if_neg hg, if_neg hg]
      obtain ⟨S', S0, pm, sb, q⟩ := RpF.put h2 r
      refine ⟨T1 ++ S', T1 ++ S0, ?_, (List.Sublist.refl T1).append sb, by rw [RpF]; exact ⟨v', _, T1, S', rfl, rfl, h1, q⟩⟩
      refine ((List.Perm.refl T1).append pm).trans ?_
      rw [← List.append_assoc, ← List.append_assoc]
      exact List.perm_append_comm.append_right _
theorem RpF.length : ∀ {fs : List (Str × D)} {fvs : List (Str × V)} {S : List Addr}, RpF K w F H fs fvs S → fs.length = fvs.length
  | [], _, _, h => by rw [RpF] at h; rw [h.1]; rfl
  | (g, d) :: fs, fvs, S, h => by
    rw [RpF] at h
    obtain ⟨v', r', T1, T2, rfl, rfl, h1, h2⟩ := h
    rw [List.length_cons, List.length_cons, h2.length]
theorem At.setF {c f : Str} {fs : List (Str × D)} (A : At K w F H e σ [d, .obj true c fs] [v, .ref p] S) : ∃ dx fvs T, H p = some (.ins (He.ga K c) dx fvs) ∧ fvs.length = fs.length ∧ At K w F (upd H p (.ins (He.ga K c) dx (putF f v fvs))) e σ [.obj true c (putD f d fs)] [.ref p] T ∧ Step F H S F (upd H p (.ins (He.ga K c) dx (putF f v fvs))) T := by
  obtain ⟨Sd, Se, rfl, h, q, g⟩ := A
  obtain ⟨v', r, S1, S2, e1, rfl, h1, h2⟩ := h.uncons
  cases e1
  obtain ⟨v', r, S2, S3, e1, rfl, h4, h3⟩ := h2.uncons
  cases e1
  obtain rfl := h3.2
  rw [List.append_nil] at g ⊢
  rw [Rp] at h4
  obtain ⟨a, dx, fvs, e1, hp, ⟨_, S4, rfl, r⟩ | ⟨z, _⟩⟩ := h4
  · cases e1
    have pm : (S1 ++ p :: S4).Perm (p :: (S1 ++ S4)) := List.perm_middle
    obtain ⟨T, B, st⟩ := At.wr (o := .ins (He.ga K c) dx (putF f v fvs)) (ds' := [.obj true c (putD f d fs)]) (vs' := [.ref p]) g q pm trivial fun s => by
      have r1 := RpF.stay fs (s.sub fun b hb => List.mem_append_right _ hb) r
      have r2 := Rp.stay d (s.sub fun b hb => List.mem_append_left _ hb) h1
      obtain ⟨S', S0, p1, sb, r3⟩ := r1.put (f := f) r2
      refine ⟨p :: S', p :: (S1 ++ S0), p1.cons _, ((List.Sublist.refl S1).append sb).cons₂ _, ?_⟩
      have z : Rp K w F (upd H p (.ins (He.ga K c) dx (putF f v fvs))) (.obj true c (putD f d fs)) (.ref p) (p :: S') := by
        rw [Rp]
        exact ⟨p, dx, _, rfl, upd_same, .inl ⟨rfl, _, rfl, r3⟩⟩
      have z2 := RpL.cons z RpL.nil
      rw [List.append_nil] at z2
      exact z2
    exact ⟨dx, fvs, T, hp, r.length.symm, B, st⟩
  · cases z
end
end Pl
set_option Elab.async false
set_option linter.all false
set_option maxRecDepth 100000
set_option maxHeartbeats 1000000
/-! Pl: statements that write. -/
namespace Pl
open PySem PySem.Spec PyProof.Rows L2

def mFldSet (cs : List Str) (i : Nat) (f : Str) (m : M D) : M Fl := fun e => (m e).bind fun d e1 => match e1[i]? with
  | some (some (.obj true c fs)) => if cs.contains c = true ∧ fs.length < 1000 then .ok .next (e1.set i (some (.obj true c (putD f d fs)))) else .fail
  | _ => .fail
def mIxSet (i : Nat) (k : Int) (m : M D) : M Fl := fun e => (m e).bind fun d e1 => match e1[i]? with
  | some (some (.lst true xs)) => match ixN xs.length k with
    | some j => .ok .next (e1.set i (some (.lst true (xs.set j d))))
    | none => .fail
  | _ => .fail
section
variable {X : Cx} {pn : Option V} {W : WX} {value : Expr} {x f : Str} {px p' pos : Pos} {m : M D}
/-- x.f = e -/
theorem dS_fld {cs : List Str} (i : Nat) (hc : FldF X.K cs f) (hx : PE X (.Name x px) (tVar i)) (he : PE X value (tE X W m)) (hs : swapsWith value (some (.Attribute (.Name x px) f p')) pos.line X.env = pure false := by rfl) :
    PS X (.Assign [.Attribute (.Name x px) f p'] value pos) (tS X pn W (mFldSet cs i f m)) := PSimp (ps_fld hx he hs) fun Dd σ H q => by
  obtain ⟨F, e, S, A, p, q⟩ := q
  refine tE_mono (stE A p (Step.refl A.good) q) fun v H' z => ?_
  obtain ⟨d, F2, e2, S2, st, B, k⟩ := z
  split at k
  · rename_i c fs he
    split at k
    · rename_i hcs
      have hl := lt_of_get he
      obtain ⟨u, T, hv, C, st2⟩ := B.out he
      obtain ⟨T2, C2, st3⟩ := C.swap
      have hu : ∃ a, u = .ref a := by
        obtain ⟨Sd, Se, _, hd, _, _⟩ := C
        obtain ⟨v', r, S1, S2', e1, _, h1, _⟩ := hd.uncons
        cases e1
        rw [Rp] at h1
        obtain ⟨a, _, _, rfl, _⟩ := h1
        exact ⟨a, rfl⟩
      obtain ⟨a, rfl⟩ := hu
      obtain ⟨dx, fvs, T3, hH, hln, C3, st4⟩ := C2.setF (f := f)
      obtain ⟨T5, C5, st5⟩ := C3.back (set_none hl) hv
      rw [List.set_set] at C5
      exact ⟨_, hv, a, _, dx, fvs, rfl, hH, (hc.ok c hcs.1).1, (hc.ok c hcs.1).2, by rw [hln]; exact hcs.2, k σ F2 _ T5 ((((st.trans st2).trans st3).trans st4).trans st5) C5 p⟩
    · exact k.elim
  · exact k.elim
/-- x[k] = e -/
theorem dS_ixc {k : Int} {j : Nat} {pk p2 : Pos} (i : Nat) (hx : PE X (.Name x px) (tVar i)) (he : PE X value (tE X W m)) (hs : swapsWithSole [.Subscript (.Name x px) (.Constant (.int k) j pk) p2] value pos.line X.env = pure false := by rfl) (hw : swappedStores [.Subscript (.Name x px) (.Constant (.int k) j pk) p2] value X.env = pure none := by rfl)
    (h1 : (assignEach [.Subscript (.Name x px) (.Constant (.int k) j pk) p2] X.env).map (·.2) = [assign (.Subscript (.Name x px) (.Constant (.int k) j pk) p2) X.env] := by rfl)
    (ha : ∀ v, assign (.Subscript (.Name x px) (.Constant (.int k) j pk) p2) X.env v = (do
      let ov ← holding [v] (eval (.Name x px) X.env)
      let iv ← holding [v, ov] (eval (.Constant (.int k) j pk) X.env)
      standAt p2
      holding [v, ov, iv] (setItem ov iv v)
      release [v, ov, iv] []) := by intro _; rfl) :
    PS X (.Assign [.Subscript (.Name x px) (.Constant (.int k) j pk) p2] value pos) (tS X pn W (mIxSet i k m)) := PSimp (ps_asg he (pg_sub hx pe_int set_list ha) hs hw h1) fun Dd σ H q => by
  obtain ⟨F, e, S, A, p, q⟩ := q
  refine tE_mono (stE A p (Step.refl A.good) q) fun v H' z => ?_
  obtain ⟨d, F2, e2, S2, st, B, k⟩ := z
  split at k
  · rename_i xs he
    split at k
    · rename_i jj hj
      have hl := lt_of_get he
      obtain ⟨u, T, hv, C, st2⟩ := B.out he
      have hu : ∃ a, u = .ref a := by
        obtain ⟨Sd, Se, _, hd, _, _⟩ := C
        obtain ⟨v', r, S1, S2', e1, _, h1, _⟩ := hd.uncons
        cases e1
        rw [Rp] at h1
        obtain ⟨a, _, rfl, _⟩ := h1
        exact ⟨a, rfl⟩
      obtain ⟨a, rfl⟩ := hu
      obtain ⟨T2, C2, st3⟩ := C.swap
      have hjl : jj < xs.length := by exact (ixN_seq hj).2.1
      obtain ⟨us, T3, hH, hln, C3, st4⟩ := C2.setAt hjl
      obtain ⟨T5, C5, st5⟩ := C3.back (set_none hl) hv
      rw [List.set_set] at C5
      exact ⟨_, hv, a, us, _, jj, rfl, rfl, hH, by rw [hln]; exact hj, k σ F2 _ T5 ((((st.trans st2).trans st3).trans st4).trans st5) C5 p⟩
    · exact k.elim
  · exact k.elim
end

/-! ### lists' methods -/
def isLst (e : Env) (i : Nat) : Bool := match e[i]? with
  | some (some (.lst _ _)) => true
  | _ => false
def mApp (i : Nat) (m : M D) : M D := fun e => if isLst e i = true then (m e).bind fun d e1 => match e1[i]? with
    | some (some (.lst true xs)) => if xs.length < sizeLine then .ok .non (e1.set i (some (.lst true (xs ++ [d])))) else .fail
    | _ => .fail
  else .fail
/-- x.extend(e): a list's items, from now on frozen -/
def mExt (i : Nat) (m : M D) : M D := fun e => if isLst e i = true then (m e).bind fun d e1 => match d.frz, e1[i]? with
    | .lst _ ys, some (some (.lst true xs)) => if xs.length + ys.length ≤ sizeLine then .ok .non (e1.set i (some (.lst true (xs ++ ys)))) else .fail
    | _, _ => .fail
  else .fail
def mPop (i : Nat) : M D := fun e => match e[i]? with
  | some (some (.lst true xs)) => match xs.getLast? with
    | some d => .ok d (e.set i (some (.lst true xs.dropLast)))
    | none => .fail
  | _ => .fail
theorem isLst_get {e : Env} {i : Nat} (h : isLst e i = true) : ∃ m xs, e[i]? = some (some (.lst m xs)) := by
  unfold isLst at h
  split at h
  · exact ⟨_, _, by assumption⟩
  · cases h
section
variable {X : Cx} {W : WX} {a : Expr} {es : List Expr} {x : Str} {px apos pos : Pos} {m : M D}
theorem At.isRef {K : PySem.W.Frag} {w : World} {F : Fset} {H : Hp} {e : Env} {σ : L2.St} {m : Bool} {xs ds : List D} {u : V} {vs : List V} {S : List Addr} (C : At K w F H e σ (.lst m xs :: ds) (u :: vs) S) : ∃ a us, u = .ref a ∧ H a = some (.lst us) ∧ us.length = xs.length := by
  obtain ⟨Sd, Se, _, hd, _, _⟩ := C
  obtain ⟨v', r, S1, S2', e1, _, h1, _⟩ := hd.uncons
  cases e1
  obtain ⟨a, us, S', rfl, h, r⟩ := h1.lst
  exact ⟨a, us, rfl, h, r.length.symm⟩
theorem At.lstAt {K : PySem.W.Frag} {w : World} {F : Fset} {H : Hp} {e : Env} {σ : L2.St} {ds : List D} {vs : List V} {S : List Addr} {m : Bool} {xs : List D} {i : Nat} (A : At K w F H e σ ds vs S) (h : e[i]? = some (some (.lst m xs))) : ∃ a us, σ[i]? = some (some (.ref a)) ∧ H a = some (.lst us) := by
  obtain ⟨v, S1, hv, r⟩ := A.peek h
  obtain ⟨a, us, S', rfl, hH, _⟩ := r.lst
  exact ⟨a, us, hv, hH⟩
/-- x.append(e) -/
theorem dE_app (i : Nat) (hx : PE X (.Name x px) (tVar i)) (ha : PE X a (tE X W m)) (hb : attributeBase (.Name x px) "append" X.env (eval (.Name x px) X.env) = eval (.Name x px) X.env := by rfl)
    (hfew : ((backTo pos (starEach [a] X.env)).all (fun x => !x.1) && (backToKw pos (keywordEach [] X.env)).all (fun x => x.1.isSome)
      && decide (([a] : List Expr).length + ([] : List Keyword).length + (if ([] : List Keyword).isEmpty then 0 else 1) < 30)) = true := by rfl)
    (hline : (apos.endLine == pos.line) = true := by rfl) (hs : starEach [a] X.env = (false, eval a X.env) :: starEach [] X.env := by rfl) :
    PE X (.Call (.Attribute (.Name x px) "append" apos) [a] [] pos) (tE X W (mApp i m)) := PEimp (pe_bm PySem.F.plainAttrs_list PySem.F.slot_list_append PySem.F.type_list_append mt_append hx (pa_cons ha pa_nil hs) hb hfew hline hs rfl) fun σ H Q q => by
  obtain ⟨F, e, S, A, q⟩ := q
  unfold mApp at q
  split at q
  · rename_i hl
    obtain ⟨mm, xs0, h0⟩ := isLst_get hl
    obtain ⟨a, us, hv, hH⟩ := A.lstAt h0
    refine ⟨_, hv, .inl ⟨rfl, us, SqL.of hH⟩, ?_⟩
    obtain ⟨F1, e1, S1, A1, q1⟩ := bindE A (Step.refl A.good) q
    refine ⟨F1, e1, S1, A1, q1.mono fun x e2 k v F' H' S' st B => ?_⟩
    obtain ⟨d1, F2, e3, S2, st2, A2, q2⟩ := k v F' H' S' st B
    split at q2
    · rename_i xs he
      split at q2
      · rename_i hz
        obtain ⟨u, T, hv', C, st3⟩ := A2.out he
        rw [hv] at hv'; cases hv'
        obtain ⟨T2, C2, st4⟩ := C.swap
        obtain ⟨us', T3, hH', hln, C3, st5⟩ := C2.app
        obtain ⟨T4, C4, st6⟩ := C3.back (set_none (lt_of_get he)) hv
        rw [List.set_set] at C4
        refine ⟨a, us', v, rfl, rfl, hH', by rw [hln]; exact hz, ?_⟩
        exact q2 .non F2 _ T4 ((((st2.trans st3).trans st4).trans st5).trans st6) (C4.push0 ⟨rfl, rfl⟩)
      · exact q2.elim
    · exact q2.elim
  · exact q.elim
theorem At.extL {K : PySem.W.Frag} {w : World} {F : Fset} {H : Hp} {e : Env} {σ : L2.St} {S : List Addr} {xs ys : List D} {zs : List V} {p : Addr} (A : At K w F H e σ [.lst true xs] [.ref p] S) (r : RpL K w F H ys zs []) : ∃ us T, H p = some (.lst us) ∧ us.length = xs.length ∧ At K w F (upd H p (.lst (us ++ zs))) e σ [.lst true (xs ++ ys)] [.ref p] T ∧ Step F H S F (upd H p (.lst (us ++ zs))) T := by
  obtain ⟨Sd, Se, rfl, h, q, g⟩ := A
  obtain ⟨v', r', S2, S3, e1, rfl, h4, h3⟩ := h.uncons
  cases e1
  obtain rfl := h3.2
  rw [List.append_nil] at g ⊢
  rw [Rp] at h4
  obtain ⟨a, us, e1, ⟨_, hp, S4, rfl, r1⟩ | ⟨z, _⟩⟩ := h4
  · cases e1
    obtain ⟨T, B, st⟩ := At.wr (o := .lst (us ++ zs)) (ds' := [.lst true (xs ++ ys)]) (vs' := [.ref p]) g q (List.Perm.refl _) trivial fun s => by
      have r2 := (RpL.stay xs s r1).append (RpL.stay ys (s.sub fun b hb => absurd hb List.not_mem_nil) r)
      rw [List.append_nil] at r2
      refine ⟨p :: S4, p :: S4, List.Perm.refl _, List.Sublist.refl _, ?_⟩
      have z : Rp K w F (upd H p (.lst (us ++ zs))) (.lst true (xs ++ ys)) (.ref p) (p :: S4) := by
        rw [Rp]
        exact ⟨p, _, rfl, .inl ⟨rfl, upd_same, _, rfl, r2⟩⟩
      have z2 := RpL.cons z RpL.nil
      rw [List.append_nil] at z2
      exact z2
    exact ⟨us, T, hp, r1.length.symm, B, st⟩
  · cases z
theorem dE_ext (i : Nat) (hx : PE X (.Name x px) (tVar i)) (ha : PE X a (tE X W m)) (hb : attributeBase (.Name x px) "extend" X.env (eval (.Name x px) X.env) = eval (.Name x px) X.env := by rfl)
    (hfew : ((backTo pos (starEach [a] X.env)).all (fun x => !x.1) && (backToKw pos (keywordEach [] X.env)).all (fun x => x.1.isSome)
      && decide (([a] : List Expr).length + ([] : List Keyword).length + (if ([] : List Keyword).isEmpty then 0 else 1) < 30)) = true := by rfl)
    (hline : (apos.endLine == pos.line) = true := by rfl) (hs : starEach [a] X.env = (false, eval a X.env) :: starEach [] X.env := by rfl) :
    PE X (.Call (.Attribute (.Name x px) "extend" apos) [a] [] pos) (tE X W (mExt i m)) := PEimp (pe_bm PySem.F.plainAttrs_list PySem.F.slot_list_extend PySem.F.type_list_extend mt_extend hx (pa_cons ha pa_nil hs) hb hfew hline hs rfl) fun σ H Q q => by
  obtain ⟨F, e, S, A, q⟩ := q
  unfold mExt at q
  split at q
  · rename_i hl
    obtain ⟨mm, xs0, h0⟩ := isLst_get hl
    obtain ⟨a, us, hv, hH⟩ := A.lstAt h0
    refine ⟨_, hv, .inl ⟨rfl, us, SqL.of hH⟩, ?_⟩
    obtain ⟨F1, e1, S1, A1, q1⟩ := bindE A (Step.refl A.good) q
    refine ⟨F1, e1, S1, A1, q1.mono fun x e2 k v F' H' S' st B => ?_⟩
    obtain ⟨d1, F2, e3, S2, st2, A2, q2⟩ := k v F' H' S' st B
    split at q2
    · rename_i my ys xs hd he
      split at q2
      · rename_i hz
        obtain ⟨F3, T3, st3, r3, A3⟩ := A2.freeze
        rw [hd] at r3
        rw [Rp] at r3
        obtain ⟨b, zs, rfl, ⟨_, _, S5, e5, _⟩ | ⟨_, hb, _, r4⟩⟩ := r3
        · cases e5
        · obtain ⟨u, T, hv', C, st4⟩ := A3.out he
          rw [hv] at hv'; cases hv'
          obtain ⟨us', T5, hH', hln, C3, st5⟩ := C.extL r4
          obtain ⟨T6, C4, st6⟩ := C3.back (set_none (lt_of_get he)) hv
          rw [List.set_set] at C4
          refine ⟨a, b, us', zs, rfl, rfl, hH', hb.2, by rw [hln, ← r4.length]; exact hz, ?_⟩
          exact q2 .non F3 _ T6 ((((st2.trans st3).trans st4).trans st5).trans st6) (C4.push0 ⟨rfl, rfl⟩)
      · exact q2.elim
    · exact q2.elim
  · exact q.elim
theorem At.popL {K : PySem.W.Frag} {w : World} {F : Fset} {H : Hp} {e : Env} {σ : L2.St} {S : List Addr} {xs : List D} {d : D} {p : Addr} (A : At K w F H e σ [.lst true xs] [.ref p] S) (hd : xs.getLast? = some d) : ∃ us y T, H p = some (.lst us) ∧ us[us.length - 1]? = some y ∧ At K w F (upd H p (.lst us.dropLast)) e σ [d, .lst true xs.dropLast] [y, .ref p] T ∧ Step F H S F (upd H p (.lst us.dropLast)) T := by
  obtain ⟨Sd, Se, rfl, h, q, g⟩ := A
  obtain ⟨v', r', S2, S3, e1, rfl, h4, h3⟩ := h.uncons
  cases e1
  obtain rfl := h3.2
  rw [List.append_nil] at g ⊢
  rw [Rp] at h4
  obtain ⟨a, us, e1, ⟨_, hp, S4, rfl, r1⟩ | ⟨z, _⟩⟩ := h4
  · cases e1
    have ex : xs = xs.dropLast ++ [d] := by
      obtain ⟨ys, rfl⟩ := List.getLast?_eq_some_iff.mp hd
      rw [List.dropLast_concat]
    rw [ex] at r1
    obtain ⟨vs1, vs2, T1, T2, rfl, rfl, h5, h6⟩ := RpL.split r1
    obtain ⟨y, r', T3, T4, rfl, rfl, h7, h8⟩ := h6.uncons
    obtain ⟨rfl, rfl⟩ := h8
    rw [List.append_nil] at g ⊢
    have dl : (vs1 ++ [y]).dropLast = vs1 := List.dropLast_concat
    obtain ⟨T, B, st⟩ := At.wr (o := .lst (vs1 ++ [y]).dropLast) (ds' := [d, .lst true xs.dropLast]) (vs' := [y, .ref p]) g q (List.Perm.refl _) trivial fun s => by
      have r2 := RpL.stay _ (s.sub fun b hb => List.mem_append_left _ hb) h5
      have r3 := Rp.stay d (s.sub fun b hb => List.mem_append_right _ hb) h7
      refine ⟨T3 ++ (p :: T1), p :: (T1 ++ T3), ?_, List.Sublist.refl _, ?_⟩
      · exact List.perm_append_comm
      · have z : Rp K w F (upd H p (.lst (vs1 ++ [y]).dropLast)) (.lst true xs.dropLast) (.ref p) (p :: T1) := by
          rw [Rp]
          exact ⟨p, _, rfl, .inl ⟨rfl, upd_same, _, rfl, by rw [dl]; rw [dl] at r2; exact r2⟩⟩
        have z2 := RpL.cons r3 (RpL.cons z RpL.nil)
        rw [List.append_nil] at z2
        exact z2
    exact ⟨vs1 ++ [y], y, T, hp, by simp, B, st⟩
  · cases z
theorem dE_pop (i : Nat) (hx : PE X (.Name x px) (tVar i)) (hb : attributeBase (.Name x px) "pop" X.env (eval (.Name x px) X.env) = eval (.Name x px) X.env := by rfl) (hline : (apos.endLine == pos.line) = true := by rfl) :
    PE X (.Call (.Attribute (.Name x px) "pop" apos) [] [] pos) (tE X W (mPop i)) := PEimp (pe_bm0 PySem.F.plainAttrs_list PySem.F.slot_list_pop PySem.F.type_list_pop mt_pop hx hb hline) fun σ H Q q => by
  obtain ⟨F, e, S, A, q⟩ := q
  unfold mPop at q
  split at q
  · rename_i xs he
    split at q
    · rename_i d hd
      obtain ⟨u, T, hv, C, st4⟩ := A.out he
      obtain ⟨a, us, rfl, hH, _⟩ := C.isRef
      obtain ⟨us', y, T5, hH', hy, C3, st5⟩ := C.popL hd
      obtain ⟨T6, C4, st6⟩ := C3.swap
      obtain ⟨T7, C5, st7⟩ := C4.back (set_none (lt_of_get he)) hv
      rw [List.set_set] at C5
      exact ⟨_, hv, .inl ⟨rfl, us, SqL.of hH⟩, a, us', y, rfl, rfl, hH', hy, q y F _ T7 (((st4.trans st5).trans st6).trans st7) C5⟩
    · exact q.elim
  · exact q.elim
end

/-! ### the drawer's list: x[1] is a list of ints held in the list x -/
def cellsOf : D → Option (List D × Int)
  | .lst true [.int _, .lst true cs, .int c] => if D.fzL cs = true then some (cs, c) else none
  | _ => none
/-- x[1] + [0] -/
def mCat (i : Nat) (k : Int) : M D := fun e => match e[i]? with
  | some (some d) => match cellsOf d with
    | some (cs, _) => if cs.length < sizeLine then .ok (.lst true (cs ++ [.int k])) e else .fail
    | none => .fail
  | _ => .fail
/-- len(x[1]) -/
def mLen1 (i : Nat) : M D := fun e => match e[i]? with
  | some (some d) => match cellsOf d with
    | some (cs, _) => .ok (.int cs.length) e
    | none => .fail
  | _ => .fail
/-- x[1][int(x[2]) % len(x[1])] = e -/
def mCellSet (i : Nat) (m : M D) : M Fl := fun e => (m e).bind fun d e1 => match e1[i]? with
  | some (some (.lst true [.int a, .lst true cs, .int c])) => if D.fzL cs = true ∧ 0 < cs.length then .ok .next (e1.set i (some (.lst true [.int a, .lst true (cs.set (c % cs.length).toNat d), .int c]))) else .fail
  | _ => .fail
section
variable {X : Cx} {pn : Option V} {W : WX} {x : Str} {px p1 p2 p3 p4 p5 p6 p7 p8 p9 pos : Pos} {m : M D} {j1 j2 j3 : Nat}
theorem cells_at {K : PySem.W.Frag} {w : World} {F : Fset} {H : Hp} {d : D} {v : V} {S : List Addr} {cs : List D} {c : Int} (h : cellsOf d = some (cs, c)) (r : Rp K w F H d v S) : ∃ a b us, v = .ref a ∧ (∃ n : Int, H a = some (.lst [.int n, .ref b, .int c])) ∧ H b = some (.lst us) ∧ RpL K w F H cs us [] := by
  unfold cellsOf at h
  split at h
  · rename_i n cs' c'
    split at h
    · rename_i z
      cases h
      obtain ⟨a, us, S', rfl, hH, r1⟩ := r.lst
      obtain ⟨v1, r', S1, S2, rfl, rfl, h1, h2⟩ := r1.uncons
      obtain ⟨v2, r', S3, S4, rfl, rfl, h3, h4⟩ := h2.uncons
      obtain ⟨v3, r', S5, S6, rfl, rfl, h5, h6⟩ := h4.uncons
      obtain ⟨rfl, _⟩ := h6
      obtain ⟨b, us, S7, rfl, hb, r2⟩ := h3.lst
      obtain rfl := h1.1
      obtain rfl := h5.1
      exact ⟨a, b, us, rfl, ⟨n, hH⟩, hb, r2.fzs z⟩
    · cases h
  · cases h
theorem pe_x1 (hx : PE X (.Name x px) (tVar i)) : PE X (.Subscript (.Name x px) (.Constant (.int k) j1 p1) p2) (tOp (rIx X.K) (tVar i) (tC (.int k))) := pe_ix ix_seq hx pe_int (fun _ _ => rfl)
end
end Pl
set_option Elab.async false
set_option linter.all false
set_option maxRecDepth 100000
set_option maxHeartbeats 1000000
/-! Pl: the drawer's own list. -/
namespace Pl
open PySem PySem.Spec PyProof.Rows L2
theorem At.cell {K : PySem.W.Frag} {w : World} {F : Fset} {H : Hp} {e : Env} {σ : L2.St} {S : List Addr} {cs : List D} {d : D} {v : V} {n c : Int} {a : Addr} {j : Nat} (A : At K w F H e σ [d, .lst true [.int n, .lst true cs, .int c]] [v, .ref a] S) (hj : j < cs.length) :
    ∃ b us T, H a = some (.lst [.int n, .ref b, .int c]) ∧ H b = some (.lst us) ∧ us.length = cs.length ∧ At K w F (upd H b (.lst (us.set j v))) e σ [.lst true [.int n, .lst true (cs.set j d), .int c]] [.ref a] T ∧ Step F H S F (upd H b (.lst (us.set j v))) T := by
  obtain ⟨Sd, Se, rfl, h, q, g⟩ := A
  obtain ⟨v', r, S1, S2, e1, rfl, h1, h2⟩ := h.uncons
  cases e1
  obtain ⟨v', r, S2, S3, e1, rfl, h4, h3⟩ := h2.uncons
  cases e1
  obtain rfl := h3.2
  rw [List.append_nil] at g ⊢
  rw [Rp] at h4
  obtain ⟨a', us0, e1, ⟨_, hp, S4, rfl, r⟩ | ⟨z, _⟩⟩ := h4
  · cases e1
    obtain ⟨v1, r', T1, T2, rfl, rfl, k1, k2⟩ := r.uncons
    obtain ⟨v2, r', T3, T4, rfl, rfl, k3, k4⟩ := k2.uncons
    obtain ⟨v3, r', T5, T6, rfl, rfl, k5, k6⟩ := k4.uncons
    obtain ⟨rfl, rfl⟩ := k6
    obtain ⟨rfl, rfl⟩ := k1
    obtain ⟨rfl, rfl⟩ := k5
    rw [Rp] at k3
    obtain ⟨b, us, rfl, ⟨_, hb, S5, rfl, rb⟩ | ⟨z, _⟩⟩ := k3
    · simp only [List.nil_append, List.append_nil] at g hp ⊢
      have pm : (S1 ++ a :: b :: S5).Perm (b :: (a :: (S1 ++ S5))) := by
        refine List.perm_middle.trans ?_
        refine ((List.perm_middle (l₁ := S1) (a := b) (l₂ := S5)).cons a).trans ?_
        exact List.Perm.swap _ _ _
      have nb : a ≠ b := by
        intro z
        have := (g.left.perm pm).nd
        rw [z] at this
        exact (List.nodup_cons.mp this).1 List.mem_cons_self
      obtain ⟨T, B, st⟩ := At.wr (a := b) (o := .lst (us.set j v)) (ds' := [.lst true [.int n, .lst true (cs.set j d), .int c]]) (vs' := [.ref a]) g q pm trivial fun s => by
        have r1 := RpL.stay cs (s.sub fun b hb => List.mem_cons_of_mem _ (List.mem_append_right _ hb)) rb
        have r2 := Rp.stay d (s.sub fun b hb => List.mem_cons_of_mem _ (List.mem_append_left _ hb)) h1
        obtain ⟨S', S0, p1, sb, r3⟩ := r1.put r2 hj
        refine ⟨a :: b :: S', b :: a :: (S1 ++ S0), (List.Perm.swap _ _ _).trans ((p1.cons a).cons b), (((List.Sublist.refl S1).append sb).cons₂ a).cons₂ b, ?_⟩
        have zi : Rp K w F (upd H b (.lst (us.set j v))) (.lst true (cs.set j d)) (.ref b) (b :: S') := by
          rw [Rp]
          exact ⟨b, _, rfl, .inl ⟨rfl, upd_same, _, rfl, r3⟩⟩
        have zl : RpL K w F (upd H b (.lst (us.set j v))) [.int n, .lst true (cs.set j d), .int c] [.int n, .ref b, .int c] (b :: S') := by
          have y := RpL.cons (K := K) (w := w) (F := F) (H := upd H b (.lst (us.set j v))) (S1 := []) (d := .int n) (v := .int n) ⟨rfl, rfl⟩ (RpL.cons zi (RpL.cons (S1 := []) (d := .int c) (v := .int c) ⟨rfl, rfl⟩ RpL.nil))
          simpa using y
        have z : Rp K w F (upd H b (.lst (us.set j v))) (.lst true [.int n, .lst true (cs.set j d), .int c]) (.ref a) (a :: b :: S') := by
          rw [Rp]
          exact ⟨a, _, rfl, .inl ⟨rfl, by rw [upd_ne nb]; exact hp, _, rfl, zl⟩⟩
        have z2 := RpL.cons z RpL.nil
        rw [List.append_nil] at z2
        exact z2
      exact ⟨b, us, T, hp, hb, rb.length.symm, B, st⟩
    · cases z
  · cases z
section
variable {X : Cx} {pn : Option V} {W : WX} {x : Str} {i : Nat} {px px2 px3 p1 p2 p3 p4 p5 p6 p7 p8 p9 q1 q2 q3 q4 q5 q6 pos : Pos} {m : M D} {j1 j2 j3 : Nat} {k : Int}
/-- x[1] + [k] -/
theorem dE_cat (i : Nat) (hx : PE X (.Name x px) (tVar i)) (hs : starEach [.Constant (.int k) j2 p4] X.env = (false, eval (.Constant (.int k) j2 p4) X.env) :: starEach [] X.env := by rfl) : PE X (.BinOp (.Subscript (.Name x px) (.Constant (.int 1) j1 p1) p2) .Add (.List [.Constant (.int k) j2 p4] p5) p6) (tE X W (mCat i k)) :=
  PEimp (pe_op op_cat (pe_x1 hx) (pe_lst (pa_cons pe_int pa_nil hs))) fun σ H Q q => by
  obtain ⟨F, e, S, A, q⟩ := q
  unfold mCat at q
  split at q
  · rename_i d he
    split at q
    · rename_i cs c hc
      split at q
      · rename_i hz
        obtain ⟨v, S1, hv, r⟩ := A.peek he
        obtain ⟨a, b, us, rfl, ⟨n, hH⟩, hb, rc⟩ := cells_at hc r
        refine ⟨_, hv, .inl ⟨a, _, 1, .ref b, rfl, rfl, SqL.of hH, rfl, ?_⟩⟩
        refine ⟨by show 1 ≤ sizeLine; rw [sizeLine_eq]; decide, fun l hl => ?_⟩
        have nb : b ≠ l := ne_of_none hb hl
        refine ⟨b, l, us, [.int k], rfl, rfl, by rw [upd_ne nb]; exact hb, upd_same, by rw [← rc.length]; exact hz, fun p hp => ?_⟩
        have s1 : Step F H [] F (upd H l (.lst [.int k])) [] := Step.new A.good.nil hl
        have s2 : Step F (upd H l (.lst [.int k])) [] F (upd (upd H l (.lst [.int k])) p (.lst (us ++ [.int k]))) [p] := Step.newO s1.good hp trivial
        have rr : RpL X.K X.w F (upd (upd H l (.lst [.int k])) p (.lst (us ++ [.int k]))) (cs ++ [.int k]) (us ++ [.int k]) [] := by
          have ss : Stays F H F (upd (upd H l (.lst [.int k])) p (.lst (us ++ [.int k]))) [] := (Stays.new hl).trans (Stays.new hp)
          have r1 : RpL X.K X.w F (upd (upd H l (.lst [.int k])) p (.lst (us ++ [.int k]))) [.int k] [.int k] [] := RpL.cons (S1 := []) ⟨rfl, rfl⟩ RpL.nil
          exact (RpL.stay _ ss rc).append r1
        obtain ⟨T', st', B⟩ := A.res (d := .lst true (cs ++ [.int k])) (v := .ref p) (s1.trans s2) (by rw [Rp]; exact ⟨p, _, rfl, .inl ⟨rfl, upd_same, [], rfl, rr⟩⟩)
        exact q (.ref p) F _ T' st' B
      · exact q.elim
    · exact q.elim
  · exact q.elim
/-- len(x[1]) -/
theorem dE_len1 (i : Nat) (hm : X.mg "len" = none) (hx : PE X (.Name x px) (tVar i)) (hg : Gl X "len" := by rfl) (hs : starEach [.Subscript (.Name x px) (.Constant (.int 1) j1 p1) p2] X.env = (false, eval (.Subscript (.Name x px) (.Constant (.int 1) j1 p1) p2) X.env) :: starEach [] X.env := by rfl) :
    PE X (.Call (.Name "len" p3) [.Subscript (.Name x px) (.Constant (.int 1) j1 p1) p2] [] pos) (tE X W (mLen1 i)) := PEimp (pe_callB call_lenA hg hm (by decide +kernel) (pa_cons (pe_x1 hx) pa_nil hs) (he := hs)) fun σ H Q q => by
  obtain ⟨F, e, S, A, q⟩ := q
  unfold mLen1 at q
  split at q
  · rename_i d he
    split at q
    · rename_i cs c hc
      obtain ⟨v, S1, hv, r⟩ := A.peek he
      obtain ⟨a, b, us, rfl, ⟨n, hH⟩, hb, rc⟩ := cells_at hc r
      refine ⟨_, hv, .inl ⟨a, _, 1, .ref b, rfl, rfl, SqL.of hH, rfl, ?_⟩⟩
      refine .inl ⟨b, us, rfl, .inl (SqL.of hb), ?_⟩
      rw [← rc.length]
      exact q _ F H S (Step.refl A.good) (A.push0 ⟨rfl, rfl⟩)
    · exact q.elim
  · exact q.elim
/-- the target x[1][int(x[2]) % len(x[1])] -/
theorem dS_cell (i : Nat) {e1 e2 value : Expr} (hm : X.mg "len" = none) (hmi : X.mg "int" = none) (hx : PE X (.Name x px) (tVar i)) (hx2 : PE X (.Name x px2) (tVar i)) (hx3 : PE X (.Name x px3) (tVar i)) (he : PE X value (tE X W m)) (hg : Gl X "len" := by rfl) (hgi : Gl X "int" := by rfl)
    (h1 : e1 = .Subscript (.Name x px) (.Constant (.int 1) j1 p1) p2 := by rfl)
    (h2 : e2 = .BinOp (.Call (.Name "int" p3) [.Subscript (.Name x px2) (.Constant (.int 2) j2 p4) p5] [] p6) .Mod (.Call (.Name "len" p7) [.Subscript (.Name x px3) (.Constant (.int 1) j3 p8) p9] [] q1) q2 := by rfl)
    (hs : swapsWithSole [.Subscript e1 e2 q3] value pos.line X.env = pure false := by rfl) (hw : swappedStores [.Subscript e1 e2 q3] value X.env = pure none := by rfl) (h3 : (assignEach [.Subscript e1 e2 q3] X.env).map (·.2) = [assign (.Subscript e1 e2 q3) X.env] := by rfl)
    (ha : ∀ v, assign (.Subscript e1 e2 q3) X.env v = (do
      let ov ← holding [v] (eval e1 X.env)
      let iv ← holding [v, ov] (eval e2 X.env)
      standAt q3
      holding [v, ov, iv] (setItem ov iv v)
      release [v, ov, iv] []) := by intro _; rfl)
    (hs2 : starEach [.Subscript (.Name x px2) (.Constant (.int 2) j2 p4) p5] X.env = (false, eval (.Subscript (.Name x px2) (.Constant (.int 2) j2 p4) p5) X.env) :: starEach [] X.env := by rfl)
    (hs3 : starEach [.Subscript (.Name x px3) (.Constant (.int 1) j3 p8) p9] X.env = (false, eval (.Subscript (.Name x px3) (.Constant (.int 1) j3 p8) p9) X.env) :: starEach [] X.env := by rfl) :
    PS X (.Assign [.Subscript e1 e2 q3] value pos) (tS X pn W (mCellSet i m)) := by
  subst h1 h2
  refine PSimp (ps_asg he (pg_sub (pe_x1 hx) (pe_op op_mod (pe_callTy call_int1 hgi hmi (by decide +kernel) (pa_cons (pe_x1 hx2) pa_nil hs2) (he := hs2)) (pe_callB call_lenA hg hm (by decide +kernel) (pa_cons (pe_x1 hx3) pa_nil hs3) (he := hs3))) set_list ha) hs hw h3) fun Dd σ H q => ?_
  obtain ⟨F, e, S, A, p, q⟩ := q
  refine tE_mono (stE A p (Step.refl A.good) q) fun v H' z => ?_
  obtain ⟨d, F2, e2, S2, st, B, k⟩ := z
  split at k
  · rename_i n cs c hee
    split at k
    · rename_i hz
      have hc : cellsOf (.lst true [.int n, .lst true cs, .int c]) = some (cs, c) := by rw [cellsOf, if_pos hz.1]
      obtain ⟨u, S1, hv, r⟩ := B.peek hee
      obtain ⟨a, b, us, rfl, ⟨n', hH⟩, hb, rc⟩ := cells_at hc r
      have hlen : (0 : Int) < us.length := by rw [← rc.length]; have := hz.2; omega
      refine ⟨_, hv, .inl ⟨a, _, 1, .ref b, rfl, rfl, SqL.of hH, rfl, ?_⟩⟩
      refine ⟨_, hv, .inl ⟨a, _, 2, .int c, rfl, rfl, SqL.of hH, rfl, ?_⟩⟩
      refine .inl ⟨c, rfl, ?_⟩
      refine ⟨_, hv, .inl ⟨a, _, 1, .ref b, rfl, rfl, SqL.of hH, rfl, ?_⟩⟩
      refine .inl ⟨b, us, rfl, .inl (SqL.of hb), ?_⟩
      refine ⟨c, us.length, rfl, rfl, hlen, ?_⟩
      have hm0 : 0 ≤ c % (us.length : Int) := Int.emod_nonneg _ (by omega)
      have hm1 : c % (us.length : Int) < us.length := Int.emod_lt_of_pos _ hlen
      refine ⟨b, us, _, (c % (us.length : Int)).toNat, rfl, rfl, hb, ?_, ?_⟩
      · unfold ixN
        rw [if_pos hm0, if_pos hm1]
      · obtain ⟨u', T, hv', C, st2⟩ := B.out hee
        rw [hv] at hv'; cases hv'
        obtain ⟨T2, C2, st3⟩ := C.swap
        have ej : (c % (cs.length : Int)).toNat < cs.length := by rw [rc.length]; omega
        obtain ⟨b', us', T3, hH', hb', hl', C3, st4⟩ := C2.cell ej
        rw [hH] at hH'
        cases hH'
        rw [hb] at hb'
        cases hb'
        obtain ⟨T4, C4, st5⟩ := C3.back (set_none (lt_of_get hee)) hv
        rw [List.set_set] at C4
        rw [← rc.length] at *
        exact k σ F2 _ T4 ((((st.trans st2).trans st3).trans st4).trans st5) C4 p
    · exact k.elim
  · exact k.elim
end
end Pl
set_option Elab.async false
set_option linter.all false
set_option maxRecDepth 100000
set_option maxHeartbeats 1000000
/-! Pl: sorted(set(texts)). The road of the library's sets of ints, for texts. -/
namespace PlS
open PySem PySem.Spec PyProof.Rows L2
abbrev strKind := PySem.strKind
theorem isStr (P : Program) (w : World) (k : Str) (tk : Tok) : (strKind P w).is k (.str k tk) = true := by
  first
    | exact Value.isStrOf_self k tk
    | simp [strKind, PySem.strKind, Value.isStrOf]
theorem isStr_iff (P : Program) (w : World) (k0 k : Str) (tk : Tok) : (strKind P w).is k (.str k0 tk) = true ↔ k0 = k := by
  constructor
  · intro h
    obtain ⟨t, e⟩ := Value.isStrOf_shape (show Value.isStrOf k (.str k0 tk) = true from h)
    cases e; rfl
  · rintro rfl
    exact isStr P w k0 tk
/-! ### what a set of texts is -/
def keyOf (e : Int × Value) : Str := match e.2 with | .str k _ => k | _ => Str.empty
def GoodE (w : World) (e : Int × Value) : Prop := ∃ k tk, e.2 = Value.str k tk ∧ e.1 = hashStr w k

/-- the set of texts at a: S its members, n their number; its table rises and can be walked -/
def SetR (w : World) (h : Heap) (a : Addr) (S : Str → Bool) (n : Nat) : Prop :=
  ∃ o es ep t, h.get? a = some o ∧ o.ExactSet ∧ o.data = .set es ep t ∧ (∀ e ∈ es.toList, GoodE w e) ∧ (es.toList.map keyOf).Nodup ∧ (∀ k, S k = true ↔ k ∈ es.toList.map keyOf) ∧
    es.size < scanBound ∧ t.fits es.size = true ∧ es.size = n ∧ Ris t.place.toList ∧ (w.params.followText "set-order" = true ∨ t.led = true)

section
variable {P : Program} {w : World} {h h' : Heap} {a : Addr} {S : Str → Bool} {n : Nat}

theorem SetR.at (R : SetR w h a S n) (k : ∀ o, h.get? a = some o → h'.get? a = some o) : SetR w h' a S n := by
  obtain ⟨o, es, ep, t, ho, r⟩ := R
  exact ⟨o, es, ep, t, k o ho, r⟩
theorem SetR.lt (R : SetR w h a S n) : a < h.objs.size := by
  obtain ⟨o, es, ep, t, ho, r⟩ := R
  exact Heap.lt_size ho
theorem SetR.congr {S' : Str → Bool} (R : SetR w h a S n) (e : ∀ k, S' k = S k) : SetR w h a S' n := by
  have q : S' = S := funext e
  rw [q]; exact R
theorem good_elems {l : List (Int × Value)} (g : ∀ e ∈ l, GoodE w e) : ElemsOf (strKind P w) l := fun e he => by
  obtain ⟨k, tk, h1, h2⟩ := g e he
  exact ⟨⟨k, by rw [h1]; exact isStr P w k tk, h2⟩, by rw [h1] <;> rfl⟩
theorem good_is {P : Program} {w : World} {e : Int × Value} (g : GoodE w e) (k : Str) : (strKind P w).is k e.2 = true ↔ keyOf e = k := by
  obtain ⟨k0, tk, h1, _⟩ := g
  unfold keyOf
  rw [h1]
  show (((strKind P w).is k (Value.str k0 tk)) = true) ↔ k0 = k
  exact isStr_iff P w k0 k tk
theorem good_mem {l : List (Int × Value)} (g : ∀ e ∈ l, GoodE w e) (k : Str) : k ∈ l.map keyOf ↔ ∃ e ∈ l, (strKind P w).is k e.2 = true := by
  rw [List.mem_map]
  constructor
  · rintro ⟨e, he, q⟩
    exact ⟨e, he, (good_is (g e he) k).2 q⟩
  · rintro ⟨e, he, q⟩
    exact ⟨e, he, (good_is (g e he) k).1 q⟩
theorem SetR.setOf (R : SetR w h a S n) : h.SetOf (strKind P w) a S n := by
  obtain ⟨o, es, ep, t, ho, hx, hd, g, nd, hm, hb, hf, hn, _⟩ := R
  exact ⟨o, es, ep, t, ho, hx, hd, good_elems g, fun k => (hm k).trans (good_mem g k), hb, hf, hn⟩
end

section
variable {P : Program} {w : World} {A : Around} {E : Value → Shared → Prop} {s : Shared} {a : Addr} {S : Str → Bool} {n : Nat}

/-! ### add -/
theorem store_at {h : Heap} {a : Addr} {o : Obj} {es es' : Array (Int × Value)} {ep : Nat} {t t' : SetTable} (ho : h.get? a = some o) (hd : o.data = .set es ep t) :
    (h.update a (Obj.putSet es' t')).get? a = some { o with data := .set es' (ep + 1) t' } := by
  have q := Heap.get?_update_self (Obj.putSet es' t') ho (by rw [putSet_of es' t' hd]; rfl)
  rw [putSet_of es' t' hd] at q
  exact q

theorem setR_add_tail {g : Bool → Sem Unit} (hg : ∀ (b : Bool) (s₁ : Shared) (Q' : Unit → Shared → Prop), Q' () s₁ → wpAny (model P w) A (g b) Q' E s₁)
    {o : Obj} {es : Array (Int × Value)} {ep : Nat} {t : SetTable} (ho : s.heap.get? a = some o) (hex : o.ExactSet) (hd : o.data = .set es ep t)
    {es1 : Array (Int × Value)} {t2 : SetTable} {S' : Str → Bool} (g1 : ∀ e ∈ es1.toList, GoodE w e) (nd1 : (es1.toList.map keyOf).Nodup) (m1 : ∀ k, S' k = true ↔ k ∈ es1.toList.map keyOf)
    (hb1 : es1.size < scanBound) (hf2 : t2.fits es1.size = true) (hr : Ris t2.place.toList) (hl : w.params.followText "set-order" = true ∨ t2.led = true) {wasDummy : Bool} {R : Option Bool → Shared → Prop}
    (hR : ∀ h', Heap.SameBut a s.heap h' → SetR w h' a S' es1.size → R (some true) { s with heap := h' }) :
    wpAny (model P w) A (do
        storeSet a es1 t2
        if (!wasDummy && t2.tooFull) = true then do
            g (relayAll t2 es1 (SetTable.grown es1.size)).2.2
            storeSet a (relayAll t2 es1 (SetTable.grown es1.size)).1 (relayAll t2 es1 (SetTable.grown es1.size)).2.1
            pure (some true)
          else pure (some true)) R E s := by
  refine wpAny_bind (wpAny_storeSet_of ho hd ?_ (fits_of_scanBound hb1))
  have ho1 := store_at (es' := es1) (t' := t2) ho hd
  have sb1 := Heap.SameBut.update s.heap a (Obj.putSet es1 t2)
  split
  · have pm := relayAll_perm t2 es1 (SetTable.grown es1.size)
    have hf3 := relayAll_fits t2 es1 (SetTable.grown es1.size)
    have hr3 := relayAll_ris t2 es1 (SetTable.grown es1.size)
    have hl3 := relayAll_led t2 es1 (SetTable.grown es1.size)
    generalize relayAll t2 es1 (SetTable.grown es1.size) = Z at pm hf3 hr3 hl3 ⊢
    obtain ⟨es2, t3, gave⟩ := Z
    dsimp only at pm hf3 hr3 hl3 ⊢
    have hsz : es2.size = es1.size := by rw [← Array.length_toList, pm.length_eq, Array.length_toList]
    have hb2 : es2.size < scanBound := by rw [hsz]; exact hb1
    refine wpAny_bind (hg _ _ _ ?_)
    refine wpAny_bind (wpAny_storeSet_of ho1 rfl ?_ (fits_of_scanBound hb2))
    have ho2 := store_at (es' := es2) (t' := t3) ho1 rfl
    refine wpAny_pure (hR _ (sb1.trans (Heap.SameBut.update _ a _)) ?_)
    exact ⟨_, es2, _, t3, ho2, hex, rfl, fun e he => g1 e (pm.mem_iff.mp he), (pm.map keyOf).nodup_iff.mpr nd1, fun k => (m1 k).trans (pm.map keyOf).mem_iff.symm, hb2, hf3, hsz, hr3,
      hl.imp id fun z => by rw [hl3]; exact z⟩
  · exact wpAny_pure (hR _ sb1 ⟨_, es1, _, t2, ho1, hex, rfl, g1, nd1, m1, hb1, hf2, rfl, hr, hl⟩)

theorem setR_add_hashed {k : Str} {tk : Tok} {Q : Bool → Shared → Prop} (R : SetR w s.heap a S n) (room : n + 1 < scanBound)
    (hQ : ∀ h', Heap.SameBut a s.heap h' → SetR w h' a (fun j => S j || decide (j = k)) (if S k = true then n else n + 1) → Q (!S k) { s with heap := h' }) :
    wpAny (model P w) A (setAddHashed a (.str k tk) ((strKind P w).hash k)) Q E s := by
  obtain ⟨o, es, ep, t, ho, hex, hd, g, nd, hm, hb, hf, hn, hr, hl⟩ := R
  have hkey : (strKind P w).is k (.str k tk) = true := isStr P w k tk
  have hsc : (Value.str k tk).scannable = true := rfl
  have hel : ElemsOf (strKind P w) es.toList := good_elems g
  unfold setAddHashed setAddHashedIn
  refine wpAny_holding (wpAny_bind (wpAny_setState_of ho hd hf ?_))
  dsimp only
  rw [byScan_of hsc hb hel]
  simp only [↓reduceIte]
  unfold setAddByScan
  refine wpAny_bind ?_
  refine wpAny_bind (wpAny_rule ?_)
  refine wpAny_bind (wpAny_setScan_of hkey ho hd hf hel ?_)
  cases hfi : List.findIdx? (fun e => (strKind P w).is k e.2) es.toList with
  | some j =>
    dsimp only
    obtain ⟨hj, pj, _⟩ := List.findIdx?_eq_some_iff_getElem.mp hfi
    have hSk : S k = true := (hm k).2 ((good_mem (P := P) (w := w) g k).2 ⟨es.toList[j], List.getElem_mem hj, pj⟩)
    refine wpAny_pure (wpAny_pure ?_)
    have q := hQ s.heap (Heap.SameBut.refl a s.heap) ⟨o, es, ep, t, ho, hex, hd, g, nd, fun i => by
      rw [Bool.or_eq_true, decide_eq_true_eq, ← hm i]
      exact ⟨fun z => z.elim id (fun e => e ▸ hSk), .inl⟩, hb, hf, by rw [if_pos hSk]; exact hn, hr, hl⟩
    rw [hSk] at q
    exact q
  | none =>
    dsimp only
    have hnk : k ∉ es.toList.map keyOf := fun z => by
      obtain ⟨e, he, q⟩ := (good_mem (P := P) (w := w) g k).1 z
      have c := List.findIdx?_eq_none_iff.mp hfi e he
      rw [q] at c
      cases c
    have hSk : S k = false := by
      cases q : S k with
      | false => rfl
      | true => exact absurd ((hm k).1 q) hnk
    have hgw : ∀ (b : Bool) {s₁ : Shared} {Q' : Unit → Shared → Prop}, Q' () s₁ → wpAny (model P w) A (match b with | true => rule "set.scan.the-table-gave-way" | false => pure ()) Q' E s₁ :=
      fun b s₁ Q' q => by cases b <;> first | exact wpAny_pure q | exact wpAny_rule q
    have pm := layNew_perm t es ((strKind P w).hash k) (.str k tk)
    have hf1 := layNew_fits t es ((strKind P w).hash k) (.str k tk)
    have hr1 := layNew_ris t es ((strKind P w).hash k) (.str k tk) hr
    have hl1 := layNew_led t es ((strKind P w).hash k) (.str k tk)
    generalize layNew t es ((strKind P w).hash k) (.str k tk) = Z at pm hf1 hr1 hl1 ⊢
    obtain ⟨es1, t1, wasDummy, gave⟩ := Z
    dsimp only at pm hf1 hr1 hl1 ⊢
    rw [Array.toList_push] at pm
    have pc : es1.toList.Perm (((strKind P w).hash k, Value.str k tk) :: es.toList) := pm.trans (List.perm_append_singleton _ _)
    have pk : (es1.toList.map keyOf).Perm (k :: es.toList.map keyOf) := pc.map keyOf
    have g1 : ∀ e ∈ es1.toList, GoodE w e := fun e he => by
      rcases List.mem_cons.mp (pc.mem_iff.mp he) with z | z
      · rw [z]; exact ⟨k, tk, rfl, rfl⟩
      · exact g e z
    have nd1 : (es1.toList.map keyOf).Nodup := pk.nodup_iff.mpr (List.nodup_cons.mpr ⟨hnk, nd⟩)
    have m1 : ∀ i, (S i || decide (i = k)) = true ↔ i ∈ es1.toList.map keyOf := fun i => by
      rw [Bool.or_eq_true, decide_eq_true_eq, hm i, pk.mem_iff, List.mem_cons]
      exact Or.comm
    have hsz : es1.size = n + 1 := by rw [← Array.length_toList, pc.length_eq, List.length_cons, Array.length_toList, hn]
    have hb1 : es1.size < scanBound := by rw [hsz]; exact room
    have hled : w.params.followText "set-order" = true ∨ t1.led = true := hl.imp id fun z => by rw [hl1]; exact z
    have fin : ∀ h', Heap.SameBut a s.heap h' → SetR w h' a (fun j => S j || decide (j = k)) es1.size → Q true { s with heap := h' } := fun h' sb r => by
      have q := hQ h' sb
      rw [hSk] at q
      rw [hsz] at r
      exact q r
    refine wpAny_bind (hgw _ ?_)
    split
    · refine wpAny_bind ?_
      rw [hashByValue_scannable 8 hsc]
      refine wpAny_pure ?_
      refine setR_add_tail ?_ ho hex hd g1 nd1 m1 hb1 ?_ ?_ ?_ ?_
      · intro b s₁ Q' q; cases b <;> first | exact wpAny_pure q | exact wpAny_rule q
      · first | (split <;> first | exact hf1 | exact SetTable.fits_plain_off hf1) | exact hf1
      · first | (split <;> exact hr1) | exact hr1
      · first | (split <;> exact hled) | exact hled
      · intro h' sb r; dsimp only; exact wpAny_pure (fin h' sb r)
    · refine wpAny_bind (wpAny_pure ?_)
      simp only [↓reduceIte]
      refine setR_add_tail ?_ ho hex hd g1 nd1 m1 hb1 hf1 hr1 hled ?_
      · intro b s₁ Q' q; cases b <;> first | exact wpAny_pure q | exact wpAny_rule q
      · intro h' sb r; dsimp only; exact wpAny_pure (fin h' sb r)


end

section
variable {prog : Program} {w : World} {A : Around} {R : Result → Shared → Prop} {I : Addr} {fp wr : List Addr} {G : Array GenState → Array GenState → Prop} {n : Nat} {P : Nat → Value → Prop} {St : Nat → Shared → Prop}
theorem any_take {xs : List Str} {i : Nat} {k : Str} (hi : i < xs.length) : (xs.take (i + 1)).any (· == k) = ((xs.take i).any (· == k) || decide (k = xs.getD i Str.empty)) := by
  have e : xs.take (i + 1) = xs.take i ++ [xs[i]] := by rw [List.take_add_one]; simp [hi]
  have g : xs.getD i Str.empty = xs[i] := by simp [List.getD, hi]
  rw [e, List.any_append, g]
  congr 1
  show (xs[i] == k || false) = decide (k = xs[i])
  rw [Bool.or_false]
  by_cases h : k = xs[i]
  · rw [decide_eq_true h, h]; simp
  · rw [decide_eq_false h]
    exact beq_eq_false_iff_ne.mpr fun z => h z.symm
theorem loopStr (W : WalksS prog w A.in1 I fp wr G n P St) (S : Addr) (hSf : S ∉ fp) (xs : List Str) (hsz : xs.length = n)
    (hval : ∀ i v, P i v → ∃ t, v = .str (xs.getD i Str.empty) t) (hb : n + 1 < scanBound) :
    ∀ (k i : Nat) (s : Shared), n - i = k → i ≤ n → St i s → (∃ m, m ≤ i ∧ SetR w s.heap S (fun k' => (xs.take i).any (· == k')) m) →
      (∀ s', Moved (S :: wr) G s s' → (∃ m, m ≤ n ∧ SetR w s'.heap S (fun k' => (xs.take n).any (· == k')) m) → R (.ok (.ret .none)) s') →
      codeAny (model prog w) A (.builtin "set.update.loop" ⟨[.ref S, .ref I], []⟩) R s := by
  have hSw : S ∉ wr := fun h => hSf (W.sub _ h)
  have hsub : ∀ b ∈ wr, b ∈ S :: wr := fun b hb => List.mem_cons_of_mem _ hb
  intro k
  induction k with
  | zero =>
    intro i s hk hi hst hS hR
    have hin : i = n := by omega
    subst hin
    refine codeAny_builtin PyProof.Rows.F.entry_set_update_loop ?_
    rw [Around.under_plainId PyProof.Rows.F.plain_set_update_loop _]
    show wpAny _ A.in1 (pyNext (.ref I) >>= _) _ _ s
    refine wpAny_bind (W.done s _ _ hst fun s' hm => ?_)
    show wpAny _ A.in1 (ret Value.none) _ _ s'
    obtain ⟨m, hm1, hm2⟩ := hS
    exact wpAny_pure (hR s' (hm.mono hsub) ⟨m, hm1, hm2.at fun o ho => hm.heap S _ hSw ho⟩)
  | succ k ih =>
    intro i s hk hi hst hS hR
    have hlt : i < n := by omega
    refine codeAny_builtin PyProof.Rows.F.entry_set_update_loop ?_
    rw [Around.under_plainId PyProof.Rows.F.plain_set_update_loop _]
    show wpAny _ A.in1 (pyNext (.ref I) >>= _) _ _ s
    refine wpAny_bind (W.item i s _ _ hlt hst fun v s' hP hst' hm => ?_)
    obtain ⟨t, rfl⟩ := hval i v hP
    obtain ⟨m, hm1, hm2⟩ := hS
    have hS' : SetR w s'.heap S (fun k' => (xs.take i).any (· == k')) m := hm2.at fun o ho => hm.heap S _ hSw ho
    show wpAny _ A.in1 (holding [Value.str (xs.getD i Str.empty) t] (setAdd S (.str (xs.getD i Str.empty) t)) >>= _) _ _ s'
    refine wpAny_bind (wpAny_holding ?_)
    unfold setAdd
    refine wpAny_holding ?_
    refine wpAny_bind ((strKind prog w).pyHash (k := xs.getD i Str.empty) (isStr _ _ _ _) ?_)
    refine setR_add_hashed (P := prog) (s := { s' with toks := s'.toks + 1 }) hS' (by omega) fun h' hsb hS2 => ?_
    have hSi : ∃ m', m' ≤ i + 1 ∧ SetR w h' S (fun k' => (xs.take (i + 1)).any (· == k')) m' := by
      refine ⟨_, ?_, hS2.congr fun k' => by rw [any_take (by omega)]⟩
      split <;> omega
    refine wpAny_pure ⟨plainId_quiet PyProof.Rows.F.plain_set_update_loop _, ih (i + 1) _ (by omega) hlt (W.frame _ s' _ _ hst' (Nat.le_succ _) fun b hb o e => ?_) hSi fun s'' hm'' hS'' => ?_⟩
    · rw [hsb.2 b (fun h : b = S => hSf (by rw [← h]; exact hb))]; exact e
    · refine hR s'' (Moved.trans W.gtrans ((hm.mono hsub).then_heap (Nat.le_succ _) fun b o hb e => ?_) hm'') hS''
      rw [hsb.2 b (fun h : b = S => hb (by rw [h]; exact List.mem_cons_self))]; exact e
end
section
variable {prog : Program} {w : World} {A : Around} {E : Value → Shared → Prop} {s : Shared}
theorem code_set_led1 (a : Value) {Q₁ : Value → Shared → Prop}
    (h : Q₁ (.ref s.heap.objs.size) { s with heap := s.heap.push { cls := .type "set", dict := none, data := .set #[] 0 (.fresh 0 0 (!w.params.followText "set-order")) } }) :
    codeAny (model prog w) A (.call (.builtin "set.__new__") ⟨[.type "set", a], []⟩) (wants Q₁ E) s := by
  refine codeAny_of_tree ?_
  show wpAny _ A.in1 (do checkBuiltinCall "set.__new__" ⟨[.type "set", a], []⟩; again (.builtin "set.__new__" ⟨[.type "set", a], []⟩)) _ _ s
  refine wpAny_bind (wpAny_of_eq (PySem.F.newCall_set_1 a) (wpAny_pure ⟨plainId_quiet PySem.F.plain_set_new _, codeAny_builtin PySem.F.entry_set_new ?_⟩))
  rw [Around.under_plainId PySem.F.plain_set_new _]
  unfold Builtin.«set.__new__» Builtin.Frozenset.newClass
  have hsub := sub_set_self
  obtain ⟨hp, g, d, tk, os⟩ := s
  dsimp only
  wp_walk
  refine wpAny_askSetting (wpAny_pure ?_)
  dsimp only
  simp only [newObj]
  refine wpAny_bind (wpAny_alloc (wpAny_pure ?_))
  exact wpAny_pure h
set_option maxHeartbeats 3200000 in
theorem call_set_tupleS {l : Addr} {items : Array Value} {xs : List Str} {Q : Value → Shared → Prop}
    (hh : A.handled = none) (hl : s.heap.IsTuple l items) (hi : PyProof.Rows.StrsAre items.toList xs) (hb : xs.length + 1 < scanBound)
    (h : ∀ (h' : Heap) (tk : Nat), (∃ m, m ≤ xs.length ∧ SetR w h' s.heap.objs.size (fun k' => (xs.take items.size).any (· == k')) m) →
      (∀ b o, b < s.heap.objs.size → s.heap.get? b = some o → h'.get? b = some o) → Q (.ref s.heap.objs.size) { s with heap := h', toks := tk }) :
    wpAny (model prog w) A (call (.type "set") [.ref l]) Q E s := by
  obtain ⟨c, tl, hmro⟩ := PySem.F.called_set.mro
  have hmade := PySem.F.called_set.made
  have hsub := PySem.F.called_set.sub
  refine wpAny_call (codeAny_of_tree ?_)
  show wpAny _ _ (callAny (.type "set") _) _ _ _
  refine wpAny_pure ⟨Code.quiet_builtin _ (by decide +kernel), codeAny_builtin PySem.F.entry_type_call ?_⟩
  rw [Around.under_plain (weight_type_call_type "set" [.ref l] []) rfl]
  have h1 := PySem.F.called_set.notType
  have h2 := PySem.F.called_set.canCreate
  have hct := PySem.F.typeCall_set_1 (.ref l)
  repeat (any_goals (first | assumption | wp_step))

  refine codeAny_mono (code_set_led1 (.ref l) (E := E) (Q₁ := fun obj s₁ => ∃ led : Bool, led = (!w.params.followText "set-order") ∧ obj = .ref s.heap.objs.size ∧ s₁ = { s with heap := s.heap.push { cls := .type "set", dict := none, data := .set #[] 0 (.fresh 0 0 led) } }) ⟨_, rfl, rfl, rfl⟩) fun r s₁ hr => ?_
  cases r with
  | error e => exact hr
  | ok fl =>
    cases fl with
    | ret obj =>
      obtain ⟨led, hled, rfl, rfl⟩ := hr
      have hS : (s.heap.push { cls := .type "set", dict := none, data := .set #[] 0 (.fresh 0 0 led) }).get? s.heap.objs.size = some { cls := .type "set", dict := none, data := .set #[] 0 (.fresh 0 0 led) } := Heap.get?_push_size _ rfl
      have hT : Shared.TypeIs { s with heap := s.heap.push { cls := .type "set", dict := none, data := .set #[] 0 (.fresh 0 0 led) } } (.ref s.heap.objs.size) "set" := ⟨_, hS, rfl⟩
      have hli := PySem.F.called_set.init.lookup
      have hbi := PySem.F.called_set.init.bind (.ref s.heap.objs.size)
      repeat (any_goals (first | assumption | wp_step))

      refine codeAny_mono (codeAny_call_builtin (R := wants (fun r s₂ => r = .none ∧ ∃ h' tk, s₂ = { s with heap := h', toks := tk } ∧
          (∃ m, m ≤ xs.length ∧ SetR w h' s.heap.objs.size (fun k' => (xs.take items.size).any (· == k')) m) ∧
          (∀ b o, b < s.heap.objs.size → s.heap.get? b = some o → h'.get? b = some o)) E) PySem.F.called_set.init.plain PySem.F.entry_set_init (check_set_init_1 hT ?_)) fun r₂ s₂ hr₂ => ?_
      · obtain ⟨ol, hol, hcl, nl, hdl⟩ := hl
        obtain ⟨ocls, odict, odata, oslots⟩ := ol
        simp only at hcl hdl
        subst hcl; subst hdl
        have hol' : (s.heap.push { cls := .type "set", dict := none, data := .set #[] 0 (.fresh 0 0 led) }).get? l = some { cls := .type "tuple", dict := odict, data := .seq items nl, slots := oslots } := Heap.get?_push_of_some _ hol
        have hsls := PySem.F.sub_tuple_set
        have hslf := PySem.F.sub_tuple_frozenset
        have hne : (Value.type "tuple" == Value.type "dict") = false := by decide
        have hl1 : (s.heap.push { cls := .type "set", dict := none, data := .set #[] 0 (.fresh 0 0 led) }).IsTuple l items := ⟨_, hol', rfl, nl, rfl⟩
        unfold Builtin.«set.__init__» noKeywords Builtin.Frozenset.updateFrom
        generalize hPI : pyIter = PI
        wp_walk
        subst hPI

        refine wpAny_pyIter_tuple hl1 ?_
        refine wpAny_bind (wpAny_runValue ?_)
        have hlS : l < s.heap.objs.size := Heap.lt_size hol
        have hh3 : A.in1.in1.in1.handled = none := by simp [hh]
        have hneI : l ≠ (s.heap.push { cls := .type "set", dict := none, data := .set #[] 0 (.fresh 0 0 led) }).objs.size := by
          rw [Heap.size_push]; exact Nat.ne_of_lt (Nat.lt_succ_of_lt hlS)
        have hSf : s.heap.objs.size ∉ [(s.heap.push { cls := .type "set", dict := none, data := .set #[] 0 (.fresh 0 0 led) }).objs.size, l] := by
          rw [Heap.size_push]; simp only [List.mem_cons, List.mem_singleton, List.not_mem_nil, or_false, not_or]
          exact ⟨Nat.ne_of_lt (Nat.lt_succ_self _), Nat.ne_of_gt hlS⟩
        have hsz : xs.length = items.size := by rw [← StrsAre.len_eq hi, Array.length_toList]
        have hval : ∀ (i : Nat) (v : Value), items[i]? = some v → ∃ t, v = .str (xs.getD i Str.empty) t := fun i v hv => SS.strs_at hi i v (by rw [Array.getElem?_toList]; exact hv)
        refine loopStr ((Walks.tuple hh3 _ l hneI items).toS) s.heap.objs.size
          hSf xs hsz hval (by rw [← hsz]; exact hb) (items.size - 0) 0 _ (by omega) (Nat.zero_le _)
          ⟨⟨_, Heap.get?_push_size _ rfl, rfl, rfl⟩, (hl1.push _)⟩ ?hS0 ?hR
        case hS0 =>
          have hget : ((s.heap.push { cls := .type "set", dict := none, data := .set #[] 0 (.fresh 0 0 led) }).push { cls := .type "tuple_iterator", data := .fields #[.ref l, .int 0 0] }).get? s.heap.objs.size
              = some { cls := .type "set", dict := none, data := .set #[] 0 (.fresh 0 0 led) } := Heap.get?_push_of_some _ hS
          refine ⟨0, Nat.le_refl _, ?_⟩
          subst hled
          exact ⟨_, #[], 0, _, hget, ⟨rfl, rfl, rfl⟩, rfl, (fun e he => by simp at he), (by simp), (fun k => by simp), (by decide), (by rfl), rfl, List.Pairwise.nil, by
            show _ ∨ (!w.params.followText "set-order") = true
            cases w.params.followText "set-order"
            · exact .inr rfl
            · exact .inl rfl⟩
        case hR =>
          intro s' hm hS'
          obtain ⟨h', g', d', tk', os'⟩ := s'
          have eg : g' = s.gens := hm.gens
          have ed : d' = s.drawn := hm.drawn
          have eo : os' = s.os := hm.os
          subst eg; subst ed; subst eo
          show wpAny _ _ _ _ _ _
          refine wpAny_pure ?_
          show wpAny _ _ (ret Value.none) _ _ _
          refine wpAny_pure ⟨rfl, h', tk', rfl, (by obtain ⟨m, hm1, hm2⟩ := hS'; rw [← hsz] at hm1 hm2; rw [← hsz]; exact ⟨m, hm1, hm2⟩), fun b o hb e => ?_⟩
          have hb1 : b ≠ s.heap.objs.size := Nat.ne_of_lt hb
          have hb2 : b ≠ (s.heap.push { cls := .type "set", dict := none, data := .set #[] 0 (.fresh 0 0 led) }).objs.size := by
            rw [Heap.size_push]; exact Nat.ne_of_lt (Nat.lt_succ_of_lt hb)
          exact hm.heap b o (by simp only [List.mem_cons, List.mem_singleton, List.not_mem_nil, or_false, not_or]; exact ⟨hb1, hb2⟩) (Heap.get?_push_of_some _ (Heap.get?_push_of_some _ e))

      · cases r₂ with
        | error e => exact hr₂
        | ok fl₂ =>
          cases fl₂ with
          | ret r =>
            obtain ⟨rfl, h', tk, rfl, hS', hk'⟩ := hr₂
            repeat (any_goals (first | assumption | wp_step))
            exact h _ _ hS' hk'
          | _ => exact hr₂.elim
    | _ => exact hr.elim

end
end PlS
set_option Elab.async false
set_option linter.all false
set_option maxRecDepth 100000
set_option maxHeartbeats 1000000
/-! Pl: sorted(set(marks)). -/
namespace PlS
open PySem PySem.Spec PyProof.Rows L2
section
variable {P : Program} {w : World} {A : Around} {E : Value → Shared → Prop} {s : Shared} {a : Addr} {S : Str → Bool} {n : Nat}
theorem strs_of : ∀ (l : List Value), (∀ v ∈ l, ∃ k tk, v = Value.str k tk) → ∃ ss, StrsAre l ss ∧ ss = l.map (fun v => match v with | .str k _ => k | _ => Str.empty)
  | [], _ => ⟨[], .nil, rfl⟩
  | v :: l, h => by
    obtain ⟨k, tk, rfl⟩ := h v List.mem_cons_self
    obtain ⟨ss, h1, h2⟩ := strs_of l fun u hu => h u (List.mem_cons_of_mem _ hu)
    exact ⟨k :: ss, .cons k tk h1, by rw [List.map_cons, ← h2]⟩
theorem sorted_setS {Q : Value → Shared → Prop} (R : SetR w s.heap a S n) (hh : A.handled = none) (hn0 : n ≤ sizeLine)
    (hQ : ∀ s' p (out : Array Value) (c : Nat) (ns : List Str), (∀ b o, s.heap.get? b = some o → s'.heap.get? b = some o) → s'.gens = s.gens → s'.os = s.os → s.heap.objs.size ≤ p →
      s'.heap.get? p = some (seqObj "list" out c) → StrsAre out.toList ns → sortedS ns = true → ns.Nodup → (∀ k, k ∈ ns ↔ S k = true) → ns.length = n → Q (.ref p) s') :
    wpAny (model P w) A (call (.builtin "sorted") [.ref a]) Q E s := by
  obtain ⟨o, es, ep, t, ho, hex, hd, g, nd, hm, hb, hf, hn, hr, hl⟩ := R
  refine Calls.call_function_entry kind_sorted plain_sorted entry_sorted (args_sorted1 _) ?_
  unfold Builtin.«sorted»
  refine wpAny_bind (m := checkCount "sorted" 1 1 _) (wpAny_pure ?_)
  refine wpAny_bind (collect_set (A := A.in1) hh ⟨o, ho, hex.1, hd⟩ hf hb hr hl fun s1 vs k1 hz g1 o1 pm => ?_)
  have hvl : vs.length = n := by rw [pm.length_eq, List.length_map, Array.length_toList]; exact hn
  obtain ⟨ss, hI, hss⟩ := strs_of vs fun v hv => by
    obtain ⟨e, he, q⟩ := List.mem_map.mp (pm.mem_iff.mp hv)
    obtain ⟨k, tk, h1, _⟩ := g e he
    exact ⟨k, tk, by rw [← q]; exact h1⟩
  have pk : ss.Perm (es.toList.map keyOf) := by
    rw [hss]
    have q := pm.map (fun v => match v with | .str k _ => k | _ => Str.empty)
    rw [List.map_map] at q
    exact q
  refine wpAny_bind (wpAny_newList ?_ (by rw [hvl]; exact hn0))
  have hoL : (s1.heap.push (seqObj "list" vs.toArray 0)).get? s1.heap.objs.size = some (seqObj "list" vs.toArray 0) := Heap.get?_push_size _ rfl
  refine wpAny_bind (wpAny_holding (wpAny_call_entry slot_list_sort ⟨_, hoL, rfl⟩ entry_list_sort (list_sort_treeKAny strKind_oneLt hoL hI.keysOf (fun v₁ v₂ rest e => keyKind_strs (by rw [← e]; exact hI)) (by rw [hvl]; exact hn0) fun st' hp hs => ⟨_, rfl, ?_⟩) (args_list_sort _)))
  obtain ⟨ns', a1, a2, a3⟩ := sorted_out_str hI hp hs
  obtain ⟨c, hc⟩ := sortedHeap_at (vs := vs) (out := (arrOf st').map (·.2)) hoL
  have pn : ns'.Perm (es.toList.map keyOf) := a2.trans pk
  refine wpAny_pure ⟨_, rfl, hQ _ s1.heap.objs.size _ c ns' (fun b u e => ?_) g1 o1 hz hc a1 a3 (pn.nodup_iff.mpr nd) (fun k => by rw [pn.mem_iff, ← hm k]) ?_⟩
  · have q := k1 b u e
    have hlt := Heap.lt_size q
    show (sortedHeap (s1.heap.push (seqObj "list" vs.toArray 0)) s1.heap.objs.size vs _).get? b = some u
    rw [sortedHeap_old (Nat.ne_of_lt hlt) (by rw [size_push']; exact Nat.lt_succ_of_lt hlt)]
    exact Heap.get?_push_of_some _ q
  · rw [pn.length_eq, List.length_map, Array.length_toList]; exact hn
end
def abc : List Str := ["a", "b", "c"]
theorem abc_cases {y : Str} (h : y ∈ abc) : y = ("a" : Str) ∨ y = ("b" : Str) ∨ y = ("c" : Str) := by simpa [abc] using h
theorem abc_one : ∀ ys : List Str, ys.Nodup → (∀ y ∈ ys, y ∈ abc) → sortedS ys = true → ys = abc.filter fun m => ys.contains m := by
  have four : ∀ (x y z u : Str), x ∈ abc → y ∈ abc → z ∈ abc → u ∈ abc → [x, y, z, u].Nodup → False := by
    intro x y z u hx hy hz hu
    rcases abc_cases hx with rfl | rfl | rfl <;> rcases abc_cases hy with rfl | rfl | rfl <;> rcases abc_cases hz with rfl | rfl | rfl <;> rcases abc_cases hu with rfl | rfl | rfl <;> decide
  intro ys nd hm hs
  match ys, nd, hm, hs with
  | [], _, _, _ => decide
  | [x], nd, hm, hs =>
    rcases abc_cases (hm x (by simp)) with rfl | rfl | rfl <;> decide
  | [x, y], nd, hm, hs =>
    revert nd hs
    rcases abc_cases (hm x (by simp)) with rfl | rfl | rfl <;> rcases abc_cases (hm y (by simp)) with rfl | rfl | rfl <;> decide
  | [x, y, z], nd, hm, hs =>
    revert nd hs
    rcases abc_cases (hm x (by simp)) with rfl | rfl | rfl <;> rcases abc_cases (hm y (by simp)) with rfl | rfl | rfl <;> rcases abc_cases (hm z (by simp)) with rfl | rfl | rfl <;> decide
  | x :: y :: z :: u :: r, nd, hm, hs =>
    refine (four x y z u (hm x (by simp)) (hm y (by simp)) (hm z (by simp)) (hm u (by simp)) ?_).elim
    have : ([x, y, z, u] : List Str).Sublist (x :: y :: z :: u :: r) := by
      have := List.sublist_append_left [x, y, z, u] r
      simpa using this
    exact this.nodup nd
end PlS
namespace Pl
open PySem PySem.Spec PyProof.Rows L2
def D.strsL : List D → Option (List Str)
  | [] => some []
  | .str x :: r => (D.strsL r).map fun xs => x :: xs
  | _ :: _ => none
/-- sorted(set(marks)) -/
def dMarks (d : D) : Option D := match d with
  | .tup ds => match D.strsL ds with
    | some xs => if xs.length < 64 ∧ xs.all (fun x => PlS.abc.contains x) = true then some (.lst true ((PlS.abc.filter fun m => xs.contains m).map D.str)) else none
    | none => none
  | _ => none
theorem RpL.strs {K : PySem.W.Frag} {w : World} {F : Fset} {H : Hp} : ∀ {ds : List D} {vs : List V} {xs : List Str} {S : List Addr}, D.strsL ds = some xs → RpL K w F H ds vs S → vs = xs.map V.str
  | [], vs, xs, S, h, r => by cases h; exact r.1
  | d :: ds, vs, xs, S, h, r => by
    obtain ⟨v, r', S1, S2, rfl, rfl, h1, h2⟩ := r.uncons
    cases d with
    | str x =>
      rw [D.strsL] at h
      cases q : D.strsL ds with
      | none => rw [q] at h; cases h
      | some ys =>
        rw [q] at h
        cases h
        rw [List.map_cons, RpL.strs q h2, h1.1]
    | _ => cases h
theorem rpL_strs {K : PySem.W.Frag} {w : World} {F : Fset} {H : Hp} : ∀ xs : List Str, RpL K w F H (xs.map D.str) (xs.map V.str) []
  | [] => RpL.nil
  | x :: xs => RpL.cons (S1 := []) ⟨rfl, rfl⟩ (rpL_strs xs)
theorem vals_strs : ∀ {us : List Value} {xs : List Str}, StrsAre us xs → Vals (xs.map V.str) us
  | _, _, .nil => .nil
  | _, _, .cons n t r => .cons ⟨t, rfl⟩ (vals_strs r)
def tMarks (K : PySem.W.Frag) (ta : TE) : TE := fun σ H Q => ta σ H fun x H1 => ∃ l, ∃ xs : List Str, x = .ref l ∧ SqT K H1 l (xs.map V.str) ∧ xs.length < 64 ∧ xs.all (fun x => PlS.abc.contains x) = true ∧
  ∀ p, H1 p = none → Q (.ref p) (upd H1 p (.lst ((PlS.abc.filter fun m => xs.contains m).map V.str)))
section
variable {X : Cx} {W : WX} {a : Expr} {ta : TE} {p p2 q pos : Pos} {m : M D}
theorem pe_marks (hc : X.calm = true) (hg : Gl X "sorted") (hm : X.mg "sorted" = none) (hg2 : Gl X "set") (hm2 : X.mg "set" = none) (ha : PE X a ta)
    (na : starEach [a] X.env = (false, eval a X.env) :: starEach [] X.env := by rfl) : PE X (.Call (.Name "sorted" p) [.Call (.Name "set" p2) [a] [] q] [] pos) (tMarks X.K ta) := by
  refine ⟨fun pins s σ H Q I h => ?_⟩
  refine Call_ (ld_blt (u := .builtin "sorted") I hg hm (by decide +kernel) ?_)
  refine PyProof.Rows.callWith_builtin1 (PyProof.Rows.args_cons ?_ rfl) rfl rfl
  refine Call_ (ld_blt I hg2 hm2 boot_set ?_)
  refine PyProof.Rows.callWith_type1 (PyProof.Rows.args_cons (thn (ha.run pins s σ H _ I h) fun v s1 ⟨x, H1, I1, r1, q1⟩ => PyProof.Rows.args_nil ?_) na) na rfl
  obtain ⟨l, xs, rfl, hq, h64, hall, q1⟩ := q1
  cases r1
  obtain ⟨its, r, pl, hz⟩ := I1.tuple hq
  have hl : its.toArray.size = xs.length := by rw [List.size_toArray, ← r.length, List.length_map]
  refine PlS.call_set_tupleS (I1.ok.hd hc) pl (by simpa using strsAre_of r) (by unfold scanBound; omega) fun h' tk hS hk => ?_
  refine PyProof.Rows.args_nil ?_
  have I2 : Inv X pins σ H1 { s1 with heap := h', toks := tk } := I1.kept fun b o e => hk b o (Heap.lt_size e) e
  obtain ⟨n, hn1, R⟩ := hS
  refine PlS.sorted_setS R (I1.ok.hd hc) (by rw [sizeLine_eq]; omega) fun s' p out c ns k g o hp hg hi hs hnd hmem hln => ?_
  have hns : ns = PlS.abc.filter fun m => xs.contains m := by
    have hsub : ∀ y ∈ ns, y ∈ PlS.abc := fun y hy => by
      have z := (hmem y).mp hy
      rw [hl, List.take_length, List.any_eq_true] at z
      obtain ⟨x, hx, e⟩ := z
      have e : x = y := by simpa using e
      subst e
      exact List.elem_iff.mp (List.all_eq_true.mp hall x hx)
    refine (PlS.abc_one ns hnd hsub hs).trans ?_
    congr 1
    funext m
    rw [Bool.eq_iff_iff, List.contains_iff_mem, List.contains_iff_mem, hmem m, hl, List.take_length, List.any_eq_true]
    constructor
    · rintro ⟨x, hx, e⟩
      have e : x = m := by simpa using e
      rw [← e]; exact hx
    · intro h
      exact ⟨m, h, by simp⟩
  have hn : H1 p = none := I2.hok.fresh hp
  have hlen : (ns.map V.str).length ≤ sizeLine := by rw [List.length_map, hln, sizeLine_eq]; omega
  have J : Inv X pins σ (upd H1 p (.lst (ns.map V.str))) { ({ s1 with heap := h', toks := tk } : Shared) with heap := s'.heap, gens := s'.gens, drawn := s'.drawn, toks := s'.toks } :=
    I2.call (ch := []) (Un.laid k hp hn) (I2.hok.laid k hp ⟨hlen, out.toList, c, vals_strs hi, hg⟩) (by rw [g]; exact I2.bare) (fun _ z => nomatch z)
  have e : s' = { s1 with heap := s'.heap, gens := s'.gens, drawn := s'.drawn, toks := s'.toks } := by
    cases s'
    cases s1
    cases o
    rfl
  rw [e]
  refine ⟨.ref p, _, J, rfl, ?_⟩
  have z := q1 p hn
  rw [← hns] at z
  exact z
theorem dE_marks (hm : X.mg "sorted" = none) (hm2 : X.mg "set" = none) (ha : PE X a (tE X W m)) (hc : X.calm = true := by rfl) (hg : Gl X "sorted" := by rfl) (hg2 : Gl X "set" := by rfl)
    (na : starEach [a] X.env = (false, eval a X.env) :: starEach [] X.env := by rfl) : PE X (.Call (.Name "sorted" p) [.Call (.Name "set" p2) [a] [] q] [] pos) (tE X W (mUn dMarks m)) := PEimp (pe_marks hc hg hm hg2 hm2 ha na) fun σ H Q q =>
  tE_op1 (r := fun x H1 Q => ∃ l, ∃ xs : List Str, x = .ref l ∧ SqT X.K H1 l (xs.map V.str) ∧ xs.length < 64 ∧ xs.all (fun x => PlS.abc.contains x) = true ∧
    ∀ p, H1 p = none → Q (.ref p) (upd H1 p (.lst ((PlS.abc.filter fun m => xs.contains m).map V.str)))) (fun F H S1 d1 d x Q g h1 e k => by
    unfold dMarks at e
    split at e
    · rename_i ds
      split at e
      · rename_i xs hx
        split at e
        · rename_i hz
          cases e
          rw [Rp] at h1
          obtain ⟨l, vs, rfl, s, r⟩ := h1
          have ev := r.strs hx
          subst ev
          exact ⟨l, xs, rfl, s, hz.1, hz.2, resL g k (rpL_strs _)⟩
        · cases e
      · cases e
    · cases e) _ _ _ q
end
end Pl
set_option Elab.async false
set_option linter.all false
set_option maxRecDepth 100000
set_option maxHeartbeats 1000000
/-! Pl: == of own classes, and further operators. -/
namespace Pl
open PySem PySem.Spec PyProof.Rows L2

/-- the class cl has its own == -/
structure EqX (P : Program) (w : World) (K : PySem.W.Frag) (mg : Str → Option Value) (base : Heap) (cs : List Str) (cl : Str) (k : Nat) (c : List D → RC) : Prop where
  ex : ∃ f fd ps, PySem.W.findIn K (.ref (He.ga K cl)) "__eq__" = some (some (.ref f)) ∧ PySem.W.isFn K (.ref f) = true ∧ Binds K fd ps [] ∧ FnOk P w K mg base (L2.CX P w) k f fd ps (SpD K w 0 c)
  nT : ∀ n ∈ hasTy, PySem.W.notFirst K (He.ga K cl) (.type n) = true
  nC : ∀ c ∈ cs, PySem.W.notFirst K (He.ga K cl) (.ref (He.ga K c)) = true
def dEqO (cs : List Str) (cl : Str) (c : List D → RC) (x y : D) : Option D := match x with
  | .obj m c' fs => if c' = cl ∧ D.fz (.obj m c' fs) = true ∧ y.fz = true ∧ isiObj cs y = true then (match c [.obj m c' fs, y] with
    | .ok d _ => some d
    | _ => none) else none
  | _ => none
def rEqO (K : PySem.W.Frag) (w : World) (cs : List Str) (cl : Str) (c : List D → RC) : R2 := fun x y H Q => ∃ F m fs d2, Good F H [] ∧ Rp K w F H (.obj m cl fs) x [] ∧ Rp K w F H d2 y [] ∧ isiObj cs d2 = true ∧ SpD K w 0 c [x, y] H Q (fun _ _ _ => False)
section
variable {X : Cx} {W : WX} {cs : List Str} {cl : Str} {k : Nat} {c : List D → RC}
theorem ty_has {K : PySem.W.Frag} {d : D} (h : isiObj cs d = true) : (∃ n ∈ hasTy, d.ty K = .type n) ∨ ∃ c ∈ cs, d.ty K = .ref (He.ga K c) := by
  cases d with
  | obj m c fs => exact .inr ⟨c, List.elem_iff.mp h, rfl⟩
  | non => exact .inl ⟨"NoneType", by decide, rfl⟩
  | bl b => exact .inl ⟨"bool", by decide, rfl⟩
  | int b => exact .inl ⟨"int", by decide, rfl⟩
  | str b => exact .inl ⟨"str", by decide, rfl⟩
  | tup b => exact .inl ⟨"tuple", by decide, rfl⟩
  | lst m b => exact .inl ⟨"list", by decide, rfl⟩
  | dic m b => exact .inl ⟨"dict", by decide, rfl⟩
  | scr b => exact .inl ⟨"list", by decide, rfl⟩
theorem op_eqO (hI : IsiF X.K cs) (Fm : EqX X.prog X.w X.K X.mg X.base cs cl k c) (hr : Room k X.A) : OpR X (compareOp .Eq) (rEqO X.K X.w cs cl c) := by
  intro pins s σ H x y v u Q I rx ry h
  obtain ⟨F, m, fs, d2, g, h1, h2, ho, q⟩ := h
  obtain ⟨f, fd, ps, hs, hf, hb, FO⟩ := Fm.ex
  obtain ⟨P, Z, p, _⟩ := kit_rp hI I ry h2 ho
  rw [Rp] at h1
  obtain ⟨a, dx, fvs, rfl, hH, _⟩ := h1
  cases (show v = Value.ref a from rx)
  obtain ⟨mA, J, _⟩ := ins_get I.hok hH
  obtain ⟨od, J, _⟩ := J.look
  obtain ⟨mm, hF⟩ := I.fr
  have hn : PySem.W.notFirst X.K (He.ga X.K cl) (d2.ty X.K) = true := by
    rcases ty_has (K := X.K) ho with ⟨n, hn, e⟩ | ⟨c', hc, e⟩
    · rw [e]; exact Fm.nT n hn
    · rw [e]; exact Fm.nC c' hc
  refine PySem.W.cmp_K (op := .Eq) (tb := d2.ty X.K) hr.units0 hF I.ok.mod.kin J (Z.ty _ _ I.kIn p) hn hs hf ?_
  refine wpAny_mono (run_fnSD (us := [.ref a, u]) (vs := [.ref a, y]) (dvs := []) (E := fun σ => WE (fun _ _ _ _ => False) σ) FO hr hb .nil (passAt takes0 σ) I (.cons rfl (.cons ry .nil)) q) (fun w s' z => ?_) fun _ _ x => x
  obtain ⟨z', H', I', rz, qz⟩ := z
  exact SlX.cmpback rz ⟨z', H', I', rz, qz⟩
end
end Pl
set_option Elab.async false
set_option linter.all false
set_option maxRecDepth 100000
set_option maxHeartbeats 1000000
/-! Pl: chains of comparisons, products. -/
namespace Pl
open PySem PySem.Spec PyProof.Rows L2
def mChI (p p' : Int → Int → Bool) (a b c : M D) : M D := fun e => (a e).bind fun x e1 => match x with
  | .int i => (b e1).bind fun y e2 => match y with
    | .int j => if p i j = true then (c e2).bind fun z e3 => match z with
        | .int k => .ok (.bl (p' j k)) e3
        | _ => .fail
      else .ok (.bl false) e2
    | _ => .fail
  | _ => .fail
section
variable {X : Cx} {W : WX} {a b c : Expr} {pos : Pos} {ma mb mc : M D} {op op' : CmpOp} {p p' : Int → Int → Bool}
theorem At.popI {K : PySem.W.Frag} {w : World} {F : Fset} {H : Hp} {e : Env} {σ : L2.St} {i : Int} {v : V} {S : List Addr} (A : At K w F H e σ [.int i] [v] S) : v = .int i ∧ At K w F H e σ [] [] S := by
  obtain ⟨S1, S2, rfl, r, B⟩ := A.nth0
  obtain ⟨rfl, rfl⟩ := r
  exact ⟨rfl, B⟩
theorem tE_chI : ∀ σ H Q, tE X W (mChI p p' ma mb mc) σ H Q → tChain (rI0 fun i j => .bl (p i j)) (rI0 fun i j => .bl (p' i j)) (tE X W ma) (tE X W mb) (tE X W mc) σ H Q := fun σ H Q q => by
  obtain ⟨F, e, S, A, q⟩ := q
  obtain ⟨F1, e1, S1, A1, q1⟩ := bindE A (Step.refl A.good) q
  refine ⟨F1, e1, S1, A1, q1.mono fun x e2 k v F' H' S' st B => ?_⟩
  obtain ⟨d1, F2, e3, S2, st2, A2, q2⟩ := k v F' H' S' st B
  cases d1 with
  | int i =>
    obtain ⟨rfl, A2'⟩ := A2.popI
    obtain ⟨F3, e4, S3, A3, q3⟩ := bindE A2' st2 q2
    refine ⟨F3, e4, S3, A3, q3.mono fun y e5 k2 u F4 H4 S4 st4 B4 => ?_⟩
    obtain ⟨d2, F5, e6, S5, st5, A5, q5⟩ := k2 u F4 H4 S4 st4 B4
    cases d2 with
    | int j =>
      obtain ⟨rfl, A5'⟩ := A5.popI
      refine ⟨i, j, rfl, rfl, _, rfl, ?_⟩
      cases hp : p i j with
      | true =>
        simp only [hp, if_true] at q5
        rw [if_pos rfl]
        obtain ⟨F6, e7, S6, A6, q6⟩ := bindE A5' st5 q5
        refine ⟨F6, e7, S6, A6, q6.mono fun z e8 k3 w F7 H7 S7 st7 B7 => ?_⟩
        obtain ⟨d3, F8, e9, S8, st8, A8, q8⟩ := k3 w F7 H7 S7 st7 B7
        cases d3 with
        | int k =>
          obtain ⟨rfl, A8'⟩ := A8.popI
          exact ⟨j, k, rfl, rfl, q8 _ F8 H7 S8 st8 (A8'.push0 ⟨rfl, rfl⟩)⟩
        | _ => exact q8.elim
      | false =>
        simp only [hp, Bool.false_eq_true, if_false] at q5
        rw [if_neg Bool.false_ne_true]
        exact q5 _ F5 H4 S5 st5 (A5'.push0 ⟨rfl, rfl⟩)
    | _ => exact q5.elim
  | _ => exact q2.elim
theorem dE_chI (ho : OpR X (compareOp op) (rI0 fun i j => .bl (p i j))) (ho' : OpR X (compareOp op') (rI0 fun i j => .bl (p' i j))) (ha : PE X a (tE X W ma)) (hb : PE X b (tE X W mb)) (hc : PE X c (tE X W mc)) (hm : lastMarks [op, op'] [b, c] = false := by with_unfolding_all rfl) :
    PE X (.Compare a [op, op'] [b, c] pos) (tE X W (mChI p p' ma mb mc)) := PEimp (pe_chain ho ho' ha hb hc hm) tE_chI
theorem dT_chI (ho : OpR X (compareOp op) (rI0 fun i j => .bl (p i j))) (ho' : OpR X (compareOp op') (rI0 fun i j => .bl (p' i j))) (ha : PE X a (tE X W ma)) (hb : PE X b (tE X W mb)) (hc : PE X c (tE X W mc)) (hm : lastMarks [op, op'] [b, c] = false := by with_unfolding_all rfl) :
    PT X (.Compare a [op, op'] [b, c] pos) (tT X W (mChI p p' ma mb mc)) := PTimp (pt_chain ho ho' ha hb hc hm) fun σ H Q q => tE_chI _ _ _ (tT_tE q)
end
end Pl
set_option Elab.async false
set_option linter.all false
set_option maxRecDepth 100000
set_option maxHeartbeats 1000000
/-! Pl: products. -/
namespace Pl
open PySem PySem.Spec PyProof.Rows L2
theorem tuple_mul_same (l : Addr) (items : Array Value) (n : Nat) (dd : Option Addr) (sl : Array (Option Value)) (x : Int) (u : Tok) (c0 : (decide (x < -(2 ^ 63)) || decide (x ≥ 2 ^ 63)) = false) (c1 : (items.isEmpty || x == 1) = true) :
    Meets (Builtin.«tuple.__mul__» ⟨[.ref l, .int x u], []⟩) (fun _ R s => s.heap.get? l = some { cls := .type "tuple", dict := dd, data := .seq items n, slots := sl } ∧ R (.ok (.ret (Value.ref l))) s) :=
  .of_wp fun prog w A R s h => by
    obtain ⟨hp, g, d, tk, os⟩ := s
    obtain ⟨hl, h⟩ := h
    have f1 := AutoSeq1.idx_int
    wp_walk using wpAny_loadPart' hl
    repeat (first
      | (refine wpAny_ite_false (decide_eq_false (by rw [c0]; exact Bool.false_ne_true)) ?_; wp_walk using wpAny_loadPart' hl)
      | (refine wpAny_ite_true (decide_eq_true c1) ?_; wp_walk using wpAny_loadPart' hl))
    all_goals exact ⟨_, rfl, h⟩
def rRepS (K : PySem.W.Frag) : R2 := fun x y H Q => ∃ l k xs, x = .ref l ∧ y = .int k ∧ SqT K H l xs ∧ (xs = [] ∨ k = 1) ∧ -(2 ^ 63) ≤ k ∧ k < 2 ^ 63 ∧ Q (.ref l) H
theorem op_repS {X : Cx} : OpR X (binaryOp .Mult) (rRepS X.K) := by
  intro pins s σ H x y v u Q I rx ry h
  obtain ⟨l, k, xs, rfl, rfl, hT, hne, h1, h2, q⟩ := h
  cases rx
  obtain ⟨t, rfl⟩ := ry
  obtain ⟨its, r, ⟨⟨cls, dd, data, sl⟩, ho, hc, n, hd⟩, hs⟩ := I.tuple hT
  simp only at hc hd
  subst hc hd
  have hle : its.length = xs.length := r.length.symm
  have c0 : (decide (k < -(2 ^ 63)) || decide (k ≥ 2 ^ 63)) = false := by
    rw [decide_eq_false (by omega), decide_eq_false (by omega)] <;> rfl
  have c1 : (its.toArray.isEmpty || k == 1) = true := by
    rcases hne with e | e
    · subst e
      have : its = [] := List.eq_nil_of_length_eq_zero hle
      subst this
      rfl
    · subst e
      rw [Bool.or_eq_true]
      exact .inr rfl
  exact wpAny_binaryOp_repeat_ref (T := "tuple") (U := "int") (by decide) ⟨_, ho, rfl⟩ (fun s' => typeIs_int s' k t) noFill_tuple_mul PySem.F.fills_int_mul PySem.F.slot_int_rmul repeat_tuple PySem.F.slot_int_index.lookup
    (call_meets PySem.F.slot_int_rmul (typeIs_int s k t) PySem.F.entry_int_rmul (PySem.F.args_int_rmul_2 _ _) (int_rmul_tuple k t l its.toArray n dd sl)
      ⟨ho, rfl, ⟨_, ho, rfl⟩, call_meets PySem.F.slot_tuple_mul ⟨_, ho, rfl⟩ PySem.F.entry_tuple_mul (PySem.F.args_tuple_mul_2 _ _) (tuple_mul_same l its.toArray n dd sl k t c0 c1) ⟨ho, ⟨.ref l, H, I, rfl, q⟩⟩⟩)
def rMulA (K : PySem.W.Frag) : R2 := fun x y H Q => rI CMul (fun i j => .int (i * j)) x y H Q ∨ (rRep x y H Q ∨ (rRepS K x y H Q ∨ rRepT K x y H Q))
theorem op_mulA {X : Cx} : OpR X (binaryOp .Mult) (rMulA X.K) := op_mul.or (op_rep.or (op_repS.or op_repT))
def dMulA : D → D → Option D
  | .int a, .int b => dMul (.int a) (.int b)
  | .lst _ ds, .int k => if D.fzL ds = true ∧ -(2 ^ 63) ≤ k ∧ k < 2 ^ 63 ∧ ds.length * k.toNat ≤ sizeLine then some (.lst true (repD k ds)) else none
  | .tup ds, .int k => if D.fzL ds = true ∧ -(2 ^ 63) ≤ k ∧ k < 2 ^ 63 ∧ (ds.isEmpty = true ∨ k = 1) then some (.tup ds) else if D.fzL ds = true ∧ ds.isEmpty = false ∧ 2 ≤ k ∧ k ≤ 1000 ∧ ds.length ≤ 1000 then some (.tup (repD k ds)) else none
  | _, _ => none
section
variable {K : PySem.W.Frag} {w : World} {X : Cx} {W : WX} {a b : Expr} {pos : Pos} {ma mb : M D}
theorem op2_mulA : Op2 K w (rMulA K) dMulA := fun F H S1 S2 d1 d2 d x y Q g h1 h2 e k => by
  cases d1 <;> cases d2 <;> first | cases e | skip
  · exact .inl (op2_mul F H S1 S2 _ _ d x y Q g h1 h2 e k)
  · rename_i ds i
    obtain rfl := h2.1
    rw [Rp] at h1
    obtain ⟨l, vs, rfl, s, r⟩ := h1
    simp only [dMulA] at e
    split at e
    · rename_i c
      cases e
      have r := r.fzs c.1
      refine .inr (.inr (.inl ⟨l, i, vs, rfl, rfl, s, ?_, c.2.1, c.2.2.1, res0 g k (by rw [Rp]; exact ⟨l, vs, rfl, s, r⟩)⟩))
      rcases c.2.2.2 with z | z
      · left
        have : ds = [] := List.isEmpty_iff.mp z
        subst this
        exact r.1
      · exact .inr z
    · split at e
      · rename_i c
        cases e
        have r := r.fzs c.1
        have l1 := r.length
        have hne : vs ≠ [] := fun z => by
          subst z
          have : ds = [] := List.eq_nil_of_length_eq_zero l1
          subst this
          exact absurd c.2.1 (by decide)
        exact .inr (.inr (.inr ⟨l, i, vs, rfl, rfl, s, hne, c.2.2.1, c.2.2.2.1, by omega, resT g k (r.rep i.toNat)⟩))
      · cases e
  · rename_i m ds i
    obtain rfl := h2.1
    simp only [dMulA] at e
    split at e
    · rename_i c
      cases e
      obtain ⟨l, vs, S', rfl, hH, r⟩ := h1.lst
      have r := r.fzs c.1
      have l1 := r.length
      exact .inr (.inl ⟨l, i, vs, rfl, rfl, hH, c.2.1, c.2.2.1, by rw [← l1]; exact c.2.2.2, resL g k (r.rep i.toNat)⟩)
    · cases e
theorem dE_mulA (ha : PE X a (tE X W ma)) (hb : PE X b (tE X W mb)) : PE X (.BinOp a .Mult b pos) (tE X W (mBin dMulA ma mb)) := dE_bop op_mulA op2_mulA ha hb
end
end Pl
set_option Elab.async false
set_option linter.all false
set_option maxRecDepth 100000
set_option maxHeartbeats 1000000
/-! Pl: enumerate. -/
namespace Pl
open PySem PySem.Spec PyProof.Rows L2
theorem meets_enumerate_newT (l : Addr) (items : Array Value) (n : Nat) (dct : Option Addr) (sl : Array (Option Value)) :
    Meets (Builtin.«enumerate.__new__» ⟨[.type "enumerate", .ref l], []⟩) (fun _ R s => s.heap.get? l = some { cls := .type "tuple", dict := dct, data := .seq items n, slots := sl } ∧
      R (.ok (.ret (.ref (s.heap.push { cls := .type "tuple_iterator", data := .fields #[.ref l, .int 0 0] }).objs.size)))
        { s with heap := (s.heap.push { cls := .type "tuple_iterator", data := .fields #[.ref l, .int 0 0] }).push { cls := .type "enumerate", data := .fields #[.none, .bool false, .ref s.heap.objs.size, rawInt 0, .none, .none] } }) :=
  .of_wp fun prog w A R s h => by
    obtain ⟨hp, g, d, tk, os⟩ := s; obtain ⟨hl, h⟩ := h
    have hsub := sub_enumerate
    have hL : Heap.IsTuple (Shared.heap ⟨hp, g, d, tk, os⟩) l items := ⟨_, hl, rfl, n, rfl⟩
    wp_walk using AutoSeq1.wpAny_loadPart' hl
    refine wpAny_stack_any fun st => wpAny_pure ?_
    split
    · rename_i c _ _ _ _ _
      cases (c == Value.type "enumerate")
      · wp_walk using AutoSeq1.wpAny_loadPart' hl, wpAny_pyIter_tuple hL
        exact ⟨_, rfl, h⟩
      · wp_walk using AutoSeq1.wpAny_loadPart' hl, wpAny_pyIter_tuple hL
        exact ⟨_, rfl, h⟩
    · wp_walk using AutoSeq1.wpAny_loadPart' hl, wpAny_pyIter_tuple hL
      exact ⟨_, rfl, h⟩
section
variable {prog : Program} {w : World} {A : Around} {E : Value → Shared → Prop} {s : Shared}
theorem call_enumerate_tup {l : Addr} {items : Array Value} {Q : Value → Shared → Prop} (hL : s.heap.IsTuple l items)
    (h : ∀ h', IsEnum h' (s.heap.objs.size + 1) s.heap.objs.size 0 .none → h'.IsTupleIter s.heap.objs.size l 0 → h'.objs.size = s.heap.objs.size + 2 →
      (∀ b o, s.heap.get? b = some o → h'.get? b = some o) → Q (.ref (s.heap.objs.size + 1)) { s with heap := h' }) :
    wpAny (model prog w) A (call (.type "enumerate") [.ref l]) Q E s := by
  obtain ⟨⟨c, dct, dt, sl⟩, hl, hc, n, hd⟩ := hL
  replace hc : c = .type "tuple" := hc
  replace hd : dt = .seq items n := hd
  subst hc hd
  refine callType_new PySem.F.called_enumerate (by decide) (PySem.F.typeCall_enumerate_1 _) (PySem.F.newCall_enumerate_1 _) (fun obj => PySem.F.args_object_init_2 obj _) PySem.F.entry_enumerate_new
    (meets_enumerate_newT l items n dct sl) ⟨hl, ?_⟩
  have hz : (s.heap.push { cls := .type "tuple_iterator", data := .fields #[.ref l, .int 0 0] }).objs.size = s.heap.objs.size + 1 := Heap.size_push ..
  show _ ∧ _
  rw [hz]
  have he : IsEnum ((s.heap.push { cls := .type "tuple_iterator", data := .fields #[.ref l, .int 0 0] }).push
      { cls := .type "enumerate", data := .fields #[.none, .bool false, .ref s.heap.objs.size, rawInt 0, .none, .none] }) (s.heap.objs.size + 1) s.heap.objs.size 0 .none := by
    have := Heap.get?_push_size (s.heap.push { cls := .type "tuple_iterator", data := .fields #[.ref l, .int 0 0] })
      (o := { cls := .type "enumerate", data := .fields #[.none, .bool false, .ref s.heap.objs.size, rawInt 0, .none, .none] }) rfl
    rw [hz] at this; exact this
  refine ⟨⟨_, he, rfl⟩, h _ he ⟨_, Heap.get?_push_of_some _ (Heap.get?_push_size _ rfl), rfl, rfl⟩ (by rw [Heap.size_push, hz]) fun b o x => Heap.get?_push_of_some _ (Heap.get?_push_of_some _ x)⟩
end
def IteT (K : PySem.W.Frag) (a : Addr) : It :=
  ⟨fun i H => ∃ (xs : List V) (x : V), SqT K H a xs ∧ xs[i]? = some x, fun i H v H' => ∃ T x, v = .ref T ∧ H T = none ∧ H' = upd H T (.tup [.int (i : Nat), x]) ∧ ∀ xs, SqT K H a xs → xs[i]? = some x, fun i H => ∃ xs : List V, SqT K H a xs ∧ xs.length ≤ i⟩
theorem turn_enumT {P : Program} {w : World} {K : PySem.W.Frag} {elts : List Expr} {kk : Nat} {tpos : Pos} (a e it : Addr) :
    Turn P w K (.Tuple elts kk tpos) (IteT K a) [e, it] e (fun i h => (∃ old, IsEnum h e it ((i : Nat) : Int) old) ∧ h.IsTupleIter it a i ∧ e ≠ it ∧ a ≠ it ∧ e ≠ a) where
  mem := by simp
  obj := fun i h st b hb => by
    obtain ⟨⟨old, he⟩, ⟨o, ho, hc, hd⟩, _⟩ := st
    have e' : b = e ∨ b = it := by simpa using hb
    rcases e' with z | z
    · rw [z]; exact ⟨_, he, fun v q => nomatch q⟩
    · rw [z]; exact ⟨o, ho, fun v q => by rw [hd] at q; cases q⟩
  keep := fun i h h' st k => let ⟨⟨old, he⟩, hi, hne⟩ := st; ⟨⟨old, k e (by simp) _ he⟩, hi.at fun o q => k it (by simp) o q, hne⟩
  item := by
    intro X hP hw hK hc i pins s σ H E I hf st hg
    subst hP hw hK
    obtain ⟨⟨old, he⟩, hit, hne, hai, hea⟩ := st
    obtain ⟨xs, x, hq, hx⟩ := hg
    obtain ⟨its, rv, p, hz⟩ := I.tuple hq
    obtain ⟨u, hu, ru⟩ := rv.get hx
    have hel : e < s.heap.objs.size := Heap.lt_size he
    have hil : it < s.heap.objs.size := by obtain ⟨_, q, _⟩ := hit; exact Heap.lt_size q
    have hh : X.A.in1.handled = none := by simpa using I.ok.hd hc
    have D := PySem.Draws.tuple (prog := X.prog) (w := X.w) (A := X.A.in1) hh it a hai its.toArray
    have hil2 : i < its.toArray.size := by
      obtain ⟨h1, _⟩ := List.getElem?_eq_some_iff.mp hu
      simpa using h1
    refine wpAny_pyNext_enum_itemD D he ⟨hit, show s.heap.IsTuple a its.toArray from p⟩ hil2 hne (by simp; exact ⟨hne, hea⟩) fun u' h' tk hP ho hst' hT hsz hk => ?_
    have eu : u' = u := by
      have hP : its.toArray[i]? = some u' := hP
      rw [List.getElem?_toArray, hu] at hP
      exact (Option.some.inj hP).symm
    subst eu
    refine ⟨_, rfl, wpAny_letOwnedTupleGo_enum (s := { s with heap := h', toks := tk + 1 }) ho fun h'' he' sb => ?_⟩
    have hT2 : h''.get? s.heap.objs.size = some { cls := .type "tuple", data := .seq #[.int i tk, u'] } := (sb.2 _ (Nat.ne_of_gt hel)).trans hT
    have new : ObjOk X.prog X.w (upd H s.heap.objs.size (.tup [.int (i : Nat), x])) h'' s.heap.objs.size (.tup [.int (i : Nat), x]) :=
      ⟨by show 2 ≤ sizeLine; decide, [.int i tk, u'], .cons ⟨_, rfl⟩ (.cons ru .nil), ⟨_, hT2, rfl, _, rfl⟩⟩
    have I1 : Inv X pins σ (upd H s.heap.objs.size (.tup [.int (i : Nat), x])) { s with heap := h'', toks := tk + 1 } :=
      I.turnedNew (ch := [e, it]) (fun b ob hb q => (sb.2 b (fun z => hb (by simp [z]))).trans (hk b ob (fun z => hb (by simp [z])) (fun z => hb (by simp [z])) q)) hf (Nat.le_refl _) new
    refine ⟨.ref s.heap.objs.size, _, I1, rfl, ⟨_, x, rfl, I.hok.fresh (Nat.le_refl _), rfl, fun ys hy => by rw [I.tuple_inj hy hq]; exact hx⟩, ⟨⟨u', ?_⟩, hst'.1.at fun o q => (sb.2 it (Ne.symm hne)).trans q, hne, hai, hea⟩, fun b hb => ?_⟩
    · have e1 : ((i + 1 : Nat) : Int) = (i : Int) + 1 := by omega
      rw [e1]; exact he'
    · have hb' : b < s.heap.objs.size := by
        have e' : b = e ∨ b = it := by simpa using hb
        rcases e' with z | z
        · rw [z]; exact hel
        · rw [z]; exact hil
      rw [upd_ne (Nat.ne_of_lt hb')]
      exact (hf b hb).1
  done := by
    intro X hP hw hK hc i pins s σ H E I hf st hg
    subst hP hw hK
    obtain ⟨⟨old, he⟩, hit, hne, hai, hea⟩ := st
    obtain ⟨xs, hq, hx⟩ := hg
    obtain ⟨its, rv, p, hz⟩ := I.tuple hq
    obtain ⟨f0, f1, f2, f3, f4, f5⟩ := hf it (by simp)
    have hl := rv.length
    have hh : X.A.in1.handled = none := by simpa using I.ok.hd hc
    have p' : s.heap.IsTuple a its.toArray := p
    have hT : s.TypeIs (.ref e) "enumerate" := ⟨_, he, rfl⟩
    unfold pyNext
    refine wpAny_bind (wpAny_attempt (wpAny_callSpecial?_slot (name := Str.ofString "__next__") hT PySem.F.slot_enumerate_next
      (wpAny_call_entry PySem.F.slot_enumerate_next hT PySem.F.entry_enumerate_next ?_ (PySem.F.args_enumerate_next_1 _))))
    show wpAny _ _ (field (.ref e) 2 >>= _) _ _ _
    refine wpAny_bind (wpAny_field he rfl (x := .ref it) rfl ?_)
    refine wpAny_bind (wpAny_nextOf_tuple_end hh hit p' (by simp; omega) fun h' x he' hx' => ?_)
    obtain ⟨o, ho, hc'⟩ := hx'
    refine wpAny_bind (wpAny_isInstance (T := "StopIteration") (b := true) ⟨o, ho, hc'⟩ isSubtype_stop ?_)
    exact wpAny_pure ⟨rfl, I.turned (t' := s.toks) (fun b o hb q => he' b o hb q) f0 f1 f3 f4 f5⟩
  self := fun A i s Q E st h => let ⟨⟨_, he⟩, _⟩ := st; wpAny_pyIter_enum he h
def iEnumA (K : PySem.W.Frag) (ta : TA) : TI := fun σ H R => ta σ H fun vs H1 => ∃ a xs, vs = [.ref a] ∧ ((SqL K H1 a xs ∧ R (Ite K a) H1) ∨ (SqT K H1 a xs ∧ R (IteT K a) H1))
theorem pi_enumA {X : Cx} {e : Expr} {ta : TA} {p pos tpos : Pos} {elts : List Expr} {kk : Nat} (hg : Gl X "enumerate") (hm : X.mg "enumerate" = none) (ha : PA X [e] ta) (hs : starEach [e] X.env = [(false, eval e X.env)] := by rfl) :
    PI X (.Tuple elts kk tpos) (.Call (.Name "enumerate" p) [e] [] pos) (iEnumA X.K ta) := by
  refine ⟨fun pins s σ H R I h => ?_⟩
  refine Call_ (ld_blt I hg hm boot_enumerate (PyProof.Rows.callWith_type1 (thn (ha.run pos pins s σ H _ I h) fun us s1 ⟨vs, H1, I1, r1, q1⟩ => ?_) hs rfl))
  obtain ⟨a, xs, ex, q⟩ := q1
  subst ex
  cases r1 with
  | cons r rr =>
    cases rr
    cases r
    have fp : ∀ b ∈ [s1.heap.objs.size + 1, s1.heap.objs.size], FpOk X pins H1 b := fun b hb => by
      have e' : b = s1.heap.objs.size + 1 ∨ b = s1.heap.objs.size := by simpa using hb
      have hle : s1.heap.objs.size ≤ b := by
        rcases e' with z | z
        · rw [z]; exact Nat.le_add_right _ _
        · rw [z]; exact Nat.le_refl _
      exact I1.fpOk hle (I1.hok.fresh hle)
    rcases q with ⟨hq, q⟩ | ⟨hq, q⟩
    · obtain ⟨its, rv, p', hz⟩ := I1.list hq
      refine call_enumerate_list p'.isList fun h' he hit hsz hk => wpAny_pyIter_enum he ?_
      have I2 : Inv X pins σ H1 { s1 with heap := h' } := I1.kept (t' := s1.toks) hk
      exact ⟨s1.heap.objs.size + 1, [s1.heap.objs.size + 1, s1.heap.objs.size], _, _, H1, rfl, I2, turn_enum a (s1.heap.objs.size + 1) s1.heap.objs.size, ⟨⟨.none, he⟩, hit, Nat.succ_ne_self _⟩, fp, q⟩
    · obtain ⟨its, rv, p', hz⟩ := I1.tuple hq
      have lt : a < s1.heap.objs.size := by
        obtain ⟨o, ho, _⟩ := id p'
        exact Heap.lt_size ho
      refine call_enumerate_tup (show s1.heap.IsTuple a its.toArray from p') fun h' he hit hsz hk => wpAny_pyIter_enum he ?_
      have I2 : Inv X pins σ H1 { s1 with heap := h' } := I1.kept (t' := s1.toks) hk
      exact ⟨s1.heap.objs.size + 1, [s1.heap.objs.size + 1, s1.heap.objs.size], _, _, H1, rfl, I2, turn_enumT a (s1.heap.objs.size + 1) s1.heap.objs.size, ⟨⟨.none, he⟩, hit, Nat.succ_ne_self _, Nat.ne_of_lt lt, Nat.ne_of_gt (Nat.lt_succ_of_lt lt)⟩, fp, q⟩
/-! the reading -/
def enumD : Nat → List D → List D
  | _, [] => []
  | k, d :: ds => .tup [.int (k : Nat), d] :: enumD (k + 1) ds
theorem enumD_len : ∀ (k : Nat) (ds : List D), (enumD k ds).length = ds.length
  | _, [] => rfl
  | k, d :: ds => by rw [enumD, List.length_cons, List.length_cons, enumD_len]
theorem enumD_get : ∀ {ds : List D} {k i : Nat} {d : D}, ds[i]? = some d → (enumD k ds)[i]? = some (.tup [.int ((k + i : Nat) : Int), d])
  | [], _, _, _, h => by simp at h
  | d :: ds, k, 0, _, h => by simp at h; subst h; rfl
  | d :: ds, k, i + 1, _, h => by
    rw [enumD, List.getElem?_cons_succ, enumD_get (by simpa using h)]
    have : k + 1 + i = k + (i + 1) := by omega
    rw [this]
def mEnum (m : M D) : M (List D) := fun e => (m e).bind fun d e1 => match d.frz with
  | .tup ds => .ok (enumD 0 ds) e1
  | .lst _ ds => .ok (enumD 0 ds) e1
  | _ => .fail
section
variable {K : PySem.W.Frag} {w : World} {F : Fset} {H : Hp} {a : Addr} {ds : List D} {vs : List V}
theorem rp_ix {F' : Fset} {H' : Hp} {T : Addr} {b : D} {v : V} {i : Nat} (hT : H' T = none) (hb : Rp K w F' H' b v []) : Rp K w F' (upd H' T (.tup [.int (i : Nat), v])) (.tup [.int (i : Nat), b]) (.ref T) [] := rp_pair hT ⟨rfl, rfl⟩ hb
theorem itR_enum (hs : ∀ F' H', Stays F H F' H' [] → SqL K H' a vs) (r : RpL K w F H ds vs []) : ItR K w (Ite K a) F H (enumD 0 ds) where
  go := fun i F' H' hi s => by
    rw [enumD_len, r.length] at hi
    exact ⟨vs, vs[i], hs F' H' s, by simp [hi]⟩
  stop := fun F' H' s => ⟨vs, hs F' H' s, by rw [enumD_len, r.length]; exact Nat.le_refl _⟩
  yld := fun i F' H' x H2 s hi y => by
    rw [enumD_len] at hi
    obtain ⟨T, x, rfl, hT, rfl, y⟩ := y
    obtain ⟨v, q1, q2⟩ := (r.stay0 s).get (i := i) (d := ds[i]) (by simp [hi])
    have q3 := y vs (hs F' _ s)
    rw [q1] at q3; cases q3
    have eg : ds[i]? = some ds[i] := by simp [hi]
    refine ⟨.inr ⟨T, _, hT, rfl⟩, _, enumD_get (k := 0) eg, ?_⟩
    rw [Nat.zero_add]
    exact rp_ix hT q2
theorem itR_enumT (hs : ∀ F' H', Stays F H F' H' [] → SqT K H' a vs) (r : RpL K w F H ds vs []) : ItR K w (IteT K a) F H (enumD 0 ds) where
  go := fun i F' H' hi s => by
    rw [enumD_len, r.length] at hi
    exact ⟨vs, vs[i], hs F' H' s, by simp [hi]⟩
  stop := fun F' H' s => ⟨vs, hs F' H' s, by rw [enumD_len, r.length]; exact Nat.le_refl _⟩
  yld := fun i F' H' x H2 s hi y => by
    rw [enumD_len] at hi
    obtain ⟨T, x, rfl, hT, rfl, y⟩ := y
    obtain ⟨v, q1, q2⟩ := (r.stay0 s).get (i := i) (d := ds[i]) (by simp [hi])
    have q3 := y vs (hs F' _ s)
    rw [q1] at q3; cases q3
    have eg : ds[i]? = some ds[i] := by simp [hi]
    refine ⟨.inr ⟨T, _, hT, rfl⟩, _, enumD_get (k := 0) eg, ?_⟩
    rw [Nat.zero_add]
    exact rp_ix hT q2
end
theorem dI_enum {X : Cx} {W : WX} {a : Expr} {m : M D} {p pos tpos : Pos} {elts : List Expr} {kk : Nat} (hm : X.mg "enumerate" = none) (ha : PE X a (tE X W m)) (hg : Gl X "enumerate" := by rfl) (hs : starEach [a] X.env = [(false, eval a X.env)] := by rfl) :
    PI X (.Tuple elts kk tpos) (.Call (.Name "enumerate" p) [a] [] pos) (tI X W (mEnum m)) := PIimp (pi_enumA hg hm (pa_cons ha pa_nil hs) hs) fun σ H R q => by
  obtain ⟨F, e, S, A, q⟩ := q
  obtain ⟨F1, e1, S1, A1, q1⟩ := bindE A (Step.refl A.good) q
  refine ⟨F1, e1, S1, A1, q1.mono fun x e2 k v F' H' S' st B => ?_⟩
  obtain ⟨d1, F2, e3, S2, st2, A2, q2⟩ := k v F' H' S' st B
  obtain ⟨F3, T3, st3, r3, A3⟩ := A2.freeze
  split at q2
  · rename_i ds hd
    rw [hd] at r3
    rw [Rp] at r3
    obtain ⟨a, vs, rfl, s, r⟩ := r3
    exact ⟨a, vs, rfl, .inr ⟨s, q2 _ F3 H' T3 (st2.trans st3) A3 (itR_enumT (fun _ _ z => z.sqT s) r)⟩⟩
  · rename_i m1 ds hd
    rw [hd] at r3
    rw [Rp] at r3
    obtain ⟨a, vs, rfl, ⟨_, _, _, e', _⟩ | ⟨_, s, _, r⟩⟩ := r3
    · cases e'
    · exact ⟨a, vs, rfl, .inl ⟨s.sqL, q2 _ F3 H' T3 (st2.trans st3) A3 (itR_enum (fun _ _ z => (z.lstF s).sqL) r)⟩⟩
  · exact q2.elim
end Pl
set_option Elab.async false
set_option linter.all false
set_option maxRecDepth 100000
set_option maxHeartbeats 1000000
/-! Pl: the rules by short names, as the printed derivations use them. -/
namespace Pl
open PySem PySem.Spec PyProof.Rows L2
theorem _root_.L2.Room.u65 {k : Nat} {A : Around} (r : L2.Room k A) : A.units + 65 < cLine := by have := r.un; omega
section
variable {X : Cx} {pn : Option V} {W : WX} {a b : Expr} {x : Str} {p pos : Pos} {ma mb : M D} {k : Nat}
theorem gE_Eq (hr : Room k X.A) (ha : PE X a (tE X W ma)) (hb : PE X b (tE X W mb)) (hm : behindInMarks .Eq b = false := by rfl) : PE X (.Compare a [.Eq] [b] pos) (tE X W (mBin (dEq false) ma mb)) := dE_cmp (op_eqD hr.units) op2_eq ha hb hm
theorem gE_EqL (i : Nat) (hr : Room k X.A) (hp : PE X (.Name x p) (tVar i)) (hb : PE X b (tE X W mb)) (hm : behindInMarks .Eq b = false := by rfl) : PE X (.Compare (.Name x p) [.Eq] [b] pos) (tE X W (mBinL (dEq false) i mb)) := dE_cmpL (op_eqD hr.units) op2_eq i hp hb hm
theorem gE_EqP (i : Nat) (hr : Room k X.A) (ha : PE X a (tE X W ma)) (hp : PE X (.Name x p) (tVar i)) (hm : behindInMarks .Eq (.Name x p) = false := by rfl) : PE X (.Compare a [.Eq] [.Name x p] pos) (tE X W (mBinR (dEq false) ma i)) := dE_cmpP (op_eqD hr.units) op2_eq i ha hp hm
theorem gT_Eq (hr : Room k X.A) (ha : PE X a (tE X W ma)) (hb : PE X b (tE X W mb)) (hm : behindInMarks .Eq b = false := by rfl) : PT X (.Compare a [.Eq] [b] pos) (tT X W (mBin (dEq false) ma mb)) := dT_cmp (op_eqD hr.units) op2_eq ha hb hm
theorem gT_EqL (i : Nat) (hr : Room k X.A) (hp : PE X (.Name x p) (tVar i)) (hb : PE X b (tE X W mb)) (hm : behindInMarks .Eq b = false := by rfl) : PT X (.Compare (.Name x p) [.Eq] [b] pos) (tT X W (mBinL (dEq false) i mb)) := dT_cmpL (op_eqD hr.units) op2_eq i hp hb hm
theorem gT_EqP (i : Nat) (hr : Room k X.A) (ha : PE X a (tE X W ma)) (hp : PE X (.Name x p) (tVar i)) (hm : behindInMarks .Eq (.Name x p) = false := by rfl) : PT X (.Compare a [.Eq] [.Name x p] pos) (tT X W (mBinR (dEq false) ma i)) := dT_cmpP (op_eqD hr.units) op2_eq i ha hp hm
theorem gE_NotEq (hr : Room k X.A) (ha : PE X a (tE X W ma)) (hb : PE X b (tE X W mb)) (hm : behindInMarks .NotEq b = false := by rfl) : PE X (.Compare a [.NotEq] [b] pos) (tE X W (mBin (dEq true) ma mb)) := dE_cmp (op_neD hr.units) op2_ne ha hb hm
theorem gE_NotEqL (i : Nat) (hr : Room k X.A) (hp : PE X (.Name x p) (tVar i)) (hb : PE X b (tE X W mb)) (hm : behindInMarks .NotEq b = false := by rfl) : PE X (.Compare (.Name x p) [.NotEq] [b] pos) (tE X W (mBinL (dEq true) i mb)) := dE_cmpL (op_neD hr.units) op2_ne i hp hb hm
theorem gE_NotEqP (i : Nat) (hr : Room k X.A) (ha : PE X a (tE X W ma)) (hp : PE X (.Name x p) (tVar i)) (hm : behindInMarks .NotEq (.Name x p) = false := by rfl) : PE X (.Compare a [.NotEq] [.Name x p] pos) (tE X W (mBinR (dEq true) ma i)) := dE_cmpP (op_neD hr.units) op2_ne i ha hp hm
theorem gT_NotEq (hr : Room k X.A) (ha : PE X a (tE X W ma)) (hb : PE X b (tE X W mb)) (hm : behindInMarks .NotEq b = false := by rfl) : PT X (.Compare a [.NotEq] [b] pos) (tT X W (mBin (dEq true) ma mb)) := dT_cmp (op_neD hr.units) op2_ne ha hb hm
theorem gT_NotEqL (i : Nat) (hr : Room k X.A) (hp : PE X (.Name x p) (tVar i)) (hb : PE X b (tE X W mb)) (hm : behindInMarks .NotEq b = false := by rfl) : PT X (.Compare (.Name x p) [.NotEq] [b] pos) (tT X W (mBinL (dEq true) i mb)) := dT_cmpL (op_neD hr.units) op2_ne i hp hb hm
theorem gT_NotEqP (i : Nat) (hr : Room k X.A) (ha : PE X a (tE X W ma)) (hp : PE X (.Name x p) (tVar i)) (hm : behindInMarks .NotEq (.Name x p) = false := by rfl) : PT X (.Compare a [.NotEq] [.Name x p] pos) (tT X W (mBinR (dEq true) ma i)) := dT_cmpP (op_neD hr.units) op2_ne i ha hp hm
theorem gE_Lt (hr : Room k X.A) (ha : PE X a (tE X W ma)) (hb : PE X b (tE X W mb)) (hm : behindInMarks .Lt b = false := by rfl) : PE X (.Compare a [.Lt] [b] pos) (tE X W (mBin (dLt) ma mb)) := dE_cmp (op_ltA) op2_lt ha hb hm
theorem gE_LtL (i : Nat) (hr : Room k X.A) (hp : PE X (.Name x p) (tVar i)) (hb : PE X b (tE X W mb)) (hm : behindInMarks .Lt b = false := by rfl) : PE X (.Compare (.Name x p) [.Lt] [b] pos) (tE X W (mBinL (dLt) i mb)) := dE_cmpL (op_ltA) op2_lt i hp hb hm
theorem gE_LtP (i : Nat) (hr : Room k X.A) (ha : PE X a (tE X W ma)) (hp : PE X (.Name x p) (tVar i)) (hm : behindInMarks .Lt (.Name x p) = false := by rfl) : PE X (.Compare a [.Lt] [.Name x p] pos) (tE X W (mBinR (dLt) ma i)) := dE_cmpP (op_ltA) op2_lt i ha hp hm
theorem gT_Lt (hr : Room k X.A) (ha : PE X a (tE X W ma)) (hb : PE X b (tE X W mb)) (hm : behindInMarks .Lt b = false := by rfl) : PT X (.Compare a [.Lt] [b] pos) (tT X W (mBin (dLt) ma mb)) := dT_cmp (op_ltA) op2_lt ha hb hm
theorem gT_LtL (i : Nat) (hr : Room k X.A) (hp : PE X (.Name x p) (tVar i)) (hb : PE X b (tE X W mb)) (hm : behindInMarks .Lt b = false := by rfl) : PT X (.Compare (.Name x p) [.Lt] [b] pos) (tT X W (mBinL (dLt) i mb)) := dT_cmpL (op_ltA) op2_lt i hp hb hm
theorem gT_LtP (i : Nat) (hr : Room k X.A) (ha : PE X a (tE X W ma)) (hp : PE X (.Name x p) (tVar i)) (hm : behindInMarks .Lt (.Name x p) = false := by rfl) : PT X (.Compare a [.Lt] [.Name x p] pos) (tT X W (mBinR (dLt) ma i)) := dT_cmpP (op_ltA) op2_lt i ha hp hm
theorem gE_LtE (hr : Room k X.A) (ha : PE X a (tE X W ma)) (hb : PE X b (tE X W mb)) (hm : behindInMarks .LtE b = false := by rfl) : PE X (.Compare a [.LtE] [b] pos) (tE X W (mBin (dLe) ma mb)) := dE_cmp (op_le) (op2_cmpI _) ha hb hm
theorem gE_LtEL (i : Nat) (hr : Room k X.A) (hp : PE X (.Name x p) (tVar i)) (hb : PE X b (tE X W mb)) (hm : behindInMarks .LtE b = false := by rfl) : PE X (.Compare (.Name x p) [.LtE] [b] pos) (tE X W (mBinL (dLe) i mb)) := dE_cmpL (op_le) (op2_cmpI _) i hp hb hm
theorem gE_LtEP (i : Nat) (hr : Room k X.A) (ha : PE X a (tE X W ma)) (hp : PE X (.Name x p) (tVar i)) (hm : behindInMarks .LtE (.Name x p) = false := by rfl) : PE X (.Compare a [.LtE] [.Name x p] pos) (tE X W (mBinR (dLe) ma i)) := dE_cmpP (op_le) (op2_cmpI _) i ha hp hm
theorem gT_LtE (hr : Room k X.A) (ha : PE X a (tE X W ma)) (hb : PE X b (tE X W mb)) (hm : behindInMarks .LtE b = false := by rfl) : PT X (.Compare a [.LtE] [b] pos) (tT X W (mBin (dLe) ma mb)) := dT_cmp (op_le) (op2_cmpI _) ha hb hm
theorem gT_LtEL (i : Nat) (hr : Room k X.A) (hp : PE X (.Name x p) (tVar i)) (hb : PE X b (tE X W mb)) (hm : behindInMarks .LtE b = false := by rfl) : PT X (.Compare (.Name x p) [.LtE] [b] pos) (tT X W (mBinL (dLe) i mb)) := dT_cmpL (op_le) (op2_cmpI _) i hp hb hm
theorem gT_LtEP (i : Nat) (hr : Room k X.A) (ha : PE X a (tE X W ma)) (hp : PE X (.Name x p) (tVar i)) (hm : behindInMarks .LtE (.Name x p) = false := by rfl) : PT X (.Compare a [.LtE] [.Name x p] pos) (tT X W (mBinR (dLe) ma i)) := dT_cmpP (op_le) (op2_cmpI _) i ha hp hm
theorem gE_Gt (hr : Room k X.A) (ha : PE X a (tE X W ma)) (hb : PE X b (tE X W mb)) (hm : behindInMarks .Gt b = false := by rfl) : PE X (.Compare a [.Gt] [b] pos) (tE X W (mBin (dGt) ma mb)) := dE_cmp (op_gt) (op2_cmpI _) ha hb hm
theorem gE_GtL (i : Nat) (hr : Room k X.A) (hp : PE X (.Name x p) (tVar i)) (hb : PE X b (tE X W mb)) (hm : behindInMarks .Gt b = false := by rfl) : PE X (.Compare (.Name x p) [.Gt] [b] pos) (tE X W (mBinL (dGt) i mb)) := dE_cmpL (op_gt) (op2_cmpI _) i hp hb hm
theorem gE_GtP (i : Nat) (hr : Room k X.A) (ha : PE X a (tE X W ma)) (hp : PE X (.Name x p) (tVar i)) (hm : behindInMarks .Gt (.Name x p) = false := by rfl) : PE X (.Compare a [.Gt] [.Name x p] pos) (tE X W (mBinR (dGt) ma i)) := dE_cmpP (op_gt) (op2_cmpI _) i ha hp hm
theorem gT_Gt (hr : Room k X.A) (ha : PE X a (tE X W ma)) (hb : PE X b (tE X W mb)) (hm : behindInMarks .Gt b = false := by rfl) : PT X (.Compare a [.Gt] [b] pos) (tT X W (mBin (dGt) ma mb)) := dT_cmp (op_gt) (op2_cmpI _) ha hb hm
theorem gT_GtL (i : Nat) (hr : Room k X.A) (hp : PE X (.Name x p) (tVar i)) (hb : PE X b (tE X W mb)) (hm : behindInMarks .Gt b = false := by rfl) : PT X (.Compare (.Name x p) [.Gt] [b] pos) (tT X W (mBinL (dGt) i mb)) := dT_cmpL (op_gt) (op2_cmpI _) i hp hb hm
theorem gT_GtP (i : Nat) (hr : Room k X.A) (ha : PE X a (tE X W ma)) (hp : PE X (.Name x p) (tVar i)) (hm : behindInMarks .Gt (.Name x p) = false := by rfl) : PT X (.Compare a [.Gt] [.Name x p] pos) (tT X W (mBinR (dGt) ma i)) := dT_cmpP (op_gt) (op2_cmpI _) i ha hp hm
theorem gE_GtE (hr : Room k X.A) (ha : PE X a (tE X W ma)) (hb : PE X b (tE X W mb)) (hm : behindInMarks .GtE b = false := by rfl) : PE X (.Compare a [.GtE] [b] pos) (tE X W (mBin (dGe) ma mb)) := dE_cmp (op_ge) (op2_cmpI _) ha hb hm
theorem gE_GtEL (i : Nat) (hr : Room k X.A) (hp : PE X (.Name x p) (tVar i)) (hb : PE X b (tE X W mb)) (hm : behindInMarks .GtE b = false := by rfl) : PE X (.Compare (.Name x p) [.GtE] [b] pos) (tE X W (mBinL (dGe) i mb)) := dE_cmpL (op_ge) (op2_cmpI _) i hp hb hm
theorem gE_GtEP (i : Nat) (hr : Room k X.A) (ha : PE X a (tE X W ma)) (hp : PE X (.Name x p) (tVar i)) (hm : behindInMarks .GtE (.Name x p) = false := by rfl) : PE X (.Compare a [.GtE] [.Name x p] pos) (tE X W (mBinR (dGe) ma i)) := dE_cmpP (op_ge) (op2_cmpI _) i ha hp hm
theorem gT_GtE (hr : Room k X.A) (ha : PE X a (tE X W ma)) (hb : PE X b (tE X W mb)) (hm : behindInMarks .GtE b = false := by rfl) : PT X (.Compare a [.GtE] [b] pos) (tT X W (mBin (dGe) ma mb)) := dT_cmp (op_ge) (op2_cmpI _) ha hb hm
theorem gT_GtEL (i : Nat) (hr : Room k X.A) (hp : PE X (.Name x p) (tVar i)) (hb : PE X b (tE X W mb)) (hm : behindInMarks .GtE b = false := by rfl) : PT X (.Compare (.Name x p) [.GtE] [b] pos) (tT X W (mBinL (dGe) i mb)) := dT_cmpL (op_ge) (op2_cmpI _) i hp hb hm
theorem gT_GtEP (i : Nat) (hr : Room k X.A) (ha : PE X a (tE X W ma)) (hp : PE X (.Name x p) (tVar i)) (hm : behindInMarks .GtE (.Name x p) = false := by rfl) : PT X (.Compare a [.GtE] [.Name x p] pos) (tT X W (mBinR (dGe) ma i)) := dT_cmpP (op_ge) (op2_cmpI _) i ha hp hm
theorem gE_In (hr : Room k X.A) (ha : PE X a (tE X W ma)) (hb : PE X b (tE X W mb)) (hm : behindInMarks .In b = false := by rfl) : PE X (.Compare a [.In] [b] pos) (tE X W (mBin (dIn false) ma mb)) := dE_cmp (op_inA hr.u65) op2_in ha hb hm
theorem gE_InL (i : Nat) (hr : Room k X.A) (hp : PE X (.Name x p) (tVar i)) (hb : PE X b (tE X W mb)) (hm : behindInMarks .In b = false := by rfl) : PE X (.Compare (.Name x p) [.In] [b] pos) (tE X W (mBinL (dIn false) i mb)) := dE_cmpL (op_inA hr.u65) op2_in i hp hb hm
theorem gE_InP (i : Nat) (hr : Room k X.A) (ha : PE X a (tE X W ma)) (hp : PE X (.Name x p) (tVar i)) (hm : behindInMarks .In (.Name x p) = false := by rfl) : PE X (.Compare a [.In] [.Name x p] pos) (tE X W (mBinR (dIn false) ma i)) := dE_cmpP (op_inA hr.u65) op2_in i ha hp hm
theorem gT_In (hr : Room k X.A) (ha : PE X a (tE X W ma)) (hb : PE X b (tE X W mb)) (hm : behindInMarks .In b = false := by rfl) : PT X (.Compare a [.In] [b] pos) (tT X W (mBin (dIn false) ma mb)) := dT_cmp (op_inA hr.u65) op2_in ha hb hm
theorem gT_InL (i : Nat) (hr : Room k X.A) (hp : PE X (.Name x p) (tVar i)) (hb : PE X b (tE X W mb)) (hm : behindInMarks .In b = false := by rfl) : PT X (.Compare (.Name x p) [.In] [b] pos) (tT X W (mBinL (dIn false) i mb)) := dT_cmpL (op_inA hr.u65) op2_in i hp hb hm
theorem gT_InP (i : Nat) (hr : Room k X.A) (ha : PE X a (tE X W ma)) (hp : PE X (.Name x p) (tVar i)) (hm : behindInMarks .In (.Name x p) = false := by rfl) : PT X (.Compare a [.In] [.Name x p] pos) (tT X W (mBinR (dIn false) ma i)) := dT_cmpP (op_inA hr.u65) op2_in i ha hp hm
theorem gE_NotIn (hr : Room k X.A) (ha : PE X a (tE X W ma)) (hb : PE X b (tE X W mb)) (hm : behindInMarks .NotIn b = false := by rfl) : PE X (.Compare a [.NotIn] [b] pos) (tE X W (mBin (dIn true) ma mb)) := dE_cmp (op_notInA hr.u65) op2_notIn ha hb hm
theorem gE_NotInL (i : Nat) (hr : Room k X.A) (hp : PE X (.Name x p) (tVar i)) (hb : PE X b (tE X W mb)) (hm : behindInMarks .NotIn b = false := by rfl) : PE X (.Compare (.Name x p) [.NotIn] [b] pos) (tE X W (mBinL (dIn true) i mb)) := dE_cmpL (op_notInA hr.u65) op2_notIn i hp hb hm
theorem gE_NotInP (i : Nat) (hr : Room k X.A) (ha : PE X a (tE X W ma)) (hp : PE X (.Name x p) (tVar i)) (hm : behindInMarks .NotIn (.Name x p) = false := by rfl) : PE X (.Compare a [.NotIn] [.Name x p] pos) (tE X W (mBinR (dIn true) ma i)) := dE_cmpP (op_notInA hr.u65) op2_notIn i ha hp hm
theorem gT_NotIn (hr : Room k X.A) (ha : PE X a (tE X W ma)) (hb : PE X b (tE X W mb)) (hm : behindInMarks .NotIn b = false := by rfl) : PT X (.Compare a [.NotIn] [b] pos) (tT X W (mBin (dIn true) ma mb)) := dT_cmp (op_notInA hr.u65) op2_notIn ha hb hm
theorem gT_NotInL (i : Nat) (hr : Room k X.A) (hp : PE X (.Name x p) (tVar i)) (hb : PE X b (tE X W mb)) (hm : behindInMarks .NotIn b = false := by rfl) : PT X (.Compare (.Name x p) [.NotIn] [b] pos) (tT X W (mBinL (dIn true) i mb)) := dT_cmpL (op_notInA hr.u65) op2_notIn i hp hb hm
theorem gT_NotInP (i : Nat) (hr : Room k X.A) (ha : PE X a (tE X W ma)) (hp : PE X (.Name x p) (tVar i)) (hm : behindInMarks .NotIn (.Name x p) = false := by rfl) : PT X (.Compare a [.NotIn] [.Name x p] pos) (tT X W (mBinR (dIn true) ma i)) := dT_cmpP (op_notInA hr.u65) op2_notIn i ha hp hm
/-- == where the left one may be of a class with its own == -/
def dEqX (cs : List Str) (cl : Str) (c : List D → RC) (x y : D) : Option D := match dEqO cs cl c x y with
  | some d => some d
  | none => dEq false x y
theorem op2_eqX {K : PySem.W.Frag} {w : World} {cs : List Str} {cl : Str} {c : List D → RC} : Op2 K w (fun x y H Q => rEqO K w cs cl c x y H Q ∨ rEqD K x y H Q) (dEqX cs cl c) := fun F H S1 S2 d1 d2 d x y Q g h1 h2 e k => by
  unfold dEqX at e
  split at e
  · rename_i d' e'
    cases e
    left
    unfold dEqO at e'
    split at e'
    · rename_i m c' fs
      split at e'
      · rename_i hz
        obtain ⟨rfl, z1, z2, ho⟩ := hz
        split at e'
        · rename_i r io hr
          cases e'
          obtain rfl := Rp.fz_nil _ z1 h1
          obtain rfl := Rp.fz_nil _ z2 h2
          refine ⟨F, m, fs, d2, g, h1, h2, ho, F, [.obj m c' fs, d2], [], g, RpL.cons (S1 := []) h1 (RpL.cons (S1 := []) h2 RpL.nil), ?_⟩
          rw [hr]
          intro v F' H' S' st r
          obtain ⟨v', r', T1, T2, e1, rfl, h3, h4⟩ := r.uncons
          cases e1
          refine k v F' H' T1 (st.subR (fun a ha => List.mem_append_left _ ha) ?_) h3
          exact (List.nodup_append.mp st.good.nd).1
        · cases e'
      · cases e'
    · cases e'
  · exact .inr (op2_eq F H S1 S2 d1 d2 d x y Q g h1 h2 e k)
theorem gE_eqX {cs : List Str} {cl : Str} {c : List D → RC} {j : Nat} (hI : IsiF X.K cs) (Fm : EqX X.prog X.w X.K X.mg X.base cs cl j c) (hj : Room j X.A) (ha : PE X a (tE X W ma)) (hb : PE X b (tE X W mb)) (hm : behindInMarks .Eq b = false := by rfl) : PE X (.Compare a [.Eq] [b] pos) (tE X W (mBin (dEqX cs cl c) ma mb)) := dE_cmp ((op_eqO hI Fm hj).or (op_eqD hj.units)) op2_eqX ha hb hm
theorem gT_eqX {cs : List Str} {cl : Str} {c : List D → RC} {j : Nat} (hI : IsiF X.K cs) (Fm : EqX X.prog X.w X.K X.mg X.base cs cl j c) (hj : Room j X.A) (ha : PE X a (tE X W ma)) (hb : PE X b (tE X W mb)) (hm : behindInMarks .Eq b = false := by rfl) : PT X (.Compare a [.Eq] [b] pos) (tT X W (mBin (dEqX cs cl c) ma mb)) := dT_cmp ((op_eqO hI Fm hj).or (op_eqD hj.units)) op2_eqX ha hb hm
/-- three names at once -/
theorem At.parts3 {K : PySem.W.Frag} {w : World} {F : Fset} {H : Hp} {S : List Addr} {σ : L2.St} {e : Env} {d1 d2 d3 : D} {vs : List V} (A : At K w F H e σ [d1, d2, d3] vs S) : ∃ v1 v2 v3, vs = [v1, v2, v3] := by
  obtain ⟨Sd, Se, rfl, h, _, _⟩ := A
  have l := h.length
  match vs, l with
  | [v1, v2, v3], _ => exact ⟨v1, v2, v3, rfl⟩
theorem dS_par3 {i j l : Nat} {x y z : Str} {e1 e2 e3 : Expr} {px py pz pt : Pos} {kt k2 pt2} {ms : M (List D)} (hN : X.N.Nodup) (ha : PA X [e1, e2, e3] (tA X W ms)) (hp : (i ≠ 0 ∧ j ≠ 0 ∧ l ≠ 0) ∨ pn = none) (hi : X.N[i]? = some x := by rfl) (hj : X.N[j]? = some y := by rfl) (hl : X.N[l]? = some z := by rfl) (hij : i ≠ j := by decide) (hil : i ≠ l := by decide) (hjl : j ≠ l := by decide) (hc : X.calm = true := by rfl)
    (hx : X.env.scope.names.lookup x = some .local := by rfl) (hy : X.env.scope.names.lookup y = some .local := by rfl) (hz : X.env.scope.names.lookup z = some .local := by rfl)
    (hw : swappedStores [.Tuple [.Name x px, .Name y py, .Name z pz] kt pt] (.Tuple [e1, e2, e3] k2 pt2) X.env = pure (some [x, y, z]) := by rfl)
    (hs : swapsWithSole [.Tuple [.Name x px, .Name y py, .Name z pz] kt pt] (.Tuple [e1, e2, e3] k2 pt2) pos.line X.env = pure false := by rfl) :
    PS X (.Assign [.Tuple [.Name x px, .Name y py, .Name z pz] kt pt] (.Tuple [e1, e2, e3] k2 pt2) pos) (tS X pn W (mPar3 i j l ms)) := PSimp (ps_par3 hc hN hi hj hl hij hil hjl hx hy hz ha hw hs) fun Dd σ H q => by
  obtain ⟨F, e, S, A, p, q⟩ := q
  refine tA_mono (stA A p (Step.refl A.good) q) fun vs H' z => ?_
  obtain ⟨ds, F2, e2, S2, st, B, k⟩ := z
  match ds, k with
  | [d1, d2, d3], k =>
    obtain ⟨v1, v2, v3, rfl⟩ := B.parts3
    refine ⟨v1, v2, v3, rfl, ?_⟩
    simp only at k
    split at k
    · rename_i hl
      obtain ⟨S3, B3, st3⟩ := B.store hl.1
      obtain ⟨S4, B4, st4⟩ := B3.store (i := j) (by rw [List.length_set]; exact hl.2.1)
      obtain ⟨S5, B5, st5⟩ := B4.store (i := l) (by rw [List.length_set, List.length_set]; exact hl.2.2)
      exact k _ F2 H' S5 (((st.trans st3).trans st4).trans st5) B5 (((p.set (hp.imp (·.1) id)).set (hp.imp (·.2.1) id)).set (hp.imp (·.2.2) id))
    · exact k.elim
end
end Pl
set_option Elab.async false
set_option linter.all false
set_option maxRecDepth 100000
set_option maxHeartbeats 1000000
/-! Pl: short words for what a clause's suite says. -/
namespace Pl
open PySem PySem.Spec PyProof.Rows L2
abbrev xC (d : D) : Exn → Option D := fun _ => some d
abbrev xFld (f : Str) : Exn → Option D := fun x => x.fs.lookup f
abbrev xIs (C : Str) : Exn → Option Bool := fun x => some (isSubX x.cls C)
abbrev xIsD (C : Str) : Exn → Option D := fun x => some (.bl (isSubX x.cls C))
abbrev xIte (gc : Exn → Option Bool) (gy gz : Exn → Option D) : Exn → Option D := fun x => (gc x).bind fun b => if b = true then gy x else gz x
abbrev xNil : Exn → Option (List D) := fun _ => some []
abbrev xCons (g : Exn → Option D) (gs : Exn → Option (List D)) : Exn → Option (List D) := fun x => (g x).bind fun r => (gs x).map fun rs => r :: rs
abbrev xLst (gs : Exn → Option (List D)) : Exn → Option D := fun x => (gs x).map (D.lst true)
def mHd (j : Nat) (g : Exn → Option D) (x : Exn) : M Fl := mSet j fun e => R.of (g x) e
theorem xNil_len (x : Exn) (rs : List D) (h : xNil x = some rs) : rs.length = 0 := by cases h; rfl
theorem xCons_len {g : Exn → Option D} {gs : Exn → Option (List D)} {n : Nat} (k : ∀ x rs, gs x = some rs → rs.length = n) (x : Exn) (rs : List D) (h : xCons g gs x = some rs) : rs.length = n + 1 := by
  unfold xCons at h
  cases h1 : g x with
  | none => rw [h1] at h; cases h
  | some r =>
    cases h2 : gs x with
    | none => rw [h1, h2] at h; cases h
    | some rr =>
      rw [h1, h2] at h
      cases h
      rw [List.length_cons, k x rr h2]
end Pl
set_option Elab.async false
set_option linter.all false
set_option maxRecDepth 100000
set_option maxHeartbeats 1000000
/-! Pl: the head: what the written part says, asked by Bools. -/
namespace Pl
open PySem PySem.Spec PyProof.Rows L2 PySem.W
open He (ga ma eqO eqO_ok ba)

/-! ### classes -/
def oexB (K : Frag) (C : Addr) : Bool := (match K.lookup C with
  | some ⟨.type "type", _, .cls cd, sl⟩ => (match cd.mro, sl.toList with
    | .ref C' :: bm, [_, _, _, _, some (.builtin n), _] => C' == C && n == "ValueError.__new__" && !cd.hasDel && cd.hasDict && PySem.HandSPX.refsVE bm
    | _, _ => false)
  | _ => false) && (eqO (findIn K (.ref C) "__setattr__") (some (some (.builtin "object.__setattr__"))) && (decide (subIn K (.ref C) (.type "BaseException") = some true) && (decide (typeIn K (.ref C) = some (.type "type")) && keepIn K (.ref C))))
theorem oexB_ok {K : Frag} {C : Addr} (h : oexB K C = true) : OexC K C := by
  obtain ⟨q, h⟩ := ba h
  obtain ⟨h2, h⟩ := ba h
  obtain ⟨h3, h⟩ := ba h
  obtain ⟨h4, h5⟩ := ba h
  refine ⟨?_, eqO_ok h2, of_decide_eq_true h3, of_decide_eq_true h4, h5⟩
  split at q
  · rename_i dd cd sl ho
    split at q
    · rename_i C' bm k0 k1 k2 k3 n k5 hm hs
      simp only [Bool.and_eq_true, beq_iff_eq, Bool.not_eq_true'] at q
      obtain ⟨⟨⟨⟨rfl, rfl⟩, hdel⟩, hdc⟩, ht⟩ := q
      obtain ⟨nm, bs, mro, ns, qn, hd, sn, sub, ab, col, del⟩ := cd
      dsimp only at hm hdel hdc
      subst hm hdel hdc
      have hsl : sl = #[k0, k1, k2, k3, some (.builtin "ValueError.__new__"), k5] := by
        obtain ⟨l⟩ := sl
        simp only at hs
        rw [hs]
      subst hsl
      exact ⟨_, _, _, _, _, _, _, _, _, _, _, _, _, _, _, ho, ht⟩
    · cases q
  · cases q
def isiB (K : Frag) (cs : List Str) : Bool := cs.all fun c =>
  (He.Fa.cls c).ok K && (eqO (findIn K (.ref (ga K c)) "__class__") (some (some (.builtin "object.__class__"))) && (decide (mroIn K (ga K c) (.type "object") = some true) &&
    ((askTy.all fun n => decide (kitOne K (.ref (ga K c)) (.type n) = some false)) && ((hasTy.all fun n => decide (kitOne K (.type n) (.ref (ga K c)) = some false)) && cs.all fun c' => decide (kitOne K (.ref (ga K c)) (.ref (ga K c')) = some (c == c'))))))
def hnB (K : Frag) : Bool := eqO (specialIn K (.builtin "object.__class__") "__get__") (some (some (.builtin "getset_descriptor.__get__"))) && decide (takesIn K (.builtin "object.__class__") = some true)
theorem isiB_ok {K : Frag} {cs : List Str} (h : isiB K cs = true) (hn : hnB K = true) : IsiF K cs := by
  obtain ⟨n1, n2⟩ := ba hn
  have k : ∀ c, cs.contains c = true → _ := fun c hc => List.all_eq_true.mp h c (List.contains_iff_mem.mp hc)
  refine ⟨fun c hc => ?_, fun c hc n hn => ?_, fun c hc n hn => ?_, fun c c' hc hc' => ?_⟩
  · obtain ⟨a1, q⟩ := ba (k c hc)
    obtain ⟨a2, q⟩ := ba q
    obtain ⟨a3, q⟩ := ba q
    exact ⟨He.cls_ok a1, eqO_ok a2, eqO_ok n1, of_decide_eq_true n2, of_decide_eq_true a3⟩
  · obtain ⟨a1, q⟩ := ba (k c hc)
    obtain ⟨a2, q⟩ := ba q
    obtain ⟨a3, q⟩ := ba q
    obtain ⟨a4, q⟩ := ba q
    exact of_decide_eq_true (List.all_eq_true.mp a4 n hn)
  · obtain ⟨a1, q⟩ := ba (k c hc)
    obtain ⟨a2, q⟩ := ba q
    obtain ⟨a3, q⟩ := ba q
    obtain ⟨a4, q⟩ := ba q
    obtain ⟨a5, q⟩ := ba q
    exact of_decide_eq_true (List.all_eq_true.mp a5 n hn)
  · obtain ⟨a1, q⟩ := ba (k c hc)
    obtain ⟨a2, q⟩ := ba q
    obtain ⟨a3, q⟩ := ba q
    obtain ⟨a4, q⟩ := ba q
    obtain ⟨a5, q⟩ := ba q
    exact of_decide_eq_true (List.all_eq_true.mp q c' (List.contains_iff_mem.mp hc'))
def fldB (K : Frag) (cs : List Str) (f : Str) : Bool := cs.all fun c => (He.Fa.cls c).ok K && (He.Fa.noat c f).ok K
theorem fldB_ok {K : Frag} {cs : List Str} {f : Str} (h : fldB K cs f = true) : FldF K cs f := ⟨fun c hc => by
  obtain ⟨a, b⟩ := ba (List.all_eq_true.mp h c (List.contains_iff_mem.mp hc))
  exact ⟨He.cls_ok a, He.noat_ok b⟩⟩
def prB (K : Frag) (c m : Str) (p g : Addr) : Bool := (He.Fa.cls c).ok K && (eqO (findIn K (.ref (ga K c)) m) (some (some (.ref p))) && (eqO (specialIn K (.ref p) "__get__") (some (some (.builtin "property.__get__"))) && (decide (takesIn K (.ref p) = some true) && (match recIn K p "property" with
  | some (.ref g' :: _) => decide (g' = g)
  | _ => false))))
theorem prB_ok {K : Frag} {c m : Str} {p g : Addr} (h : prB K c m p g = true) : Cls K (ga K c) ∧ PropOf K (ga K c) m p g := by
  obtain ⟨a1, q⟩ := ba h
  obtain ⟨a2, q⟩ := ba q
  obtain ⟨a3, q⟩ := ba q
  obtain ⟨a4, q⟩ := ba q
  refine ⟨He.cls_ok a1, eqO_ok a2, eqO_ok a3, of_decide_eq_true a4, ?_⟩
  split at q
  · rename_i g' r e
    have z : g' = g := of_decide_eq_true q
    subst z
    exact ⟨r, e⟩
  · cases q
/-- a property's getter -/
def prG (K : Frag) (c m : Str) : Addr := match recIn K (ma K (ga K c) m) "property" with
  | some (.ref g :: _) => g
  | _ => 0
def eqB (K : Frag) (cs : List Str) (c : Str) : Bool := eqO (findIn K (.ref (ga K c)) "__eq__") (some (some (.ref (ma K (ga K c) "__eq__")))) && (isFn K (.ref (ma K (ga K c) "__eq__")) && ((hasTy.all fun n => notFirst K (ga K c) (.type n)) && cs.all fun c' => notFirst K (ga K c) (.ref (ga K c'))))
/-! ### constants -/
inductive KD where
  | int (i : Int)
  | strs (l : List Str)
def KD.d : KD → D
  | .int i => .int i
  | .strs l => .tup (l.map D.str)
def KD.ok (K : Frag) (x : Str) : KD → Bool
  | .int i => (He.Fa.int x i).ok K
  | .strs l => (He.Fa.glo x).ok K && He.tupB K x (l.map He.Dv.str)
theorem rpL_dvs {K : Frag} {w : World} {F : Fset} {H : Hp} : ∀ l : List Str, RpL K w F H (l.map D.str) ((l.map He.Dv.str).map (He.Dv.v K)) []
  | [] => RpL.nil
  | x :: r => RpL.cons (S1 := []) (d := .str x) (v := .str x) ⟨rfl, rfl⟩ (rpL_dvs r)
theorem KD.glo {K : Frag} {w : World} {h : Heap} {mg : Str → Option Value} {x : Str} (X : K.In h) (G : h.Ns mainGlobals mg) : ∀ {k : KD}, k.ok K x = true → GloD K w mg x k.d
  | .int i, c => by
    obtain ⟨t, e⟩ := He.int_ok X G c
    exact ⟨.int i, _, e, ⟨t, rfl⟩, fun _ _ => ⟨rfl, rfl⟩⟩
  | .strs l, c => by
    obtain ⟨a, b⟩ := ba c
    exact ⟨.ref (ga K x), _, He.glo_ok X G a, rfl, fun F H => by
      unfold KD.d
      rw [Rp]
      exact ⟨_, _, rfl, He.tupB_ok b H, rpL_dvs l⟩⟩
/-! ### exceptions -/
def exsB (K : Frag) (exs : List Str) : Bool := hnB K && ((("LetterError" : Str) :: exs).all fun C => (He.Fa.glo C).ok K) && exs.all fun c =>
  ((("LetterError" : Str) :: exs).all fun C => decide (exmOne K (.ref (ga K c)) (.ref (ga K C)) = some (isSubX c C)) && decide (kitOne K (.ref (ga K c)) (.ref (ga K C)) = some (isSubX c C))) &&
  ((clsIn K (ga K c)).isSome && (eqO (findIn K (.ref (ga K c)) "__getattribute__") (some (some (.builtin "BaseException.__getattribute__"))) && (eqO (findIn K (.ref (ga K c)) "__getattr__") (some none) && (decide (subIn K (.ref (ga K c)) (.type "BaseException") = some true) &&
    (eqO (findIn K (.ref (ga K c)) "__class__") (some (some (.builtin "object.__class__"))) && (decide (mroIn K (ga K c) (.type "object") = some true) && (hasDictIn K (ga K c) && ((["index", "line"] : List Str).all fun f => eqO (findIn K (.ref (ga K c)) f) (some none)))))))))
theorem exsB_ok {K : Frag} {h : Heap} {mg : Str → Option Value} {exs : List Str} (X : K.In h) (G : h.Ns mainGlobals mg) (q : exsB K exs = true) : ExS K mg exs := by
  obtain ⟨q, q3⟩ := ba q
  obtain ⟨q1, q2⟩ := ba q
  obtain ⟨n1, n2⟩ := ba q1
  have k : ∀ c ∈ exs, _ := fun c hc => ba (List.all_eq_true.mp q3 c hc)
  refine ⟨fun c hc C hC => ?_, fun c hc C hC => ?_, fun c hc => ?_, eqO_ok n1, of_decide_eq_true n2, fun C hC => He.glo_ok X G (List.all_eq_true.mp q2 C hC)⟩
  · exact of_decide_eq_true (ba (List.all_eq_true.mp (k c hc).1 C hC)).1
  · exact of_decide_eq_true (ba (List.all_eq_true.mp (k c hc).1 C hC)).2
  · obtain ⟨a1, r⟩ := ba (k c hc).2
    obtain ⟨a2, r⟩ := ba r
    obtain ⟨a3, r⟩ := ba r
    obtain ⟨a4, r⟩ := ba r
    obtain ⟨a5, r⟩ := ba r
    obtain ⟨a6, r⟩ := ba r
    obtain ⟨a7, r⟩ := ba r
    exact ⟨a1, eqO_ok a2, eqO_ok a3, of_decide_eq_true a4, eqO_ok a5, of_decide_eq_true a6, a7, fun f hf => eqO_ok (List.all_eq_true.mp r f hf)⟩
/-- an own exception's __init__ -/
structure ExD where
  cl : Str
  fld : Option Str
  params : Arguments
  body : List Stmt
  scope : Scope
abbrev ExV : Type := Option (Arguments × FuncBody × Scope × Addr × List Str × Addr)
def ExD.fI (K : Frag) (d : ExD) : Addr := ma K (ga K d.cl) "__init__"
def ExD.obs (K : Frag) (d : ExD) : ExV := match K.lookup (d.fI K) with
  | some ⟨_, _, .func fd, _⟩ => some (fd.params, fd.body, fd.scope, fd.globals, fd.closure.map (·.1), fd.builtins)
  | _ => none
def ExD.val (d : ExD) : ExV := some (d.params, .stmts d.body, d.scope, mainGlobals, ["__class__"], builtinsNs)
def ExD.fnB (file : Str) (K : Frag) (d : ExD) : Bool := match K.lookup (d.fI K) with
  | some ⟨_, _, .func fd, _⟩ => codeIn K fd.code fd.qualname && ((match fd.closure with
    | [(_, cc)] => (match K.lookup cc with
      | some ⟨_, _, .cell (some (.ref C')), _⟩ => decide (C' = ga K d.cl)
      | _ => false)
    | _ => false) && (match fd.code with
    | .ref cda => (match K.lookup cda with
      | some ⟨_, _, .fields vs, _⟩ => (match (vs[2]? : Option Value) with
        | some (Value.str f _) => file == f
        | _ => false)
      | _ => false)
    | _ => false) && He.dflB K fd.defaults [])
  | _ => false
def ExD.ok (file : Str) (K : Frag) (d : ExD) : Bool := d.fnB file K && (oexB K (ga K d.cl) && ((He.Fa.glo d.cl).ok K && (eqO (findIn K (.ref (ga K d.cl)) "__init__") (some (some (.ref (d.fI K)))) && (decide (typeIn K (.ref (d.fI K)) = some (.type "function")) &&
  (eqO (ks_superIn K (ga K d.cl) (ga K d.cl) "__init__") (some (some (.builtin "ValueError.__init__"))) && (decide (subIn K (.ref (ga K d.cl)) (.type "ValueError") = some true) && (decide (subIn K (.ref (ga K d.cl)) (.ref (ga K d.cl)) = some true) &&
    (eqO (nsIn K cStatics "thirdparty.any") (some none) && (match d.fld with
    | none => true
    | some f => eqO (findIn K (.ref (ga K d.cl)) f) (some none) && (!(f == ("__debug__" : Str)) && !(f == ("self" : Str))))))))))))
/-- what the text says of such an __init__ -/
structure ExD.Text (P : Program) (d : ExD) : Prop where
  body : ExBody d.fld d.body
  binds : ∀ fd : FuncData, fd.params = d.params → fd.defaults = .none → ∀ vs : List Value, vs.length = (exNames d.fld).length → bindArgs fd ⟨vs, []⟩ = pure ((exNames d.fld).zip vs)
  head : ∃ ar : Arg, (d.params.posonlyargs ++ d.params.args).head? = some ar ∧ ar.arg = "self"
  kind : d.scope.kind = .function
  co : d.scope.isCoroutine = false
  gen : d.scope.isGenerator = false
  cell : ∀ x ∈ d.scope.names, x.2 ≠ .cell
  loc : ∀ y ∈ exNames d.fld, d.scope.names.lookup y = some .local
  sup : d.scope.names.lookup ("super" : Str) = some .globalImplicit
  clc : d.scope.names.lookup ("__class__" : Str) = some .free
  top : (P.main.scope.names.lookup ("super" : Str)).isSome = false
theorem ExD.exX {P : Program} {K : Frag} {h : Heap} {mg : Str → Option Value} {d : ExD} (X : K.In h) (G : h.Ns mainGlobals mg) (T : d.Text P) (e : d.obs K = d.val) (c : d.ok P.main.file K = true) (fs : (He.Fa.free "super").ok K = true) : ExX P K mg d.cl d.fld := by
  obtain ⟨c1, c⟩ := ba c
  obtain ⟨c2, c⟩ := ba c
  obtain ⟨c3, c⟩ := ba c
  obtain ⟨c4, c⟩ := ba c
  obtain ⟨c5, c⟩ := ba c
  obtain ⟨c6, c⟩ := ba c
  obtain ⟨c7, c⟩ := ba c
  obtain ⟨c8, c⟩ := ba c
  obtain ⟨c9, c10⟩ := ba c
  refine ⟨He.glo_ok X G c3, d.fI K, oexB_ok c2, ?_, eqO_ok c4, of_decide_eq_true c5, eqO_ok c6, of_decide_eq_true c7, of_decide_eq_true c8, eqO_ok c9, T.top, He.free_ok X G fs, ?_⟩
  · unfold ExD.fnB at c1
    unfold ExD.obs ExD.val at e
    split at c1
    · rename_i oc od fd osl q
      rw [q] at e
      obtain ⟨k1, k⟩ := ba c1
      obtain ⟨k, k4⟩ := ba k
      obtain ⟨k2, k3⟩ := ba k
      have hdf : fd.defaults = .none := by
        rcases He.dflB_ok k4 with ⟨_, e⟩ | ⟨e, _⟩
        · exact e
        · exact absurd rfl e
      have e2 : (some (fd.params, fd.body, fd.scope, fd.globals, fd.closure.map (·.1), fd.builtins) : ExV) = some (d.params, FuncBody.stmts d.body, d.scope, mainGlobals, [("__class__" : Str)], builtinsNs) := e
      simp only [Option.some.injEq, Prod.mk.injEq] at e2
      obtain ⟨h1, h2, h3, h4, h5, h6⟩ := e2
      split at k2
      · rename_i nm cc hcl
        rw [hcl] at h5
        have hn : nm = "__class__" := (List.cons.inj h5).1
        subst hn
        split at k2
        · rename_i cl cld C' csl hcc
          have hC : C' = ga K d.cl := of_decide_eq_true k2
          subst hC
          split at k3
          · rename_i cda hcd
            split at k3
            · rename_i ccl cdd vs ccs hcda
              split at k3
              · rename_i f tf hv
                obtain ⟨ar, ha1, ha2⟩ := T.head
                exact ⟨oc, od, osl, fd, d.body, cc, cl, cld, csl, cda, ccl, cdd, vs, ccs, f, tf, ar, q, h2, T.body, hcl, hcc, hcd, k1, hcda, hv, k3, h4, h6, T.binds fd h1 hdf, by rw [h1]; exact ha1, ha2, by rw [h3]; exact T.kind, by rw [h3]; exact T.co, by rw [h3]; exact T.gen, by rw [h3]; exact T.cell, by rw [h3]; exact T.loc, by rw [h3]; exact T.sup, by rw [h3]; exact T.clc⟩
              · cases k3
            · cases k3
          · cases k3
        · cases k2
      · cases k2
    · cases c1
  · intro f hf
    rw [hf] at c10
    obtain ⟨m1, m2⟩ := ba c10
    obtain ⟨m2, m3⟩ := ba m2
    refine ⟨eqO_ok m1, by simpa using m2, fun z => ?_⟩
    rw [z] at m3
    exact absurd m3 (by decide)
/-! ### defs -/
/-- a def: where it stands, its name, its qualified name, its place in the text -/
structure DfP where
  ad : Frag → Addr
  name : Str
  qual : Str
  params : Arguments
  body : List Stmt
  scope : Scope
def DfP.obs (K : Frag) (d : DfP) : He.FnW := match K.lookup (d.ad K) with
  | some ⟨_, _, .func fd, _⟩ => some (fd.name, fd.qualname, fd.params, fd.body, fd.scope, fd.globals, fd.closure, fd.builtins)
  | _ => none
def DfP.val (d : DfP) : He.FnW := some (d.name, d.qual, d.params, .stmts d.body, d.scope, mainGlobals, [], builtinsNs)
def DfP.ok (K : Frag) (d : DfP) : Bool := keepIn K (.ref (d.ad K)) && (match K.lookup (d.ad K) with
  | some ⟨_, _, .func fd, _⟩ => codeIn K fd.code d.qual && He.dflB K fd.defaults []
  | _ => false)
theorem DfP.funD {K : Frag} {d : DfP} (e : d.obs K = d.val) (c : d.ok K = true) : ∃ fd, FunD K d.name d.qual d.params d.body d.scope [] [] (d.ad K) fd := by
  obtain ⟨kp, c2⟩ := ba c
  unfold DfP.obs at e
  cases q : K.lookup (d.ad K) with
  | none =>
    rw [q] at c2
    cases c2
  | some o =>
    obtain ⟨oc, od, dt, osl⟩ := o
    rw [q] at c2 e
    cases dt with
    | func fd =>
      obtain ⟨n1, n2, n3, n4, n5, n6, n7, n8, n9, n10, n11, n12, n13, n14, n15⟩ := fd
      have e2 : (some (n1, n2, n3, n4, n5, n6, n7, n15) : He.FnW) = some (d.name, d.qual, d.params, FuncBody.stmts d.body, d.scope, mainGlobals, [], builtinsNs) := e
      simp only [Option.some.injEq, Prod.mk.injEq] at e2
      obtain ⟨h1, h2, h3, h4, h5, h6, h7, h8⟩ := e2
      subst h1 h2 h3 h4 h5 h6 h7 h8
      obtain ⟨k1, k2⟩ := ba (show (codeIn K n13 d.qual && He.dflB K n8 []) = true from c2)
      exact ⟨_, ⟨oc, od, n8, n9, n10, n11, n12, n13, n14, osl, rfl, q, k1, He.dflB_ok k2, .inl rfl⟩, kp⟩
    | _ => cases c2
def topD (x : Str) (st : Stmt) : DfP := ⟨fun K => ga K x, x, x, defArgs st, defBody st, defScope st⟩
def methD (c m q : Str) (st : Stmt) : DfP := ⟨fun K => ma K (ga K c) m, m, q, defArgs st, defBody st, defScope st⟩
def propD (c m q : Str) (st : Stmt) : DfP := ⟨fun K => prG K c m, m, q, defArgs st, defBody st, defScope st⟩
/-! ### the Hook -/
abbrev AlP : Type := Bool × List He.FnW × List ExV
def asP (g : Addr → Option Obj) : Nat → List Addr
  | 0 => [mainGlobals, cStatics]
  | n + 1 => He.growD g (asP g n)
def obsPK (ex : Frag → Bool) (fn : List DfP) (xs : List ExD) (K : Frag) : AlP := (ex K && fn.all fun d => d.ok K, fn.map fun d => d.obs K, xs.map fun d => d.obs K)
def valP (fn : List DfP) (xs : List ExD) : AlP := (true, fn.map DfP.val, xs.map ExD.val)
def SaysP (ex : Frag → Bool) (fn : List DfP) (xs : List ExD) (K : Frag) : Prop := obsPK ex fn xs K = valP fn xs
def obsPG (n : Nat) (ex : Frag → Bool) (fn : List DfP) (xs : List ExD) (g : Addr → Option Obj) : AlP := obsPK ex fn xs (He.frG g (asP g n))
def hookP (n : Nat) (ex : Frag → Bool) (fn : List DfP) (xs : List ExD) : Hook where
  α := AlP
  obs := fun s => obsPG n ex fn xs s.heap.get?
  val := fun _ => valP fn xs
  says := fun _ h => ∃ K : Frag, K.In h ∧ SaysP ex fn xs K
  of := fun _ _ e => ⟨_, He.frG_in, e⟩
  keeps := fun _ _ _ ⟨K, hK, c⟩ k => ⟨K, Frag.In.keeps hK k, c⟩
theorem obsPG_eq {n : Nat} {ex : Frag → Bool} {fn : List DfP} {xs : List ExD} {g : Addr → Option Obj} {s : Shared} (h : ∀ a, g a = s.heap.get? a) : obsPG n ex fn xs g = (hookP n ex fn xs).obs s := by
  have e : g = s.heap.get? := funext h
  rw [e] <;> rfl
section
variable {ex : Frag → Bool} {fn : List DfP} {xs : List ExD} {K : Frag}
theorem SaysP.more (c : SaysP ex fn xs K) : ex K = true := (ba (show (ex K && fn.all fun d => d.ok K) = true from congrArg (fun z : AlP => z.1) c)).1
theorem SaysP.def_ (c : SaysP ex fn xs K) (i : Nat) {d : DfP} (h : fn[i]? = some d := by rfl) : ∃ fd, FunD K d.name d.qual d.params d.body d.scope [] [] (d.ad K) fd := by
  have c2 := (ba (show (ex K && fn.all fun d => d.ok K) = true from congrArg (fun z : AlP => z.1) c)).2
  have e : fn.map (fun d => d.obs K) = fn.map DfP.val := congrArg (fun z : AlP => z.2.1) c
  have e2 : (fn.map fun d => d.obs K)[i]? = (fn.map DfP.val)[i]? := by rw [e]
  rw [List.getElem?_map, List.getElem?_map, h] at e2
  exact DfP.funD (Option.some.inj e2) (List.all_eq_true.mp c2 d (List.mem_of_getElem? h))
theorem SaysP.exc (c : SaysP ex fn xs K) (i : Nat) {d : ExD} (h : xs[i]? = some d := by rfl) : d.obs K = d.val := by
  have e : xs.map (fun d => d.obs K) = xs.map ExD.val := congrArg (fun z : AlP => z.2.2) c
  have e2 : (xs.map fun d => d.obs K)[i]? = (xs.map ExD.val)[i]? := by rw [e]
  rw [List.getElem?_map, List.getElem?_map, h] at e2
  exact Option.some.inj e2
end
end Pl
set_option Elab.async false
set_option linter.all false
set_option maxRecDepth 100000
set_option maxHeartbeats 1000000
/-! Pl: from the head's facts and the derivations to what the callers take; the law at its script. -/
namespace Pl
open PySem PySem.Spec PyProof.Rows L2 PySem.W
open He (ga ma eqO eqO_ok ba)
section
variable {P : Program} {w : World} {K : Frag} {mg : Str → Option Value} {base h : Heap} {x cl m : Str} {k n : Nat} {c : List D → RC} {fd : FuncData} {ps : List Str}
theorem fnX_of {f : Addr} (X : K.In h) (G : h.Ns mainGlobals mg) (g : (He.Fa.glo x).ok K = true) (hf : f = ga K x) (kp : keepIn K (.ref f) = true) (b : Binds K fd ps []) (F : FnOk P w K mg base (L2.CX P w) k f fd ps (SpD K w n c)) : FnX P w K mg base x k n c := by
  subst hf
  exact ⟨_, _, _, He.glo_ok X G g, kp, b, F⟩
theorem mtX_of (c1 : (He.Fa.cls cl).ok K = true) (c2 : (He.Fa.meth cl m).ok K = true) (b : Binds K fd ps []) (F : FnOk P w K mg base (L2.CX P w) k (ma K (ga K cl) m) fd ps (SpD K w n c)) : MtX P w K mg base cl m k n c := ⟨_, _, _, He.cls_ok c1, He.meth_ok c2, b, F⟩
theorem mkX_of (X : K.In h) (G : h.Ns mainGlobals mg) (g : (He.Fa.glo cl).ok K = true) (c1 : (He.Fa.mkr cl).ok K = true) (b : Binds K fd ps []) (F : FnOk P w K mg base (L2.CX P w) k (ma K (ga K cl) "__init__") fd ps (SpD K w 1 c)) : MkX P w K mg base cl k c := ⟨_, _, _, He.glo_ok X G g, He.mkr_ok c1, b, F⟩
theorem prX_of (c1 : prB K cl m (ma K (ga K cl) m) (prG K cl m) = true) (b : Binds K fd ps []) (F : FnOk P w K mg base (L2.CX P w) k (prG K cl m) fd ps (SpD K w 0 c)) : PrX P w K mg base cl m k c := ⟨_, _, _, _, (prB_ok c1).1, (prB_ok c1).2, b, F⟩
theorem eqX_of {cs : List Str} (c1 : eqB K cs cl = true) (b : Binds K fd ps []) (F : FnOk P w K mg base (L2.CX P w) k (ma K (ga K cl) "__eq__") fd ps (SpD K w 0 c)) : EqX P w K mg base cs cl k c := by
  obtain ⟨a1, q⟩ := ba c1
  obtain ⟨a2, q⟩ := ba q
  obtain ⟨a3, a4⟩ := ba q
  exact ⟨⟨_, _, _, eqO_ok a1, a2, b, F⟩, fun n hn => List.all_eq_true.mp a3 n hn, fun c hc => List.all_eq_true.mp a4 c hc⟩
/-- no fuel -/
theorem fail_of {f : Addr} {x qual : Str} {params : Arguments} {body : List Stmt} {scope : Scope} {N ps : List Str} (F : FunD K x qual params body scope [] [] f fd) (S : FnScope N ps scope) (j : Nat) : FnOk P w K mg base (L2.CX P w) (j + 1) f fd ps (SpD K w 0 fun _ => .fail) := by
  refine FnOk.imp (FnOk.mono (fnOk_of (k := 0) (n := 0) (m := fun _ => .fail) F S ⟨by decide, Nat.zero_le _⟩ fun cdv A outer s H E pn W hr hp tk => ⟨fun pins s σ H D I q => ?_⟩) (by omega)) fun vs H Q E q => ?_
  · obtain ⟨F, e, S, A, p, z⟩ := q
    exact z.elim
  · obtain ⟨F, ds, S, g, r, z⟩ := q
    exact z.elim
/-- the law at its script -/
theorem spD_law {H : Hp} {a : Addr} {ns : List Int} (hO : Only H) (hS : SqL K H a (ns.map V.int)) (hc : ∃ io, c [.scr ns] = .ok (.bl true) io) : SpD K w 0 c [.ref a] H (fun v _ => v = .bl true) fun _ _ _ => False := by
  obtain ⟨io, hc⟩ := hc
  refine ⟨fun _ => False, [.scr ns], [], ⟨List.nodup_nil, fun a ha => (nomatch ha), fun a ha => ha.elim⟩, ?_, ?_⟩
  · refine RpL.cons (S1 := []) (S2 := []) (vs := []) ?_ RpL.nil
    rw [Rp]
    refine ⟨a, rfl, ?_, rfl⟩
    rcases hS with (z | z) | z
    · rcases hO a with q | ⟨o, xs, q⟩
      · rw [q] at z; cases z
      · rw [q] at z; cases z
    · exact .inl z
    · exact .inr z
  · rw [hc]
    intro v F' H' S' st r
    obtain ⟨v', r', S1, S2, e1, e2, h1, h2⟩ := r.uncons
    cases e1
    exact h1.1
end
end Pl
set_option Elab.async false
set_option linter.all false
set_option maxRecDepth 100000
set_option maxHeartbeats 1000000
/-! Pu: the functions that the laws share, as plain functions. -/
namespace Pu
open PySem PySem.Spec PyProof.Rows L2 Pl
def k_MARKS : D := (.tup [(.str "a"), (.str "b"), (.str "c")])
def k_MOST_COUNT : D := (.int 3)
def k_MOST_ROWS : D := (.int 4)
def k_MOST_TESTS : D := (.int 2)
def k_MOST_SENDS : D := (.int 2)
def k_PLACES : D := (.tup [(.str "all"), (.str "back")])
def m_is_integer (cs : List Str) : M Fl :=
  mRet (mAnd (mUn (dIsT cs "int") (mVar 0)) (mAnd (mNot (mUn (dIsT cs "bool") (mVar 0))) (mChI (fun i j => decide (i ≤ j)) (fun i j => decide (i ≤ j)) (mVar 1) (mVar 0) (mVar 2))))
def c_is_integer (cs : List Str) : List D → RC := runF 0 3 3 (m_is_integer cs)
def m_is_one_of (cs : List Str) : M Fl :=
  mRet (mAnd (mUn (dIsT cs "str") (mVar 0)) (mBin (dIn false) (mVar 0) (mVar 1)))
def c_is_one_of (cs : List Str) : List D → RC := runF 0 2 2 (m_is_one_of cs)
def m_are_marks (cs : List Str) : M Fl :=
  mSeq (mIf (mOr (mNot (mUn (dIsT cs "tuple") (mVar 0))) (mNot (mB (one dAll) (mCons (mLc (mIt (mVar 0)) (.nm 1) [1] (mC (.bl true)) (mCall (c_is_one_of cs) (mCons (mVar 1) (mCons (mC k_MARKS) (mNil))))) mNil)))) (mRet (mC (.bl false))) (mNext)) <|
  mRet (mB (one dAll) (mCons (mLc (mZip (mCons (mVar 0) (mCons (mSlice (mVar 0) (mPart (mC (.int 1))) (mNoPart)) (mNil)))) (.tp [.nm 2, .nm 3]) [2, 3] (mC (.bl true)) (mBin (dLt) (mVar 2) (mVar 3))) mNil))
def c_are_marks (cs : List Str) : List D → RC := runF 0 1 4 (m_are_marks cs)
def m_is_test (cs : List Str) : M Fl :=
  mSeq (mIf (mOr (mNot (mUn (dIsT cs "tuple") (mVar 0))) (mBin (dEq true) (mB (one dLen) (mCons (mVar 0) mNil)) (mC (.int 2)))) (mRet (mC (.bl false))) (mNext)) <|
  mSeq (mIf (mCall (c_is_one_of cs) (mCons (mBin dIdx (mVar 0) (mC (.int 0))) (mCons (mTup (mCons (mC (.str "has")) (mCons (mC (.str "lacks")) (mNil)))) (mNil)))) (mRet (mCall (c_is_one_of cs) (mCons (mBin dIdx (mVar 0) (mC (.int 1))) (mCons (mC k_MARKS) (mNil))))) (mNext)) <|
  mRet (mAnd (mCall (c_is_one_of cs) (mCons (mBin dIdx (mVar 0) (mC (.int 0))) (mCons (mTup (mCons (mC (.str "least")) (mCons (mC (.str "below")) (mNil)))) (mNil)))) (mCall (c_is_integer cs) (mCons (mBin dIdx (mVar 0) (mC (.int 1))) (mCons (mC (.int 1)) (mCons (mC k_MOST_COUNT) (mNil))))))
def c_is_test (cs : List Str) : List D → RC := runF 0 1 1 (m_is_test cs)
def m_is_send (cs : List Str) : M Fl :=
  mSeq (mIf (mOr (mNot (mUn (dIsT cs "tuple") (mVar 0))) (mOr (mBin (dEq true) (mB (one dLen) (mCons (mVar 0) mNil)) (mC (.int 4))) (mNot (mCall (c_is_one_of cs) (mCons (mBin dIdx (mVar 0) (mC (.int 0))) (mCons (mC k_PLACES) (mNil))))))) (mRet (mC (.bl false))) (mNext)) <|
  mSeq (mIf (mOr (mNot (mCall (c_are_marks cs) (mCons (mBin dIdx (mVar 0) (mC (.int 1))) (mNil)))) (mOr (mNot (mCall (c_are_marks cs) (mCons (mBin dIdx (mVar 0) (mC (.int 2))) (mNil)))) (mNot (mUn (dIsT cs "bool") (mBin dIdx (mVar 0) (mC (.int 3))))))) (mRet (mC (.bl false))) (mNext)) <|
  mRet (mNot (mB (one dAny) (mCons (mLc (mIt (mBin dIdx (mVar 0) (mC (.int 1)))) (.nm 1) [1] (mC (.bl true)) (mBin (dIn false) (mVar 1) (mBin dIdx (mVar 0) (mC (.int 2))))) mNil)))
def c_is_send (cs : List Str) : List D → RC := runF 0 1 2 (m_is_send cs)
def m_is_row (cs : List Str) : M Fl :=
  mSeq (mIf (mOr (mNot (mUn (dIsT cs "tuple") (mVar 0))) (mOr (mBin (dEq true) (mB (one dLen) (mCons (mVar 0) mNil)) (mC (.int 3))) (mNot (mUn (dIsT cs "bool") (mBin dIdx (mVar 0) (mC (.int 1))))))) (mRet (mC (.bl false))) (mNext)) <|
  mSeq (mAsg (.tp [.nm 1, .nm 2, .nm 3]) (mVar 0)) <|
  mSeq (mIf (mOr (mNot (mUn (dIsT cs "tuple") (mVar 1))) (mOr (mBin (dGt) (mB (one dLen) (mCons (mVar 1) mNil)) (mC k_MOST_TESTS)) (mNot (mB (one dAll) (mCons (mLc (mIt (mVar 1)) (.nm 4) [4] (mC (.bl true)) (mCall (c_is_test cs) (mCons (mVar 4) (mNil)))) mNil))))) (mRet (mC (.bl false))) (mNext)) <|
  mRet (mAnd (mUn (dIsT cs "tuple") (mVar 3)) (mAnd (mBin (dLe) (mB (one dLen) (mCons (mVar 3) mNil)) (mC k_MOST_SENDS)) (mB (one dAll) (mCons (mLc (mIt (mVar 3)) (.nm 5) [5] (mC (.bl true)) (mCall (c_is_send cs) (mCons (mVar 5) (mNil)))) mNil))))
def c_is_row (cs : List Str) : List D → RC := runF 0 1 6 (m_is_row cs)
def m_law_mix : M Fl :=
  mSeq (mSet 2 (mVar 1)) <|
  mSeq (mFor (mIt (mVar 0)) (.nm 3) (mSet 2 (mBin dMod (mB (one dInt) (mCons (mBin dAdd (mBin dAdd (mBin dMulA (mVar 2) (mC (.int 48271))) (mBin dMod (mB (one dInt) (mCons (mVar 3) mNil)) (mC (.int 2147483629)))) (mC (.int 1))) mNil)) (mC (.int 2147483647))))) <|
  mRet (mLst (mCons (mVar 2) (mCons (mB (one dList) (mCons (mVar 0) mNil)) (mCons (mC (.int 0)) (mNil)))))
def c_law_mix : List D → RC := runF 0 2 4 m_law_mix
def m_law_next : M Fl :=
  mSeq (mSet 2 (mBin dIdx (mCat 0 0) (mBin dMod (mB (one dInt) (mCons (mBinL dIdx 0 (mC (.int 2))) mNil)) (mB dMax2 (mCons (mC (.int 1)) (mCons (mLen1 0) mNil)))))) <|
  mSeq (mIf (mBin (dGe) (mVar 2) (mBin dPow (mC (.int 10)) (mC (.int 18)))) (mSeq (mCellSet 0 (mBin dDiv (mVar 2) (mVar 1))) <|
  mRet (mBin dMod (mB (one dInt) (mCons (mVar 2) mNil)) (mVar 1))) (mNext)) <|
  mSeq (mIxSet 0 0 (mBin dMod (mB (one dInt) (mCons (mBin dAdd (mBin dAdd (mBin dMulA (mBinL dIdx 0 (mC (.int 0))) (mC (.int 48271))) (mBin dMulA (mVar 2) (mC (.int 69621)))) (mC (.int 11))) mNil)) (mC (.int 2147483647)))) <|
  mSeq (mIxSet 0 2 (mBin dAdd (mBinL dIdx 0 (mC (.int 2))) (mC (.int 1)))) <|
  mRet (mBin dMod (mB (one dInt) (mCons (mBin dDiv (mBinL dIdx 0 (mC (.int 0))) (mC (.int 7))) mNil)) (mVar 1))
def c_law_next : List D → RC := runF 1 2 3 m_law_next
def m_law_alike (cs : List Str) (rc : List D → RC) : M Fl :=
  mSeq (mIf (mUn (dIsT cs "dict") (mVar 1)) (mRet (mAnd (mUn (dIsT cs "dict") (mVar 0)) (mAnd (mCall rc (mCons (mB (one dList) (mCons (mVar 0) mNil)) (mCons (mB (one dList) (mCons (mVar 1) mNil)) (mNil)))) (mBin (dEq false) (mVar 0) (mVar 1))))) (mNext)) <|
  mSeq (mIf (mUn (dIsTs cs ["tuple", "list"]) (mVar 1)) (mSeq (mIf (mOr (mNot (mUn (dIsTs cs ["tuple", "list"]) (mVar 0))) (mBin (dEq true) (mUn (dIsT cs "list") (mVar 0)) (mUn (dIsT cs "list") (mVar 1)))) (mRet (mC (.bl false))) (mNext)) <|
  mSeq (mIf (mBin (dEq true) (mB (one dLen) (mCons (mVar 0) mNil)) (mB (one dLen) (mCons (mVar 1) mNil))) (mRet (mC (.bl false))) (mNext)) <|
  mRet (mBin (dEq false) (mLc (mRng1 (mCons (mB (one dLen) (mCons (mVar 1) mNil)) (mNil))) (.nm 2) [2] (mNot (mCall rc (mCons (mBin dIdx (mVar 0) (mVar 2)) (mCons (mBin dIdx (mVar 1) (mVar 2)) (mNil))))) (mVar 2)) (mLst (mNil)))) (mNext)) <|
  mSeq (mIf (mOr (mUn (dIsN false) (mVar 1)) (mUn (dIsT cs "str") (mVar 1))) (mRet (mAnd (mBin (dEq false) (mVar 0) (mVar 1)) (mBin (dEq false) (mUn (dIsT cs "str") (mVar 0)) (mUn (dIsT cs "str") (mVar 1))))) (mNext)) <|
  mRet (mAnd (mUn (dIsT cs "int") (mVar 0)) (mAnd (mBin (dEq false) (mUn (dIsT cs "bool") (mVar 0)) (mUn (dIsT cs "bool") (mVar 1))) (mBin (dEq false) (mVar 0) (mVar 1))))
def c_law_alike (cs : List Str) : Nat → List D → RC
  | 0 => fun _ => .fail
  | n + 1 => runF 0 2 3 (m_law_alike cs (c_law_alike cs n))
def m_law_pick : M Fl :=
  mRet (mBin dIdx (mVar 1) (mCallIO c_law_next 0 (mCons (mB (one dLen) (mCons (mVar 1) mNil)) (mNil))))
def c_law_pick : List D → RC := runF 1 2 2 m_law_pick
def m_law_marks : M Fl :=
  mSeq (mSet 1 (mLst (mCons (mTup (mNil)) (mCons (mTup (mNil)) (mCons (mTup (mCons (mC (.str "a")) (mNil))) (mCons (mTup (mCons (mC (.str "b")) (mNil))) (mCons (mTup (mCons (mC (.str "c")) (mNil))) (mCons (mTup (mCons (mC (.str "a")) (mCons (mC (.str "b")) (mNil)))) (mCons (mTup (mCons (mC (.str "a")) (mCons (mC (.str "c")) (mNil)))) (mCons (mTup (mCons (mC (.str "b")) (mCons (mC (.str "c")) (mNil)))) (mCons (mTup (mCons (mC (.str "a")) (mCons (mC (.str "b")) (mCons (mC (.str "c")) (mNil))))) (mNil)))))))))))) <|
  mRet (mCallIO c_law_pick 0 (mCons (mVar 1) (mNil)))
def c_law_marks : List D → RC := runF 1 1 2 m_law_marks
def m_law_test : M Fl :=
  mSeq (mSet 1 (mCallIO c_law_pick 0 (mCons (mLst (mCons (mC (.str "has")) (mCons (mC (.str "lacks")) (mCons (mC (.str "lacks")) (mCons (mC (.str "least")) (mCons (mC (.str "below")) (mCons (mC (.str "below")) (mNil)))))))) (mNil)))) <|
  mSeq (mIf (mBin (dIn false) (mVar 1) (mLst (mCons (mC (.str "has")) (mCons (mC (.str "lacks")) (mNil))))) (mRet (mTup (mCons (mVar 1) (mCons (mCallIO c_law_pick 0 (mCons (mLst (mCons (mC (.str "a")) (mCons (mC (.str "b")) (mCons (mC (.str "c")) (mNil))))) (mNil))) (mNil))))) (mNext)) <|
  mRet (mTup (mCons (mVar 1) (mCons (mBin dAdd (mC (.int 1)) (mCallIO c_law_next 0 (mCons (mC (.int 3)) (mNil)))) (mNil))))
def c_law_test : List D → RC := runF 1 1 2 m_law_test
def m_law_send : M Fl :=
  mSeq (mAsg (.tp [.nm 1, .nm 2, .nm 3]) (mTup (mCons (mCallIO c_law_pick 0 (mCons (mLst (mCons (mC (.str "all")) (mCons (mC (.str "back")) (mCons (mC (.str "back")) (mNil))))) (mNil))) (mCons (mCallIO c_law_marks 0 (mNil)) (mCons (mCallIO c_law_marks 0 (mNil)) (mNil)))))) <|
  mSeq (mSet 3 (mB (one dTuple) (mCons (mLc (mIt (mVar 3)) (.nm 4) [4] (mBin (dIn true) (mVar 4) (mVar 2)) (mVar 4)) mNil))) <|
  mRet (mTup (mCons (mVar 1) (mCons (mVar 2) (mCons (mVar 3) (mCons (mBin (dEq false) (mCallIO c_law_next 0 (mCons (mC (.int 2)) (mNil))) (mC (.int 0))) (mNil))))))
def c_law_send : List D → RC := runF 1 1 5 m_law_send
def m_law_row : M Fl :=
  mSeq (mSet 1 (mB (one dTuple) (mCons (mLc (mRng1 (mCons (mCallIO c_law_pick 0 (mCons (mLst (mCons (mC (.int 0)) (mCons (mC (.int 1)) (mCons (mC (.int 1)) (mCons (mC (.int 1)) (mCons (mC (.int 2)) (mCons (mC (.int 2)) (mNil)))))))) (mNil))) (mNil))) (.nm 2) [2] (mC (.bl true)) (mCallIO c_law_test 0 (mNil))) mNil))) <|
  mRet (mTup (mCons (mVar 1) (mCons (mBin (dEq false) (mCallIO c_law_next 0 (mCons (mC (.int 2)) (mNil))) (mC (.int 0))) (mCons (mB (one dTuple) (mCons (mLc (mRng1 (mCons (mCallIO c_law_pick 0 (mCons (mLst (mCons (mC (.int 0)) (mCons (mC (.int 1)) (mCons (mC (.int 1)) (mCons (mC (.int 1)) (mCons (mC (.int 2)) (mNil))))))) (mNil))) (mNil))) (.nm 2) [2] (mC (.bl true)) (mCallIO c_law_send 0 (mNil))) mNil)) (mNil)))))
def c_law_row : List D → RC := runF 1 1 3 m_law_row
def m_law_kind : M Fl :=
  mRet (mTup (mCons (mB (one dTuple) (mCons (mLc (mRng1 (mCons (mCallIO c_law_next 0 (mCons (mC (.int 4)) (mNil))) (mNil))) (.nm 1) [1] (mC (.bl true)) (mCallIO c_law_row 0 (mNil))) mNil)) (mCons (mBin (dEq false) (mCallIO c_law_next 0 (mCons (mC (.int 3)) (mNil))) (mC (.int 0))) (mNil))))
def c_law_kind : List D → RC := runF 1 1 2 m_law_kind
end Pu
set_option Elab.async false
set_option linter.all false
set_option maxRecDepth 100000
set_option maxHeartbeats 2000000
/-! Pu: the law's own draws. -/
namespace Pu
open PySem PySem.Spec PyProof.Rows L2 Pl
def hD (a : Int) (cs : List Int) (k : Int) : D := .lst true [.int a, .lst true (cs.map D.int), .int k]
def GH (h : D) : Prop := ∃ a cs k, h = hD a cs k ∧ cs.length ≤ 63 ∧ 0 ≤ k
theorem fzL_ints : ∀ l : List Int, D.fzL (l.map D.int) = true
  | [] => rfl
  | x :: r => by rw [List.map_cons, D.fzL, fzL_ints r]; rfl
theorem frzL_ints : ∀ l : List Int, D.frzL (l.map D.int) = l.map D.int
  | [] => rfl
  | x :: r => by rw [List.map_cons, D.frzL, frzL_ints r]; rfl
theorem ints_app (l : List Int) (x : Int) : l.map D.int ++ [D.int x] = (l ++ [x]).map D.int := by rw [List.map_append]; rfl
theorem atI0 {α : Type} (x : α) (l : List α) : atI (x :: l) 0 = some x := by
  unfold atI ixN
  rw [if_pos (Int.le_refl 0), if_pos (by rw [List.length_cons]; omega)]
  rfl
theorem atI_nn {α : Type} {l : List α} {i : Int} (h0 : 0 ≤ i) (h1 : i < l.length) : atI l i = l[i.toNat]? := by
  unfold atI ixN
  rw [if_pos h0, if_pos h1]
  rfl
theorem atI1 {α : Type} (x y : α) (l : List α) : atI (x :: y :: l) 1 = some y := by rw [atI_nn (by omega) (by rw [List.length_cons, List.length_cons]; omega)]; rfl
theorem atI2 {α : Type} (x y z : α) (l : List α) : atI (x :: y :: z :: l) 2 = some z := by rw [atI_nn (by omega) (by rw [List.length_cons, List.length_cons, List.length_cons]; omega)]; rfl
theorem atI3 {α : Type} (x y z u : α) (l : List α) : atI (x :: y :: z :: u :: l) 3 = some u := by rw [atI_nn (by omega) (by rw [List.length_cons, List.length_cons, List.length_cons, List.length_cons]; omega)]; rfl
theorem ix0 {n : Nat} : ixN (n + 1) 0 = some 0 := by
  unfold ixN
  rw [if_pos (Int.le_refl 0), if_pos (by omega)]
  rfl
theorem next_ok {h : D} (g : GH h) {c : Int} (hc : 0 < c) (hc2 : c < 1073741824) : ∃ r h', c_law_next [h, .int c] = .ok (.int r) [h'] ∧ GH h' ∧ 0 ≤ r ∧ r < c := by
  obtain ⟨a, cs, k, rfl, hl, hk⟩ := g
  have hl1 : cs.length < sizeLine := Nat.lt_of_le_of_lt hl (by decide)
  have hm : (0 : Int) < (if (cs.length : Int) > 1 then (cs.length : Int) else 1) := by split <;> omega
  have hm2 : (if (cs.length : Int) > 1 then (cs.length : Int) else 1) ≤ (cs.length : Int) + 1 := by split <;> omega
  generalize hmm : (if (cs.length : Int) > 1 then (cs.length : Int) else 1) = m at hm hm2
  have hi0 : 0 ≤ k % m := Int.emod_nonneg _ (by omega)
  have hi1 : k % m < m := Int.emod_lt_of_pos _ hm
  obtain ⟨cell, hcell⟩ : ∃ cell, atI ((cs ++ [0]).map D.int) (k % m) = some (.int cell) := by
    have hlt : (k % m).toNat < (cs ++ [0]).length := by rw [List.length_append, List.length_singleton]; omega
    rw [atI_nn hi0 (by rw [List.length_map, List.length_append, List.length_singleton]; omega), List.getElem?_map, List.getElem?_eq_getElem hlt]
    exact ⟨_, rfl⟩
  have h18 : dPow (D.int 10) (D.int 18) = some (.int 1000000000000000000) := rfl
  have hcd : 0 < c ∧ c < 1073741824 := ⟨hc, hc2⟩
  by_cases hb : (1000000000000000000 : Int) ≤ cell
  · have h1 : 0 < cs.length := by
      cases cs with
      | nil =>
        have hk0 : (k % m).toNat = 0 := by simp at hm2; omega
        rw [atI_nn hi0 (by simp at hm2; simp; omega), hk0] at hcell
        simp at hcell
        omega
      | cons x r => simp
    refine ⟨cell % c, hD a (cs.set (k % cs.length).toNat (cell / c)) k, ?_, ⟨_, _, _, rfl, by rw [List.length_set]; exact hl, hk⟩, Int.emod_nonneg _ (by omega), Int.emod_lt_of_pos _ hc⟩
    have hdb : decide (1000000000000000000 ≤ cell) = true := decide_eq_true hb
    simp only [c_law_next, runF, m_law_next, mSeq, mSet, mBin, mB, mCons, mNil, mVar, mBinL, mC, isIn, mCat, mLen1, mIf, hD, R.bind_ok, List.length_cons, List.length_nil, List.map_cons, List.map_nil, List.cons_append, List.nil_append, List.getElem?_cons_zero, List.getElem?_cons_succ, List.set_cons_zero, List.set_cons_succ, cellsOf, fzL_ints, frzL_ints, D.fz, D.frz, D.frzL, D.fzL, R.of, one, dInt, dMod, dMax2, dIdx, if_true, List.replicate,
      hl1, atI2, hm, hmm, List.length_map, ints_app, hcell, Option.bind_some, hm, h18, dGe, dCmpI, hdb, onB, mCellSet, mRet, runE, pickIO, dDiv, hcd, h1, List.map_set, hc, Nat.reduceSub, Nat.reduceAdd, Nat.reduceLT, and_self]
  · have hdb : decide (1000000000000000000 ≤ cell) = false := decide_eq_false hb
    refine ⟨((a * 48271 + cell * 69621 + 11) % 2147483647 / 7) % c, hD ((a * 48271 + cell * 69621 + 11) % 2147483647) cs (k + 1), ?_, ⟨_, _, _, rfl, hl, by omega⟩, Int.emod_nonneg _ (by omega), Int.emod_lt_of_pos _ hc⟩
    have s1 : small64B 48271 = true := by decide
    have s2 : small64B 69621 = true := by decide
    have i2 : ixN 3 2 = some 2 := by decide
    simp only [c_law_next, runF, m_law_next, mSeq, mSet, mBin, mB, mCons, mNil, mVar, mBinL, mC, isIn, mCat, mLen1, mIf, hD, R.bind_ok, List.length_cons, List.length_nil, List.map_cons, List.map_nil, List.cons_append, List.nil_append, List.getElem?_cons_zero, List.getElem?_cons_succ, List.set_cons_zero, List.set_cons_succ, cellsOf, fzL_ints, frzL_ints, D.fz, D.frz, D.frzL, D.fzL, R.of, one, dInt, dMod, dMax2, dIdx, if_true, List.replicate,
      hl1, atI2, hm, hmm, List.length_map, ints_app, hcell, Option.bind_some, hm, h18, dGe, dCmpI, hdb, onB, mCellSet, mRet, runE, pickIO, dDiv, hcd, List.map_set, hc, Nat.reduceSub, Nat.reduceAdd, Nat.reduceLT, and_self,
      mNext, mIxSet, dAdd, dMulA, dMul, s1, s2, Bool.or_true, atI0, ix0, i2, Bool.false_eq_true, if_false, (by decide : (0 : Int) < 2147483647), (by decide : (0 : Int) < 7 ∧ (7 : Int) < 1073741824)]
theorem frzL_of {ds : List D} (h : D.fzL ds = true) : D.frzL ds = ds := D.frzL_id ds h
theorem fz_mem : ∀ {ds : List D} {d : D}, D.fzL ds = true → d ∈ ds → d.fz = true
  | x :: r, d, h, hd => by
    rw [D.fzL] at h
    obtain ⟨h1, h2⟩ := Bool.and_eq_true_iff.mp h
    rcases List.mem_cons.mp hd with rfl | z
    · exact h1
    · exact fz_mem h2 z
theorem pick_ok {h : D} (g : GH h) {m : Bool} {ds : List D} (hf : D.fzL ds = true) (h0 : 0 < ds.length) (h1 : ds.length ≤ 1000) : ∃ d h', c_law_pick [h, .lst m ds] = .ok d [h'] ∧ GH h' ∧ d ∈ ds := by
  obtain ⟨r, h', e, g', r0, r1⟩ := next_ok g (c := (ds.length : Int)) (by omega) (by omega)
  have hlt : r.toNat < ds.length := by omega
  have ha : atI ds r = some ds[r.toNat] := by rw [atI_nn r0 r1, List.getElem?_eq_getElem hlt]
  have hz : (ds[r.toNat]).fz = true := fz_mem hf (List.getElem_mem hlt)
  refine ⟨ds[r.toNat], h', ?_, g', List.getElem_mem hlt⟩
  have hfr := frzL_of hf
  cases m <;>
  simp only [c_law_pick, runF, m_law_pick, mRet, mBin, mVar, mCallIO, mCons, mNil, mB, one, dLen, dIdx, runE, pickIO, R.bind_ok, R.of, List.length_cons, List.length_nil, List.map_cons, List.map_nil, List.cons_append, List.nil_append, List.getElem?_cons_zero, List.getElem?_cons_succ, List.set_cons_zero, List.set_cons_succ, D.fz, D.frz, D.frzL, D.fzL, hf, hfr, e, ha, hz, Option.bind_some, if_true, List.replicate, Bool.not_true, Bool.not_false, Bool.false_and, Bool.true_and, Bool.false_eq_true, if_false, Nat.reduceSub, Nat.reduceAdd]
end Pu
set_option Elab.async false
set_option linter.all false
set_option maxRecDepth 100000
set_option maxHeartbeats 2000000
/-! Pu: passes, by their items. -/
namespace Pu
open PySem PySem.Spec PyProof.Rows L2 Pl
theorem sz : sizeLine = 16777216 := by decide
theorem n0 : ((0 : Nat) : Int) = 0 := rfl
theorem n1 : ((1 : Nat) : Int) = 1 := rfl
theorem n2 : ((2 : Nat) : Int) = 2 := rfl
theorem n3 : ((3 : Nat) : Int) = 3 := rfl
theorem n4 : ((4 : Nat) : Int) = 4 := rfl
theorem n5 : ((5 : Nat) : Int) = 5 := rfl
theorem n6 : ((6 : Nat) : Int) = 6 := rfl
theorem n7 : ((7 : Nat) : Int) = 7 := rfl
theorem n8 : ((8 : Nat) : Int) = 8 := rfl
theorem n9 : ((9 : Nat) : Int) = 9 := rfl
theorem io_tup (cs : List Str) (ds : List D) : isiObj cs (.tup ds) = true := rfl
theorem io_lst (cs : List Str) (m : Bool) (ds : List D) : isiObj cs (.lst m ds) = true := rfl
theorem io_int (cs : List Str) (i : Int) : isiObj cs (.int i) = true := rfl
theorem io_bl (cs : List Str) (i : Bool) : isiObj cs (.bl i) = true := rfl
theorem io_str (cs : List Str) (i : Str) : isiObj cs (.str i) = true := rfl
theorem io_non (cs : List Str) : isiObj cs .non = true := rfl
theorem set_set' {α : Type} : ∀ (l : List α) (i : Nat) (x y : α), (l.set i x).set i y = l.set i y
  | [], _, _, _ => rfl
  | a :: l, 0, _, _ => rfl
  | a :: l, i + 1, x, y => by rw [List.set_cons_succ, List.set_cons_succ, List.set_cons_succ, set_set' l i x y]
theorem set_same' {α : Type} : ∀ (l : List (Option α)) (i : Nat), l.set i (l[i]?.join) = l
  | [], _ => rfl
  | a :: l, 0 => rfl
  | a :: l, i + 1 => by rw [List.set_cons_succ, List.getElem?_cons_succ, set_same' l i]
theorem len_filter_le {α : Type} (p : α → Bool) (l : List α) : (l.filter p).length ≤ l.length := List.length_filter_le p l
theorem lcL_ok {i : Nat} {c y : M D} {e : Pl.Env} {p : D → Bool} {f : D → D} (hi : i < e.length) : ∀ (ds acc : List D), (∀ d ∈ ds, c (e.set i (some d)) = .ok (.bl (p d)) (e.set i (some d))) → (∀ d ∈ ds, p d = true → y (e.set i (some d)) = .ok (f d) (e.set i (some d))) → acc.length + ds.length ≤ sizeLine →
    lcL (.nm i) [i] c y ds acc (e.set i none) = .ok (acc ++ (ds.filter p).map f) (e.set i none)
  | [], acc, _, _, _ => by rw [lcL, List.filter_nil, List.map_nil, List.append_nil]
  | d :: ds, acc, hc, hy, hl => by
    have hl' : acc.length + ds.length + 1 ≤ sizeLine := by rw [List.length_cons] at hl; omega
    have ha : asg (.nm i) d (e.set i none) = some (e.set i (some d)) := by
      rw [asg, if_pos (by rw [List.length_set]; exact hi), set_set']
    have hw : wipeE (e.set i (some d)) [i] = e.set i none := by rw [wipeE, wipeE, set_set']
    rw [lcL, ha]
    dsimp only
    rw [hc d List.mem_cons_self]
    simp only [noE, R.bind_ok, onB]
    cases hp : p d with
    | true =>
      rw [if_pos rfl, hy d List.mem_cons_self hp]
      simp only [noE, R.bind_ok]
      rw [if_pos (by omega), hw, lcL_ok hi ds (acc ++ [f d]) (fun x hx => hc x (List.mem_cons_of_mem _ hx)) (fun x hx => hy x (List.mem_cons_of_mem _ hx)) (by rw [List.length_append, List.length_singleton]; omega), List.filter_cons_of_pos hp, List.map_cons, List.append_assoc]
      rfl
    | false =>
      rw [if_neg (by decide), hw, lcL_ok hi ds acc (fun x hx => hc x (List.mem_cons_of_mem _ hx)) (fun x hx => hy x (List.mem_cons_of_mem _ hx)) (by omega), List.filter_cons_of_neg (by rw [hp]; decide)]
/-- [y for x in it if c]: it leaves the slots as they are -/
theorem lc_ok {it : M (List D)} {i : Nat} {c y : M D} {e : Pl.Env} {ds : List D} (p : D → Bool) (f : D → D) (h0 : it e = .ok ds e) (hi : i < e.length) (hc : ∀ d ∈ ds, c (e.set i (some d)) = .ok (.bl (p d)) (e.set i (some d))) (hy : ∀ d ∈ ds, p d = true → y (e.set i (some d)) = .ok (f d) (e.set i (some d)))
    (hl : ds.length ≤ sizeLine) : mLc it (.nm i) [i] c y e = .ok (.lst true ((ds.filter p).map f)) e := by
  rw [mLc, h0]
  simp only [R.bind_ok, wipeE]
  rw [lcL_ok hi ds [] hc hy (by rw [List.length_nil]; omega)]
  simp only [R.bind_ok, backE, wipeE, List.nil_append, set_set', set_same']
/-- .. that draws: the slot 0 holds the draws -/
theorem lcL_io {i : Nat} {y : M D} {e : Pl.Env} {P : D → Prop} (hi : i < e.length) (hy : ∀ h d, GH h → ∃ x h', y (some h :: e.set i (some d)) = .ok x (some h' :: e.set i (some d)) ∧ GH h' ∧ P x) : ∀ (ds acc : List D) (h : D), GH h → acc.length + ds.length ≤ sizeLine →
    ∃ xs h', lcL (.nm (i + 1)) [i + 1] (mC (.bl true)) y ds acc (some h :: e.set i none) = .ok (acc ++ xs) (some h' :: e.set i none) ∧ GH h' ∧ xs.length = ds.length ∧ ∀ x ∈ xs, P x
  | [], acc, h, g, _ => ⟨[], h, by rw [lcL, List.append_nil], g, rfl, fun _ hx => nomatch hx⟩
  | d :: ds, acc, h, g, hl => by
    have hl' : acc.length + ds.length + 1 ≤ sizeLine := by rw [List.length_cons] at hl; omega
    obtain ⟨x, h1, e1, g1, px⟩ := hy h d g
    obtain ⟨xs, h2, e2, g2, l2, p2⟩ := lcL_io hi hy ds (acc ++ [x]) h1 g1 (by rw [List.length_append, List.length_singleton]; omega)
    refine ⟨x :: xs, h2, ?_, g2, by rw [List.length_cons, List.length_cons, l2], fun z hz => ?_⟩
    · have ha : asg (.nm (i + 1)) d (some h :: e.set i none) = some (some h :: e.set i (some d)) := by
        rw [asg, if_pos (by rw [List.length_cons, List.length_set]; omega), List.set_cons_succ, set_set']
      rw [lcL, ha]
      simp only [mC, noE, R.bind_ok, onB, if_true, e1, wipeE, List.set_cons_succ, set_set']
      rw [if_pos (by omega), e2, List.append_assoc]
      rfl
    · rcases List.mem_cons.mp hz with rfl | hz
      · exact px
      · exact p2 z hz
theorem lc_io {it : M (List D)} {i : Nat} {y : M D} {e : Pl.Env} {ds : List D} {P : D → Prop} {h h0 : D} (g : GH h) (h0e : it (some h0 :: e) = .ok ds (some h :: e)) (hi : i < e.length) (hy : ∀ h d, GH h → ∃ x h', y (some h :: e.set i (some d)) = .ok x (some h' :: e.set i (some d)) ∧ GH h' ∧ P x) (hl : ds.length ≤ sizeLine) :
    ∃ xs h', mLc it (.nm (i + 1)) [i + 1] (mC (.bl true)) y (some h0 :: e) = .ok (.lst true xs) (some h' :: e) ∧ GH h' ∧ xs.length = ds.length ∧ ∀ x ∈ xs, P x := by
  obtain ⟨xs, h', e1, g', l, p⟩ := lcL_io hi hy ds [] h g (by rw [List.length_nil]; omega)
  refine ⟨xs, h', ?_, g', l, p⟩
  rw [mLc, h0e]
  simp only [R.bind_ok, wipeE, List.set_cons_succ, e1, List.nil_append, backE, List.getElem?_cons_succ, set_set', set_same']
theorem smI_of {j : Int} (h0 : 0 ≤ j) (h1 : j ≤ 16777216) : smI j = true := by
  unfold smI
  rw [Bool.and_eq_true_iff]
  exact ⟨decide_eq_true (by omega), decide_eq_true (by omega)⟩
theorem rng1_ok {ms : M (List D)} {e e1 : Pl.Env} {j : Int} (h : ms e = .ok [.int j] e1) (h0 : 0 ≤ j) (h1 : j ≤ 16777216) : mRng1 ms e = .ok (rngD 0 j.toNat) e1 := by
  have s := smI_of h0 h1
  unfold mRng1
  rw [h]
  simp only [R.bind_ok, s, if_true]
theorem rng1_len {ms : M (List D)} {e e1 : Pl.Env} {n : Nat} (h : ms e = .ok [.int (n : Nat)] e1) (h1 : n ≤ 16777216) : mRng1 ms e = .ok (rngD 0 n) e1 := by
  have z := rng1_ok h (Int.natCast_nonneg n) (by omega)
  rw [Int.toNat_natCast] at z
  exact z
theorem rngD_mem {n : Nat} {d : D} (h : d ∈ rngD 0 n) : ∃ k : Nat, k < n ∧ d = .int (k : Nat) := by
  unfold rngD at h
  obtain ⟨k, hk, rfl⟩ := List.mem_map.mp h
  exact ⟨k, List.mem_range.mp hk, by rw [Int.zero_add]⟩
theorem rngD_len' (lo : Int) (n : Nat) : (rngD lo n).length = n := by rw [rngD, List.length_map, List.length_range]
theorem atI_nat {α : Type} {l : List α} {k : Nat} (h : k < l.length) : atI l (k : Nat) = some l[k] := by
  unfold atI ixN
  rw [if_pos (Int.natCast_nonneg k), if_pos (by omega), Int.toNat_natCast]
  exact List.getElem?_eq_getElem h
theorem filter_false {α : Type} : ∀ ds : List α, ds.filter (fun _ => false) = []
  | [] => rfl
  | d :: ds => by rw [List.filter_cons_of_neg (by decide), filter_false ds]
end Pu
set_option Elab.async false
set_option linter.all false
set_option maxRecDepth 100000
set_option maxHeartbeats 2000000
/-! Pu: what the draws give: marks, tests, sends, rows, kinds. -/
namespace Pu
open PySem PySem.Spec PyProof.Rows L2 Pl
def marksL : List D := [.tup [], .tup [.str "a"], .tup [.str "b"], .tup [.str "c"], .tup [.str "a", .str "b"], .tup [.str "a", .str "c"], .tup [.str "b", .str "c"], .tup [.str "a", .str "b", .str "c"]]
def testsL : List D := [.tup [.str "has", .str "a"], .tup [.str "has", .str "b"], .tup [.str "has", .str "c"], .tup [.str "lacks", .str "a"], .tup [.str "lacks", .str "b"], .tup [.str "lacks", .str "c"],
  .tup [.str "least", .int 1], .tup [.str "least", .int 2], .tup [.str "least", .int 3], .tup [.str "below", .int 1], .tup [.str "below", .int 2], .tup [.str "below", .int 3]]
def isBl (o : Option D) : Bool := match o with
  | some (.bl _) => true
  | _ => false
def theBl (o : Option D) : Bool := match o with
  | some (.bl b) => b
  | _ => false
theorem isBl_eq {o : Option D} (h : isBl o = true) : o = some (.bl (theBl o)) := by
  cases o with
  | none => cases h
  | some d => cases d <;> first | rfl | cases h
/-- the marks of q that are not in p -/
def notIn (p d : D) : Bool := theBl (dIn true d p)
def lessD (q p : D) : D := match q with
  | .tup ds => .tup (ds.filter (notIn p))
  | _ => .non
def sendsL : List D := (["all", "back"] : List Str).flatMap fun w => marksL.flatMap fun p => marksL.flatMap fun q => [true, false].map fun b => .tup [.str w, p, lessD q p, .bl b]
theorem next_at {h : D} (g : GH h) {c : Int} (hc : 0 < c) (hc2 : c < 1073741824) : ∃ r h', c_law_next [h, .int c] = .ok (.int r) [h'] ∧ GH h' ∧ 0 ≤ r ∧ r < c := next_ok g hc hc2
theorem marks_ok {h : D} (g : GH h) : ∃ d h', c_law_marks [h] = .ok d [h'] ∧ GH h' ∧ d ∈ marksL := by
  obtain ⟨d, h', e, g', m⟩ := pick_ok g (m := false) (ds := [.tup [], .tup [], .tup [.str "a"], .tup [.str "b"], .tup [.str "c"], .tup [.str "a", .str "b"], .tup [.str "a", .str "c"], .tup [.str "b", .str "c"], .tup [.str "a", .str "b", .str "c"]]) (by decide) (by decide) (by decide)
  refine ⟨d, h', ?_, g', ?_⟩
  · simp only [c_law_marks, m_law_marks, e, runF, mSeq, mSet, mMov, mBin, mUn, mB, mCons, mNil, mVar, mBinL, mBinR, mUnP, mC, isIn, mIf, mRet, mNext, mBrk, mDo, mAnd, mOr, mNot, mIte, mTup, mLst, mSlice, mNoPart, mPart, mCall, mCallIO, mAsg, mPar, mPar3, asg, asgL, onB, R.bind_ok, R.bind_exc, R.bind_fail, R.of, one, dInt, dTuple, dList, dLen, dIdx, D.fz, D.frz, D.fzL, D.frzL, runE, pickIO, List.length_cons, List.length_nil, List.map_cons, List.map_nil, List.cons_append, List.nil_append, List.getElem?_cons_zero, List.getElem?_cons_succ, List.set_cons_zero, List.set_cons_succ, if_true, if_false, Bool.false_eq_true, Bool.not_true, Bool.not_false, Bool.true_and, Bool.false_and, Bool.and_true, Bool.and_self, List.replicate, Nat.reduceAdd, Nat.reduceSub, Nat.reduceLT, Nat.reduceLeDiff, Nat.reduceEqDiff, Option.bind_some, Option.map_some, Pu.atI0, Pu.atI1, Pu.atI2, Pu.atI3, and_self, Pu.sz, reduceIte, Pu.n0, Pu.n1, Pu.n2, Pu.n3, Pu.n4, Pu.n5, Pu.n6, Pu.n7, Pu.n8, Pu.n9, Int.reduceBEq, beq_self_eq_true, Pu.io_tup, Pu.io_lst, Pu.io_int, Pu.io_bl, Pu.io_str, Pu.io_non]
  · simp only [List.mem_cons, List.not_mem_nil, or_false, marksL] at m ⊢
    rcases m with rfl | rfl | rfl | rfl | rfl | rfl | rfl | rfl | rfl <;> simp
theorem dIn2 (neg : Bool) (x : D) (ds : List D) : dIn neg x (.lst false ds) = dIn neg x (.lst true ds) := rfl
theorem test_ok {h : D} (g : GH h) : ∃ d h', c_law_test [h] = .ok d [h'] ∧ GH h' ∧ d ∈ testsL := by
  obtain ⟨d, h1, e, g1, m⟩ := pick_ok g (m := true) (ds := [.str "has", .str "lacks", .str "lacks", .str "least", .str "below", .str "below"]) (by decide) (by decide) (by decide)
  obtain ⟨d2, h2, e2, g2, m2⟩ := pick_ok g1 (m := true) (ds := [.str "a", .str "b", .str "c"]) (by decide) (by decide) (by decide)
  obtain ⟨r, h3, e3, g3, r0, r1⟩ := next_ok g1 (c := 3) (by omega) (by omega)
  simp only [List.mem_cons, List.not_mem_nil, or_false] at m m2
  have i1 : dIn false (.str "has") (.lst false [.str "has", .str "lacks"]) = some (.bl true) := by kernel_rfl
  have i2 : dIn false (.str "lacks") (.lst false [.str "has", .str "lacks"]) = some (.bl true) := by kernel_rfl
  have i3 : dIn false (.str "least") (.lst false [.str "has", .str "lacks"]) = some (.bl false) := by kernel_rfl
  have i4 : dIn false (.str "below") (.lst false [.str "has", .str "lacks"]) = some (.bl false) := by kernel_rfl
  have hr : r = 0 ∨ r = 1 ∨ r = 2 := by omega
  rcases m with rfl | rfl | rfl | rfl | rfl | rfl
  iterate 3
    · refine ⟨_, h2, by simp only [c_law_test, m_law_test, e, e2, i1, i2, runF, mSeq, mSet, mMov, mBin, mUn, mB, mCons, mNil, mVar, mBinL, mBinR, mUnP, mC, isIn, mIf, mRet, mNext, mBrk, mDo, mAnd, mOr, mNot, mIte, mTup, mLst, mSlice, mNoPart, mPart, mCall, mCallIO, mAsg, mPar, mPar3, asg, asgL, onB, R.bind_ok, R.bind_exc, R.bind_fail, R.of, one, dInt, dTuple, dList, dLen, dIdx, D.fz, D.frz, D.fzL, D.frzL, runE, pickIO, List.length_cons, List.length_nil, List.map_cons, List.map_nil, List.cons_append, List.nil_append, List.getElem?_cons_zero, List.getElem?_cons_succ, List.set_cons_zero, List.set_cons_succ, if_true, if_false, Bool.false_eq_true, Bool.not_true, Bool.not_false, Bool.true_and, Bool.false_and, Bool.and_true, Bool.and_self, List.replicate, Nat.reduceAdd, Nat.reduceSub, Nat.reduceLT, Nat.reduceLeDiff, Nat.reduceEqDiff, Option.bind_some, Option.map_some, Pu.atI0, Pu.atI1, Pu.atI2, Pu.atI3, and_self, Pu.sz, reduceIte, Pu.n0, Pu.n1, Pu.n2, Pu.n3, Pu.n4, Pu.n5, Pu.n6, Pu.n7, Pu.n8, Pu.n9, Int.reduceBEq, beq_self_eq_true, Pu.io_tup, Pu.io_lst, Pu.io_int, Pu.io_bl, Pu.io_str, Pu.io_non] <;> rfl, g2, ?_⟩
      rcases m2 with rfl | rfl | rfl <;> simp [testsL]
  iterate 3
    · refine ⟨_, h3, by simp only [c_law_test, m_law_test, e, e3, i3, i4, dAdd, runF, mSeq, mSet, mMov, mBin, mUn, mB, mCons, mNil, mVar, mBinL, mBinR, mUnP, mC, isIn, mIf, mRet, mNext, mBrk, mDo, mAnd, mOr, mNot, mIte, mTup, mLst, mSlice, mNoPart, mPart, mCall, mCallIO, mAsg, mPar, mPar3, asg, asgL, onB, R.bind_ok, R.bind_exc, R.bind_fail, R.of, one, dInt, dTuple, dList, dLen, dIdx, D.fz, D.frz, D.fzL, D.frzL, runE, pickIO, List.length_cons, List.length_nil, List.map_cons, List.map_nil, List.cons_append, List.nil_append, List.getElem?_cons_zero, List.getElem?_cons_succ, List.set_cons_zero, List.set_cons_succ, if_true, if_false, Bool.false_eq_true, Bool.not_true, Bool.not_false, Bool.true_and, Bool.false_and, Bool.and_true, Bool.and_self, List.replicate, Nat.reduceAdd, Nat.reduceSub, Nat.reduceLT, Nat.reduceLeDiff, Nat.reduceEqDiff, Option.bind_some, Option.map_some, Pu.atI0, Pu.atI1, Pu.atI2, Pu.atI3, and_self, Pu.sz, reduceIte, Pu.n0, Pu.n1, Pu.n2, Pu.n3, Pu.n4, Pu.n5, Pu.n6, Pu.n7, Pu.n8, Pu.n9, Int.reduceBEq, beq_self_eq_true, Pu.io_tup, Pu.io_lst, Pu.io_int, Pu.io_bl, Pu.io_str, Pu.io_non] <;> rfl, g3, ?_⟩
      rcases hr with rfl | rfl | rfl <;> simp [testsL]

theorem dEq_int (neg : Bool) (a b : Int) : dEq neg (.int a) (.int b) = some (.bl (if neg then !(a == b) else a == b)) := by kernel_rfl
def itemsD : D → List D
  | .tup ds => ds
  | .lst _ ds => ds
  | _ => []
theorem all2 {α β : Type} {l : List α} {k : α → List β} {p : α → β → Bool} (h : (l.all fun a => (k a).all fun b => p a b) = true) {a : α} {b : β} (ha : a ∈ l) (hb : b ∈ k a) : p a b = true := List.all_eq_true.mp (List.all_eq_true.mp h a ha) b hb
theorem notIn_all : (marksL.all fun p => marksL.all fun q => (itemsD q).all fun d => isBl (dIn true d p)) = true := by kernel_rfl
theorem marks_tup : (marksL.all fun p => (match p with | .tup ds => D.fzL ds && decide (ds.length ≤ 3) | _ => false)) = true := by kernel_rfl
theorem marks_cases {p : D} (h : p ∈ marksL) : ∃ ds, p = .tup ds ∧ D.fzL ds = true ∧ ds.length ≤ 3 := by
  have z := List.all_eq_true.mp marks_tup p h
  cases p with
  | tup ds =>
    obtain ⟨a, b⟩ := Bool.and_eq_true_iff.mp z
    exact ⟨ds, rfl, a, of_decide_eq_true b⟩
  | _ => cases z
theorem fzL_filter {q : D → Bool} : ∀ {ds : List D}, D.fzL ds = true → D.fzL (ds.filter q) = true
  | [], _ => rfl
  | d :: ds, h => by
    rw [D.fzL] at h
    obtain ⟨a, b⟩ := Bool.and_eq_true_iff.mp h
    cases z : q d with
    | true => rw [List.filter_cons_of_pos z, D.fzL, a, fzL_filter b]; rfl
    | false => rw [List.filter_cons_of_neg (by rw [z]; decide)]; exact fzL_filter b
theorem send_ok {h : D} (g : GH h) : ∃ d h', c_law_send [h] = .ok d [h'] ∧ GH h' ∧ d ∈ sendsL := by
  obtain ⟨w, h1, e1, g1, m1⟩ := pick_ok g (m := true) (ds := [.str "all", .str "back", .str "back"]) (by decide) (by decide) (by decide)
  obtain ⟨p, h2, e2, g2, mp⟩ := marks_ok g1
  obtain ⟨q, h3, e3, g3, mq⟩ := marks_ok g2
  obtain ⟨r, h4, e4, g4, r0, r1⟩ := next_ok g3 (c := 2) (by omega) (by omega)
  obtain ⟨ps, rfl, fp, lp⟩ := marks_cases mp
  obtain ⟨qs, rfl, fq, lq⟩ := marks_cases mq
  have fw : w.fz = true := by
    simp only [List.mem_cons, List.not_mem_nil, or_false] at m1
    rcases m1 with rfl | rfl | rfl <;> rfl
  have zq := frzL_of fq
  have zp := frzL_of fp
  have lc : mLc (mIt (mVar 3)) (.nm 4) [4] (mBin (dIn true) (mVar 4) (mVar 2)) (mVar 4) [some h3, some w, some (.tup ps), some (.tup qs), none] = .ok (.lst true ((qs.filter (notIn (.tup ps))).map fun d => d)) [some h3, some w, some (.tup ps), some (.tup qs), none] := by
    refine lc_ok (ds := qs) (notIn (.tup ps)) (fun d => d) ?_ (by simp) (fun d hd => ?_) (fun d hd _ => ?_) (by rw [sz]; omega)
    · simp only [mIt, D.itemsS, zq, fq, runF, mSeq, mSet, mMov, mBin, mUn, mB, mCons, mNil, mVar, mBinL, mBinR, mUnP, mC, isIn, mIf, mRet, mNext, mBrk, mDo, mAnd, mOr, mNot, mIte, mTup, mLst, mSlice, mNoPart, mPart, mCall, mCallIO, mAsg, mPar, mPar3, asg, asgL, onB, R.bind_ok, R.bind_exc, R.bind_fail, R.of, one, dInt, dTuple, dList, dLen, dIdx, D.fz, D.frz, D.fzL, D.frzL, runE, pickIO, List.length_cons, List.length_nil, List.map_cons, List.map_nil, List.cons_append, List.nil_append, List.getElem?_cons_zero, List.getElem?_cons_succ, List.set_cons_zero, List.set_cons_succ, if_true, if_false, Bool.false_eq_true, Bool.not_true, Bool.not_false, Bool.true_and, Bool.false_and, Bool.and_true, Bool.and_self, List.replicate, Nat.reduceAdd, Nat.reduceSub, Nat.reduceLT, Nat.reduceLeDiff, Nat.reduceEqDiff, Option.bind_some, Option.map_some, Pu.atI0, Pu.atI1, Pu.atI2, Pu.atI3, and_self, Pu.sz, reduceIte, Pu.n0, Pu.n1, Pu.n2, Pu.n3, Pu.n4, Pu.n5, Pu.n6, Pu.n7, Pu.n8, Pu.n9, Int.reduceBEq, beq_self_eq_true, Pu.io_tup, Pu.io_lst, Pu.io_int, Pu.io_bl, Pu.io_str, Pu.io_non]
    · have fd := fz_mem fq hd
      have k : dIn true d (.tup ps) = some (.bl (notIn (.tup ps) d)) := isBl_eq (all2 (p := fun q d => isBl (dIn true d (.tup ps))) (List.all_eq_true.mp notIn_all _ mp) mq hd)
      simp only [runF, mSeq, mSet, mMov, mBin, mUn, mB, mCons, mNil, mVar, mBinL, mBinR, mUnP, mC, isIn, mIf, mRet, mNext, mBrk, mDo, mAnd, mOr, mNot, mIte, mTup, mLst, mSlice, mNoPart, mPart, mCall, mCallIO, mAsg, mPar, mPar3, asg, asgL, onB, R.bind_ok, R.bind_exc, R.bind_fail, R.of, one, dInt, dTuple, dList, dLen, dIdx, D.fz, D.frz, D.fzL, D.frzL, runE, pickIO, List.length_cons, List.length_nil, List.map_cons, List.map_nil, List.cons_append, List.nil_append, List.getElem?_cons_zero, List.getElem?_cons_succ, List.set_cons_zero, List.set_cons_succ, if_true, if_false, Bool.false_eq_true, Bool.not_true, Bool.not_false, Bool.true_and, Bool.false_and, Bool.and_true, Bool.and_self, List.replicate, Nat.reduceAdd, Nat.reduceSub, Nat.reduceLT, Nat.reduceLeDiff, Nat.reduceEqDiff, Option.bind_some, Option.map_some, Pu.atI0, Pu.atI1, Pu.atI2, Pu.atI3, and_self, Pu.sz, reduceIte, Pu.n0, Pu.n1, Pu.n2, Pu.n3, Pu.n4, Pu.n5, Pu.n6, Pu.n7, Pu.n8, Pu.n9, Int.reduceBEq, beq_self_eq_true, Pu.io_tup, Pu.io_lst, Pu.io_int, Pu.io_bl, Pu.io_str, Pu.io_non, fd, fp, zp, D.frz_id d fd, k]
    · have fd := fz_mem fq hd
      simp only [runF, mSeq, mSet, mMov, mBin, mUn, mB, mCons, mNil, mVar, mBinL, mBinR, mUnP, mC, isIn, mIf, mRet, mNext, mBrk, mDo, mAnd, mOr, mNot, mIte, mTup, mLst, mSlice, mNoPart, mPart, mCall, mCallIO, mAsg, mPar, mPar3, asg, asgL, onB, R.bind_ok, R.bind_exc, R.bind_fail, R.of, one, dInt, dTuple, dList, dLen, dIdx, D.fz, D.frz, D.fzL, D.frzL, runE, pickIO, List.length_cons, List.length_nil, List.map_cons, List.map_nil, List.cons_append, List.nil_append, List.getElem?_cons_zero, List.getElem?_cons_succ, List.set_cons_zero, List.set_cons_succ, if_true, if_false, Bool.false_eq_true, Bool.not_true, Bool.not_false, Bool.true_and, Bool.false_and, Bool.and_true, Bool.and_self, List.replicate, Nat.reduceAdd, Nat.reduceSub, Nat.reduceLT, Nat.reduceLeDiff, Nat.reduceEqDiff, Option.bind_some, Option.map_some, Pu.atI0, Pu.atI1, Pu.atI2, Pu.atI3, and_self, Pu.sz, reduceIte, Pu.n0, Pu.n1, Pu.n2, Pu.n3, Pu.n4, Pu.n5, Pu.n6, Pu.n7, Pu.n8, Pu.n9, Int.reduceBEq, beq_self_eq_true, Pu.io_tup, Pu.io_lst, Pu.io_int, Pu.io_bl, Pu.io_str, Pu.io_non, fd]
  rw [List.map_id'] at lc
  have ff := fzL_filter (q := notIn (.tup ps)) fq
  have zf := frzL_of ff
  have ll : (qs.filter (notIn (.tup ps))).length ≤ 3 := Nat.le_trans (List.length_filter_le _ _) lq
  refine ⟨.tup [w, .tup ps, lessD (.tup qs) (.tup ps), .bl (r == 0)], h4, ?_, g4, ?_⟩
  · simp only [c_law_send, m_law_send, e1, e2, e3, e4, lc, fw, fp, fq, zq, zp, ff, zf, dEq_int, lessD, runF, mSeq, mSet, mMov, mBin, mUn, mB, mCons, mNil, mVar, mBinL, mBinR, mUnP, mC, isIn, mIf, mRet, mNext, mBrk, mDo, mAnd, mOr, mNot, mIte, mTup, mLst, mSlice, mNoPart, mPart, mCall, mCallIO, mAsg, mPar, mPar3, asg, asgL, onB, R.bind_ok, R.bind_exc, R.bind_fail, R.of, one, dInt, dTuple, dList, dLen, dIdx, D.fz, D.frz, D.fzL, D.frzL, runE, pickIO, List.length_cons, List.length_nil, List.map_cons, List.map_nil, List.cons_append, List.nil_append, List.getElem?_cons_zero, List.getElem?_cons_succ, List.set_cons_zero, List.set_cons_succ, if_true, if_false, Bool.false_eq_true, Bool.not_true, Bool.not_false, Bool.true_and, Bool.false_and, Bool.and_true, Bool.and_self, List.replicate, Nat.reduceAdd, Nat.reduceSub, Nat.reduceLT, Nat.reduceLeDiff, Nat.reduceEqDiff, Option.bind_some, Option.map_some, Pu.atI0, Pu.atI1, Pu.atI2, Pu.atI3, and_self, Pu.sz, reduceIte, Pu.n0, Pu.n1, Pu.n2, Pu.n3, Pu.n4, Pu.n5, Pu.n6, Pu.n7, Pu.n8, Pu.n9, Int.reduceBEq, beq_self_eq_true, Pu.io_tup, Pu.io_lst, Pu.io_int, Pu.io_bl, Pu.io_str, Pu.io_non]
  · simp only [sendsL, List.mem_flatMap, List.mem_map]
    simp only [List.mem_cons, List.not_mem_nil, or_false] at m1
    rcases m1 with rfl | rfl | rfl
    · exact ⟨"all", by simp, _, mp, _, mq, (r == 0), by cases (r == 0) <;> simp, rfl⟩
    · exact ⟨"back", by simp, _, mp, _, mq, (r == 0), by cases (r == 0) <;> simp, rfl⟩
    · exact ⟨"back", by simp, _, mp, _, mq, (r == 0), by cases (r == 0) <;> simp, rfl⟩
def GRow (d : D) : Prop := ∃ ts k ss, d = .tup [.tup ts, .bl k, .tup ss] ∧ ts.length ≤ 2 ∧ ss.length ≤ 2 ∧ (∀ t ∈ ts, t ∈ testsL) ∧ ∀ s ∈ ss, s ∈ sendsL
theorem tests_fz : (testsL.all D.fz) = true := by kernel_rfl
theorem sends_cases {d : D} (h : d ∈ sendsL) : ∃ (w : Str) (p q : D) (b : Bool), w ∈ (["all", "back"] : List Str) ∧ p ∈ marksL ∧ q ∈ marksL ∧ d = .tup [.str w, p, lessD q p, .bl b] := by
  simp only [sendsL, List.mem_flatMap, List.mem_map] at h
  obtain ⟨w, hw, p, hp, q, hq, b, _, rfl⟩ := h
  exact ⟨w, p, q, b, hw, hp, hq, rfl⟩
theorem send_fz {d : D} (h : d ∈ sendsL) : d.fz = true := by
  obtain ⟨w, p, q, b, hw, hp, hq, rfl⟩ := sends_cases h
  obtain ⟨ps, rfl, f1, _⟩ := marks_cases hp
  obtain ⟨qs, rfl, f2, _⟩ := marks_cases hq
  simp only [D.fz, D.fzL, lessD, f1, fzL_filter f2, Bool.and_self]
theorem fzL_all : ∀ {ds : List D}, (∀ d ∈ ds, d.fz = true) → D.fzL ds = true
  | [], _ => rfl
  | d :: ds, h => by rw [D.fzL, h d List.mem_cons_self, fzL_all fun x hx => h x (List.mem_cons_of_mem _ hx)]; rfl
theorem fz_tests {ts : List D} (h : ∀ t ∈ ts, t ∈ testsL) : D.fzL ts = true := fzL_all fun t ht => List.all_eq_true.mp tests_fz t (h t ht)
theorem fz_sends {ts : List D} (h : ∀ t ∈ ts, t ∈ sendsL) : D.fzL ts = true := fzL_all fun t ht => send_fz (h t ht)
theorem GRow.fz {d : D} (g : GRow d) : d.fz = true := by
  obtain ⟨ts, k, ss, rfl, _, _, h1, h2⟩ := g
  simp only [D.fz, D.fzL, fz_tests h1, fz_sends h2, Bool.and_self]
theorem rngD_len (n : Nat) : (rngD 0 n).length = n := by rw [rngD, List.length_map, List.length_range]
theorem row_ok {h : D} (g : GH h) : ∃ d h', c_law_row [h] = .ok d [h'] ∧ GH h' ∧ GRow d := by
  obtain ⟨n, h1, e1, g1, m1⟩ := pick_ok g (m := true) (ds := [.int 0, .int 1, .int 1, .int 1, .int 2, .int 2]) (by decide) (by decide) (by decide)
  obtain ⟨j, rfl, hj0, hj⟩ : ∃ j : Int, n = .int j ∧ 0 ≤ j ∧ j ≤ 2 := by
    simp only [List.mem_cons, List.not_mem_nil, or_false] at m1
    rcases m1 with rfl | rfl | rfl | rfl | rfl | rfl
    · exact ⟨0, rfl, by omega, by omega⟩
    · exact ⟨1, rfl, by omega, by omega⟩
    · exact ⟨1, rfl, by omega, by omega⟩
    · exact ⟨1, rfl, by omega, by omega⟩
    · exact ⟨2, rfl, by omega, by omega⟩
    · exact ⟨2, rfl, by omega, by omega⟩
  have sj : smI j = true := by unfold smI; rw [Bool.and_eq_true_iff]; exact ⟨decide_eq_true (by omega), decide_eq_true (by omega)⟩
  obtain ⟨ts, h2, e2, g2, l2, p2⟩ := lc_io (i := 1) (y := mCallIO c_law_test 0 mNil) (it := mRng1 (mCons (mCallIO c_law_pick 0 (mCons (mLst (mCons (mC (.int 0)) (mCons (mC (.int 1)) (mCons (mC (.int 1)) (mCons (mC (.int 1)) (mCons (mC (.int 2)) (mCons (mC (.int 2)) (mNil)))))))) (mNil))) mNil)) (e := [none, none]) (h0 := h) (h := h1) (ds := rngD 0 j.toNat) (P := fun t => t ∈ testsL) g1
    (by simp only [mRng1, e1, sj, runF, mSeq, mSet, mMov, mBin, mUn, mB, mCons, mNil, mVar, mBinL, mBinR, mUnP, mC, isIn, mIf, mRet, mNext, mBrk, mDo, mAnd, mOr, mNot, mIte, mTup, mLst, mSlice, mNoPart, mPart, mCall, mCallIO, mAsg, mPar, mPar3, asg, asgL, onB, R.bind_ok, R.bind_exc, R.bind_fail, R.of, one, dInt, dTuple, dList, dLen, dIdx, D.fz, D.frz, D.fzL, D.frzL, runE, pickIO, List.length_cons, List.length_nil, List.map_cons, List.map_nil, List.cons_append, List.nil_append, List.getElem?_cons_zero, List.getElem?_cons_succ, List.set_cons_zero, List.set_cons_succ, if_true, if_false, Bool.false_eq_true, Bool.not_true, Bool.not_false, Bool.true_and, Bool.false_and, Bool.and_true, Bool.and_self, List.replicate, Nat.reduceAdd, Nat.reduceSub, Nat.reduceLT, Nat.reduceLeDiff, Nat.reduceEqDiff, Option.bind_some, Option.map_some, Pu.atI0, Pu.atI1, Pu.atI2, Pu.atI3, and_self, Pu.sz, reduceIte, Pu.n0, Pu.n1, Pu.n2, Pu.n3, Pu.n4, Pu.n5, Pu.n6, Pu.n7, Pu.n8, Pu.n9, Int.reduceBEq, beq_self_eq_true, Pu.io_tup, Pu.io_lst, Pu.io_int, Pu.io_bl, Pu.io_str, Pu.io_non]) (by decide) (fun h d gh => by
      obtain ⟨t, h', e, g', m⟩ := test_ok gh
      exact ⟨t, h', by simp only [e, runF, mSeq, mSet, mMov, mBin, mUn, mB, mCons, mNil, mVar, mBinL, mBinR, mUnP, mC, isIn, mIf, mRet, mNext, mBrk, mDo, mAnd, mOr, mNot, mIte, mTup, mLst, mSlice, mNoPart, mPart, mCall, mCallIO, mAsg, mPar, mPar3, asg, asgL, onB, R.bind_ok, R.bind_exc, R.bind_fail, R.of, one, dInt, dTuple, dList, dLen, dIdx, D.fz, D.frz, D.fzL, D.frzL, runE, pickIO, List.length_cons, List.length_nil, List.map_cons, List.map_nil, List.cons_append, List.nil_append, List.getElem?_cons_zero, List.getElem?_cons_succ, List.set_cons_zero, List.set_cons_succ, if_true, if_false, Bool.false_eq_true, Bool.not_true, Bool.not_false, Bool.true_and, Bool.false_and, Bool.and_true, Bool.and_self, List.replicate, Nat.reduceAdd, Nat.reduceSub, Nat.reduceLT, Nat.reduceLeDiff, Nat.reduceEqDiff, Option.bind_some, Option.map_some, Pu.atI0, Pu.atI1, Pu.atI2, Pu.atI3, and_self, Pu.sz, reduceIte, Pu.n0, Pu.n1, Pu.n2, Pu.n3, Pu.n4, Pu.n5, Pu.n6, Pu.n7, Pu.n8, Pu.n9, Int.reduceBEq, beq_self_eq_true, Pu.io_tup, Pu.io_lst, Pu.io_int, Pu.io_bl, Pu.io_str, Pu.io_non], g', m⟩) (by rw [rngD_len, sz]; omega)
  rw [rngD_len] at l2
  obtain ⟨r, h3, e3, g3, r0, r1⟩ := next_ok g2 (c := 2) (by omega) (by omega)
  obtain ⟨n', h4, e4, g4, m4⟩ := pick_ok g3 (m := true) (ds := [.int 0, .int 1, .int 1, .int 1, .int 2]) (by decide) (by decide) (by decide)
  obtain ⟨j', rfl, hj0', hj'⟩ : ∃ j : Int, n' = .int j ∧ 0 ≤ j ∧ j ≤ 2 := by
    simp only [List.mem_cons, List.not_mem_nil, or_false] at m4
    rcases m4 with rfl | rfl | rfl | rfl | rfl
    · exact ⟨0, rfl, by omega, by omega⟩
    · exact ⟨1, rfl, by omega, by omega⟩
    · exact ⟨1, rfl, by omega, by omega⟩
    · exact ⟨1, rfl, by omega, by omega⟩
    · exact ⟨2, rfl, by omega, by omega⟩
  have sj' : smI j' = true := by unfold smI; rw [Bool.and_eq_true_iff]; exact ⟨decide_eq_true (by omega), decide_eq_true (by omega)⟩
  obtain ⟨ss, h5, e5, g5, l5, p5⟩ := lc_io (i := 1) (y := mCallIO c_law_send 0 mNil) (it := mRng1 (mCons (mCallIO c_law_pick 0 (mCons (mLst (mCons (mC (.int 0)) (mCons (mC (.int 1)) (mCons (mC (.int 1)) (mCons (mC (.int 1)) (mCons (mC (.int 2)) (mNil))))))) (mNil))) mNil)) (e := [some (.tup ts), none]) (h0 := h3) (h := h4) (ds := rngD 0 j'.toNat) (P := fun t => t ∈ sendsL) g4
    (by simp only [mRng1, e4, sj', runF, mSeq, mSet, mMov, mBin, mUn, mB, mCons, mNil, mVar, mBinL, mBinR, mUnP, mC, isIn, mIf, mRet, mNext, mBrk, mDo, mAnd, mOr, mNot, mIte, mTup, mLst, mSlice, mNoPart, mPart, mCall, mCallIO, mAsg, mPar, mPar3, asg, asgL, onB, R.bind_ok, R.bind_exc, R.bind_fail, R.of, one, dInt, dTuple, dList, dLen, dIdx, D.fz, D.frz, D.fzL, D.frzL, runE, pickIO, List.length_cons, List.length_nil, List.map_cons, List.map_nil, List.cons_append, List.nil_append, List.getElem?_cons_zero, List.getElem?_cons_succ, List.set_cons_zero, List.set_cons_succ, if_true, if_false, Bool.false_eq_true, Bool.not_true, Bool.not_false, Bool.true_and, Bool.false_and, Bool.and_true, Bool.and_self, List.replicate, Nat.reduceAdd, Nat.reduceSub, Nat.reduceLT, Nat.reduceLeDiff, Nat.reduceEqDiff, Option.bind_some, Option.map_some, Pu.atI0, Pu.atI1, Pu.atI2, Pu.atI3, and_self, Pu.sz, reduceIte, Pu.n0, Pu.n1, Pu.n2, Pu.n3, Pu.n4, Pu.n5, Pu.n6, Pu.n7, Pu.n8, Pu.n9, Int.reduceBEq, beq_self_eq_true, Pu.io_tup, Pu.io_lst, Pu.io_int, Pu.io_bl, Pu.io_str, Pu.io_non]) (by simp) (fun h d gh => by
      obtain ⟨t, h', e, g', m⟩ := send_ok gh
      exact ⟨t, h', by simp only [e, runF, mSeq, mSet, mMov, mBin, mUn, mB, mCons, mNil, mVar, mBinL, mBinR, mUnP, mC, isIn, mIf, mRet, mNext, mBrk, mDo, mAnd, mOr, mNot, mIte, mTup, mLst, mSlice, mNoPart, mPart, mCall, mCallIO, mAsg, mPar, mPar3, asg, asgL, onB, R.bind_ok, R.bind_exc, R.bind_fail, R.of, one, dInt, dTuple, dList, dLen, dIdx, D.fz, D.frz, D.fzL, D.frzL, runE, pickIO, List.length_cons, List.length_nil, List.map_cons, List.map_nil, List.cons_append, List.nil_append, List.getElem?_cons_zero, List.getElem?_cons_succ, List.set_cons_zero, List.set_cons_succ, if_true, if_false, Bool.false_eq_true, Bool.not_true, Bool.not_false, Bool.true_and, Bool.false_and, Bool.and_true, Bool.and_self, List.replicate, Nat.reduceAdd, Nat.reduceSub, Nat.reduceLT, Nat.reduceLeDiff, Nat.reduceEqDiff, Option.bind_some, Option.map_some, Pu.atI0, Pu.atI1, Pu.atI2, Pu.atI3, and_self, Pu.sz, reduceIte, Pu.n0, Pu.n1, Pu.n2, Pu.n3, Pu.n4, Pu.n5, Pu.n6, Pu.n7, Pu.n8, Pu.n9, Int.reduceBEq, beq_self_eq_true, Pu.io_tup, Pu.io_lst, Pu.io_int, Pu.io_bl, Pu.io_str, Pu.io_non], g', m⟩) (by rw [rngD_len, sz]; omega)
  rw [rngD_len] at l5
  have f2 := fz_tests p2
  have f5 := fz_sends p5
  have z2 := frzL_of f2
  have z5 := frzL_of f5
  refine ⟨.tup [.tup ts, .bl (r == 0), .tup ss], h5, ?_, g5, ts, _, ss, rfl, by omega, by omega, p2, p5⟩
  simp only [c_law_row, m_law_row, runF, mSeq, mSet, mMov, mBin, mUn, mB, mCons, mNil, mVar, mBinL, mBinR, mUnP, mC, isIn, mIf, mRet, mNext, mBrk, mDo, mAnd, mOr, mNot, mIte, mTup, mLst, mSlice, mNoPart, mPart, mCall, mCallIO, mAsg, mPar, mPar3, asg, asgL, onB, R.bind_ok, R.bind_exc, R.bind_fail, R.of, one, dInt, dTuple, dList, dLen, dIdx, D.fz, D.frz, D.fzL, D.frzL, runE, pickIO, List.length_cons, List.length_nil, List.map_cons, List.map_nil, List.cons_append, List.nil_append, List.getElem?_cons_zero, List.getElem?_cons_succ, List.set_cons_zero, List.set_cons_succ, if_true, if_false, Bool.false_eq_true, Bool.not_true, Bool.not_false, Bool.true_and, Bool.false_and, Bool.and_true, Bool.and_self, List.replicate, Nat.reduceAdd, Nat.reduceSub, Nat.reduceLT, Nat.reduceLeDiff, Nat.reduceEqDiff, Option.bind_some, Option.map_some, Pu.atI0, Pu.atI1, Pu.atI2, Pu.atI3, and_self, Pu.sz, reduceIte, Pu.n0, Pu.n1, Pu.n2, Pu.n3, Pu.n4, Pu.n5, Pu.n6, Pu.n7, Pu.n8, Pu.n9, Int.reduceBEq, beq_self_eq_true, Pu.io_tup, Pu.io_lst, Pu.io_int, Pu.io_bl, Pu.io_str, Pu.io_non]
  simp only [e2, e3, e5, f2, f5, z2, z5, dEq_int, runF, mSeq, mSet, mMov, mBin, mUn, mB, mCons, mNil, mVar, mBinL, mBinR, mUnP, mC, isIn, mIf, mRet, mNext, mBrk, mDo, mAnd, mOr, mNot, mIte, mTup, mLst, mSlice, mNoPart, mPart, mCall, mCallIO, mAsg, mPar, mPar3, asg, asgL, onB, R.bind_ok, R.bind_exc, R.bind_fail, R.of, one, dInt, dTuple, dList, dLen, dIdx, D.fz, D.frz, D.fzL, D.frzL, runE, pickIO, List.length_cons, List.length_nil, List.map_cons, List.map_nil, List.cons_append, List.nil_append, List.getElem?_cons_zero, List.getElem?_cons_succ, List.set_cons_zero, List.set_cons_succ, if_true, if_false, Bool.false_eq_true, Bool.not_true, Bool.not_false, Bool.true_and, Bool.false_and, Bool.and_true, Bool.and_self, List.replicate, Nat.reduceAdd, Nat.reduceSub, Nat.reduceLT, Nat.reduceLeDiff, Nat.reduceEqDiff, Option.bind_some, Option.map_some, Pu.atI0, Pu.atI1, Pu.atI2, Pu.atI3, and_self, Pu.sz, reduceIte, Pu.n0, Pu.n1, Pu.n2, Pu.n3, Pu.n4, Pu.n5, Pu.n6, Pu.n7, Pu.n8, Pu.n9, Int.reduceBEq, beq_self_eq_true, Pu.io_tup, Pu.io_lst, Pu.io_int, Pu.io_bl, Pu.io_str, Pu.io_non]
def GKind (d : D) : Prop := ∃ rs k, d = .tup [.tup rs, .bl k] ∧ rs.length ≤ 3 ∧ ∀ r ∈ rs, GRow r
theorem fz_rows {rs : List D} (h : ∀ t ∈ rs, GRow t) : D.fzL rs = true := fzL_all fun t ht => (h t ht).fz
theorem kind_ok {h : D} (g : GH h) : ∃ rs k h', c_law_kind [h] = .ok (.tup [.tup rs, .bl k]) [h'] ∧ GH h' ∧ rs.length ≤ 3 ∧ ∀ r ∈ rs, GRow r := by
  obtain ⟨r, h1, e1, g1, r0, r1⟩ := next_ok g (c := 4) (by omega) (by omega)
  have sj : smI r = true := by unfold smI; rw [Bool.and_eq_true_iff]; exact ⟨decide_eq_true (by omega), decide_eq_true (by omega)⟩
  obtain ⟨rs, h2, e2, g2, l2, p2⟩ := lc_io (i := 0) (y := mCallIO c_law_row 0 mNil) (it := mRng1 (mCons (mCallIO c_law_next 0 (mCons (mC (.int 4)) (mNil))) mNil)) (e := [none]) (h0 := h) (h := h1) (ds := rngD 0 r.toNat) (P := GRow) g1
    (by simp only [mRng1, e1, sj, runF, mSeq, mSet, mMov, mBin, mUn, mB, mCons, mNil, mVar, mBinL, mBinR, mUnP, mC, isIn, mIf, mRet, mNext, mBrk, mDo, mAnd, mOr, mNot, mIte, mTup, mLst, mSlice, mNoPart, mPart, mCall, mCallIO, mAsg, mPar, mPar3, asg, asgL, onB, R.bind_ok, R.bind_exc, R.bind_fail, R.of, one, dInt, dTuple, dList, dLen, dIdx, D.fz, D.frz, D.fzL, D.frzL, runE, pickIO, List.length_cons, List.length_nil, List.map_cons, List.map_nil, List.cons_append, List.nil_append, List.getElem?_cons_zero, List.getElem?_cons_succ, List.set_cons_zero, List.set_cons_succ, if_true, if_false, Bool.false_eq_true, Bool.not_true, Bool.not_false, Bool.true_and, Bool.false_and, Bool.and_true, Bool.and_self, List.replicate, Nat.reduceAdd, Nat.reduceSub, Nat.reduceLT, Nat.reduceLeDiff, Nat.reduceEqDiff, Option.bind_some, Option.map_some, Pu.atI0, Pu.atI1, Pu.atI2, Pu.atI3, and_self, Pu.sz, reduceIte, Pu.n0, Pu.n1, Pu.n2, Pu.n3, Pu.n4, Pu.n5, Pu.n6, Pu.n7, Pu.n8, Pu.n9, Int.reduceBEq, beq_self_eq_true, Pu.io_tup, Pu.io_lst, Pu.io_int, Pu.io_bl, Pu.io_str, Pu.io_non]) (by simp) (fun h d gh => by
      obtain ⟨t, h', e, g', m⟩ := row_ok gh
      exact ⟨t, h', by simp only [e, runF, mSeq, mSet, mMov, mBin, mUn, mB, mCons, mNil, mVar, mBinL, mBinR, mUnP, mC, isIn, mIf, mRet, mNext, mBrk, mDo, mAnd, mOr, mNot, mIte, mTup, mLst, mSlice, mNoPart, mPart, mCall, mCallIO, mAsg, mPar, mPar3, asg, asgL, onB, R.bind_ok, R.bind_exc, R.bind_fail, R.of, one, dInt, dTuple, dList, dLen, dIdx, D.fz, D.frz, D.fzL, D.frzL, runE, pickIO, List.length_cons, List.length_nil, List.map_cons, List.map_nil, List.cons_append, List.nil_append, List.getElem?_cons_zero, List.getElem?_cons_succ, List.set_cons_zero, List.set_cons_succ, if_true, if_false, Bool.false_eq_true, Bool.not_true, Bool.not_false, Bool.true_and, Bool.false_and, Bool.and_true, Bool.and_self, List.replicate, Nat.reduceAdd, Nat.reduceSub, Nat.reduceLT, Nat.reduceLeDiff, Nat.reduceEqDiff, Option.bind_some, Option.map_some, Pu.atI0, Pu.atI1, Pu.atI2, Pu.atI3, and_self, Pu.sz, reduceIte, Pu.n0, Pu.n1, Pu.n2, Pu.n3, Pu.n4, Pu.n5, Pu.n6, Pu.n7, Pu.n8, Pu.n9, Int.reduceBEq, beq_self_eq_true, Pu.io_tup, Pu.io_lst, Pu.io_int, Pu.io_bl, Pu.io_str, Pu.io_non], g', m⟩) (by rw [rngD_len, sz]; omega)
  rw [rngD_len] at l2
  obtain ⟨r', h3, e3, g3, r0', r1'⟩ := next_ok g2 (c := 3) (by omega) (by omega)
  have f2 := fz_rows p2
  have z2 := frzL_of f2
  refine ⟨rs, (r' == 0), h3, ?_, g3, by omega, p2⟩
  simp only [c_law_kind, m_law_kind, runF, mSeq, mSet, mMov, mBin, mUn, mB, mCons, mNil, mVar, mBinL, mBinR, mUnP, mC, isIn, mIf, mRet, mNext, mBrk, mDo, mAnd, mOr, mNot, mIte, mTup, mLst, mSlice, mNoPart, mPart, mCall, mCallIO, mAsg, mPar, mPar3, asg, asgL, onB, R.bind_ok, R.bind_exc, R.bind_fail, R.of, one, dInt, dTuple, dList, dLen, dIdx, D.fz, D.frz, D.fzL, D.frzL, runE, pickIO, List.length_cons, List.length_nil, List.map_cons, List.map_nil, List.cons_append, List.nil_append, List.getElem?_cons_zero, List.getElem?_cons_succ, List.set_cons_zero, List.set_cons_succ, if_true, if_false, Bool.false_eq_true, Bool.not_true, Bool.not_false, Bool.true_and, Bool.false_and, Bool.and_true, Bool.and_self, List.replicate, Nat.reduceAdd, Nat.reduceSub, Nat.reduceLT, Nat.reduceLeDiff, Nat.reduceEqDiff, Option.bind_some, Option.map_some, Pu.atI0, Pu.atI1, Pu.atI2, Pu.atI3, and_self, Pu.sz, reduceIte, Pu.n0, Pu.n1, Pu.n2, Pu.n3, Pu.n4, Pu.n5, Pu.n6, Pu.n7, Pu.n8, Pu.n9, Int.reduceBEq, beq_self_eq_true, Pu.io_tup, Pu.io_lst, Pu.io_int, Pu.io_bl, Pu.io_str, Pu.io_non]
  simp only [e2, e3, f2, z2, dEq_int, runF, mSeq, mSet, mMov, mBin, mUn, mB, mCons, mNil, mVar, mBinL, mBinR, mUnP, mC, isIn, mIf, mRet, mNext, mBrk, mDo, mAnd, mOr, mNot, mIte, mTup, mLst, mSlice, mNoPart, mPart, mCall, mCallIO, mAsg, mPar, mPar3, asg, asgL, onB, R.bind_ok, R.bind_exc, R.bind_fail, R.of, one, dInt, dTuple, dList, dLen, dIdx, D.fz, D.frz, D.fzL, D.frzL, runE, pickIO, List.length_cons, List.length_nil, List.map_cons, List.map_nil, List.cons_append, List.nil_append, List.getElem?_cons_zero, List.getElem?_cons_succ, List.set_cons_zero, List.set_cons_succ, if_true, if_false, Bool.false_eq_true, Bool.not_true, Bool.not_false, Bool.true_and, Bool.false_and, Bool.and_true, Bool.and_self, List.replicate, Nat.reduceAdd, Nat.reduceSub, Nat.reduceLT, Nat.reduceLeDiff, Nat.reduceEqDiff, Option.bind_some, Option.map_some, Pu.atI0, Pu.atI1, Pu.atI2, Pu.atI3, and_self, Pu.sz, reduceIte, Pu.n0, Pu.n1, Pu.n2, Pu.n3, Pu.n4, Pu.n5, Pu.n6, Pu.n7, Pu.n8, Pu.n9, Int.reduceBEq, beq_self_eq_true, Pu.io_tup, Pu.io_lst, Pu.io_int, Pu.io_bl, Pu.io_str, Pu.io_non]
end Pu
set_option Elab.async false
set_option linter.all false
set_option maxRecDepth 100000
set_option maxHeartbeats 2000000
/-! Pu: what is drawn is a row. -/
namespace Pu
open PySem PySem.Spec PyProof.Rows L2 Pl
def isOk (r : RC) (b : Bool) : Bool := match r with
  | .ok (.bl c) [] => c == b
  | _ => false
theorem isOk_eq {r : RC} {b : Bool} (h : isOk r b = true) : r = .ok (.bl b) [] := by
  unfold isOk at h
  split at h
  · rw [eq_of_beq h]
  · cases h
def someB (o : Option D) (b : Bool) : Bool := match o with
  | some (.bl c) => c == b
  | _ => false
theorem someB_eq {o : Option D} {b : Bool} (h : someB o b = true) : o = some (.bl b) := by
  unfold someB at h
  split at h
  · rw [eq_of_beq h]
  · cases h
theorem is_test_all (cs : List Str) : (testsL.all fun t => isOk (c_is_test cs [t]) true) = true := by kernel_rfl
theorem is_send_all (cs : List Str) : ((["all", "back"] : List Str).all fun w => marksL.all fun p => marksL.all fun q => [true, false].all fun b => isOk (c_is_send cs [.tup [.str w, p, lessD q p, .bl b]]) true) = true := by kernel_rfl
theorem bool_in (b : Bool) : b ∈ [true, false] := by cases b <;> simp
theorem is_test_ok (cs : List Str) {t : D} (h : t ∈ testsL) : c_is_test cs [t] = .ok (.bl true) [] := isOk_eq (List.all_eq_true.mp (is_test_all cs) t h)
theorem is_send_ok (cs : List Str) {t : D} (h : t ∈ sendsL) : c_is_send cs [t] = .ok (.bl true) [] := by
  obtain ⟨w, p, q, b, hw, hp, hq, rfl⟩ := sends_cases h
  exact isOk_eq (List.all_eq_true.mp (List.all_eq_true.mp (List.all_eq_true.mp (List.all_eq_true.mp (is_send_all cs) w hw) p hp) q hq) b (bool_in b))
theorem blsL_true : ∀ ds : List D, D.blsL (ds.map fun _ => D.bl true) = some (ds.map fun _ => true)
  | [] => rfl
  | d :: ds => by rw [List.map_cons, D.blsL, blsL_true ds]; rfl
theorem fzL_true : ∀ ds : List D, D.fzL (ds.map fun _ => D.bl true) = true
  | [] => rfl
  | d :: ds => by rw [List.map_cons, D.fzL, fzL_true ds]; rfl
theorem all_true (ds : List D) : (ds.map fun _ => true).all id = true := by
  induction ds with
  | nil => rfl
  | cons d ds ih => rw [List.map_cons, List.all_cons, ih]; rfl
theorem filter_true {α : Type} : ∀ ds : List α, ds.filter (fun _ => true) = ds
  | [] => rfl
  | d :: ds => by rw [List.filter_cons_of_pos rfl, filter_true ds]
theorem isTy_tup (ds : List D) : isTy "tuple" (.tup ds) = true := rfl
theorem isTy_bool (b : Bool) : isTy "bool" (.bl b) = true := rfl
theorem is_row_ok (cs : List Str) {d : D} (g : GRow d) : c_is_row cs [d] = .ok (.bl true) [] := by
  obtain ⟨ts, k, ss, rfl, l1, l2, h1, h2⟩ := g
  have f1 := fz_tests h1
  have f2 := fz_sends h2
  have z1 := frzL_of f1
  have z2 := frzL_of f2
  have e1 : ∀ x0, x0 = some (D.tup [.tup ts, .bl k, .tup ss]) → mLc (mIt (mVar 1)) (.nm 4) [4] (mC (.bl true)) (mCall (c_is_test cs) (mCons (mVar 4) (mNil))) [x0, some (.tup ts), some (.bl k), some (.tup ss), none, none] = .ok (.lst true (ts.map fun _ => .bl true)) [x0, some (.tup ts), some (.bl k), some (.tup ss), none, none] := fun x0 _ => by
    have z := lc_ok (it := mIt (mVar 1)) (i := 4) (c := mC (.bl true)) (y := mCall (c_is_test cs) (mCons (mVar 4) (mNil))) (e := [x0, some (.tup ts), some (.bl k), some (.tup ss), none, none]) (ds := ts) (fun _ => true) (fun _ => .bl true)
      (by simp only [mIt, D.itemsS, z1, f1, runF, mSeq, mSet, mMov, mBin, mUn, mB, mCons, mNil, mVar, mBinL, mBinR, mUnP, mC, isIn, mIf, mRet, mNext, mBrk, mDo, mAnd, mOr, mNot, mIte, mTup, mLst, mSlice, mNoPart, mPart, mCall, mCallIO, mAsg, mPar, mPar3, asg, asgL, onB, R.bind_ok, R.bind_exc, R.bind_fail, R.of, one, dInt, dTuple, dList, dLen, dIdx, D.fz, D.frz, D.fzL, D.frzL, runE, pickIO, List.length_cons, List.length_nil, List.map_cons, List.map_nil, List.cons_append, List.nil_append, List.getElem?_cons_zero, List.getElem?_cons_succ, List.set_cons_zero, List.set_cons_succ, if_true, if_false, Bool.false_eq_true, Bool.not_true, Bool.not_false, Bool.true_and, Bool.false_and, Bool.and_true, Bool.and_self, List.replicate, Nat.reduceAdd, Nat.reduceSub, Nat.reduceLT, Nat.reduceLeDiff, Nat.reduceEqDiff, Option.bind_some, Option.map_some, Pu.atI0, Pu.atI1, Pu.atI2, Pu.atI3, and_self, Pu.sz, reduceIte, Pu.n0, Pu.n1, Pu.n2, Pu.n3, Pu.n4, Pu.n5, Pu.n6, Pu.n7, Pu.n8, Pu.n9, Int.reduceBEq, beq_self_eq_true, Pu.io_tup, Pu.io_lst, Pu.io_int, Pu.io_bl, Pu.io_str, Pu.io_non]) (by simp) (fun d hd => rfl) (fun d hd _ => by
        have fd := fz_mem f1 hd
        simp only [runF, mSeq, mSet, mMov, mBin, mUn, mB, mCons, mNil, mVar, mBinL, mBinR, mUnP, mC, isIn, mIf, mRet, mNext, mBrk, mDo, mAnd, mOr, mNot, mIte, mTup, mLst, mSlice, mNoPart, mPart, mCall, mCallIO, mAsg, mPar, mPar3, asg, asgL, onB, R.bind_ok, R.bind_exc, R.bind_fail, R.of, one, dInt, dTuple, dList, dLen, dIdx, D.fz, D.frz, D.fzL, D.frzL, runE, pickIO, List.length_cons, List.length_nil, List.map_cons, List.map_nil, List.cons_append, List.nil_append, List.getElem?_cons_zero, List.getElem?_cons_succ, List.set_cons_zero, List.set_cons_succ, if_true, if_false, Bool.false_eq_true, Bool.not_true, Bool.not_false, Bool.true_and, Bool.false_and, Bool.and_true, Bool.and_self, List.replicate, Nat.reduceAdd, Nat.reduceSub, Nat.reduceLT, Nat.reduceLeDiff, Nat.reduceEqDiff, Option.bind_some, Option.map_some, Pu.atI0, Pu.atI1, Pu.atI2, Pu.atI3, and_self, Pu.sz, reduceIte, Pu.n0, Pu.n1, Pu.n2, Pu.n3, Pu.n4, Pu.n5, Pu.n6, Pu.n7, Pu.n8, Pu.n9, Int.reduceBEq, beq_self_eq_true, Pu.io_tup, Pu.io_lst, Pu.io_int, Pu.io_bl, Pu.io_str, Pu.io_non, fd, is_test_ok cs (h1 d hd)]) (by rw [sz]; omega)
    rw [filter_true] at z
    exact z
  have e2 : ∀ x0, x0 = some (D.tup [.tup ts, .bl k, .tup ss]) → mLc (mIt (mVar 3)) (.nm 5) [5] (mC (.bl true)) (mCall (c_is_send cs) (mCons (mVar 5) (mNil))) [x0, some (.tup ts), some (.bl k), some (.tup ss), none, none] = .ok (.lst true (ss.map fun _ => .bl true)) [x0, some (.tup ts), some (.bl k), some (.tup ss), none, none] := fun x0 _ => by
    have z := lc_ok (it := mIt (mVar 3)) (i := 5) (c := mC (.bl true)) (y := mCall (c_is_send cs) (mCons (mVar 5) (mNil))) (e := [x0, some (.tup ts), some (.bl k), some (.tup ss), none, none]) (ds := ss) (fun _ => true) (fun _ => .bl true)
      (by simp only [mIt, D.itemsS, z2, f2, runF, mSeq, mSet, mMov, mBin, mUn, mB, mCons, mNil, mVar, mBinL, mBinR, mUnP, mC, isIn, mIf, mRet, mNext, mBrk, mDo, mAnd, mOr, mNot, mIte, mTup, mLst, mSlice, mNoPart, mPart, mCall, mCallIO, mAsg, mPar, mPar3, asg, asgL, onB, R.bind_ok, R.bind_exc, R.bind_fail, R.of, one, dInt, dTuple, dList, dLen, dIdx, D.fz, D.frz, D.fzL, D.frzL, runE, pickIO, List.length_cons, List.length_nil, List.map_cons, List.map_nil, List.cons_append, List.nil_append, List.getElem?_cons_zero, List.getElem?_cons_succ, List.set_cons_zero, List.set_cons_succ, if_true, if_false, Bool.false_eq_true, Bool.not_true, Bool.not_false, Bool.true_and, Bool.false_and, Bool.and_true, Bool.and_self, List.replicate, Nat.reduceAdd, Nat.reduceSub, Nat.reduceLT, Nat.reduceLeDiff, Nat.reduceEqDiff, Option.bind_some, Option.map_some, Pu.atI0, Pu.atI1, Pu.atI2, Pu.atI3, and_self, Pu.sz, reduceIte, Pu.n0, Pu.n1, Pu.n2, Pu.n3, Pu.n4, Pu.n5, Pu.n6, Pu.n7, Pu.n8, Pu.n9, Int.reduceBEq, beq_self_eq_true, Pu.io_tup, Pu.io_lst, Pu.io_int, Pu.io_bl, Pu.io_str, Pu.io_non]) (by simp) (fun d hd => rfl) (fun d hd _ => by
        have fd := fz_mem f2 hd
        simp only [runF, mSeq, mSet, mMov, mBin, mUn, mB, mCons, mNil, mVar, mBinL, mBinR, mUnP, mC, isIn, mIf, mRet, mNext, mBrk, mDo, mAnd, mOr, mNot, mIte, mTup, mLst, mSlice, mNoPart, mPart, mCall, mCallIO, mAsg, mPar, mPar3, asg, asgL, onB, R.bind_ok, R.bind_exc, R.bind_fail, R.of, one, dInt, dTuple, dList, dLen, dIdx, D.fz, D.frz, D.fzL, D.frzL, runE, pickIO, List.length_cons, List.length_nil, List.map_cons, List.map_nil, List.cons_append, List.nil_append, List.getElem?_cons_zero, List.getElem?_cons_succ, List.set_cons_zero, List.set_cons_succ, if_true, if_false, Bool.false_eq_true, Bool.not_true, Bool.not_false, Bool.true_and, Bool.false_and, Bool.and_true, Bool.and_self, List.replicate, Nat.reduceAdd, Nat.reduceSub, Nat.reduceLT, Nat.reduceLeDiff, Nat.reduceEqDiff, Option.bind_some, Option.map_some, Pu.atI0, Pu.atI1, Pu.atI2, Pu.atI3, and_self, Pu.sz, reduceIte, Pu.n0, Pu.n1, Pu.n2, Pu.n3, Pu.n4, Pu.n5, Pu.n6, Pu.n7, Pu.n8, Pu.n9, Int.reduceBEq, beq_self_eq_true, Pu.io_tup, Pu.io_lst, Pu.io_int, Pu.io_bl, Pu.io_str, Pu.io_non, fd, is_send_ok cs (h2 d hd)]) (by rw [sz]; omega)
    rw [filter_true] at z
    exact z
  have c1 : decide ((2 : Int) < (ts.length : Int)) = false := decide_eq_false (by omega)
  have c2 : decide ((ss.length : Int) ≤ 2) = true := decide_eq_true (by omega)
  have d3 : dEq true (.int ((3 : Nat) : Int)) (.int 3) = some (.bl false) := by kernel_rfl
  simp only [c_is_row, m_is_row, runF, mSeq, mSet, mMov, mBin, mUn, mB, mCons, mNil, mVar, mBinL, mBinR, mUnP, mC, isIn, mIf, mRet, mNext, mBrk, mDo, mAnd, mOr, mNot, mIte, mTup, mLst, mSlice, mNoPart, mPart, mCall, mCallIO, mAsg, mPar, mPar3, asg, asgL, onB, R.bind_ok, R.bind_exc, R.bind_fail, R.of, one, dInt, dTuple, dList, dLen, dIdx, D.fz, D.frz, D.fzL, D.frzL, runE, pickIO, List.length_cons, List.length_nil, List.map_cons, List.map_nil, List.cons_append, List.nil_append, List.getElem?_cons_zero, List.getElem?_cons_succ, List.set_cons_zero, List.set_cons_succ, if_true, if_false, Bool.false_eq_true, Bool.not_true, Bool.not_false, Bool.true_and, Bool.false_and, Bool.and_true, Bool.and_self, List.replicate, Nat.reduceAdd, Nat.reduceSub, Nat.reduceLT, Nat.reduceLeDiff, Nat.reduceEqDiff, Option.bind_some, Option.map_some, Pu.atI0, Pu.atI1, Pu.atI2, Pu.atI3, and_self, Pu.sz, reduceIte, Pu.n0, Pu.n1, Pu.n2, Pu.n3, Pu.n4, Pu.n5, Pu.n6, Pu.n7, Pu.n8, Pu.n9, Int.reduceBEq, beq_self_eq_true, Pu.io_tup, Pu.io_lst, Pu.io_int, Pu.io_bl, Pu.io_str, Pu.io_non, f1, f2, z1, z2, dIsT, isTy_tup, isTy_bool, e1 _ rfl, e2 _ rfl, k_MOST_TESTS, k_MOST_SENDS, dGt, dLe, dCmpI, c1, c2, dAll, blsL_true, fzL_true, frzL_of (fzL_true _), all_true, dEq_int]
  trace_state
end Pu
set_option Elab.async false
set_option linter.all false
set_option maxRecDepth 100000
set_option maxHeartbeats 2000000
/-! Pu: a thing is alike itself. -/
namespace Pu
open PySem PySem.Spec PyProof.Rows L2 Pl
def plN : Nat → D → Bool
  | 0, _ => false
  | n + 1, d => match d with
    | .tup ds => ds.all (plN n) && decide (ds.length ≤ 1000)
    | .lst _ ds => ds.all (plN n) && decide (ds.length ≤ 1000)
    | .non => true
    | .bl _ => true
    | .int _ => true
    | .str x => PyData.strOk x
    | _ => false
theorem shaped_str {a : Str} (h : PyData.strOk a = true) : SeqAt.shaped (.str a) = true := by
  show (PyData.strOk a && decide (PyData.depth (.str a) ≤ 64)) = true
  rw [h]
  rfl
theorem dEq_str {neg : Bool} {a b : Str} (ha : PyData.strOk a = true) (hb : PyData.strOk b = true) : dEq neg (.str a) (.str b) = some (.bl (if neg then !(a == b) else a == b)) := by
  show (if SeqAt.shaped (.str a) = true ∧ SeqAt.shaped (.str b) = true then some (D.bl (if neg then !PyData.eqv (.str a) (.str b) else PyData.eqv (.str a) (.str b))) else none) = _
  rw [if_pos ⟨shaped_str ha, shaped_str hb⟩]
  rfl
theorem py_refl : ∀ (n : Nat) (d : D), plN n d = true → ∃ p, d.py = some p ∧ p.canLay0 = true ∧ p.depth ≤ n ∧ PyData.eqv p p = true := by
  intro n
  induction n with
  | zero => intro d h; cases h
  | succ n ih =>
    have hl : ∀ ds : List D, ds.all (plN n) = true → ∃ ps, D.pyL ds = some ps ∧ PyData.canLayAll0 ps = true ∧ PyData.depthAll ps ≤ n ∧ PyData.eqvAll ps ps = true := by
      intro ds
      induction ds with
      | nil => intro _; exact ⟨[], rfl, rfl, Nat.zero_le _, rfl⟩
      | cons d ds ih2 =>
        intro h
        rw [List.all_cons, Bool.and_eq_true] at h
        obtain ⟨p, e1, c1, d1, q1⟩ := ih d h.1
        obtain ⟨ps, e2, c2, d2, q2⟩ := ih2 h.2
        refine ⟨p :: ps, ?_, ?_, ?_, ?_⟩
        · rw [D.pyL, e1, e2]
        · rw [PyData.canLayAll0, c1, c2]; rfl
        · rw [PyData.depthAll]; exact Nat.max_le.mpr ⟨d1, d2⟩
        · rw [PyData.eqvAll, q1, q2]; rfl
    intro d h
    cases d with
    | tup ds =>
      obtain ⟨h1, h2⟩ := Bool.and_eq_true_iff.mp (show (ds.all (plN n) && decide (ds.length ≤ 1000)) = true from h)
      obtain ⟨ps, e, c, dp, q⟩ := hl ds h1
      exact ⟨.tuple ps, by rw [D.py, e], by rw [PyData.canLay0]; exact c, by rw [PyData.depth]; omega, by rw [PyData.eqv]; exact q⟩
    | lst m ds =>
      obtain ⟨h1, h2⟩ := Bool.and_eq_true_iff.mp (show (ds.all (plN n) && decide (ds.length ≤ 1000)) = true from h)
      obtain ⟨ps, e, c, dp, q⟩ := hl ds h1
      exact ⟨.list ps, by rw [D.py, e], by rw [PyData.canLay0]; exact c, by rw [PyData.depth]; omega, by rw [PyData.eqv]; exact q⟩
    | non => exact ⟨.none, rfl, rfl, Nat.zero_le _, rfl⟩
    | bl b => exact ⟨.bool b, rfl, rfl, Nat.zero_le _, by cases b <;> rfl⟩
    | int i => exact ⟨.int i, rfl, rfl, Nat.zero_le _, beq_self_eq_true i⟩
    | str x => exact ⟨.str x, rfl, h, Nat.zero_le _, beq_self_eq_true x⟩
    | dic _ _ => cases h
    | obj _ _ _ => cases h
    | scr _ => cases h
theorem dEq_refl {n : Nat} {d : D} (h : plN n d = true) (hn : n ≤ 64) : dEq false d d = some (.bl true) := by
  obtain ⟨p, e, c, dp, q⟩ := py_refl n d h
  have s : SeqAt.shaped p = true := by
    show (p.canLay0 && decide (p.depth ≤ 64)) = true
    rw [c, decide_eq_true (show p.depth ≤ 64 by omega)]
    rfl
  unfold dEq
  rw [e]
  simp only [s, and_self, if_true, Bool.false_eq_true, if_false, q]
theorem dEq_bl (neg : Bool) (a b : Bool) : dEq neg (.bl a) (.bl b) = some (.bl (if neg then !(a == b) else a == b)) := by kernel_rfl
theorem dEq_non : dEq false .non .non = some (.bl true) := by kernel_rfl
theorem dEq_nil (m m' : Bool) : dEq false (.lst m []) (.lst m' []) = some (.bl true) := by kernel_rfl
theorem isTs_tup (ds : List D) : (["tuple", "list"].any fun n => isTy n (.tup ds)) = true := rfl
theorem isTs_lst (m : Bool) (ds : List D) : (["tuple", "list"].any fun n => isTy n (.lst m ds)) = true := rfl
theorem alike_items (cs : List Str) (rc : List D → RC) (d : D) (ds : List D) (hd : d = .tup ds ∨ d = .lst false ds) (hf : D.fzL ds = true) (hl : ds.length ≤ 1000) (hr : ∀ x ∈ ds, rc [x, x] = .ok (.bl true) []) :
    mLc (mRng1 (mCons (mB (one dLen) (mCons (mVar 1) mNil)) (mNil))) (.nm 2) [2] (mNot (mCall rc (mCons (mBin dIdx (mVar 0) (mVar 2)) (mCons (mBin dIdx (mVar 1) (mVar 2)) (mNil))))) (mVar 2) [some d, some d, none] = .ok (.lst true []) [some d, some d, none] := by
  have fd : d.fz = true := by rcases hd with rfl | rfl <;> simp only [D.fz, hf, Bool.not_false, Bool.and_self]
  have zf := frzL_of hf
  have z := lc_ok (it := mRng1 (mCons (mB (one dLen) (mCons (mVar 1) mNil)) (mNil))) (i := 2) (c := mNot (mCall rc (mCons (mBin dIdx (mVar 0) (mVar 2)) (mCons (mBin dIdx (mVar 1) (mVar 2)) (mNil))))) (y := mVar 2) (e := [some d, some d, none]) (ds := rngD 0 ds.length) (fun _ => false) (fun x => x)
    (rng1_len (by rcases hd with rfl | rfl <;> simp only [runF, mSeq, mSet, mMov, mBin, mUn, mB, mCons, mNil, mVar, mBinL, mBinR, mUnP, mC, isIn, mIf, mRet, mNext, mBrk, mDo, mAnd, mOr, mNot, mIte, mTup, mLst, mSlice, mNoPart, mPart, mCall, mCallIO, mAsg, mPar, mPar3, asg, asgL, onB, R.bind_ok, R.bind_exc, R.bind_fail, R.of, one, dInt, dTuple, dList, dLen, dIdx, D.fz, D.frz, D.fzL, D.frzL, runE, pickIO, List.length_cons, List.length_nil, List.map_cons, List.map_nil, List.cons_append, List.nil_append, List.getElem?_cons_zero, List.getElem?_cons_succ, List.set_cons_zero, List.set_cons_succ, if_true, if_false, Bool.false_eq_true, Bool.not_true, Bool.not_false, Bool.true_and, Bool.false_and, Bool.and_true, Bool.and_self, List.replicate, Nat.reduceAdd, Nat.reduceSub, Nat.reduceLT, Nat.reduceLeDiff, Nat.reduceEqDiff, Option.bind_some, Option.map_some, Pu.atI0, Pu.atI1, Pu.atI2, Pu.atI3, and_self, Pu.sz, reduceIte, Pu.n0, Pu.n1, Pu.n2, Pu.n3, Pu.n4, Pu.n5, Pu.n6, Pu.n7, Pu.n8, Pu.n9, Int.reduceBEq, beq_self_eq_true, Pu.io_tup, Pu.io_lst, Pu.io_int, Pu.io_bl, Pu.io_str, Pu.io_non, hf, zf]) (by omega)) (by simp) (fun x hx => by
      obtain ⟨k, hk, rfl⟩ := rngD_mem hx
      have ha := atI_nat hk
      have hm : ds[k] ∈ ds := List.getElem_mem hk
      have h1 := hr _ hm
      have h2 := fz_mem hf hm
      rcases hd with rfl | rfl <;> simp only [runF, mSeq, mSet, mMov, mBin, mUn, mB, mCons, mNil, mVar, mBinL, mBinR, mUnP, mC, isIn, mIf, mRet, mNext, mBrk, mDo, mAnd, mOr, mNot, mIte, mTup, mLst, mSlice, mNoPart, mPart, mCall, mCallIO, mAsg, mPar, mPar3, asg, asgL, onB, R.bind_ok, R.bind_exc, R.bind_fail, R.of, one, dInt, dTuple, dList, dLen, dIdx, D.fz, D.frz, D.fzL, D.frzL, runE, pickIO, List.length_cons, List.length_nil, List.map_cons, List.map_nil, List.cons_append, List.nil_append, List.getElem?_cons_zero, List.getElem?_cons_succ, List.set_cons_zero, List.set_cons_succ, if_true, if_false, Bool.false_eq_true, Bool.not_true, Bool.not_false, Bool.true_and, Bool.false_and, Bool.and_true, Bool.and_self, List.replicate, Nat.reduceAdd, Nat.reduceSub, Nat.reduceLT, Nat.reduceLeDiff, Nat.reduceEqDiff, Option.bind_some, Option.map_some, Pu.atI0, Pu.atI1, Pu.atI2, Pu.atI3, and_self, Pu.sz, reduceIte, Pu.n0, Pu.n1, Pu.n2, Pu.n3, Pu.n4, Pu.n5, Pu.n6, Pu.n7, Pu.n8, Pu.n9, Int.reduceBEq, beq_self_eq_true, Pu.io_tup, Pu.io_lst, Pu.io_int, Pu.io_bl, Pu.io_str, Pu.io_non, hf, zf, ha, h1, h2]) (fun x hx h => by cases h) (by rw [rngD_len, sz]; omega)
  rw [filter_false] at z
  exact z
theorem alike_lst (cs : List Str) (n : Nat) (m1 m2 : Bool) (ds : List D) (hf : D.fzL ds = true) (hl : ds.length ≤ 1000) (hr : ∀ x ∈ ds, c_law_alike cs n [x, x] = .ok (.bl true) []) : c_law_alike cs (n + 1) [.lst m1 ds, .lst m2 ds] = .ok (.bl true) [] := by
  have zf := frzL_of hf
  have e := alike_items cs (c_law_alike cs n) (.lst false ds) ds (.inr rfl) hf hl hr
  have t1 : isTy "dict" (.lst false ds) = false := rfl
  have t2 : isTy "list" (.lst false ds) = true := rfl
  cases m1 <;> cases m2 <;> simp only [c_law_alike, m_law_alike, runF, mSeq, mSet, mMov, mBin, mUn, mB, mCons, mNil, mVar, mBinL, mBinR, mUnP, mC, isIn, mIf, mRet, mNext, mBrk, mDo, mAnd, mOr, mNot, mIte, mTup, mLst, mSlice, mNoPart, mPart, mCall, mCallIO, mAsg, mPar, mPar3, asg, asgL, onB, R.bind_ok, R.bind_exc, R.bind_fail, R.of, one, dInt, dTuple, dList, dLen, dIdx, D.fz, D.frz, D.fzL, D.frzL, runE, pickIO, List.length_cons, List.length_nil, List.map_cons, List.map_nil, List.cons_append, List.nil_append, List.getElem?_cons_zero, List.getElem?_cons_succ, List.set_cons_zero, List.set_cons_succ, if_true, if_false, Bool.false_eq_true, Bool.not_true, Bool.not_false, Bool.true_and, Bool.false_and, Bool.and_true, Bool.and_self, List.replicate, Nat.reduceAdd, Nat.reduceSub, Nat.reduceLT, Nat.reduceLeDiff, Nat.reduceEqDiff, Option.bind_some, Option.map_some, Pu.atI0, Pu.atI1, Pu.atI2, Pu.atI3, and_self, Pu.sz, reduceIte, Pu.n0, Pu.n1, Pu.n2, Pu.n3, Pu.n4, Pu.n5, Pu.n6, Pu.n7, Pu.n8, Pu.n9, Int.reduceBEq, beq_self_eq_true, Pu.io_tup, Pu.io_lst, Pu.io_int, Pu.io_bl, Pu.io_str, Pu.io_non, hf, zf, dIsT, dIsTs, t1, t2, isTs_lst, dEq_bl, dEq_int, e, dEq_nil]
theorem alike_refl (cs : List Str) : ∀ (n : Nat) (d : D), plN n d = true → d.fz = true → c_law_alike cs n [d, d] = .ok (.bl true) []
  | 0, _, h, _ => by cases h
  | n + 1, .lst m ds, h, hf => by
    obtain ⟨h1, h2⟩ := Bool.and_eq_true_iff.mp (show (ds.all (plN n) && decide (ds.length ≤ 1000)) = true from h)
    have hf' : D.fzL ds = true := by simp only [D.fz, Bool.and_eq_true] at hf; exact hf.2
    exact alike_lst cs n m m ds hf' (of_decide_eq_true h2) fun x hx => alike_refl cs n x (List.all_eq_true.mp h1 x hx) (fz_mem hf' hx)
  | n + 1, .tup ds, h, hf => by
    obtain ⟨h1, h2⟩ := Bool.and_eq_true_iff.mp (show (ds.all (plN n) && decide (ds.length ≤ 1000)) = true from h)
    have hf' : D.fzL ds = true := hf
    have zf := frzL_of hf'
    have e := alike_items cs (c_law_alike cs n) (.tup ds) ds (.inl rfl) hf' (of_decide_eq_true h2) fun x hx => alike_refl cs n x (List.all_eq_true.mp h1 x hx) (fz_mem hf' hx)
    have t1 : isTy "dict" (.tup ds) = false := rfl
    have t2 : isTy "list" (.tup ds) = false := rfl
    simp only [c_law_alike, m_law_alike, runF, mSeq, mSet, mMov, mBin, mUn, mB, mCons, mNil, mVar, mBinL, mBinR, mUnP, mC, isIn, mIf, mRet, mNext, mBrk, mDo, mAnd, mOr, mNot, mIte, mTup, mLst, mSlice, mNoPart, mPart, mCall, mCallIO, mAsg, mPar, mPar3, asg, asgL, onB, R.bind_ok, R.bind_exc, R.bind_fail, R.of, one, dInt, dTuple, dList, dLen, dIdx, D.fz, D.frz, D.fzL, D.frzL, runE, pickIO, List.length_cons, List.length_nil, List.map_cons, List.map_nil, List.cons_append, List.nil_append, List.getElem?_cons_zero, List.getElem?_cons_succ, List.set_cons_zero, List.set_cons_succ, if_true, if_false, Bool.false_eq_true, Bool.not_true, Bool.not_false, Bool.true_and, Bool.false_and, Bool.and_true, Bool.and_self, List.replicate, Nat.reduceAdd, Nat.reduceSub, Nat.reduceLT, Nat.reduceLeDiff, Nat.reduceEqDiff, Option.bind_some, Option.map_some, Pu.atI0, Pu.atI1, Pu.atI2, Pu.atI3, and_self, Pu.sz, reduceIte, Pu.n0, Pu.n1, Pu.n2, Pu.n3, Pu.n4, Pu.n5, Pu.n6, Pu.n7, Pu.n8, Pu.n9, Int.reduceBEq, beq_self_eq_true, Pu.io_tup, Pu.io_lst, Pu.io_int, Pu.io_bl, Pu.io_str, Pu.io_non, hf', zf, dIsT, dIsTs, t1, t2, isTs_tup, dEq_bl, dEq_int, e, dEq_nil]
  | n + 1, .non, h, hf => by kernel_rfl
  | n + 1, .str x, h, hf => by
    have t1 : isTy "dict" (.str x) = false := rfl
    have t2 : isTy "str" (.str x) = true := rfl
    have t3 : (["tuple", "list"].any fun n => isTy n (.str x)) = false := rfl
    simp only [c_law_alike, m_law_alike, runF, mSeq, mSet, mMov, mBin, mUn, mB, mCons, mNil, mVar, mBinL, mBinR, mUnP, mC, isIn, mIf, mRet, mNext, mBrk, mDo, mAnd, mOr, mNot, mIte, mTup, mLst, mSlice, mNoPart, mPart, mCall, mCallIO, mAsg, mPar, mPar3, asg, asgL, onB, R.bind_ok, R.bind_exc, R.bind_fail, R.of, one, dInt, dTuple, dList, dLen, dIdx, D.fz, D.frz, D.fzL, D.frzL, runE, pickIO, List.length_cons, List.length_nil, List.map_cons, List.map_nil, List.cons_append, List.nil_append, List.getElem?_cons_zero, List.getElem?_cons_succ, List.set_cons_zero, List.set_cons_succ, if_true, if_false, Bool.false_eq_true, Bool.not_true, Bool.not_false, Bool.true_and, Bool.false_and, Bool.and_true, Bool.and_self, List.replicate, Nat.reduceAdd, Nat.reduceSub, Nat.reduceLT, Nat.reduceLeDiff, Nat.reduceEqDiff, Option.bind_some, Option.map_some, Pu.atI0, Pu.atI1, Pu.atI2, Pu.atI3, and_self, Pu.sz, reduceIte, Pu.n0, Pu.n1, Pu.n2, Pu.n3, Pu.n4, Pu.n5, Pu.n6, Pu.n7, Pu.n8, Pu.n9, Int.reduceBEq, beq_self_eq_true, Pu.io_tup, Pu.io_lst, Pu.io_int, Pu.io_bl, Pu.io_str, Pu.io_non, dIsT, dIsTs, dIsN, t1, t2, t3, dEq_bl, dEq_str (show PyData.strOk x = true from h) (show PyData.strOk x = true from h)]
  | n + 1, .int x, h, hf => by
    have t1 : isTy "dict" (.int x) = false := rfl
    have t2 : isTy "str" (.int x) = false := rfl
    have t3 : (["tuple", "list"].any fun n => isTy n (.int x)) = false := rfl
    have t4 : isTy "int" (.int x) = true := rfl
    have t5 : isTy "bool" (.int x) = false := rfl
    simp only [c_law_alike, m_law_alike, runF, mSeq, mSet, mMov, mBin, mUn, mB, mCons, mNil, mVar, mBinL, mBinR, mUnP, mC, isIn, mIf, mRet, mNext, mBrk, mDo, mAnd, mOr, mNot, mIte, mTup, mLst, mSlice, mNoPart, mPart, mCall, mCallIO, mAsg, mPar, mPar3, asg, asgL, onB, R.bind_ok, R.bind_exc, R.bind_fail, R.of, one, dInt, dTuple, dList, dLen, dIdx, D.fz, D.frz, D.fzL, D.frzL, runE, pickIO, List.length_cons, List.length_nil, List.map_cons, List.map_nil, List.cons_append, List.nil_append, List.getElem?_cons_zero, List.getElem?_cons_succ, List.set_cons_zero, List.set_cons_succ, if_true, if_false, Bool.false_eq_true, Bool.not_true, Bool.not_false, Bool.true_and, Bool.false_and, Bool.and_true, Bool.and_self, List.replicate, Nat.reduceAdd, Nat.reduceSub, Nat.reduceLT, Nat.reduceLeDiff, Nat.reduceEqDiff, Option.bind_some, Option.map_some, Pu.atI0, Pu.atI1, Pu.atI2, Pu.atI3, and_self, Pu.sz, reduceIte, Pu.n0, Pu.n1, Pu.n2, Pu.n3, Pu.n4, Pu.n5, Pu.n6, Pu.n7, Pu.n8, Pu.n9, Int.reduceBEq, beq_self_eq_true, Pu.io_tup, Pu.io_lst, Pu.io_int, Pu.io_bl, Pu.io_str, Pu.io_non, dIsT, dIsTs, dIsN, t1, t2, t3, t4, t5, dEq_bl, dEq_int]
  | n + 1, .bl x, h, hf => by
    have t1 : isTy "dict" (.bl x) = false := rfl
    have t2 : isTy "str" (.bl x) = false := rfl
    have t3 : (["tuple", "list"].any fun n => isTy n (.bl x)) = false := rfl
    have t4 : isTy "int" (.bl x) = true := rfl
    have t5 : isTy "bool" (.bl x) = true := rfl
    simp only [c_law_alike, m_law_alike, runF, mSeq, mSet, mMov, mBin, mUn, mB, mCons, mNil, mVar, mBinL, mBinR, mUnP, mC, isIn, mIf, mRet, mNext, mBrk, mDo, mAnd, mOr, mNot, mIte, mTup, mLst, mSlice, mNoPart, mPart, mCall, mCallIO, mAsg, mPar, mPar3, asg, asgL, onB, R.bind_ok, R.bind_exc, R.bind_fail, R.of, one, dInt, dTuple, dList, dLen, dIdx, D.fz, D.frz, D.fzL, D.frzL, runE, pickIO, List.length_cons, List.length_nil, List.map_cons, List.map_nil, List.cons_append, List.nil_append, List.getElem?_cons_zero, List.getElem?_cons_succ, List.set_cons_zero, List.set_cons_succ, if_true, if_false, Bool.false_eq_true, Bool.not_true, Bool.not_false, Bool.true_and, Bool.false_and, Bool.and_true, Bool.and_self, List.replicate, Nat.reduceAdd, Nat.reduceSub, Nat.reduceLT, Nat.reduceLeDiff, Nat.reduceEqDiff, Option.bind_some, Option.map_some, Pu.atI0, Pu.atI1, Pu.atI2, Pu.atI3, and_self, Pu.sz, reduceIte, Pu.n0, Pu.n1, Pu.n2, Pu.n3, Pu.n4, Pu.n5, Pu.n6, Pu.n7, Pu.n8, Pu.n9, Int.reduceBEq, beq_self_eq_true, Pu.io_tup, Pu.io_lst, Pu.io_int, Pu.io_bl, Pu.io_str, Pu.io_non, dIsT, dIsTs, dIsN, t1, t2, t3, t4, t5, dEq_bl]
  | n + 1, .dic _ _, h, _ => by cases h
  | n + 1, .obj _ _ _, h, _ => by cases h
  | n + 1, .scr _, h, _ => by cases h
end Pu
set_option Elab.async false
set_option linter.all false
set_option maxRecDepth 100000
set_option maxHeartbeats 2000000
/-! Pu: the script, mixed; loops. -/
namespace Pu
open PySem PySem.Spec PyProof.Rows L2 Pl
def mixB : M Fl := mSet 2 (mBin dMod (mB (one dInt) (mCons (mBin dAdd (mBin dAdd (mBin dMulA (mVar 2) (mC (.int 48271))) (mBin dMod (mB (one dInt) (mCons (mVar 3) mNil)) (mC (.int 2147483629)))) (mC (.int 1))) mNil)) (mC (.int 2147483647)))
theorem mix_loop (s c : Option D) : ∀ (l : List Int) (st : Int) (x : Option D), ∃ st' x', forL (.nm 3) mixB (l.map D.int) [s, c, some (.int st), x] = .ok .next [s, c, some (.int st'), x']
  | [], st, x => ⟨st, x, rfl⟩
  | i :: l, st, x => by
    have s1 : small64B 48271 = true := by decide
    obtain ⟨st', x', e⟩ := mix_loop s c l ((st * 48271 + i % 2147483629 + 1) % 2147483647) (some (.int i))
    refine ⟨st', x', ?_⟩
    rw [List.map_cons, forL]
    have p1 : (0 : Int) < 2147483629 := by decide
    have p2 : (0 : Int) < 2147483647 := by decide
    have b : mixB [s, c, some (.int st), some (.int i)] = .ok .next [s, c, some (.int ((st * 48271 + i % 2147483629 + 1) % 2147483647)), some (.int i)] := by
      simp only [mixB, runF, mSeq, mSet, mMov, mBin, mUn, mB, mCons, mNil, mVar, mBinL, mBinR, mUnP, mC, isIn, mIf, mRet, mNext, mBrk, mDo, mAnd, mOr, mNot, mIte, mTup, mLst, mSlice, mNoPart, mPart, mCall, mCallIO, mAsg, mPar, mPar3, asg, asgL, onB, R.bind_ok, R.bind_exc, R.bind_fail, R.of, one, dInt, dTuple, dList, dLen, dIdx, D.fz, D.frz, D.fzL, D.frzL, runE, pickIO, List.length_cons, List.length_nil, List.map_cons, List.map_nil, List.cons_append, List.nil_append, List.getElem?_cons_zero, List.getElem?_cons_succ, List.set_cons_zero, List.set_cons_succ, if_true, if_false, Bool.false_eq_true, Bool.not_true, Bool.not_false, Bool.true_and, Bool.false_and, Bool.and_true, Bool.and_self, List.replicate, Nat.reduceAdd, Nat.reduceSub, Nat.reduceLT, Nat.reduceLeDiff, Nat.reduceEqDiff, Option.bind_some, Option.map_some, Pu.atI0, Pu.atI1, Pu.atI2, Pu.atI3, and_self, Pu.sz, reduceIte, Pu.n0, Pu.n1, Pu.n2, Pu.n3, Pu.n4, Pu.n5, Pu.n6, Pu.n7, Pu.n8, Pu.n9, Int.reduceBEq, beq_self_eq_true, Pu.io_tup, Pu.io_lst, Pu.io_int, Pu.io_bl, Pu.io_str, Pu.io_non, decide_true, decide_false, dMulA, dMul, s1, Bool.or_true, dMod, p1, p2, dAdd]
    simp only [asg, List.length_cons, List.length_nil, Nat.reduceAdd, Nat.reduceLT, if_true, List.set_cons_succ, List.set_cons_zero, b, onFl, e]
theorem mix_seed (sd : Int) {ns : List Int} (hl : ns.length ≤ 63) : ∃ h, c_law_mix [.scr ns, .int sd] = .ok h [] ∧ GH h := by
  obtain ⟨st, x, e⟩ := mix_loop (some (.scr ns)) (some (.int sd)) ns sd none
  refine ⟨hD st ns 0, ?_, _, _, _, rfl, hl, Int.le_refl 0⟩
  have e' : forL (.nm 3) (mSet 2 (mBin dMod (mB (one dInt) (mCons (mBin dAdd (mBin dAdd (mBin dMulA (mVar 2) (mC (.int 48271))) (mBin dMod (mB (one dInt) (mCons (mVar 3) mNil)) (mC (.int 2147483629)))) (mC (.int 1))) mNil)) (mC (.int 2147483647)))) (ns.map D.int) [some (.scr ns), some (.int sd), some (.int sd), none] = .ok .next [some (.scr ns), some (.int sd), some (.int st), x] := e
  simp only [c_law_mix, m_law_mix, runF, mSeq, mSet, mMov, mBin, mUn, mB, mCons, mNil, mVar, mBinL, mBinR, mUnP, mC, isIn, mIf, mRet, mNext, mBrk, mDo, mAnd, mOr, mNot, mIte, mTup, mLst, mSlice, mNoPart, mPart, mCall, mCallIO, mAsg, mPar, mPar3, asg, asgL, onB, R.bind_ok, R.bind_exc, R.bind_fail, R.of, one, dInt, dTuple, dList, dLen, dIdx, D.fz, D.frz, D.fzL, D.frzL, runE, pickIO, List.length_cons, List.length_nil, List.map_cons, List.map_nil, List.cons_append, List.nil_append, List.getElem?_cons_zero, List.getElem?_cons_succ, List.set_cons_zero, List.set_cons_succ, if_true, if_false, Bool.false_eq_true, Bool.not_true, Bool.not_false, Bool.true_and, Bool.false_and, Bool.and_true, Bool.and_self, List.replicate, Nat.reduceAdd, Nat.reduceSub, Nat.reduceLT, Nat.reduceLeDiff, Nat.reduceEqDiff, Option.bind_some, Option.map_some, Pu.atI0, Pu.atI1, Pu.atI2, Pu.atI3, and_self, Pu.sz, reduceIte, Pu.n0, Pu.n1, Pu.n2, Pu.n3, Pu.n4, Pu.n5, Pu.n6, Pu.n7, Pu.n8, Pu.n9, Int.reduceBEq, beq_self_eq_true, Pu.io_tup, Pu.io_lst, Pu.io_int, Pu.io_bl, Pu.io_str, Pu.io_non, decide_true, decide_false, mFor, mIt, D.itemsS, e', hD]
theorem mix_ok {ns : List Int} (hl : ns.length ≤ 63) : ∃ h, c_law_mix [.scr ns, .int 1] = .ok h [] ∧ GH h := mix_seed 1 hl
/-- a loop whose body goes on, and keeps I -/
theorem forL_inv {t : Tgt} {b : M Fl} (I : Pl.Env → Prop) : ∀ (ds : List D) (e : Pl.Env), I e → (∀ d ∈ ds, ∀ e, I e → ∃ e1 e2, asg t d e = some e1 ∧ b e1 = .ok .next e2 ∧ I e2) → ∃ e', forL t b ds e = .ok .next e' ∧ I e'
  | [], e, h, _ => ⟨e, rfl, h⟩
  | d :: ds, e, h, hb => by
    obtain ⟨e1, e2, h1, h2, h3⟩ := hb d List.mem_cons_self e h
    obtain ⟨e', h4, h5⟩ := forL_inv I ds e2 h3 fun x hx => hb x (List.mem_cons_of_mem _ hx)
    refine ⟨e', ?_, h5⟩
    rw [forL]
    simp only [h1, h2, onFl, h4]

theorem forL_ix {t : Tgt} {b : M Fl} (I : Nat → Pl.Env → Prop) : ∀ (ds : List D) (k : Nat) (e : Pl.Env), I k e → (∀ j, j < k + ds.length → ∀ d ∈ ds, ∀ e, I j e → ∃ e1 e2, asg t d e = some e1 ∧ b e1 = .ok .next e2 ∧ I (j + 1) e2) → ∃ e', forL t b ds e = .ok .next e' ∧ I (k + ds.length) e'
  | [], k, e, h, _ => ⟨e, rfl, h⟩
  | d :: ds, k, e, h, hb => by
    obtain ⟨e1, e2, h1, h2, h3⟩ := hb k (by rw [List.length_cons]; omega) d List.mem_cons_self e h
    obtain ⟨e', h4, h5⟩ := forL_ix I ds (k + 1) e2 h3 fun j hj x hx => hb j (by rw [List.length_cons]; omega) x (List.mem_cons_of_mem _ hx)
    refine ⟨e', ?_, by rw [List.length_cons, show k + (ds.length + 1) = k + 1 + ds.length by omega]; exact h5⟩
    rw [forL]
    simp only [h1, h2, onFl, h4]
theorem pick_frz (h : D) (ds : List D) : c_law_pick [h, .lst true ds] = c_law_pick [h, .lst false (D.frzL ds)] := by
  have z1 := D.frzL_fz ds
  have z2 := D.frzL_id _ z1
  simp only [c_law_pick, m_law_pick, runF, mRet, mBin, mVar, List.length_cons, List.length_nil, List.map_cons, List.map_nil, List.cons_append, List.nil_append, List.getElem?_cons_zero, List.getElem?_cons_succ, List.set_cons_zero, List.set_cons_succ, D.fz, D.frz, z1, z2, Bool.not_true, Bool.not_false, Bool.false_and, Bool.true_and, Bool.false_eq_true, if_true, if_false, R.bind_ok, Nat.reduceAdd, Nat.reduceSub, List.replicate]
theorem pick_any {h : D} (g : GH h) {ds : List D} (h0 : 0 < ds.length) (h1 : ds.length ≤ 1000) : ∃ d h', c_law_pick [h, .lst true ds] = .ok d [h'] ∧ GH h' ∧ d ∈ D.frzL ds := by
  rw [pick_frz]
  have l : (D.frzL ds).length = ds.length := by
    clear h0 h1
    induction ds with
    | nil => rfl
    | cons d ds ih => rw [D.frzL, List.length_cons, List.length_cons, ih]
  exact pick_ok g (D.frzL_fz ds) (by rw [l]; exact h0) (by rw [l]; exact h1)
theorem mem_cut {ds : List D} {lo hi : Option Int} {d : D} (h : d ∈ Pl.cutD ds lo hi) : d ∈ ds := List.mem_of_mem_drop (List.mem_of_mem_take h)
theorem len_cut (ds : List D) (lo hi : Option Int) : (Pl.cutD ds lo hi).length ≤ ds.length := by
  unfold Pl.cutD
  rw [List.length_take, List.length_drop]
  omega
end Pu
set_option Elab.async false
set_option linter.all false
set_option maxRecDepth 100000
set_option maxHeartbeats 4000000
/-! Pu: a kind of drawn rows; heads. -/
namespace Pu
open PySem PySem.Spec PyProof.Rows L2 Pl
def m_Kind_init (cs : List Str) : M Fl :=
  mSeq (mIf (mOr (mNot (mUn (dIsT cs "tuple") (mVar 1))) (mBin (dGt) (mB (one dLen) (mCons (mVar 1) mNil)) (mC k_MOST_ROWS))) (mRaise1 "InvalidRow" "index" (mC .non)) (mNext)) <|
  mSeq (mFor (mEnum (mVar 1)) (.tp [.nm 3, .nm 4]) (mIf (mNot (mCall (c_is_row cs) (mCons (mVar 4) (mNil)))) (mRaise1 "InvalidRow" "index" (mVar 3)) (mNext))) <|
  mSeq (mIf (mNot (mUn (dIsT cs "bool") (mVar 2))) (mRaise0 "InvalidGuard") (mNext)) <|
  mSeq (mFldSet cs 0 "lines" (mVar 1)) <|
  mFldSet cs 0 "guard" (mVar 2)
def c_Kind_init (cs : List Str) : List D → RC := runF 1 3 5 (m_Kind_init cs)
def kindT (rs : List D) (b : Bool) : D := .obj true "Kind" [("lines", .tup rs), ("guard", .bl b)]
def kindF (rs : List D) (b : Bool) : D := .obj false "Kind" [("lines", .tup rs), ("guard", .bl b)]
theorem lines_ne : ¬ ("lines" : Str) = "guard" := by decide
theorem lk2 (v u : D) : List.lookup ("guard" : Str) [("lines", v), ("guard", u)] = some u := by kernel_rfl
theorem lk1 (v u : D) : List.lookup ("lines" : Str) [("lines", v), ("guard", u)] = some v := by kernel_rfl
theorem lk (k : Str) (v : D) : List.lookup k [(k, v)] = some v := by rw [List.lookup, beq_self_eq_true]
theorem init_loop (cs : List Str) (s r g : Option D) : ∀ (ds : List D) (k : Nat) (a b : Option D), (∀ d ∈ ds, GRow d) →
    ∃ a' b', forL (.tp [.nm 3, .nm 4]) (mIf (mNot (mCall (c_is_row cs) (mCons (mVar 4) (mNil)))) (mRaise1 "InvalidRow" "index" (mVar 3)) (mNext)) (enumD k ds) [s, r, g, a, b] = .ok .next [s, r, g, a', b']
  | [], k, a, b, _ => ⟨a, b, rfl⟩
  | d :: ds, k, a, b, h => by
    have i := h d List.mem_cons_self
    have e0 := is_row_ok cs i
    have fz := i.fz
    have e1 : (mIf (mNot (mCall (c_is_row cs) (mCons (mVar 4) (mNil)))) (mRaise1 "InvalidRow" "index" (mVar 3)) (mNext)) [s, r, g, some (.int (k : Nat)), some d] = .ok .next [s, r, g, some (.int (k : Nat)), some d] := by
      simp only [runF, mSeq, mSet, mMov, mBin, mUn, mB, mCons, mNil, mVar, mBinL, mBinR, mUnP, mC, isIn, mIf, mRet, mNext, mBrk, mDo, mAnd, mOr, mNot, mIte, mTup, mLst, mSlice, mNoPart, mPart, mCall, mCallIO, mAsg, mPar, mPar3, asg, asgL, onB, R.bind_ok, R.bind_exc, R.bind_fail, R.of, one, dInt, dTuple, dList, dLen, dIdx, D.fz, D.frz, D.fzL, D.frzL, runE, pickIO, List.length_cons, List.length_nil, List.map_cons, List.map_nil, List.cons_append, List.nil_append, List.getElem?_cons_zero, List.getElem?_cons_succ, List.set_cons_zero, List.set_cons_succ, if_true, if_false, Bool.false_eq_true, Bool.not_true, Bool.not_false, Bool.true_and, Bool.false_and, Bool.and_true, Bool.and_self, List.replicate, Nat.reduceAdd, Nat.reduceSub, Nat.reduceLT, Nat.reduceLeDiff, Nat.reduceEqDiff, Option.bind_some, Option.map_some, Pu.atI0, Pu.atI1, Pu.atI2, Pu.atI3, and_self, Pu.sz, reduceIte, Pu.n0, Pu.n1, Pu.n2, Pu.n3, Pu.n4, Pu.n5, Pu.n6, Pu.n7, Pu.n8, Pu.n9, Int.reduceBEq, beq_self_eq_true, Pu.io_tup, Pu.io_lst, Pu.io_int, Pu.io_bl, Pu.io_str, Pu.io_non, decide_true, decide_false, fz, e0]
    obtain ⟨a', b', e2⟩ := init_loop cs s r g ds (k + 1) (some (.int (k : Nat))) (some d) fun x hx => h x (List.mem_cons_of_mem _ hx)
    refine ⟨a', b', ?_⟩
    rw [enumD, forL]
    simp only [asg, asgL, List.length_cons, List.length_nil, Nat.reduceAdd, Nat.reduceLT, if_true, List.set_cons_succ, List.set_cons_zero, e1, onFl, e2]
theorem init_ok {cs : List Str} (hc : cs.contains ("Kind" : Str) = true) {rs : List D} (h : ∀ d ∈ rs, GRow d) (hl : rs.length ≤ 4) (b : Bool) : c_Kind_init cs [.obj true "Kind" [], .tup rs, .bl b] = .ok .non [kindT rs b] := by
  have f := fz_rows h
  have z := frzL_of f
  have c1 : decide ((4 : Int) < (rs.length : Int)) = false := decide_eq_false (by omega)
  have t1 : isTy "bool" (.bl b) = true := rfl
  obtain ⟨a', b', e2⟩ := init_loop cs (some (.obj true "Kind" [])) (some (.tup rs)) (some (.bl b)) rs 0 none none h
  simp only [c_Kind_init, m_Kind_init, runF, mSeq, mSet, mMov, mBin, mUn, mB, mCons, mNil, mVar, mBinL, mBinR, mUnP, mC, isIn, mIf, mRet, mNext, mBrk, mDo, mAnd, mOr, mNot, mIte, mTup, mLst, mSlice, mNoPart, mPart, mCall, mCallIO, mAsg, mPar, mPar3, asg, asgL, onB, R.bind_ok, R.bind_exc, R.bind_fail, R.of, one, dInt, dTuple, dList, dLen, dIdx, D.fz, D.frz, D.fzL, D.frzL, runE, pickIO, List.length_cons, List.length_nil, List.map_cons, List.map_nil, List.cons_append, List.nil_append, List.getElem?_cons_zero, List.getElem?_cons_succ, List.set_cons_zero, List.set_cons_succ, if_true, if_false, Bool.false_eq_true, Bool.not_true, Bool.not_false, Bool.true_and, Bool.false_and, Bool.and_true, Bool.and_self, List.replicate, Nat.reduceAdd, Nat.reduceSub, Nat.reduceLT, Nat.reduceLeDiff, Nat.reduceEqDiff, Option.bind_some, Option.map_some, Pu.atI0, Pu.atI1, Pu.atI2, Pu.atI3, and_self, Pu.sz, reduceIte, Pu.n0, Pu.n1, Pu.n2, Pu.n3, Pu.n4, Pu.n5, Pu.n6, Pu.n7, Pu.n8, Pu.n9, Int.reduceBEq, beq_self_eq_true, Pu.io_tup, Pu.io_lst, Pu.io_int, Pu.io_bl, Pu.io_str, Pu.io_non, decide_true, decide_false, f, z, dIsT, isTy_tup, dGt, dCmpI, k_MOST_ROWS, c1, mFor, mEnum, e2, t1, mFldSet, hc, putD, kindT, lines_ne]

def sameN : Nat → D → D → Bool
  | 0, _, _ => false
  | n + 1, a, b => match a, b with
    | .tup x, .tup y => x.length == y.length && (x.zip y).all fun p => sameN n p.1 p.2
    | .str x, .str y => x == y
    | .int x, .int y => x == y
    | .bl x, .bl y => x == y
    | .non, .non => true
    | _, _ => false
theorem zip_eq {n : Nat} (ih : ∀ a b : D, sameN n a b = true → a = b) : ∀ x y : List D, x.length = y.length → (x.zip y).all (fun p => sameN n p.1 p.2) = true → x = y
  | [], [], _, _ => rfl
  | [], _ :: _, h, _ => by cases h
  | _ :: _, [], h, _ => by cases h
  | a :: x, b :: y, h, k => by
    rw [List.zip_cons_cons, List.all_cons, Bool.and_eq_true] at k
    rw [ih a b k.1, zip_eq ih x y (by simpa using h) k.2]
theorem same_eq : ∀ (n : Nat) (a b : D), sameN n a b = true → a = b
  | 0, _, _, h => by cases h
  | n + 1, a, b, h => by
    unfold sameN at h
    split at h
    · rw [Bool.and_eq_true] at h
      rw [zip_eq (same_eq n) _ _ (eq_of_beq h.1) h.2]
    · rw [eq_of_beq h]
    · rw [eq_of_beq h]
    · rw [eq_of_beq h]
    · rfl
    · cases h
/-- both give the same plain frozen value -/
def both (n : Nat) (r r' : RC) : Bool := match r, r' with
  | .ok d [], .ok d' [] => sameN n d d' && (d.fz && plN n d)
  | _, _ => false
def theV (r : RC) : D := match r with
  | .ok d _ => d
  | _ => .non
theorem both_eq {n : Nat} {r r' : RC} (h : both n r r' = true) : r = .ok (theV r') [] ∧ r' = .ok (theV r') [] ∧ (theV r').fz = true ∧ plN n (theV r') = true := by
  unfold both at h
  split at h
  · rename_i d d'
    rw [Bool.and_eq_true, Bool.and_eq_true] at h
    have e := same_eq n d d' h.1
    subst e
    exact ⟨rfl, rfl, h.2.1, h.2.2⟩
  · cases h
end Pu
set_option Elab.async false
set_option linter.all false
set_option maxRecDepth 100000
set_option maxHeartbeats 1000000
/-! Pu: acts, as plain functions. -/
namespace Pu
open PySem PySem.Spec PyProof.Rows L2 Pl
def m_is_head (cs : List Str) : M Fl :=
  mSeq (mIf (mOr (mNot (mUn (dIsT cs "tuple") (mVar 0))) (mBin (dEq true) (mB (one dLen) (mCons (mVar 0) mNil)) (mC (.int 2)))) (mRet (mC (.bl false))) (mNext)) <|
  mRet (mAnd (mCall (c_are_marks cs) (mCons (mBin dIdx (mVar 0) (mC (.int 0))) (mNil))) (mCall (c_is_integer cs) (mCons (mBin dIdx (mVar 0) (mC (.int 1))) (mCons (mC (.int 0)) (mCons (mC k_MOST_COUNT) (mNil))))))
def c_is_head (cs : List Str) : List D → RC := runF 0 1 1 (m_is_head cs)
def m_holds : M Fl :=
  mSeq (mAsg (.tp [.nm 2, .nm 3]) (mVar 0)) <|
  mSeq (mIf (mBin (dIn false) (mVar 2) (mTup (mCons (mC (.str "has")) (mCons (mC (.str "lacks")) (mNil))))) (mRet (mBin (dEq false) (mBin (dIn false) (mVar 3) (mBin dIdx (mVar 1) (mC (.int 0)))) (mBin (dEq false) (mVar 2) (mC (.str "has"))))) (mNext)) <|
  mRet (mBin (dEq false) (mBin (dGe) (mBin dIdx (mVar 1) (mC (.int 1))) (mVar 3)) (mBin (dEq false) (mVar 2) (mC (.str "least"))))
def c_holds : List D → RC := runF 0 2 4 m_holds
def m_head_behind : M Fl :=
  mSeq (mAsg (.tp [.nm 3, .nm 4, .nm 5, .nm 6]) (mVar 0)) <|
  mSeq (mSet 7 (mB (one dTuple) (mCons (mLc (mIt (mC k_MARKS)) (.nm 8) [8] (mAnd (mOr (mBin (dIn false) (mVar 8) (mBin dIdx (mVar 1) (mC (.int 0)))) (mBin (dIn false) (mVar 8) (mVar 4))) (mBin (dIn true) (mVar 8) (mVar 5))) (mVar 8)) mNil))) <|
  mRet (mTup (mCons (mVar 7) (mCons (mIte (mOr (mVar 6) (mVar 2)) (mB dMin2 (mCons (mC k_MOST_COUNT) (mCons (mBin dAdd (mBin dIdx (mVar 1) (mC (.int 1))) (mC (.int 1))) mNil))) (mBin dIdx (mVar 1) (mC (.int 1)))) (mNil))))
def c_head_behind : List D → RC := runF 0 3 9 m_head_behind
def m_acted (cs : List Str) : M Fl :=
  mSeq (mIf (mAnd (mUn (dFld cs "guard") (mVar 0)) (mBin (dEq false) (mBin dIdx (mVar 1) (mC (.int 1))) (mC k_MOST_COUNT))) (mRet (mTup (mCons (mC (.bl false)) (mCons (mTup (mNil)) (mNil))))) (mNext)) <|
  mSeq (mFor (mIt (mUn (dFld cs "lines") (mVar 0))) (.tp [.nm 2, .nm 3, .nm 4]) (mIf (mB (one dAll) (mCons (mLc (mIt (mVar 2)) (.nm 5) [5] (mC (.bl true)) (mCall c_holds (mCons (mVar 5) (mCons (mVar 1) (mNil))))) mNil)) (mRet (mTup (mCons (mVar 3) (mCons (mB (one dTuple) (mCons (mLc (mIt (mVar 4)) (.nm 6) [6] (mC (.bl true)) (mTup (mCons (mBin dIdx (mVar 6) (mC (.int 0))) (mCons (mCall c_head_behind (mCons (mVar 6) (mCons (mVar 1) (mCons (mUn (dFld cs "guard") (mVar 0)) (mNil))))) (mNil))))) mNil)) (mNil))))) (mNext))) <|
  mRet (mTup (mCons (mC (.bl true)) (mCons (mTup (mNil)) (mNil))))
def c_acted (cs : List Str) : List D → RC := runF 0 2 7 (m_acted cs)
def m_Kind_acts (cs : List Str) : M Fl :=
  mSeq (mIf (mNot (mCall (c_is_head cs) (mCons (mVar 1) (mNil)))) (mRaise0 "InvalidHead") (mNext)) <|
  mRet (mCall (c_acted cs) (mCons (mVar 0) (mCons (mVar 1) (mNil))))
def c_Kind_acts (cs : List Str) : List D → RC := runF 0 2 2 (m_Kind_acts cs)
def m_Kind_with_guard (cs : List Str) : M Fl :=
  mRet (mMake "Kind" (c_Kind_init cs) (mCons (mUn (dFld cs "lines") (mVar 0)) (mCons (mC (.bl true)) (mNil))))
def c_Kind_with_guard (cs : List Str) : List D → RC := runF 0 1 1 (m_Kind_with_guard cs)
def m_law_heads : M Fl :=
  mSeq (mSet 0 (mLst (mCons (mTup (mNil)) (mCons (mTup (mCons (mC (.str "a")) (mNil))) (mCons (mTup (mCons (mC (.str "a")) (mCons (mC (.str "b")) (mNil)))) (mCons (mTup (mCons (mC (.str "a")) (mCons (mC (.str "b")) (mCons (mC (.str "c")) (mNil))))) (mCons (mTup (mCons (mC (.str "a")) (mCons (mC (.str "c")) (mNil)))) (mCons (mTup (mCons (mC (.str "b")) (mNil))) (mCons (mTup (mCons (mC (.str "b")) (mCons (mC (.str "c")) (mNil)))) (mCons (mTup (mCons (mC (.str "c")) (mNil))) (mNil))))))))))) <|
  mSeq (mSet 1 (mLst (mNil))) <|
  mSeq (mFor (mIt (mVar 0)) (.nm 2) (mSet 1 (mBin dAdd (mVar 1) (mLc (mRng1 (mCons (mC (.int 4)) (mNil))) (.nm 3) [3] (mC (.bl true)) (mTup (mCons (mVar 2) (mCons (mVar 3) (mNil)))))))) <|
  mRet (mVar 1)
def c_law_heads : List D → RC := runF 0 0 4 m_law_heads
def m_law_holds : M Fl :=
  mSeq (mIf (mBin (dEq false) (mBin dIdx (mVar 0) (mC (.int 0))) (mC (.str "has"))) (mRet (mBin (dIn false) (mBin dIdx (mVar 0) (mC (.int 1))) (mBin dIdx (mVar 1) (mC (.int 0))))) (mNext)) <|
  mSeq (mIf (mBin (dEq false) (mBin dIdx (mVar 0) (mC (.int 0))) (mC (.str "lacks"))) (mRet (mBin (dIn true) (mBin dIdx (mVar 0) (mC (.int 1))) (mBin dIdx (mVar 1) (mC (.int 0))))) (mNext)) <|
  mRet (mIte (mBin (dEq false) (mBin dIdx (mVar 0) (mC (.int 0))) (mC (.str "least"))) (mBin (dGe) (mBin dIdx (mVar 1) (mC (.int 1))) (mBin dIdx (mVar 0) (mC (.int 1)))) (mBin (dLt) (mBin dIdx (mVar 1) (mC (.int 1))) (mBin dIdx (mVar 0) (mC (.int 1)))))
def c_law_holds : List D → RC := runF 0 2 2 m_law_holds
def m_law_behind : M Fl :=
  mSeq (mSet 3 (mLc (mIt (mUn dMarks (mBin dAdd (mBin dIdx (mVar 1) (mC (.int 0))) (mBin dIdx (mVar 0) (mC (.int 1)))))) (.nm 5) [5] (mBin (dIn true) (mVar 5) (mBin dIdx (mVar 0) (mC (.int 2)))) (mVar 5))) <|
  mSeq (mSet 4 (mIte (mOr (mBin dIdx (mVar 0) (mC (.int 3))) (mVar 2)) (mBin dAdd (mBin dIdx (mVar 1) (mC (.int 1))) (mC (.int 1))) (mBin dIdx (mVar 1) (mC (.int 1))))) <|
  mRet (mTup (mCons (mB (one dTuple) (mCons (mVar 3) mNil)) (mCons (mIte (mBin (dLt) (mVar 4) (mC (.int 4))) (mVar 4) (mC (.int 3))) (mNil))))
def c_law_behind : List D → RC := runF 0 3 6 m_law_behind
def m_law_acts : M Fl :=
  mSeq (mAsg (.tp [.nm 2, .nm 3]) (mVar 0)) <|
  mSeq (mIf (mAnd (mVar 3) (mBin (dGt) (mBin dIdx (mVar 1) (mC (.int 1))) (mC (.int 2)))) (mRet (mTup (mCons (mC (.bl false)) (mCons (mTup (mNil)) (mNil))))) (mNext)) <|
  mSeq (mFor (mIt (mVar 2)) (.tp [.nm 4, .nm 5, .nm 6]) (mIf (mBin (dEq false) (mLc (mIt (mVar 4)) (.nm 7) [7] (mNot (mCall c_law_holds (mCons (mVar 7) (mCons (mVar 1) (mNil))))) (mVar 7)) (mLst (mNil))) (mRet (mTup (mCons (mVar 5) (mCons (mB (one dTuple) (mCons (mLc (mIt (mVar 6)) (.nm 8) [8] (mC (.bl true)) (mTup (mCons (mBin dIdx (mVar 8) (mC (.int 0))) (mCons (mCall c_law_behind (mCons (mVar 8) (mCons (mVar 1) (mCons (mVar 3) (mNil))))) (mNil))))) mNil)) (mNil))))) (mNext))) <|
  mRet (mTup (mCons (mC (.bl true)) (mCons (mTup (mNil)) (mNil))))
def c_law_acts : List D → RC := runF 0 2 9 m_law_acts
end Pu
set_option Elab.async false
set_option linter.all false
set_option maxRecDepth 100000
set_option maxHeartbeats 4000000
/-! Pu: acts, by kernel. -/
namespace Pu
open PySem PySem.Spec PyProof.Rows L2 Pl
def headsL : List D := ([.tup [], .tup [.str "a"], .tup [.str "a", .str "b"], .tup [.str "a", .str "b", .str "c"], .tup [.str "a", .str "c"], .tup [.str "b"], .tup [.str "b", .str "c"], .tup [.str "c"]] : List D).flatMap fun p => ([0, 1, 2, 3] : List Int).map fun i => .tup [p, .int i]
theorem heads_eq : c_law_heads [] = .ok (.lst false headsL) [] := by kernel_rfl
theorem heads_fz : (headsL.all D.fz) = true := by kernel_rfl
theorem head_fz {h : D} (hh : h ∈ headsL) : h.fz = true := List.all_eq_true.mp heads_fz h hh
theorem headsL_fz : D.fzL headsL = true := fzL_all fun _ h => head_fz h
theorem is_head_all (cs : List Str) : (headsL.all fun h => isOk (c_is_head cs [h]) true) = true := by kernel_rfl
theorem is_head_ok (cs : List Str) {h : D} (hh : h ∈ headsL) : c_is_head cs [h] = .ok (.bl true) [] := isOk_eq (List.all_eq_true.mp (is_head_all cs) h hh)
/-- whether the test holds at the head -/
def hv (h t : D) : Bool := isOk (c_law_holds [t, h]) true
theorem holds_all : (testsL.all fun t => headsL.all fun h => isOk (c_holds [t, h]) (hv h t) && isOk (c_law_holds [t, h]) (hv h t)) = true := by kernel_rfl
theorem holds_ok {h t : D} (hh : h ∈ headsL) (ht : t ∈ testsL) : c_holds [t, h] = .ok (.bl (hv h t)) [] ∧ c_law_holds [t, h] = .ok (.bl (hv h t)) [] := by
  have z := List.all_eq_true.mp (List.all_eq_true.mp holds_all t ht) h hh
  rw [Bool.and_eq_true] at z
  exact ⟨isOk_eq z.1, isOk_eq z.2⟩
/-- put and strip, each once -/
def putsL : List (D × D) := [.tup [], .tup [.str "a"], .tup [.str "b"], .tup [.str "c"], .tup [.str "a", .str "b"], .tup [.str "a", .str "c"], .tup [.str "b", .str "c"], .tup [.str "a", .str "b", .str "c"]].flatMap fun p => (marksL.filter fun q => sameN 4 (lessD q p) q).map fun q => (p, q)
theorem puts_all : (marksL.all fun p => marksL.all fun q => putsL.any fun x => sameN 4 x.1 p && sameN 4 x.2 (lessD q p)) = true := by kernel_rfl
theorem puts_mem {p q : D} (hp : p ∈ marksL) (hq : q ∈ marksL) : (p, lessD q p) ∈ putsL := by
  obtain ⟨x, hx, e⟩ := List.any_eq_true.mp (List.all_eq_true.mp (List.all_eq_true.mp puts_all p hp) q hq)
  rw [Bool.and_eq_true] at e
  have e1 := same_eq 4 _ _ e.1
  have e2 := same_eq 4 _ _ e.2
  rw [← e2, ← e1]
  exact hx
def m8L : List D := [.tup [], .tup [.str "a"], .tup [.str "a", .str "b"], .tup [.str "a", .str "b", .str "c"], .tup [.str "a", .str "c"], .tup [.str "b"], .tup [.str "b", .str "c"], .tup [.str "c"]]
def bhC (w : Str) (n : Int) (u b : Bool) (m : D) (x : D × D) : Bool := both 5 (c_head_behind [.tup [.str w, x.1, x.2, .bl u], .tup [m, .int n], .bl b]) (c_law_behind [.tup [.str w, x.1, x.2, .bl u], .tup [m, .int n], .bl b]) && headsL.any (sameN 4 (theV (c_law_behind [.tup [.str w, x.1, x.2, .bl u], .tup [m, .int n], .bl b])))
theorem bh_0_tt (w : Str) : (putsL.all fun x => m8L.all fun m => bhC w 0 true true m x) = true := by kernel_rfl
theorem bh_0_tf (w : Str) : (putsL.all fun x => m8L.all fun m => bhC w 0 true false m x) = true := by kernel_rfl
theorem bh_0_ft (w : Str) : (putsL.all fun x => m8L.all fun m => bhC w 0 false true m x) = true := by kernel_rfl
theorem bh_0_ff (w : Str) : (putsL.all fun x => m8L.all fun m => bhC w 0 false false m x) = true := by kernel_rfl
theorem bh_1_tt (w : Str) : (putsL.all fun x => m8L.all fun m => bhC w 1 true true m x) = true := by kernel_rfl
theorem bh_1_tf (w : Str) : (putsL.all fun x => m8L.all fun m => bhC w 1 true false m x) = true := by kernel_rfl
theorem bh_1_ft (w : Str) : (putsL.all fun x => m8L.all fun m => bhC w 1 false true m x) = true := by kernel_rfl
theorem bh_1_ff (w : Str) : (putsL.all fun x => m8L.all fun m => bhC w 1 false false m x) = true := by kernel_rfl
theorem bh_2_tt (w : Str) : (putsL.all fun x => m8L.all fun m => bhC w 2 true true m x) = true := by kernel_rfl
theorem bh_2_tf (w : Str) : (putsL.all fun x => m8L.all fun m => bhC w 2 true false m x) = true := by kernel_rfl
theorem bh_2_ft (w : Str) : (putsL.all fun x => m8L.all fun m => bhC w 2 false true m x) = true := by kernel_rfl
theorem bh_2_ff (w : Str) : (putsL.all fun x => m8L.all fun m => bhC w 2 false false m x) = true := by kernel_rfl
theorem bh_3_tt (w : Str) : (putsL.all fun x => m8L.all fun m => bhC w 3 true true m x) = true := by kernel_rfl
theorem bh_3_tf (w : Str) : (putsL.all fun x => m8L.all fun m => bhC w 3 true false m x) = true := by kernel_rfl
theorem bh_3_ft (w : Str) : (putsL.all fun x => m8L.all fun m => bhC w 3 false true m x) = true := by kernel_rfl
theorem bh_3_ff (w : Str) : (putsL.all fun x => m8L.all fun m => bhC w 3 false false m x) = true := by kernel_rfl
theorem behind_all (w : Str) {x : D × D} (hx : x ∈ putsL) {m : D} (hm : m ∈ m8L) (u b : Bool) {n : Int} (hn : n = 0 ∨ n = 1 ∨ n = 2 ∨ n = 3) : bhC w n u b m x = true := by
  rcases hn with rfl | rfl | rfl | rfl <;> cases u <;> cases b
  · exact List.all_eq_true.mp (List.all_eq_true.mp (bh_0_ff w) x hx) m hm
  · exact List.all_eq_true.mp (List.all_eq_true.mp (bh_0_ft w) x hx) m hm
  · exact List.all_eq_true.mp (List.all_eq_true.mp (bh_0_tf w) x hx) m hm
  · exact List.all_eq_true.mp (List.all_eq_true.mp (bh_0_tt w) x hx) m hm
  · exact List.all_eq_true.mp (List.all_eq_true.mp (bh_1_ff w) x hx) m hm
  · exact List.all_eq_true.mp (List.all_eq_true.mp (bh_1_ft w) x hx) m hm
  · exact List.all_eq_true.mp (List.all_eq_true.mp (bh_1_tf w) x hx) m hm
  · exact List.all_eq_true.mp (List.all_eq_true.mp (bh_1_tt w) x hx) m hm
  · exact List.all_eq_true.mp (List.all_eq_true.mp (bh_2_ff w) x hx) m hm
  · exact List.all_eq_true.mp (List.all_eq_true.mp (bh_2_ft w) x hx) m hm
  · exact List.all_eq_true.mp (List.all_eq_true.mp (bh_2_tf w) x hx) m hm
  · exact List.all_eq_true.mp (List.all_eq_true.mp (bh_2_tt w) x hx) m hm
  · exact List.all_eq_true.mp (List.all_eq_true.mp (bh_3_ff w) x hx) m hm
  · exact List.all_eq_true.mp (List.all_eq_true.mp (bh_3_ft w) x hx) m hm
  · exact List.all_eq_true.mp (List.all_eq_true.mp (bh_3_tf w) x hx) m hm
  · exact List.all_eq_true.mp (List.all_eq_true.mp (bh_3_tt w) x hx) m hm
theorem head_m8 {h : D} (hh : h ∈ headsL) : ∃ m n, h = .tup [m, .int n] ∧ m ∈ m8L ∧ (n = 0 ∨ n = 1 ∨ n = 2 ∨ n = 3) := by
  obtain ⟨p, hp, h1⟩ := List.mem_flatMap.mp hh
  obtain ⟨n, hn, rfl⟩ := List.mem_map.mp h1
  simp only [List.mem_cons, List.not_mem_nil, or_false] at hn
  exact ⟨p, n, rfl, hp, hn⟩
/-- the head of what is sent -/
def bv (h : D) (b : Bool) (s : D) : D := theV (c_law_behind [s, h, .bl b])
theorem behind_ok {s h : D} (hs : s ∈ sendsL) (hh : h ∈ headsL) (b : Bool) : c_head_behind [s, h, .bl b] = .ok (bv h b s) [] ∧ c_law_behind [s, h, .bl b] = .ok (bv h b s) [] ∧ (bv h b s).fz = true ∧ plN 5 (bv h b s) = true ∧ bv h b s ∈ headsL := by
  obtain ⟨w, p, q, u, hw, hp, hq, rfl⟩ := sends_cases hs
  obtain ⟨m, n, rfl, hm, hn⟩ := head_m8 hh
  have z := behind_all w (puts_mem hp hq) hm u b hn
  unfold bhC at z
  rw [Bool.and_eq_true] at z
  obtain ⟨e1, e2, e3, e4⟩ := both_eq z.1
  obtain ⟨y, hy, e5⟩ := List.any_eq_true.mp z.2
  refine ⟨e1, e2, e3, e4, ?_⟩
  have e6 := same_eq 4 _ _ e5
  show theV _ ∈ headsL
  rw [e6]
  exact hy
theorem head_cases {h : D} (hh : h ∈ headsL) : ∃ p n, h = .tup [p, .int n] ∧ p ∈ marksL ∧ p.fz = true ∧ (n = 0 ∨ n = 1 ∨ n = 2 ∨ n = 3) := by
  unfold headsL at hh
  obtain ⟨p, hp, h1⟩ := List.mem_flatMap.mp hh
  obtain ⟨n, hn, rfl⟩ := List.mem_map.mp h1
  have hm : p ∈ marksL := by
    simp only [marksL, List.mem_cons, List.not_mem_nil, or_false] at hp ⊢
    rcases hp with h | h | h | h | h | h | h | h <;> simp [h]
  have hf : p.fz = true := by
    obtain ⟨ds, rfl, h, _⟩ := marks_cases hm
    exact h
  simp only [List.mem_cons, List.not_mem_nil, or_false] at hn
  exact ⟨p, n, rfl, hm, hf, hn⟩
/-- a head with the greatest count -/
def top3 : D → Bool
  | .tup [_, .int n] => n == 3
  | _ => false
def wh : D → D
  | .tup (w :: _) => w
  | _ => .non
def sv (h : D) (b : Bool) (s : D) : D := .tup [wh s, bv h b s]
def rowV (h : D) (b : Bool) : D → Option D
  | .tup [.tup ts, .bl k, .tup ss] => if ts.all (hv h) = true then some (.tup [.bl k, .tup (ss.map (sv h b))]) else none
  | _ => none
def actV (h : D) (b : Bool) (rs : List D) : D := if b = true ∧ top3 h = true then .tup [.bl false, .tup []] else (rs.findSome? (rowV h b)).getD (.tup [.bl true, .tup []])
theorem fzL_map {f : D → D} : ∀ {ds : List D}, (∀ d ∈ ds, (f d).fz = true) → D.fzL (ds.map f) = true
  | [], _ => rfl
  | d :: ds, h => by rw [List.map_cons, D.fzL, h d List.mem_cons_self, fzL_map fun x hx => h x (List.mem_cons_of_mem _ hx)]; rfl
theorem wh_ok {s : D} (hs : s ∈ sendsL) : ∃ w r, s = .tup (.str w :: r) ∧ wh s = .str w ∧ PyData.strOk w = true ∧ D.fzL r = true ∧ (w = "all" ∨ w = "back") := by
  have f := send_fz hs
  obtain ⟨w, p, q, u, hw, hp, hq, rfl⟩ := sends_cases hs
  refine ⟨w, _, rfl, rfl, ?_, ?_, ?_⟩
  · simp only [List.mem_cons, List.not_mem_nil, or_false] at hw
    rcases hw with rfl | rfl <;> kernel_rfl
  · simpa only [D.fz, D.fzL, Bool.true_and] using f
  · simpa only [List.mem_cons, List.not_mem_nil, or_false] using hw
theorem sv_ok {s h : D} (hs : s ∈ sendsL) (hh : h ∈ headsL) (b : Bool) : (sv h b s).fz = true ∧ plN 6 (sv h b s) = true := by
  obtain ⟨w, r, rfl, e, o, _⟩ := wh_ok hs
  obtain ⟨_, _, f, p, _⟩ := behind_ok hs hh b
  constructor
  · simp only [sv, e, D.fz, D.fzL, f, Bool.true_and]
  · rw [sv, e, plN, List.all_cons, List.all_cons, p]
    show ((PyData.strOk w && _) && _) = true
    rw [o]
    rfl
theorem rowV_ok {h r : D} (hh : h ∈ headsL) (g : GRow r) (b : Bool) {v : D} (e : rowV h b r = some v) : v.fz = true ∧ plN 8 v = true := by
  obtain ⟨ts, k, ss, rfl, l1, l2, h1, h2⟩ := g
  by_cases q : ts.all (hv h) = true
  · rw [rowV, if_pos q] at e
    · cases e
      have f : D.fzL (ss.map (sv h b)) = true := fzL_map fun d hd => (sv_ok (h2 d hd) hh b).1
      have p : (ss.map (sv h b)).all (plN 6) = true := by
        rw [List.all_map]
        exact List.all_eq_true.mpr fun d hd => (sv_ok (h2 d hd) hh b).2
      constructor
      · simp only [D.fz, D.fzL, f, Bool.true_and]
      · have t : plN 7 (.tup (ss.map (sv h b))) = true := by
          rw [plN, p, List.length_map, decide_eq_true (show ss.length ≤ 1000 by omega)]
          rfl
        rw [plN, List.all_cons, List.all_cons, t]
        rfl
  · rw [rowV, if_neg q] at e
    cases e
theorem actV_ok {h : D} (hh : h ∈ headsL) {rs : List D} (g : ∀ r ∈ rs, GRow r) (b : Bool) : (actV h b rs).fz = true ∧ plN 8 (actV h b rs) = true := by
  unfold actV
  split
  · exact ⟨rfl, rfl⟩
  · cases q : rs.findSome? (rowV h b) with
    | none => exact ⟨rfl, rfl⟩
    | some v =>
      obtain ⟨r, hr, e⟩ := List.exists_of_findSome?_eq_some q
      exact rowV_ok hh (g r hr) b e
/-! ### acted -/
def flOf : Option D → Fl
  | some v => .ret v
  | none => .next
end Pu
set_option Elab.async false
set_option linter.all false
set_option maxRecDepth 100000
set_option maxHeartbeats 4000000
/-! Pu: acts, told by actV. -/
namespace Pu
open PySem PySem.Spec PyProof.Rows L2 Pl
theorem blsL_map (f : D → Bool) : ∀ ds : List D, D.blsL (ds.map fun d => D.bl (f d)) = some (ds.map f)
  | [] => rfl
  | d :: ds => by rw [List.map_cons, D.blsL, blsL_map f ds]; rfl
theorem fzL_bls (f : D → Bool) : ∀ ds : List D, D.fzL (ds.map fun d => D.bl (f d)) = true
  | [] => rfl
  | d :: ds => by rw [List.map_cons, D.fzL, fzL_bls f ds]; rfl
theorem all_map_id (f : D → Bool) : ∀ ds : List D, (ds.map f).all id = ds.all f
  | [] => rfl
  | d :: ds => by rw [List.map_cons, List.all_cons, List.all_cons, all_map_id f ds]; rfl
def aBody (cs : List Str) : M Fl := mIf (mB (one dAll) (mCons (mLc (mIt (mVar 2)) (.nm 5) [5] (mC (.bl true)) (mCall c_holds (mCons (mVar 5) (mCons (mVar 1) (mNil))))) mNil)) (mRet (mTup (mCons (mVar 3) (mCons (mB (one dTuple) (mCons (mLc (mIt (mVar 4)) (.nm 6) [6] (mC (.bl true)) (mTup (mCons (mBin dIdx (mVar 6) (mC (.int 0))) (mCons (mCall c_head_behind (mCons (mVar 6) (mCons (mVar 1) (mCons (mUn (dFld cs "guard") (mVar 0)) (mNil))))) (mNil))))) mNil)) (mNil))))) (mNext)
def actTail (cs : List Str) : M Fl := mSeq (mFor (mIt (mUn (dFld cs "lines") (mVar 0))) (.tp [.nm 2, .nm 3, .nm 4]) (aBody cs)) <| mRet (mTup (mCons (mC (.bl true)) (mCons (mTup (mNil)) (mNil))))
theorem acted_eq (cs : List Str) : m_acted cs = (mSeq (mIf (mAnd (mUn (dFld cs "guard") (mVar 0)) (mBin (dEq false) (mBin dIdx (mVar 1) (mC (.int 1))) (mC k_MOST_COUNT))) (mRet (mTup (mCons (mC (.bl false)) (mCons (mTup (mNil)) (mNil))))) (mNext)) (actTail cs)) := rfl
/-- a kind of drawn rows, frozen -/
structure KindV (cs : List Str) (K : D) (rs : List D) (b : Bool) : Prop where
  z : K.frz = K
  f : K.fz = true
  g : dFld cs "guard" K = some (.bl b)
  l : dFld cs "lines" K = some (.tup rs)
  r : ∀ r ∈ rs, GRow r
  n : rs.length ≤ 4
theorem aBody_ok {cs : List Str} {K h : D} {rs : List D} {b : Bool} (k : KindV cs K rs b) (hh : h ∈ headsL) {ts ss : List D} {u : Bool} (l1 : ts.length ≤ 2) (l2 : ss.length ≤ 2) (h1 : ∀ t ∈ ts, t ∈ testsL) (h2 : ∀ s ∈ ss, s ∈ sendsL) (x5 x6 : Option D) :
    aBody cs [some K, some h, some (.tup ts), some (.bl u), some (.tup ss), x5, x6] = .ok (flOf (rowV h b (.tup [.tup ts, .bl u, .tup ss]))) [some K, some h, some (.tup ts), some (.bl u), some (.tup ss), x5, x6] := by
  have f1 := fz_tests h1
  have f2 := fz_sends h2
  have z1 := frzL_of f1
  have z2 := frzL_of f2
  have kz := k.z
  have kf := k.f
  have kg := k.g
  have hf := head_fz hh
  have hz := D.frz_id h hf
  have e1 : mLc (mIt (mVar 2)) (.nm 5) [5] (mC (.bl true)) (mCall c_holds (mCons (mVar 5) (mCons (mVar 1) (mNil)))) [some K, some h, some (.tup ts), some (.bl u), some (.tup ss), x5, x6] = .ok (.lst true (ts.map fun t => .bl (hv h t))) [some K, some h, some (.tup ts), some (.bl u), some (.tup ss), x5, x6] := by
    have z := lc_ok (it := mIt (mVar 2)) (i := 5) (c := mC (.bl true)) (y := mCall c_holds (mCons (mVar 5) (mCons (mVar 1) (mNil)))) (e := [some K, some h, some (.tup ts), some (.bl u), some (.tup ss), x5, x6]) (ds := ts) (fun _ => true) (fun t => .bl (hv h t))
      (by simp only [mIt, D.itemsS, z1, f1, runF, mSeq, mSet, mMov, mBin, mUn, mB, mCons, mNil, mVar, mBinL, mBinR, mUnP, mC, isIn, mIf, mRet, mNext, mBrk, mDo, mAnd, mOr, mNot, mIte, mTup, mLst, mSlice, mNoPart, mPart, mCall, mCallIO, mAsg, mPar, mPar3, asg, asgL, onB, R.bind_ok, R.bind_exc, R.bind_fail, R.of, one, dInt, dTuple, dList, dLen, dIdx, D.fz, D.frz, D.fzL, D.frzL, runE, pickIO, List.length_cons, List.length_nil, List.map_cons, List.map_nil, List.cons_append, List.nil_append, List.getElem?_cons_zero, List.getElem?_cons_succ, List.set_cons_zero, List.set_cons_succ, if_true, if_false, Bool.false_eq_true, Bool.not_true, Bool.not_false, Bool.true_and, Bool.false_and, Bool.and_true, Bool.and_self, List.replicate, Nat.reduceAdd, Nat.reduceSub, Nat.reduceLT, Nat.reduceLeDiff, Nat.reduceEqDiff, Option.bind_some, Option.map_some, Pu.atI0, Pu.atI1, Pu.atI2, Pu.atI3, and_self, Pu.sz, reduceIte, Pu.n0, Pu.n1, Pu.n2, Pu.n3, Pu.n4, Pu.n5, Pu.n6, Pu.n7, Pu.n8, Pu.n9, Int.reduceBEq, beq_self_eq_true, Pu.io_tup, Pu.io_lst, Pu.io_int, Pu.io_bl, Pu.io_str, Pu.io_non, decide_true, decide_false]) (by simp) (fun d hd => rfl) (fun d hd _ => by
        have fd := fz_mem f1 hd
        simp only [runF, mSeq, mSet, mMov, mBin, mUn, mB, mCons, mNil, mVar, mBinL, mBinR, mUnP, mC, isIn, mIf, mRet, mNext, mBrk, mDo, mAnd, mOr, mNot, mIte, mTup, mLst, mSlice, mNoPart, mPart, mCall, mCallIO, mAsg, mPar, mPar3, asg, asgL, onB, R.bind_ok, R.bind_exc, R.bind_fail, R.of, one, dInt, dTuple, dList, dLen, dIdx, D.fz, D.frz, D.fzL, D.frzL, runE, pickIO, List.length_cons, List.length_nil, List.map_cons, List.map_nil, List.cons_append, List.nil_append, List.getElem?_cons_zero, List.getElem?_cons_succ, List.set_cons_zero, List.set_cons_succ, if_true, if_false, Bool.false_eq_true, Bool.not_true, Bool.not_false, Bool.true_and, Bool.false_and, Bool.and_true, Bool.and_self, List.replicate, Nat.reduceAdd, Nat.reduceSub, Nat.reduceLT, Nat.reduceLeDiff, Nat.reduceEqDiff, Option.bind_some, Option.map_some, Pu.atI0, Pu.atI1, Pu.atI2, Pu.atI3, and_self, Pu.sz, reduceIte, Pu.n0, Pu.n1, Pu.n2, Pu.n3, Pu.n4, Pu.n5, Pu.n6, Pu.n7, Pu.n8, Pu.n9, Int.reduceBEq, beq_self_eq_true, Pu.io_tup, Pu.io_lst, Pu.io_int, Pu.io_bl, Pu.io_str, Pu.io_non, decide_true, decide_false, fd, hf, (holds_ok hh (h1 d hd)).1]) (by rw [sz]; omega)
    rw [filter_true] at z
    exact z
  have e2 : mLc (mIt (mVar 4)) (.nm 6) [6] (mC (.bl true)) (mTup (mCons (mBin dIdx (mVar 6) (mC (.int 0))) (mCons (mCall c_head_behind (mCons (mVar 6) (mCons (mVar 1) (mCons (mUn (dFld cs "guard") (mVar 0)) (mNil))))) (mNil)))) [some K, some h, some (.tup ts), some (.bl u), some (.tup ss), x5, x6] = .ok (.lst true (ss.map (sv h b))) [some K, some h, some (.tup ts), some (.bl u), some (.tup ss), x5, x6] := by
    have z := lc_ok (it := mIt (mVar 4)) (i := 6) (c := mC (.bl true)) (y := mTup (mCons (mBin dIdx (mVar 6) (mC (.int 0))) (mCons (mCall c_head_behind (mCons (mVar 6) (mCons (mVar 1) (mCons (mUn (dFld cs "guard") (mVar 0)) (mNil))))) (mNil)))) (e := [some K, some h, some (.tup ts), some (.bl u), some (.tup ss), x5, x6]) (ds := ss) (fun _ => true) (sv h b)
      (by simp only [mIt, D.itemsS, z2, f2, runF, mSeq, mSet, mMov, mBin, mUn, mB, mCons, mNil, mVar, mBinL, mBinR, mUnP, mC, isIn, mIf, mRet, mNext, mBrk, mDo, mAnd, mOr, mNot, mIte, mTup, mLst, mSlice, mNoPart, mPart, mCall, mCallIO, mAsg, mPar, mPar3, asg, asgL, onB, R.bind_ok, R.bind_exc, R.bind_fail, R.of, one, dInt, dTuple, dList, dLen, dIdx, D.fz, D.frz, D.fzL, D.frzL, runE, pickIO, List.length_cons, List.length_nil, List.map_cons, List.map_nil, List.cons_append, List.nil_append, List.getElem?_cons_zero, List.getElem?_cons_succ, List.set_cons_zero, List.set_cons_succ, if_true, if_false, Bool.false_eq_true, Bool.not_true, Bool.not_false, Bool.true_and, Bool.false_and, Bool.and_true, Bool.and_self, List.replicate, Nat.reduceAdd, Nat.reduceSub, Nat.reduceLT, Nat.reduceLeDiff, Nat.reduceEqDiff, Option.bind_some, Option.map_some, Pu.atI0, Pu.atI1, Pu.atI2, Pu.atI3, and_self, Pu.sz, reduceIte, Pu.n0, Pu.n1, Pu.n2, Pu.n3, Pu.n4, Pu.n5, Pu.n6, Pu.n7, Pu.n8, Pu.n9, Int.reduceBEq, beq_self_eq_true, Pu.io_tup, Pu.io_lst, Pu.io_int, Pu.io_bl, Pu.io_str, Pu.io_non, decide_true, decide_false]) (by simp) (fun d hd => rfl) (fun d hd _ => by
        obtain ⟨w, r, rfl, ew, _, fr, _⟩ := wh_ok (h2 d hd)
        have zr := frzL_of fr
        have eb := (behind_ok (h2 _ hd) hh b).1
        simp only [runF, mSeq, mSet, mMov, mBin, mUn, mB, mCons, mNil, mVar, mBinL, mBinR, mUnP, mC, isIn, mIf, mRet, mNext, mBrk, mDo, mAnd, mOr, mNot, mIte, mTup, mLst, mSlice, mNoPart, mPart, mCall, mCallIO, mAsg, mPar, mPar3, asg, asgL, onB, R.bind_ok, R.bind_exc, R.bind_fail, R.of, one, dInt, dTuple, dList, dLen, dIdx, D.fz, D.frz, D.fzL, D.frzL, runE, pickIO, List.length_cons, List.length_nil, List.map_cons, List.map_nil, List.cons_append, List.nil_append, List.getElem?_cons_zero, List.getElem?_cons_succ, List.set_cons_zero, List.set_cons_succ, if_true, if_false, Bool.false_eq_true, Bool.not_true, Bool.not_false, Bool.true_and, Bool.false_and, Bool.and_true, Bool.and_self, List.replicate, Nat.reduceAdd, Nat.reduceSub, Nat.reduceLT, Nat.reduceLeDiff, Nat.reduceEqDiff, Option.bind_some, Option.map_some, Pu.atI0, Pu.atI1, Pu.atI2, Pu.atI3, and_self, Pu.sz, reduceIte, Pu.n0, Pu.n1, Pu.n2, Pu.n3, Pu.n4, Pu.n5, Pu.n6, Pu.n7, Pu.n8, Pu.n9, Int.reduceBEq, beq_self_eq_true, Pu.io_tup, Pu.io_lst, Pu.io_int, Pu.io_bl, Pu.io_str, Pu.io_non, decide_true, decide_false, fr, zr, hf, hz, kf, kz, kg, eb, sv, ew]) (by rw [sz]; omega)
    rw [filter_true] at z
    exact z
  have f3 : D.fzL (ss.map (sv h b)) = true := fzL_map fun d hd => (sv_ok (h2 d hd) hh b).1
  have z3 := frzL_of f3
  have z4 := frzL_of (fzL_bls (hv h) ts)
  have d3 : dAll (.lst false (ts.map fun t => .bl (hv h t))) = some (.bl (ts.all (hv h))) := by
    rw [dAll, blsL_map, Option.map_some, all_map_id]
  cases q : ts.all (hv h) with
  | true => simp only [aBody, runF, mSeq, mSet, mMov, mBin, mUn, mB, mCons, mNil, mVar, mBinL, mBinR, mUnP, mC, isIn, mIf, mRet, mNext, mBrk, mDo, mAnd, mOr, mNot, mIte, mTup, mLst, mSlice, mNoPart, mPart, mCall, mCallIO, mAsg, mPar, mPar3, asg, asgL, onB, R.bind_ok, R.bind_exc, R.bind_fail, R.of, one, dInt, dTuple, dList, dLen, dIdx, D.fz, D.frz, D.fzL, D.frzL, runE, pickIO, List.length_cons, List.length_nil, List.map_cons, List.map_nil, List.cons_append, List.nil_append, List.getElem?_cons_zero, List.getElem?_cons_succ, List.set_cons_zero, List.set_cons_succ, if_true, if_false, Bool.false_eq_true, Bool.not_true, Bool.not_false, Bool.true_and, Bool.false_and, Bool.and_true, Bool.and_self, List.replicate, Nat.reduceAdd, Nat.reduceSub, Nat.reduceLT, Nat.reduceLeDiff, Nat.reduceEqDiff, Option.bind_some, Option.map_some, Pu.atI0, Pu.atI1, Pu.atI2, Pu.atI3, and_self, Pu.sz, reduceIte, Pu.n0, Pu.n1, Pu.n2, Pu.n3, Pu.n4, Pu.n5, Pu.n6, Pu.n7, Pu.n8, Pu.n9, Int.reduceBEq, beq_self_eq_true, Pu.io_tup, Pu.io_lst, Pu.io_int, Pu.io_bl, Pu.io_str, Pu.io_non, decide_true, decide_false, e1, e2, z4, d3, q, z3, f3, rowV, flOf]
  | false => simp only [aBody, runF, mSeq, mSet, mMov, mBin, mUn, mB, mCons, mNil, mVar, mBinL, mBinR, mUnP, mC, isIn, mIf, mRet, mNext, mBrk, mDo, mAnd, mOr, mNot, mIte, mTup, mLst, mSlice, mNoPart, mPart, mCall, mCallIO, mAsg, mPar, mPar3, asg, asgL, onB, R.bind_ok, R.bind_exc, R.bind_fail, R.of, one, dInt, dTuple, dList, dLen, dIdx, D.fz, D.frz, D.fzL, D.frzL, runE, pickIO, List.length_cons, List.length_nil, List.map_cons, List.map_nil, List.cons_append, List.nil_append, List.getElem?_cons_zero, List.getElem?_cons_succ, List.set_cons_zero, List.set_cons_succ, if_true, if_false, Bool.false_eq_true, Bool.not_true, Bool.not_false, Bool.true_and, Bool.false_and, Bool.and_true, Bool.and_self, List.replicate, Nat.reduceAdd, Nat.reduceSub, Nat.reduceLT, Nat.reduceLeDiff, Nat.reduceEqDiff, Option.bind_some, Option.map_some, Pu.atI0, Pu.atI1, Pu.atI2, Pu.atI3, and_self, Pu.sz, reduceIte, Pu.n0, Pu.n1, Pu.n2, Pu.n3, Pu.n4, Pu.n5, Pu.n6, Pu.n7, Pu.n8, Pu.n9, Int.reduceBEq, beq_self_eq_true, Pu.io_tup, Pu.io_lst, Pu.io_int, Pu.io_bl, Pu.io_str, Pu.io_non, decide_true, decide_false, e1, z4, d3, q, rowV, flOf]
theorem act_loop {cs : List Str} {K h : D} {rs0 : List D} {b : Bool} (k : KindV cs K rs0 b) (hh : h ∈ headsL) : ∀ (rs : List D) (x2 x3 x4 x5 x6 : Option D), (∀ r ∈ rs, GRow r) →
    ∃ e', forL (.tp [.nm 2, .nm 3, .nm 4]) (aBody cs) rs [some K, some h, x2, x3, x4, x5, x6] = .ok (flOf (rs.findSome? (rowV h b))) e'
  | [], _, _, _, _, _, _ => ⟨_, rfl⟩
  | r :: rs, x2, x3, x4, x5, x6, g => by
    obtain ⟨ts, u, ss, rfl, l1, l2, h1, h2⟩ := g r List.mem_cons_self
    have e := aBody_ok k hh (u := u) l1 l2 h1 h2 x5 x6
    rw [forL, List.findSome?_cons]
    simp only [asg, asgL, List.length_cons, List.length_nil, Nat.reduceAdd, Nat.reduceLT, if_true, List.set_cons_succ, List.set_cons_zero, e]
    cases q : rowV h b (.tup [.tup ts, .bl u, .tup ss]) with
    | some v => exact ⟨_, rfl⟩
    | none =>
      obtain ⟨e', i⟩ := act_loop k hh rs (some (.tup ts)) (some (.bl u)) (some (.tup ss)) x5 x6 fun x hx => g x (List.mem_cons_of_mem _ hx)
      refine ⟨e', ?_⟩
      simp only [flOf, onFl]
      exact i
theorem acted_ok {cs : List Str} {K h : D} {rs : List D} {b : Bool} (k : KindV cs K rs b) (hh : h ∈ headsL) : c_acted cs [K, h] = .ok (actV h b rs) [] := by
  have f := fz_rows k.r
  have z := frzL_of f
  have kz := k.z
  have kf := k.f
  have kg := k.g
  have kl := k.l
  have hf := head_fz hh
  have hz := D.frz_id h hf
  obtain ⟨e', e⟩ := act_loop k hh rs none none none none none k.r
  have it : mIt (mUn (dFld cs "lines") (mVar 0)) [some K, some h, none, none, none, none, none] = .ok rs [some K, some h, none, none, none, none, none] := by
    simp only [mIt, D.itemsS, runF, mSeq, mSet, mMov, mBin, mUn, mB, mCons, mNil, mVar, mBinL, mBinR, mUnP, mC, isIn, mIf, mRet, mNext, mBrk, mDo, mAnd, mOr, mNot, mIte, mTup, mLst, mSlice, mNoPart, mPart, mCall, mCallIO, mAsg, mPar, mPar3, asg, asgL, onB, R.bind_ok, R.bind_exc, R.bind_fail, R.of, one, dInt, dTuple, dList, dLen, dIdx, D.fz, D.frz, D.fzL, D.frzL, runE, pickIO, List.length_cons, List.length_nil, List.map_cons, List.map_nil, List.cons_append, List.nil_append, List.getElem?_cons_zero, List.getElem?_cons_succ, List.set_cons_zero, List.set_cons_succ, if_true, if_false, Bool.false_eq_true, Bool.not_true, Bool.not_false, Bool.true_and, Bool.false_and, Bool.and_true, Bool.and_self, List.replicate, Nat.reduceAdd, Nat.reduceSub, Nat.reduceLT, Nat.reduceLeDiff, Nat.reduceEqDiff, Option.bind_some, Option.map_some, Pu.atI0, Pu.atI1, Pu.atI2, Pu.atI3, and_self, Pu.sz, reduceIte, Pu.n0, Pu.n1, Pu.n2, Pu.n3, Pu.n4, Pu.n5, Pu.n6, Pu.n7, Pu.n8, Pu.n9, Int.reduceBEq, beq_self_eq_true, Pu.io_tup, Pu.io_lst, Pu.io_int, Pu.io_bl, Pu.io_str, Pu.io_non, decide_true, decide_false, kf, kz, kl, z]
  obtain ⟨p, n, rfl, hm, hp, hn⟩ := head_cases hh
  have pz := D.frz_id p hp
  rw [c_acted, acted_eq]
  have fin : actTail cs [some K, some (.tup [p, .int n]), none, none, none, none, none] = .ok (.ret ((rs.findSome? (rowV (.tup [p, .int n]) b)).getD (.tup [.bl true, .tup []]))) e' := by
    simp only [actTail, mSeq, mFor, it, R.bind_ok, e]
    cases q : rs.findSome? (rowV (.tup [p, .int n]) b) with
    | some v => rfl
    | none => simp only [flOf, runF, mSeq, mSet, mMov, mBin, mUn, mB, mCons, mNil, mVar, mBinL, mBinR, mUnP, mC, isIn, mIf, mRet, mNext, mBrk, mDo, mAnd, mOr, mNot, mIte, mTup, mLst, mSlice, mNoPart, mPart, mCall, mCallIO, mAsg, mPar, mPar3, asg, asgL, onB, R.bind_ok, R.bind_exc, R.bind_fail, R.of, one, dInt, dTuple, dList, dLen, dIdx, D.fz, D.frz, D.fzL, D.frzL, runE, pickIO, List.length_cons, List.length_nil, List.map_cons, List.map_nil, List.cons_append, List.nil_append, List.getElem?_cons_zero, List.getElem?_cons_succ, List.set_cons_zero, List.set_cons_succ, if_true, if_false, Bool.false_eq_true, Bool.not_true, Bool.not_false, Bool.true_and, Bool.false_and, Bool.and_true, Bool.and_self, List.replicate, Nat.reduceAdd, Nat.reduceSub, Nat.reduceLT, Nat.reduceLeDiff, Nat.reduceEqDiff, Option.bind_some, Option.map_some, Pu.atI0, Pu.atI1, Pu.atI2, Pu.atI3, and_self, Pu.sz, reduceIte, Pu.n0, Pu.n1, Pu.n2, Pu.n3, Pu.n4, Pu.n5, Pu.n6, Pu.n7, Pu.n8, Pu.n9, Int.reduceBEq, beq_self_eq_true, Pu.io_tup, Pu.io_lst, Pu.io_int, Pu.io_bl, Pu.io_str, Pu.io_non, decide_true, decide_false, Option.getD_none]
  cases b with
  | false =>
    have t : actV (.tup [p, .int n]) false rs = (rs.findSome? (rowV (.tup [p, .int n]) false)).getD (.tup [.bl true, .tup []]) := by
      rw [actV, if_neg (fun c => by cases c.1)]
    rw [t]
    simp only [runF, mSeq, mSet, mMov, mBin, mUn, mB, mCons, mNil, mVar, mBinL, mBinR, mUnP, mC, isIn, mIf, mRet, mNext, mBrk, mDo, mAnd, mOr, mNot, mIte, mTup, mLst, mSlice, mNoPart, mPart, mCall, mCallIO, mAsg, mPar, mPar3, asg, asgL, onB, R.bind_ok, R.bind_exc, R.bind_fail, R.of, one, dInt, dTuple, dList, dLen, dIdx, D.fz, D.frz, D.fzL, D.frzL, runE, pickIO, List.length_cons, List.length_nil, List.map_cons, List.map_nil, List.cons_append, List.nil_append, List.getElem?_cons_zero, List.getElem?_cons_succ, List.set_cons_zero, List.set_cons_succ, if_true, if_false, Bool.false_eq_true, Bool.not_true, Bool.not_false, Bool.true_and, Bool.false_and, Bool.and_true, Bool.and_self, List.replicate, Nat.reduceAdd, Nat.reduceSub, Nat.reduceLT, Nat.reduceLeDiff, Nat.reduceEqDiff, Option.bind_some, Option.map_some, Pu.atI0, Pu.atI1, Pu.atI2, Pu.atI3, and_self, Pu.sz, reduceIte, Pu.n0, Pu.n1, Pu.n2, Pu.n3, Pu.n4, Pu.n5, Pu.n6, Pu.n7, Pu.n8, Pu.n9, Int.reduceBEq, beq_self_eq_true, Pu.io_tup, Pu.io_lst, Pu.io_int, Pu.io_bl, Pu.io_str, Pu.io_non, decide_true, decide_false, kf, kz, kg, fin]
  | true =>
    have lo (h3 : ¬ top3 (.tup [p, .int n]) = true) : actV (.tup [p, .int n]) true rs = (rs.findSome? (rowV (.tup [p, .int n]) true)).getD (.tup [.bl true, .tup []]) := by
      rw [actV, if_neg (fun c => h3 c.2)]
    rcases hn with rfl | rfl | rfl | rfl
    · rw [lo (fun c => nomatch (show false = true from c))]
      simp only [runF, mSeq, mSet, mMov, mBin, mUn, mB, mCons, mNil, mVar, mBinL, mBinR, mUnP, mC, isIn, mIf, mRet, mNext, mBrk, mDo, mAnd, mOr, mNot, mIte, mTup, mLst, mSlice, mNoPart, mPart, mCall, mCallIO, mAsg, mPar, mPar3, asg, asgL, onB, R.bind_ok, R.bind_exc, R.bind_fail, R.of, one, dInt, dTuple, dList, dLen, dIdx, D.fz, D.frz, D.fzL, D.frzL, runE, pickIO, List.length_cons, List.length_nil, List.map_cons, List.map_nil, List.cons_append, List.nil_append, List.getElem?_cons_zero, List.getElem?_cons_succ, List.set_cons_zero, List.set_cons_succ, if_true, if_false, Bool.false_eq_true, Bool.not_true, Bool.not_false, Bool.true_and, Bool.false_and, Bool.and_true, Bool.and_self, List.replicate, Nat.reduceAdd, Nat.reduceSub, Nat.reduceLT, Nat.reduceLeDiff, Nat.reduceEqDiff, Option.bind_some, Option.map_some, Pu.atI0, Pu.atI1, Pu.atI2, Pu.atI3, and_self, Pu.sz, reduceIte, Pu.n0, Pu.n1, Pu.n2, Pu.n3, Pu.n4, Pu.n5, Pu.n6, Pu.n7, Pu.n8, Pu.n9, Int.reduceBEq, beq_self_eq_true, Pu.io_tup, Pu.io_lst, Pu.io_int, Pu.io_bl, Pu.io_str, Pu.io_non, decide_true, decide_false, kf, kz, kg, hp, pz, k_MOST_COUNT, dEq_int, fin]
    · rw [lo (fun c => nomatch (show false = true from c))]
      simp only [runF, mSeq, mSet, mMov, mBin, mUn, mB, mCons, mNil, mVar, mBinL, mBinR, mUnP, mC, isIn, mIf, mRet, mNext, mBrk, mDo, mAnd, mOr, mNot, mIte, mTup, mLst, mSlice, mNoPart, mPart, mCall, mCallIO, mAsg, mPar, mPar3, asg, asgL, onB, R.bind_ok, R.bind_exc, R.bind_fail, R.of, one, dInt, dTuple, dList, dLen, dIdx, D.fz, D.frz, D.fzL, D.frzL, runE, pickIO, List.length_cons, List.length_nil, List.map_cons, List.map_nil, List.cons_append, List.nil_append, List.getElem?_cons_zero, List.getElem?_cons_succ, List.set_cons_zero, List.set_cons_succ, if_true, if_false, Bool.false_eq_true, Bool.not_true, Bool.not_false, Bool.true_and, Bool.false_and, Bool.and_true, Bool.and_self, List.replicate, Nat.reduceAdd, Nat.reduceSub, Nat.reduceLT, Nat.reduceLeDiff, Nat.reduceEqDiff, Option.bind_some, Option.map_some, Pu.atI0, Pu.atI1, Pu.atI2, Pu.atI3, and_self, Pu.sz, reduceIte, Pu.n0, Pu.n1, Pu.n2, Pu.n3, Pu.n4, Pu.n5, Pu.n6, Pu.n7, Pu.n8, Pu.n9, Int.reduceBEq, beq_self_eq_true, Pu.io_tup, Pu.io_lst, Pu.io_int, Pu.io_bl, Pu.io_str, Pu.io_non, decide_true, decide_false, kf, kz, kg, hp, pz, k_MOST_COUNT, dEq_int, fin]
    · rw [lo (fun c => nomatch (show false = true from c))]
      simp only [runF, mSeq, mSet, mMov, mBin, mUn, mB, mCons, mNil, mVar, mBinL, mBinR, mUnP, mC, isIn, mIf, mRet, mNext, mBrk, mDo, mAnd, mOr, mNot, mIte, mTup, mLst, mSlice, mNoPart, mPart, mCall, mCallIO, mAsg, mPar, mPar3, asg, asgL, onB, R.bind_ok, R.bind_exc, R.bind_fail, R.of, one, dInt, dTuple, dList, dLen, dIdx, D.fz, D.frz, D.fzL, D.frzL, runE, pickIO, List.length_cons, List.length_nil, List.map_cons, List.map_nil, List.cons_append, List.nil_append, List.getElem?_cons_zero, List.getElem?_cons_succ, List.set_cons_zero, List.set_cons_succ, if_true, if_false, Bool.false_eq_true, Bool.not_true, Bool.not_false, Bool.true_and, Bool.false_and, Bool.and_true, Bool.and_self, List.replicate, Nat.reduceAdd, Nat.reduceSub, Nat.reduceLT, Nat.reduceLeDiff, Nat.reduceEqDiff, Option.bind_some, Option.map_some, Pu.atI0, Pu.atI1, Pu.atI2, Pu.atI3, and_self, Pu.sz, reduceIte, Pu.n0, Pu.n1, Pu.n2, Pu.n3, Pu.n4, Pu.n5, Pu.n6, Pu.n7, Pu.n8, Pu.n9, Int.reduceBEq, beq_self_eq_true, Pu.io_tup, Pu.io_lst, Pu.io_int, Pu.io_bl, Pu.io_str, Pu.io_non, decide_true, decide_false, kf, kz, kg, hp, pz, k_MOST_COUNT, dEq_int, fin]
    · rw [actV, if_pos ⟨rfl, rfl⟩]
      simp only [runF, mSeq, mSet, mMov, mBin, mUn, mB, mCons, mNil, mVar, mBinL, mBinR, mUnP, mC, isIn, mIf, mRet, mNext, mBrk, mDo, mAnd, mOr, mNot, mIte, mTup, mLst, mSlice, mNoPart, mPart, mCall, mCallIO, mAsg, mPar, mPar3, asg, asgL, onB, R.bind_ok, R.bind_exc, R.bind_fail, R.of, one, dInt, dTuple, dList, dLen, dIdx, D.fz, D.frz, D.fzL, D.frzL, runE, pickIO, List.length_cons, List.length_nil, List.map_cons, List.map_nil, List.cons_append, List.nil_append, List.getElem?_cons_zero, List.getElem?_cons_succ, List.set_cons_zero, List.set_cons_succ, if_true, if_false, Bool.false_eq_true, Bool.not_true, Bool.not_false, Bool.true_and, Bool.false_and, Bool.and_true, Bool.and_self, List.replicate, Nat.reduceAdd, Nat.reduceSub, Nat.reduceLT, Nat.reduceLeDiff, Nat.reduceEqDiff, Option.bind_some, Option.map_some, Pu.atI0, Pu.atI1, Pu.atI2, Pu.atI3, and_self, Pu.sz, reduceIte, Pu.n0, Pu.n1, Pu.n2, Pu.n3, Pu.n4, Pu.n5, Pu.n6, Pu.n7, Pu.n8, Pu.n9, Int.reduceBEq, beq_self_eq_true, Pu.io_tup, Pu.io_lst, Pu.io_int, Pu.io_bl, Pu.io_str, Pu.io_non, decide_true, decide_false, kf, kz, kg, hp, pz, k_MOST_COUNT, dEq_int]
theorem acts_ok {cs : List Str} {K h : D} {rs : List D} {b : Bool} (k : KindV cs K rs b) (hh : h ∈ headsL) : c_Kind_acts cs [K, h] = .ok (actV h b rs) [] := by
  have kz := k.z
  have kf := k.f
  have hf := head_fz hh
  simp only [c_Kind_acts, m_Kind_acts, runF, mSeq, mSet, mMov, mBin, mUn, mB, mCons, mNil, mVar, mBinL, mBinR, mUnP, mC, isIn, mIf, mRet, mNext, mBrk, mDo, mAnd, mOr, mNot, mIte, mTup, mLst, mSlice, mNoPart, mPart, mCall, mCallIO, mAsg, mPar, mPar3, asg, asgL, onB, R.bind_ok, R.bind_exc, R.bind_fail, R.of, one, dInt, dTuple, dList, dLen, dIdx, D.fz, D.frz, D.fzL, D.frzL, runE, pickIO, List.length_cons, List.length_nil, List.map_cons, List.map_nil, List.cons_append, List.nil_append, List.getElem?_cons_zero, List.getElem?_cons_succ, List.set_cons_zero, List.set_cons_succ, if_true, if_false, Bool.false_eq_true, Bool.not_true, Bool.not_false, Bool.true_and, Bool.false_and, Bool.and_true, Bool.and_self, List.replicate, Nat.reduceAdd, Nat.reduceSub, Nat.reduceLT, Nat.reduceLeDiff, Nat.reduceEqDiff, Option.bind_some, Option.map_some, Pu.atI0, Pu.atI1, Pu.atI2, Pu.atI3, and_self, Pu.sz, reduceIte, Pu.n0, Pu.n1, Pu.n2, Pu.n3, Pu.n4, Pu.n5, Pu.n6, Pu.n7, Pu.n8, Pu.n9, Int.reduceBEq, beq_self_eq_true, Pu.io_tup, Pu.io_lst, Pu.io_int, Pu.io_bl, Pu.io_str, Pu.io_non, decide_true, decide_false, kf, hf, is_head_ok cs hh, acted_ok k hh]
theorem kindF_ok {cs : List Str} (hc : cs.contains ("Kind" : Str) = true) {rs : List D} (h : ∀ d ∈ rs, GRow d) (hl : rs.length ≤ 4) (b : Bool) : KindV cs (kindF rs b) rs b := by
  have f := fz_rows h
  have z := frzL_of f
  refine ⟨?_, ?_, ?_, ?_, h, hl⟩
  · simp only [kindF, D.frz, D.frzF, z]
  · simp only [kindF, D.fz, D.fzF, f, Bool.not_false, Bool.and_self]
  · simp only [kindF, dFld, hc, if_true, lk2, Option.bind_some, D.fz]
  · simp only [kindF, dFld, hc, if_true, lk1, Option.bind_some, D.fz, f]
theorem kindT_frz {rs : List D} (h : ∀ d ∈ rs, GRow d) (b : Bool) : (kindT rs b).frz = kindF rs b := by
  have z := frzL_of (fz_rows h)
  simp only [kindT, kindF, D.frz, D.frzF, z]
theorem kindT_fz (rs : List D) (b : Bool) : (kindT rs b).fz = false := by
  simp only [kindT, D.fz, Bool.not_true, Bool.false_and]
theorem guard_ok {cs : List Str} (hc : cs.contains ("Kind" : Str) = true) {K : D} {rs : List D} {b : Bool} (k : KindV cs K rs b) : c_Kind_with_guard cs [K] = .ok (kindT rs true) [] := by
  have kz := k.z
  have kf := k.f
  have kl := k.l
  have z := frzL_of (fz_rows k.r)
  have f := fz_rows k.r
  have i := init_ok hc k.r k.n true
  simp only [c_Kind_with_guard, m_Kind_with_guard, runF, mSeq, mSet, mMov, mBin, mUn, mB, mCons, mNil, mVar, mBinL, mBinR, mUnP, mC, isIn, mIf, mRet, mNext, mBrk, mDo, mAnd, mOr, mNot, mIte, mTup, mLst, mSlice, mNoPart, mPart, mCall, mCallIO, mAsg, mPar, mPar3, asg, asgL, onB, R.bind_ok, R.bind_exc, R.bind_fail, R.of, one, dInt, dTuple, dList, dLen, dIdx, D.fz, D.frz, D.fzL, D.frzL, runE, pickIO, List.length_cons, List.length_nil, List.map_cons, List.map_nil, List.cons_append, List.nil_append, List.getElem?_cons_zero, List.getElem?_cons_succ, List.set_cons_zero, List.set_cons_succ, if_true, if_false, Bool.false_eq_true, Bool.not_true, Bool.not_false, Bool.true_and, Bool.false_and, Bool.and_true, Bool.and_self, List.replicate, Nat.reduceAdd, Nat.reduceSub, Nat.reduceLT, Nat.reduceLeDiff, Nat.reduceEqDiff, Option.bind_some, Option.map_some, Pu.atI0, Pu.atI1, Pu.atI2, Pu.atI3, and_self, Pu.sz, reduceIte, Pu.n0, Pu.n1, Pu.n2, Pu.n3, Pu.n4, Pu.n5, Pu.n6, Pu.n7, Pu.n8, Pu.n9, Int.reduceBEq, beq_self_eq_true, Pu.io_tup, Pu.io_lst, Pu.io_int, Pu.io_bl, Pu.io_str, Pu.io_non, decide_true, decide_false, kf, kz, kl, z, mMake, i]
/-! ### the laws' own look -/
def lBody : M Fl := mIf (mBin (dEq false) (mLc (mIt (mVar 4)) (.nm 7) [7] (mNot (mCall c_law_holds (mCons (mVar 7) (mCons (mVar 1) (mNil))))) (mVar 7)) (mLst (mNil))) (mRet (mTup (mCons (mVar 5) (mCons (mB (one dTuple) (mCons (mLc (mIt (mVar 6)) (.nm 8) [8] (mC (.bl true)) (mTup (mCons (mBin dIdx (mVar 8) (mC (.int 0))) (mCons (mCall c_law_behind (mCons (mVar 8) (mCons (mVar 1) (mCons (mVar 3) (mNil))))) (mNil))))) mNil)) (mNil))))) (mNext)
def lTail : M Fl := mSeq (mFor (mIt (mVar 2)) (.tp [.nm 4, .nm 5, .nm 6]) lBody) <|
  mRet (mTup (mCons (mC (.bl true)) (mCons (mTup (mNil)) (mNil))))
def laRest : M Fl := mSeq (mIf (mAnd (mVar 3) (mBin (dGt) (mBin dIdx (mVar 1) (mC (.int 1))) (mC (.int 2)))) (mRet (mTup (mCons (mC (.bl false)) (mCons (mTup (mNil)) (mNil))))) (mNext)) lTail
theorem law_acts_eq : m_law_acts = (mSeq (mAsg (.tp [.nm 2, .nm 3]) (mVar 0)) laRest) := rfl
def isF (o : Option D) : Bool := match o with
  | some (.bl false) => true
  | _ => false
theorem isF_eq {o : Option D} (h : isF o = true) : o = some (.bl false) := by
  unfold isF at h
  split at h
  · rfl
  · cases h
theorem test1_ne : (testsL.all fun a => isF (dEq false (.lst false [a]) (.lst false []))) = true := by kernel_rfl
theorem test2_ne : (testsL.all fun a => testsL.all fun b => isF (dEq false (.lst false [a, b]) (.lst false []))) = true := by kernel_rfl
theorem tests_ne : ∀ {ts : List D}, (∀ t ∈ ts, t ∈ testsL) → ts.length ≤ 2 → dEq false (.lst false ts) (.lst false []) = some (.bl ts.isEmpty)
  | [], _, _ => dEq_nil false false
  | [a], h, _ => isF_eq (List.all_eq_true.mp test1_ne a (h a (by simp)))
  | [a, b], h, _ => isF_eq (List.all_eq_true.mp (List.all_eq_true.mp test2_ne a (h a (by simp))) b (h b (by simp)))
  | _ :: _ :: _ :: _, _, l => absurd l (by simp only [List.length_cons]; omega)
theorem filter_emp (p : D → Bool) : ∀ ts : List D, (ts.filter fun t => !p t).isEmpty = ts.all p
  | [] => rfl
  | t :: ts => by
    cases q : p t with
    | true => rw [List.filter_cons_of_neg (by rw [q]; decide), List.all_cons, q, filter_emp p ts]; rfl
    | false => rw [List.filter_cons_of_pos (by rw [q]; rfl), List.all_cons, q]; rfl
theorem lBody_ok {h : D} (b : Bool) (hh : h ∈ headsL) {ts ss : List D} {u : Bool} (l1 : ts.length ≤ 2) (l2 : ss.length ≤ 2) (h1 : ∀ t ∈ ts, t ∈ testsL) (h2 : ∀ s ∈ ss, s ∈ sendsL) (s0 s2 x7 x8 : Option D) :
    lBody [s0, some h, s2, some (.bl b), some (.tup ts), some (.bl u), some (.tup ss), x7, x8] = .ok (flOf (rowV h b (.tup [.tup ts, .bl u, .tup ss]))) [s0, some h, s2, some (.bl b), some (.tup ts), some (.bl u), some (.tup ss), x7, x8] := by
  have f1 := fz_tests h1
  have f2 := fz_sends h2
  have z1 := frzL_of f1
  have z2 := frzL_of f2
  have hf := head_fz hh
  have hz := D.frz_id h hf
  have e1 : mLc (mIt (mVar 4)) (.nm 7) [7] (mNot (mCall c_law_holds (mCons (mVar 7) (mCons (mVar 1) (mNil))))) (mVar 7) [s0, some h, s2, some (.bl b), some (.tup ts), some (.bl u), some (.tup ss), x7, x8] = .ok (.lst true (ts.filter fun t => !hv h t)) [s0, some h, s2, some (.bl b), some (.tup ts), some (.bl u), some (.tup ss), x7, x8] := by
    have z := lc_ok (it := mIt (mVar 4)) (i := 7) (c := mNot (mCall c_law_holds (mCons (mVar 7) (mCons (mVar 1) (mNil))))) (y := mVar 7) (e := [s0, some h, s2, some (.bl b), some (.tup ts), some (.bl u), some (.tup ss), x7, x8]) (ds := ts) (fun t => !hv h t) (fun t => t)
      (by simp only [mIt, D.itemsS, z1, f1, runF, mSeq, mSet, mMov, mBin, mUn, mB, mCons, mNil, mVar, mBinL, mBinR, mUnP, mC, isIn, mIf, mRet, mNext, mBrk, mDo, mAnd, mOr, mNot, mIte, mTup, mLst, mSlice, mNoPart, mPart, mCall, mCallIO, mAsg, mPar, mPar3, asg, asgL, onB, R.bind_ok, R.bind_exc, R.bind_fail, R.of, one, dInt, dTuple, dList, dLen, dIdx, D.fz, D.frz, D.fzL, D.frzL, runE, pickIO, List.length_cons, List.length_nil, List.map_cons, List.map_nil, List.cons_append, List.nil_append, List.getElem?_cons_zero, List.getElem?_cons_succ, List.set_cons_zero, List.set_cons_succ, if_true, if_false, Bool.false_eq_true, Bool.not_true, Bool.not_false, Bool.true_and, Bool.false_and, Bool.and_true, Bool.and_self, List.replicate, Nat.reduceAdd, Nat.reduceSub, Nat.reduceLT, Nat.reduceLeDiff, Nat.reduceEqDiff, Option.bind_some, Option.map_some, Pu.atI0, Pu.atI1, Pu.atI2, Pu.atI3, and_self, Pu.sz, reduceIte, Pu.n0, Pu.n1, Pu.n2, Pu.n3, Pu.n4, Pu.n5, Pu.n6, Pu.n7, Pu.n8, Pu.n9, Int.reduceBEq, beq_self_eq_true, Pu.io_tup, Pu.io_lst, Pu.io_int, Pu.io_bl, Pu.io_str, Pu.io_non, decide_true, decide_false]) (by simp) (fun d hd => by
        have fd := fz_mem f1 hd
        simp only [runF, mSeq, mSet, mMov, mBin, mUn, mB, mCons, mNil, mVar, mBinL, mBinR, mUnP, mC, isIn, mIf, mRet, mNext, mBrk, mDo, mAnd, mOr, mNot, mIte, mTup, mLst, mSlice, mNoPart, mPart, mCall, mCallIO, mAsg, mPar, mPar3, asg, asgL, onB, R.bind_ok, R.bind_exc, R.bind_fail, R.of, one, dInt, dTuple, dList, dLen, dIdx, D.fz, D.frz, D.fzL, D.frzL, runE, pickIO, List.length_cons, List.length_nil, List.map_cons, List.map_nil, List.cons_append, List.nil_append, List.getElem?_cons_zero, List.getElem?_cons_succ, List.set_cons_zero, List.set_cons_succ, if_true, if_false, Bool.false_eq_true, Bool.not_true, Bool.not_false, Bool.true_and, Bool.false_and, Bool.and_true, Bool.and_self, List.replicate, Nat.reduceAdd, Nat.reduceSub, Nat.reduceLT, Nat.reduceLeDiff, Nat.reduceEqDiff, Option.bind_some, Option.map_some, Pu.atI0, Pu.atI1, Pu.atI2, Pu.atI3, and_self, Pu.sz, reduceIte, Pu.n0, Pu.n1, Pu.n2, Pu.n3, Pu.n4, Pu.n5, Pu.n6, Pu.n7, Pu.n8, Pu.n9, Int.reduceBEq, beq_self_eq_true, Pu.io_tup, Pu.io_lst, Pu.io_int, Pu.io_bl, Pu.io_str, Pu.io_non, decide_true, decide_false, fd, hf, (holds_ok hh (h1 d hd)).2]) (fun d hd _ => by
        have fd := fz_mem f1 hd
        simp only [runF, mSeq, mSet, mMov, mBin, mUn, mB, mCons, mNil, mVar, mBinL, mBinR, mUnP, mC, isIn, mIf, mRet, mNext, mBrk, mDo, mAnd, mOr, mNot, mIte, mTup, mLst, mSlice, mNoPart, mPart, mCall, mCallIO, mAsg, mPar, mPar3, asg, asgL, onB, R.bind_ok, R.bind_exc, R.bind_fail, R.of, one, dInt, dTuple, dList, dLen, dIdx, D.fz, D.frz, D.fzL, D.frzL, runE, pickIO, List.length_cons, List.length_nil, List.map_cons, List.map_nil, List.cons_append, List.nil_append, List.getElem?_cons_zero, List.getElem?_cons_succ, List.set_cons_zero, List.set_cons_succ, if_true, if_false, Bool.false_eq_true, Bool.not_true, Bool.not_false, Bool.true_and, Bool.false_and, Bool.and_true, Bool.and_self, List.replicate, Nat.reduceAdd, Nat.reduceSub, Nat.reduceLT, Nat.reduceLeDiff, Nat.reduceEqDiff, Option.bind_some, Option.map_some, Pu.atI0, Pu.atI1, Pu.atI2, Pu.atI3, and_self, Pu.sz, reduceIte, Pu.n0, Pu.n1, Pu.n2, Pu.n3, Pu.n4, Pu.n5, Pu.n6, Pu.n7, Pu.n8, Pu.n9, Int.reduceBEq, beq_self_eq_true, Pu.io_tup, Pu.io_lst, Pu.io_int, Pu.io_bl, Pu.io_str, Pu.io_non, decide_true, decide_false, fd]) (by rw [sz]; omega)
    rw [List.map_id'] at z
    exact z
  have e2 : mLc (mIt (mVar 6)) (.nm 8) [8] (mC (.bl true)) (mTup (mCons (mBin dIdx (mVar 8) (mC (.int 0))) (mCons (mCall c_law_behind (mCons (mVar 8) (mCons (mVar 1) (mCons (mVar 3) (mNil))))) (mNil)))) [s0, some h, s2, some (.bl b), some (.tup ts), some (.bl u), some (.tup ss), x7, x8] = .ok (.lst true (ss.map (sv h b))) [s0, some h, s2, some (.bl b), some (.tup ts), some (.bl u), some (.tup ss), x7, x8] := by
    have z := lc_ok (it := mIt (mVar 6)) (i := 8) (c := mC (.bl true)) (y := mTup (mCons (mBin dIdx (mVar 8) (mC (.int 0))) (mCons (mCall c_law_behind (mCons (mVar 8) (mCons (mVar 1) (mCons (mVar 3) (mNil))))) (mNil)))) (e := [s0, some h, s2, some (.bl b), some (.tup ts), some (.bl u), some (.tup ss), x7, x8]) (ds := ss) (fun _ => true) (sv h b)
      (by simp only [mIt, D.itemsS, z2, f2, runF, mSeq, mSet, mMov, mBin, mUn, mB, mCons, mNil, mVar, mBinL, mBinR, mUnP, mC, isIn, mIf, mRet, mNext, mBrk, mDo, mAnd, mOr, mNot, mIte, mTup, mLst, mSlice, mNoPart, mPart, mCall, mCallIO, mAsg, mPar, mPar3, asg, asgL, onB, R.bind_ok, R.bind_exc, R.bind_fail, R.of, one, dInt, dTuple, dList, dLen, dIdx, D.fz, D.frz, D.fzL, D.frzL, runE, pickIO, List.length_cons, List.length_nil, List.map_cons, List.map_nil, List.cons_append, List.nil_append, List.getElem?_cons_zero, List.getElem?_cons_succ, List.set_cons_zero, List.set_cons_succ, if_true, if_false, Bool.false_eq_true, Bool.not_true, Bool.not_false, Bool.true_and, Bool.false_and, Bool.and_true, Bool.and_self, List.replicate, Nat.reduceAdd, Nat.reduceSub, Nat.reduceLT, Nat.reduceLeDiff, Nat.reduceEqDiff, Option.bind_some, Option.map_some, Pu.atI0, Pu.atI1, Pu.atI2, Pu.atI3, and_self, Pu.sz, reduceIte, Pu.n0, Pu.n1, Pu.n2, Pu.n3, Pu.n4, Pu.n5, Pu.n6, Pu.n7, Pu.n8, Pu.n9, Int.reduceBEq, beq_self_eq_true, Pu.io_tup, Pu.io_lst, Pu.io_int, Pu.io_bl, Pu.io_str, Pu.io_non, decide_true, decide_false]) (by simp) (fun d hd => rfl) (fun d hd _ => by
        obtain ⟨w, r, rfl, ew, _, fr, _⟩ := wh_ok (h2 d hd)
        have zr := frzL_of fr
        have eb := (behind_ok (h2 _ hd) hh b).2.1
        simp only [runF, mSeq, mSet, mMov, mBin, mUn, mB, mCons, mNil, mVar, mBinL, mBinR, mUnP, mC, isIn, mIf, mRet, mNext, mBrk, mDo, mAnd, mOr, mNot, mIte, mTup, mLst, mSlice, mNoPart, mPart, mCall, mCallIO, mAsg, mPar, mPar3, asg, asgL, onB, R.bind_ok, R.bind_exc, R.bind_fail, R.of, one, dInt, dTuple, dList, dLen, dIdx, D.fz, D.frz, D.fzL, D.frzL, runE, pickIO, List.length_cons, List.length_nil, List.map_cons, List.map_nil, List.cons_append, List.nil_append, List.getElem?_cons_zero, List.getElem?_cons_succ, List.set_cons_zero, List.set_cons_succ, if_true, if_false, Bool.false_eq_true, Bool.not_true, Bool.not_false, Bool.true_and, Bool.false_and, Bool.and_true, Bool.and_self, List.replicate, Nat.reduceAdd, Nat.reduceSub, Nat.reduceLT, Nat.reduceLeDiff, Nat.reduceEqDiff, Option.bind_some, Option.map_some, Pu.atI0, Pu.atI1, Pu.atI2, Pu.atI3, and_self, Pu.sz, reduceIte, Pu.n0, Pu.n1, Pu.n2, Pu.n3, Pu.n4, Pu.n5, Pu.n6, Pu.n7, Pu.n8, Pu.n9, Int.reduceBEq, beq_self_eq_true, Pu.io_tup, Pu.io_lst, Pu.io_int, Pu.io_bl, Pu.io_str, Pu.io_non, decide_true, decide_false, fr, zr, hf, hz, eb, sv, ew]) (by rw [sz]; omega)
    rw [filter_true] at z
    exact z
  have f3 : D.fzL (ss.map (sv h b)) = true := fzL_map fun d hd => (sv_ok (h2 d hd) hh b).1
  have z3 := frzL_of f3
  have hm : ∀ t ∈ ts.filter fun t => !hv h t, t ∈ testsL := fun t ht => h1 t (List.mem_filter.mp ht).1
  have hn := tests_ne hm (Nat.le_trans (List.length_filter_le _ _) l1)
  rw [filter_emp] at hn
  have z4 := frzL_of (fz_tests hm)
  cases q : ts.all (hv h) with
  | true => rw [q] at hn; simp only [lBody, runF, mSeq, mSet, mMov, mBin, mUn, mB, mCons, mNil, mVar, mBinL, mBinR, mUnP, mC, isIn, mIf, mRet, mNext, mBrk, mDo, mAnd, mOr, mNot, mIte, mTup, mLst, mSlice, mNoPart, mPart, mCall, mCallIO, mAsg, mPar, mPar3, asg, asgL, onB, R.bind_ok, R.bind_exc, R.bind_fail, R.of, one, dInt, dTuple, dList, dLen, dIdx, D.fz, D.frz, D.fzL, D.frzL, runE, pickIO, List.length_cons, List.length_nil, List.map_cons, List.map_nil, List.cons_append, List.nil_append, List.getElem?_cons_zero, List.getElem?_cons_succ, List.set_cons_zero, List.set_cons_succ, if_true, if_false, Bool.false_eq_true, Bool.not_true, Bool.not_false, Bool.true_and, Bool.false_and, Bool.and_true, Bool.and_self, List.replicate, Nat.reduceAdd, Nat.reduceSub, Nat.reduceLT, Nat.reduceLeDiff, Nat.reduceEqDiff, Option.bind_some, Option.map_some, Pu.atI0, Pu.atI1, Pu.atI2, Pu.atI3, and_self, Pu.sz, reduceIte, Pu.n0, Pu.n1, Pu.n2, Pu.n3, Pu.n4, Pu.n5, Pu.n6, Pu.n7, Pu.n8, Pu.n9, Int.reduceBEq, beq_self_eq_true, Pu.io_tup, Pu.io_lst, Pu.io_int, Pu.io_bl, Pu.io_str, Pu.io_non, decide_true, decide_false, e1, e2, z4, hn, q, z3, f3, rowV, flOf]
  | false => rw [q] at hn; simp only [lBody, runF, mSeq, mSet, mMov, mBin, mUn, mB, mCons, mNil, mVar, mBinL, mBinR, mUnP, mC, isIn, mIf, mRet, mNext, mBrk, mDo, mAnd, mOr, mNot, mIte, mTup, mLst, mSlice, mNoPart, mPart, mCall, mCallIO, mAsg, mPar, mPar3, asg, asgL, onB, R.bind_ok, R.bind_exc, R.bind_fail, R.of, one, dInt, dTuple, dList, dLen, dIdx, D.fz, D.frz, D.fzL, D.frzL, runE, pickIO, List.length_cons, List.length_nil, List.map_cons, List.map_nil, List.cons_append, List.nil_append, List.getElem?_cons_zero, List.getElem?_cons_succ, List.set_cons_zero, List.set_cons_succ, if_true, if_false, Bool.false_eq_true, Bool.not_true, Bool.not_false, Bool.true_and, Bool.false_and, Bool.and_true, Bool.and_self, List.replicate, Nat.reduceAdd, Nat.reduceSub, Nat.reduceLT, Nat.reduceLeDiff, Nat.reduceEqDiff, Option.bind_some, Option.map_some, Pu.atI0, Pu.atI1, Pu.atI2, Pu.atI3, and_self, Pu.sz, reduceIte, Pu.n0, Pu.n1, Pu.n2, Pu.n3, Pu.n4, Pu.n5, Pu.n6, Pu.n7, Pu.n8, Pu.n9, Int.reduceBEq, beq_self_eq_true, Pu.io_tup, Pu.io_lst, Pu.io_int, Pu.io_bl, Pu.io_str, Pu.io_non, decide_true, decide_false, e1, z4, hn, q, rowV, flOf]
theorem l_loop {h : D} (b : Bool) (hh : h ∈ headsL) (s0 s2 : Option D) : ∀ (rs : List D) (x4 x5 x6 x7 x8 : Option D), (∀ r ∈ rs, GRow r) →
    ∃ e', forL (.tp [.nm 4, .nm 5, .nm 6]) lBody rs [s0, some h, s2, some (.bl b), x4, x5, x6, x7, x8] = .ok (flOf (rs.findSome? (rowV h b))) e'
  | [], _, _, _, _, _, _ => ⟨_, rfl⟩
  | r :: rs, x4, x5, x6, x7, x8, g => by
    obtain ⟨ts, u, ss, rfl, l1, l2, h1, h2⟩ := g r List.mem_cons_self
    have e := lBody_ok b hh (u := u) l1 l2 h1 h2 s0 s2 x7 x8
    rw [forL, List.findSome?_cons]
    simp only [asg, asgL, List.length_cons, List.length_nil, Nat.reduceAdd, Nat.reduceLT, if_true, List.set_cons_succ, List.set_cons_zero, e]
    cases q : rowV h b (.tup [.tup ts, .bl u, .tup ss]) with
    | some v => exact ⟨_, rfl⟩
    | none =>
      obtain ⟨e', i⟩ := l_loop b hh s0 s2 rs (some (.tup ts)) (some (.bl u)) (some (.tup ss)) x7 x8 fun x hx => g x (List.mem_cons_of_mem _ hx)
      refine ⟨e', ?_⟩
      simp only [flOf, onFl]
      exact i
theorem law_acts_ok {h : D} {rs : List D} (g : ∀ r ∈ rs, GRow r) (b : Bool) (hh : h ∈ headsL) : c_law_acts [.tup [.tup rs, .bl b], h] = .ok (actV h b rs) [] := by
  have f := fz_rows g
  have z := frzL_of f
  have hf := head_fz hh
  have hz := D.frz_id h hf
  obtain ⟨e', e⟩ := l_loop b hh (some (.tup [.tup rs, .bl b])) (some (.tup rs)) rs none none none none none g
  have it : mIt (mVar 2) [some (.tup [.tup rs, .bl b]), some h, some (.tup rs), some (.bl b), none, none, none, none, none] = .ok rs [some (.tup [.tup rs, .bl b]), some h, some (.tup rs), some (.bl b), none, none, none, none, none] := by
    simp only [mIt, D.itemsS, runF, mSeq, mSet, mMov, mBin, mUn, mB, mCons, mNil, mVar, mBinL, mBinR, mUnP, mC, isIn, mIf, mRet, mNext, mBrk, mDo, mAnd, mOr, mNot, mIte, mTup, mLst, mSlice, mNoPart, mPart, mCall, mCallIO, mAsg, mPar, mPar3, asg, asgL, onB, R.bind_ok, R.bind_exc, R.bind_fail, R.of, one, dInt, dTuple, dList, dLen, dIdx, D.fz, D.frz, D.fzL, D.frzL, runE, pickIO, List.length_cons, List.length_nil, List.map_cons, List.map_nil, List.cons_append, List.nil_append, List.getElem?_cons_zero, List.getElem?_cons_succ, List.set_cons_zero, List.set_cons_succ, if_true, if_false, Bool.false_eq_true, Bool.not_true, Bool.not_false, Bool.true_and, Bool.false_and, Bool.and_true, Bool.and_self, List.replicate, Nat.reduceAdd, Nat.reduceSub, Nat.reduceLT, Nat.reduceLeDiff, Nat.reduceEqDiff, Option.bind_some, Option.map_some, Pu.atI0, Pu.atI1, Pu.atI2, Pu.atI3, and_self, Pu.sz, reduceIte, Pu.n0, Pu.n1, Pu.n2, Pu.n3, Pu.n4, Pu.n5, Pu.n6, Pu.n7, Pu.n8, Pu.n9, Int.reduceBEq, beq_self_eq_true, Pu.io_tup, Pu.io_lst, Pu.io_int, Pu.io_bl, Pu.io_str, Pu.io_non, decide_true, decide_false, f, z]
  obtain ⟨p, n, rfl, hm, hp, hn⟩ := head_cases hh
  have pz := D.frz_id p hp
  have fin : lTail [some (.tup [.tup rs, .bl b]), some (.tup [p, .int n]), some (.tup rs), some (.bl b), none, none, none, none, none] = .ok (.ret ((rs.findSome? (rowV (.tup [p, .int n]) b)).getD (.tup [.bl true, .tup []]))) e' := by
    simp only [lTail, mSeq, mFor, it, R.bind_ok, e]
    cases q : rs.findSome? (rowV (.tup [p, .int n]) b) with
    | some v => rfl
    | none => simp only [flOf, runF, mSeq, mSet, mMov, mBin, mUn, mB, mCons, mNil, mVar, mBinL, mBinR, mUnP, mC, isIn, mIf, mRet, mNext, mBrk, mDo, mAnd, mOr, mNot, mIte, mTup, mLst, mSlice, mNoPart, mPart, mCall, mCallIO, mAsg, mPar, mPar3, asg, asgL, onB, R.bind_ok, R.bind_exc, R.bind_fail, R.of, one, dInt, dTuple, dList, dLen, dIdx, D.fz, D.frz, D.fzL, D.frzL, runE, pickIO, List.length_cons, List.length_nil, List.map_cons, List.map_nil, List.cons_append, List.nil_append, List.getElem?_cons_zero, List.getElem?_cons_succ, List.set_cons_zero, List.set_cons_succ, if_true, if_false, Bool.false_eq_true, Bool.not_true, Bool.not_false, Bool.true_and, Bool.false_and, Bool.and_true, Bool.and_self, List.replicate, Nat.reduceAdd, Nat.reduceSub, Nat.reduceLT, Nat.reduceLeDiff, Nat.reduceEqDiff, Option.bind_some, Option.map_some, Pu.atI0, Pu.atI1, Pu.atI2, Pu.atI3, and_self, Pu.sz, reduceIte, Pu.n0, Pu.n1, Pu.n2, Pu.n3, Pu.n4, Pu.n5, Pu.n6, Pu.n7, Pu.n8, Pu.n9, Int.reduceBEq, beq_self_eq_true, Pu.io_tup, Pu.io_lst, Pu.io_int, Pu.io_bl, Pu.io_str, Pu.io_non, decide_true, decide_false, Option.getD_none]
  rw [c_law_acts, law_acts_eq]
  have rest : ∃ e2, laRest [some (.tup [.tup rs, .bl b]), some (.tup [p, .int n]), some (.tup rs), some (.bl b), none, none, none, none, none] = .ok (.ret (actV (.tup [p, .int n]) b rs)) e2 := by
    have lo (h3 : ¬ (b = true ∧ top3 (.tup [p, .int n]) = true)) : actV (.tup [p, .int n]) b rs = (rs.findSome? (rowV (.tup [p, .int n]) b)).getD (.tup [.bl true, .tup []]) := by
      rw [actV, if_neg h3]
    cases b with
    | false =>
      rw [lo (fun c => nomatch c.1)]
      exact ⟨e', by unfold laRest; simp only [runF, mSeq, mSet, mMov, mBin, mUn, mB, mCons, mNil, mVar, mBinL, mBinR, mUnP, mC, isIn, mIf, mRet, mNext, mBrk, mDo, mAnd, mOr, mNot, mIte, mTup, mLst, mSlice, mNoPart, mPart, mCall, mCallIO, mAsg, mPar, mPar3, asg, asgL, onB, R.bind_ok, R.bind_exc, R.bind_fail, R.of, one, dInt, dTuple, dList, dLen, dIdx, D.fz, D.frz, D.fzL, D.frzL, runE, pickIO, List.length_cons, List.length_nil, List.map_cons, List.map_nil, List.cons_append, List.nil_append, List.getElem?_cons_zero, List.getElem?_cons_succ, List.set_cons_zero, List.set_cons_succ, if_true, if_false, Bool.false_eq_true, Bool.not_true, Bool.not_false, Bool.true_and, Bool.false_and, Bool.and_true, Bool.and_self, List.replicate, Nat.reduceAdd, Nat.reduceSub, Nat.reduceLT, Nat.reduceLeDiff, Nat.reduceEqDiff, Option.bind_some, Option.map_some, Pu.atI0, Pu.atI1, Pu.atI2, Pu.atI3, and_self, Pu.sz, reduceIte, Pu.n0, Pu.n1, Pu.n2, Pu.n3, Pu.n4, Pu.n5, Pu.n6, Pu.n7, Pu.n8, Pu.n9, Int.reduceBEq, beq_self_eq_true, Pu.io_tup, Pu.io_lst, Pu.io_int, Pu.io_bl, Pu.io_str, Pu.io_non, decide_true, decide_false, fin]⟩
    | true =>
      rcases hn with rfl | rfl | rfl | rfl
      · rw [lo (fun c => nomatch (show false = true from c.2))]
        have c1 : decide ((2 : Int) < 0) = false := rfl
        exact ⟨e', by unfold laRest; simp only [runF, mSeq, mSet, mMov, mBin, mUn, mB, mCons, mNil, mVar, mBinL, mBinR, mUnP, mC, isIn, mIf, mRet, mNext, mBrk, mDo, mAnd, mOr, mNot, mIte, mTup, mLst, mSlice, mNoPart, mPart, mCall, mCallIO, mAsg, mPar, mPar3, asg, asgL, onB, R.bind_ok, R.bind_exc, R.bind_fail, R.of, one, dInt, dTuple, dList, dLen, dIdx, D.fz, D.frz, D.fzL, D.frzL, runE, pickIO, List.length_cons, List.length_nil, List.map_cons, List.map_nil, List.cons_append, List.nil_append, List.getElem?_cons_zero, List.getElem?_cons_succ, List.set_cons_zero, List.set_cons_succ, if_true, if_false, Bool.false_eq_true, Bool.not_true, Bool.not_false, Bool.true_and, Bool.false_and, Bool.and_true, Bool.and_self, List.replicate, Nat.reduceAdd, Nat.reduceSub, Nat.reduceLT, Nat.reduceLeDiff, Nat.reduceEqDiff, Option.bind_some, Option.map_some, Pu.atI0, Pu.atI1, Pu.atI2, Pu.atI3, and_self, Pu.sz, reduceIte, Pu.n0, Pu.n1, Pu.n2, Pu.n3, Pu.n4, Pu.n5, Pu.n6, Pu.n7, Pu.n8, Pu.n9, Int.reduceBEq, beq_self_eq_true, Pu.io_tup, Pu.io_lst, Pu.io_int, Pu.io_bl, Pu.io_str, Pu.io_non, decide_true, decide_false, hp, pz, dGt, dCmpI, c1, fin]⟩
      · rw [lo (fun c => nomatch (show false = true from c.2))]
        have c1 : decide ((2 : Int) < 1) = false := rfl
        exact ⟨e', by unfold laRest; simp only [runF, mSeq, mSet, mMov, mBin, mUn, mB, mCons, mNil, mVar, mBinL, mBinR, mUnP, mC, isIn, mIf, mRet, mNext, mBrk, mDo, mAnd, mOr, mNot, mIte, mTup, mLst, mSlice, mNoPart, mPart, mCall, mCallIO, mAsg, mPar, mPar3, asg, asgL, onB, R.bind_ok, R.bind_exc, R.bind_fail, R.of, one, dInt, dTuple, dList, dLen, dIdx, D.fz, D.frz, D.fzL, D.frzL, runE, pickIO, List.length_cons, List.length_nil, List.map_cons, List.map_nil, List.cons_append, List.nil_append, List.getElem?_cons_zero, List.getElem?_cons_succ, List.set_cons_zero, List.set_cons_succ, if_true, if_false, Bool.false_eq_true, Bool.not_true, Bool.not_false, Bool.true_and, Bool.false_and, Bool.and_true, Bool.and_self, List.replicate, Nat.reduceAdd, Nat.reduceSub, Nat.reduceLT, Nat.reduceLeDiff, Nat.reduceEqDiff, Option.bind_some, Option.map_some, Pu.atI0, Pu.atI1, Pu.atI2, Pu.atI3, and_self, Pu.sz, reduceIte, Pu.n0, Pu.n1, Pu.n2, Pu.n3, Pu.n4, Pu.n5, Pu.n6, Pu.n7, Pu.n8, Pu.n9, Int.reduceBEq, beq_self_eq_true, Pu.io_tup, Pu.io_lst, Pu.io_int, Pu.io_bl, Pu.io_str, Pu.io_non, decide_true, decide_false, hp, pz, dGt, dCmpI, c1, fin]⟩
      · rw [lo (fun c => nomatch (show false = true from c.2))]
        have c1 : decide ((2 : Int) < 2) = false := rfl
        exact ⟨e', by unfold laRest; simp only [runF, mSeq, mSet, mMov, mBin, mUn, mB, mCons, mNil, mVar, mBinL, mBinR, mUnP, mC, isIn, mIf, mRet, mNext, mBrk, mDo, mAnd, mOr, mNot, mIte, mTup, mLst, mSlice, mNoPart, mPart, mCall, mCallIO, mAsg, mPar, mPar3, asg, asgL, onB, R.bind_ok, R.bind_exc, R.bind_fail, R.of, one, dInt, dTuple, dList, dLen, dIdx, D.fz, D.frz, D.fzL, D.frzL, runE, pickIO, List.length_cons, List.length_nil, List.map_cons, List.map_nil, List.cons_append, List.nil_append, List.getElem?_cons_zero, List.getElem?_cons_succ, List.set_cons_zero, List.set_cons_succ, if_true, if_false, Bool.false_eq_true, Bool.not_true, Bool.not_false, Bool.true_and, Bool.false_and, Bool.and_true, Bool.and_self, List.replicate, Nat.reduceAdd, Nat.reduceSub, Nat.reduceLT, Nat.reduceLeDiff, Nat.reduceEqDiff, Option.bind_some, Option.map_some, Pu.atI0, Pu.atI1, Pu.atI2, Pu.atI3, and_self, Pu.sz, reduceIte, Pu.n0, Pu.n1, Pu.n2, Pu.n3, Pu.n4, Pu.n5, Pu.n6, Pu.n7, Pu.n8, Pu.n9, Int.reduceBEq, beq_self_eq_true, Pu.io_tup, Pu.io_lst, Pu.io_int, Pu.io_bl, Pu.io_str, Pu.io_non, decide_true, decide_false, hp, pz, dGt, dCmpI, c1, fin]⟩
      · rw [actV, if_pos ⟨rfl, rfl⟩]
        have c1 : decide ((2 : Int) < 3) = true := rfl
        exact ⟨_, by unfold laRest; simp only [runF, mSeq, mSet, mMov, mBin, mUn, mB, mCons, mNil, mVar, mBinL, mBinR, mUnP, mC, isIn, mIf, mRet, mNext, mBrk, mDo, mAnd, mOr, mNot, mIte, mTup, mLst, mSlice, mNoPart, mPart, mCall, mCallIO, mAsg, mPar, mPar3, asg, asgL, onB, R.bind_ok, R.bind_exc, R.bind_fail, R.of, one, dInt, dTuple, dList, dLen, dIdx, D.fz, D.frz, D.fzL, D.frzL, runE, pickIO, List.length_cons, List.length_nil, List.map_cons, List.map_nil, List.cons_append, List.nil_append, List.getElem?_cons_zero, List.getElem?_cons_succ, List.set_cons_zero, List.set_cons_succ, if_true, if_false, Bool.false_eq_true, Bool.not_true, Bool.not_false, Bool.true_and, Bool.false_and, Bool.and_true, Bool.and_self, List.replicate, Nat.reduceAdd, Nat.reduceSub, Nat.reduceLT, Nat.reduceLeDiff, Nat.reduceEqDiff, Option.bind_some, Option.map_some, Pu.atI0, Pu.atI1, Pu.atI2, Pu.atI3, and_self, Pu.sz, reduceIte, Pu.n0, Pu.n1, Pu.n2, Pu.n3, Pu.n4, Pu.n5, Pu.n6, Pu.n7, Pu.n8, Pu.n9, Int.reduceBEq, beq_self_eq_true, Pu.io_tup, Pu.io_lst, Pu.io_int, Pu.io_bl, Pu.io_str, Pu.io_non, decide_true, decide_false, hp, pz, dGt, dCmpI, c1]; rfl⟩
  obtain ⟨e2, r⟩ := rest
  simp only [runF, mSeq, mSet, mMov, mBin, mUn, mB, mCons, mNil, mVar, mBinL, mBinR, mUnP, mC, isIn, mIf, mRet, mNext, mBrk, mDo, mAnd, mOr, mNot, mIte, mTup, mLst, mSlice, mNoPart, mPart, mCall, mCallIO, mAsg, mPar, mPar3, asg, asgL, onB, R.bind_ok, R.bind_exc, R.bind_fail, R.of, one, dInt, dTuple, dList, dLen, dIdx, D.fz, D.frz, D.fzL, D.frzL, runE, pickIO, List.length_cons, List.length_nil, List.map_cons, List.map_nil, List.cons_append, List.nil_append, List.getElem?_cons_zero, List.getElem?_cons_succ, List.set_cons_zero, List.set_cons_succ, if_true, if_false, Bool.false_eq_true, Bool.not_true, Bool.not_false, Bool.true_and, Bool.false_and, Bool.and_true, Bool.and_self, List.replicate, Nat.reduceAdd, Nat.reduceSub, Nat.reduceLT, Nat.reduceLeDiff, Nat.reduceEqDiff, Option.bind_some, Option.map_some, Pu.atI0, Pu.atI1, Pu.atI2, Pu.atI3, and_self, Pu.sz, reduceIte, Pu.n0, Pu.n1, Pu.n2, Pu.n3, Pu.n4, Pu.n5, Pu.n6, Pu.n7, Pu.n8, Pu.n9, Int.reduceBEq, beq_self_eq_true, Pu.io_tup, Pu.io_lst, Pu.io_int, Pu.io_bl, Pu.io_str, Pu.io_non, decide_true, decide_false, f, z, hp, pz, r]
end Pu
set_option Elab.async false
set_option linter.all false
set_option maxRecDepth 100000
set_option maxHeartbeats 4000000
/-! Pu: ==, in, over plain values; passes with any target. -/
namespace Pu
open PySem PySem.Spec PyProof.Rows L2 Pl
def eqvD (d d' : D) : Bool := match d.py, d'.py with
  | some p, some q => PyData.eqv p q
  | _, _ => false
theorem plN_lst {n : Nat} {ds : List D} (h : ds.all (plN n) = true) (l : ds.length ≤ 1000) (m : Bool) : plN (n + 1) (.lst m ds) = true := by
  rw [plN, h, decide_eq_true l]; rfl
theorem plN_tup {n : Nat} {ds : List D} (h : ds.all (plN n) = true) (l : ds.length ≤ 1000) : plN (n + 1) (.tup ds) = true := by
  rw [plN, h, decide_eq_true l]; rfl
theorem shaped_of {n : Nat} {d : D} (h : plN n d = true) (hn : n ≤ 64) : ∃ p, d.py = some p ∧ SeqAt.shaped p = true ∧ PyData.eqv p p = true := by
  obtain ⟨p, e, c, dp, q⟩ := py_refl n d h
  refine ⟨p, e, ?_, q⟩
  show (p.canLay0 && decide (p.depth ≤ 64)) = true
  rw [c, decide_eq_true (show p.depth ≤ 64 by omega)]
  rfl
theorem eqvD_refl {n : Nat} {d : D} (h : plN n d = true) (hn : n ≤ 64) : eqvD d d = true := by
  obtain ⟨p, e, _, q⟩ := shaped_of h hn
  unfold eqvD
  rw [e]
  exact q
theorem dEq_ok {n : Nat} {a b : D} (ha : plN n a = true) (hb : plN n b = true) (hn : n ≤ 64) (neg : Bool) : dEq neg a b = some (.bl (if neg then !eqvD a b else eqvD a b)) := by
  obtain ⟨p, e, s, _⟩ := shaped_of ha hn
  obtain ⟨q, e2, s2, _⟩ := shaped_of hb hn
  unfold dEq eqvD
  rw [e, e2]
  simp only [s, s2, and_self, if_true]
theorem any_py {x : D} {p : PyData} (hx : x.py = some p) : ∀ (ds : List D) (ps : List PyData), D.pyL ds = some ps → (ps.any fun z => PyData.eqv z p) = ds.any fun d => eqvD d x
  | [], ps, h => by
    rw [D.pyL] at h
    cases h
    rfl
  | d :: ds, ps, h => by
    cases h1 : d.py with
    | none => rw [D.pyL, h1] at h; cases h
    | some q =>
      cases h2 : D.pyL ds with
      | none => rw [D.pyL, h1, h2] at h; cases h
      | some qs =>
        rw [D.pyL, h1, h2] at h
        cases h
        have e : eqvD d x = PyData.eqv q p := by unfold eqvD; rw [h1, hx]
        rw [List.any_cons, List.any_cons, any_py hx ds qs h2, e]
theorem dIn_ok {n : Nat} {x : D} {ds : List D} (hx : plN n x = true) (hd : ds.all (plN n) = true) (hl : ds.length ≤ 1000) (hn : n + 1 ≤ 64) (neg m : Bool) : dIn neg x (.lst m ds) = some (.bl (if neg then !(ds.any fun d => eqvD d x) else ds.any fun d => eqvD d x)) := by
  obtain ⟨p, e, s, _⟩ := shaped_of hx (by omega)
  obtain ⟨q, e2, s2, _⟩ := shaped_of (plN_lst hd hl m) hn
  cases h2 : D.pyL ds with
  | none => rw [D.py, h2] at e2; cases e2
  | some ps =>
    rw [D.py, h2] at e2
    cases e2
    unfold dIn
    dsimp only
    rw [e, h2]
    simp only [s, s2, and_self, if_true, any_py e ds ps h2]
theorem lcL_gen {t : Tgt} {own : List Nat} {c y : M D} {e0 : Pl.Env} {p : D → Bool} {f : D → D} {st : D → Pl.Env} : ∀ (ds acc : List D), (∀ d ∈ ds, asg t d e0 = some (st d)) → (∀ d ∈ ds, wipeE (st d) own = e0) → (∀ d ∈ ds, c (st d) = .ok (.bl (p d)) (st d)) → (∀ d ∈ ds, p d = true → y (st d) = .ok (f d) (st d)) → acc.length + ds.length ≤ sizeLine →
    lcL t own c y ds acc e0 = .ok (acc ++ (ds.filter p).map f) e0
  | [], acc, _, _, _, _, _ => by rw [lcL, List.filter_nil, List.map_nil, List.append_nil]
  | d :: ds, acc, ha, hw, hc, hy, hl => by
    have hl' : acc.length + ds.length + 1 ≤ sizeLine := by rw [List.length_cons] at hl; omega
    have m := List.mem_cons_self (a := d) (l := ds)
    have up : ∀ x ∈ ds, x ∈ d :: ds := fun x hx => List.mem_cons_of_mem _ hx
    rw [lcL, ha d m]
    dsimp only
    rw [hc d m]
    simp only [noE, R.bind_ok, onB]
    cases hp : p d with
    | true =>
      rw [if_pos rfl, hy d m hp]
      simp only [noE, R.bind_ok]
      rw [if_pos (by omega), hw d m, lcL_gen ds (acc ++ [f d]) (fun x hx => ha x (up x hx)) (fun x hx => hw x (up x hx)) (fun x hx => hc x (up x hx)) (fun x hx => hy x (up x hx)) (by rw [List.length_append, List.length_singleton]; omega), List.filter_cons_of_pos hp, List.map_cons, List.append_assoc]
      rfl
    | false =>
      rw [if_neg (by decide), hw d m, lcL_gen ds acc (fun x hx => ha x (up x hx)) (fun x hx => hw x (up x hx)) (fun x hx => hc x (up x hx)) (fun x hx => hy x (up x hx)) (by omega), List.filter_cons_of_neg (by rw [hp]; decide)]
/-- [y for t in it if c], any target -/
theorem lc_gen {it : M (List D)} {t : Tgt} {own : List Nat} {c y : M D} {e : Pl.Env} {ds : List D} (p : D → Bool) (f : D → D) (st : D → Pl.Env) (h0 : it e = .ok ds e) (ha : ∀ d ∈ ds, asg t d (wipeE e own) = some (st d)) (hw : ∀ d ∈ ds, wipeE (st d) own = wipeE e own) (hc : ∀ d ∈ ds, c (st d) = .ok (.bl (p d)) (st d))
    (hy : ∀ d ∈ ds, p d = true → y (st d) = .ok (f d) (st d)) (hb : backE e own (wipeE e own) = e) (hl : ds.length ≤ sizeLine) : mLc it t own c y e = .ok (.lst true ((ds.filter p).map f)) e := by
  rw [mLc, h0]
  simp only [R.bind_ok]
  rw [lcL_gen ds [] ha hw hc hy (by rw [List.length_nil]; omega)]
  simp only [R.bind_ok, List.nil_append, hb]
end Pu
set_option Elab.async false
set_option linter.all false
set_option maxRecDepth 100000
set_option maxHeartbeats 1000000
/-! Pl: a call whose first argument is lent, while the others draw on it too. -/
namespace Pl
open PySem PySem.Spec PyProof.Rows L2
def mCallN (c : List D → RC) (i : Nat) (ms : M (List D)) : M D := fun e => if isIn e i = true then (ms e).bind fun ds e1 => match e1[i]? with
    | some (some d) => match c (d :: ds) with
      | .ok r [d'] => .ok r (e1.set i (some d'))
      | .exc x [d'] => .exc x (e1.set i (some d'))
      | _ => .fail
    | _ => .fail
  else .fail
section
variable {X : Cx} {W : WX} {F F1 : Fset} {H H1 : Hp} {S S1 : List Addr} {σ : L2.St} {e : Env} {c : List D → RC} {Q : VK} {k : Nat} {x : Str} {p pos : Pos} {es : List Expr} {ms : M (List D)}
theorem dE_callN {y : Str} {py : Pos} (i : Nat) (F : FnX X.prog X.w X.K X.mg X.base x k 1 c) (hr : Room k X.A) (tk : Takes X W) (hy : PE X (.Name y py) (tVar i)) (ha : PA X es (tA X W ms)) (hg : Gl X x := by rfl) (hdb : (x == ("__debug__" : Str)) = false := by decide)
    (hpl : (backTo pos (starEach es X.env)).any (·.1) = false := by rfl) : PE X (.Call (.Name x p) (.Name y py :: es) [] pos) (tE X W (mCallN c i ms)) := by
  obtain ⟨f, fd, ps, hm, hk, hb, FO⟩ := F.ex
  refine PEimp (pe_callW FO hr hm hk hb tk (pa_cons hy ha) hg hdb rfl hpl) fun σ H Q q => ?_
  obtain ⟨F, e, S, A, q⟩ := q
  unfold mCallN at q
  split at q
  · rename_i hi
    obtain ⟨d0, h0⟩ := isIn_get hi
    obtain ⟨v, T, hv, _, _⟩ := A.out h0
    refine ⟨v, hv, ?_⟩
    obtain ⟨F1, e1, S1, A1, q1⟩ := bindA A (Step.refl A.good) q
    refine ⟨F1, e1, S1, A1, q1.mono fun ds e2 k vs F' H' S' st B => ?_⟩
    obtain ⟨es, F2, e3, S2, st2, A2, hl, q2⟩ := k vs F' H' S' st B
    cases h3 : e3[i]? with
    | none => rw [h3] at q2; exact q2.elim
    | some o =>
      cases o with
      | none => rw [h3] at q2; exact q2.elim
      | some d =>
        rw [h3] at q2
        obtain ⟨v', T3, hv', A3, st3⟩ := A2.out h3
        rw [hv] at hv'
        cases hv'
        rw [List.append_nil, List.append_nil] at A3
        refine SpD.callIO (e0 := e) A3 hv (st2.trans st3) ?_
        rw [set_none (lt_of_get h3)]
        simp only [List.set_set]
        exact q2.later (Step.refl A.good) fun _ _ z => z
  · exact q.elim
end
end Pl
set_option Elab.async false
set_option linter.all false
set_option maxRecDepth 100000
set_option maxHeartbeats 1000000
/-! Pl: zip of a tuple and a list. -/
namespace Pl
open PySem PySem.Spec PyProof.Rows L2
section
variable {prog : Program} {w : World} {A : Around} {E : Value → Shared → Prop} {s : Shared}
/-- a tuple's iterator draws its items -/
theorem drawsTup (hh : A.handled = none) (it l : Addr) (ne : l ≠ it) (ts : Array Value) : Draws prog w A it [it, l] ts.size (fun i v => ts[i]? = some v) (fun i h => h.IsTupleIter it l i ∧ h.IsTuple l ts) where
  live := fun _ _ st => by obtain ⟨o, ho, _⟩ := st.1; exact ⟨o, ho⟩
  frame := fun _ _ _ st hk => by
    obtain ⟨⟨o1, k1, k2⟩, ⟨o2, k3, k4⟩⟩ := st
    exact ⟨⟨o1, hk it (by simp) o1 k1, k2⟩, ⟨o2, hk l (by simp) o2 k3, k4⟩⟩
  item := fun i s Q E hi st hQ => by
    obtain ⟨c1, c2⟩ := st
    exact RZ.nextOf_tuple_item c1 c2 (x := ts[i]) (by simp [hi]) fun h2 g1 g2 => hQ _ h2 s.toks (by simp [hi]) ⟨g1, c2.extBut g2.extBut ne⟩ g2
  done := fun s Q E st hE => by
    obtain ⟨c1, c2⟩ := st
    exact RZ.nextOf_tuple_end hh c1 c2 (by simp) hE
abbrev zM1 (h : Heap) (p : Addr) : Heap := h.push { cls := .type "tuple_iterator", data := .fields #[.ref p, .int 0 0] }
abbrev zM2 (h : Heap) (p q : Addr) : Heap := (zM1 h p).push { cls := .type "list_iterator", data := .fields #[.ref q, .int 0 0] }
abbrev zM3 (h : Heap) (p q : Addr) : Heap := (zM2 h p q).push { cls := .type "tuple", data := .seq #[.ref h.objs.size, .ref (zM1 h p).objs.size] }
abbrev zM4 (h : Heap) (p q : Addr) : Heap := (zM3 h p q).push { cls := .type "tuple", data := .seq #[.none, .none] }
abbrev zM5 (h : Heap) (p q : Addr) : Heap := (zM4 h p q).push { cls := .type "zip", data := .fields #[.none, .bool false, .bool false, .ref (zM2 h p q).objs.size, .ref (zM3 h p q).objs.size] }
theorem meets_zM (p q : Addr) (xs ys : Array Value) : Meets (Builtin.«zip.__new__» ⟨[.type "zip", .ref p, .ref q], []⟩) (fun _ R s => s.heap.IsTuple p xs ∧ s.heap.IsList q ys ∧ R (.ok (.ret (.ref (zM4 s.heap p q).objs.size))) { s with heap := zM5 s.heap p q }) :=
  .of_wp fun prog w A R s h => by
    obtain ⟨hp, g, d, tk, os⟩ := s
    obtain ⟨k1, k2, h⟩ := h
    have hsub := sub_zip
    have m1 : Heap.IsTuple (Shared.heap ⟨hp, g, d, tk, os⟩) p xs := k1
    have m2 : Heap.IsList (Shared.heap ⟨hp.push { cls := .type "tuple_iterator", data := .fields #[.ref p, .int 0 0] }, g, d, tk, os⟩) q ys := Heap.IsList.push k2 _
    wp_walk using wpAny_pyIter_tuple m1, wpAny_pyIter_list m2
    exact ⟨_, rfl, h⟩
theorem call_zM {p q : Addr} {xs ys : Array Value} {Q : Value → Shared → Prop} (k1 : s.heap.IsTuple p xs) (k2 : s.heap.IsList q ys)
    (h : ∀ h', IsZip h' (s.heap.objs.size + 4) (s.heap.objs.size + 2) (s.heap.objs.size + 3) .none → IsTupOf2 h' (s.heap.objs.size + 2) (.ref s.heap.objs.size) (.ref (s.heap.objs.size + 1)) → IsTupOf2 h' (s.heap.objs.size + 3) .none .none →
      h'.IsTupleIter s.heap.objs.size p 0 → h'.IsListIter (s.heap.objs.size + 1) q 0 → (∀ c o, s.heap.get? c = some o → h'.get? c = some o) → Q (.ref (s.heap.objs.size + 4)) { s with heap := h' }) :
    wpAny (model prog w) A (call (.type "zip") [.ref p, .ref q]) Q E s := by
  refine callType_new F.called_zip (by decide) (F.typeCall_zip_2 _ _) (F.newCall_zip_2 _ _) (fun obj => F.args_object_init_3 obj _ _) F.entry_zip_new (meets_zM p q xs ys) ⟨k1, k2, ?_⟩
  have s1 : (zM1 s.heap p).objs.size = s.heap.objs.size + 1 := Heap.size_push ..
  have s2 : (zM2 s.heap p q).objs.size = s.heap.objs.size + 2 := by rw [Heap.size_push, s1]
  have s3 : (zM3 s.heap p q).objs.size = s.heap.objs.size + 3 := by rw [Heap.size_push, s2]
  have s4 : (zM4 s.heap p q).objs.size = s.heap.objs.size + 4 := by rw [Heap.size_push, s3]
  have up : ∀ {h0 : Heap} {o0 : Obj} {c : Addr} {o : Obj}, h0.get? c = some o → (h0.push o0).get? c = some o := fun z => Heap.get?_push_of_some _ z
  have e5 : (zM5 s.heap p q).get? (zM4 s.heap p q).objs.size = some _ := Heap.get?_push_size _ rfl
  have e4 : (zM5 s.heap p q).get? (zM3 s.heap p q).objs.size = some _ := up (Heap.get?_push_size _ rfl)
  have e3 : (zM5 s.heap p q).get? (zM2 s.heap p q).objs.size = some _ := up (up (Heap.get?_push_size _ rfl))
  have e2 : (zM5 s.heap p q).get? (zM1 s.heap p).objs.size = some _ := up (up (up (Heap.get?_push_size _ rfl)))
  have e1 : (zM5 s.heap p q).get? s.heap.objs.size = some _ := up (up (up (up (Heap.get?_push_size _ rfl))))
  show _ ∧ _
  rw [s2, s3, s4] at e5
  rw [s1, s2] at e3
  rw [s3] at e4
  rw [s1] at e2
  rw [s4]
  exact ⟨⟨_, e5, rfl⟩, h _ e5 e3 e4 ⟨_, e1, rfl, rfl⟩ ⟨_, e2, rfl, rfl⟩ fun c o x => up (up (up (up (up x))))⟩
end
/-- the tuple at a and the list at b as they stand at each turn, the items in new pairs -/
def ItzM (K : PySem.W.Frag) (a b : Addr) : It :=
  ⟨fun i H => ∃ (xs ys : List V) (x y : V), SqT K H a xs ∧ SqL K H b ys ∧ xs[i]? = some x ∧ ys[i]? = some y,
    fun i H v H2 => ∃ T x y, v = .ref T ∧ H T = none ∧ H2 = upd H T (.tup [x, y]) ∧ (∀ xs, SqT K H a xs → xs[i]? = some x) ∧ (∀ ys, SqL K H b ys → ys[i]? = some y),
    fun i H => ∃ xs ys : List V, SqT K H a xs ∧ SqL K H b ys ∧ i ≤ xs.length ∧ i ≤ ys.length ∧ (i = xs.length ∨ i = ys.length)⟩
theorem sepM {z TI TO i1 i2 a b n : Nat} (hz : z = n + 4) (h1 : TI = n + 2) (h2 : TO = n + 3) (h3 : i1 = n) (h4 : i2 = n + 1) (ha : a < n) (hb : b < n) : ZipSep2 z TI TO i1 i2 [i1, a] [i2, b] := by
  subst hz h1 h2 h3 h4
  have nm : ∀ c x y : Nat, c ≠ x → c ≠ y → c ∉ [x, y] := fun c x y h k q => by
    rcases List.mem_cons.mp q with e | q
    · exact h e
    · exact k (List.mem_singleton.mp q)
  have nn : ∀ x y : Nat, (x < y ∨ y < x) → x ≠ y := fun x y h e => by omega
  exact ⟨nn _ _ (by omega), nn _ _ (by omega), nn _ _ (by omega), nn _ _ (by omega), List.mem_cons_self, nm _ _ _ (nn _ _ (by omega)) (nn _ _ (by omega)), nm _ _ _ (nn _ _ (by omega)) (nn _ _ (by omega)), nn _ _ (by omega), List.mem_cons_self, nm _ _ _ (nn _ _ (by omega)) (nn _ _ (by omega)), nm _ _ _ (nn _ _ (by omega)) (nn _ _ (by omega)), nm _ _ _ (nn _ _ (by omega)) (nn _ _ (by omega)), nm _ _ _ (nn _ _ (by omega)) (nn _ _ (by omega))⟩
theorem turnM {P : Program} {w : World} {K : PySem.W.Frag} {elts : List Expr} {kk : Nat} {tpos : Pos} {a b z TI TO i1 i2 : Addr} (S : ZipSep2 z TI TO i1 i2 [i1, a] [i2, b]) :
    Turn P w K (.Tuple elts kk tpos) (ItzM K a b) [z, TI, TO, i1, i2] z (fun i h => IsZip h z TI TO .none ∧ IsTupOf2 h TI (.ref i1) (.ref i2) ∧ (∃ x y, IsTupOf2 h TO x y) ∧ h.IsTupleIter i1 a i ∧ h.IsListIter i2 b i) where
  mem := by simp
  obj := fun i h st c hc => by
    obtain ⟨hz, hTI, ⟨x, y, hTO⟩, ⟨o1, e1, _, d1⟩, ⟨o2, e2, _, d2⟩⟩ := st
    simp only [List.mem_cons, List.not_mem_nil, or_false] at hc
    rcases hc with rfl | rfl | rfl | rfl | rfl
    · exact ⟨_, hz, fun v q => nomatch q⟩
    · exact ⟨_, hTI, fun v q => nomatch q⟩
    · exact ⟨_, hTO, fun v q => nomatch q⟩
    · exact ⟨o1, e1, fun v q => by rw [d1] at q; cases q⟩
    · exact ⟨o2, e2, fun v q => by rw [d2] at q; cases q⟩
  keep := fun i h h2 st k => by
    obtain ⟨hz, hTI, ⟨x, y, hTO⟩, ⟨o1, q1, q2⟩, ⟨o2, q3, q4⟩⟩ := st
    exact ⟨k z (by simp) _ hz, k TI (by simp) _ hTI, ⟨x, y, k TO (by simp) _ hTO⟩, ⟨o1, k i1 (by simp) _ q1, q2⟩, ⟨o2, k i2 (by simp) _ q3, q4⟩⟩
  item := by
    intro X eP ew eK hc i pins s σ H E I hf st hg
    subst eP ew eK
    obtain ⟨hz, hTI, ⟨x0, y0, hTO⟩, h1, h2⟩ := st
    obtain ⟨xs, ys, x, y, qx, qy, gx, gy⟩ := hg
    obtain ⟨its, rv, p, _⟩ := I.tuple qx
    obtain ⟨jts, rw2, p2, _⟩ := I.list qy
    obtain ⟨u, hu, ru⟩ := rv.get gx
    obtain ⟨u2, hu2, ru2⟩ := rw2.get gy
    have zl : z < s.heap.objs.size := Heap.lt_size hz
    have na : a ≠ i1 := fun e => by
      obtain ⟨oa, ka, kb, _⟩ := p
      obtain ⟨ob, kc, kd, _⟩ := h1
      rw [e, kc] at ka
      cases ka
      rw [kb] at kd
      injection kd with kd
      exact absurd kd (by decide)
    have nb : b ≠ i2 := fun e => by
      obtain ⟨oa, ka, kb, _⟩ := p2.isList
      obtain ⟨ob, kc, kd, _⟩ := h2
      rw [e, kc] at ka
      cases ka
      rw [kb] at kd
      injection kd with kd
      exact absurd kd (by decide)
    have lx : i < its.length := (List.getElem?_eq_some_iff.mp hu).1
    have ly : i < jts.length := (List.getElem?_eq_some_iff.mp hu2).1
    have hd : X.A.in1.handled = none := I.ok.hd hc
    have D1 := drawsTup (prog := X.prog) (w := X.w) hd i1 a na its.toArray
    have D2 := Draws.list (prog := X.prog) (w := X.w) hd i2 b nb jts.toArray
    refine wpAny_pyNext_zipD2_item (i := i) S D1 D2 hz hTI hTO ⟨h1, p⟩ ⟨h2, p2.isList⟩ (by simpa using lx) (by simpa using ly) fun v1 v2 h' tk g1 g2 z' TO' st1 st2 hT hsz hk => ?_
    have ev1 : v1 = u := by simpa [hu] using g1.symm
    have ev2 : v2 = u2 := by simpa [hu2] using g2.symm
    subst ev1 ev2
    refine ⟨_, rfl, wpAny_letOwnedTupleGo_zip (s := { s with heap := h', toks := tk }) z' fun h'' z'' sb => ?_⟩
    have hT2 : h''.get? s.heap.objs.size = some { cls := .type "tuple", data := .seq #[v1, v2] } := (sb.2 _ (Nat.ne_of_gt zl)).trans hT
    have fresh : ObjOk X.prog X.w (upd H s.heap.objs.size (.tup [x, y])) h'' s.heap.objs.size (.tup [x, y]) := ⟨by show 2 ≤ sizeLine; decide, [v1, v2], .cons ru (.cons ru2 .nil), ⟨_, hT2, rfl, _, rfl⟩⟩
    have J : Inv X pins σ (upd H s.heap.objs.size (.tup [x, y])) { s with heap := h'', toks := tk } :=
      I.turnedNew (t' := tk) (ch := [z, TI, TO, i1, i2]) (fun c o hb q => (sb.2 c (fun e => hb (by simp [e]))).trans (hk c o (fun e => hb (by simp [e])) (fun e => hb (by simp [e])) (fun e => hb (by simp [e])) (fun e => hb (by simp [e])) q)) hf (Nat.le_refl _) fresh
    refine ⟨.ref s.heap.objs.size, _, J, rfl, ⟨_, x, y, rfl, I.hok.fresh (Nat.le_refl _), rfl, fun l hl => by rw [I.tuple_inj hl qx]; exact gx, fun l hl => by rw [I.list_inj hl qy]; exact gy⟩, ⟨z'', ?_, ⟨v1, v2, ?_⟩, ?_, ?_⟩, fun c hcm => ?_⟩
    · exact (sb.2 _ S.TIz).trans (hk _ _ S.TIz S.TITO S.TIi1 S.TIi2 hTI)
    · exact (sb.2 _ S.TOz).trans TO'
    · obtain ⟨⟨o, k1, k2⟩, _⟩ := st1
      exact ⟨o, (sb.2 _ S.zi1.symm).trans k1, k2⟩
    · obtain ⟨⟨o, k1, k2⟩, _⟩ := st2
      exact ⟨o, (sb.2 _ S.zi2.symm).trans k1, k2⟩
    · have lt : c < s.heap.objs.size := by
        simp only [List.mem_cons, List.not_mem_nil, or_false] at hcm
        rcases hcm with rfl | rfl | rfl | rfl | rfl
        · exact zl
        · exact Heap.lt_size hTI
        · exact Heap.lt_size hTO
        · obtain ⟨_, e1, _⟩ := h1; exact Heap.lt_size e1
        · obtain ⟨_, e2, _⟩ := h2; exact Heap.lt_size e2
      rw [upd_ne (Nat.ne_of_lt lt)]
      exact (hf c hcm).1
  done := by
    intro X eP ew eK hc i pins s σ H E I hf st hg
    subst eP ew eK
    obtain ⟨hz, hTI, ⟨x0, y0, hTO⟩, h1, h2⟩ := st
    obtain ⟨xs, ys, qx, qy, b1, b2, hend⟩ := hg
    obtain ⟨its, rv, p, _⟩ := I.tuple qx
    obtain ⟨jts, rw2, p2, _⟩ := I.list qy
    have na : a ≠ i1 := fun e => by
      obtain ⟨oa, ka, kb, _⟩ := p
      obtain ⟨ob, kc, kd, _⟩ := h1
      rw [e, kc] at ka
      cases ka
      rw [kb] at kd
      injection kd with kd
      exact absurd kd (by decide)
    have nb : b ≠ i2 := fun e => by
      obtain ⟨oa, ka, kb, _⟩ := p2.isList
      obtain ⟨ob, kc, kd, _⟩ := h2
      rw [e, kc] at ka
      cases ka
      rw [kb] at kd
      injection kd with kd
      exact absurd kd (by decide)
    have hd : X.A.in1.handled = none := I.ok.hd hc
    have D1 := drawsTup (prog := X.prog) (w := X.w) hd i1 a na its.toArray
    have D2 := Draws.list (prog := X.prog) (w := X.w) hd i2 b nb jts.toArray
    have l1 := rv.length
    have l2 := rw2.length
    have m1 : its.toArray.size = xs.length := by simp; omega
    have m2 : jts.toArray.size = ys.length := by simp; omega
    exact wpAny_pyNext_zipD2_end (i := i) S D1 D2 hz hTI hTO ⟨h1, p⟩ ⟨h2, p2.isList⟩ (by rw [m1]; exact b1) (by rw [m2]; exact b2) (by rw [m1, m2]; exact hend) fun h' tk hk => ⟨rfl, I.turnedL (t' := tk) (ch := [z, TI, TO, i1, i2]) (fun c o hb q =>
      hk c o (fun e => hb (by simp [e])) (fun e => hb (by simp [e])) (fun e => hb (by simp [e])) (fun e => hb (by simp [e])) q) hf⟩
  self := fun A i s Q E st h => wpAny_pyIter_zip st.1 h
def iZipM (K : PySem.W.Frag) (ta : TA) : TI := fun σ H R => ta σ H fun vs H1 => ∃ a b xs ys, vs = [.ref a, .ref b] ∧ SqT K H1 a xs ∧ SqL K H1 b ys ∧ R (ItzM K a b) H1
theorem pi_zipM {X : Cx} {e e2 : Expr} {ta : TA} {p pos tpos : Pos} {elts : List Expr} {kk : Nat} (hg : Gl X "zip") (hm : X.mg "zip" = none) (ha : PA X [e, e2] ta)
    (hs : starEach [e, e2] X.env = (false, eval e X.env) :: starEach [e2] X.env := by rfl) (hpl : (backTo pos (starEach [e2] X.env)).any (·.1) = false := by rfl) : PI X (.Tuple elts kk tpos) (.Call (.Name "zip" p) [e, e2] [] pos) (iZipM X.K ta) := by
  refine ⟨fun pins s σ H R I h => Call_ (ld_blt I hg hm PyProof.Rows.boot_zip (PyProof.Rows.callWith_type1 (thn (ha.run pos pins s σ H _ I h) fun us s1 ⟨vs, H1, I1, r1, a, b, xs, ys, ex, qx, qy, q⟩ => ?_) hs hpl))⟩
  subst ex
  obtain ⟨u, us, rfl, ru, r2⟩ : ∃ u us', us = u :: us' ∧ RelV (.ref a) u ∧ Vals [.ref b] us' := by
    cases r1 with
    | cons r rr => exact ⟨_, _, rfl, r, rr⟩
  obtain ⟨u2, rfl, ru2⟩ : ∃ u2, us = [u2] ∧ RelV (.ref b) u2 := by
    cases r2 with
    | cons r rr =>
      cases rr
      exact ⟨_, rfl, r⟩
  cases ru
  cases ru2
  obtain ⟨its, rv, p1, _⟩ := I1.tuple qx
  obtain ⟨jts, rw2, p2, _⟩ := I1.list qy
  have la : a < s1.heap.objs.size := by
    obtain ⟨o, ho, _⟩ := p1
    exact Heap.lt_size ho
  refine call_zM p1 p2.isList fun h' hz hTI hTO h1 h2 hk => wpAny_pyIter_zip hz ?_
  have I2 : Inv X pins σ H1 { s1 with heap := h' } := I1.kept (t' := s1.toks) hk
  refine ⟨s1.heap.objs.size + 4, [s1.heap.objs.size + 4, s1.heap.objs.size + 2, s1.heap.objs.size + 3, s1.heap.objs.size, s1.heap.objs.size + 1], _, _, H1, rfl, I2, turnM (sepM rfl rfl rfl rfl rfl la p2.lt), ⟨hz, hTI, ⟨_, _, hTO⟩, h1, h2⟩, fun c hc => ?_, q⟩
  have ge : s1.heap.objs.size ≤ c := by
    simp only [List.mem_cons, List.not_mem_nil, or_false] at hc
    rcases hc with e | e | e | e | e <;> rw [e] <;> first | exact Nat.le_refl _ | exact Nat.le_add_right _ _
  exact I1.fpOk ge (I1.hok.fresh ge)
def mZipM (ms : M (List D)) : M (List D) := fun e => (ms e).bind fun ds e1 => match D.frzL ds with
  | [.tup as, .lst _ bs] => .ok (zipD as bs) e1
  | _ => .fail
theorem itR_zipM {K : PySem.W.Frag} {w : World} {F : Fset} {H : Hp} {as bs : List D} {us vs : List V} {x y : Addr} (h1 : ∀ F' H', Stays F H F' H' [] → SqT K H' x us) (h2 : ∀ F' H', Stays F H F' H' [] → SqL K H' y vs) (r1 : RpL K w F H as us []) (r2 : RpL K w F H bs vs []) : ItR K w (ItzM K x y) F H (zipD as bs) where
  go := fun i F' H' hi s => by
    rw [zipD_len, r1.length, r2.length] at hi
    have a1 : i < us.length := by omega
    have a2 : i < vs.length := by omega
    exact ⟨us, vs, us[i], vs[i], h1 F' H' s, h2 F' H' s, by simp [a1], by simp [a2]⟩
  stop := fun F' H' s => by
    have e := zipD_len as bs
    rw [r1.length, r2.length] at e
    rw [e]
    exact ⟨us, vs, h1 F' H' s, h2 F' H' s, by omega, by omega, by omega⟩
  yld := fun i F' H' v H2 s hi z => by
    rw [zipD_len] at hi
    have a1 : i < as.length := by omega
    have a2 : i < bs.length := by omega
    obtain ⟨T, p, q, rfl, hT, rfl, z1, z2⟩ := z
    obtain ⟨u1, k1, k2⟩ := (r1.stay0 s).get (i := i) (d := as[i]) (by simp [a1])
    obtain ⟨u2, k3, k4⟩ := (r2.stay0 s).get (i := i) (d := bs[i]) (by simp [a2])
    have e1 := z1 us (h1 F' H' s)
    have e2 := z2 vs (h2 F' H' s)
    rw [k1] at e1
    cases e1
    rw [k3] at e2
    cases e2
    exact ⟨.inr ⟨T, _, hT, rfl⟩, _, zipD_get (by simp [a1]) (by simp [a2]), rp_pair hT k2 k4⟩
section
variable {X : Cx} {W : WX} {ms : M (List D)} {a b : Expr} {p pos : Pos}
theorem dI_zipM {elts : List Expr} {kk : Nat} {tpos : Pos} (hm : X.mg "zip" = none) (ha : PA X [a, b] (tA X W ms)) (hg : Gl X "zip" := by rfl) (hs : starEach [a, b] X.env = (false, eval a X.env) :: starEach [b] X.env := by rfl) (hpl : (backTo pos (starEach [b] X.env)).any (·.1) = false := by rfl) :
    PI X (.Tuple elts kk tpos) (.Call (.Name "zip" p) [a, b] [] pos) (tI X W (mZipM ms)) := PIimp (pi_zipM hg hm ha hs hpl) fun σ H R q => by
  obtain ⟨F, e, S, A, q⟩ := q
  obtain ⟨F1, e1, S1, A1, q1⟩ := bindA A (Step.refl A.good) q
  refine ⟨F1, e1, S1, A1, q1.mono fun x e2 k vs F' H' S' st B => ?_⟩
  obtain ⟨ds, F2, e3, S2, st2, A2, hl, q2⟩ := k vs F' H' S' st B
  obtain ⟨F3, T3, st3, r3, A3⟩ := A2.freezeL hl
  split at q2
  · rename_i as m2 bs he
    rw [he] at r3
    obtain ⟨v1, v2, rfl, g1, g2⟩ := r3.two0
    rw [Rp] at g1
    rw [Rp] at g2
    obtain ⟨x, us, rfl, s1, r1⟩ := g1
    obtain ⟨y, ws, rfl, ⟨_, _, _, e', _⟩ | ⟨_, s2, _, r2⟩⟩ := g2
    · obtain ⟨z1, z2⟩ := frzL_fz2 he
      cases e'
    · exact ⟨x, y, us, ws, rfl, s1, s2.sqL, q2 _ F3 H' T3 (st2.trans st3) A3 (itR_zipM (fun _ _ s => s.sqT s1) (fun _ _ s => (s.lstF s2).sqL) r1 r2)⟩
  · exact q2.elim
end
end Pl
set_option Elab.async false
set_option linter.all false
set_option maxRecDepth 100000
set_option maxHeartbeats 1000000
/-! Pu: companies and chains, as plain functions. -/
namespace Pu
open PySem PySem.Spec PyProof.Rows L2 Pl
def k_OUTSIDE : D := .int (-1)
def k_MOST_KINDS : D := .int 3
def m_Company_init (cs : List Str) : M Fl :=
  mSeq (mIf (mOr (mNot (mUn (dIsT cs "tuple") (mVar 1))) (mNot (mChI (fun i j => decide (i ≤ j)) (fun i j => decide (i ≤ j)) (mC (.int 1)) (mB (one dLen) (mCons (mVar 1) mNil)) (mC k_MOST_KINDS)))) (mRaise0 "InvalidCompany") (mNext)) <|
  mSeq (mIf (mNot (mB (one dAll) (mCons (mLc (mIt (mVar 1)) (.nm 2) [2] (mC (.bl true)) (mUn (dIsC cs "Kind") (mVar 2))) mNil))) (mRaise0 "InvalidCompany") (mNext)) <|
  mFldSet cs 0 "sorts" (mVar 1)
def c_Company_init (cs : List Str) : List D → RC := runF 1 2 3 (m_Company_init cs)
def m_answers_of (cs : List Str) : M Fl :=
  mSeq (mAsg (.tp [.nm 2, .nm 3, .nm 4]) (mVar 1)) <|
  mSeq (mIf (mBin (dEq false) (mVar 4) (mC k_OUTSIDE)) (mRet (mLst (mNil))) (mNext)) <|
  mRet (mLc (mIt (mBin dIdx (mCall (c_acted cs) (mCons (mBin dIdx (mUn (dFld cs "sorts") (mVar 0)) (mVar 2)) (mCons (mVar 3) (mNil)))) (mC (.int 1)))) (.tp [.nm 5, .nm 6]) [5, 6] (mBin (dEq false) (mVar 5) (mC (.str "back"))) (mTup (mCons (mVar 4) (mCons (mVar 6) (mCons (mVar 2) (mNil))))))
def c_answers_of (cs : List Str) : List D → RC := runF 0 2 7 (m_answers_of cs)
def m_followers (cs : List Str) : M Fl :=
  mSeq (mAsg (.tp [.nm 2, .nm 3, .nm 4]) (mVar 1)) <|
  mSeq (mSet 5 (mCall (c_answers_of cs) (mCons (mVar 0) (mCons (mVar 1) (mNil))))) <|
  mSeq (mFor (mIt (mBin dIdx (mCall (c_acted cs) (mCons (mBin dIdx (mUn (dFld cs "sorts") (mVar 0)) (mVar 2)) (mCons (mVar 3) (mNil)))) (mC (.int 1)))) (.tp [.nm 6, .nm 7]) (mIf (mBin (dEq false) (mVar 6) (mC (.str "all"))) (mDo (mExt 5 (mLc (mRng1 (mCons (mB (one dLen) (mCons (mUn (dFld cs "sorts") (mVar 0)) mNil)) (mNil))) (.nm 8) [8] (mC (.bl true)) (mTup (mCons (mVar 8) (mCons (mVar 7) (mCons (mVar 2) (mNil)))))))) (mNext))) <|
  mRet (mVar 5)
def c_followers (cs : List Str) : List D → RC := runF 0 2 9 (m_followers cs)
def m_is_element (cs : List Str) : M Fl :=
  mSeq (mIf (mOr (mNot (mUn (dIsT cs "tuple") (mVar 1))) (mBin (dEq true) (mB (one dLen) (mCons (mVar 1) mNil)) (mC (.int 2)))) (mRet (mC (.bl false))) (mNext)) <|
  mRet (mAnd (mCall (c_is_integer cs) (mCons (mBin dIdx (mVar 1) (mC (.int 0))) (mCons (mC (.int 0)) (mCons (mBin dSub (mB (one dLen) (mCons (mUn (dFld cs "sorts") (mVar 0)) mNil)) (mC (.int 1))) (mNil))))) (mCall (c_is_head cs) (mCons (mBin dIdx (mVar 1) (mC (.int 1))) (mNil))))
def c_is_element (cs : List Str) : List D → RC := runF 0 2 2 (m_is_element cs)
def m_states_of : M Fl :=
  mSeq (mSet 1 (mLst (mCons (mC k_OUTSIDE) (mStar (mLc (mIt (mVar 0)) (.tp [.nm 2, .nm 3]) [2, 3] (mC (.bl true)) (mVar 2)) (mNil))))) <|
  mRet (mLc (mZipM (mCons (mVar 0) (mCons (mVar 1) (mNil)))) (.tp [.tp [.nm 2, .nm 3], .nm 4]) [2, 3, 4] (mC (.bl true)) (mTup (mCons (mVar 2) (mCons (mVar 3) (mCons (mVar 4) (mNil))))))
def c_states_of : List D → RC := runF 0 1 5 m_states_of
def m_is_right_chain (cs : List Str) : M Fl :=
  mSeq (mIf (mOr (mNot (mUn (dIsT cs "tuple") (mVar 1))) (mOr (mBin (dEq false) (mVar 1) (mTup (mNil))) (mNot (mB (one dAll) (mCons (mLc (mIt (mVar 1)) (.nm 3) [3] (mC (.bl true)) (mCall (c_is_element cs) (mCons (mVar 0) (mCons (mVar 3) (mNil))))) mNil))))) (mRet (mC (.bl false))) (mNext)) <|
  mSeq (mSet 2 (mCall c_states_of (mCons (mVar 1) (mNil)))) <|
  mRet (mB (one dAll) (mCons (mLc (mZip (mCons (mVar 2) (mCons (mSlice (mVar 2) (mPart (mC (.int 1))) (mNoPart)) (mNil)))) (.tp [.nm 4, .nm 5]) [4, 5] (mC (.bl true)) (mBin (dIn false) (mVar 5) (mCall (c_followers cs) (mCons (mVar 0) (mCons (mVar 4) (mNil)))))) mNil))
def c_is_right_chain (cs : List Str) : List D → RC := runF 0 2 6 (m_is_right_chain cs)
def m_is_chain (cs : List Str) : M Fl :=
  mRet (mCall (c_is_right_chain cs) (mCons (mVar 0) (mCons (mVar 1) (mNil))))
def c_is_chain (cs : List Str) : List D → RC := runF 0 2 2 (m_is_chain cs)
def m_law_head : M Fl :=
  mRet (mTup (mCons (mCallIO c_law_marks 0 (mNil)) (mCons (mCallIO c_law_next 0 (mCons (mC (.int 4)) (mNil))) (mNil))))
def c_law_head : List D → RC := runF 1 1 1 m_law_head
def m_law_kinds : M Fl :=
  mRet (mLc (mRng1 (mCons (mBin dAdd (mC (.int 1)) (mCallIO c_law_next 0 (mCons (mVar 1) (mNil)))) (mNil))) (.nm 2) [2] (mC (.bl true)) (mCallIO c_law_kind 0 (mNil)))
def c_law_kinds : List D → RC := runF 1 2 3 m_law_kinds
def m_law_company (cs : List Str) : M Fl :=
  mRet (mMake "Company" (c_Company_init cs) (mCons (mB (one dTuple) (mCons (mLc (mIt (mVar 0)) (.tp [.nm 1, .nm 2]) [1, 2] (mC (.bl true)) (mMake "Kind" (c_Kind_init cs) (mCons (mVar 1) (mCons (mVar 2) (mNil))))) mNil)) (mNil)))
def c_law_company (cs : List Str) : List D → RC := runF 0 1 3 (m_law_company cs)
def m_law_backs : M Fl :=
  mSeq (mAsg (.tp [.nm 2, .nm 3, .nm 4]) (mVar 1)) <|
  mSeq (mIf (mBin (dLt) (mVar 4) (mC (.int 0))) (mRet (mLst (mNil))) (mNext)) <|
  mRet (mLc (mIt (mBin dIdx (mCall c_law_acts (mCons (mBin dIdx (mVar 0) (mVar 2)) (mCons (mVar 3) (mNil)))) (mC (.int 1)))) (.tp [.nm 5, .nm 6]) [5, 6] (mBin (dEq false) (mVar 5) (mC (.str "back"))) (mTup (mCons (mVar 4) (mCons (mVar 6) (mCons (mVar 2) (mNil))))))
def c_law_backs : List D → RC := runF 0 2 7 m_law_backs
def m_law_later : M Fl :=
  mSeq (mAsg (.tp [.nm 2, .nm 3, .nm 4]) (mVar 1)) <|
  mSeq (mSet 5 (mCall c_law_backs (mCons (mVar 0) (mCons (mVar 1) (mNil))))) <|
  mSeq (mFor (mIt (mBin dIdx (mCall c_law_acts (mCons (mBin dIdx (mVar 0) (mVar 2)) (mCons (mVar 3) (mNil)))) (mC (.int 1)))) (.tp [.nm 6, .nm 7]) (mIf (mBin (dEq false) (mVar 6) (mC (.str "all"))) (mSet 5 (mBin dAdd (mVar 5) (mLc (mRng1 (mCons (mB (one dLen) (mCons (mVar 0) mNil)) (mNil))) (.nm 8) [8] (mC (.bl true)) (mTup (mCons (mVar 8) (mCons (mVar 7) (mCons (mVar 2) (mNil)))))))) (mNext))) <|
  mRet (mVar 5)
def c_law_later : List D → RC := runF 0 2 9 m_law_later
end Pu
set_option Elab.async false
set_option linter.all false
set_option maxRecDepth 100000
set_option maxHeartbeats 4000000
/-! Pu: companies; what can follow. -/
namespace Pu
open PySem PySem.Spec PyProof.Rows L2 Pl
abbrev KD2 := List D × Bool
def kF (k : KD2) : D := kindF k.1 k.2
def rawD (k : KD2) : D := .tup [.tup k.1, .bl k.2]
/-- a kind of drawn rows -/
def GK (k : KD2) : Prop := k.1.length ≤ 4 ∧ ∀ r ∈ k.1, GRow r
structure CompV (cs : List Str) (C : D) (ks : List KD2) : Prop where
  z : C.frz = C
  f : C.fz = true
  s : dFld cs "sorts" C = some (.tup (ks.map kF))
  k : cs.contains ("Kind" : Str) = true
  r : ∀ k ∈ ks, GK k
  l : 1 ≤ ks.length
  u : ks.length ≤ 3
def kAt (ks : List KD2) (i : Int) : KD2 := ks.getD i.toNat ([], false)
theorem kAt_mem {ks : List KD2} {i : Int} (h0 : 0 ≤ i) (h1 : i < ks.length) : kAt ks i ∈ ks := by
  unfold kAt
  rw [List.getD_eq_getElem?_getD, List.getElem?_eq_getElem (by omega)]
  exact List.getElem_mem _
theorem atI_map {α : Type} (f : KD2 → α) {ks : List KD2} {i : Int} (h0 : 0 ≤ i) (h1 : i < ks.length) : atI (ks.map f) i = some (f (kAt ks i)) := by
  rw [atI_nn h0 (by rw [List.length_map]; exact h1), List.getElem?_map, kAt, List.getD_eq_getElem?_getD, List.getElem?_eq_getElem (by omega)]
  rfl
theorem kF_fz {k : KD2} (g : GK k) : (kF k).fz = true := by
  have f := fz_rows g.2
  simp only [kF, kindF, D.fz, D.fzF, f, Bool.not_false, Bool.and_self]
theorem raw_fz {k : KD2} (g : GK k) : (rawD k).fz = true := by
  have f := fz_rows g.2
  simp only [rawD, D.fz, D.fzL, f, Bool.and_self]
theorem kFs_fz : ∀ {ks : List KD2}, (∀ k ∈ ks, GK k) → D.fzL (ks.map kF) = true
  | [], _ => rfl
  | k :: ks, h => by rw [List.map_cons, D.fzL, kF_fz (h k List.mem_cons_self), kFs_fz fun x hx => h x (List.mem_cons_of_mem _ hx)]; rfl
theorem raws_fz : ∀ {ks : List KD2}, (∀ k ∈ ks, GK k) → D.fzL (ks.map rawD) = true
  | [], _ => rfl
  | k :: ks, h => by rw [List.map_cons, D.fzL, raw_fz (h k List.mem_cons_self), raws_fz fun x hx => h x (List.mem_cons_of_mem _ hx)]; rfl
/-! ### what is sent -/
abbrev RP := Str × D
def rP (d : D) : RP := match d with
  | .tup [.str w, h] => (w, h)
  | _ => ("", .non)
def rD (p : RP) : D := .tup [.str p.1, p.2]
def resD : D → List D
  | .tup [_, .tup l] => l
  | _ => []
def GR (p : RP) : Prop := (p.1 = "all" ∨ p.1 = "back") ∧ p.2 ∈ headsL
theorem GR.ok {p : RP} (g : GR p) : PyData.strOk p.1 = true := by
  rcases g.1 with e | e <;> rw [e] <;> kernel_rfl
theorem rD_fz {p : RP} (g : GR p) : (rD p).fz = true := by
  simp only [rD, D.fz, D.fzL, head_fz g.2, Bool.and_self]
theorem rDs_fz : ∀ {ps : List RP}, (∀ p ∈ ps, GR p) → D.fzL (ps.map rD) = true
  | [], _ => rfl
  | k :: ks, h => by rw [List.map_cons, D.fzL, rD_fz (h k List.mem_cons_self), rDs_fz fun x hx => h x (List.mem_cons_of_mem _ hx)]; rfl
/-- what a kind sends with a head -/
def resP (k : KD2) (h : D) : List RP := (resD (actV h k.2 k.1)).map rP
theorem sv_rP {s h : D} (hs : s ∈ sendsL) (hh : h ∈ headsL) (b : Bool) : rD (rP (sv h b s)) = sv h b s ∧ GR (rP (sv h b s)) := by
  obtain ⟨w, r, rfl, e, o, _, hw⟩ := wh_ok hs
  obtain ⟨_, _, _, _, hm⟩ := behind_ok hs hh b
  rw [sv, e]
  exact ⟨rfl, hw, hm⟩
theorem res_ok {k : KD2} (g : GK k) {h : D} (hh : h ∈ headsL) : ∃ u, actV h k.2 k.1 = .tup [.bl u, .tup ((resP k h).map rD)] ∧ (∀ p ∈ resP k h, GR p) ∧ (resP k h).length ≤ 2 := by
  have nil (u : Bool) (e : actV h k.2 k.1 = .tup [.bl u, .tup []]) : ∃ u, actV h k.2 k.1 = .tup [.bl u, .tup ((resP k h).map rD)] ∧ (∀ p ∈ resP k h, GR p) ∧ (resP k h).length ≤ 2 := by
    have z : resP k h = [] := by unfold resP; rw [e]; rfl
    rw [z, e]
    exact ⟨u, rfl, (fun p hp => nomatch hp), Nat.zero_le _⟩
  by_cases c : k.2 = true ∧ top3 h = true
  · exact nil false (by rw [actV, if_pos c])
  · cases q : k.1.findSome? (rowV h k.2) with
    | none => exact nil true (by rw [actV, if_neg c, q]; rfl)
    | some v =>
      obtain ⟨r, hr, e⟩ := List.exists_of_findSome?_eq_some q
      obtain ⟨ts, u, ss, rfl, l1, l2, h1, h2⟩ := g.2 r hr
      by_cases t : ts.all (hv h) = true
      · rw [rowV, if_pos t] at e
        have e' : actV h k.2 k.1 = .tup [.bl u, .tup (ss.map (sv h k.2))] := by
          rw [actV, if_neg c, q, ← e]
          rfl
        have z : resP k h = ss.map fun s => rP (sv h k.2 s) := by
          unfold resP
          rw [e', resD, List.map_map]
          rfl
        refine ⟨u, ?_, ?_, ?_⟩
        · rw [e', z, List.map_map]
          congr 4
          exact (List.map_congr_left fun s hs => (sv_rP (h2 s hs) hh k.2).1.symm)
        · intro p hp
          rw [z] at hp
          obtain ⟨s, hs, rfl⟩ := List.mem_map.mp hp
          exact (sv_rP (h2 s hs) hh k.2).2
        · rw [z, List.length_map]
          exact l2
      · rw [rowV, if_neg t] at e
        cases e
end Pu
set_option Elab.async false
set_option linter.all false
set_option maxRecDepth 100000
set_option maxHeartbeats 1000000
/-! Pl: list comprehensions of two clauses. -/
namespace Pl
open PySem PySem.Spec PyProof.Rows L2
theorem wipe_get (σ : L2.St) (j : Nat) : ∀ is : List Nat, (L2.wipe σ is)[j]? = if j ∈ is then (σ[j]?).map (fun _ => none) else σ[j]?
  | [] => by rw [if_neg (by simp)]; rfl
  | i :: is => by
    show ((L2.wipe σ is).set i none)[j]? = _
    have ih := wipe_get σ j is
    by_cases e : i = j
    · subst e
      rw [if_pos List.mem_cons_self, List.getElem?_set_self']
      rw [ih]
      by_cases m : i ∈ is
      · rw [if_pos m]
        cases σ[i]? <;> rfl
      · rw [if_neg m]
        cases σ[i]? <;> rfl
    · rw [List.getElem?_set_ne e, ih]
      have : (j ∈ i :: is) ↔ j ∈ is := ⟨fun h => (List.mem_cons.mp h).elim (fun q => absurd q.symm e) id, List.mem_cons_of_mem _⟩
      by_cases m : j ∈ is
      · rw [if_pos m, if_pos (this.mpr m)]
      · rw [if_neg m, if_neg fun q => m (this.mp q)]
theorem wipe_sub (σ : L2.St) {vs own : List Nat} (h : ∀ j ∈ vs, j ∈ own) : L2.wipe (L2.wipe σ vs) own = L2.wipe σ own := by
  apply List.ext_getElem?
  intro j
  rw [wipe_get, wipe_get σ j own, wipe_get σ j vs]
  by_cases m : j ∈ own
  · rw [if_pos m, if_pos m]
    by_cases m2 : j ∈ vs
    · rw [if_pos m2]
      cases σ[j]? <;> rfl
    · rw [if_neg m2]
  · rw [if_neg m, if_neg m, if_neg fun q => m (h j q)]
theorem wipe_idem (σ : L2.St) (own : List Nat) : L2.wipe (L2.wipe σ own) own = L2.wipe σ own := wipe_sub σ fun _ h => h
def lcL2 (t : Tgt) (own : List Nat) (c : M D) (it1 : M (List D)) (t1 : Tgt) (vs1 : List Nat) (c1 y : M D) : List D → List D → Env → R (List D)
  | [], acc, e => .ok acc e
  | d :: ds, acc, e => match asg t d e with
    | some e1 => (noE (c e1)).bind (onB fun b e2 => if b = true then (noE (it1 e2)).bind fun ds1 e3 => (lcL t1 vs1 c1 y ds1 acc (wipeE e3 vs1)).bind fun acc1 e4 => lcL2 t own c it1 t1 vs1 c1 y ds acc1 (wipeE e4 own)
      else lcL2 t own c it1 t1 vs1 c1 y ds acc (wipeE e2 own))
    | none => .fail
def mLc2 (it : M (List D)) (t : Tgt) (own : List Nat) (c : M D) (it1 : M (List D)) (t1 : Tgt) (vs1 : List Nat) (c1 y : M D) : M D := fun e => (it e).bind fun ds e1 => (lcL2 t own c it1 t1 vs1 c1 y ds [] (wipeE e1 own)).bind fun ys e2 => .ok (.lst true ys) (backE e1 own e2)
section
variable {X : Cx} {W : WX} {F F1 : Fset} {H H1 : Hp} {S S1 : List Addr} {σ : L2.St} {e : Env} {ds : List D} {vs : List V} {t t1 : Tgt} {own vs1 : List Nat} {c c1 y : M D} {it1 : M (List D)}
/-- a turn that goes -/
theorem lcL2_turn {d : D} {ds acc ys : List D} {e eE : Env} (h : lcL2 t own c it1 t1 vs1 c1 y (d :: ds) acc e = .ok ys eE) : ∃ e1 b e2, asg t d e = some e1 ∧ c e1 = .ok (.bl b) e2 ∧
    ((b = true ∧ ∃ ds1 e3 acc1 e4, it1 e2 = .ok ds1 e3 ∧ lcL t1 vs1 c1 y ds1 acc (wipeE e3 vs1) = .ok acc1 e4 ∧ lcL2 t own c it1 t1 vs1 c1 y ds acc1 (wipeE e4 own) = .ok ys eE) ∨ (b = false ∧ lcL2 t own c it1 t1 vs1 c1 y ds acc (wipeE e2 own) = .ok ys eE)) := by
  rw [lcL2] at h
  split at h
  · rename_i e1 ha
    cases r : c e1 with
    | ok z e2 =>
      rw [r] at h
      simp only [noE, R.bind_ok] at h
      cases z with
      | bl b =>
        simp only [onB] at h
        refine ⟨e1, b, e2, ha, r, ?_⟩
        split at h
        · rename_i hb
          refine .inl ⟨hb, ?_⟩
          cases r2 : it1 e2 with
          | ok ds1 e3 =>
            rw [r2] at h
            simp only [R.bind_ok] at h
            cases r3 : lcL t1 vs1 c1 y ds1 acc (wipeE e3 vs1) with
            | ok acc1 e4 =>
              rw [r3] at h
              exact ⟨ds1, e3, acc1, e4, rfl, r3, h⟩
            | exc x e => rw [r3] at h; cases h
            | fail => rw [r3] at h; cases h
          | exc x e => rw [r2] at h; cases h
          | fail => rw [r2] at h; cases h
        · rename_i hb
          exact .inr ⟨by simpa using hb, h⟩
      | _ => cases h
    | exc x e => rw [r] at h; cases h
    | fail => rw [r] at h; cases h
  · cases h
theorem lcL2_ok : ∀ {ds acc : List D} {e : Env} {x : Exn} {e' : Env}, lcL2 t own c it1 t1 vs1 c1 y ds acc e ≠ .exc x e'
  | [], acc, e, x, e', h => by cases h
  | d :: ds, acc, e, x, e', h => by
    rw [lcL2] at h
    split at h
    · rename_i e1 _
      cases r : c e1 with
      | ok z e2 =>
        rw [r] at h
        simp only [noE, R.bind_ok] at h
        cases z with
        | bl b =>
          simp only [onB] at h
          split at h
          · cases r2 : it1 e2 with
            | ok ds1 e3 =>
              rw [r2] at h
              simp only [R.bind_ok] at h
              cases r3 : lcL t1 vs1 c1 y ds1 acc (wipeE e3 vs1) with
              | ok acc1 e4 => rw [r3] at h; exact lcL2_ok h
              | exc x e => exact lcL_ok r3
              | fail => rw [r3] at h; cases h
            | exc x e => rw [r2] at h; cases h
            | fail => rw [r2] at h; cases h
          · exact lcL2_ok h
        | _ => cases h
      | exc x e => rw [r] at h; cases h
      | fail => rw [r] at h; cases h
    · cases h
theorem tI_here {m : M (List D)} {ds1 : List D} {e2 : Env} (A : At X.K X.w F1 H1 e σ ds vs S1) (h : m e = .ok ds1 e2) : tI X noX m σ H1 fun J H2 => ∃ F2 S2, Step F1 H1 S1 F2 H2 S2 ∧ At X.K X.w F2 H2 e2 σ ds vs S2 ∧ ItR X.K X.w J F2 H2 ds1 := by
  obtain ⟨Sd, Se, rfl, hd, he, g⟩ := A
  refine ⟨F1, e, Se, ⟨[], Se, rfl, RpL.nil, he, g.right⟩, ?_⟩
  rw [h]
  intro J F' H' S' s a i
  obtain ⟨_, Se', rfl, q0, q3, _⟩ := a
  obtain rfl := q0.2
  rw [List.nil_append] at s
  have fr := s.frame g
  exact ⟨F', Sd ++ Se', fr, ⟨Sd, Se', rfl, RpL.stay ds (s.stays g) hd, q3, fr.good⟩, i⟩
/-- the comprehension's reading -/
theorem tE_lc2 {it it1 : M (List D)} {t t1 : Tgt} {own vs1 : List Nat} {c c1 y : M D} (hsl : ∀ j ∈ t.sl, j ∈ own) (hsl1 : ∀ j ∈ t1.sl, j ∈ vs1) (hv : ∀ j ∈ vs1, j ∈ own) : ∀ σ H Q, tE X W (mLc2 it t own c it1 t1 vs1 c1 y) σ H Q → tLc2 (tI X W it) (tG X none t) (tT X noX c) (tI X noX it1) (tG X none t1) (tT X noX c1) (tE X noX y) own vs1 σ H Q := fun σ H Q q => by
  obtain ⟨F, e, S, A, q⟩ := q
  obtain ⟨F1, e1, S1, A1, q1⟩ := bindI A (Step.refl A.good) q
  refine ⟨F1, e1, S1, A1, q1.mono fun ds e2 k J F' H' S' st B ir => ?_⟩
  obtain ⟨ds, F2, e3, S2, st2, A2, ir, q2⟩ := k J F' H' S' st B ir
  intro p hp
  cases rr : lcL2 t own c it1 t1 vs1 c1 y ds [] (wipeE e3 own) with
  | exc x e => exact absurd rr lcL2_ok
  | fail => rw [rr] at q2; exact q2.elim
  | ok ys eE =>
    rw [rr] at q2
    obtain ⟨_, Se, rfl, z, he, g⟩ := A2
    obtain rfl := z.2
    rw [List.nil_append] at g st2
    obtain ⟨Sa, Sb, pm, q3, back⟩ := he.aside own
    have g2 := g.perm pm
    have gp : Step F2 H' Sb F2 (upd H' p (.lst [])) (p :: Sb) := Step.newO g2.right hp trivial
    have A0 : At X.K X.w F2 (upd H' p (.lst [])) (wipeE e3 own) (L2.wipe σ own) [.lst true []] [.ref p] (p :: Sb) := by
      refine ⟨[p], Sb, rfl, ?_, q3.stay (Stays.new hp), gp.good⟩
      have r : Rp X.K X.w F2 (upd H' p (.lst [])) (.lst true []) (.ref p) [p] := by
        rw [Rp]; exact ⟨p, [], rfl, .inl ⟨rfl, upd_same, [], rfl, RpL.nil⟩⟩
      have z := RpL.cons r RpL.nil
      rw [List.append_nil] at z
      exact z
    refine ⟨fun i m H3 => m = ds.length - i ∧ i ≤ ds.length ∧ ∃ F3 e4 S3 acc, Step F2 H' Sb F3 H3 S3 ∧ At X.K X.w F3 H3 e4 (L2.wipe σ own) [.lst true acc] [.ref p] S3 ∧ NoneAt e4 own ∧ lcL2 t own c it1 t1 vs1 c1 y (ds.drop i) acc e4 = .ok ys eE,
      ⟨ds.length, (Nat.sub_zero _).symm, Nat.zero_le _, F2, _, _, [], gp, A0, noneAt_wipe _ _, rr⟩, ?_⟩
    rintro i m H3 ⟨rfl, hi, F3, e4, S3, acc, s, A3, ne, r3⟩
    by_cases hlt : i < ds.length
    · refine .inr ⟨ir.go i F3 H3 hlt (s.stays0 g2.right), fun H3 => ∃ F3 e4 S3 acc, Step F2 H' Sb F3 H3 S3 ∧ At X.K X.w F3 H3 e4 (L2.wipe σ own) [.lst true acc] [.ref p] S3 ∧ NoneAt e4 own ∧ lcL2 t own c it1 t1 vs1 c1 y (ds.drop (i + 1)) acc e4 = .ok ys eE,
        fun H5 p5 => ⟨ds.length - (i + 1), by omega, rfl, hlt, p5⟩, fun x H4 yy => ?_⟩
      obtain ⟨nw, d, hd, r⟩ := ir.yld i F3 H3 x H4 (s.stays0 g2.right) hlt yy
      obtain ⟨A4, s4⟩ := A3.newH nw
      have dr : ds.drop i = d :: ds.drop (i + 1) := by
        obtain ⟨h1, h2⟩ := List.getElem?_eq_some_iff.mp hd
        rw [List.drop_eq_getElem_cons h1, h2]
      rw [dr] at r3
      obtain ⟨e5, b, e6, ha, hc, hy⟩ := lcL2_turn r3
      refine ⟨d, F3, e4, S3, [.lst true acc], [.ref p], A4.push0 r, PnOk.none, ?_⟩
      rw [ha]
      refine fun σ5 S5 A5 s5 _ ko => ⟨(ko own hsl).trans (wipe_idem σ own), ?_⟩
      have kw : L2.wipe σ5 own = L2.wipe σ own := (ko own hsl).trans (wipe_idem σ own)
      refine tT_mono (tT_here A5 hc) fun b' H6 ⟨hb, F6, S6, s6, A6⟩ => ?_
      subst hb
      rcases hy with ⟨rfl, ds1, e7, acc1, e8, hz, hin, hr⟩ | ⟨rfl, hr⟩
      · rw [if_pos rfl]
        refine tI_mono (tI_here A6 hz) fun J1 H7 ⟨F7, S7, s7, A7, ir1⟩ => ?_
        obtain ⟨S8, A8, s8⟩ := A7.wipe vs1
        refine ⟨fun j m H9 => m = ds1.length - j ∧ j ≤ ds1.length ∧ ∃ F9 e9 S9 acc9, Step F7 H7 S8 F9 H9 S9 ∧ At X.K X.w F9 H9 e9 (L2.wipe σ5 vs1) [.lst true acc9] [.ref p] S9 ∧ lcL t1 vs1 c1 y (ds1.drop j) acc9 e9 = .ok acc1 e8,
          ⟨ds1.length, (Nat.sub_zero _).symm, Nat.zero_le _, F7, _, S8, acc, Step.refl A8.good, A8, hin⟩, ?_⟩
        rintro j m H9 ⟨rfl, hj, F9, e9, S9, acc9, s9, A9, r9⟩
        have sg : Stays F7 H7 F9 H9 [] := s9.stays0 A8.good
        by_cases hlt1 : j < ds1.length
        · refine .inr ⟨ir1.go j F9 H9 hlt1 sg, fun H9 => ∃ F9 e9 S9 acc9, Step F7 H7 S8 F9 H9 S9 ∧ At X.K X.w F9 H9 e9 (L2.wipe σ5 vs1) [.lst true acc9] [.ref p] S9 ∧ lcL t1 vs1 c1 y (ds1.drop (j + 1)) acc9 e9 = .ok acc1 e8,
            fun H5 p5 => ⟨ds1.length - (j + 1), by omega, rfl, hlt1, p5⟩, fun x1 H10 yy1 => ?_⟩
          obtain ⟨nw1, d1, hd1, r1⟩ := ir1.yld j F9 H9 x1 H10 sg hlt1 yy1
          obtain ⟨A10, s10⟩ := A9.newH nw1
          have dr1 : ds1.drop j = d1 :: ds1.drop (j + 1) := by
            obtain ⟨h1, h2⟩ := List.getElem?_eq_some_iff.mp hd1
            rw [List.drop_eq_getElem_cons h1, h2]
          rw [dr1] at r9
          obtain ⟨e11, b1, e12, ha1, hc1, hy1⟩ := lcL_turn r9
          refine ⟨d1, F9, e9, S9, [.lst true acc9], [.ref p], A10.push0 r1, PnOk.none, ?_⟩
          rw [ha1]
          refine fun σ11 S11 A11 s11 _ ko1 => ⟨(ko1 vs1 hsl1).trans (wipe_idem σ5 vs1), ?_⟩
          have kw1 : L2.wipe σ11 vs1 = L2.wipe σ5 vs1 := (ko1 vs1 hsl1).trans (wipe_idem σ5 vs1)
          refine tT_mono (tT_here A11 hc1) fun b1' H12 ⟨hb1, F12, S12, s12, A12⟩ => ?_
          subst hb1
          rcases hy1 with ⟨rfl, z, e13, hz1, hl1, hr1⟩ | ⟨rfl, hr1⟩
          · rw [if_pos rfl]
            refine tE_mono (tE_here A12 hz1) fun v H13 ⟨F13, S13, s13, A13⟩ => ?_
            obtain ⟨avs, S14, h14, l14, A14, s14⟩ := A13.app
            obtain ⟨S15, A15, s15⟩ := A14.wipe vs1
            rw [kw1] at A15
            exact ⟨avs, h14, by rw [l14]; exact hl1, F13, _, S15, _, (((((s9.trans s10).trans s11).trans s12).trans s13).trans s14).trans s15, A15, hr1⟩
          · rw [if_neg Bool.false_ne_true]
            obtain ⟨S15, A15, s15⟩ := A12.wipe vs1
            rw [kw1] at A15
            exact ⟨F12, _, S15, _, (((s9.trans s10).trans s11).trans s12).trans s15, A15, hr1⟩
        · have ej : j = ds1.length := by omega
          subst ej
          refine .inl ⟨ir1.stop F9 H9 sg, ?_⟩
          rw [List.drop_length] at r9
          cases r9
          obtain ⟨S16, A16, s16⟩ := A9.wipe own
          rw [wipe_sub σ5 hv, kw] at A16
          exact ⟨F9, _, S16, _, ((((((s.trans s4).trans s5).trans s6).trans s7).trans s8).trans s9).trans s16, A16, noneAt_wipe _ _, hr⟩
      · rw [if_neg Bool.false_ne_true]
        obtain ⟨S9, A9, s9⟩ := A6.wipe own
        rw [kw] at A9
        exact ⟨F6, _, S9, _, (((s.trans s4).trans s5).trans s6).trans s9, A9, noneAt_wipe _ _, hr⟩
    · have ei : i = ds.length := by omega
      subst ei
      refine .inl ⟨ir.stop F3 H3 (s.stays0 g2.right), ?_⟩
      rw [List.drop_length] at r3
      cases r3
      obtain ⟨Sl, Sc, rfl, hl, q4, g4⟩ := A3
      have fr := s.frame g2
      have stA : Stays F2 H' F3 H3 Sa := s.stays g2
      obtain ⟨S5, p5, q5⟩ := back stA q4 ne
      have pm2 : (Sa ++ (Sl ++ Sc)).Perm (Sl ++ S5) := by
        have h1 : (Sa ++ (Sl ++ Sc)).Perm (Sl ++ (Sa ++ Sc)) := by
          rw [← List.append_assoc, ← List.append_assoc]
          exact List.perm_append_comm.append_right _
        exact h1.trans ((List.Perm.refl Sl).append p5.symm)
      have tot := ((st2.permR pm).trans fr).permR pm2
      exact q2 (.ref p) F3 H3 _ tot ⟨Sl, S5, rfl, hl, q5, tot.good⟩
end
section
variable {X : Cx} {W : WX} {pn : Option V} {elt tg iter tg1 iter1 : Expr} {ifs ifs1 : List Expr} {scope : Scope} {own : List (Str × Nat)} {vs1 : List Nat} {pos spos py : Pos} {it it1 : M (List D)} {t t1 : Tgt} {c c1 y : M D}
/-- [y for t in it if c for t1 in it1 if c1] -/
theorem dE_lc2 (hN : X.N.Nodup) (hi : PI X tg iter (tI X W it)) (ok : BlkOk X.N X.env.scope scope own) (hv : ∀ j ∈ vs1, j ∈ own.map (·.2)) (hsl : ∀ j ∈ t.sl, j ∈ own.map (·.2)) (hsl1 : ∀ j ∈ t1.sl, j ∈ vs1)
    (hg : ∀ (s : Shared) (H : Hp) (C : Addr) (cl : List (Str × Addr)) (fp : List Addr), PG (X.blk s H scope (compEnvC scope cl C X.env) fp) tg (tG (X.blk s H scope (compEnvC scope cl C X.env) fp) none t))
    (ht : ∀ (s : Shared) (H : Hp) (C : Addr) (cl : List (Str × Addr)) (fp : List Addr), PTs (X.blk s H scope (compEnvC scope cl C X.env) fp) ifs (tT (X.blk s H scope (compEnvC scope cl C X.env) fp) noX c))
    (hi1 : ∀ (s : Shared) (H : Hp) (C : Addr) (cl : List (Str × Addr)) (fp : List Addr), PI (X.blk s H scope (compEnvC scope cl C X.env) fp) tg1 iter1 (tI (X.blk s H scope (compEnvC scope cl C X.env) fp) noX it1))
    (hg1 : ∀ (s : Shared) (H : Hp) (C : Addr) (cl : List (Str × Addr)) (fp : List Addr), PG (X.blk s H scope (compEnvC scope cl C X.env) fp) tg1 (tG (X.blk s H scope (compEnvC scope cl C X.env) fp) none t1))
    (ht1 : ∀ (s : Shared) (H : Hp) (C : Addr) (cl : List (Str × Addr)) (fp : List Addr), PTs (X.blk s H scope (compEnvC scope cl C X.env) fp) ifs1 (tT (X.blk s H scope (compEnvC scope cl C X.env) fp) noX c1))
    (he : ∀ (s : Shared) (H : Hp) (C : Addr) (cl : List (Str × Addr)) (fp : List Addr), PE (X.blk s H scope (compEnvC scope cl C X.env) fp) elt (tE (X.blk s H scope (compEnvC scope cl C X.env) fp) noX y))
    (hc : X.calm = true := by rfl) (hs : ∀ x, foldedSetIterable iter X.env x = pure x := by intro _; rfl) (hs1 : ∀ env x, foldedSetIterable iter1 env x = pure x := by intro _ _; rfl) : PE X (.ListComp elt [⟨tg, iter, ifs, 0⟩, ⟨tg1, iter1, ifs1, 0⟩] scope pos) (tE X W (mLc2 it t (own.map (·.2)) c it1 t1 vs1 c1 y)) :=
  PEimp (pe_lc2 (wi := tI X W it) (g := tG X none t) (tt := tT X noX c) (wi1 := tI X noX it1) (g1 := tG X none t1) (tt1 := tT X noX c1) (te := tE X noX y) hc hN hi ok hv hg ht hi1 hg1 ht1 he hs hs1) (tE_lc2 hsl hsl1 hv)
end
end Pl
set_option Elab.async false
set_option linter.all false
set_option maxRecDepth 100000
set_option maxHeartbeats 1000000
/-! Pl: sorted, of plain values. -/
namespace Pl
open PySem PySem.Spec PyProof.Rows L2 PySem.W
section
variable {prog : Program} {w : World} {A : Around} {E : Value → Shared → Prop} {s : Shared}
theorem collect_tup {l : Addr} {vs : List Value} {Q : List Value → Shared → Prop} (hl : s.heap.IsTuple l vs.toArray) (hsz : vs.length ≤ sizeLine)
    (h : Q vs { s with heap := (s.heap.push (seqObj "list" #[] 0)).update s.heap.objs.size (Obj.mapSeq (· ++ vs.toArray)) }) : wpAny (model prog w) A (collect (.ref l)) Q E s := by
  obtain ⟨o1, g1, g2, n1, g3⟩ := id hl; unfold collect
  refine wpAny_bind (wpAny_runValue (codeAny_builtin entry_proto_collect' ?A1)); case A1 =>
  show wpAny _ _ (do again (.builtin "list.__iadd__" ⟨[← newList [], .ref l], []⟩)) _ _ s; refine wpAny_bind (wpAny_newList (wpAny_pure ⟨Code.quiet_builtin _ (by decide +kernel), codeAny_builtin entry_list_iadd' ?A2⟩)); case A2 =>
  show wpAny _ _ (Builtin.List.listExtendWith (.ref s.heap.objs.size) (.ref l) (.ref s.heap.objs.size)) _ _ { s with heap := s.heap.push (seqObj "list" #[] 0) }; unfold Builtin.List.listExtendWith
  have k1 : (s.heap.push (seqObj "list" #[] 0)).get? l = some o1 := Heap.get?_push_of_some _ g1
  have k2 : (s.heap.push (seqObj "list" #[] 0)).get? s.heap.objs.size = some (seqObj "list" #[] 0) := Heap.get?_push_size _ rfl
  have tt : (Value.type "tuple" == Value.type "tuple") = true := by rfl
  refine wpAny_bind (wpAny_typeOf (T := "tuple") ⟨o1, k1, g2⟩ ?A3); case A3 =>
  rw [if_pos (by rw [tt]; simp)]
  refine wpAny_bind (listItems_at k1 g3 (wpAny_bind (listItems_at (xs := #[]) (n := 0) k2 rfl ?A4))); case A4 =>
  rw [if_neg (by simp)]
  have sz : (#[] ++ vs.toArray).size ≤ sizeLine + 1 := by simp only [Array.size_append, List.size_toArray, List.length_nil]; omega
  refine wpAny_bind (listUpdate_at (xs := #[]) (n := 0) k2 rfl ?A5 (Nat.zero_le _) sz); case A5 =>
  refine wpAny_pure ?A6; case A6 =>
  show wpAny (model prog w) A (do let o ← load s.heap.objs.size; match o.data with | .seq xs _ => pure xs.toList | _ => unsupported "internal:collect") Q E { s with heap := (s.heap.push (seqObj "list" #[] 0)).update s.heap.objs.size (Obj.mapSeq (· ++ vs.toArray)) }
  refine wpAny_bind (wpAny_load (get?_update_seq k2 _) ?A7); case A7 =>
  show wpAny _ _ (pure ((#[] : Array Value) ++ vs.toArray).toList) Q E _
  rw [show ((#[] : Array Value) ++ vs.toArray).toList = vs by simp]; exact wpAny_pure h
theorem sorted_tup {β : Type} {R' : Value → β → Prop} {enc : β → PyData} {vs : List Value} {bs : List β} {l : Addr} {Q : Value → Shared → Prop} (hl : s.heap.IsTuple l vs.toArray) (e : EachIs R' vs bs) (er : EachIs (fun v b => ∃ as, Reads s.heap v (enc b) as) vs bs) (hal : AllAlike (bs.map enc)) (hk : Sortable (bs.map enc)) (hL : bs.length ≤ sizeLine)
    (hu : ∀ b, b ∈ bs → A.units + 2 + (enc b).depth < cLine) (h : ∀ out, out.length = bs.length → EachIs R' out (bs.mergeSort (dataLe false enc)) → Q (.ref (s.heap.objs.size + 1)) { s with heap := sortedAll s.heap vs (List.toArray out) }) : wpAny (model prog w) A (call (.builtin "sorted") [.ref l]) Q E s := by
  have lv : vs.length ≤ sizeLine := by rw [e.length]; exact hL
  have er2 : EachIs (fun v b => ∃ as, Reads (sortingHeap (copyHeap s.heap vs) (s.heap.objs.size + 1) vs) v (enc b) as) vs bs := er.mono fun _ _ ⟨as, r⟩ => ⟨as, PyProof.Rows.Reads.keeps (fun _ _ => sorting_copy_old) r⟩
  have S := SortsAt.data (prog := prog) (w := w) (A := A.in1.in1) (s := { s with heap := sortingHeap (copyHeap s.heap vs) (s.heap.objs.size + 1) vs }) (each_map (R := fun v d => ∃ as, Reads (sortingHeap (copyHeap s.heap vs) (s.heap.objs.size + 1) vs) v d as) enc er2) hal hk (bound_map hu)
  have q := h _ (by rw [sortVals_length false rfl]; exact e.length) (sortVals_data false e er2 hal)
  refine call_function_entry_kw kind_sorted plain_sorted entry_sorted (args_sorted1 _) ?B1; case B1 =>
  unfold Builtin.«sorted»
  refine wpAny_bind (m := checkCount "sorted" 1 1 _) (wpAny_pure (wpAny_bind (collect_tup hl lv (wpAny_bind (wpAny_newList ?B2 lv))))); case B2 =>
  have hz : ((s.heap.push (seqObj "list" #[] 0)).update s.heap.objs.size (Obj.mapSeq (· ++ vs.toArray))).objs.size = s.heap.objs.size + 1 := by rw [Heap.size_update, size_push']
  show wpAny _ _ _ _ _ { s with heap := copyHeap s.heap vs }; rw [hz]
  refine wpAny_bind (wpAny_holding (wpAny_call_entry_kw slot_list_sort ⟨_, copyHeap_at s.heap vs, rfl⟩ entry_list_sort ?B3 (args_list_sort _))); case B3 =>
  show wpAny (model prog w) A.in1.in1 (Builtin.«list.sort» ⟨[.ref (s.heap.objs.size + 1)], []⟩) _ _ _
  refine list_sort_vals (s := { s with heap := copyHeap s.heap vs }) (copyHeap_at s.heap vs) S lv ⟨_, rfl, wpAny_pure ⟨_, rfl, q⟩⟩
end
/-! ### as a rule over values -/
/-- sorted(xs), xs a list or a tuple of values that read as alike data -/
def rSortG (K : PySem.W.Frag) : List V → Hp → VK → Prop := fun vs H Q => ∃ (a : Addr) (bs : List (V × PyData)), vs = [V.ref a] ∧ (SqL K H a (bs.map (·.1)) ∨ SqT K H a (bs.map (·.1))) ∧ (∀ b ∈ bs, Dp K H b.1 b.2) ∧ AllAlike (bs.map (·.2)) ∧ Sortable (bs.map (·.2)) ∧ (∀ b ∈ bs, b.2.depth ≤ 60) ∧ bs.length ≤ 1000000 ∧
  ∀ p, H p = none → Q (.ref p) (upd H p (.lst ((bs.mergeSort (dataLe false fun b => b.2)).map (·.1))))
theorem vals_each : ∀ {bs : List (V × PyData)} {us : List Value}, Vals (bs.map (·.1)) us → EachIs (fun u b => RelV b.1 u) us bs
  | [], _, h => by cases h; exact .nil
  | b :: bs, _, h => by
    cases h with
    | cons r rr => exact .cons r (vals_each rr)
theorem each_vals : ∀ {us : List Value} {bs : List (V × PyData)}, EachIs (fun u b => RelV b.1 u) us bs → Vals (bs.map (·.1)) us
  | _, _, .nil => .nil
  | _, _, .cons r rr => .cons r (each_vals rr)
theorem each_reads {X : Cx} {pins : List (Addr × Obj)} {σ : L2.St} {H : Hp} {s : Shared} (I : Inv X pins σ H s) : ∀ {us : List Value} {bs : List (V × PyData)}, EachIs (fun u b => RelV b.1 u) us bs → (∀ b ∈ bs, Dp X.K H b.1 b.2) → EachIs (fun v b => ∃ as, Reads s.heap v b.2 as) us bs
  | _, _, .nil, _ => .nil
  | _, _, .cons r rr, h => .cons (Dp.reads I _ _ _ (h _ List.mem_cons_self) r) (each_reads I rr fun b hb => h b (List.mem_cons_of_mem _ hb))
theorem cr_sortG {X : Cx} (hu : X.A.units + 65 < cLine) : CallR X (.builtin "sorted") (rSortG X.K) := by
  intro pins s σ H vs us Q I r h
  obtain ⟨a, bs, rfl, hs, hd, hal, hso, hdp, hln, q⟩ := h
  obtain ⟨u, rfl, ru⟩ := vals1 r
  obtain rfl : u = Value.ref a := ru
  have hL : bs.length ≤ sizeLine := by rw [show sizeLine = 16777216 by decide]; omega
  have hu2 : ∀ b, b ∈ bs → X.A.units + 2 + (b.2).depth < cLine := fun b hb => by have := hdp b hb; omega
  have fin : ∀ {its : List Value}, Vals (bs.map (·.1)) its → ∀ out : List Value, out.length = bs.length → EachIs (fun u b => RelV b.1 u) out (bs.mergeSort (dataLe false fun b => b.2)) →
      ∃ v H', Inv X pins σ H' { s with heap := sortedAll s.heap its (List.toArray out) } ∧ RelV v (.ref (s.heap.objs.size + 1)) ∧ Q v H' := fun {its} rv out hlo eo => by
    obtain ⟨c, hc⟩ := sortedAll_at s.heap its (List.toArray out)
    have fr : s.heap.objs.size ≤ s.heap.objs.size + 1 := Nat.le_succ _
    refine ⟨.ref (s.heap.objs.size + 1), upd H (s.heap.objs.size + 1) (.lst ((bs.mergeSort (dataLe false fun b => b.2)).map (·.1))), I.laid (t' := s.toks) (fun _ _ => sortedAll_old) fr ⟨?_, out, c, each_vals eo, ?_⟩, rfl, q _ (I.hok.fresh fr)⟩
    · show ((bs.mergeSort _).map _).length ≤ sizeLine
      rw [List.length_map, List.length_mergeSort]
      exact hL
    · exact hc
  rcases hs with hs | hs
  · obtain ⟨its, rv, hl, hz⟩ := I.list hs
    have ei := vals_each rv
    exact sorted_data (enc := fun b : V × PyData => b.2) hl.isList ei (each_reads I ei hd) hal hso hL hu2 fun out h1 h2 => fin rv out h1 h2
  · obtain ⟨its, rv, hl, hz⟩ := I.tuple hs
    have ei := vals_each rv
    exact sorted_tup (enc := fun b : V × PyData => b.2) hl ei (each_reads I ei hd) hal hso hL hu2 fun out h1 h2 => fin rv out h1 h2
/-! ### of trees -/
def encD (d : D) : PyData := d.py.getD .none
def tupI : PyData → Bool
  | .tuple (_ :: _) => true
  | _ => false
def plainI : PyData → Bool
  | .none => false
  | .tuple _ => false
  | _ => true
def sortOk (ds : List D) : Bool := D.fzL ds && (ds.all (fun d => d.py.isSome) && ((ds.all fun a => ds.all fun b => PySem.W.alike (encD a) (encD b)) && ((ds.all (fun d => tupI (encD d)) || ds.all (fun d => plainI (encD d))) && (ds.all (fun d => decide ((encD d).depth ≤ 60)) && decide (ds.length ≤ 1000000)))))
def sortD (ds : List D) : List D := ds.mergeSort (dataLe false encD)
def dSorted : D → Option D
  | .tup ds => if sortOk ds = true then some (.lst true (sortD ds)) else none
  | .lst _ ds => if sortOk ds = true then some (.lst true (sortD ds)) else none
  | _ => none
section
variable {X : Cx} {W : WX} {K : PySem.W.Frag} {w : World} {F : Fset} {H : Hp}
theorem rpL_zip : ∀ {ds : List D} {vs : List V}, RpL K w F H ds vs [] → ∀ z ∈ vs.zip ds, Rp K w F H z.2 z.1 []
  | [], _, _, z, hz => by simp at hz
  | d :: ds, vs, h, z, hz => by
    obtain ⟨v, r, S1, S2, rfl, e, h1, h2⟩ := h.uncons
    obtain ⟨rfl, rfl⟩ := List.append_eq_nil_iff.mp e.symm
    rw [List.zip_cons_cons] at hz
    rcases List.mem_cons.mp hz with rfl | hz
    · exact h1
    · exact rpL_zip h2 z hz
theorem rpL_of : ∀ {zs : List (V × D)}, (∀ z ∈ zs, Rp K w F H z.2 z.1 []) → RpL K w F H (zs.map (·.2)) (zs.map (·.1)) []
  | [], _ => RpL.nil
  | z :: zs, h => RpL.cons (S1 := []) (h z List.mem_cons_self) (rpL_of fun y hy => h y (List.mem_cons_of_mem _ hy))
theorem op1_sorted : Op1 K w (fun x H Q => rSortG K [x] H Q) dSorted := fun F H S1 d1 d x Q g h1 e k => by
  have fin {ds : List D} {vs : List V} {a : Addr} (hx : x = .ref a) (hs : SqL K H a vs ∨ SqT K H a vs) (r0 : ∃ S, RpL K w F H ds vs S) (e : (if sortOk ds = true then some (D.lst true (sortD ds)) else none) = some d) : rSortG K [x] H Q := by
    split at e
    · rename_i so
      cases e
      unfold sortOk at so
      simp only [Bool.and_eq_true] at so
      obtain ⟨z0, z1, z2, z3, z4, z5⟩ := so
      obtain ⟨S, r1⟩ := r0
      have r := r1.fzs z0
      have ln := r.length
      have rz := rpL_zip r
      let f : V × D → V × PyData := fun z => (z.1, encD z.2)
      have m2 : ∀ z ∈ vs.zip ds, z.2 ∈ ds := fun z hz => (List.of_mem_zip hz).2
      have e1 : ((vs.zip ds).map f).map (·.1) = vs := by
        rw [List.map_map, show ((fun b : V × PyData => b.1) ∘ f) = Prod.fst from rfl, List.map_fst_zip (by omega)]
      have e2 : ((vs.zip ds).map f).map (·.2) = ds.map encD := by
        rw [List.map_map, show ((fun b : V × PyData => b.2) ∘ f) = encD ∘ Prod.snd from rfl, ← List.map_map, List.map_snd_zip (by omega)]
      refine ⟨a, (vs.zip ds).map f, by rw [hx], by rw [e1]; exact hs, fun b hb => ?_, ?_, ?_, fun b hb => ?_, ?_, ?_⟩
      · obtain ⟨z, hz, rfl⟩ := List.mem_map.mp hb
        have q := List.all_eq_true.mp z1 z.2 (m2 z hz)
        cases hp : z.2.py with
        | none => rw [hp] at q; cases q
        | some p =>
          have dp := Rp.dp _ hp (rz z hz)
          show Dp K H z.1 (encD z.2)
          unfold encD
          rw [hp]
          exact dp
      · rw [e2]
        intro d hd d' hd'
        obtain ⟨a, ha, rfl⟩ := List.mem_map.mp hd
        obtain ⟨b, hb, rfl⟩ := List.mem_map.mp hd'
        exact List.all_eq_true.mp (List.all_eq_true.mp z2 a ha) b hb
      · rw [e2]
        rcases Bool.or_eq_true_iff.mp z3 with z | z
        · refine .inl fun d hd => ?_
          obtain ⟨a, ha, rfl⟩ := List.mem_map.mp hd
          have q := List.all_eq_true.mp z a ha
          unfold tupI at q
          split at q
          · rename_i x r h
            exact ⟨x, r, h⟩
          · cases q
        · refine .inr fun d hd => ?_
          obtain ⟨a, ha, rfl⟩ := List.mem_map.mp hd
          have q := List.all_eq_true.mp z a ha
          refine ⟨fun h => ?_, fun xs h => ?_⟩
          · rw [h] at q; cases q
          · rw [h] at q; cases q
      · obtain ⟨z, hz, rfl⟩ := List.mem_map.mp hb
        exact of_decide_eq_true (List.all_eq_true.mp z4 z.2 (m2 z hz))
      · have := of_decide_eq_true z5
        rw [List.length_map, List.length_zip]
        omega
      · have s1 : ((vs.zip ds).map f).mergeSort (dataLe false fun b => b.2) = ((vs.zip ds).mergeSort (dataLe false fun z => encD z.2)).map f := (sort_maps f fun _ _ _ _ => rfl).symm
        have s2 : ((vs.zip ds).mergeSort (dataLe false fun z => encD z.2)).map Prod.snd = ds.mergeSort (dataLe false encD) := by
          refine (sort_maps (r := dataLe false fun z : V × D => encD z.2) (s := dataLe false encD) (l := vs.zip ds) Prod.snd fun _ _ _ _ => rfl).trans ?_
          rw [List.map_snd_zip (by omega)]
        have rr : RpL K w F H (sortD ds) (((vs.zip ds).mergeSort (dataLe false fun z => encD z.2)).map (·.1)) [] := by
          unfold sortD
          rw [← s2]
          exact rpL_of fun z hz => rz z ((List.mergeSort_perm _ _).mem_iff.mp hz)
        rw [s1, List.map_map, show ((fun b : V × PyData => b.1) ∘ f) = (fun z : V × D => z.1) from rfl]
        exact resL g k rr
    · cases e
  cases d1 with
  | tup ds =>
    rw [Rp] at h1
    obtain ⟨a, vs, rfl, s, r⟩ := h1
    exact fin rfl (.inr s) ⟨_, r⟩ e
  | lst m ds =>
    obtain ⟨a, vs, S', rfl, hH, r⟩ := h1.lst
    exact fin rfl (.inl (SqL.of hH)) ⟨_, r⟩ e
  | _ => cases e
end
section
variable {X : Cx} {W : WX} {a : Expr} {ma : M D} {p pos : Pos} {k : Nat}
/-- sorted(e) -/
theorem dE_sorted (hr : L2.Room k X.A) (hm : X.mg "sorted" = none) (ha : PE X a (tE X W ma)) (hg : Gl X "sorted" := by rfl) (he : starEach [a] X.env = (false, eval a X.env) :: starEach [] X.env := by rfl) : PE X (.Call (.Name "sorted" p) [a] [] pos) (tE X W (mB (one dSorted) (mCons ma mNil))) :=
  dE_callB (cr_sortG hr.u65) (.one op1_sorted fun _ _ _ h => h) hm (dA_cons ha dA_nil he) (by decide +kernel) hg (he := he)
end
end Pl
set_option Elab.async false
set_option linter.all false
set_option maxRecDepth 100000
set_option maxHeartbeats 4000000
/-! Pu: what is sent, sorted; all heads, sorted. -/
namespace Pu
open PySem PySem.Spec PyProof.Rows PySem.W L2 Pl
def leD (a b : D) : Bool := dataLe false encD a b
def ltK (a b : D) : Bool := PyProof.Rows.lexLt itemOrd (PySem.W.keyToks (encD a)) (PySem.W.keyToks (encD b))
theorem leD_eq (a b : D) : leD a b = !ltK b a := rfl
theorem le_total : PySem.W.TotalLe (dataLe false encD) := PySem.W.sortLe_total _ _ _
/-! ### heads -/
def heads0 : List D := ([.tup [], .tup [.str "a"], .tup [.str "b"], .tup [.str "a", .str "b"], .tup [.str "c"], .tup [.str "a", .str "c"], .tup [.str "b", .str "c"], .tup [.str "a", .str "b", .str "c"]] : List D).flatMap fun p => ([0, 1, 2, 3] : List Int).map fun i => .tup [p, .int i]
def ixs : List Nat := ([0, 1, 3, 7, 5, 2, 6, 4] : List Nat).flatMap fun i => [4 * i, 4 * i + 1, 4 * i + 2, 4 * i + 3]
theorem ixs_perm : ixs.Perm (List.range 32) := by decide +kernel
theorem heads_ix : ixs.map (fun i => heads0.getD i .non) = headsL := by kernel_rfl
theorem heads0_ix : (List.range 32).map (fun i => heads0.getD i .non) = heads0 := by kernel_rfl
theorem heads_perm : headsL.Perm heads0 := by
  rw [← heads_ix]
  refine (ixs_perm.map _).trans ?_
  rw [heads0_ix]
/-- each before all that come later -/
def upL : List D → Bool
  | [] => true
  | d :: ds => (ds.all fun x => ltK d x) && upL ds
theorem upL_pw : ∀ {ds : List D}, upL ds = true → ds.Pairwise fun a b => ltK a b = true
  | [], _ => .nil
  | d :: ds, h => by
    rw [upL, Bool.and_eq_true] at h
    exact .cons (fun x hx => List.all_eq_true.mp h.1 x hx) (upL_pw h.2)
theorem heads_up : upL headsL = true := by kernel_rfl
theorem lt_asymm {a b : D} (h : ltK a b = true) : ltK b a = false := by
  cases q : ltK b a with
  | false => rfl
  | true =>
    have t := (listOrd itemOrd).trans _ _ _ h q
    have i := (listOrd itemOrd).irrefl (PySem.W.keyToks (encD a))
    rw [i] at t
    cases t
theorem pw_anti {ds : List D} (h : ds.Pairwise fun a b => ltK a b = true) : ∀ a b, a ∈ ds → b ∈ ds → leD a b = true → leD b a = true → a = b := by
  induction h with
  | nil => exact fun a b ha => nomatch ha
  | cons q _ ih =>
    intro a b ha hb h1 h2
    rcases List.mem_cons.mp ha with ea | ha <;> rcases List.mem_cons.mp hb with eb | hb
    · rw [ea, eb]
    · rw [ea, leD_eq, q b hb] at h2; cases h2
    · rw [eb, leD_eq, q a ha] at h1; cases h1
    · exact ih a b ha hb h1 h2
theorem heads_sorted : sortD heads0 = headsL := by
  have p := upL_pw heads_up
  have pm : (sortD heads0).Perm headsL := (List.mergeSort_perm _ _).trans heads_perm.symm
  refine List.Perm.eq_of_pairwise (le := fun a b => leD a b = true) (fun a b ha hb h1 h2 => pw_anti p a b (pm.mem_iff.mp ha) hb h1 h2) (PySem.W.sort_pairwise le_total _) (p.imp fun {a b} h => ?_) pm
  rw [leD_eq, lt_asymm h]
  rfl
theorem heads_sok : sortOk heads0 = true := by kernel_rfl
theorem heads_dS : dSorted (.lst false heads0) = some (.lst true headsL) := by
  show (if sortOk heads0 = true then some (D.lst true (sortD heads0)) else none) = _
  rw [heads_sok, heads_sorted]
  rfl
theorem heads0_fz : D.frzL heads0 = heads0 := by kernel_rfl
/-! ### what is sent -/
def resAll : List D := (["all", "back"] : List Str).flatMap fun w => headsL.map fun h => rD (w, h)
theorem res_mem {p : RP} (g : GR p) : rD p ∈ resAll := by
  obtain ⟨w, h⟩ := p
  obtain ⟨hw, hh⟩ := g
  refine List.mem_flatMap.mpr ⟨w, ?_, List.mem_map.mpr ⟨h, hh, rfl⟩⟩
  rcases hw with e | e
  · rw [show w = "all" from e]; exact List.mem_cons_self
  · rw [show w = "back" from e]; exact List.mem_cons_of_mem _ List.mem_cons_self
theorem resAll_ok : (resAll.all fun d => d.py.isSome && (tupI (encD d) && (decide ((encD d).depth ≤ 60) && (plN 6 d && d.fz)))) = true := by kernel_rfl
def strTup : PyData → Bool
  | .tuple xs => xs.all fun x => match x with
    | .str _ => true
    | _ => false
  | _ => false
def resShape : PyData → Bool
  | .tuple [.str _, .tuple [m, .int _]] => strTup m
  | _ => false
theorem resAll_sh : (resAll.all fun d => resShape (encD d)) = true := by kernel_rfl
theorem strs_alike : ∀ xs ys : List PyData, (xs.all fun x => match x with
    | .str _ => true
    | _ => false) = true → (ys.all fun x => match x with
    | .str _ => true
    | _ => false) = true → PySem.W.alikeAll xs ys = true
  | [], _, _, _ => by rw [PySem.W.alikeAll]
  | _ :: _, [], _, _ => by rw [PySem.W.alikeAll]
  | x :: xs, y :: ys, h, k => by
    rw [List.all_cons, Bool.and_eq_true] at h k
    rw [PySem.W.alikeAll, strs_alike xs ys h.2 k.2, Bool.and_true]
    cases x <;> first | (cases y <;> first | rfl | (exact absurd k.1 Bool.false_ne_true)) | (exact absurd h.1 Bool.false_ne_true)
theorem tup_alike {m m' : PyData} (h : strTup m = true) (k : strTup m' = true) : PySem.W.alike m m' = true := by
  cases m <;> first | (exact absurd h Bool.false_ne_true) | skip
  cases m' <;> first | (exact absurd k Bool.false_ne_true) | skip
  rw [PySem.W.alike]
  exact strs_alike _ _ h k
theorem sh_alike {p q : PyData} (h : resShape p = true) (k : resShape q = true) : PySem.W.alike p q = true := by
  unfold resShape at h k
  split at h
  · split at k
    · simp only [PySem.W.alike, PySem.W.alikeAll, tup_alike h k, Bool.and_self]
    · cases k
  · cases h
structure ResD (d : D) : Prop where
  sm : d.py.isSome = true
  tu : tupI (encD d) = true
  dp : (encD d).depth ≤ 60
  pl : plN 6 d = true
  fz : d.fz = true
  sh : resShape (encD d) = true
theorem resD_ok {d : D} (h : d ∈ resAll) : ResD d := by
  have q := List.all_eq_true.mp resAll_ok d h
  simp only [Bool.and_eq_true, decide_eq_true_eq] at q
  exact ⟨q.1, q.2.1, q.2.2.1, q.2.2.2.1, q.2.2.2.2, List.all_eq_true.mp resAll_sh d h⟩
theorem res_all {ps : List RP} (g : ∀ p ∈ ps, GR p) : ∀ d ∈ ps.map rD, ResD d := fun d hd => by
  obtain ⟨p, hp, rfl⟩ := List.mem_map.mp hd
  exact resD_ok (res_mem (g p hp))
theorem sortOk_res {ds : List D} (g : ∀ d ∈ ds, ResD d) (hl : ds.length ≤ 1000) : sortOk ds = true := by
  have z1 : D.fzL ds = true := fzL_all fun d hd => (g d hd).fz
  have z2 : (ds.all fun d => d.py.isSome) = true := List.all_eq_true.mpr fun d hd => (g d hd).sm
  have z3 : (ds.all fun a => ds.all fun b => PySem.W.alike (encD a) (encD b)) = true := List.all_eq_true.mpr fun a ha => List.all_eq_true.mpr fun b hb => sh_alike (g a ha).sh (g b hb).sh
  have z4 : (ds.all fun d => tupI (encD d)) = true := List.all_eq_true.mpr fun d hd => (g d hd).tu
  have z5 : (ds.all fun d => decide ((encD d).depth ≤ 60)) = true := List.all_eq_true.mpr fun d hd => decide_eq_true (g d hd).dp
  have z6 : decide (ds.length ≤ 1000000) = true := decide_eq_true (by omega)
  rw [sortOk, z1, z2, z3, z4, z5, z6]
  rfl
theorem sort_mem {ds : List D} {d : D} : d ∈ sortD ds ↔ d ∈ ds := (List.mergeSort_perm _ _).mem_iff
theorem sort_len (ds : List D) : (sortD ds).length = ds.length := List.length_mergeSort _
end Pu
set_option Elab.async false
set_option linter.all false
set_option maxRecDepth 100000
set_option maxHeartbeats 4000000
/-! Pu: what can follow a state. -/
namespace Pu
open PySem PySem.Spec PyProof.Rows L2 Pl
def St (k : Int) (h : D) (c : Int) : D := .tup [.int k, h, .int c]
def backsV (ks : List KD2) (k : Int) (h : D) (c : Int) : List D := if c = -1 then [] else ((resP (kAt ks k) h).filter fun p => p.1 == ("back" : Str)).map fun p => St c p.2 k
def allV (n : Nat) (k : Int) (p : RP) : List D := if p.1 == ("all" : Str) then (rngD 0 n).map fun o => .tup [o, p.2, .int k] else []
def laterV (ks : List KD2) (k : Int) (h : D) (c : Int) : List D := backsV ks k h c ++ (resP (kAt ks k) h).flatMap (allV ks.length k)
/-- a kind, a head, who came: of a company of n kinds -/
structure GS (n : Nat) (k : Int) (h : D) (c : Int) : Prop where
  k0 : 0 ≤ k
  k1 : k < n
  h : h ∈ headsL
  c0 : -1 ≤ c
  c1 : c < n
theorem St_fz {n : Nat} {k c : Int} {h : D} (g : GS n k h c) : (St k h c).fz = true := by
  simp only [St, D.fz, D.fzL, head_fz g.h, Bool.and_self]
theorem kF_ok {cs : List Str} (hc : cs.contains ("Kind" : Str) = true) {k : KD2} (g : GK k) : KindV cs (kF k) k.1 k.2 := kindF_ok hc g.2 g.1 k.2
theorem dEq_intv (neg : Bool) (a b : Int) : dEq neg (.int a) (.int b) = some (.bl (if neg then !(a == b) else a == b)) := dEq_int neg a b
theorem cmap {ps : List RP} (q : RP → Bool) (f : RP → D) (p' : D → Bool) (f' : D → D) (hp : ∀ p ∈ ps, p' (rD p) = q p) (hf : ∀ p ∈ ps, f' (rD p) = f p) : (((ps.map rD).filter p').map f') = (ps.filter q).map f := by
  induction ps with
  | nil => rfl
  | cons p ps ih =>
    have i := ih (fun x hx => hp x (List.mem_cons_of_mem _ hx)) (fun x hx => hf x (List.mem_cons_of_mem _ hx))
    have h1 := hp p List.mem_cons_self
    have h2 := hf p List.mem_cons_self
    cases c : q p with
    | true => rw [List.map_cons, List.filter_cons_of_pos (by rw [h1, c]), List.filter_cons_of_pos c, List.map_cons, List.map_cons, i, h2]
    | false => rw [List.map_cons, List.filter_cons_of_neg (by rw [h1, c]; decide), List.filter_cons_of_neg (by rw [c]; decide), i]
/-- the pass over what is sent back -/
theorem back_pass {it : M (List D)} {e : Pl.Env} {ps : List RP} {k c : Int} {h x0 x1 : D} (he : e = [some x0, some x1, some (.int k), some h, some (.int c), none, none]) (h0 : it e = .ok (ps.map rD) e) (g : ∀ p ∈ ps, GR p) (hl : ps.length ≤ 2) :
    mLc it (.tp [.nm 5, .nm 6]) [5, 6] (mBin (dEq false) (mVar 5) (mC (.str "back"))) (mTup (mCons (mVar 4) (mCons (mVar 6) (mCons (mVar 2) (mNil))))) e = .ok (.lst true ((ps.filter fun p => p.1 == ("back" : Str)).map fun p => St c p.2 k)) e := by
  subst he
  have ob : PyData.strOk ("back" : Str) = true := by kernel_rfl
  have z := lc_gen (it := it) (t := .tp [.nm 5, .nm 6]) (own := [5, 6]) (c := mBin (dEq false) (mVar 5) (mC (.str "back"))) (y := mTup (mCons (mVar 4) (mCons (mVar 6) (mCons (mVar 2) (mNil))))) (e := [some x0, some x1, some (.int k), some h, some (.int c), none, none]) (ds := ps.map rD)
    (fun d => (rP d).1 == ("back" : Str)) (fun d => St c (rP d).2 k) (fun d => [some x0, some x1, some (.int k), some h, some (.int c), some (.str (rP d).1), some (rP d).2]) h0
    (fun d hd => by obtain ⟨p, hp, rfl⟩ := List.mem_map.mp hd; rfl)
    (fun d hd => by obtain ⟨p, hp, rfl⟩ := List.mem_map.mp hd; rfl)
    (fun d hd => by
      obtain ⟨p, hp, rfl⟩ := List.mem_map.mp hd
      have o := (g p hp).ok
      simp only [runF, mSeq, mSet, mMov, mBin, mUn, mB, mCons, mNil, mVar, mBinL, mBinR, mUnP, mC, isIn, mIf, mRet, mNext, mBrk, mDo, mAnd, mOr, mNot, mIte, mTup, mLst, mSlice, mNoPart, mPart, mCall, mCallIO, mAsg, mPar, mPar3, asg, asgL, onB, R.bind_ok, R.bind_exc, R.bind_fail, R.of, one, dInt, dTuple, dList, dLen, dIdx, D.fz, D.frz, D.fzL, D.frzL, runE, pickIO, List.length_cons, List.length_nil, List.map_cons, List.map_nil, List.cons_append, List.nil_append, List.getElem?_cons_zero, List.getElem?_cons_succ, List.set_cons_zero, List.set_cons_succ, if_true, if_false, Bool.false_eq_true, Bool.not_true, Bool.not_false, Bool.true_and, Bool.false_and, Bool.and_true, Bool.and_self, List.replicate, Nat.reduceAdd, Nat.reduceSub, Nat.reduceLT, Nat.reduceLeDiff, Nat.reduceEqDiff, Option.bind_some, Option.map_some, Pu.atI0, Pu.atI1, Pu.atI2, Pu.atI3, and_self, Pu.sz, reduceIte, Pu.n0, Pu.n1, Pu.n2, Pu.n3, Pu.n4, Pu.n5, Pu.n6, Pu.n7, Pu.n8, Pu.n9, Int.reduceBEq, beq_self_eq_true, Pu.io_tup, Pu.io_lst, Pu.io_int, Pu.io_bl, Pu.io_str, Pu.io_non, decide_true, decide_false, rD, rP, dEq_str o ob])
    (fun d hd _ => by
      obtain ⟨p, hp, rfl⟩ := List.mem_map.mp hd
      have o := head_fz (g p hp).2
      simp only [runF, mSeq, mSet, mMov, mBin, mUn, mB, mCons, mNil, mVar, mBinL, mBinR, mUnP, mC, isIn, mIf, mRet, mNext, mBrk, mDo, mAnd, mOr, mNot, mIte, mTup, mLst, mSlice, mNoPart, mPart, mCall, mCallIO, mAsg, mPar, mPar3, asg, asgL, onB, R.bind_ok, R.bind_exc, R.bind_fail, R.of, one, dInt, dTuple, dList, dLen, dIdx, D.fz, D.frz, D.fzL, D.frzL, runE, pickIO, List.length_cons, List.length_nil, List.map_cons, List.map_nil, List.cons_append, List.nil_append, List.getElem?_cons_zero, List.getElem?_cons_succ, List.set_cons_zero, List.set_cons_succ, if_true, if_false, Bool.false_eq_true, Bool.not_true, Bool.not_false, Bool.true_and, Bool.false_and, Bool.and_true, Bool.and_self, List.replicate, Nat.reduceAdd, Nat.reduceSub, Nat.reduceLT, Nat.reduceLeDiff, Nat.reduceEqDiff, Option.bind_some, Option.map_some, Pu.atI0, Pu.atI1, Pu.atI2, Pu.atI3, and_self, Pu.sz, reduceIte, Pu.n0, Pu.n1, Pu.n2, Pu.n3, Pu.n4, Pu.n5, Pu.n6, Pu.n7, Pu.n8, Pu.n9, Int.reduceBEq, beq_self_eq_true, Pu.io_tup, Pu.io_lst, Pu.io_int, Pu.io_bl, Pu.io_str, Pu.io_non, decide_true, decide_false, rD, rP, o, St])
    rfl (by rw [List.length_map, sz]; omega)
  rw [z, cmap (fun p => p.1 == ("back" : Str)) (fun p => St c p.2 k) _ _ (fun p _ => rfl) (fun p _ => rfl)]
theorem answers_ok {cs : List Str} {C : D} {ks : List KD2} (V : CompV cs C ks) {k c : Int} {h : D} (g : GS ks.length k h c) : c_answers_of cs [C, St k h c] = .ok (.lst true (backsV ks k h c)) [] := by
  have cz := V.z
  have cf := V.f
  have csr := V.s
  have hf := head_fz g.h
  have hz := D.frz_id h hf
  have gk := V.r _ (kAt_mem g.k0 g.k1)
  have kv := kF_ok V.k gk
  have a := acted_ok kv g.h
  obtain ⟨u, r, rg, rl⟩ := res_ok gk g.h
  rw [r] at a
  have rf := rDs_fz rg
  have rz := frzL_of rf
  have fk := kF_fz gk
  have zk := kv.z
  have fs := kFs_fz V.r
  have zs := frzL_of fs
  have it : mIt (mBin dIdx (mCall (c_acted cs) (mCons (mBin dIdx (mUn (dFld cs "sorts") (mVar 0)) (mVar 2)) (mCons (mVar 3) (mNil)))) (mC (.int 1))) [some C, some (St k h c), some (.int k), some h, some (.int c), none, none] = .ok ((resP (kAt ks k) h).map rD) [some C, some (St k h c), some (.int k), some h, some (.int c), none, none] := by
    have ix := atI_map kF g.k0 g.k1
    simp only [mIt, D.itemsS, runF, mSeq, mSet, mMov, mBin, mUn, mB, mCons, mNil, mVar, mBinL, mBinR, mUnP, mC, isIn, mIf, mRet, mNext, mBrk, mDo, mAnd, mOr, mNot, mIte, mTup, mLst, mSlice, mNoPart, mPart, mCall, mCallIO, mAsg, mPar, mPar3, asg, asgL, onB, R.bind_ok, R.bind_exc, R.bind_fail, R.of, one, dInt, dTuple, dList, dLen, dIdx, D.fz, D.frz, D.fzL, D.frzL, runE, pickIO, List.length_cons, List.length_nil, List.map_cons, List.map_nil, List.cons_append, List.nil_append, List.getElem?_cons_zero, List.getElem?_cons_succ, List.set_cons_zero, List.set_cons_succ, if_true, if_false, Bool.false_eq_true, Bool.not_true, Bool.not_false, Bool.true_and, Bool.false_and, Bool.and_true, Bool.and_self, List.replicate, Nat.reduceAdd, Nat.reduceSub, Nat.reduceLT, Nat.reduceLeDiff, Nat.reduceEqDiff, Option.bind_some, Option.map_some, Pu.atI0, Pu.atI1, Pu.atI2, Pu.atI3, and_self, Pu.sz, reduceIte, Pu.n0, Pu.n1, Pu.n2, Pu.n3, Pu.n4, Pu.n5, Pu.n6, Pu.n7, Pu.n8, Pu.n9, Int.reduceBEq, beq_self_eq_true, Pu.io_tup, Pu.io_lst, Pu.io_int, Pu.io_bl, Pu.io_str, Pu.io_non, decide_true, decide_false, cf, cz, csr, ix, fs, zs, fk, zk, hf, hz, a, rf, rz]
  have bp := back_pass (x0 := C) (x1 := St k h c) rfl it rg rl
  have sf := St_fz g
  unfold St at it bp sf ⊢
  by_cases q : c = -1
  · subst q
    simp only [c_answers_of, m_answers_of, runF, mSeq, mSet, mMov, mBin, mUn, mB, mCons, mNil, mVar, mBinL, mBinR, mUnP, mC, isIn, mIf, mRet, mNext, mBrk, mDo, mAnd, mOr, mNot, mIte, mTup, mLst, mSlice, mNoPart, mPart, mCall, mCallIO, mAsg, mPar, mPar3, asg, asgL, onB, R.bind_ok, R.bind_exc, R.bind_fail, R.of, one, dInt, dTuple, dList, dLen, dIdx, D.fz, D.frz, D.fzL, D.frzL, runE, pickIO, List.length_cons, List.length_nil, List.map_cons, List.map_nil, List.cons_append, List.nil_append, List.getElem?_cons_zero, List.getElem?_cons_succ, List.set_cons_zero, List.set_cons_succ, if_true, if_false, Bool.false_eq_true, Bool.not_true, Bool.not_false, Bool.true_and, Bool.false_and, Bool.and_true, Bool.and_self, List.replicate, Nat.reduceAdd, Nat.reduceSub, Nat.reduceLT, Nat.reduceLeDiff, Nat.reduceEqDiff, Option.bind_some, Option.map_some, Pu.atI0, Pu.atI1, Pu.atI2, Pu.atI3, and_self, Pu.sz, reduceIte, Pu.n0, Pu.n1, Pu.n2, Pu.n3, Pu.n4, Pu.n5, Pu.n6, Pu.n7, Pu.n8, Pu.n9, Int.reduceBEq, beq_self_eq_true, Pu.io_tup, Pu.io_lst, Pu.io_int, Pu.io_bl, Pu.io_str, Pu.io_non, decide_true, decide_false, sf, hf, hz, k_OUTSIDE, dEq_int, backsV]
  · have qb : (c == -1) = false := by simpa using q
    simp only [c_answers_of, m_answers_of, runF, mSeq, mSet, mMov, mBin, mUn, mB, mCons, mNil, mVar, mBinL, mBinR, mUnP, mC, isIn, mIf, mRet, mNext, mBrk, mDo, mAnd, mOr, mNot, mIte, mTup, mLst, mSlice, mNoPart, mPart, mCall, mCallIO, mAsg, mPar, mPar3, asg, asgL, onB, R.bind_ok, R.bind_exc, R.bind_fail, R.of, one, dInt, dTuple, dList, dLen, dIdx, D.fz, D.frz, D.fzL, D.frzL, runE, pickIO, List.length_cons, List.length_nil, List.map_cons, List.map_nil, List.cons_append, List.nil_append, List.getElem?_cons_zero, List.getElem?_cons_succ, List.set_cons_zero, List.set_cons_succ, if_true, if_false, Bool.false_eq_true, Bool.not_true, Bool.not_false, Bool.true_and, Bool.false_and, Bool.and_true, Bool.and_self, List.replicate, Nat.reduceAdd, Nat.reduceSub, Nat.reduceLT, Nat.reduceLeDiff, Nat.reduceEqDiff, Option.bind_some, Option.map_some, Pu.atI0, Pu.atI1, Pu.atI2, Pu.atI3, and_self, Pu.sz, reduceIte, Pu.n0, Pu.n1, Pu.n2, Pu.n3, Pu.n4, Pu.n5, Pu.n6, Pu.n7, Pu.n8, Pu.n9, Int.reduceBEq, beq_self_eq_true, Pu.io_tup, Pu.io_lst, Pu.io_int, Pu.io_bl, Pu.io_str, Pu.io_non, decide_true, decide_false, sf, hf, hz, k_OUTSIDE, dEq_int, backsV, q, qb, bp]
    rfl
theorem all_fz {n : Nat} {k : Int} {p : RP} (g : GR p) : D.fzL (allV n k p) = true := by
  unfold allV
  split
  · exact fzL_map fun o ho => by
      obtain ⟨i, _, rfl⟩ := rngD_mem ho
      simp only [D.fz, D.fzL, head_fz g.2, Bool.and_self]
  · rfl
theorem fzL_app : ∀ {a b : List D}, D.fzL a = true → D.fzL b = true → D.fzL (a ++ b) = true
  | [], _, _, h => h
  | x :: a, b, h, k => by
    rw [D.fzL, Bool.and_eq_true] at h
    rw [List.cons_append, D.fzL, h.1, fzL_app h.2 k]
    rfl
theorem flat_fz {n : Nat} {k : Int} : ∀ {ps : List RP}, (∀ p ∈ ps, GR p) → D.fzL (ps.flatMap (allV n k)) = true
  | [], _ => rfl
  | p :: ps, g => by
    rw [List.flatMap_cons]
    exact fzL_app (all_fz (g p List.mem_cons_self)) (flat_fz fun x hx => g x (List.mem_cons_of_mem _ hx))
theorem all_len {n : Nat} {k : Int} {p : RP} : (allV n k p).length ≤ n := by
  unfold allV
  split
  · rw [List.length_map, rngD_len]
    exact Nat.le_refl _
  · exact Nat.zero_le _
theorem flat_len {n : Nat} {k : Int} : ∀ {ps : List RP}, (ps.flatMap (allV n k)).length ≤ ps.length * n
  | [] => by rw [List.flatMap_nil, List.length_nil]; exact Nat.zero_le _
  | p :: ps => by
    have i := flat_len (n := n) (k := k) (ps := ps)
    have a := all_len (n := n) (k := k) (p := p)
    rw [List.flatMap_cons, List.length_append, List.length_cons, Nat.succ_mul]
    omega
theorem backs_fz {ks : List KD2} {k c : Int} {h : D} (gk : GK (kAt ks k)) (hh : h ∈ headsL) : D.fzL (backsV ks k h c) = true := by
  obtain ⟨u, _, rg, _⟩ := res_ok gk hh
  unfold backsV
  split
  · rfl
  · have hm : ∀ p ∈ (resP (kAt ks k) h).filter (fun p => p.1 == ("back" : Str)), GR p := fun p hp => rg p (List.mem_filter.mp hp).1
    revert hm
    generalize (resP (kAt ks k) h).filter (fun p => p.1 == ("back" : Str)) = l
    intro hm
    induction l with
    | nil => rfl
    | cons p l ih =>
      have f := head_fz (hm p List.mem_cons_self).2
      rw [List.map_cons, D.fzL, ih fun x hx => hm x (List.mem_cons_of_mem _ hx)]
      simp only [St, D.fz, D.fzL, f, Bool.and_self]
theorem backs_len {ks : List KD2} {k c : Int} {h : D} (gk : GK (kAt ks k)) (hh : h ∈ headsL) : (backsV ks k h c).length ≤ 2 := by
  obtain ⟨u, _, _, rl⟩ := res_ok gk hh
  unfold backsV
  split
  · exact Nat.zero_le _
  · rw [List.length_map]
    exact Nat.le_trans (List.length_filter_le _ _) rl
theorem later_fz {ks : List KD2} {k c : Int} {h : D} (gk : GK (kAt ks k)) (hh : h ∈ headsL) : D.fzL (laterV ks k h c) = true := by
  obtain ⟨u, _, rg, _⟩ := res_ok gk hh
  exact fzL_app (backs_fz gk hh) (flat_fz rg)
/-! ### followers -/
def fBody (cs : List Str) : M Fl := mIf (mBin (dEq false) (mVar 6) (mC (.str "all"))) (mDo (mExt 5 (mLc (mRng1 (mCons (mB (one dLen) (mCons (mUn (dFld cs "sorts") (mVar 0)) mNil)) (mNil))) (.nm 8) [8] (mC (.bl true)) (mTup (mCons (mVar 8) (mCons (mVar 7) (mCons (mVar 2) (mNil)))))))) (mNext)
def fTail (cs : List Str) : M Fl := mSeq (mFor (mIt (mBin dIdx (mCall (c_acted cs) (mCons (mBin dIdx (mUn (dFld cs "sorts") (mVar 0)) (mVar 2)) (mCons (mVar 3) (mNil)))) (mC (.int 1)))) (.tp [.nm 6, .nm 7]) (fBody cs)) <| mRet (mVar 5)
theorem followers_eq (cs : List Str) : m_followers cs = (mSeq (mAsg (.tp [.nm 2, .nm 3, .nm 4]) (mVar 1)) <| mSeq (mSet 5 (mCall (c_answers_of cs) (mCons (mVar 0) (mCons (mVar 1) (mNil))))) (fTail cs)) := rfl
theorem all_pass {m : M (List D)} {e : Pl.Env} {n : Nat} {k : Int} {h : D} {x0 x1 x3 x4 x5 : Option D} {w : Str} (he : e = [x0, x1, some (.int k), x3, x4, x5, some (.str w), some h, none]) (hf : h.fz = true) (h0 : m e = .ok (rngD 0 n) e) (hn : n ≤ 1000) :
    mLc m (.nm 8) [8] (mC (.bl true)) (mTup (mCons (mVar 8) (mCons (mVar 7) (mCons (mVar 2) (mNil))))) e = .ok (.lst true ((rngD 0 n).map fun o => .tup [o, h, .int k])) e := by
  subst he
  have z := lc_ok (it := m) (i := 8) (c := mC (.bl true)) (y := mTup (mCons (mVar 8) (mCons (mVar 7) (mCons (mVar 2) (mNil))))) (e := [x0, x1, some (.int k), x3, x4, x5, some (.str w), some h, none]) (ds := rngD 0 n) (fun _ => true) (fun o => .tup [o, h, .int k])
    h0 (by simp) (fun d hd => rfl) (fun d hd _ => by
      obtain ⟨i, _, rfl⟩ := rngD_mem hd
      simp only [runF, mSeq, mSet, mMov, mBin, mUn, mB, mCons, mNil, mVar, mBinL, mBinR, mUnP, mC, isIn, mIf, mRet, mNext, mBrk, mDo, mAnd, mOr, mNot, mIte, mTup, mLst, mSlice, mNoPart, mPart, mCall, mCallIO, mAsg, mPar, mPar3, asg, asgL, onB, R.bind_ok, R.bind_exc, R.bind_fail, R.of, one, dInt, dTuple, dList, dLen, dIdx, D.fz, D.frz, D.fzL, D.frzL, runE, pickIO, List.length_cons, List.length_nil, List.map_cons, List.map_nil, List.cons_append, List.nil_append, List.getElem?_cons_zero, List.getElem?_cons_succ, List.set_cons_zero, List.set_cons_succ, if_true, if_false, Bool.false_eq_true, Bool.not_true, Bool.not_false, Bool.true_and, Bool.false_and, Bool.and_true, Bool.and_self, List.replicate, Nat.reduceAdd, Nat.reduceSub, Nat.reduceLT, Nat.reduceLeDiff, Nat.reduceEqDiff, Option.bind_some, Option.map_some, Pu.atI0, Pu.atI1, Pu.atI2, Pu.atI3, and_self, Pu.sz, reduceIte, Pu.n0, Pu.n1, Pu.n2, Pu.n3, Pu.n4, Pu.n5, Pu.n6, Pu.n7, Pu.n8, Pu.n9, Int.reduceBEq, beq_self_eq_true, Pu.io_tup, Pu.io_lst, Pu.io_int, Pu.io_bl, Pu.io_str, Pu.io_non, decide_true, decide_false, hf]) (by rw [rngD_len, sz]; omega)
  rw [filter_true] at z
  exact z
theorem fBody_ok {cs : List Str} {C : D} {ks : List KD2} (V : CompV cs C ks) {p : RP} (g : GR p) {k : Int} {acc : List D} (hl : acc.length ≤ 100) (x1 x3 x4 : Option D) :
    fBody cs [some C, x1, some (.int k), x3, x4, some (.lst true acc), some (.str p.1), some p.2, none] = .ok .next [some C, x1, some (.int k), x3, x4, some (.lst true (acc ++ allV ks.length k p)), some (.str p.1), some p.2, none] := by
  have cz := V.z
  have cf := V.f
  have csr := V.s
  have oa : PyData.strOk ("all" : Str) = true := by kernel_rfl
  have o := g.ok
  have hf := head_fz g.2
  have fs := kFs_fz V.r
  have zs := frzL_of fs
  have r1 : mRng1 (mCons (mB (one dLen) (mCons (mUn (dFld cs "sorts") (mVar 0)) mNil)) (mNil)) [some C, x1, some (.int k), x3, x4, some (.lst true acc), some (.str p.1), some p.2, none] = .ok (rngD 0 ks.length) [some C, x1, some (.int k), x3, x4, some (.lst true acc), some (.str p.1), some p.2, none] :=
    rng1_len (by simp only [runF, mSeq, mSet, mMov, mBin, mUn, mB, mCons, mNil, mVar, mBinL, mBinR, mUnP, mC, isIn, mIf, mRet, mNext, mBrk, mDo, mAnd, mOr, mNot, mIte, mTup, mLst, mSlice, mNoPart, mPart, mCall, mCallIO, mAsg, mPar, mPar3, asg, asgL, onB, R.bind_ok, R.bind_exc, R.bind_fail, R.of, one, dInt, dTuple, dList, dLen, dIdx, D.fz, D.frz, D.fzL, D.frzL, runE, pickIO, List.length_cons, List.length_nil, List.map_cons, List.map_nil, List.cons_append, List.nil_append, List.getElem?_cons_zero, List.getElem?_cons_succ, List.set_cons_zero, List.set_cons_succ, if_true, if_false, Bool.false_eq_true, Bool.not_true, Bool.not_false, Bool.true_and, Bool.false_and, Bool.and_true, Bool.and_self, List.replicate, Nat.reduceAdd, Nat.reduceSub, Nat.reduceLT, Nat.reduceLeDiff, Nat.reduceEqDiff, Option.bind_some, Option.map_some, Pu.atI0, Pu.atI1, Pu.atI2, Pu.atI3, and_self, Pu.sz, reduceIte, Pu.n0, Pu.n1, Pu.n2, Pu.n3, Pu.n4, Pu.n5, Pu.n6, Pu.n7, Pu.n8, Pu.n9, Int.reduceBEq, beq_self_eq_true, Pu.io_tup, Pu.io_lst, Pu.io_int, Pu.io_bl, Pu.io_str, Pu.io_non, decide_true, decide_false, cf, cz, csr, fs, zs, List.length_map]) (by have := V.u; omega)
  have ap := all_pass (k := k) (x0 := some C) (x1 := x1) (x3 := x3) (x4 := x4) (x5 := some (.lst true acc)) (w := p.1) rfl hf r1 (by have := V.u; omega)
  have af : D.fzL ((rngD 0 ks.length).map fun o => .tup [o, p.2, .int k]) = true := fzL_map fun o ho => by
    obtain ⟨i, _, rfl⟩ := rngD_mem ho
    simp only [D.fz, D.fzL, hf, Bool.and_self]
  have az := frzL_of af
  have ln : acc.length + ((rngD 0 ks.length).map fun o => D.tup [o, p.2, .int k]).length ≤ sizeLine := by
    rw [List.length_map, rngD_len, sz]
    have := V.u
    omega
  cases q : (p.1 == ("all" : Str)) with
  | true =>
    have e := dEq_str (neg := false) o oa
    rw [q] at e
    have a : allV ks.length k p = (rngD 0 ks.length).map fun o => .tup [o, p.2, .int k] := by rw [allV, q]; rfl
    rw [a]
    rw [sz] at ln
    simp only [fBody, runF, mSeq, mSet, mMov, mBin, mUn, mB, mCons, mNil, mVar, mBinL, mBinR, mUnP, mC, isIn, mIf, mRet, mNext, mBrk, mDo, mAnd, mOr, mNot, mIte, mTup, mLst, mSlice, mNoPart, mPart, mCall, mCallIO, mAsg, mPar, mPar3, asg, asgL, onB, R.bind_ok, R.bind_exc, R.bind_fail, R.of, one, dInt, dTuple, dList, dLen, dIdx, D.fz, D.frz, D.fzL, D.frzL, runE, pickIO, List.length_cons, List.length_nil, List.map_cons, List.map_nil, List.cons_append, List.nil_append, List.getElem?_cons_zero, List.getElem?_cons_succ, List.set_cons_zero, List.set_cons_succ, if_true, if_false, Bool.false_eq_true, Bool.not_true, Bool.not_false, Bool.true_and, Bool.false_and, Bool.and_true, Bool.and_self, List.replicate, Nat.reduceAdd, Nat.reduceSub, Nat.reduceLT, Nat.reduceLeDiff, Nat.reduceEqDiff, Option.bind_some, Option.map_some, Pu.atI0, Pu.atI1, Pu.atI2, Pu.atI3, and_self, Pu.sz, reduceIte, Pu.n0, Pu.n1, Pu.n2, Pu.n3, Pu.n4, Pu.n5, Pu.n6, Pu.n7, Pu.n8, Pu.n9, Int.reduceBEq, beq_self_eq_true, Pu.io_tup, Pu.io_lst, Pu.io_int, Pu.io_bl, Pu.io_str, Pu.io_non, decide_true, decide_false, e, mExt, isLst, ap, az, ln]
  | false =>
    have e := dEq_str (neg := false) o oa
    rw [q] at e
    have a : allV ks.length k p = [] := by rw [allV, q]; rfl
    rw [a, List.append_nil]
    simp only [fBody, runF, mSeq, mSet, mMov, mBin, mUn, mB, mCons, mNil, mVar, mBinL, mBinR, mUnP, mC, isIn, mIf, mRet, mNext, mBrk, mDo, mAnd, mOr, mNot, mIte, mTup, mLst, mSlice, mNoPart, mPart, mCall, mCallIO, mAsg, mPar, mPar3, asg, asgL, onB, R.bind_ok, R.bind_exc, R.bind_fail, R.of, one, dInt, dTuple, dList, dLen, dIdx, D.fz, D.frz, D.fzL, D.frzL, runE, pickIO, List.length_cons, List.length_nil, List.map_cons, List.map_nil, List.cons_append, List.nil_append, List.getElem?_cons_zero, List.getElem?_cons_succ, List.set_cons_zero, List.set_cons_succ, if_true, if_false, Bool.false_eq_true, Bool.not_true, Bool.not_false, Bool.true_and, Bool.false_and, Bool.and_true, Bool.and_self, List.replicate, Nat.reduceAdd, Nat.reduceSub, Nat.reduceLT, Nat.reduceLeDiff, Nat.reduceEqDiff, Option.bind_some, Option.map_some, Pu.atI0, Pu.atI1, Pu.atI2, Pu.atI3, and_self, Pu.sz, reduceIte, Pu.n0, Pu.n1, Pu.n2, Pu.n3, Pu.n4, Pu.n5, Pu.n6, Pu.n7, Pu.n8, Pu.n9, Int.reduceBEq, beq_self_eq_true, Pu.io_tup, Pu.io_lst, Pu.io_int, Pu.io_bl, Pu.io_str, Pu.io_non, decide_true, decide_false, e]
theorem f_loop {cs : List Str} {C : D} {ks : List KD2} (V : CompV cs C ks) (x1 x3 x4 : Option D) (k : Int) : ∀ (ps : List RP) (acc : List D) (x6 x7 : Option D), (∀ p ∈ ps, GR p) → acc.length + ps.length * 3 ≤ 100 →
    ∃ y6 y7, forL (.tp [.nm 6, .nm 7]) (fBody cs) (ps.map rD) [some C, x1, some (.int k), x3, x4, some (.lst true acc), x6, x7, none] = .ok .next [some C, x1, some (.int k), x3, x4, some (.lst true (acc ++ ps.flatMap (allV ks.length k))), y6, y7, none]
  | [], acc, x6, x7, _, _ => ⟨x6, x7, by rw [List.flatMap_nil, List.append_nil]; rfl⟩
  | p :: ps, acc, x6, x7, g, l => by
    have b := fBody_ok V (g p List.mem_cons_self) (k := k) (acc := acc) (by omega) x1 x3 x4
    have al := all_len (n := ks.length) (k := k) (p := p)
    have u := V.u
    obtain ⟨y6, y7, i⟩ := f_loop V x1 x3 x4 k ps (acc ++ allV ks.length k p) (some (.str p.1)) (some p.2) (fun x hx => g x (List.mem_cons_of_mem _ hx)) (by rw [List.length_append]; rw [List.length_cons] at l; omega)
    refine ⟨y6, y7, ?_⟩
    rw [List.map_cons, forL]
    simp only [rD, asg, asgL, List.length_cons, List.length_nil, Nat.reduceAdd, Nat.reduceLT, if_true, List.set_cons_succ, List.set_cons_zero, b, onFl]
    rw [i, List.flatMap_cons, List.append_assoc]
/-- the company's acted, as a list walked -/
theorem acted_it {cs : List Str} {C : D} {ks : List KD2} (V : CompV cs C ks) {k c : Int} {h : D} (g : GS ks.length k h c) {x1 x4 x5 x6 x7 x8 : Option D} :
    mIt (mBin dIdx (mCall (c_acted cs) (mCons (mBin dIdx (mUn (dFld cs "sorts") (mVar 0)) (mVar 2)) (mCons (mVar 3) (mNil)))) (mC (.int 1))) [some C, x1, some (.int k), some h, x4, x5, x6, x7, x8] = .ok ((resP (kAt ks k) h).map rD) [some C, x1, some (.int k), some h, x4, x5, x6, x7, x8] := by
  have cz := V.z
  have cf := V.f
  have csr := V.s
  have hf := head_fz g.h
  have hz := D.frz_id h hf
  have gk := V.r _ (kAt_mem g.k0 g.k1)
  have kv := kF_ok V.k gk
  have a := acted_ok kv g.h
  obtain ⟨u, r, rg, rl⟩ := res_ok gk g.h
  rw [r] at a
  have rf := rDs_fz rg
  have rz := frzL_of rf
  have fk := kF_fz gk
  have zk := kv.z
  have fs := kFs_fz V.r
  have zs := frzL_of fs
  have ix := atI_map kF g.k0 g.k1
  simp only [mIt, D.itemsS, runF, mSeq, mSet, mMov, mBin, mUn, mB, mCons, mNil, mVar, mBinL, mBinR, mUnP, mC, isIn, mIf, mRet, mNext, mBrk, mDo, mAnd, mOr, mNot, mIte, mTup, mLst, mSlice, mNoPart, mPart, mCall, mCallIO, mAsg, mPar, mPar3, asg, asgL, onB, R.bind_ok, R.bind_exc, R.bind_fail, R.of, one, dInt, dTuple, dList, dLen, dIdx, D.fz, D.frz, D.fzL, D.frzL, runE, pickIO, List.length_cons, List.length_nil, List.map_cons, List.map_nil, List.cons_append, List.nil_append, List.getElem?_cons_zero, List.getElem?_cons_succ, List.set_cons_zero, List.set_cons_succ, if_true, if_false, Bool.false_eq_true, Bool.not_true, Bool.not_false, Bool.true_and, Bool.false_and, Bool.and_true, Bool.and_self, List.replicate, Nat.reduceAdd, Nat.reduceSub, Nat.reduceLT, Nat.reduceLeDiff, Nat.reduceEqDiff, Option.bind_some, Option.map_some, Pu.atI0, Pu.atI1, Pu.atI2, Pu.atI3, and_self, Pu.sz, reduceIte, Pu.n0, Pu.n1, Pu.n2, Pu.n3, Pu.n4, Pu.n5, Pu.n6, Pu.n7, Pu.n8, Pu.n9, Int.reduceBEq, beq_self_eq_true, Pu.io_tup, Pu.io_lst, Pu.io_int, Pu.io_bl, Pu.io_str, Pu.io_non, decide_true, decide_false, cf, cz, csr, ix, fs, zs, fk, zk, hf, hz, a, rf, rz]
theorem followers_ok {cs : List Str} {C : D} {ks : List KD2} (V : CompV cs C ks) {k c : Int} {h : D} (g : GS ks.length k h c) : c_followers cs [C, St k h c] = .ok (.lst false (laterV ks k h c)) [] := by
  have cz := V.z
  have cf := V.f
  have hf := head_fz g.h
  have hz := D.frz_id h hf
  have gk := V.r _ (kAt_mem g.k0 g.k1)
  obtain ⟨u, _, rg, rl⟩ := res_ok gk g.h
  have a := answers_ok V g
  have bl := backs_len (c := c) gk g.h
  have lf := later_fz (c := c) gk g.h
  have lz := frzL_of lf
  obtain ⟨y6, y7, e⟩ := f_loop V (some (St k h c)) (some h) (some (.int c)) k (resP (kAt ks k) h) (backsV ks k h c) none none rg (by omega)
  have it := acted_it V g (x1 := some (St k h c)) (x4 := some (.int c)) (x5 := some (.lst true (backsV ks k h c))) (x6 := none) (x7 := none) (x8 := none)
  have t : fTail cs [some C, some (St k h c), some (.int k), some h, some (.int c), some (.lst true (backsV ks k h c)), none, none, none] = .ok (.ret (.lst false (laterV ks k h c))) [some C, some (St k h c), some (.int k), some h, some (.int c), some (.lst false (laterV ks k h c)), y6, y7, none] := by
    have e' : forL (.tp [.nm 6, .nm 7]) (fBody cs) ((resP (kAt ks k) h).map rD) [some C, some (St k h c), some (.int k), some h, some (.int c), some (.lst true (backsV ks k h c)), none, none, none] = .ok .next [some C, some (St k h c), some (.int k), some h, some (.int c), some (.lst true (laterV ks k h c)), y6, y7, none] := e
    simp only [fTail, mSeq, mFor, it, R.bind_ok, e', mRet, mVar, List.getElem?_cons_zero, List.getElem?_cons_succ, List.set_cons_zero, List.set_cons_succ, D.fz, D.frz, lz, Bool.not_true, Bool.false_and, Bool.false_eq_true, if_false]
  have sf := St_fz g
  unfold c_followers
  rw [followers_eq]
  unfold St at a t sf ⊢
  simp only [runF, mSeq, mSet, mMov, mBin, mUn, mB, mCons, mNil, mVar, mBinL, mBinR, mUnP, mC, isIn, mIf, mRet, mNext, mBrk, mDo, mAnd, mOr, mNot, mIte, mTup, mLst, mSlice, mNoPart, mPart, mCall, mCallIO, mAsg, mPar, mPar3, asg, asgL, onB, R.bind_ok, R.bind_exc, R.bind_fail, R.of, one, dInt, dTuple, dList, dLen, dIdx, D.fz, D.frz, D.fzL, D.frzL, runE, pickIO, List.length_cons, List.length_nil, List.map_cons, List.map_nil, List.cons_append, List.nil_append, List.getElem?_cons_zero, List.getElem?_cons_succ, List.set_cons_zero, List.set_cons_succ, if_true, if_false, Bool.false_eq_true, Bool.not_true, Bool.not_false, Bool.true_and, Bool.false_and, Bool.and_true, Bool.and_self, List.replicate, Nat.reduceAdd, Nat.reduceSub, Nat.reduceLT, Nat.reduceLeDiff, Nat.reduceEqDiff, Option.bind_some, Option.map_some, Pu.atI0, Pu.atI1, Pu.atI2, Pu.atI3, and_self, Pu.sz, reduceIte, Pu.n0, Pu.n1, Pu.n2, Pu.n3, Pu.n4, Pu.n5, Pu.n6, Pu.n7, Pu.n8, Pu.n9, Int.reduceBEq, beq_self_eq_true, Pu.io_tup, Pu.io_lst, Pu.io_int, Pu.io_bl, Pu.io_str, Pu.io_non, decide_true, decide_false, sf, cf, cz, hf, hz, a, t]
/-! ### the laws' own look -/
theorem acts_it {ks : List KD2} (gk : ∀ k ∈ ks, GK k) {k c : Int} {h : D} (g : GS ks.length k h c) {x1 x4 x5 x6 x7 x8 : Option D} :
    mIt (mBin dIdx (mCall c_law_acts (mCons (mBin dIdx (mVar 0) (mVar 2)) (mCons (mVar 3) (mNil)))) (mC (.int 1))) [some (.lst false (ks.map rawD)), x1, some (.int k), some h, x4, x5, x6, x7, x8] = .ok ((resP (kAt ks k) h).map rD) [some (.lst false (ks.map rawD)), x1, some (.int k), some h, x4, x5, x6, x7, x8] := by
  have hf := head_fz g.h
  have hz := D.frz_id h hf
  have gk1 := gk _ (kAt_mem g.k0 g.k1)
  have a := law_acts_ok gk1.2 (kAt ks k).2 g.h
  obtain ⟨u, r, rg, rl⟩ := res_ok gk1 g.h
  rw [r] at a
  have rf := rDs_fz rg
  have rz := frzL_of rf
  have fk := raw_fz gk1
  have zk := D.frz_id _ fk
  have fs := raws_fz gk
  have zs := frzL_of fs
  have ix := atI_map rawD g.k0 g.k1
  have a' : c_law_acts [rawD (kAt ks k), h] = _ := a
  simp only [mIt, D.itemsS, runF, mSeq, mSet, mMov, mBin, mUn, mB, mCons, mNil, mVar, mBinL, mBinR, mUnP, mC, isIn, mIf, mRet, mNext, mBrk, mDo, mAnd, mOr, mNot, mIte, mTup, mLst, mSlice, mNoPart, mPart, mCall, mCallIO, mAsg, mPar, mPar3, asg, asgL, onB, R.bind_ok, R.bind_exc, R.bind_fail, R.of, one, dInt, dTuple, dList, dLen, dIdx, D.fz, D.frz, D.fzL, D.frzL, runE, pickIO, List.length_cons, List.length_nil, List.map_cons, List.map_nil, List.cons_append, List.nil_append, List.getElem?_cons_zero, List.getElem?_cons_succ, List.set_cons_zero, List.set_cons_succ, if_true, if_false, Bool.false_eq_true, Bool.not_true, Bool.not_false, Bool.true_and, Bool.false_and, Bool.and_true, Bool.and_self, List.replicate, Nat.reduceAdd, Nat.reduceSub, Nat.reduceLT, Nat.reduceLeDiff, Nat.reduceEqDiff, Option.bind_some, Option.map_some, Pu.atI0, Pu.atI1, Pu.atI2, Pu.atI3, and_self, Pu.sz, reduceIte, Pu.n0, Pu.n1, Pu.n2, Pu.n3, Pu.n4, Pu.n5, Pu.n6, Pu.n7, Pu.n8, Pu.n9, Int.reduceBEq, beq_self_eq_true, Pu.io_tup, Pu.io_lst, Pu.io_int, Pu.io_bl, Pu.io_str, Pu.io_non, decide_true, decide_false, ix, fs, zs, fk, zk, hf, hz, a', rf, rz]
theorem acts_it7 {ks : List KD2} (gk : ∀ k ∈ ks, GK k) {k c : Int} {h : D} (g : GS ks.length k h c) {x1 x4 x5 x6 : Option D} :
    mIt (mBin dIdx (mCall c_law_acts (mCons (mBin dIdx (mVar 0) (mVar 2)) (mCons (mVar 3) (mNil)))) (mC (.int 1))) [some (.lst false (ks.map rawD)), x1, some (.int k), some h, x4, x5, x6] = .ok ((resP (kAt ks k) h).map rD) [some (.lst false (ks.map rawD)), x1, some (.int k), some h, x4, x5, x6] := by
  have hf := head_fz g.h
  have hz := D.frz_id h hf
  have gk1 := gk _ (kAt_mem g.k0 g.k1)
  have a := law_acts_ok gk1.2 (kAt ks k).2 g.h
  obtain ⟨u, r, rg, rl⟩ := res_ok gk1 g.h
  rw [r] at a
  have rf := rDs_fz rg
  have rz := frzL_of rf
  have fk := raw_fz gk1
  have zk := D.frz_id _ fk
  have fs := raws_fz gk
  have zs := frzL_of fs
  have ix := atI_map rawD g.k0 g.k1
  have a' : c_law_acts [rawD (kAt ks k), h] = _ := a
  simp only [mIt, D.itemsS, runF, mSeq, mSet, mMov, mBin, mUn, mB, mCons, mNil, mVar, mBinL, mBinR, mUnP, mC, isIn, mIf, mRet, mNext, mBrk, mDo, mAnd, mOr, mNot, mIte, mTup, mLst, mSlice, mNoPart, mPart, mCall, mCallIO, mAsg, mPar, mPar3, asg, asgL, onB, R.bind_ok, R.bind_exc, R.bind_fail, R.of, one, dInt, dTuple, dList, dLen, dIdx, D.fz, D.frz, D.fzL, D.frzL, runE, pickIO, List.length_cons, List.length_nil, List.map_cons, List.map_nil, List.cons_append, List.nil_append, List.getElem?_cons_zero, List.getElem?_cons_succ, List.set_cons_zero, List.set_cons_succ, if_true, if_false, Bool.false_eq_true, Bool.not_true, Bool.not_false, Bool.true_and, Bool.false_and, Bool.and_true, Bool.and_self, List.replicate, Nat.reduceAdd, Nat.reduceSub, Nat.reduceLT, Nat.reduceLeDiff, Nat.reduceEqDiff, Option.bind_some, Option.map_some, Pu.atI0, Pu.atI1, Pu.atI2, Pu.atI3, and_self, Pu.sz, reduceIte, Pu.n0, Pu.n1, Pu.n2, Pu.n3, Pu.n4, Pu.n5, Pu.n6, Pu.n7, Pu.n8, Pu.n9, Int.reduceBEq, beq_self_eq_true, Pu.io_tup, Pu.io_lst, Pu.io_int, Pu.io_bl, Pu.io_str, Pu.io_non, decide_true, decide_false, ix, fs, zs, fk, zk, hf, hz, a', rf, rz]
theorem lbacks_ok {ks : List KD2} (gk : ∀ k ∈ ks, GK k) {k c : Int} {h : D} (g : GS ks.length k h c) : c_law_backs [.lst false (ks.map rawD), St k h c] = .ok (.lst true (backsV ks k h c)) [] := by
  have hf := head_fz g.h
  have hz := D.frz_id h hf
  have gk1 := gk _ (kAt_mem g.k0 g.k1)
  obtain ⟨u, r, rg, rl⟩ := res_ok gk1 g.h
  have it := acts_it7 gk g (x1 := some (St k h c)) (x4 := some (.int c)) (x5 := none) (x6 := none)
  have bp := back_pass (x0 := .lst false (ks.map rawD)) (x1 := St k h c) rfl it rg rl
  have sf := St_fz g
  unfold St at it bp sf ⊢
  have c0 := g.c0
  by_cases q : c = -1
  · subst q
    have d : decide ((-1 : Int) < 0) = true := rfl
    simp only [c_law_backs, m_law_backs, runF, mSeq, mSet, mMov, mBin, mUn, mB, mCons, mNil, mVar, mBinL, mBinR, mUnP, mC, isIn, mIf, mRet, mNext, mBrk, mDo, mAnd, mOr, mNot, mIte, mTup, mLst, mSlice, mNoPart, mPart, mCall, mCallIO, mAsg, mPar, mPar3, asg, asgL, onB, R.bind_ok, R.bind_exc, R.bind_fail, R.of, one, dInt, dTuple, dList, dLen, dIdx, D.fz, D.frz, D.fzL, D.frzL, runE, pickIO, List.length_cons, List.length_nil, List.map_cons, List.map_nil, List.cons_append, List.nil_append, List.getElem?_cons_zero, List.getElem?_cons_succ, List.set_cons_zero, List.set_cons_succ, if_true, if_false, Bool.false_eq_true, Bool.not_true, Bool.not_false, Bool.true_and, Bool.false_and, Bool.and_true, Bool.and_self, List.replicate, Nat.reduceAdd, Nat.reduceSub, Nat.reduceLT, Nat.reduceLeDiff, Nat.reduceEqDiff, Option.bind_some, Option.map_some, Pu.atI0, Pu.atI1, Pu.atI2, Pu.atI3, and_self, Pu.sz, reduceIte, Pu.n0, Pu.n1, Pu.n2, Pu.n3, Pu.n4, Pu.n5, Pu.n6, Pu.n7, Pu.n8, Pu.n9, Int.reduceBEq, beq_self_eq_true, Pu.io_tup, Pu.io_lst, Pu.io_int, Pu.io_bl, Pu.io_str, Pu.io_non, decide_true, decide_false, sf, hf, hz, dLt, d, backsV]
  · have d : decide (c < 0) = false := decide_eq_false (by omega)
    simp only [c_law_backs, m_law_backs, runF, mSeq, mSet, mMov, mBin, mUn, mB, mCons, mNil, mVar, mBinL, mBinR, mUnP, mC, isIn, mIf, mRet, mNext, mBrk, mDo, mAnd, mOr, mNot, mIte, mTup, mLst, mSlice, mNoPart, mPart, mCall, mCallIO, mAsg, mPar, mPar3, asg, asgL, onB, R.bind_ok, R.bind_exc, R.bind_fail, R.of, one, dInt, dTuple, dList, dLen, dIdx, D.fz, D.frz, D.fzL, D.frzL, runE, pickIO, List.length_cons, List.length_nil, List.map_cons, List.map_nil, List.cons_append, List.nil_append, List.getElem?_cons_zero, List.getElem?_cons_succ, List.set_cons_zero, List.set_cons_succ, if_true, if_false, Bool.false_eq_true, Bool.not_true, Bool.not_false, Bool.true_and, Bool.false_and, Bool.and_true, Bool.and_self, List.replicate, Nat.reduceAdd, Nat.reduceSub, Nat.reduceLT, Nat.reduceLeDiff, Nat.reduceEqDiff, Option.bind_some, Option.map_some, Pu.atI0, Pu.atI1, Pu.atI2, Pu.atI3, and_self, Pu.sz, reduceIte, Pu.n0, Pu.n1, Pu.n2, Pu.n3, Pu.n4, Pu.n5, Pu.n6, Pu.n7, Pu.n8, Pu.n9, Int.reduceBEq, beq_self_eq_true, Pu.io_tup, Pu.io_lst, Pu.io_int, Pu.io_bl, Pu.io_str, Pu.io_non, decide_true, decide_false, sf, hf, hz, dLt, d, backsV, q, bp]
    rfl
def gBody : M Fl := mIf (mBin (dEq false) (mVar 6) (mC (.str "all"))) (mSet 5 (mBin dAdd (mVar 5) (mLc (mRng1 (mCons (mB (one dLen) (mCons (mVar 0) mNil)) (mNil))) (.nm 8) [8] (mC (.bl true)) (mTup (mCons (mVar 8) (mCons (mVar 7) (mCons (mVar 2) (mNil)))))))) (mNext)
def gTail : M Fl := mSeq (mFor (mIt (mBin dIdx (mCall c_law_acts (mCons (mBin dIdx (mVar 0) (mVar 2)) (mCons (mVar 3) (mNil)))) (mC (.int 1)))) (.tp [.nm 6, .nm 7]) gBody) <| mRet (mVar 5)
theorem law_later_eq : m_law_later = (mSeq (mAsg (.tp [.nm 2, .nm 3, .nm 4]) (mVar 1)) <| mSeq (mSet 5 (mCall c_law_backs (mCons (mVar 0) (mCons (mVar 1) (mNil))))) gTail) := rfl
theorem gBody_ok {ks : List KD2} (gk : ∀ k ∈ ks, GK k) (un : ks.length ≤ 3) {p : RP} (g : GR p) {k : Int} {acc : List D} (hl : acc.length ≤ 100) (fa : D.fzL acc = true) (x1 x3 x4 : Option D) :
    gBody [some (.lst false (ks.map rawD)), x1, some (.int k), x3, x4, some (.lst true acc), some (.str p.1), some p.2, none] = .ok .next [some (.lst false (ks.map rawD)), x1, some (.int k), x3, x4, some (.lst true (acc ++ allV ks.length k p)), some (.str p.1), some p.2, none] := by
  have oa : PyData.strOk ("all" : Str) = true := by kernel_rfl
  have o := g.ok
  have hf := head_fz g.2
  have fs := raws_fz gk
  have zs := frzL_of fs
  have za := frzL_of fa
  have r1 : mRng1 (mCons (mB (one dLen) (mCons (mVar 0) mNil)) (mNil)) [some (.lst false (ks.map rawD)), x1, some (.int k), x3, x4, some (.lst false acc), some (.str p.1), some p.2, none] = .ok (rngD 0 ks.length) [some (.lst false (ks.map rawD)), x1, some (.int k), x3, x4, some (.lst false acc), some (.str p.1), some p.2, none] :=
    rng1_len (by simp only [runF, mSeq, mSet, mMov, mBin, mUn, mB, mCons, mNil, mVar, mBinL, mBinR, mUnP, mC, isIn, mIf, mRet, mNext, mBrk, mDo, mAnd, mOr, mNot, mIte, mTup, mLst, mSlice, mNoPart, mPart, mCall, mCallIO, mAsg, mPar, mPar3, asg, asgL, onB, R.bind_ok, R.bind_exc, R.bind_fail, R.of, one, dInt, dTuple, dList, dLen, dIdx, D.fz, D.frz, D.fzL, D.frzL, runE, pickIO, List.length_cons, List.length_nil, List.map_cons, List.map_nil, List.cons_append, List.nil_append, List.getElem?_cons_zero, List.getElem?_cons_succ, List.set_cons_zero, List.set_cons_succ, if_true, if_false, Bool.false_eq_true, Bool.not_true, Bool.not_false, Bool.true_and, Bool.false_and, Bool.and_true, Bool.and_self, List.replicate, Nat.reduceAdd, Nat.reduceSub, Nat.reduceLT, Nat.reduceLeDiff, Nat.reduceEqDiff, Option.bind_some, Option.map_some, Pu.atI0, Pu.atI1, Pu.atI2, Pu.atI3, and_self, Pu.sz, reduceIte, Pu.n0, Pu.n1, Pu.n2, Pu.n3, Pu.n4, Pu.n5, Pu.n6, Pu.n7, Pu.n8, Pu.n9, Int.reduceBEq, beq_self_eq_true, Pu.io_tup, Pu.io_lst, Pu.io_int, Pu.io_bl, Pu.io_str, Pu.io_non, decide_true, decide_false, fs, zs, List.length_map]) (by omega)
  have ap := all_pass (k := k) (x0 := some (.lst false (ks.map rawD))) (x1 := x1) (x3 := x3) (x4 := x4) (x5 := some (.lst false acc)) (w := p.1) rfl hf r1 (by omega)
  have af : D.fzL ((rngD 0 ks.length).map fun o => .tup [o, p.2, .int k]) = true := fzL_map fun o ho => by
    obtain ⟨i, _, rfl⟩ := rngD_mem ho
    simp only [D.fz, D.fzL, hf, Bool.and_self]
  have az := frzL_of af
  have ad : dAdd (.lst false acc) (.lst false ((rngD 0 ks.length).map fun o => D.tup [o, p.2, .int k])) = some (.lst true (acc ++ (rngD 0 ks.length).map fun o => D.tup [o, p.2, .int k])) := by
    rw [dAdd, if_pos ⟨fa, af, by rw [List.length_map, rngD_len, sz]; omega⟩]
  cases q : (p.1 == ("all" : Str)) with
  | true =>
    have e := dEq_str (neg := false) o oa
    rw [q] at e
    have a : allV ks.length k p = (rngD 0 ks.length).map fun o => .tup [o, p.2, .int k] := by rw [allV, q]; rfl
    rw [a]
    simp only [gBody, runF, mSeq, mSet, mMov, mBin, mUn, mB, mCons, mNil, mVar, mBinL, mBinR, mUnP, mC, isIn, mIf, mRet, mNext, mBrk, mDo, mAnd, mOr, mNot, mIte, mTup, mLst, mSlice, mNoPart, mPart, mCall, mCallIO, mAsg, mPar, mPar3, asg, asgL, onB, R.bind_ok, R.bind_exc, R.bind_fail, R.of, one, dInt, dTuple, dList, dLen, dIdx, D.fz, D.frz, D.fzL, D.frzL, runE, pickIO, List.length_cons, List.length_nil, List.map_cons, List.map_nil, List.cons_append, List.nil_append, List.getElem?_cons_zero, List.getElem?_cons_succ, List.set_cons_zero, List.set_cons_succ, if_true, if_false, Bool.false_eq_true, Bool.not_true, Bool.not_false, Bool.true_and, Bool.false_and, Bool.and_true, Bool.and_self, List.replicate, Nat.reduceAdd, Nat.reduceSub, Nat.reduceLT, Nat.reduceLeDiff, Nat.reduceEqDiff, Option.bind_some, Option.map_some, Pu.atI0, Pu.atI1, Pu.atI2, Pu.atI3, and_self, Pu.sz, reduceIte, Pu.n0, Pu.n1, Pu.n2, Pu.n3, Pu.n4, Pu.n5, Pu.n6, Pu.n7, Pu.n8, Pu.n9, Int.reduceBEq, beq_self_eq_true, Pu.io_tup, Pu.io_lst, Pu.io_int, Pu.io_bl, Pu.io_str, Pu.io_non, decide_true, decide_false, e, za, ap, az, ad]
  | false =>
    have e := dEq_str (neg := false) o oa
    rw [q] at e
    have a : allV ks.length k p = [] := by rw [allV, q]; rfl
    rw [a, List.append_nil]
    simp only [gBody, runF, mSeq, mSet, mMov, mBin, mUn, mB, mCons, mNil, mVar, mBinL, mBinR, mUnP, mC, isIn, mIf, mRet, mNext, mBrk, mDo, mAnd, mOr, mNot, mIte, mTup, mLst, mSlice, mNoPart, mPart, mCall, mCallIO, mAsg, mPar, mPar3, asg, asgL, onB, R.bind_ok, R.bind_exc, R.bind_fail, R.of, one, dInt, dTuple, dList, dLen, dIdx, D.fz, D.frz, D.fzL, D.frzL, runE, pickIO, List.length_cons, List.length_nil, List.map_cons, List.map_nil, List.cons_append, List.nil_append, List.getElem?_cons_zero, List.getElem?_cons_succ, List.set_cons_zero, List.set_cons_succ, if_true, if_false, Bool.false_eq_true, Bool.not_true, Bool.not_false, Bool.true_and, Bool.false_and, Bool.and_true, Bool.and_self, List.replicate, Nat.reduceAdd, Nat.reduceSub, Nat.reduceLT, Nat.reduceLeDiff, Nat.reduceEqDiff, Option.bind_some, Option.map_some, Pu.atI0, Pu.atI1, Pu.atI2, Pu.atI3, and_self, Pu.sz, reduceIte, Pu.n0, Pu.n1, Pu.n2, Pu.n3, Pu.n4, Pu.n5, Pu.n6, Pu.n7, Pu.n8, Pu.n9, Int.reduceBEq, beq_self_eq_true, Pu.io_tup, Pu.io_lst, Pu.io_int, Pu.io_bl, Pu.io_str, Pu.io_non, decide_true, decide_false, e]
theorem g_loop {ks : List KD2} (gk : ∀ k ∈ ks, GK k) (un : ks.length ≤ 3) (x1 x3 x4 : Option D) (k : Int) : ∀ (ps : List RP) (acc : List D) (x6 x7 : Option D), (∀ p ∈ ps, GR p) → acc.length + ps.length * 3 ≤ 100 → D.fzL acc = true →
    ∃ y6 y7, forL (.tp [.nm 6, .nm 7]) gBody (ps.map rD) [some (.lst false (ks.map rawD)), x1, some (.int k), x3, x4, some (.lst true acc), x6, x7, none] = .ok .next [some (.lst false (ks.map rawD)), x1, some (.int k), x3, x4, some (.lst true (acc ++ ps.flatMap (allV ks.length k))), y6, y7, none]
  | [], acc, x6, x7, _, _, _ => ⟨x6, x7, by rw [List.flatMap_nil, List.append_nil]; rfl⟩
  | p :: ps, acc, x6, x7, g, l, fa => by
    have b := gBody_ok gk un (g p List.mem_cons_self) (k := k) (acc := acc) (by omega) fa x1 x3 x4
    have al := all_len (n := ks.length) (k := k) (p := p)
    obtain ⟨y6, y7, i⟩ := g_loop gk un x1 x3 x4 k ps (acc ++ allV ks.length k p) (some (.str p.1)) (some p.2) (fun x hx => g x (List.mem_cons_of_mem _ hx)) (by rw [List.length_append]; rw [List.length_cons] at l; omega) (fzL_app fa (all_fz (g p List.mem_cons_self)))
    refine ⟨y6, y7, ?_⟩
    rw [List.map_cons, forL]
    simp only [rD, asg, asgL, List.length_cons, List.length_nil, Nat.reduceAdd, Nat.reduceLT, if_true, List.set_cons_succ, List.set_cons_zero, b, onFl]
    rw [i, List.flatMap_cons, List.append_assoc]
theorem llater_ok {ks : List KD2} (gk : ∀ k ∈ ks, GK k) (un : ks.length ≤ 3) {k c : Int} {h : D} (g : GS ks.length k h c) : c_law_later [.lst false (ks.map rawD), St k h c] = .ok (.lst false (laterV ks k h c)) [] := by
  have hf := head_fz g.h
  have hz := D.frz_id h hf
  have gk1 := gk _ (kAt_mem g.k0 g.k1)
  have fs := raws_fz gk
  have zs := frzL_of fs
  obtain ⟨u, _, rg, rl⟩ := res_ok gk1 g.h
  have a := lbacks_ok gk g
  have bl := backs_len (c := c) gk1 g.h
  have lf := later_fz (c := c) gk1 g.h
  have lz := frzL_of lf
  obtain ⟨y6, y7, e⟩ := g_loop gk un (some (St k h c)) (some h) (some (.int c)) k (resP (kAt ks k) h) (backsV ks k h c) none none rg (by omega) (backs_fz gk1 g.h)
  have it := acts_it gk g (x1 := some (St k h c)) (x4 := some (.int c)) (x5 := some (.lst true (backsV ks k h c))) (x6 := none) (x7 := none) (x8 := none)
  have t : gTail [some (.lst false (ks.map rawD)), some (St k h c), some (.int k), some h, some (.int c), some (.lst true (backsV ks k h c)), none, none, none] = .ok (.ret (.lst false (laterV ks k h c))) [some (.lst false (ks.map rawD)), some (St k h c), some (.int k), some h, some (.int c), some (.lst false (laterV ks k h c)), y6, y7, none] := by
    have e' : forL (.tp [.nm 6, .nm 7]) gBody ((resP (kAt ks k) h).map rD) [some (.lst false (ks.map rawD)), some (St k h c), some (.int k), some h, some (.int c), some (.lst true (backsV ks k h c)), none, none, none] = .ok .next [some (.lst false (ks.map rawD)), some (St k h c), some (.int k), some h, some (.int c), some (.lst true (laterV ks k h c)), y6, y7, none] := e
    simp only [gTail, mSeq, mFor, it, R.bind_ok, e', mRet, mVar, List.getElem?_cons_zero, List.getElem?_cons_succ, List.set_cons_zero, List.set_cons_succ, D.fz, D.frz, lz, Bool.not_true, Bool.false_and, Bool.false_eq_true, if_false]
  have sf := St_fz g
  unfold c_law_later
  rw [law_later_eq]
  unfold St at a t sf ⊢
  simp only [runF, mSeq, mSet, mMov, mBin, mUn, mB, mCons, mNil, mVar, mBinL, mBinR, mUnP, mC, isIn, mIf, mRet, mNext, mBrk, mDo, mAnd, mOr, mNot, mIte, mTup, mLst, mSlice, mNoPart, mPart, mCall, mCallIO, mAsg, mPar, mPar3, asg, asgL, onB, R.bind_ok, R.bind_exc, R.bind_fail, R.of, one, dInt, dTuple, dList, dLen, dIdx, D.fz, D.frz, D.fzL, D.frzL, runE, pickIO, List.length_cons, List.length_nil, List.map_cons, List.map_nil, List.cons_append, List.nil_append, List.getElem?_cons_zero, List.getElem?_cons_succ, List.set_cons_zero, List.set_cons_succ, if_true, if_false, Bool.false_eq_true, Bool.not_true, Bool.not_false, Bool.true_and, Bool.false_and, Bool.and_true, Bool.and_self, List.replicate, Nat.reduceAdd, Nat.reduceSub, Nat.reduceLT, Nat.reduceLeDiff, Nat.reduceEqDiff, Option.bind_some, Option.map_some, Pu.atI0, Pu.atI1, Pu.atI2, Pu.atI3, and_self, Pu.sz, reduceIte, Pu.n0, Pu.n1, Pu.n2, Pu.n3, Pu.n4, Pu.n5, Pu.n6, Pu.n7, Pu.n8, Pu.n9, Int.reduceBEq, beq_self_eq_true, Pu.io_tup, Pu.io_lst, Pu.io_int, Pu.io_bl, Pu.io_str, Pu.io_non, decide_true, decide_false, sf, fs, zs, hf, hz, a, t]
end Pu
set_option Elab.async false
set_option linter.all false
set_option maxRecDepth 100000
set_option maxHeartbeats 4000000
/-! Pu: where two kinds part. -/
namespace Pu
open PySem PySem.Spec PyProof.Rows L2 Pl
def keepD (k : KD2) (h : D) : D := match actV h k.2 k.1 with
  | .tup (u :: _) => u
  | _ => .non
def srtV (k : KD2) (h : D) : D := .lst false (sortD ((resP k h).map rD))
def difV (a b : KD2) (h : D) : Bool := !eqvD (keepD a h) (keepD b h) || !eqvD (srtV a h) (srtV b h)
def partV (a b : KD2) : D := (headsL.find? (difV a b)).getD .non
theorem eqvD_comm (a b : D) : eqvD a b = eqvD b a := by
  unfold eqvD
  cases a.py <;> cases b.py <;> first | rfl | exact PySem.W.eqv_comm _ _
theorem difV_comm (a b : KD2) (h : D) : difV a b h = difV b a h := by
  unfold difV
  rw [eqvD_comm (keepD a h), eqvD_comm (srtV a h)]
theorem partV_comm (a b : KD2) : partV a b = partV b a := by
  unfold partV
  rw [show difV a b = difV b a from funext fun h => difV_comm a b h]
/-- what is to be known of what a kind sends -/
theorem acts_of {k : KD2} (g : GK k) {h : D} (hh : h ∈ headsL) : ∃ u, actV h k.2 k.1 = .tup [.bl u, .tup ((resP k h).map rD)] ∧ keepD k h = .bl u ∧ D.fzL ((resP k h).map rD) = true ∧ dSorted (.tup ((resP k h).map rD)) = some (.lst true (sortD ((resP k h).map rD))) ∧
    D.frzL (sortD ((resP k h).map rD)) = sortD ((resP k h).map rD) ∧ plN 7 (srtV k h) = true := by
  obtain ⟨u, e, gp, l⟩ := res_ok g hh
  have ra := res_all gp
  have so : sortOk ((resP k h).map rD) = true := sortOk_res ra (by rw [List.length_map]; omega)
  refine ⟨u, e, ?_, fzL_all fun d hd => (ra d hd).fz, ?_, frzL_of (fzL_all fun d hd => (ra d (sort_mem.mp hd)).fz), ?_⟩
  · unfold keepD
    rw [e]
  · show (if sortOk _ = true then some (D.lst true (sortD _)) else none) = _
    rw [if_pos so]
  · exact plN_lst (List.all_eq_true.mpr fun d hd => (ra d (sort_mem.mp hd)).pl) (by rw [sort_len, List.length_map]; omega) false
theorem difV_self {k : KD2} (g : GK k) {h : D} (hh : h ∈ headsL) : difV k k h = false := by
  obtain ⟨u, _, e, _, _, _, p⟩ := acts_of g hh
  unfold difV
  rw [eqvD_refl p (by decide), e, eqvD_refl (n := 1) (d := .bl u) rfl (by decide)]
  rfl
theorem part_self {k : KD2} (g : GK k) : partV k k = .non := by
  unfold partV
  rw [List.find?_eq_none.mpr fun h hh => by rw [difV_self g hh]; exact Bool.false_ne_true]
  rfl
theorem part_or (a b : KD2) : partV a b = .non ∨ partV a b ∈ headsL := by
  unfold partV
  cases q : headsL.find? (difV a b) with
  | none => exact .inl rfl
  | some h => exact .inr (List.mem_of_find?_eq_some q)
theorem part_fz (a b : KD2) : (partV a b).fz = true := by
  rcases part_or a b with h | h
  · rw [h]; rfl
  · exact head_fz h
theorem heads_pl8 : (headsL.all (plN 8)) = true := by kernel_rfl
theorem part_pl (a b : KD2) : plN 8 (partV a b) = true := by
  rcases part_or a b with h | h
  · rw [h]; rfl
  · exact List.all_eq_true.mp heads_pl8 _ h
structure ActV (c : List D → RC) (A : D) (k : KD2) : Prop where
  fz : A.fz = true
  run : ∀ h ∈ headsL, c [A, h] = .ok (actV h k.2 k.1) []
  gk : GK k
def pI : M Fl := mIf (mOr (mBin (dEq true) (mBin dIdx (mVar 3) (mC (.int 0))) (mBin dIdx (mVar 4) (mC (.int 0)))) (mBin (dEq true) (mB (one dSorted) (mCons (mBin dIdx (mVar 3) (mC (.int 1))) mNil)) (mB (one dSorted) (mCons (mBin dIdx (mVar 4) (mC (.int 1))) mNil)))) (mRet (mVar 2)) (mNext)
def pP (c : List D → RC) : M Fl := mPar 3 4 (mCons (mCall c (mCons (mVar 0) (mCons (mVar 2) (mNil)))) (mCons (mCall c (mCons (mVar 1) (mCons (mVar 2) (mNil)))) (mNil)))
def pB (c : List D → RC) : M Fl := mSeq (pP c) pI
def m_par (it : M (List D)) (c : List D → RC) : M Fl := mSeq (mFor it (.nm 2) (pB c)) <| mRet (mC .non)
def flH (b : Bool) (h : D) : Fl := if b then .ret h else .next
/-- a value, or what it is when frozen -/
def Is (A X : D) : Prop := X = A ∨ (X.fz = false ∧ X.frz = A)
theorem pI_ok {A B : D} {a b : KD2} (ga : GK a) (gb : GK b) {h : D} (hh : h ∈ headsL) : pI [some A, some B, some h, some (actV h a.2 a.1), some (actV h b.2 b.1)] = .ok (flH (difV a b h) h) [some A, some B, some h, some (actV h a.2 a.1), some (actV h b.2 b.1)] := by
  obtain ⟨u, e1, k1, f1, s1, z1, p1⟩ := acts_of ga hh
  obtain ⟨v, e2, k2, f2, s2, z2, p2⟩ := acts_of gb hh
  have fh := head_fz hh
  have y1 := frzL_of f1
  have y2 := frzL_of f2
  have d0 := dEq_ok (n := 1) (a := .bl u) (b := .bl v) rfl rfl (by decide) true
  have d1 := dEq_ok p1 p2 (by decide) true
  unfold difV
  rw [e1, e2, k1, k2]
  unfold srtV at d1 ⊢
  generalize (resP a h).map rD = ra at *
  generalize (resP b h).map rD = rb at *
  simp only [if_true] at d0 d1
  generalize eqvD (.bl u) (.bl v) = t1 at *
  generalize eqvD (.lst false (sortD ra)) (.lst false (sortD rb)) = t2 at *
  cases t1 <;> cases t2 <;> simp only [pI, runF, mSeq, mSet, mMov, mBin, mUn, mB, mCons, mNil, mVar, mBinL, mBinR, mUnP, mC, isIn, mIf, mRet, mNext, mBrk, mDo, mAnd, mOr, mNot, mIte, mTup, mLst, mSlice, mNoPart, mPart, mCall, mCallIO, mAsg, mPar, mPar3, asg, asgL, onB, R.bind_ok, R.bind_exc, R.bind_fail, R.of, one, dInt, dTuple, dList, dLen, dIdx, D.fz, D.frz, D.fzL, D.frzL, runE, pickIO, List.length_cons, List.length_nil, List.map_cons, List.map_nil, List.cons_append, List.nil_append, List.getElem?_cons_zero, List.getElem?_cons_succ, List.set_cons_zero, List.set_cons_succ, if_true, if_false, Bool.false_eq_true, Bool.not_true, Bool.not_false, Bool.true_and, Bool.false_and, Bool.and_true, Bool.and_self, List.replicate, Nat.reduceAdd, Nat.reduceSub, Nat.reduceLT, Nat.reduceLeDiff, Nat.reduceEqDiff, Option.bind_some, Option.map_some, Pu.atI0, Pu.atI1, Pu.atI2, Pu.atI3, and_self, Pu.sz, reduceIte, Pu.n0, Pu.n1, Pu.n2, Pu.n3, Pu.n4, Pu.n5, Pu.n6, Pu.n7, Pu.n8, Pu.n9, Int.reduceBEq, beq_self_eq_true, Pu.io_tup, Pu.io_lst, Pu.io_int, Pu.io_bl, Pu.io_str, Pu.io_non, decide_true, decide_false, f1, f2, y1, y2, s1, s2, z1, z2, d0, d1, fh, flH, Bool.true_or, Bool.false_or, Bool.or_false]
theorem pP_ok {c : List D → RC} {A B : D} {a b : KD2} (ha : ActV c A a) (hb : ActV c B b) {X Y : D} (hX : Is A X) (hY : Is B Y) {h : D} (hh : h ∈ headsL) (x3 x4 : Option D) :
    pP c [some X, some Y, some h, x3, x4] = .ok .next [some A, some B, some h, some (actV h a.2 a.1), some (actV h b.2 b.1)] := by
  have fh := head_fz hh
  have zh := D.frz_id h fh
  have fa := ha.fz
  have fb := hb.fz
  have ra := ha.run h hh
  have rb := hb.run h hh
  rcases hX with rfl | ⟨q1, q2⟩ <;> rcases hY with rfl | ⟨q3, q4⟩
  · simp only [pP, runF, mSeq, mSet, mMov, mBin, mUn, mB, mCons, mNil, mVar, mBinL, mBinR, mUnP, mC, isIn, mIf, mRet, mNext, mBrk, mDo, mAnd, mOr, mNot, mIte, mTup, mLst, mSlice, mNoPart, mPart, mCall, mCallIO, mAsg, mPar, mPar3, asg, asgL, onB, R.bind_ok, R.bind_exc, R.bind_fail, R.of, one, dInt, dTuple, dList, dLen, dIdx, D.fz, D.frz, D.fzL, D.frzL, runE, pickIO, List.length_cons, List.length_nil, List.map_cons, List.map_nil, List.cons_append, List.nil_append, List.getElem?_cons_zero, List.getElem?_cons_succ, List.set_cons_zero, List.set_cons_succ, if_true, if_false, Bool.false_eq_true, Bool.not_true, Bool.not_false, Bool.true_and, Bool.false_and, Bool.and_true, Bool.and_self, List.replicate, Nat.reduceAdd, Nat.reduceSub, Nat.reduceLT, Nat.reduceLeDiff, Nat.reduceEqDiff, Option.bind_some, Option.map_some, Pu.atI0, Pu.atI1, Pu.atI2, Pu.atI3, and_self, Pu.sz, reduceIte, Pu.n0, Pu.n1, Pu.n2, Pu.n3, Pu.n4, Pu.n5, Pu.n6, Pu.n7, Pu.n8, Pu.n9, Int.reduceBEq, beq_self_eq_true, Pu.io_tup, Pu.io_lst, Pu.io_int, Pu.io_bl, Pu.io_str, Pu.io_non, decide_true, decide_false, fh, fa, fb, ra, rb]
  · simp only [pP, runF, mSeq, mSet, mMov, mBin, mUn, mB, mCons, mNil, mVar, mBinL, mBinR, mUnP, mC, isIn, mIf, mRet, mNext, mBrk, mDo, mAnd, mOr, mNot, mIte, mTup, mLst, mSlice, mNoPart, mPart, mCall, mCallIO, mAsg, mPar, mPar3, asg, asgL, onB, R.bind_ok, R.bind_exc, R.bind_fail, R.of, one, dInt, dTuple, dList, dLen, dIdx, D.fz, D.frz, D.fzL, D.frzL, runE, pickIO, List.length_cons, List.length_nil, List.map_cons, List.map_nil, List.cons_append, List.nil_append, List.getElem?_cons_zero, List.getElem?_cons_succ, List.set_cons_zero, List.set_cons_succ, if_true, if_false, Bool.false_eq_true, Bool.not_true, Bool.not_false, Bool.true_and, Bool.false_and, Bool.and_true, Bool.and_self, List.replicate, Nat.reduceAdd, Nat.reduceSub, Nat.reduceLT, Nat.reduceLeDiff, Nat.reduceEqDiff, Option.bind_some, Option.map_some, Pu.atI0, Pu.atI1, Pu.atI2, Pu.atI3, and_self, Pu.sz, reduceIte, Pu.n0, Pu.n1, Pu.n2, Pu.n3, Pu.n4, Pu.n5, Pu.n6, Pu.n7, Pu.n8, Pu.n9, Int.reduceBEq, beq_self_eq_true, Pu.io_tup, Pu.io_lst, Pu.io_int, Pu.io_bl, Pu.io_str, Pu.io_non, decide_true, decide_false, fh, fa, fb, q3, q4, ra, rb]
  · simp only [pP, runF, mSeq, mSet, mMov, mBin, mUn, mB, mCons, mNil, mVar, mBinL, mBinR, mUnP, mC, isIn, mIf, mRet, mNext, mBrk, mDo, mAnd, mOr, mNot, mIte, mTup, mLst, mSlice, mNoPart, mPart, mCall, mCallIO, mAsg, mPar, mPar3, asg, asgL, onB, R.bind_ok, R.bind_exc, R.bind_fail, R.of, one, dInt, dTuple, dList, dLen, dIdx, D.fz, D.frz, D.fzL, D.frzL, runE, pickIO, List.length_cons, List.length_nil, List.map_cons, List.map_nil, List.cons_append, List.nil_append, List.getElem?_cons_zero, List.getElem?_cons_succ, List.set_cons_zero, List.set_cons_succ, if_true, if_false, Bool.false_eq_true, Bool.not_true, Bool.not_false, Bool.true_and, Bool.false_and, Bool.and_true, Bool.and_self, List.replicate, Nat.reduceAdd, Nat.reduceSub, Nat.reduceLT, Nat.reduceLeDiff, Nat.reduceEqDiff, Option.bind_some, Option.map_some, Pu.atI0, Pu.atI1, Pu.atI2, Pu.atI3, and_self, Pu.sz, reduceIte, Pu.n0, Pu.n1, Pu.n2, Pu.n3, Pu.n4, Pu.n5, Pu.n6, Pu.n7, Pu.n8, Pu.n9, Int.reduceBEq, beq_self_eq_true, Pu.io_tup, Pu.io_lst, Pu.io_int, Pu.io_bl, Pu.io_str, Pu.io_non, decide_true, decide_false, fh, fa, fb, q1, q2, ra, rb]
  · simp only [pP, runF, mSeq, mSet, mMov, mBin, mUn, mB, mCons, mNil, mVar, mBinL, mBinR, mUnP, mC, isIn, mIf, mRet, mNext, mBrk, mDo, mAnd, mOr, mNot, mIte, mTup, mLst, mSlice, mNoPart, mPart, mCall, mCallIO, mAsg, mPar, mPar3, asg, asgL, onB, R.bind_ok, R.bind_exc, R.bind_fail, R.of, one, dInt, dTuple, dList, dLen, dIdx, D.fz, D.frz, D.fzL, D.frzL, runE, pickIO, List.length_cons, List.length_nil, List.map_cons, List.map_nil, List.cons_append, List.nil_append, List.getElem?_cons_zero, List.getElem?_cons_succ, List.set_cons_zero, List.set_cons_succ, if_true, if_false, Bool.false_eq_true, Bool.not_true, Bool.not_false, Bool.true_and, Bool.false_and, Bool.and_true, Bool.and_self, List.replicate, Nat.reduceAdd, Nat.reduceSub, Nat.reduceLT, Nat.reduceLeDiff, Nat.reduceEqDiff, Option.bind_some, Option.map_some, Pu.atI0, Pu.atI1, Pu.atI2, Pu.atI3, and_self, Pu.sz, reduceIte, Pu.n0, Pu.n1, Pu.n2, Pu.n3, Pu.n4, Pu.n5, Pu.n6, Pu.n7, Pu.n8, Pu.n9, Int.reduceBEq, beq_self_eq_true, Pu.io_tup, Pu.io_lst, Pu.io_int, Pu.io_bl, Pu.io_str, Pu.io_non, decide_true, decide_false, fh, fa, fb, q1, q2, q3, q4, ra, rb]
theorem p_loop {c : List D → RC} {A B : D} {a b : KD2} (ha : ActV c A a) (hb : ActV c B b) : ∀ (hs : List D) (X Y : D) (x2 x3 x4 : Option D), Is A X → Is B Y → (∀ h ∈ hs, h ∈ headsL) →
    ∃ X' Y' y2 y3 y4, forL (.nm 2) (pB c) hs [some X, some Y, x2, x3, x4] = .ok (match hs.find? (difV a b) with | some h => .ret h | none => .next) [some X', some Y', y2, y3, y4]
  | [], X, Y, x2, x3, x4, _, _, _ => ⟨X, Y, x2, x3, x4, rfl⟩
  | h :: hs, X, Y, x2, x3, x4, hX, hY, hh => by
    have h1 := hh h List.mem_cons_self
    have e1 := pP_ok ha hb hX hY h1 x3 x4
    have e2 := pI_ok (A := A) (B := B) ha.gk hb.gk h1
    have e3 : pB c [some X, some Y, some h, x3, x4] = .ok (flH (difV a b h) h) [some A, some B, some h, some (actV h a.2 a.1), some (actV h b.2 b.1)] := by
      simp only [pB, mSeq, e1, R.bind_ok, e2]
    have as : asg (.nm 2) h [some X, some Y, x2, x3, x4] = some [some X, some Y, some h, x3, x4] := rfl
    rw [forL]
    simp only [as, e3, List.find?_cons]
    cases q : difV a b h with
    | true =>
      exact ⟨A, B, some h, _, _, rfl⟩
    | false =>
      obtain ⟨X', Y', y2, y3, y4, e4⟩ := p_loop ha hb hs A B (some h) (some (actV h a.2 a.1)) (some (actV h b.2 b.1)) (.inl rfl) (.inl rfl) fun x hx => hh x (List.mem_cons_of_mem _ hx)
      exact ⟨X', Y', y2, y3, y4, e4⟩
theorem par_ok {c : List D → RC} {it : M (List D)} (hit : ∀ e, it e = .ok headsL e) {A B : D} {a b : KD2} (ha : ActV c A a) (hb : ActV c B b) {X Y : D} (hX : Is A X) (hY : Is B Y) : runF 0 2 5 (m_par it c) [X, Y] = .ok (partV a b) [] := by
  obtain ⟨X', Y', y2, y3, y4, e⟩ := p_loop ha hb headsL X Y none none none hX hY fun _ h => h
  unfold partV
  cases q : headsL.find? (difV a b) with
  | none =>
    rw [q] at e
    simp only [m_par, runF, mSeq, mSet, mMov, mBin, mUn, mB, mCons, mNil, mVar, mBinL, mBinR, mUnP, mC, isIn, mIf, mRet, mNext, mBrk, mDo, mAnd, mOr, mNot, mIte, mTup, mLst, mSlice, mNoPart, mPart, mCall, mCallIO, mAsg, mPar, mPar3, asg, asgL, onB, R.bind_ok, R.bind_exc, R.bind_fail, R.of, one, dInt, dTuple, dList, dLen, dIdx, D.fz, D.frz, D.fzL, D.frzL, runE, pickIO, List.length_cons, List.length_nil, List.map_cons, List.map_nil, List.cons_append, List.nil_append, List.getElem?_cons_zero, List.getElem?_cons_succ, List.set_cons_zero, List.set_cons_succ, if_true, if_false, Bool.false_eq_true, Bool.not_true, Bool.not_false, Bool.true_and, Bool.false_and, Bool.and_true, Bool.and_self, List.replicate, Nat.reduceAdd, Nat.reduceSub, Nat.reduceLT, Nat.reduceLeDiff, Nat.reduceEqDiff, Option.bind_some, Option.map_some, Pu.atI0, Pu.atI1, Pu.atI2, Pu.atI3, and_self, Pu.sz, reduceIte, Pu.n0, Pu.n1, Pu.n2, Pu.n3, Pu.n4, Pu.n5, Pu.n6, Pu.n7, Pu.n8, Pu.n9, Int.reduceBEq, beq_self_eq_true, Pu.io_tup, Pu.io_lst, Pu.io_int, Pu.io_bl, Pu.io_str, Pu.io_non, decide_true, decide_false, mFor, hit, e, Option.getD_none]
  | some h =>
    rw [q] at e
    simp only [m_par, runF, mSeq, mSet, mMov, mBin, mUn, mB, mCons, mNil, mVar, mBinL, mBinR, mUnP, mC, isIn, mIf, mRet, mNext, mBrk, mDo, mAnd, mOr, mNot, mIte, mTup, mLst, mSlice, mNoPart, mPart, mCall, mCallIO, mAsg, mPar, mPar3, asg, asgL, onB, R.bind_ok, R.bind_exc, R.bind_fail, R.of, one, dInt, dTuple, dList, dLen, dIdx, D.fz, D.frz, D.fzL, D.frzL, runE, pickIO, List.length_cons, List.length_nil, List.map_cons, List.map_nil, List.cons_append, List.nil_append, List.getElem?_cons_zero, List.getElem?_cons_succ, List.set_cons_zero, List.set_cons_succ, if_true, if_false, Bool.false_eq_true, Bool.not_true, Bool.not_false, Bool.true_and, Bool.false_and, Bool.and_true, Bool.and_self, List.replicate, Nat.reduceAdd, Nat.reduceSub, Nat.reduceLT, Nat.reduceLeDiff, Nat.reduceEqDiff, Option.bind_some, Option.map_some, Pu.atI0, Pu.atI1, Pu.atI2, Pu.atI3, and_self, Pu.sz, reduceIte, Pu.n0, Pu.n1, Pu.n2, Pu.n3, Pu.n4, Pu.n5, Pu.n6, Pu.n7, Pu.n8, Pu.n9, Int.reduceBEq, beq_self_eq_true, Pu.io_tup, Pu.io_lst, Pu.io_int, Pu.io_bl, Pu.io_str, Pu.io_non, decide_true, decide_false, mFor, hit, e, Option.getD_some]
end Pu
set_option Elab.async false
set_option linter.all false
set_option maxRecDepth 100000
set_option maxHeartbeats 1000000
/-! Pl: a tuple turned round by a slice. -/
namespace PlRev
open PySem PySem.Spec PyProof.Rows L2 HT
section
variable {prog : Program} {w : World} {A : Around} {E : Value → Shared → Prop} {s : Shared}
theorem adjust_rev (n : Nat) : Builtin.Slice.sliceAdjust none none (-1) (n : Int) = ((n : Int) - 1, -1) := by
  unfold Builtin.Slice.sliceAdjust
  rfl
theorem places_rev (n : Nat) : Builtin.Slice.slicePlaces ((n : Int) - 1) (-1) (-1) = n := by
  unfold Builtin.Slice.slicePlaces
  rw [if_neg (by decide)]
  by_cases h : (n : Int) - 1 > -1
  · rw [if_pos h, show (- -1 : Int) = 1 by decide, Int.ediv_one]
    omega
  · rw [if_neg h]
    omega
theorem applied_rev {sl : Addr} {vs : Value} {n : Nat} {Q : Int × Int × Nat → Shared → Prop} (hs : s.heap.IsSliceOf sl .none .none vs) (ps : IsPart vs (some (-1)))
    (h : Q ((n : Int) - 1, -1, n) s) : wpAny (model prog w) A (Builtin.Slice.sliceApplied (.ref sl) (pure (n : Int))) Q E s := by
  obtain ⟨os, hos, hcs, hds⟩ := id hs
  unfold Builtin.Slice.sliceApplied Builtin.Slice.sliceFields
  refine wpAny_bind (wpAny_bind (wpAny_field hos hds (x := .none) rfl (wpAny_bind (wpAny_field hos hds (x := .none) rfl (wpAny_bind (wpAny_field hos hds (x := vs) rfl (wpAny_pure ?_)))))))
  refine wpAny_bind (slicePart_ ps ?_)
  show wpAny _ _ (if ((-1 : Int) == 0) = true then _ else _) _ _ s
  rw [if_neg (by decide)]
  refine wpAny_bind (slicePart_none (wpAny_bind (slicePart_none (wpAny_bind (wpAny_pure ?_)))))
  show wpAny _ _ (match Builtin.Slice.sliceAdjust none none (-1) (n : Int) with | (lo, hi) => pure (lo, (-1 : Int), Builtin.Slice.slicePlaces lo hi (-1))) _ _ s
  rw [adjust_rev n]
  show wpAny _ _ (pure ((n : Int) - 1, (-1 : Int), Builtin.Slice.slicePlaces ((n : Int) - 1) (-1) (-1))) _ _ s
  rw [places_rev]
  exact wpAny_pure h
theorem pick_rev (xs : Array Value) : ((List.range xs.size).filterMap fun (m : Nat) => xs[(((xs.size : Int) - 1) + (m : Int) * (-1)).toNat]?).toArray = xs.toList.reverse.toArray := by
  have e : (fun (m : Nat) => xs[(((xs.size : Int) - 1) + (m : Int) * (-1)).toNat]?) = (fun x => xs[x]?) ∘ fun m => xs.size - 1 - m := by
    funext m
    have : (((xs.size : Int) - 1) + (m : Int) * (-1)).toNat = xs.size - 1 - m := by omega
    rw [this]
    rfl
  rw [e, ← List.filterMap_map, PySem.W.krv_range, List.filterMap_reverse, PySem.W.krv_all]
theorem item_rev {t sl : Addr} {items : Array Value} {vs : Value} {Q : Value → Shared → Prop} (ht : IsTup s.heap t items) (hs : s.heap.IsSliceOf sl .none .none vs) (ps : IsPart vs (some (-1)))
    (h : Q (.ref s.heap.objs.size) { s with heap := s.heap.push { cls := .type "tuple", data := .seq items.toList.reverse.toArray } })
    (hsz : items.size ≤ sizeLine) : wpAny (model prog w) A (getItem (.ref t) (.ref sl)) Q E s := by
  have htake : sizeOk (.seq items.toList.reverse.toArray) := by
    show items.toList.reverse.toArray.size ≤ sizeLine
    rw [List.size_toArray, List.length_reverse, Array.length_toList]
    exact hsz
  obtain ⟨os, hos, hcs, hds⟩ := id hs
  have hTs : s.TypeIs (.ref sl) "slice" := ⟨os, hos, hcs⟩
  unfold getItem
  try with_reducible refine wpAny_holding ?_
  first | refine wpAny_bind (wpAny_pure ?_) | skip
  refine wpAny_bind (wpAny_sequenceKey ht.typeIs (by decide) ?_)
  refine wpAny_bind (wpAny_callSpecial?_slot (name := Str.ofString "__getitem__") ht.typeIs PyProof.Rows.slot_tuple_getitem
    (wpAny_call_entry PyProof.Rows.slot_tuple_getitem ht.typeIs entry_tuple_getitem ?_ (args_tuple_getitem _ _)))
  show wpAny _ _ (Builtin.Tuple.tupleItemsOf (.ref t) >>= _) _ _ s
  refine wpAny_bind (tupleItemsOf_ ht ?_)
  refine wpAny_bind (wpAny_typeOf hTs ?_)
  rw [if_pos (by decide)]
  refine wpAny_bind (applied_rev hs ps ?_)
  have hno : ¬ ((((items.size : Int) - 1) == 0 && (-1 : Int) == 1 && items.size == items.size) = true) := by
    intro q
    rw [Bool.and_eq_true, Bool.and_eq_true] at q
    exact absurd q.1.2 (by decide)
  show wpAny _ _ (if (((items.size : Int) - 1) == 0 && (-1 : Int) == 1 && items.size == items.size) = true then _ else _) _ _ s
  rw [if_neg hno, pick_rev]
  first
    | exact wpAny_bind (m := Builtin.Tuple.tupleExact _) (wpAny_newObj_type (wpAny_pure ⟨_, rfl, wpAny_pure h⟩) htake)
    | exact wpAny_bind (m := Builtin.Tuple.tupleExact _) (wpAny_newObj_type (wpAny_bind (wpAny_pure (wpAny_pure ⟨_, rfl, wpAny_pure h⟩))) htake)
    | exact wpAny_bind (wpAny_bind (m := Builtin.Tuple.tupleExact _) (wpAny_newObj_type (wpAny_pure (wpAny_pure ⟨_, rfl, wpAny_pure h⟩)) htake))
    | exact wpAny_bind (wpAny_bind (m := Builtin.Tuple.tupleExact _) (wpAny_newObj_type (wpAny_pure ⟨_, rfl, wpAny_pure h⟩) htake))
end
end PlRev
namespace Pl
open PySem PySem.Spec PyProof.Rows L2
def rRev (K : PySem.W.Frag) : V → Hp → VK → Prop := fun x H Q => ∃ a xs, x = .ref a ∧ SqT K H a xs ∧ ∀ p, H p = none → Q (.ref p) (upd H p (.tup xs.reverse))
/-- t[::-1], t a tuple -/
theorem pe_revT {X : Cx} {e : Expr} {te : TE} {k : Nat} {p1 p2 p3 pos : Pos} (he : PE X e te) : PE X (.Subscript e (.Slice none none (some (.UnaryOp .USub (.Constant (.int 1) k p1) p2)) p3) pos) (fun σ H Q => te σ H fun x H1 => rRev X.K x H1 Q) := by
  refine ⟨fun pins s σ H Q I h => Subscript_ (thn (he.run pins s σ H _ I h) fun v s1 ⟨x, H1, I1, r1, a, xs, ex, hx, q⟩ => ?_)⟩
  subst ex
  cases r1
  have hst : PO X (some (.UnaryOp .USub (.Constant (.int 1) k p1) p2)) (tPart (tUn (rU fun i => .int (-i)) (tC (.int 1)))) := po_some (pe_un un_neg pe_int)
  refine wpAny_Slice ?_
  rw [evalPart_none]
  refine wpAny_pure (wpAny_pure ?_)
  refine thn (hst.run pins s1 σ H1 (fun o H4 => o = some (-1) ∧ H4 = H1) I1 ⟨1, rfl, -1, rfl, rfl, rfl⟩) fun vs s4 ⟨o, H4, I4, ps, eo, e4⟩ => ?_
  subst eo e4
  have I5 : Inv X pins σ H4 { s4 with heap := s4.heap.push { cls := .type "slice", data := .fields #[.none, .none, vs] } } := I4.kept (t' := s4.toks) fun b ob q => Heap.get?_push_of_some _ q
  obtain ⟨its, r, ht, hz⟩ := I5.tuple hx
  show wpAny (model X.prog X.w) X.A (subscriptTail e (.Slice none none (some (.UnaryOp .USub (.Constant (.int 1) k p1) p2)) p3) (.ref a) (.ref s4.heap.objs.size)) (EP X pins σ Q) X.xe { s4 with heap := s4.heap.push { cls := .type "slice", data := .fields #[.none, .none, vs] } }
  refine tail_any (ops := [.ref a, .ref s4.heap.objs.size]) ht.typeIs (PyProof.Rows.slot_tuple_getitem.lookup) ?_ (by with_unfolding_all rfl)
  have hlen := r.length
  refine PlRev.item_rev ht (Heap.IsSliceOf.new _ .none .none vs) ps ?_ (by rw [List.size_toArray, ← hlen]; exact hz)
  refine ⟨.ref _, _, I5.laid (t' := s4.toks) (o := .tup xs.reverse) (fun b ob q => Heap.get?_push_of_some _ q) (Nat.le_refl _) ?_, rfl, q _ (I5.hok.fresh (Nat.le_refl _))⟩
  exact ⟨by rw [List.length_reverse]; exact hz, _, r.reverse, IsTup.new _ _⟩
def dRev : D → Option D
  | .tup ds => if D.fzL ds = true then some (.tup ds.reverse) else none
  | _ => none
section
variable {K : PySem.W.Frag} {w : World} {F : Fset} {H : Hp}
theorem RpL.snoc0 : ∀ {ds : List D} {vs : List V} {d : D} {v : V}, RpL K w F H ds vs [] → Rp K w F H d v [] → RpL K w F H (ds ++ [d]) (vs ++ [v]) []
  | [], vs, d, v, h, h1 => by
    have : vs = [] := by have := h.length; simpa using this.symm
    subst this
    exact RpL.cons (S1 := []) h1 RpL.nil
  | d' :: ds, vs, d, v, h, h1 => by
    obtain ⟨v', r, S1, S2, rfl, e, h3, h2⟩ := h.uncons
    obtain ⟨rfl, rfl⟩ := List.append_eq_nil_iff.mp e.symm
    exact RpL.cons (S1 := []) h3 (RpL.snoc0 h2 h1)
theorem RpL.rev : ∀ {ds : List D} {vs : List V}, RpL K w F H ds vs [] → RpL K w F H ds.reverse vs.reverse []
  | [], vs, h => by
    have : vs = [] := by have := h.length; simpa using this.symm
    subst this
    exact h
  | d :: ds, vs, h => by
    obtain ⟨v', r, S1, S2, rfl, e, h3, h2⟩ := h.uncons
    obtain ⟨rfl, rfl⟩ := List.append_eq_nil_iff.mp e.symm
    rw [List.reverse_cons, List.reverse_cons]
    exact RpL.snoc0 (RpL.rev h2) h3
theorem op1_rev : Op1 K w (rRev K) dRev := fun F H S1 d1 d x Q g h1 e k => by
  cases d1 with
  | tup ds =>
    rw [dRev] at e
    split at e
    · rename_i z
      cases e
      rw [Rp] at h1
      obtain ⟨a, vs, rfl, s, r⟩ := h1
      exact ⟨a, vs, rfl, s, fun p hp => resT g k (RpL.rev (r.fzs z)) p hp⟩
    · cases e
  | _ => cases e
end
section
variable {X : Cx} {W : WX} {a : Expr} {ma : M D} {k : Nat} {p1 p2 p3 pos : Pos}
theorem dE_rev (ha : PE X a (tE X W ma)) : PE X (.Subscript a (.Slice none none (some (.UnaryOp .USub (.Constant (.int 1) k p1) p2)) p3) pos) (tE X W (mUn dRev ma)) := PEimp (pe_revT ha) (tE_op1 op1_rev)
end
end Pl
set_option Elab.async false
set_option linter.all false
set_option maxRecDepth 100000
set_option maxHeartbeats 4000000
/-! printed by gen.py -/
namespace V11
open PySem PySem.Spec PyProof.Rows L2 Pl
def top (i : Nat) : Stmt := PySem.Challenge.pw_listletters_k11_whole_partings.main.body.getD i (.Pass ⟨0, 0, 0, 0⟩)
def cs : List Str := ["Kind"]
def exs : List Str := ["InvalidRow", "InvalidGuard"]
def k_MARKS : D := (.tup [(.str "a"), (.str "b"), (.str "c")])
def k_MOST_COUNT : D := (.int 3)
def k_MOST_ROWS : D := (.int 4)
def k_MOST_TESTS : D := (.int 2)
def k_MOST_SENDS : D := (.int 2)
def k_PLACES : D := (.tup [(.str "all"), (.str "back")])
def blts : List Str := ["all", "any", "bool", "dict", "enumerate", "int", "isinstance", "len", "list", "max", "min", "range", "set", "sorted", "str", "tuple", "zip"]
def flds : List Str := ["guard", "lines"]
/-- what the written part says, besides the defs -/
structure Fa (w : World) (K : PySem.W.Frag) (mg : Str → Option Value) : Prop where
  isi : IsiF K cs
  bl : ∀ x : Str, blts.contains x = true → mg x = none
  gc : ∀ c : Str, cs.contains c = true → mg c = some (.ref (He.ga K c))
  fld : ∀ f : Str, flds.contains f = true → FldF K cs f
  exs : ExS K mg exs
  g_MARKS : GloD K w mg "MARKS" k_MARKS
  g_MOST_COUNT : GloD K w mg "MOST_COUNT" k_MOST_COUNT
  g_MOST_ROWS : GloD K w mg "MOST_ROWS" k_MOST_ROWS
  g_MOST_TESTS : GloD K w mg "MOST_TESTS" k_MOST_TESTS
  g_MOST_SENDS : GloD K w mg "MOST_SENDS" k_MOST_SENDS
  g_PLACES : GloD K w mg "PLACES" k_PLACES
  x_InvalidGuard : ExX PySem.Challenge.pw_listletters_k11_whole_partings K mg "InvalidGuard" none
  x_InvalidRow : ExX PySem.Challenge.pw_listletters_k11_whole_partings K mg "InvalidRow" (some "index")
/-! ### is_integer -/
def m_is_integer : M Fl :=
  mRet (mAnd (mUn (dIsT cs "int") (mVar 0)) (mAnd (mNot (mUn (dIsT cs "bool") (mVar 0))) (mChI (fun i j => decide (i ≤ j)) (fun i j => decide (i ≤ j)) (mVar 1) (mVar 0) (mVar 2))))
def c_is_integer : List D → RC := runF 0 3 3 m_is_integer
def N_is_integer : List Str := ["thing", "low", "high"]
def P_is_integer : List Str := ["thing", "low", "high"]
theorem sc_is_integer : FnScope N_is_integer P_is_integer (defScope (top 12)) := ⟨rfl, rfl, rfl, by decide +kernel, rfl, by decide +kernel, by decide +kernel⟩
theorem d_is_integer {w : World} {K : PySem.W.Frag} {mg : Str → Option Value} {base : Heap} (hF : Fa w K mg)  {f : Addr} {fd : FuncData} (F : FunD K "is_integer" "is_integer" (defArgs (top 12)) (defBody (top 12)) (defScope (top 12)) [] [] f fd) :
    FnOk PySem.Challenge.pw_listletters_k11_whole_partings w K mg base (L2.CX PySem.Challenge.pw_listletters_k11_whole_partings w) 1 f fd P_is_integer (SpD K w 0 c_is_integer) :=
  fnOk_of F sc_is_integer (by decide) fun cdv A outer s H E pn W hr hpn0 tk => by
    have hpn := hpn0 rfl; have nd := sc_is_integer.nd
    exact (dSs_one (dS_ret (dE_and (dE_isT hF.isi (by decide) (dE_var 0) (by decide +kernel) (hF.bl "int" (by decide)) (hF.bl "isinstance" (by decide))) (dE_and (dE_not (dE_isT hF.isi (by decide) (dE_var 0) (by decide +kernel) (hF.bl "bool" (by decide)) (hF.bl "isinstance" (by decide)))) (dE_one (dE_chI op_le op_le (dE_var 1) (dE_var 0) (dE_var 2)))))))
/-! ### is_one_of -/
def m_is_one_of : M Fl :=
  mRet (mAnd (mUn (dIsT cs "str") (mVar 0)) (mBin (dIn false) (mVar 0) (mVar 1)))
def c_is_one_of : List D → RC := runF 0 2 2 m_is_one_of
def N_is_one_of : List Str := ["thing", "some"]
def P_is_one_of : List Str := ["thing", "some"]
theorem sc_is_one_of : FnScope N_is_one_of P_is_one_of (defScope (top 13)) := ⟨rfl, rfl, rfl, by decide +kernel, rfl, by decide +kernel, by decide +kernel⟩
theorem d_is_one_of {w : World} {K : PySem.W.Frag} {mg : Str → Option Value} {base : Heap} (hF : Fa w K mg)  {f : Addr} {fd : FuncData} (F : FunD K "is_one_of" "is_one_of" (defArgs (top 13)) (defBody (top 13)) (defScope (top 13)) [] [] f fd) :
    FnOk PySem.Challenge.pw_listletters_k11_whole_partings w K mg base (L2.CX PySem.Challenge.pw_listletters_k11_whole_partings w) 1 f fd P_is_one_of (SpD K w 0 c_is_one_of) :=
  fnOk_of F sc_is_one_of (by decide) fun cdv A outer s H E pn W hr hpn0 tk => by
    have hpn := hpn0 rfl; have nd := sc_is_one_of.nd
    exact (dSs_one (dS_ret (dE_and (dE_isT hF.isi (by decide) (dE_var 0) (by decide +kernel) (hF.bl "str" (by decide)) (hF.bl "isinstance" (by decide))) (dE_one (gE_In hr (dE_var 0) (dE_var 1))))))
/-! ### are_marks -/
def m_are_marks : M Fl :=
  mSeq (mIf (mOr (mNot (mUn (dIsT cs "tuple") (mVar 0))) (mNot (mB (one dAll) (mCons (mLc (mIt (mVar 0)) (.nm 1) [1] (mC (.bl true)) (mCall c_is_one_of (mCons (mVar 1) (mCons (mC k_MARKS) (mNil))))) mNil)))) (mRet (mC (.bl false))) (mNext)) <|
  mRet (mB (one dAll) (mCons (mLc (mZip (mCons (mVar 0) (mCons (mSlice (mVar 0) (mPart (mC (.int 1))) (mNoPart)) (mNil)))) (.tp [.nm 2, .nm 3]) [2, 3] (mC (.bl true)) (mBin (dLt) (mVar 2) (mVar 3))) mNil))
def c_are_marks : List D → RC := runF 0 1 4 m_are_marks
def N_are_marks : List Str := ["thing", "mark", "one", "other"]
def P_are_marks : List Str := ["thing"]
theorem sc_are_marks : FnScope N_are_marks P_are_marks (defScope (top 14)) := ⟨rfl, rfl, rfl, by decide +kernel, rfl, by decide +kernel, by decide +kernel⟩
theorem d_are_marks {w : World} {K : PySem.W.Frag} {mg : Str → Option Value} {base : Heap} (hF : Fa w K mg) (x_is_one_of : FnX PySem.Challenge.pw_listletters_k11_whole_partings w K mg base "is_one_of" 1 0 c_is_one_of) {f : Addr} {fd : FuncData} (F : FunD K "are_marks" "are_marks" (defArgs (top 14)) (defBody (top 14)) (defScope (top 14)) [] [] f fd) :
    FnOk PySem.Challenge.pw_listletters_k11_whole_partings w K mg base (L2.CX PySem.Challenge.pw_listletters_k11_whole_partings w) 2 f fd P_are_marks (SpD K w 0 c_are_marks) :=
  fnOk_of F sc_are_marks (by decide) fun cdv A outer s H E pn W hr hpn0 tk => by
    have hpn := hpn0 rfl; have nd := sc_are_marks.nd
    exact (dSs_cons (dS_if (PW.pt (dW_or (dT_not (dT_of (dE_isT hF.isi (by decide) (dE_var 0) (by decide +kernel) (hF.bl "tuple" (by decide)) (hF.bl "isinstance" (by decide))))) (dW_or1 (dT_not (dT_of (dE_all rfl (hF.bl "all" (by decide)) (dE_lc nd (dI_seq (dE_var 0)) (blkOk_by (own := [("mark", 1)]) (by rfl)) (by decide) (fun s H C cl fp => (dG_nm 1 nd (.inr rfl))) (fun s H C cl fp => dTs_nil) (fun s H C cl fp => (dE_call x_is_one_of (hr.mono (by omega)) takes0 (dA_cons (dE_var 1) (dA_cons (dE_glo hF.g_MARKS) dA_nil))))))))))) (dSs_one (dS_ret dE_bl)) dSs_nil) <|
  (dSs_one (dS_ret (dE_all rfl (hF.bl "all" (by decide)) (dE_lc nd (dI_zip (hF.bl "zip" (by decide)) (dA_cons (dE_var 0) (dA_cons (dE_slice (dE_var 0) (dO_some dE_int) dO_none) dA_nil))) (blkOk_by (own := [("one", 2), ("other", 3)]) (by rfl)) (by decide) (fun s H C cl fp => (dG_tp (dGs_cons (dG_nm 2 nd (.inr rfl)) (dGs_cons (dG_nm 3 nd (.inr rfl)) dGs_nil)))) (fun s H C cl fp => dTs_nil) (fun s H C cl fp => (gE_Lt hr (dE_var 2) (dE_var 3))))))))
/-! ### is_test -/
def m_is_test : M Fl :=
  mSeq (mIf (mOr (mNot (mUn (dIsT cs "tuple") (mVar 0))) (mBin (dEq true) (mB (one dLen) (mCons (mVar 0) mNil)) (mC (.int 2)))) (mRet (mC (.bl false))) (mNext)) <|
  mSeq (mIf (mCall c_is_one_of (mCons (mBin dIdx (mVar 0) (mC (.int 0))) (mCons (mTup (mCons (mC (.str "has")) (mCons (mC (.str "lacks")) (mNil)))) (mNil)))) (mRet (mCall c_is_one_of (mCons (mBin dIdx (mVar 0) (mC (.int 1))) (mCons (mC k_MARKS) (mNil))))) (mNext)) <|
  mRet (mAnd (mCall c_is_one_of (mCons (mBin dIdx (mVar 0) (mC (.int 0))) (mCons (mTup (mCons (mC (.str "least")) (mCons (mC (.str "below")) (mNil)))) (mNil)))) (mCall c_is_integer (mCons (mBin dIdx (mVar 0) (mC (.int 1))) (mCons (mC (.int 1)) (mCons (mC k_MOST_COUNT) (mNil))))))
def c_is_test : List D → RC := runF 0 1 1 m_is_test
def N_is_test : List Str := ["thing"]
def P_is_test : List Str := ["thing"]
theorem sc_is_test : FnScope N_is_test P_is_test (defScope (top 15)) := ⟨rfl, rfl, rfl, by decide +kernel, rfl, by decide +kernel, by decide +kernel⟩
theorem d_is_test {w : World} {K : PySem.W.Frag} {mg : Str → Option Value} {base : Heap} (hF : Fa w K mg) (x_is_integer : FnX PySem.Challenge.pw_listletters_k11_whole_partings w K mg base "is_integer" 1 0 c_is_integer) (x_is_one_of : FnX PySem.Challenge.pw_listletters_k11_whole_partings w K mg base "is_one_of" 1 0 c_is_one_of) {f : Addr} {fd : FuncData} (F : FunD K "is_test" "is_test" (defArgs (top 15)) (defBody (top 15)) (defScope (top 15)) [] [] f fd) :
    FnOk PySem.Challenge.pw_listletters_k11_whole_partings w K mg base (L2.CX PySem.Challenge.pw_listletters_k11_whole_partings w) 2 f fd P_is_test (SpD K w 0 c_is_test) :=
  fnOk_of F sc_is_test (by decide) fun cdv A outer s H E pn W hr hpn0 tk => by
    have hpn := hpn0 rfl; have nd := sc_is_test.nd
    exact (dSs_cons (dS_if (PW.pt (dW_or (dT_not (dT_of (dE_isT hF.isi (by decide) (dE_var 0) (by decide +kernel) (hF.bl "tuple" (by decide)) (hF.bl "isinstance" (by decide))))) (dW_or1 (gT_NotEq hr (dE_len (hF.bl "len" (by decide)) (dE_var 0)) dE_int)))) (dSs_one (dS_ret dE_bl)) dSs_nil) <|
  (dSs_cons (dS_if (dT_of (dE_call x_is_one_of (hr.mono (by omega)) tk (dA_cons (dE_idx (dE_var 0) dE_int) (dA_cons (dE_tup (dA_cons dE_str (dA_cons dE_str dA_nil))) dA_nil)))) (dSs_one (dS_ret (dE_call x_is_one_of (hr.mono (by omega)) tk (dA_cons (dE_idx (dE_var 0) dE_int) (dA_cons (dE_glo hF.g_MARKS) dA_nil))))) dSs_nil) <|
  (dSs_one (dS_ret (dE_and (dE_call x_is_one_of (hr.mono (by omega)) tk (dA_cons (dE_idx (dE_var 0) dE_int) (dA_cons (dE_tup (dA_cons dE_str (dA_cons dE_str dA_nil))) dA_nil))) (dE_one (dE_call x_is_integer (hr.mono (by omega)) tk (dA_cons (dE_idx (dE_var 0) dE_int) (dA_cons dE_int (dA_cons (dE_glo hF.g_MOST_COUNT) dA_nil))))))))))
/-! ### is_send -/
def m_is_send : M Fl :=
  mSeq (mIf (mOr (mNot (mUn (dIsT cs "tuple") (mVar 0))) (mOr (mBin (dEq true) (mB (one dLen) (mCons (mVar 0) mNil)) (mC (.int 4))) (mNot (mCall c_is_one_of (mCons (mBin dIdx (mVar 0) (mC (.int 0))) (mCons (mC k_PLACES) (mNil))))))) (mRet (mC (.bl false))) (mNext)) <|
  mSeq (mIf (mOr (mNot (mCall c_are_marks (mCons (mBin dIdx (mVar 0) (mC (.int 1))) (mNil)))) (mOr (mNot (mCall c_are_marks (mCons (mBin dIdx (mVar 0) (mC (.int 2))) (mNil)))) (mNot (mUn (dIsT cs "bool") (mBin dIdx (mVar 0) (mC (.int 3))))))) (mRet (mC (.bl false))) (mNext)) <|
  mRet (mNot (mB (one dAny) (mCons (mLc (mIt (mBin dIdx (mVar 0) (mC (.int 1)))) (.nm 1) [1] (mC (.bl true)) (mBin (dIn false) (mVar 1) (mBin dIdx (mVar 0) (mC (.int 2))))) mNil)))
def c_is_send : List D → RC := runF 0 1 2 m_is_send
def N_is_send : List Str := ["thing", "mark"]
def P_is_send : List Str := ["thing"]
theorem sc_is_send : FnScope N_is_send P_is_send (defScope (top 16)) := ⟨rfl, rfl, rfl, by decide +kernel, rfl, by decide +kernel, by decide +kernel⟩
theorem d_is_send {w : World} {K : PySem.W.Frag} {mg : Str → Option Value} {base : Heap} (hF : Fa w K mg) (x_are_marks : FnX PySem.Challenge.pw_listletters_k11_whole_partings w K mg base "are_marks" 2 0 c_are_marks) (x_is_one_of : FnX PySem.Challenge.pw_listletters_k11_whole_partings w K mg base "is_one_of" 1 0 c_is_one_of) {f : Addr} {fd : FuncData} (F : FunD K "is_send" "is_send" (defArgs (top 16)) (defBody (top 16)) (defScope (top 16)) [] [] f fd) :
    FnOk PySem.Challenge.pw_listletters_k11_whole_partings w K mg base (L2.CX PySem.Challenge.pw_listletters_k11_whole_partings w) 3 f fd P_is_send (SpD K w 0 c_is_send) :=
  fnOk_of F sc_is_send (by decide) fun cdv A outer s H E pn W hr hpn0 tk => by
    have hpn := hpn0 rfl; have nd := sc_is_send.nd
    exact (dSs_cons (dS_if (PW.pt (dW_or (dT_not (dT_of (dE_isT hF.isi (by decide) (dE_var 0) (by decide +kernel) (hF.bl "tuple" (by decide)) (hF.bl "isinstance" (by decide))))) (dW_or (gT_NotEq hr (dE_len (hF.bl "len" (by decide)) (dE_var 0)) dE_int) (dW_or1 (dT_not (dT_of (dE_call x_is_one_of (hr.mono (by omega)) tk (dA_cons (dE_idx (dE_var 0) dE_int) (dA_cons (dE_glo hF.g_PLACES) dA_nil))))))))) (dSs_one (dS_ret dE_bl)) dSs_nil) <|
  (dSs_cons (dS_if (PW.pt (dW_or (dT_not (dT_of (dE_call x_are_marks (hr.mono (by omega)) tk (dA_cons (dE_idx (dE_var 0) dE_int) dA_nil)))) (dW_or (dT_not (dT_of (dE_call x_are_marks (hr.mono (by omega)) tk (dA_cons (dE_idx (dE_var 0) dE_int) dA_nil)))) (dW_or1 (dT_not (dT_of (dE_isT hF.isi (by decide) (dE_idx (dE_var 0) dE_int) (by decide +kernel) (hF.bl "bool" (by decide)) (hF.bl "isinstance" (by decide))))))))) (dSs_one (dS_ret dE_bl)) dSs_nil) <|
  (dSs_one (dS_ret (dE_not (dE_any rfl (hF.bl "any" (by decide)) (dE_lc nd (dI_seq (dE_idx (dE_var 0) dE_int)) (blkOk_by (own := [("mark", 1)]) (by rfl)) (by decide) (fun s H C cl fp => (dG_nm 1 nd (.inr rfl))) (fun s H C cl fp => dTs_nil) (fun s H C cl fp => (gE_In hr (dE_var 1) (dE_idx (dE_var 0) dE_int))))))))))
/-! ### is_row -/
def m_is_row : M Fl :=
  mSeq (mIf (mOr (mNot (mUn (dIsT cs "tuple") (mVar 0))) (mOr (mBin (dEq true) (mB (one dLen) (mCons (mVar 0) mNil)) (mC (.int 3))) (mNot (mUn (dIsT cs "bool") (mBin dIdx (mVar 0) (mC (.int 1))))))) (mRet (mC (.bl false))) (mNext)) <|
  mSeq (mAsg (.tp [.nm 1, .nm 2, .nm 3]) (mVar 0)) <|
  mSeq (mIf (mOr (mNot (mUn (dIsT cs "tuple") (mVar 1))) (mOr (mBin (dGt) (mB (one dLen) (mCons (mVar 1) mNil)) (mC k_MOST_TESTS)) (mNot (mB (one dAll) (mCons (mLc (mIt (mVar 1)) (.nm 4) [4] (mC (.bl true)) (mCall c_is_test (mCons (mVar 4) (mNil)))) mNil))))) (mRet (mC (.bl false))) (mNext)) <|
  mRet (mAnd (mUn (dIsT cs "tuple") (mVar 3)) (mAnd (mBin (dLe) (mB (one dLen) (mCons (mVar 3) mNil)) (mC k_MOST_SENDS)) (mB (one dAll) (mCons (mLc (mIt (mVar 3)) (.nm 5) [5] (mC (.bl true)) (mCall c_is_send (mCons (mVar 5) (mNil)))) mNil))))
def c_is_row : List D → RC := runF 0 1 6 m_is_row
def N_is_row : List Str := ["thing", "tests", "keep", "sends", "test", "send"]
def P_is_row : List Str := ["thing"]
theorem sc_is_row : FnScope N_is_row P_is_row (defScope (top 17)) := ⟨rfl, rfl, rfl, by decide +kernel, rfl, by decide +kernel, by decide +kernel⟩
theorem d_is_row {w : World} {K : PySem.W.Frag} {mg : Str → Option Value} {base : Heap} (hF : Fa w K mg) (x_is_send : FnX PySem.Challenge.pw_listletters_k11_whole_partings w K mg base "is_send" 3 0 c_is_send) (x_is_test : FnX PySem.Challenge.pw_listletters_k11_whole_partings w K mg base "is_test" 2 0 c_is_test) {f : Addr} {fd : FuncData} (F : FunD K "is_row" "is_row" (defArgs (top 17)) (defBody (top 17)) (defScope (top 17)) [] [] f fd) :
    FnOk PySem.Challenge.pw_listletters_k11_whole_partings w K mg base (L2.CX PySem.Challenge.pw_listletters_k11_whole_partings w) 4 f fd P_is_row (SpD K w 0 c_is_row) :=
  fnOk_of F sc_is_row (by decide) fun cdv A outer s H E pn W hr hpn0 tk => by
    have hpn := hpn0 rfl; have nd := sc_is_row.nd
    exact (dSs_cons (dS_if (PW.pt (dW_or (dT_not (dT_of (dE_isT hF.isi (by decide) (dE_var 0) (by decide +kernel) (hF.bl "tuple" (by decide)) (hF.bl "isinstance" (by decide))))) (dW_or (gT_NotEq hr (dE_len (hF.bl "len" (by decide)) (dE_var 0)) dE_int) (dW_or1 (dT_not (dT_of (dE_isT hF.isi (by decide) (dE_idx (dE_var 0) dE_int) (by decide +kernel) (hF.bl "bool" (by decide)) (hF.bl "isinstance" (by decide))))))))) (dSs_one (dS_ret dE_bl)) dSs_nil) <|
  (dSs_cons (dS_asg (dE_var 0) (dG_tp (dGs_cons (dG_nm 1 nd (.inr hpn)) (dGs_cons (dG_nm 2 nd (.inr hpn)) (dGs_cons (dG_nm 3 nd (.inr hpn)) dGs_nil))))) <|
  (dSs_cons (dS_if (PW.pt (dW_or (dT_not (dT_of (dE_isT hF.isi (by decide) (dE_var 1) (by decide +kernel) (hF.bl "tuple" (by decide)) (hF.bl "isinstance" (by decide))))) (dW_or (gT_Gt hr (dE_len (hF.bl "len" (by decide)) (dE_var 1)) (dE_glo hF.g_MOST_TESTS)) (dW_or1 (dT_not (dT_of (dE_all rfl (hF.bl "all" (by decide)) (dE_lc nd (dI_seq (dE_var 1)) (blkOk_by (own := [("test", 4)]) (by rfl)) (by decide) (fun s H C cl fp => (dG_nm 4 nd (.inr rfl))) (fun s H C cl fp => dTs_nil) (fun s H C cl fp => (dE_call x_is_test (hr.mono (by omega)) takes0 (dA_cons (dE_var 4) dA_nil))))))))))) (dSs_one (dS_ret dE_bl)) dSs_nil) <|
  (dSs_one (dS_ret (dE_and (dE_isT hF.isi (by decide) (dE_var 3) (by decide +kernel) (hF.bl "tuple" (by decide)) (hF.bl "isinstance" (by decide))) (dE_and (gE_LtE hr (dE_len (hF.bl "len" (by decide)) (dE_var 3)) (dE_glo hF.g_MOST_SENDS)) (dE_one (dE_all rfl (hF.bl "all" (by decide)) (dE_lc nd (dI_seq (dE_var 3)) (blkOk_by (own := [("send", 5)]) (by rfl)) (by decide) (fun s H C cl fp => (dG_nm 5 nd (.inr rfl))) (fun s H C cl fp => dTs_nil) (fun s H C cl fp => (dE_call x_is_send (hr.mono (by omega)) takes0 (dA_cons (dE_var 5) dA_nil)))))))))))))
/-! ### holds -/
def m_holds : M Fl :=
  mSeq (mAsg (.tp [.nm 2, .nm 3]) (mVar 0)) <|
  mSeq (mIf (mBin (dIn false) (mVar 2) (mTup (mCons (mC (.str "has")) (mCons (mC (.str "lacks")) (mNil))))) (mRet (mBin (dEq false) (mBin (dIn false) (mVar 3) (mBin dIdx (mVar 1) (mC (.int 0)))) (mBin (dEq false) (mVar 2) (mC (.str "has"))))) (mNext)) <|
  mRet (mBin (dEq false) (mBin (dGe) (mBin dIdx (mVar 1) (mC (.int 1))) (mVar 3)) (mBin (dEq false) (mVar 2) (mC (.str "least"))))
def c_holds : List D → RC := runF 0 2 4 m_holds
def N_holds : List Str := ["test", "head", "word", "value"]
def P_holds : List Str := ["test", "head"]
theorem sc_holds : FnScope N_holds P_holds (defScope (top 18)) := ⟨rfl, rfl, rfl, by decide +kernel, rfl, by decide +kernel, by decide +kernel⟩
theorem d_holds {w : World} {K : PySem.W.Frag} {mg : Str → Option Value} {base : Heap} (hF : Fa w K mg)  {f : Addr} {fd : FuncData} (F : FunD K "holds" "holds" (defArgs (top 18)) (defBody (top 18)) (defScope (top 18)) [] [] f fd) :
    FnOk PySem.Challenge.pw_listletters_k11_whole_partings w K mg base (L2.CX PySem.Challenge.pw_listletters_k11_whole_partings w) 1 f fd P_holds (SpD K w 0 c_holds) :=
  fnOk_of F sc_holds (by decide) fun cdv A outer s H E pn W hr hpn0 tk => by
    have hpn := hpn0 rfl; have nd := sc_holds.nd
    exact (dSs_cons (dS_asg (dE_var 0) (dG_tp (dGs_cons (dG_nm 2 nd (.inr hpn)) (dGs_cons (dG_nm 3 nd (.inr hpn)) dGs_nil)))) <|
  (dSs_cons (dS_if (gT_In hr (dE_var 2) (dE_tup (dA_cons dE_str (dA_cons dE_str dA_nil)))) (dSs_one (dS_ret (gE_Eq hr (gE_In hr (dE_var 3) (dE_idx (dE_var 1) dE_int)) (gE_Eq hr (dE_var 2) dE_str)))) dSs_nil) <|
  (dSs_one (dS_ret (gE_Eq hr (gE_GtE hr (dE_idx (dE_var 1) dE_int) (dE_var 3)) (gE_Eq hr (dE_var 2) dE_str))))))
/-! ### head_behind -/
def m_head_behind : M Fl :=
  mSeq (mAsg (.tp [.nm 3, .nm 4, .nm 5, .nm 6]) (mVar 0)) <|
  mSeq (mSet 7 (mB (one dTuple) (mCons (mLc (mIt (mC k_MARKS)) (.nm 8) [8] (mAnd (mOr (mBin (dIn false) (mVar 8) (mBin dIdx (mVar 1) (mC (.int 0)))) (mBin (dIn false) (mVar 8) (mVar 4))) (mBin (dIn true) (mVar 8) (mVar 5))) (mVar 8)) mNil))) <|
  mRet (mTup (mCons (mVar 7) (mCons (mIte (mOr (mVar 6) (mVar 2)) (mB dMin2 (mCons (mC k_MOST_COUNT) (mCons (mBin dAdd (mBin dIdx (mVar 1) (mC (.int 1))) (mC (.int 1))) mNil))) (mBin dIdx (mVar 1) (mC (.int 1)))) (mNil))))
def c_head_behind : List D → RC := runF 0 3 9 m_head_behind
def N_head_behind : List Str := ["send", "head", "is_counted", "where", "put", "strip", "up", "marks", "mark"]
def P_head_behind : List Str := ["send", "head", "is_counted"]
theorem sc_head_behind : FnScope N_head_behind P_head_behind (defScope (top 19)) := ⟨rfl, rfl, rfl, by decide +kernel, rfl, by decide +kernel, by decide +kernel⟩
theorem d_head_behind {w : World} {K : PySem.W.Frag} {mg : Str → Option Value} {base : Heap} (hF : Fa w K mg)  {f : Addr} {fd : FuncData} (F : FunD K "head_behind" "head_behind" (defArgs (top 19)) (defBody (top 19)) (defScope (top 19)) [] [] f fd) :
    FnOk PySem.Challenge.pw_listletters_k11_whole_partings w K mg base (L2.CX PySem.Challenge.pw_listletters_k11_whole_partings w) 1 f fd P_head_behind (SpD K w 0 c_head_behind) :=
  fnOk_of F sc_head_behind (by decide) fun cdv A outer s H E pn W hr hpn0 tk => by
    have hpn := hpn0 rfl; have nd := sc_head_behind.nd
    exact (dSs_cons (dS_asg (dE_var 0) (dG_tp (dGs_cons (dG_nm 3 nd (.inr hpn)) (dGs_cons (dG_nm 4 nd (.inr hpn)) (dGs_cons (dG_nm 5 nd (.inr hpn)) (dGs_cons (dG_nm 6 nd (.inr hpn)) dGs_nil)))))) <|
  (dSs_cons (dS_set 7 nd (dE_tuple (hF.bl "tuple" (by decide)) (dE_lc nd (dI_seq (dE_glo hF.g_MARKS)) (blkOk_by (own := [("mark", 8)]) (by rfl)) (by decide) (fun s H C cl fp => (dG_nm 8 nd (.inr rfl))) (fun s H C cl fp => (dTs_one (PW.pt (dW_and (PW.pt (dW_or (gT_In hr (dE_var 8) (dE_idx (dE_var 1) dE_int)) (dW_or1 (gT_In hr (dE_var 8) (dE_var 4))))) (dW_and1 (gT_NotIn hr (dE_var 8) (dE_var 5))))))) (fun s H C cl fp => (dE_var 8)))) (.inr hpn)) <|
  (dSs_one (dS_ret (dE_tup (dA_cons (dE_var 7) (dA_cons (dE_ite (PW.pt (dW_or (dT_of (dE_var 6)) (dW_or1 (dT_of (dE_var 2))))) (dE_min2 rfl (hF.bl "min" (by decide)) (dE_glo hF.g_MOST_COUNT) (dE_add (dE_idx (dE_var 1) dE_int) dE_int)) (dE_idx (dE_var 1) dE_int)) dA_nil)))))))
/-! ### acted -/
def m_acted : M Fl :=
  mSeq (mIf (mAnd (mUn (dFld cs "guard") (mVar 0)) (mBin (dEq false) (mBin dIdx (mVar 1) (mC (.int 1))) (mC k_MOST_COUNT))) (mRet (mTup (mCons (mC (.bl false)) (mCons (mTup (mNil)) (mNil))))) (mNext)) <|
  mSeq (mFor (mIt (mUn (dFld cs "lines") (mVar 0))) (.tp [.nm 2, .nm 3, .nm 4]) (mIf (mB (one dAll) (mCons (mLc (mIt (mVar 2)) (.nm 5) [5] (mC (.bl true)) (mCall c_holds (mCons (mVar 5) (mCons (mVar 1) (mNil))))) mNil)) (mRet (mTup (mCons (mVar 3) (mCons (mB (one dTuple) (mCons (mLc (mIt (mVar 4)) (.nm 6) [6] (mC (.bl true)) (mTup (mCons (mBin dIdx (mVar 6) (mC (.int 0))) (mCons (mCall c_head_behind (mCons (mVar 6) (mCons (mVar 1) (mCons (mUn (dFld cs "guard") (mVar 0)) (mNil))))) (mNil))))) mNil)) (mNil))))) (mNext))) <|
  mRet (mTup (mCons (mC (.bl true)) (mCons (mTup (mNil)) (mNil))))
def c_acted : List D → RC := runF 0 2 7 m_acted
def N_acted : List Str := ["kind", "head", "tests", "keep", "sends", "test", "send"]
def P_acted : List Str := ["kind", "head"]
theorem sc_acted : FnScope N_acted P_acted (defScope (top 20)) := ⟨rfl, rfl, rfl, by decide +kernel, rfl, by decide +kernel, by decide +kernel⟩
theorem d_acted {w : World} {K : PySem.W.Frag} {mg : Str → Option Value} {base : Heap} (hF : Fa w K mg) (x_head_behind : FnX PySem.Challenge.pw_listletters_k11_whole_partings w K mg base "head_behind" 1 0 c_head_behind) (x_holds : FnX PySem.Challenge.pw_listletters_k11_whole_partings w K mg base "holds" 1 0 c_holds) {f : Addr} {fd : FuncData} (F : FunD K "acted" "acted" (defArgs (top 20)) (defBody (top 20)) (defScope (top 20)) [] [] f fd) :
    FnOk PySem.Challenge.pw_listletters_k11_whole_partings w K mg base (L2.CX PySem.Challenge.pw_listletters_k11_whole_partings w) 2 f fd P_acted (SpD K w 0 c_acted) :=
  fnOk_of F sc_acted (by decide) fun cdv A outer s H E pn W hr hpn0 tk => by
    have hpn := hpn0 rfl; have nd := sc_acted.nd
    exact (dSs_cons (dS_if (PW.pt (dW_and (dT_of (dE_fld (hF.fld "guard" (by decide)) (dE_var 0))) (dW_and1 (gT_Eq hr (dE_idx (dE_var 1) dE_int) (dE_glo hF.g_MOST_COUNT))))) (dSs_one (dS_ret (dE_tup (dA_cons dE_bl (dA_cons (dE_tup dA_nil) dA_nil))))) dSs_nil) <|
  (dSs_cons (dS_for (passes_of rfl) (dI_seq (dE_fld (hF.fld "lines" (by decide)) (dE_var 0))) (dG_tp (dGs_cons (dG_nm 2 nd (.inr hpn)) (dGs_cons (dG_nm 3 nd (.inr hpn)) (dGs_cons (dG_nm 4 nd (.inr hpn)) dGs_nil)))) (dSs_one (dS_if (dT_of (dE_all rfl (hF.bl "all" (by decide)) (dE_lc nd (dI_seq (dE_var 2)) (blkOk_by (own := [("test", 5)]) (by rfl)) (by decide) (fun s H C cl fp => (dG_nm 5 nd (.inr rfl))) (fun s H C cl fp => dTs_nil) (fun s H C cl fp => (dE_call x_holds (hr.mono (by omega)) takes0 (dA_cons (dE_var 5) (dA_cons (dE_var 1) dA_nil))))))) (dSs_one (dS_ret (dE_tup (dA_cons (dE_var 3) (dA_cons (dE_tuple (hF.bl "tuple" (by decide)) (dE_lc nd (dI_seq (dE_var 4)) (blkOk_by (own := [("send", 6)]) (by rfl)) (by decide) (fun s H C cl fp => (dG_nm 6 nd (.inr rfl))) (fun s H C cl fp => dTs_nil) (fun s H C cl fp => (dE_tup (dA_cons (dE_idx (dE_var 6) dE_int) (dA_cons (dE_call x_head_behind (hr.mono (by omega)) takes0 (dA_cons (dE_var 6) (dA_cons (dE_var 1) (dA_cons (dE_fld (hF.fld "guard" (by decide)) (dE_var 0)) dA_nil)))) dA_nil)))))) dA_nil))))) dSs_nil))) <|
  (dSs_one (dS_ret (dE_tup (dA_cons dE_bl (dA_cons (dE_tup dA_nil) dA_nil)))))))
/-! ### Kind.__init__ -/
def m_Kind_init : M Fl :=
  mSeq (mIf (mOr (mNot (mUn (dIsT cs "tuple") (mVar 1))) (mBin (dGt) (mB (one dLen) (mCons (mVar 1) mNil)) (mC k_MOST_ROWS))) (mRaise1 "InvalidRow" "index" (mC .non)) (mNext)) <|
  mSeq (mFor (mEnum (mVar 1)) (.tp [.nm 3, .nm 4]) (mIf (mNot (mCall c_is_row (mCons (mVar 4) (mNil)))) (mRaise1 "InvalidRow" "index" (mVar 3)) (mNext))) <|
  mSeq (mIf (mNot (mUn (dIsT cs "bool") (mVar 2))) (mRaise0 "InvalidGuard") (mNext)) <|
  mSeq (mFldSet cs 0 "lines" (mVar 1)) <|
  mFldSet cs 0 "guard" (mVar 2)
def c_Kind_init : List D → RC := runF 1 3 5 m_Kind_init
def N_Kind_init : List Str := ["self", "rows", "guarded", "index", "row"]
def P_Kind_init : List Str := ["self", "rows", "guarded"]
theorem sc_Kind_init : FnScope N_Kind_init P_Kind_init (defScope (inClass (top 21) 0)) := ⟨rfl, rfl, rfl, by decide +kernel, rfl, by decide +kernel, by decide +kernel⟩
theorem d_Kind_init {w : World} {K : PySem.W.Frag} {mg : Str → Option Value} {base : Heap} (hF : Fa w K mg) (x_is_row : FnX PySem.Challenge.pw_listletters_k11_whole_partings w K mg base "is_row" 4 0 c_is_row) {f : Addr} {fd : FuncData} (F : FunD K "__init__" "Kind.__init__" (defArgs (inClass (top 21) 0)) (defBody (inClass (top 21) 0)) (defScope (inClass (top 21) 0)) [] [] f fd) :
    FnOk PySem.Challenge.pw_listletters_k11_whole_partings w K mg base (L2.CX PySem.Challenge.pw_listletters_k11_whole_partings w) 5 f fd P_Kind_init (SpD K w 1 c_Kind_init) :=
  fnOk_of F sc_Kind_init (by decide) fun cdv A outer s H E pn W hr hpn0 tk => by
    have nd := sc_Kind_init.nd
    exact (dSs_cons (dS_if (PW.pt (dW_or (dT_not (dT_of (dE_isT hF.isi (by decide) (dE_var 1) (by decide +kernel) (hF.bl "tuple" (by decide)) (hF.bl "isinstance" (by decide))))) (dW_or1 (gT_Gt hr (dE_len (hF.bl "len" (by decide)) (dE_var 1)) (dE_glo hF.g_MOST_ROWS))))) (dSs_one (dS_raise1 hF.x_InvalidRow hr tk dE_non)) dSs_nil) <|
  (dSs_cons (dS_for (passes_of rfl) (dI_enum (hF.bl "enumerate" (by decide)) (dE_var 1)) (dG_tp (dGs_cons (dG_nm 3 nd (.inl (by decide))) (dGs_cons (dG_nm 4 nd (.inl (by decide))) dGs_nil))) (dSs_one (dS_if (dT_not (dT_of (dE_call x_is_row (hr.mono (by omega)) tk (dA_cons (dE_var 4) dA_nil)))) (dSs_one (dS_raise1 hF.x_InvalidRow hr tk (dE_var 3))) dSs_nil))) <|
  (dSs_cons (dS_if (dT_not (dT_of (dE_isT hF.isi (by decide) (dE_var 2) (by decide +kernel) (hF.bl "bool" (by decide)) (hF.bl "isinstance" (by decide))))) (dSs_one (dS_raise0 hF.x_InvalidGuard hr tk)) dSs_nil) <|
  (dSs_cons (dS_fld 0 (hF.fld "lines" (by decide)) (pv 0) (dE_var 1)) <|
  (dSs_one (dS_fld 0 (hF.fld "guard" (by decide)) (pv 0) (dE_var 2)))))))
/-! ### all_heads -/
def m_all_heads : M Fl :=
  mSeq (mSet 0 (mLst (mCons (mTup (mNil)) (mNil)))) <|
  mSeq (mFor (mIt (mC k_MARKS)) (.nm 1) (mSet 0 (mBin dAdd (mVar 0) (mLc (mIt (mVar 0)) (.nm 2) [2] (mC (.bl true)) (mTup (mStar (mVar 2) (mCons (mVar 1) (mNil)))))))) <|
  mRet (mB (one dSorted) (mCons (mLc2 (mIt (mVar 0)) (.nm 2) [2, 3] (mC (.bl true)) (mRng1 (mCons (mBin dAdd (mC k_MOST_COUNT) (mC (.int 1))) (mNil))) (.nm 3) [3] (mC (.bl true)) (mTup (mCons (mVar 2) (mCons (mVar 3) (mNil))))) mNil))
def c_all_heads : List D → RC := runF 0 0 4 m_all_heads
def N_all_heads : List Str := ["rows", "mark", "row", "count"]
def P_all_heads : List Str := []
theorem sc_all_heads : FnScope N_all_heads P_all_heads (defScope (top 22)) := ⟨rfl, rfl, rfl, by decide +kernel, rfl, by decide +kernel, by decide +kernel⟩
theorem d_all_heads {w : World} {K : PySem.W.Frag} {mg : Str → Option Value} {base : Heap} (hF : Fa w K mg)  {f : Addr} {fd : FuncData} (F : FunD K "all_heads" "all_heads" (defArgs (top 22)) (defBody (top 22)) (defScope (top 22)) [] [] f fd) :
    FnOk PySem.Challenge.pw_listletters_k11_whole_partings w K mg base (L2.CX PySem.Challenge.pw_listletters_k11_whole_partings w) 1 f fd P_all_heads (SpD K w 0 c_all_heads) :=
  fnOk_of F sc_all_heads (by decide) fun cdv A outer s H E pn W hr hpn0 tk => by
    have hpn := hpn0 rfl; have nd := sc_all_heads.nd
    exact (dSs_cons (dS_set 0 nd (dE_lst (dA_cons (dE_tup dA_nil) dA_nil)) (.inr hpn)) <|
  (dSs_cons (dS_for (passes_of rfl) (dI_seq (dE_glo hF.g_MARKS)) (dG_nm 1 nd (.inr hpn)) (dSs_one (dS_set 0 nd (dE_add (dE_var 0) (dE_lc nd (dI_seq (dE_var 0)) (blkOk_by (own := [("row", 2)]) (by rfl)) (by decide) (fun s H C cl fp => (dG_nm 2 nd (.inr rfl))) (fun s H C cl fp => dTs_nil) (fun s H C cl fp => (dE_tup (dA_star (dE_var 2) (dA_cons (dE_var 1) dA_nil)))))) (.inr hpn)))) <|
  (dSs_one (dS_ret (dE_sorted hr (hF.bl "sorted" (by decide)) (dE_lc2 (vs1 := [3]) nd (dI_seq (dE_var 0)) (blkOk_by (own := [("row", 2), ("count", 3)]) (by rfl)) (by decide) (by decide) (by decide) (fun s H C cl fp => (dG_nm 2 nd (.inr rfl))) (fun s H C cl fp => dTs_nil) (fun s H C cl fp => (dI_rng1 (hF.bl "range" (by decide)) (dA_cons (dE_add (dE_glo hF.g_MOST_COUNT) dE_int) dA_nil))) (fun s H C cl fp => (dG_nm 3 nd (.inr rfl))) (fun s H C cl fp => dTs_nil) (fun s H C cl fp => (dE_tup (dA_cons (dE_var 2) (dA_cons (dE_var 3) dA_nil))))))))))
/-! ### parting -/
def m_parting : M Fl :=
  mSeq (mFor (mIt (mCall c_all_heads mNil)) (.nm 2) (mSeq (mPar 3 4 (mCons (mCall c_acted (mCons (mVar 0) (mCons (mVar 2) (mNil)))) (mCons (mCall c_acted (mCons (mVar 1) (mCons (mVar 2) (mNil)))) (mNil)))) <|
  mIf (mOr (mBin (dEq true) (mBin dIdx (mVar 3) (mC (.int 0))) (mBin dIdx (mVar 4) (mC (.int 0)))) (mBin (dEq true) (mB (one dSorted) (mCons (mBin dIdx (mVar 3) (mC (.int 1))) mNil)) (mB (one dSorted) (mCons (mBin dIdx (mVar 4) (mC (.int 1))) mNil)))) (mRet (mVar 2)) (mNext))) <|
  mRet (mC .non)
def c_parting : List D → RC := runF 0 2 5 m_parting
def N_parting : List Str := ["one", "other", "head", "here", "there"]
def P_parting : List Str := ["one", "other"]
theorem sc_parting : FnScope N_parting P_parting (defScope (top 24)) := ⟨rfl, rfl, rfl, by decide +kernel, rfl, by decide +kernel, by decide +kernel⟩
theorem d_parting {w : World} {K : PySem.W.Frag} {mg : Str → Option Value} {base : Heap} (hF : Fa w K mg) (x_acted : FnX PySem.Challenge.pw_listletters_k11_whole_partings w K mg base "acted" 2 0 c_acted) (x_all_heads : FnX PySem.Challenge.pw_listletters_k11_whole_partings w K mg base "all_heads" 1 0 c_all_heads) {f : Addr} {fd : FuncData} (F : FunD K "parting" "parting" (defArgs (top 24)) (defBody (top 24)) (defScope (top 24)) [] [] f fd) :
    FnOk PySem.Challenge.pw_listletters_k11_whole_partings w K mg base (L2.CX PySem.Challenge.pw_listletters_k11_whole_partings w) 3 f fd P_parting (SpD K w 0 c_parting) :=
  fnOk_of F sc_parting (by decide) fun cdv A outer s H E pn W hr hpn0 tk => by
    have hpn := hpn0 rfl; have nd := sc_parting.nd
    exact (dSs_cons (dS_for (passes_of rfl) (dI_seq (dE_call0 x_all_heads (hr.mono (by omega)) tk)) (dG_nm 2 nd (.inr hpn)) (dSs_cons (dS_par nd (dA_cons (dE_call x_acted (hr.mono (by omega)) tk (dA_cons (dE_var 0) (dA_cons (dE_var 2) dA_nil))) (dA_cons (dE_call x_acted (hr.mono (by omega)) tk (dA_cons (dE_var 1) (dA_cons (dE_var 2) dA_nil))) dA_nil)) (.inr hpn)) <|
  (dSs_one (dS_if (PW.pt (dW_or (gT_NotEq hr (dE_idx (dE_var 3) dE_int) (dE_idx (dE_var 4) dE_int)) (dW_or1 (gT_NotEq hr (dE_sorted hr (hF.bl "sorted" (by decide)) (dE_idx (dE_var 3) dE_int)) (dE_sorted hr (hF.bl "sorted" (by decide)) (dE_idx (dE_var 4) dE_int)))))) (dSs_one (dS_ret (dE_var 2))) dSs_nil)))) <|
  (dSs_one (dS_ret dE_non)))
/-! ### alike -/
def m_alike : M Fl :=
  mRet (mUn (dIsN false) (mCall c_parting (mCons (mVar 0) (mCons (mVar 1) (mNil)))))
def c_alike : List D → RC := runF 0 2 2 m_alike
def N_alike : List Str := ["one", "other"]
def P_alike : List Str := ["one", "other"]
theorem sc_alike : FnScope N_alike P_alike (defScope (top 25)) := ⟨rfl, rfl, rfl, by decide +kernel, rfl, by decide +kernel, by decide +kernel⟩
theorem d_alike {w : World} {K : PySem.W.Frag} {mg : Str → Option Value} {base : Heap} (hF : Fa w K mg) (x_parting : FnX PySem.Challenge.pw_listletters_k11_whole_partings w K mg base "parting" 3 0 c_parting) {f : Addr} {fd : FuncData} (F : FunD K "alike" "alike" (defArgs (top 25)) (defBody (top 25)) (defScope (top 25)) [] [] f fd) :
    FnOk PySem.Challenge.pw_listletters_k11_whole_partings w K mg base (L2.CX PySem.Challenge.pw_listletters_k11_whole_partings w) 4 f fd P_alike (SpD K w 0 c_alike) :=
  fnOk_of F sc_alike (by decide) fun cdv A outer s H E pn W hr hpn0 tk => by
    have hpn := hpn0 rfl; have nd := sc_alike.nd
    exact (dSs_one (dS_ret (dE_isN (dE_call x_parting (hr.mono (by omega)) tk (dA_cons (dE_var 0) (dA_cons (dE_var 1) dA_nil))))))
/-! ### needless -/
def m_needless : M Fl :=
  mSeq (mSet 1 (mLst (mNil))) <|
  mSeq (mFor (mRng1 (mCons (mB (one dLen) (mCons (mUn (dFld cs "lines") (mVar 0)) mNil)) (mNil))) (.nm 2) (mIf (mUn (dIsN false) (mCall c_parting (mCons (mVar 0) (mCons (mMake "Kind" c_Kind_init (mCons (mTup (mStar (mSlice (mUn (dFld cs "lines") (mVar 0)) (mNoPart) (mPart (mVar 2))) (mStar (mSlice (mUn (dFld cs "lines") (mVar 0)) (mPart (mBin dAdd (mVar 2) (mC (.int 1)))) (mNoPart)) (mNil)))) (mCons (mUn (dFld cs "guard") (mVar 0)) (mNil)))) (mNil))))) (mDo (mApp 1 (mVar 2))) (mNext))) <|
  mRet (mVar 1)
def c_needless : List D → RC := runF 0 1 3 m_needless
def N_needless : List Str := ["kind", "found", "at"]
def P_needless : List Str := ["kind"]
theorem sc_needless : FnScope N_needless P_needless (defScope (top 26)) := ⟨rfl, rfl, rfl, by decide +kernel, rfl, by decide +kernel, by decide +kernel⟩
theorem d_needless {w : World} {K : PySem.W.Frag} {mg : Str → Option Value} {base : Heap} (hF : Fa w K mg) (x_parting : FnX PySem.Challenge.pw_listletters_k11_whole_partings w K mg base "parting" 3 0 c_parting) (x_Kind_init : MkX PySem.Challenge.pw_listletters_k11_whole_partings w K mg base "Kind" 5 c_Kind_init) {f : Addr} {fd : FuncData} (F : FunD K "needless" "needless" (defArgs (top 26)) (defBody (top 26)) (defScope (top 26)) [] [] f fd) :
    FnOk PySem.Challenge.pw_listletters_k11_whole_partings w K mg base (L2.CX PySem.Challenge.pw_listletters_k11_whole_partings w) 7 f fd P_needless (SpD K w 0 c_needless) :=
  fnOk_of F sc_needless (by decide) fun cdv A outer s H E pn W hr hpn0 tk => by
    have hpn := hpn0 rfl; have nd := sc_needless.nd
    exact (dSs_cons (dS_set 1 nd (dE_lst dA_nil) (.inr hpn)) <|
  (dSs_cons (dS_for (passes_of rfl) (dI_rng1 (hF.bl "range" (by decide)) (dA_cons (dE_len (hF.bl "len" (by decide)) (dE_fld (hF.fld "lines" (by decide)) (dE_var 0))) dA_nil)) (dG_nm 2 nd (.inr hpn)) (dSs_one (dS_if (dT_isN (dE_call x_parting (hr.mono (by omega)) tk (dA_cons (dE_var 0) (dA_cons (dE_make x_Kind_init (hr.mono (by omega)) tk (dA_cons (dE_tup (dA_star (dE_slice (dE_fld (hF.fld "lines" (by decide)) (dE_var 0)) dO_none (dO_some (dE_var 2))) (dA_star (dE_slice (dE_fld (hF.fld "lines" (by decide)) (dE_var 0)) (dO_some (dE_add (dE_var 2) dE_int)) dO_none) dA_nil))) (dA_cons (dE_fld (hF.fld "guard" (by decide)) (dE_var 0)) dA_nil))) dA_nil)))) (dSs_one (dS_do (dE_app 1 (pv 1) (dE_var 2)))) dSs_nil))) <|
  (dSs_one (dS_ret (dE_var 1)))))
/-! ### _law_mix -/
def m_law_mix : M Fl :=
  mSeq (mSet 2 (mVar 1)) <|
  mSeq (mFor (mIt (mVar 0)) (.nm 3) (mSet 2 (mBin dMod (mB (one dInt) (mCons (mBin dAdd (mBin dAdd (mBin dMulA (mVar 2) (mC (.int 48271))) (mBin dMod (mB (one dInt) (mCons (mVar 3) mNil)) (mC (.int 2147483629)))) (mC (.int 1))) mNil)) (mC (.int 2147483647))))) <|
  mRet (mLst (mCons (mVar 2) (mCons (mB (one dList) (mCons (mVar 0) mNil)) (mCons (mC (.int 0)) (mNil)))))
def c_law_mix : List D → RC := runF 0 2 4 m_law_mix
def N_law_mix : List Str := ["_law_script", "_law_seed", "_law_state", "_law_cell"]
def P_law_mix : List Str := ["_law_script", "_law_seed"]
theorem sc_law_mix : FnScope N_law_mix P_law_mix (defScope (top 28)) := ⟨rfl, rfl, rfl, by decide +kernel, rfl, by decide +kernel, by decide +kernel⟩
theorem d_law_mix {w : World} {K : PySem.W.Frag} {mg : Str → Option Value} {base : Heap} (hF : Fa w K mg)  {f : Addr} {fd : FuncData} (F : FunD K "_law_mix" "_law_mix" (defArgs (top 28)) (defBody (top 28)) (defScope (top 28)) [] [] f fd) :
    FnOk PySem.Challenge.pw_listletters_k11_whole_partings w K mg base (L2.CX PySem.Challenge.pw_listletters_k11_whole_partings w) 1 f fd P_law_mix (SpD K w 0 c_law_mix) :=
  fnOk_of F sc_law_mix (by decide) fun cdv A outer s H E pn W hr hpn0 tk => by
    have hpn := hpn0 rfl; have nd := sc_law_mix.nd
    exact (dSs_cons (dS_set 2 nd (dE_var 1) (.inr hpn)) <|
  (dSs_cons (dS_for (passes_of rfl) (dI_seq (dE_var 0)) (dG_nm 3 nd (.inr hpn)) (dSs_one (dS_set 2 nd (dE_mod (dE_intc (hF.bl "int" (by decide)) (dE_add (dE_add (dE_mulA (dE_var 2) dE_int) (dE_mod (dE_intc (hF.bl "int" (by decide)) (dE_var 3)) dE_int)) dE_int)) dE_int) (.inr hpn)))) <|
  (dSs_one (dS_ret (dE_lst (dA_cons (dE_var 2) (dA_cons (dE_list (hF.bl "list" (by decide)) (dE_var 0)) (dA_cons dE_int dA_nil))))))))
/-! ### _law_next -/
def m_law_next : M Fl :=
  mSeq (mSet 2 (mBin dIdx (mCat 0 0) (mBin dMod (mB (one dInt) (mCons (mBinL dIdx 0 (mC (.int 2))) mNil)) (mB dMax2 (mCons (mC (.int 1)) (mCons (mLen1 0) mNil)))))) <|
  mSeq (mIf (mBin (dGe) (mVar 2) (mBin dPow (mC (.int 10)) (mC (.int 18)))) (mSeq (mCellSet 0 (mBin dDiv (mVar 2) (mVar 1))) <|
  mRet (mBin dMod (mB (one dInt) (mCons (mVar 2) mNil)) (mVar 1))) (mNext)) <|
  mSeq (mIxSet 0 0 (mBin dMod (mB (one dInt) (mCons (mBin dAdd (mBin dAdd (mBin dMulA (mBinL dIdx 0 (mC (.int 0))) (mC (.int 48271))) (mBin dMulA (mVar 2) (mC (.int 69621)))) (mC (.int 11))) mNil)) (mC (.int 2147483647)))) <|
  mSeq (mIxSet 0 2 (mBin dAdd (mBinL dIdx 0 (mC (.int 2))) (mC (.int 1)))) <|
  mRet (mBin dMod (mB (one dInt) (mCons (mBin dDiv (mBinL dIdx 0 (mC (.int 0))) (mC (.int 7))) mNil)) (mVar 1))
def c_law_next : List D → RC := runF 1 2 3 m_law_next
def N_law_next : List Str := ["_law_h", "_law_cap", "_law_cell"]
def P_law_next : List Str := ["_law_h", "_law_cap"]
theorem sc_law_next : FnScope N_law_next P_law_next (defScope (top 29)) := ⟨rfl, rfl, rfl, by decide +kernel, rfl, by decide +kernel, by decide +kernel⟩
theorem d_law_next {w : World} {K : PySem.W.Frag} {mg : Str → Option Value} {base : Heap} (hF : Fa w K mg)  {f : Addr} {fd : FuncData} (F : FunD K "_law_next" "_law_next" (defArgs (top 29)) (defBody (top 29)) (defScope (top 29)) [] [] f fd) :
    FnOk PySem.Challenge.pw_listletters_k11_whole_partings w K mg base (L2.CX PySem.Challenge.pw_listletters_k11_whole_partings w) 1 f fd P_law_next (SpD K w 1 c_law_next) :=
  fnOk_of F sc_law_next (by decide) fun cdv A outer s H E pn W hr hpn0 tk => by
    have nd := sc_law_next.nd
    exact (dSs_cons (dS_set 2 nd (dE_idx (dE_cat 0 (pv 0)) (dE_mod (dE_intc (hF.bl "int" (by decide)) (dE_idxL 0 (pv 0) dE_int)) (dE_max2 rfl (hF.bl "max" (by decide)) dE_int (dE_len1 0 (hF.bl "len" (by decide)) (pv 0))))) (.inl (by decide))) <|
  (dSs_cons (dS_if (gT_GtE hr (dE_var 2) (dE_pow dE_int dE_int)) (dSs_cons (dS_cell 0 (hF.bl "len" (by decide)) (hF.bl "int" (by decide)) (pv 0) (pv 0) (pv 0) (dE_fdiv (dE_var 2) (dE_var 1))) <|
  (dSs_one (dS_ret (dE_mod (dE_intc (hF.bl "int" (by decide)) (dE_var 2)) (dE_var 1))))) dSs_nil) <|
  (dSs_cons (dS_ixc 0 (pv 0) (dE_mod (dE_intc (hF.bl "int" (by decide)) (dE_add (dE_add (dE_mulA (dE_idxL 0 (pv 0) dE_int) dE_int) (dE_mulA (dE_var 2) dE_int)) dE_int)) dE_int)) <|
  (dSs_cons (dS_ixc 0 (pv 0) (dE_add (dE_idxL 0 (pv 0) dE_int) dE_int)) <|
  (dSs_one (dS_ret (dE_mod (dE_intc (hF.bl "int" (by decide)) (dE_fdiv (dE_idxL 0 (pv 0) dE_int) dE_int)) (dE_var 1))))))))
/-! ### _law_alike -/
def m_law_alike (rc : List D → RC) : M Fl :=
  mSeq (mIf (mUn (dIsT cs "dict") (mVar 1)) (mRet (mAnd (mUn (dIsT cs "dict") (mVar 0)) (mAnd (mCall rc (mCons (mB (one dList) (mCons (mVar 0) mNil)) (mCons (mB (one dList) (mCons (mVar 1) mNil)) (mNil)))) (mBin (dEq false) (mVar 0) (mVar 1))))) (mNext)) <|
  mSeq (mIf (mUn (dIsTs cs ["tuple", "list"]) (mVar 1)) (mSeq (mIf (mOr (mNot (mUn (dIsTs cs ["tuple", "list"]) (mVar 0))) (mBin (dEq true) (mUn (dIsT cs "list") (mVar 0)) (mUn (dIsT cs "list") (mVar 1)))) (mRet (mC (.bl false))) (mNext)) <|
  mSeq (mIf (mBin (dEq true) (mB (one dLen) (mCons (mVar 0) mNil)) (mB (one dLen) (mCons (mVar 1) mNil))) (mRet (mC (.bl false))) (mNext)) <|
  mRet (mBin (dEq false) (mLc (mRng1 (mCons (mB (one dLen) (mCons (mVar 1) mNil)) (mNil))) (.nm 2) [2] (mNot (mCall rc (mCons (mBin dIdx (mVar 0) (mVar 2)) (mCons (mBin dIdx (mVar 1) (mVar 2)) (mNil))))) (mVar 2)) (mLst (mNil)))) (mNext)) <|
  mSeq (mIf (mOr (mUn (dIsN false) (mVar 1)) (mUn (dIsT cs "str") (mVar 1))) (mRet (mAnd (mBin (dEq false) (mVar 0) (mVar 1)) (mBin (dEq false) (mUn (dIsT cs "str") (mVar 0)) (mUn (dIsT cs "str") (mVar 1))))) (mNext)) <|
  mRet (mAnd (mUn (dIsT cs "int") (mVar 0)) (mAnd (mBin (dEq false) (mUn (dIsT cs "bool") (mVar 0)) (mUn (dIsT cs "bool") (mVar 1))) (mBin (dEq false) (mVar 0) (mVar 1))))
def c_law_alike : Nat → List D → RC
  | 0 => fun _ => .fail
  | n + 1 => runF 0 2 3 (m_law_alike (c_law_alike n))
def N_law_alike : List Str := ["_law_found", "_law_due", "_law_k"]
def P_law_alike : List Str := ["_law_found", "_law_due"]
theorem sc_law_alike : FnScope N_law_alike P_law_alike (defScope (top 30)) := ⟨rfl, rfl, rfl, by decide +kernel, rfl, by decide +kernel, by decide +kernel⟩
theorem d_law_alike {w : World} {K : PySem.W.Frag} {mg : Str → Option Value} {base : Heap} (hF : Fa w K mg)  {rc : List D → RC} {n : Nat} (xr : FnX PySem.Challenge.pw_listletters_k11_whole_partings w K mg base "_law_alike" (1 + n) 0 rc) {f : Addr} {fd : FuncData} (F : FunD K "_law_alike" "_law_alike" (defArgs (top 30)) (defBody (top 30)) (defScope (top 30)) [] [] f fd) :
    FnOk PySem.Challenge.pw_listletters_k11_whole_partings w K mg base (L2.CX PySem.Challenge.pw_listletters_k11_whole_partings w) (1 + n + 1) f fd P_law_alike (SpD K w 0 (runF 0 2 3 (m_law_alike rc))) :=
  fnOk_of F sc_law_alike (by decide) fun cdv A outer s H E pn W hr hpn0 tk => by
    have hpn := hpn0 rfl; have nd := sc_law_alike.nd
    exact (dSs_cons (dS_if (dT_of (dE_isT hF.isi (by decide) (dE_var 1) (by decide +kernel) (hF.bl "dict" (by decide)) (hF.bl "isinstance" (by decide)))) (dSs_one (dS_ret (dE_and (dE_isT hF.isi (by decide) (dE_var 0) (by decide +kernel) (hF.bl "dict" (by decide)) (hF.bl "isinstance" (by decide))) (dE_and (dE_call xr (hr.mono (by omega)) tk (dA_cons (dE_list (hF.bl "list" (by decide)) (dE_var 0)) (dA_cons (dE_list (hF.bl "list" (by decide)) (dE_var 1)) dA_nil))) (dE_one (gE_Eq hr (dE_var 0) (dE_var 1))))))) dSs_nil) <|
  (dSs_cons (dS_if (dT_of (dE_isTs hF.isi (by decide) (by decide) (dE_var 1) (by decide +kernel) (by decide +kernel) (hF.bl "tuple" (by decide)) (hF.bl "list" (by decide)) (hF.bl "isinstance" (by decide)))) (dSs_cons (dS_if (PW.pt (dW_or (dT_not (dT_of (dE_isTs hF.isi (by decide) (by decide) (dE_var 0) (by decide +kernel) (by decide +kernel) (hF.bl "tuple" (by decide)) (hF.bl "list" (by decide)) (hF.bl "isinstance" (by decide))))) (dW_or1 (gT_NotEq hr (dE_isT hF.isi (by decide) (dE_var 0) (by decide +kernel) (hF.bl "list" (by decide)) (hF.bl "isinstance" (by decide))) (dE_isT hF.isi (by decide) (dE_var 1) (by decide +kernel) (hF.bl "list" (by decide)) (hF.bl "isinstance" (by decide))))))) (dSs_one (dS_ret dE_bl)) dSs_nil) <|
  (dSs_cons (dS_if (gT_NotEq hr (dE_len (hF.bl "len" (by decide)) (dE_var 0)) (dE_len (hF.bl "len" (by decide)) (dE_var 1))) (dSs_one (dS_ret dE_bl)) dSs_nil) <|
  (dSs_one (dS_ret (gE_Eq hr (dE_lc nd (dI_rng1 (hF.bl "range" (by decide)) (dA_cons (dE_len (hF.bl "len" (by decide)) (dE_var 1)) dA_nil)) (blkOk_by (own := [("_law_k", 2)]) (by rfl)) (by decide) (fun s H C cl fp => (dG_nm 2 nd (.inr rfl))) (fun s H C cl fp => (dTs_one (dT_not (dT_of (dE_call xr (hr.mono (by omega)) takes0 (dA_cons (dE_idx (dE_var 0) (dE_var 2)) (dA_cons (dE_idx (dE_var 1) (dE_var 2)) dA_nil))))))) (fun s H C cl fp => (dE_var 2))) (dE_lst dA_nil)))))) dSs_nil) <|
  (dSs_cons (dS_if (PW.pt (dW_or (dT_isN (dE_var 1)) (dW_or1 (dT_of (dE_isT hF.isi (by decide) (dE_var 1) (by decide +kernel) (hF.bl "str" (by decide)) (hF.bl "isinstance" (by decide))))))) (dSs_one (dS_ret (dE_and (gE_Eq hr (dE_var 0) (dE_var 1)) (dE_one (gE_Eq hr (dE_isT hF.isi (by decide) (dE_var 0) (by decide +kernel) (hF.bl "str" (by decide)) (hF.bl "isinstance" (by decide))) (dE_isT hF.isi (by decide) (dE_var 1) (by decide +kernel) (hF.bl "str" (by decide)) (hF.bl "isinstance" (by decide)))))))) dSs_nil) <|
  (dSs_one (dS_ret (dE_and (dE_isT hF.isi (by decide) (dE_var 0) (by decide +kernel) (hF.bl "int" (by decide)) (hF.bl "isinstance" (by decide))) (dE_and (gE_Eq hr (dE_isT hF.isi (by decide) (dE_var 0) (by decide +kernel) (hF.bl "bool" (by decide)) (hF.bl "isinstance" (by decide))) (dE_isT hF.isi (by decide) (dE_var 1) (by decide +kernel) (hF.bl "bool" (by decide)) (hF.bl "isinstance" (by decide)))) (dE_one (gE_Eq hr (dE_var 0) (dE_var 1))))))))))
/-! ### _law_pick -/
def m_law_pick : M Fl :=
  mRet (mBin dIdx (mVar 1) (mCallIO c_law_next 0 (mCons (mB (one dLen) (mCons (mVar 1) mNil)) (mNil))))
def c_law_pick : List D → RC := runF 1 2 2 m_law_pick
def N_law_pick : List Str := ["_law_h", "_law_things"]
def P_law_pick : List Str := ["_law_h", "_law_things"]
theorem sc_law_pick : FnScope N_law_pick P_law_pick (defScope (top 31)) := ⟨rfl, rfl, rfl, by decide +kernel, rfl, by decide +kernel, by decide +kernel⟩
theorem d_law_pick {w : World} {K : PySem.W.Frag} {mg : Str → Option Value} {base : Heap} (hF : Fa w K mg) (x_law_next : FnX PySem.Challenge.pw_listletters_k11_whole_partings w K mg base "_law_next" 1 1 c_law_next) {f : Addr} {fd : FuncData} (F : FunD K "_law_pick" "_law_pick" (defArgs (top 31)) (defBody (top 31)) (defScope (top 31)) [] [] f fd) :
    FnOk PySem.Challenge.pw_listletters_k11_whole_partings w K mg base (L2.CX PySem.Challenge.pw_listletters_k11_whole_partings w) 2 f fd P_law_pick (SpD K w 1 c_law_pick) :=
  fnOk_of F sc_law_pick (by decide) fun cdv A outer s H E pn W hr hpn0 tk => by
    have nd := sc_law_pick.nd
    exact (dSs_one (dS_ret (dE_idx (dE_var 1) (dE_callIO 0 x_law_next (hr.mono (by omega)) tk (pv 0) (dA_cons (dE_len (hF.bl "len" (by decide)) (dE_var 1)) dA_nil)))))
/-! ### _law_marks -/
def m_law_marks : M Fl :=
  mSeq (mSet 1 (mLst (mCons (mTup (mNil)) (mCons (mTup (mNil)) (mCons (mTup (mCons (mC (.str "a")) (mNil))) (mCons (mTup (mCons (mC (.str "b")) (mNil))) (mCons (mTup (mCons (mC (.str "c")) (mNil))) (mCons (mTup (mCons (mC (.str "a")) (mCons (mC (.str "b")) (mNil)))) (mCons (mTup (mCons (mC (.str "a")) (mCons (mC (.str "c")) (mNil)))) (mCons (mTup (mCons (mC (.str "b")) (mCons (mC (.str "c")) (mNil)))) (mCons (mTup (mCons (mC (.str "a")) (mCons (mC (.str "b")) (mCons (mC (.str "c")) (mNil))))) (mNil)))))))))))) <|
  mRet (mCallIO c_law_pick 0 (mCons (mVar 1) (mNil)))
def c_law_marks : List D → RC := runF 1 1 2 m_law_marks
def N_law_marks : List Str := ["_law_h", "_law_some"]
def P_law_marks : List Str := ["_law_h"]
theorem sc_law_marks : FnScope N_law_marks P_law_marks (defScope (top 32)) := ⟨rfl, rfl, rfl, by decide +kernel, rfl, by decide +kernel, by decide +kernel⟩
theorem d_law_marks {w : World} {K : PySem.W.Frag} {mg : Str → Option Value} {base : Heap} (hF : Fa w K mg) (x_law_pick : FnX PySem.Challenge.pw_listletters_k11_whole_partings w K mg base "_law_pick" 2 1 c_law_pick) {f : Addr} {fd : FuncData} (F : FunD K "_law_marks" "_law_marks" (defArgs (top 32)) (defBody (top 32)) (defScope (top 32)) [] [] f fd) :
    FnOk PySem.Challenge.pw_listletters_k11_whole_partings w K mg base (L2.CX PySem.Challenge.pw_listletters_k11_whole_partings w) 3 f fd P_law_marks (SpD K w 1 c_law_marks) :=
  fnOk_of F sc_law_marks (by decide) fun cdv A outer s H E pn W hr hpn0 tk => by
    have nd := sc_law_marks.nd
    exact (dSs_cons (dS_set 1 nd (dE_lst (dA_cons (dE_tup dA_nil) (dA_cons (dE_tup dA_nil) (dA_cons (dE_tup (dA_cons dE_str dA_nil)) (dA_cons (dE_tup (dA_cons dE_str dA_nil)) (dA_cons (dE_tup (dA_cons dE_str dA_nil)) (dA_cons (dE_tup (dA_cons dE_str (dA_cons dE_str dA_nil))) (dA_cons (dE_tup (dA_cons dE_str (dA_cons dE_str dA_nil))) (dA_cons (dE_tup (dA_cons dE_str (dA_cons dE_str dA_nil))) (dA_cons (dE_tup (dA_cons dE_str (dA_cons dE_str (dA_cons dE_str dA_nil)))) dA_nil)))))))))) (.inl (by decide))) <|
  (dSs_one (dS_ret (dE_callIO 0 x_law_pick (hr.mono (by omega)) tk (pv 0) (dA_cons (dE_var 1) dA_nil)))))
/-! ### _law_test -/
def m_law_test : M Fl :=
  mSeq (mSet 1 (mCallIO c_law_pick 0 (mCons (mLst (mCons (mC (.str "has")) (mCons (mC (.str "lacks")) (mCons (mC (.str "lacks")) (mCons (mC (.str "least")) (mCons (mC (.str "below")) (mCons (mC (.str "below")) (mNil)))))))) (mNil)))) <|
  mSeq (mIf (mBin (dIn false) (mVar 1) (mLst (mCons (mC (.str "has")) (mCons (mC (.str "lacks")) (mNil))))) (mRet (mTup (mCons (mVar 1) (mCons (mCallIO c_law_pick 0 (mCons (mLst (mCons (mC (.str "a")) (mCons (mC (.str "b")) (mCons (mC (.str "c")) (mNil))))) (mNil))) (mNil))))) (mNext)) <|
  mRet (mTup (mCons (mVar 1) (mCons (mBin dAdd (mC (.int 1)) (mCallIO c_law_next 0 (mCons (mC (.int 3)) (mNil)))) (mNil))))
def c_law_test : List D → RC := runF 1 1 2 m_law_test
def N_law_test : List Str := ["_law_h", "_law_word"]
def P_law_test : List Str := ["_law_h"]
theorem sc_law_test : FnScope N_law_test P_law_test (defScope (top 33)) := ⟨rfl, rfl, rfl, by decide +kernel, rfl, by decide +kernel, by decide +kernel⟩
theorem d_law_test {w : World} {K : PySem.W.Frag} {mg : Str → Option Value} {base : Heap} (hF : Fa w K mg) (x_law_next : FnX PySem.Challenge.pw_listletters_k11_whole_partings w K mg base "_law_next" 1 1 c_law_next) (x_law_pick : FnX PySem.Challenge.pw_listletters_k11_whole_partings w K mg base "_law_pick" 2 1 c_law_pick) {f : Addr} {fd : FuncData} (F : FunD K "_law_test" "_law_test" (defArgs (top 33)) (defBody (top 33)) (defScope (top 33)) [] [] f fd) :
    FnOk PySem.Challenge.pw_listletters_k11_whole_partings w K mg base (L2.CX PySem.Challenge.pw_listletters_k11_whole_partings w) 3 f fd P_law_test (SpD K w 1 c_law_test) :=
  fnOk_of F sc_law_test (by decide) fun cdv A outer s H E pn W hr hpn0 tk => by
    have nd := sc_law_test.nd
    exact (dSs_cons (dS_set 1 nd (dE_callIO 0 x_law_pick (hr.mono (by omega)) tk (pv 0) (dA_cons (dE_lst (dA_cons dE_str (dA_cons dE_str (dA_cons dE_str (dA_cons dE_str (dA_cons dE_str (dA_cons dE_str dA_nil))))))) dA_nil)) (.inl (by decide))) <|
  (dSs_cons (dS_if (gT_In hr (dE_var 1) (dE_lst (dA_cons dE_str (dA_cons dE_str dA_nil)))) (dSs_one (dS_ret (dE_tup (dA_cons (dE_var 1) (dA_cons (dE_callIO 0 x_law_pick (hr.mono (by omega)) tk (pv 0) (dA_cons (dE_lst (dA_cons dE_str (dA_cons dE_str (dA_cons dE_str dA_nil)))) dA_nil)) dA_nil))))) dSs_nil) <|
  (dSs_one (dS_ret (dE_tup (dA_cons (dE_var 1) (dA_cons (dE_add dE_int (dE_callIO 0 x_law_next (hr.mono (by omega)) tk (pv 0) (dA_cons dE_int dA_nil))) dA_nil)))))))
/-! ### _law_send -/
def m_law_send : M Fl :=
  mSeq (mAsg (.tp [.nm 1, .nm 2, .nm 3]) (mTup (mCons (mCallIO c_law_pick 0 (mCons (mLst (mCons (mC (.str "all")) (mCons (mC (.str "back")) (mCons (mC (.str "back")) (mNil))))) (mNil))) (mCons (mCallIO c_law_marks 0 (mNil)) (mCons (mCallIO c_law_marks 0 (mNil)) (mNil)))))) <|
  mSeq (mSet 3 (mB (one dTuple) (mCons (mLc (mIt (mVar 3)) (.nm 4) [4] (mBin (dIn true) (mVar 4) (mVar 2)) (mVar 4)) mNil))) <|
  mRet (mTup (mCons (mVar 1) (mCons (mVar 2) (mCons (mVar 3) (mCons (mBin (dEq false) (mCallIO c_law_next 0 (mCons (mC (.int 2)) (mNil))) (mC (.int 0))) (mNil))))))
def c_law_send : List D → RC := runF 1 1 5 m_law_send
def N_law_send : List Str := ["_law_h", "_law_where", "_law_put", "_law_strip", "_law_mark"]
def P_law_send : List Str := ["_law_h"]
theorem sc_law_send : FnScope N_law_send P_law_send (defScope (top 34)) := ⟨rfl, rfl, rfl, by decide +kernel, rfl, by decide +kernel, by decide +kernel⟩
theorem d_law_send {w : World} {K : PySem.W.Frag} {mg : Str → Option Value} {base : Heap} (hF : Fa w K mg) (x_law_marks : FnX PySem.Challenge.pw_listletters_k11_whole_partings w K mg base "_law_marks" 3 1 c_law_marks) (x_law_next : FnX PySem.Challenge.pw_listletters_k11_whole_partings w K mg base "_law_next" 1 1 c_law_next) (x_law_pick : FnX PySem.Challenge.pw_listletters_k11_whole_partings w K mg base "_law_pick" 2 1 c_law_pick) {f : Addr} {fd : FuncData} (F : FunD K "_law_send" "_law_send" (defArgs (top 34)) (defBody (top 34)) (defScope (top 34)) [] [] f fd) :
    FnOk PySem.Challenge.pw_listletters_k11_whole_partings w K mg base (L2.CX PySem.Challenge.pw_listletters_k11_whole_partings w) 4 f fd P_law_send (SpD K w 1 c_law_send) :=
  fnOk_of F sc_law_send (by decide) fun cdv A outer s H E pn W hr hpn0 tk => by
    have nd := sc_law_send.nd
    exact (dSs_cons (dS_asg (dE_tup (dA_cons (dE_callIO 0 x_law_pick (hr.mono (by omega)) tk (pv 0) (dA_cons (dE_lst (dA_cons dE_str (dA_cons dE_str (dA_cons dE_str dA_nil)))) dA_nil)) (dA_cons (dE_callIO 0 x_law_marks (hr.mono (by omega)) tk (pv 0) dA_nil) (dA_cons (dE_callIO 0 x_law_marks (hr.mono (by omega)) tk (pv 0) dA_nil) dA_nil)))) (dG_tp (dGs_cons (dG_nm 1 nd (.inl (by decide))) (dGs_cons (dG_nm 2 nd (.inl (by decide))) (dGs_cons (dG_nm 3 nd (.inl (by decide))) dGs_nil))))) <|
  (dSs_cons (dS_set 3 nd (dE_tuple (hF.bl "tuple" (by decide)) (dE_lc nd (dI_seq (dE_var 3)) (blkOk_by (own := [("_law_mark", 4)]) (by rfl)) (by decide) (fun s H C cl fp => (dG_nm 4 nd (.inr rfl))) (fun s H C cl fp => (dTs_one (gT_NotIn hr (dE_var 4) (dE_var 2)))) (fun s H C cl fp => (dE_var 4)))) (.inl (by decide))) <|
  (dSs_one (dS_ret (dE_tup (dA_cons (dE_var 1) (dA_cons (dE_var 2) (dA_cons (dE_var 3) (dA_cons (gE_Eq hr (dE_callIO 0 x_law_next (hr.mono (by omega)) tk (pv 0) (dA_cons dE_int dA_nil)) dE_int) dA_nil)))))))))
/-! ### _law_row -/
def m_law_row : M Fl :=
  mSeq (mSet 1 (mB (one dTuple) (mCons (mLc (mRng1 (mCons (mCallIO c_law_pick 0 (mCons (mLst (mCons (mC (.int 0)) (mCons (mC (.int 1)) (mCons (mC (.int 1)) (mCons (mC (.int 1)) (mCons (mC (.int 2)) (mCons (mC (.int 2)) (mNil)))))))) (mNil))) (mNil))) (.nm 2) [2] (mC (.bl true)) (mCallIO c_law_test 0 (mNil))) mNil))) <|
  mRet (mTup (mCons (mVar 1) (mCons (mBin (dEq false) (mCallIO c_law_next 0 (mCons (mC (.int 2)) (mNil))) (mC (.int 0))) (mCons (mB (one dTuple) (mCons (mLc (mRng1 (mCons (mCallIO c_law_pick 0 (mCons (mLst (mCons (mC (.int 0)) (mCons (mC (.int 1)) (mCons (mC (.int 1)) (mCons (mC (.int 1)) (mCons (mC (.int 2)) (mNil))))))) (mNil))) (mNil))) (.nm 2) [2] (mC (.bl true)) (mCallIO c_law_send 0 (mNil))) mNil)) (mNil)))))
def c_law_row : List D → RC := runF 1 1 3 m_law_row
def N_law_row : List Str := ["_law_h", "_law_tests", "_law_k"]
def P_law_row : List Str := ["_law_h"]
theorem sc_law_row : FnScope N_law_row P_law_row (defScope (top 35)) := ⟨rfl, rfl, rfl, by decide +kernel, rfl, by decide +kernel, by decide +kernel⟩
theorem d_law_row {w : World} {K : PySem.W.Frag} {mg : Str → Option Value} {base : Heap} (hF : Fa w K mg) (x_law_next : FnX PySem.Challenge.pw_listletters_k11_whole_partings w K mg base "_law_next" 1 1 c_law_next) (x_law_pick : FnX PySem.Challenge.pw_listletters_k11_whole_partings w K mg base "_law_pick" 2 1 c_law_pick) (x_law_send : FnX PySem.Challenge.pw_listletters_k11_whole_partings w K mg base "_law_send" 4 1 c_law_send) (x_law_test : FnX PySem.Challenge.pw_listletters_k11_whole_partings w K mg base "_law_test" 3 1 c_law_test) {f : Addr} {fd : FuncData} (F : FunD K "_law_row" "_law_row" (defArgs (top 35)) (defBody (top 35)) (defScope (top 35)) [] [] f fd) :
    FnOk PySem.Challenge.pw_listletters_k11_whole_partings w K mg base (L2.CX PySem.Challenge.pw_listletters_k11_whole_partings w) 5 f fd P_law_row (SpD K w 1 c_law_row) :=
  fnOk_of F sc_law_row (by decide) fun cdv A outer s H E pn W hr hpn0 tk => by
    have nd := sc_law_row.nd
    exact (dSs_cons (dS_set 1 nd (dE_tuple (hF.bl "tuple" (by decide)) (dE_lc nd (dI_rng1 (hF.bl "range" (by decide)) (dA_cons (dE_callIO 0 x_law_pick (hr.mono (by omega)) tk (pv 0) (dA_cons (dE_lst (dA_cons dE_int (dA_cons dE_int (dA_cons dE_int (dA_cons dE_int (dA_cons dE_int (dA_cons dE_int dA_nil))))))) dA_nil)) dA_nil)) (blkOk_by (own := [("_law_k", 2)]) (by rfl)) (by decide) (fun s H C cl fp => (dG_nm 2 nd (.inr rfl))) (fun s H C cl fp => dTs_nil) (fun s H C cl fp => (dE_callIO 0 x_law_test (hr.mono (by omega)) takes0 (pv 0) dA_nil)))) (.inl (by decide))) <|
  (dSs_one (dS_ret (dE_tup (dA_cons (dE_var 1) (dA_cons (gE_Eq hr (dE_callIO 0 x_law_next (hr.mono (by omega)) tk (pv 0) (dA_cons dE_int dA_nil)) dE_int) (dA_cons (dE_tuple (hF.bl "tuple" (by decide)) (dE_lc nd (dI_rng1 (hF.bl "range" (by decide)) (dA_cons (dE_callIO 0 x_law_pick (hr.mono (by omega)) tk (pv 0) (dA_cons (dE_lst (dA_cons dE_int (dA_cons dE_int (dA_cons dE_int (dA_cons dE_int (dA_cons dE_int dA_nil)))))) dA_nil)) dA_nil)) (blkOk_by (own := [("_law_k", 2)]) (by rfl)) (by decide) (fun s H C cl fp => (dG_nm 2 nd (.inr rfl))) (fun s H C cl fp => dTs_nil) (fun s H C cl fp => (dE_callIO 0 x_law_send (hr.mono (by omega)) takes0 (pv 0) dA_nil)))) dA_nil)))))))
/-! ### _law_kind -/
def m_law_kind : M Fl :=
  mRet (mTup (mCons (mB (one dTuple) (mCons (mLc (mRng1 (mCons (mCallIO c_law_next 0 (mCons (mC (.int 4)) (mNil))) (mNil))) (.nm 1) [1] (mC (.bl true)) (mCallIO c_law_row 0 (mNil))) mNil)) (mCons (mBin (dEq false) (mCallIO c_law_next 0 (mCons (mC (.int 3)) (mNil))) (mC (.int 0))) (mNil))))
def c_law_kind : List D → RC := runF 1 1 2 m_law_kind
def N_law_kind : List Str := ["_law_h", "_law_k"]
def P_law_kind : List Str := ["_law_h"]
theorem sc_law_kind : FnScope N_law_kind P_law_kind (defScope (top 36)) := ⟨rfl, rfl, rfl, by decide +kernel, rfl, by decide +kernel, by decide +kernel⟩
theorem d_law_kind {w : World} {K : PySem.W.Frag} {mg : Str → Option Value} {base : Heap} (hF : Fa w K mg) (x_law_next : FnX PySem.Challenge.pw_listletters_k11_whole_partings w K mg base "_law_next" 1 1 c_law_next) (x_law_row : FnX PySem.Challenge.pw_listletters_k11_whole_partings w K mg base "_law_row" 5 1 c_law_row) {f : Addr} {fd : FuncData} (F : FunD K "_law_kind" "_law_kind" (defArgs (top 36)) (defBody (top 36)) (defScope (top 36)) [] [] f fd) :
    FnOk PySem.Challenge.pw_listletters_k11_whole_partings w K mg base (L2.CX PySem.Challenge.pw_listletters_k11_whole_partings w) 6 f fd P_law_kind (SpD K w 1 c_law_kind) :=
  fnOk_of F sc_law_kind (by decide) fun cdv A outer s H E pn W hr hpn0 tk => by
    have nd := sc_law_kind.nd
    exact (dSs_one (dS_ret (dE_tup (dA_cons (dE_tuple (hF.bl "tuple" (by decide)) (dE_lc nd (dI_rng1 (hF.bl "range" (by decide)) (dA_cons (dE_callIO 0 x_law_next (hr.mono (by omega)) tk (pv 0) (dA_cons dE_int dA_nil)) dA_nil)) (blkOk_by (own := [("_law_k", 1)]) (by rfl)) (by decide) (fun s H C cl fp => (dG_nm 1 nd (.inr rfl))) (fun s H C cl fp => dTs_nil) (fun s H C cl fp => (dE_callIO 0 x_law_row (hr.mono (by omega)) takes0 (pv 0) dA_nil)))) (dA_cons (gE_Eq hr (dE_callIO 0 x_law_next (hr.mono (by omega)) tk (pv 0) (dA_cons dE_int dA_nil)) dE_int) dA_nil)))))
/-! ### _law_heads -/
def m_law_heads : M Fl :=
  mSeq (mSet 0 (mLst (mCons (mTup (mNil)) (mCons (mTup (mCons (mC (.str "a")) (mNil))) (mCons (mTup (mCons (mC (.str "a")) (mCons (mC (.str "b")) (mNil)))) (mCons (mTup (mCons (mC (.str "a")) (mCons (mC (.str "b")) (mCons (mC (.str "c")) (mNil))))) (mCons (mTup (mCons (mC (.str "a")) (mCons (mC (.str "c")) (mNil)))) (mCons (mTup (mCons (mC (.str "b")) (mNil))) (mCons (mTup (mCons (mC (.str "b")) (mCons (mC (.str "c")) (mNil)))) (mCons (mTup (mCons (mC (.str "c")) (mNil))) (mNil))))))))))) <|
  mSeq (mSet 1 (mLst (mNil))) <|
  mSeq (mFor (mIt (mVar 0)) (.nm 2) (mSet 1 (mBin dAdd (mVar 1) (mLc (mRng1 (mCons (mC (.int 4)) (mNil))) (.nm 3) [3] (mC (.bl true)) (mTup (mCons (mVar 2) (mCons (mVar 3) (mNil)))))))) <|
  mRet (mVar 1)
def c_law_heads : List D → RC := runF 0 0 4 m_law_heads
def N_law_heads : List Str := ["_law_marks_here", "_law_found", "_law_some", "_law_count"]
def P_law_heads : List Str := []
theorem sc_law_heads : FnScope N_law_heads P_law_heads (defScope (top 37)) := ⟨rfl, rfl, rfl, by decide +kernel, rfl, by decide +kernel, by decide +kernel⟩
theorem d_law_heads {w : World} {K : PySem.W.Frag} {mg : Str → Option Value} {base : Heap} (hF : Fa w K mg)  {f : Addr} {fd : FuncData} (F : FunD K "_law_heads" "_law_heads" (defArgs (top 37)) (defBody (top 37)) (defScope (top 37)) [] [] f fd) :
    FnOk PySem.Challenge.pw_listletters_k11_whole_partings w K mg base (L2.CX PySem.Challenge.pw_listletters_k11_whole_partings w) 1 f fd P_law_heads (SpD K w 0 c_law_heads) :=
  fnOk_of F sc_law_heads (by decide) fun cdv A outer s H E pn W hr hpn0 tk => by
    have hpn := hpn0 rfl; have nd := sc_law_heads.nd
    exact (dSs_cons (dS_set 0 nd (dE_lst (dA_cons (dE_tup dA_nil) (dA_cons (dE_tup (dA_cons dE_str dA_nil)) (dA_cons (dE_tup (dA_cons dE_str (dA_cons dE_str dA_nil))) (dA_cons (dE_tup (dA_cons dE_str (dA_cons dE_str (dA_cons dE_str dA_nil)))) (dA_cons (dE_tup (dA_cons dE_str (dA_cons dE_str dA_nil))) (dA_cons (dE_tup (dA_cons dE_str dA_nil)) (dA_cons (dE_tup (dA_cons dE_str (dA_cons dE_str dA_nil))) (dA_cons (dE_tup (dA_cons dE_str dA_nil)) dA_nil))))))))) (.inr hpn)) <|
  (dSs_cons (dS_set 1 nd (dE_lst dA_nil) (.inr hpn)) <|
  (dSs_cons (dS_for (passes_of rfl) (dI_seq (dE_var 0)) (dG_nm 2 nd (.inr hpn)) (dSs_one (dS_set 1 nd (dE_add (dE_var 1) (dE_lc nd (dI_rng1 (hF.bl "range" (by decide)) (dA_cons dE_int dA_nil)) (blkOk_by (own := [("_law_count", 3)]) (by rfl)) (by decide) (fun s H C cl fp => (dG_nm 3 nd (.inr rfl))) (fun s H C cl fp => dTs_nil) (fun s H C cl fp => (dE_tup (dA_cons (dE_var 2) (dA_cons (dE_var 3) dA_nil)))))) (.inr hpn)))) <|
  (dSs_one (dS_ret (dE_var 1))))))
/-! ### _law_holds -/
def m_law_holds : M Fl :=
  mSeq (mIf (mBin (dEq false) (mBin dIdx (mVar 0) (mC (.int 0))) (mC (.str "has"))) (mRet (mBin (dIn false) (mBin dIdx (mVar 0) (mC (.int 1))) (mBin dIdx (mVar 1) (mC (.int 0))))) (mNext)) <|
  mSeq (mIf (mBin (dEq false) (mBin dIdx (mVar 0) (mC (.int 0))) (mC (.str "lacks"))) (mRet (mBin (dIn true) (mBin dIdx (mVar 0) (mC (.int 1))) (mBin dIdx (mVar 1) (mC (.int 0))))) (mNext)) <|
  mRet (mIte (mBin (dEq false) (mBin dIdx (mVar 0) (mC (.int 0))) (mC (.str "least"))) (mBin (dGe) (mBin dIdx (mVar 1) (mC (.int 1))) (mBin dIdx (mVar 0) (mC (.int 1)))) (mBin (dLt) (mBin dIdx (mVar 1) (mC (.int 1))) (mBin dIdx (mVar 0) (mC (.int 1)))))
def c_law_holds : List D → RC := runF 0 2 2 m_law_holds
def N_law_holds : List Str := ["_law_test_here", "_law_head"]
def P_law_holds : List Str := ["_law_test_here", "_law_head"]
theorem sc_law_holds : FnScope N_law_holds P_law_holds (defScope (top 38)) := ⟨rfl, rfl, rfl, by decide +kernel, rfl, by decide +kernel, by decide +kernel⟩
theorem d_law_holds {w : World} {K : PySem.W.Frag} {mg : Str → Option Value} {base : Heap} (hF : Fa w K mg)  {f : Addr} {fd : FuncData} (F : FunD K "_law_holds" "_law_holds" (defArgs (top 38)) (defBody (top 38)) (defScope (top 38)) [] [] f fd) :
    FnOk PySem.Challenge.pw_listletters_k11_whole_partings w K mg base (L2.CX PySem.Challenge.pw_listletters_k11_whole_partings w) 1 f fd P_law_holds (SpD K w 0 c_law_holds) :=
  fnOk_of F sc_law_holds (by decide) fun cdv A outer s H E pn W hr hpn0 tk => by
    have hpn := hpn0 rfl; have nd := sc_law_holds.nd
    exact (dSs_cons (dS_if (gT_Eq hr (dE_idx (dE_var 0) dE_int) dE_str) (dSs_one (dS_ret (gE_In hr (dE_idx (dE_var 0) dE_int) (dE_idx (dE_var 1) dE_int)))) dSs_nil) <|
  (dSs_cons (dS_if (gT_Eq hr (dE_idx (dE_var 0) dE_int) dE_str) (dSs_one (dS_ret (gE_NotIn hr (dE_idx (dE_var 0) dE_int) (dE_idx (dE_var 1) dE_int)))) dSs_nil) <|
  (dSs_one (dS_ret (dE_ite (gT_Eq hr (dE_idx (dE_var 0) dE_int) dE_str) (gE_GtE hr (dE_idx (dE_var 1) dE_int) (dE_idx (dE_var 0) dE_int)) (gE_Lt hr (dE_idx (dE_var 1) dE_int) (dE_idx (dE_var 0) dE_int)))))))
/-! ### _law_behind -/
def m_law_behind : M Fl :=
  mSeq (mSet 3 (mLc (mIt (mUn dMarks (mBin dAdd (mBin dIdx (mVar 1) (mC (.int 0))) (mBin dIdx (mVar 0) (mC (.int 1)))))) (.nm 5) [5] (mBin (dIn true) (mVar 5) (mBin dIdx (mVar 0) (mC (.int 2)))) (mVar 5))) <|
  mSeq (mSet 4 (mIte (mOr (mBin dIdx (mVar 0) (mC (.int 3))) (mVar 2)) (mBin dAdd (mBin dIdx (mVar 1) (mC (.int 1))) (mC (.int 1))) (mBin dIdx (mVar 1) (mC (.int 1))))) <|
  mRet (mTup (mCons (mB (one dTuple) (mCons (mVar 3) mNil)) (mCons (mIte (mBin (dLt) (mVar 4) (mC (.int 4))) (mVar 4) (mC (.int 3))) (mNil))))
def c_law_behind : List D → RC := runF 0 3 6 m_law_behind
def N_law_behind : List Str := ["_law_send_here", "_law_head", "_law_guarded", "_law_marks_here", "_law_count", "_law_mark"]
def P_law_behind : List Str := ["_law_send_here", "_law_head", "_law_guarded"]
theorem sc_law_behind : FnScope N_law_behind P_law_behind (defScope (top 39)) := ⟨rfl, rfl, rfl, by decide +kernel, rfl, by decide +kernel, by decide +kernel⟩
theorem d_law_behind {w : World} {K : PySem.W.Frag} {mg : Str → Option Value} {base : Heap} (hF : Fa w K mg)  {f : Addr} {fd : FuncData} (F : FunD K "_law_behind" "_law_behind" (defArgs (top 39)) (defBody (top 39)) (defScope (top 39)) [] [] f fd) :
    FnOk PySem.Challenge.pw_listletters_k11_whole_partings w K mg base (L2.CX PySem.Challenge.pw_listletters_k11_whole_partings w) 1 f fd P_law_behind (SpD K w 0 c_law_behind) :=
  fnOk_of F sc_law_behind (by decide) fun cdv A outer s H E pn W hr hpn0 tk => by
    have hpn := hpn0 rfl; have nd := sc_law_behind.nd
    exact (dSs_cons (dS_lc 3 nd (.inr hpn) (dI_seq (dE_marks (hF.bl "sorted" (by decide)) (hF.bl "set" (by decide)) (dE_add (dE_idx (dE_var 1) dE_int) (dE_idx (dE_var 0) dE_int)))) (blkOk_by (own := [("_law_mark", 5)]) (by rfl)) (by decide) (fun s H C cl fp => (dG_nm 5 nd (.inr rfl))) (fun s H C cl fp => (dTs_one (gT_NotIn hr (dE_var 5) (dE_idx (dE_var 0) dE_int)))) (fun s H C cl fp => (dE_var 5)) (sw_true rfl rfl rfl rfl)) <|
  (dSs_cons (dS_set 4 nd (dE_ite (PW.pt (dW_or (dT_of (dE_idx (dE_var 0) dE_int)) (dW_or1 (dT_of (dE_var 2))))) (dE_add (dE_idx (dE_var 1) dE_int) dE_int) (dE_idx (dE_var 1) dE_int)) (.inr hpn)) <|
  (dSs_one (dS_ret (dE_tup (dA_cons (dE_tuple (hF.bl "tuple" (by decide)) (dE_var 3)) (dA_cons (dE_ite (gT_Lt hr (dE_var 4) dE_int) (dE_var 4) dE_int) dA_nil)))))))
/-! ### _law_acts -/
def m_law_acts : M Fl :=
  mSeq (mAsg (.tp [.nm 2, .nm 3]) (mVar 0)) <|
  mSeq (mIf (mAnd (mVar 3) (mBin (dGt) (mBin dIdx (mVar 1) (mC (.int 1))) (mC (.int 2)))) (mRet (mTup (mCons (mC (.bl false)) (mCons (mTup (mNil)) (mNil))))) (mNext)) <|
  mSeq (mFor (mIt (mVar 2)) (.tp [.nm 4, .nm 5, .nm 6]) (mIf (mBin (dEq false) (mLc (mIt (mVar 4)) (.nm 7) [7] (mNot (mCall c_law_holds (mCons (mVar 7) (mCons (mVar 1) (mNil))))) (mVar 7)) (mLst (mNil))) (mRet (mTup (mCons (mVar 5) (mCons (mB (one dTuple) (mCons (mLc (mIt (mVar 6)) (.nm 8) [8] (mC (.bl true)) (mTup (mCons (mBin dIdx (mVar 8) (mC (.int 0))) (mCons (mCall c_law_behind (mCons (mVar 8) (mCons (mVar 1) (mCons (mVar 3) (mNil))))) (mNil))))) mNil)) (mNil))))) (mNext))) <|
  mRet (mTup (mCons (mC (.bl true)) (mCons (mTup (mNil)) (mNil))))
def c_law_acts : List D → RC := runF 0 2 9 m_law_acts
def N_law_acts : List Str := ["_law_kind_here", "_law_head", "_law_rows", "_law_guarded", "_law_tests", "_law_keep", "_law_sends", "_law_test_here", "_law_send_here"]
def P_law_acts : List Str := ["_law_kind_here", "_law_head"]
theorem sc_law_acts : FnScope N_law_acts P_law_acts (defScope (top 40)) := ⟨rfl, rfl, rfl, by decide +kernel, rfl, by decide +kernel, by decide +kernel⟩
theorem d_law_acts {w : World} {K : PySem.W.Frag} {mg : Str → Option Value} {base : Heap} (hF : Fa w K mg) (x_law_behind : FnX PySem.Challenge.pw_listletters_k11_whole_partings w K mg base "_law_behind" 1 0 c_law_behind) (x_law_holds : FnX PySem.Challenge.pw_listletters_k11_whole_partings w K mg base "_law_holds" 1 0 c_law_holds) {f : Addr} {fd : FuncData} (F : FunD K "_law_acts" "_law_acts" (defArgs (top 40)) (defBody (top 40)) (defScope (top 40)) [] [] f fd) :
    FnOk PySem.Challenge.pw_listletters_k11_whole_partings w K mg base (L2.CX PySem.Challenge.pw_listletters_k11_whole_partings w) 2 f fd P_law_acts (SpD K w 0 c_law_acts) :=
  fnOk_of F sc_law_acts (by decide) fun cdv A outer s H E pn W hr hpn0 tk => by
    have hpn := hpn0 rfl; have nd := sc_law_acts.nd
    exact (dSs_cons (dS_asg (dE_var 0) (dG_tp (dGs_cons (dG_nm 2 nd (.inr hpn)) (dGs_cons (dG_nm 3 nd (.inr hpn)) dGs_nil)))) <|
  (dSs_cons (dS_if (PW.pt (dW_and (dT_of (dE_var 3)) (dW_and1 (gT_Gt hr (dE_idx (dE_var 1) dE_int) dE_int)))) (dSs_one (dS_ret (dE_tup (dA_cons dE_bl (dA_cons (dE_tup dA_nil) dA_nil))))) dSs_nil) <|
  (dSs_cons (dS_for (passes_of rfl) (dI_seq (dE_var 2)) (dG_tp (dGs_cons (dG_nm 4 nd (.inr hpn)) (dGs_cons (dG_nm 5 nd (.inr hpn)) (dGs_cons (dG_nm 6 nd (.inr hpn)) dGs_nil)))) (dSs_one (dS_if (gT_Eq hr (dE_lc nd (dI_seq (dE_var 4)) (blkOk_by (own := [("_law_test_here", 7)]) (by rfl)) (by decide) (fun s H C cl fp => (dG_nm 7 nd (.inr rfl))) (fun s H C cl fp => (dTs_one (dT_not (dT_of (dE_call x_law_holds (hr.mono (by omega)) takes0 (dA_cons (dE_var 7) (dA_cons (dE_var 1) dA_nil))))))) (fun s H C cl fp => (dE_var 7))) (dE_lst dA_nil)) (dSs_one (dS_ret (dE_tup (dA_cons (dE_var 5) (dA_cons (dE_tuple (hF.bl "tuple" (by decide)) (dE_lc nd (dI_seq (dE_var 6)) (blkOk_by (own := [("_law_send_here", 8)]) (by rfl)) (by decide) (fun s H C cl fp => (dG_nm 8 nd (.inr rfl))) (fun s H C cl fp => dTs_nil) (fun s H C cl fp => (dE_tup (dA_cons (dE_idx (dE_var 8) dE_int) (dA_cons (dE_call x_law_behind (hr.mono (by omega)) takes0 (dA_cons (dE_var 8) (dA_cons (dE_var 1) (dA_cons (dE_var 3) dA_nil)))) dA_nil)))))) dA_nil))))) dSs_nil))) <|
  (dSs_one (dS_ret (dE_tup (dA_cons dE_bl (dA_cons (dE_tup dA_nil) dA_nil))))))))
/-! ### _law_changed -/
def m_law_changed : M Fl :=
  mSeq (mAsg (.tp [.nm 2, .nm 3]) (mVar 1)) <|
  mSeq (mPar 4 5 (mCons (mCallIO c_law_next 0 (mCons (mBin dAdd (mB (one dLen) (mCons (mVar 2) mNil)) (mC (.int 1))) (mNil))) (mCons (mCallIO c_law_next 0 (mCons (mC (.int 5)) (mNil))) (mNil)))) <|
  mSeq (mIf (mBin (dEq false) (mVar 5) (mC (.int 0))) (mRet (mTup (mCons (mBin dAdd (mSlice (mVar 2) (mNoPart) (mPart (mVar 4))) (mSlice (mVar 2) (mPart (mBin dAdd (mVar 4) (mC (.int 1)))) (mNoPart))) (mCons (mVar 3) (mNil))))) (mNext)) <|
  mSeq (mIf (mBin (dEq false) (mVar 5) (mC (.int 1))) (mRet (mTup (mCons (mSlice (mBin dAdd (mBin dAdd (mSlice (mVar 2) (mNoPart) (mPart (mVar 4))) (mTup (mCons (mCallIO c_law_row 0 (mNil)) (mNil)))) (mSlice (mVar 2) (mPart (mBin dAdd (mVar 4) (mC (.int 1)))) (mNoPart))) (mNoPart) (mPart (mC (.int 4)))) (mCons (mVar 3) (mNil))))) (mNext)) <|
  mSeq (mIf (mBin (dEq false) (mVar 5) (mC (.int 2))) (mRet (mTup (mCons (mVar 2) (mCons (mNot (mVar 3)) (mNil))))) (mNext)) <|
  mSeq (mIf (mBin (dEq false) (mVar 5) (mC (.int 3))) (mRet (mTup (mCons (mB (one dTuple) (mCons (mLc (mIt (mVar 2)) (.tp [.nm 7, .nm 8, .nm 9]) [7, 8, 9] (mC (.bl true)) (mTup (mCons (mVar 7) (mCons (mVar 8) (mCons (mUn dRev (mVar 9)) (mNil)))))) mNil)) (mCons (mVar 3) (mNil))))) (mNext)) <|
  mSeq (mSet 6 (mSlice (mVar 2) (mPart (mVar 4)) (mPart (mBin dAdd (mVar 4) (mC (.int 2)))))) <|
  mRet (mTup (mCons (mBin dAdd (mBin dAdd (mSlice (mVar 2) (mNoPart) (mPart (mVar 4))) (mUn dRev (mVar 6))) (mSlice (mVar 2) (mPart (mBin dAdd (mVar 4) (mC (.int 2)))) (mNoPart))) (mCons (mVar 3) (mNil))))
def c_law_changed : List D → RC := runF 1 2 10 m_law_changed
def N_law_changed : List Str := ["_law_h", "_law_kind_here", "_law_rows", "_law_guarded", "_law_at", "_law_what", "_law_pair", "_law_tests", "_law_keep", "_law_sends"]
def P_law_changed : List Str := ["_law_h", "_law_kind_here"]
theorem sc_law_changed : FnScope N_law_changed P_law_changed (defScope (top 41)) := ⟨rfl, rfl, rfl, by decide +kernel, rfl, by decide +kernel, by decide +kernel⟩
theorem d_law_changed {w : World} {K : PySem.W.Frag} {mg : Str → Option Value} {base : Heap} (hF : Fa w K mg) (x_law_next : FnX PySem.Challenge.pw_listletters_k11_whole_partings w K mg base "_law_next" 1 1 c_law_next) (x_law_row : FnX PySem.Challenge.pw_listletters_k11_whole_partings w K mg base "_law_row" 5 1 c_law_row) {f : Addr} {fd : FuncData} (F : FunD K "_law_changed" "_law_changed" (defArgs (top 41)) (defBody (top 41)) (defScope (top 41)) [] [] f fd) :
    FnOk PySem.Challenge.pw_listletters_k11_whole_partings w K mg base (L2.CX PySem.Challenge.pw_listletters_k11_whole_partings w) 6 f fd P_law_changed (SpD K w 1 c_law_changed) :=
  fnOk_of F sc_law_changed (by decide) fun cdv A outer s H E pn W hr hpn0 tk => by
    have nd := sc_law_changed.nd
    exact (dSs_cons (dS_asg (dE_var 1) (dG_tp (dGs_cons (dG_nm 2 nd (.inl (by decide))) (dGs_cons (dG_nm 3 nd (.inl (by decide))) dGs_nil)))) <|
  (dSs_cons (dS_par nd (dA_cons (dE_callIO 0 x_law_next (hr.mono (by omega)) tk (pv 0) (dA_cons (dE_add (dE_len (hF.bl "len" (by decide)) (dE_var 2)) dE_int) dA_nil)) (dA_cons (dE_callIO 0 x_law_next (hr.mono (by omega)) tk (pv 0) (dA_cons dE_int dA_nil)) dA_nil)) (.inl ⟨by decide, by decide⟩)) <|
  (dSs_cons (dS_if (gT_Eq hr (dE_var 5) dE_int) (dSs_one (dS_ret (dE_tup (dA_cons (dE_add (dE_slice (dE_var 2) dO_none (dO_some (dE_var 4))) (dE_slice (dE_var 2) (dO_some (dE_add (dE_var 4) dE_int)) dO_none)) (dA_cons (dE_var 3) dA_nil))))) dSs_nil) <|
  (dSs_cons (dS_if (gT_Eq hr (dE_var 5) dE_int) (dSs_one (dS_ret (dE_tup (dA_cons (dE_slice (dE_add (dE_add (dE_slice (dE_var 2) dO_none (dO_some (dE_var 4))) (dE_tup (dA_cons (dE_callIO 0 x_law_row (hr.mono (by omega)) tk (pv 0) dA_nil) dA_nil))) (dE_slice (dE_var 2) (dO_some (dE_add (dE_var 4) dE_int)) dO_none)) dO_none (dO_some dE_int)) (dA_cons (dE_var 3) dA_nil))))) dSs_nil) <|
  (dSs_cons (dS_if (gT_Eq hr (dE_var 5) dE_int) (dSs_one (dS_ret (dE_tup (dA_cons (dE_var 2) (dA_cons (dE_not (dE_var 3)) dA_nil))))) dSs_nil) <|
  (dSs_cons (dS_if (gT_Eq hr (dE_var 5) dE_int) (dSs_one (dS_ret (dE_tup (dA_cons (dE_tuple (hF.bl "tuple" (by decide)) (dE_lc nd (dI_seq (dE_var 2)) (blkOk_by (own := [("_law_tests", 7), ("_law_keep", 8), ("_law_sends", 9)]) (by rfl)) (by decide) (fun s H C cl fp => (dG_tp (dGs_cons (dG_nm 7 nd (.inr rfl)) (dGs_cons (dG_nm 8 nd (.inr rfl)) (dGs_cons (dG_nm 9 nd (.inr rfl)) dGs_nil))))) (fun s H C cl fp => dTs_nil) (fun s H C cl fp => (dE_tup (dA_cons (dE_var 7) (dA_cons (dE_var 8) (dA_cons (dE_rev (dE_var 9)) dA_nil))))))) (dA_cons (dE_var 3) dA_nil))))) dSs_nil) <|
  (dSs_cons (dS_set 6 nd (dE_slice (dE_var 2) (dO_some (dE_var 4)) (dO_some (dE_add (dE_var 4) dE_int))) (.inl (by decide))) <|
  (dSs_one (dS_ret (dE_tup (dA_cons (dE_add (dE_add (dE_slice (dE_var 2) dO_none (dO_some (dE_var 4))) (dE_rev (dE_var 6))) (dE_slice (dE_var 2) (dO_some (dE_add (dE_var 4) dE_int)) dO_none)) (dA_cons (dE_var 3) dA_nil))))))))))))
/-! ### _law_parting -/
def m_law_parting : M Fl :=
  mSeq (mFor (mIt (mCall c_law_heads mNil)) (.nm 2) (mSeq (mPar 3 4 (mCons (mCall c_law_acts (mCons (mVar 0) (mCons (mVar 2) (mNil)))) (mCons (mCall c_law_acts (mCons (mVar 1) (mCons (mVar 2) (mNil)))) (mNil)))) <|
  mIf (mOr (mBin (dEq true) (mBin dIdx (mVar 3) (mC (.int 0))) (mBin dIdx (mVar 4) (mC (.int 0)))) (mBin (dEq true) (mB (one dSorted) (mCons (mBin dIdx (mVar 3) (mC (.int 1))) mNil)) (mB (one dSorted) (mCons (mBin dIdx (mVar 4) (mC (.int 1))) mNil)))) (mRet (mVar 2)) (mNext))) <|
  mRet (mC .non)
def c_law_parting : List D → RC := runF 0 2 5 m_law_parting
def N_law_parting : List Str := ["_law_one", "_law_two", "_law_head", "_law_here", "_law_there"]
def P_law_parting : List Str := ["_law_one", "_law_two"]
theorem sc_law_parting : FnScope N_law_parting P_law_parting (defScope (top 42)) := ⟨rfl, rfl, rfl, by decide +kernel, rfl, by decide +kernel, by decide +kernel⟩
theorem d_law_parting {w : World} {K : PySem.W.Frag} {mg : Str → Option Value} {base : Heap} (hF : Fa w K mg) (x_law_acts : FnX PySem.Challenge.pw_listletters_k11_whole_partings w K mg base "_law_acts" 2 0 c_law_acts) (x_law_heads : FnX PySem.Challenge.pw_listletters_k11_whole_partings w K mg base "_law_heads" 1 0 c_law_heads) {f : Addr} {fd : FuncData} (F : FunD K "_law_parting" "_law_parting" (defArgs (top 42)) (defBody (top 42)) (defScope (top 42)) [] [] f fd) :
    FnOk PySem.Challenge.pw_listletters_k11_whole_partings w K mg base (L2.CX PySem.Challenge.pw_listletters_k11_whole_partings w) 3 f fd P_law_parting (SpD K w 0 c_law_parting) :=
  fnOk_of F sc_law_parting (by decide) fun cdv A outer s H E pn W hr hpn0 tk => by
    have hpn := hpn0 rfl; have nd := sc_law_parting.nd
    exact (dSs_cons (dS_for (passes_of rfl) (dI_seq (dE_call0 x_law_heads (hr.mono (by omega)) tk)) (dG_nm 2 nd (.inr hpn)) (dSs_cons (dS_par nd (dA_cons (dE_call x_law_acts (hr.mono (by omega)) tk (dA_cons (dE_var 0) (dA_cons (dE_var 2) dA_nil))) (dA_cons (dE_call x_law_acts (hr.mono (by omega)) tk (dA_cons (dE_var 1) (dA_cons (dE_var 2) dA_nil))) dA_nil)) (.inr hpn)) <|
  (dSs_one (dS_if (PW.pt (dW_or (gT_NotEq hr (dE_idx (dE_var 3) dE_int) (dE_idx (dE_var 4) dE_int)) (dW_or1 (gT_NotEq hr (dE_sorted hr (hF.bl "sorted" (by decide)) (dE_idx (dE_var 3) dE_int)) (dE_sorted hr (hF.bl "sorted" (by decide)) (dE_idx (dE_var 4) dE_int)))))) (dSs_one (dS_ret (dE_var 2))) dSs_nil)))) <|
  (dSs_one (dS_ret dE_non)))
/-! ### law -/
def m_law : M Fl :=
  mSeq (mSet 1 (mCall c_law_mix (mCons (mVar 0) (mCons (mC (.int 11)) (mNil))))) <|
  mSeq (mFor (mRng1 (mCons (mC (.int 4)) (mNil))) (.nm 2) (mSeq (mSet 3 (mCallIO c_law_kind 1 (mNil))) <|
  mSeq (mSet 4 (mCallIO c_law_changed 1 (mCons (mVar 3) (mNil)))) <|
  mSeq (mPar3 5 6 7 (mCons (mMake "Kind" c_Kind_init (mCons (mBin dIdx (mVar 3) (mC (.int 0))) (mCons (mBin dIdx (mVar 3) (mC (.int 1))) (mNil)))) (mCons (mMake "Kind" c_Kind_init (mCons (mBin dIdx (mVar 4) (mC (.int 0))) (mCons (mBin dIdx (mVar 4) (mC (.int 1))) (mNil)))) (mCons (mCall c_law_parting (mCons (mVar 3) (mCons (mVar 4) (mNil)))) (mNil))))) <|
  mSeq (mIf (mOr (mNot (mCall (c_law_alike 8) (mCons (mCall c_parting (mCons (mVar 5) (mCons (mVar 6) (mNil)))) (mCons (mVar 7) (mNil))))) (mNot (mCall (c_law_alike 8) (mCons (mCall c_parting (mCons (mVar 6) (mCons (mVar 5) (mNil)))) (mCons (mVar 7) (mNil)))))) (mRet (mC (.bl false))) (mNext)) <|
  mSeq (mIf (mOr (mBin (dEq true) (mCall c_alike (mCons (mVar 5) (mCons (mVar 6) (mNil)))) (mUn (dIsN false) (mVar 7))) (mNot (mCall c_alike (mCons (mVar 5) (mCons (mVar 5) (mNil)))))) (mRet (mC (.bl false))) (mNext)) <|
  mSeq (mSet 8 (mLst (mNil))) <|
  mSeq (mFor (mRng1 (mCons (mB (one dLen) (mCons (mBin dIdx (mVar 3) (mC (.int 0))) mNil)) (mNil))) (.nm 9) (mIf (mUn (dIsN false) (mCall c_law_parting (mCons (mVar 3) (mCons (mTup (mCons (mBin dAdd (mSlice (mBin dIdx (mVar 3) (mC (.int 0))) (mNoPart) (mPart (mVar 9))) (mSlice (mBin dIdx (mVar 3) (mC (.int 0))) (mPart (mBin dAdd (mVar 9) (mC (.int 1)))) (mNoPart))) (mCons (mBin dIdx (mVar 3) (mC (.int 1))) (mNil)))) (mNil))))) (mDo (mApp 8 (mVar 9))) (mNext))) <|
  mIf (mNot (mCall (c_law_alike 8) (mCons (mCall c_needless (mCons (mVar 5) (mNil))) (mCons (mVar 8) (mNil))))) (mRet (mC (.bl false))) (mNext))) <|
  mRet (mC (.bl true))
def c_law : List D → RC := runF 0 1 10 m_law
def N_law : List Str := ["_law_script", "_law_h", "_law_turn", "_law_one", "_law_two", "_law_first", "_law_second", "_law_due", "_law_out", "_law_at"]
def P_law : List Str := ["_law_script"]
theorem sc_law : FnScope N_law P_law (defScope (top 43)) := ⟨rfl, rfl, rfl, by decide +kernel, rfl, by decide +kernel, by decide +kernel⟩
theorem d_law {w : World} {K : PySem.W.Frag} {mg : Str → Option Value} {base : Heap} (hF : Fa w K mg) (x_law_alike : ∀ n, FnX PySem.Challenge.pw_listletters_k11_whole_partings w K mg base "_law_alike" (1 + n) 0 (c_law_alike n)) (x_law_changed : FnX PySem.Challenge.pw_listletters_k11_whole_partings w K mg base "_law_changed" 6 1 c_law_changed) (x_law_kind : FnX PySem.Challenge.pw_listletters_k11_whole_partings w K mg base "_law_kind" 6 1 c_law_kind) (x_law_mix : FnX PySem.Challenge.pw_listletters_k11_whole_partings w K mg base "_law_mix" 1 0 c_law_mix) (x_law_parting : FnX PySem.Challenge.pw_listletters_k11_whole_partings w K mg base "_law_parting" 3 0 c_law_parting) (x_alike : FnX PySem.Challenge.pw_listletters_k11_whole_partings w K mg base "alike" 4 0 c_alike) (x_needless : FnX PySem.Challenge.pw_listletters_k11_whole_partings w K mg base "needless" 7 0 c_needless) (x_parting : FnX PySem.Challenge.pw_listletters_k11_whole_partings w K mg base "parting" 3 0 c_parting) (x_Kind_init : MkX PySem.Challenge.pw_listletters_k11_whole_partings w K mg base "Kind" 5 c_Kind_init) {f : Addr} {fd : FuncData} (F : FunD K "law" "law" (defArgs (top 43)) (defBody (top 43)) (defScope (top 43)) [] [] f fd) :
    FnOk PySem.Challenge.pw_listletters_k11_whole_partings w K mg base (L2.CX PySem.Challenge.pw_listletters_k11_whole_partings w) 10 f fd P_law (SpD K w 0 c_law) :=
  fnOk_of F sc_law (by decide) fun cdv A outer s H E pn W hr hpn0 tk => by
    have hpn := hpn0 rfl; have nd := sc_law.nd
    exact (dSs_cons (dS_set 1 nd (dE_call x_law_mix (hr.mono (by omega)) tk (dA_cons (dE_var 0) (dA_cons dE_int dA_nil))) (.inr hpn)) <|
  (dSs_cons (dS_for (passes_of rfl) (dI_rng1 (hF.bl "range" (by decide)) (dA_cons dE_int dA_nil)) (dG_nm 2 nd (.inr hpn)) (dSs_cons (dS_set 3 nd (dE_callIO 1 x_law_kind (hr.mono (by omega)) tk (pv 1) dA_nil) (.inr hpn)) <|
  (dSs_cons (dS_set 4 nd (dE_callIO 1 x_law_changed (hr.mono (by omega)) tk (pv 1) (dA_cons (dE_var 3) dA_nil)) (.inr hpn)) <|
  (dSs_cons (dS_par3 nd (dA_cons (dE_make x_Kind_init (hr.mono (by omega)) tk (dA_cons (dE_idx (dE_var 3) dE_int) (dA_cons (dE_idx (dE_var 3) dE_int) dA_nil))) (dA_cons (dE_make x_Kind_init (hr.mono (by omega)) tk (dA_cons (dE_idx (dE_var 4) dE_int) (dA_cons (dE_idx (dE_var 4) dE_int) dA_nil))) (dA_cons (dE_call x_law_parting (hr.mono (by omega)) tk (dA_cons (dE_var 3) (dA_cons (dE_var 4) dA_nil))) dA_nil))) (.inr hpn)) <|
  (dSs_cons (dS_if (PW.pt (dW_or (dT_not (dT_of (dE_call (x_law_alike 8) (hr.mono (by omega)) tk (dA_cons (dE_call x_parting (hr.mono (by omega)) tk (dA_cons (dE_var 5) (dA_cons (dE_var 6) dA_nil))) (dA_cons (dE_var 7) dA_nil))))) (dW_or1 (dT_not (dT_of (dE_call (x_law_alike 8) (hr.mono (by omega)) tk (dA_cons (dE_call x_parting (hr.mono (by omega)) tk (dA_cons (dE_var 6) (dA_cons (dE_var 5) dA_nil))) (dA_cons (dE_var 7) dA_nil)))))))) (dSs_one (dS_ret dE_bl)) dSs_nil) <|
  (dSs_cons (dS_if (PW.pt (dW_or (gT_NotEq hr (dE_call x_alike (hr.mono (by omega)) tk (dA_cons (dE_var 5) (dA_cons (dE_var 6) dA_nil))) (dE_isN (dE_var 7))) (dW_or1 (dT_not (dT_of (dE_call x_alike (hr.mono (by omega)) tk (dA_cons (dE_var 5) (dA_cons (dE_var 5) dA_nil)))))))) (dSs_one (dS_ret dE_bl)) dSs_nil) <|
  (dSs_cons (dS_set 8 nd (dE_lst dA_nil) (.inr hpn)) <|
  (dSs_cons (dS_for (passes_of rfl) (dI_rng1 (hF.bl "range" (by decide)) (dA_cons (dE_len (hF.bl "len" (by decide)) (dE_idx (dE_var 3) dE_int)) dA_nil)) (dG_nm 9 nd (.inr hpn)) (dSs_one (dS_if (dT_isN (dE_call x_law_parting (hr.mono (by omega)) tk (dA_cons (dE_var 3) (dA_cons (dE_tup (dA_cons (dE_add (dE_slice (dE_idx (dE_var 3) dE_int) dO_none (dO_some (dE_var 9))) (dE_slice (dE_idx (dE_var 3) dE_int) (dO_some (dE_add (dE_var 9) dE_int)) dO_none)) (dA_cons (dE_idx (dE_var 3) dE_int) dA_nil))) dA_nil)))) (dSs_one (dS_do (dE_app 8 (pv 8) (dE_var 9)))) dSs_nil))) <|
  (dSs_one (dS_if (dT_not (dT_of (dE_call (x_law_alike 8) (hr.mono (by omega)) tk (dA_cons (dE_call x_needless (hr.mono (by omega)) tk (dA_cons (dE_var 5) dA_nil)) (dA_cons (dE_var 8) dA_nil))))) (dSs_one (dS_ret dE_bl)) dSs_nil)))))))))) <|
  (dSs_one (dS_ret dE_bl))))
/-! ### the head -/
def fn : List DfP := [
  topD "is_integer" (top 12),
  topD "is_one_of" (top 13),
  topD "are_marks" (top 14),
  topD "is_test" (top 15),
  topD "is_send" (top 16),
  topD "is_row" (top 17),
  topD "holds" (top 18),
  topD "head_behind" (top 19),
  topD "acted" (top 20),
  methD "Kind" "__init__" "Kind.__init__" (inClass (top 21) 0),
  topD "all_heads" (top 22),
  topD "parting" (top 24),
  topD "alike" (top 25),
  topD "needless" (top 26),
  topD "_law_mix" (top 28),
  topD "_law_next" (top 29),
  topD "_law_alike" (top 30),
  topD "_law_pick" (top 31),
  topD "_law_marks" (top 32),
  topD "_law_test" (top 33),
  topD "_law_send" (top 34),
  topD "_law_row" (top 35),
  topD "_law_kind" (top 36),
  topD "_law_heads" (top 37),
  topD "_law_holds" (top 38),
  topD "_law_behind" (top 39),
  topD "_law_acts" (top 40),
  topD "_law_changed" (top 41),
  topD "_law_parting" (top 42),
  topD "law" (top 43)]
def e_InvalidGuard : ExD := ⟨"InvalidGuard", none, defArgs (inClass (top 4) 0), defBody (inClass (top 4) 0), defScope (inClass (top 4) 0)⟩
theorem et_InvalidGuard : e_InvalidGuard.Text PySem.Challenge.pw_listletters_k11_whole_partings := ⟨⟨_, _, _, _, _, _, _, _, rfl, _, fun _ => rfl⟩, fun fd hp hq vs hl => by
  obtain ⟨n1, n2, n3, n4, n5, n6, n7, n8, n9, n10, n11, n12, n13, n14, n15⟩ := fd
  dsimp only at hp hq
  subst hp hq
  exact match vs, hl with | [_], _ => rfl, ⟨_, rfl, rfl⟩, rfl, rfl, rfl, by decide +kernel, by decide +kernel, rfl, rfl, by decide +kernel⟩
def e_InvalidRow : ExD := ⟨"InvalidRow", some "index", defArgs (inClass (top 3) 0), defBody (inClass (top 3) 0), defScope (inClass (top 3) 0)⟩
theorem et_InvalidRow : e_InvalidRow.Text PySem.Challenge.pw_listletters_k11_whole_partings := ⟨⟨_, _, _, _, _, _, _, _, _, _, _, _, rfl, _, fun _ => rfl⟩, fun fd hp hq vs hl => by
  obtain ⟨n1, n2, n3, n4, n5, n6, n7, n8, n9, n10, n11, n12, n13, n14, n15⟩ := fd
  dsimp only at hp hq
  subst hp hq
  exact match vs, hl with | [_, _], _ => rfl, ⟨_, rfl, rfl⟩, rfl, rfl, rfl, by decide +kernel, by decide +kernel, rfl, rfl, by decide +kernel⟩
def xs : List ExD := [e_InvalidGuard, e_InvalidRow]
def kds : List (Str × KD) := [("MARKS", KD.strs ["a", "b", "c"]), ("MOST_COUNT", KD.int 3), ("MOST_ROWS", KD.int 4), ("MOST_TESTS", KD.int 2), ("MOST_SENDS", KD.int 2), ("PLACES", KD.strs ["all", "back"])]
def dnames : List Str := (["is_integer", "is_one_of", "are_marks", "is_test", "is_send", "is_row", "holds", "head_behind", "acted", "all_heads", "parting", "alike", "needless", "_law_mix", "_law_next", "_law_alike"] : List Str) ++ (["_law_pick", "_law_marks", "_law_test", "_law_send", "_law_row", "_law_kind", "_law_heads", "_law_holds", "_law_behind", "_law_acts", "_law_changed", "_law_parting", "law"] : List Str)
def glos : List Str := dnames ++ cs
def mkrs : List Str := ["Kind"]
def meths : List (Str × Str) := []
def props : List (Str × Str) := []
def eqs : List Str := []
def ex (K : PySem.W.Frag) : Bool := isiB K cs && (hnB K && ((blts.all fun x => (He.Fa.free x).ok K) && ((flds.all fun f => fldB K cs f) && (exsB K exs && ((kds.all fun p => p.2.ok K p.1) && ((xs.all fun d => d.ok PySem.Challenge.pw_listletters_k11_whole_partings.main.file K) && ((He.Fa.free "super").ok K && ((glos.all fun x => (He.Fa.glo x).ok K) && ((mkrs.all fun x => (He.Fa.mkr x).ok K) && ((meths.all fun p => (He.Fa.cls p.1).ok K && (He.Fa.meth p.1 p.2).ok K) && ((props.all fun p => prB K p.1 p.2 (He.ma K (He.ga K p.1) p.2) (prG K p.1 p.2)) && ((eqs.all fun c => eqB K cs c)))))))))))))
theorem ex_of {K : PySem.W.Frag} (h : ex K = true) : isiB K cs = true ∧ hnB K = true ∧ (blts.all fun x => (He.Fa.free x).ok K) = true ∧ (flds.all fun f => fldB K cs f) = true ∧ exsB K exs = true ∧ (kds.all fun p => p.2.ok K p.1) = true ∧ (xs.all fun d => d.ok PySem.Challenge.pw_listletters_k11_whole_partings.main.file K) = true ∧ (He.Fa.free "super").ok K = true ∧ (glos.all fun x => (He.Fa.glo x).ok K) = true ∧ (mkrs.all fun x => (He.Fa.mkr x).ok K) = true ∧ (meths.all fun p => (He.Fa.cls p.1).ok K && (He.Fa.meth p.1 p.2).ok K) = true ∧ (props.all fun p => prB K p.1 p.2 (He.ma K (He.ga K p.1) p.2) (prG K p.1 p.2)) = true ∧ (eqs.all fun c => eqB K cs c) = true := by
  unfold ex at h
  obtain ⟨h1, h⟩ := He.ba h
  obtain ⟨h2, h⟩ := He.ba h
  obtain ⟨h3, h⟩ := He.ba h
  obtain ⟨h4, h⟩ := He.ba h
  obtain ⟨h5, h⟩ := He.ba h
  obtain ⟨h6, h⟩ := He.ba h
  obtain ⟨h7, h⟩ := He.ba h
  obtain ⟨h8, h⟩ := He.ba h
  obtain ⟨h9, h⟩ := He.ba h
  obtain ⟨h10, h⟩ := He.ba h
  obtain ⟨h11, h⟩ := He.ba h
  obtain ⟨h12, h⟩ := He.ba h
  exact ⟨h1, h2, h3, h4, h5, h6, h7, h8, h9, h10, h11, h12, h⟩
theorem fa_ok {w : World} {K : PySem.W.Frag} {h : Heap} {mg : Str → Option Value} (X : K.In h) (G : h.Ns mainGlobals mg) (c : SaysP ex fn xs K) : Fa w K mg := by
  obtain ⟨h1, h2, h3, h4, h5, h6, h7, h8, h9, h10, h11, h12, h13⟩ := ex_of c.more
  exact ⟨isiB_ok h1 h2,
    fun x hx => He.free_ok X G (List.all_eq_true.mp h3 x (List.contains_iff_mem.mp hx)),
    fun c hc => He.glo_ok X G (List.all_eq_true.mp h9 c (List.mem_append_right dnames (List.contains_iff_mem.mp hc))),
    fun f hf => fldB_ok (List.all_eq_true.mp h4 f (List.contains_iff_mem.mp hf)),
    exsB_ok X G h5,
    KD.glo X G (List.all_eq_true.mp h6 _ (List.mem_of_getElem? (i := 0) rfl)),
    KD.glo X G (List.all_eq_true.mp h6 _ (List.mem_of_getElem? (i := 1) rfl)),
    KD.glo X G (List.all_eq_true.mp h6 _ (List.mem_of_getElem? (i := 2) rfl)),
    KD.glo X G (List.all_eq_true.mp h6 _ (List.mem_of_getElem? (i := 3) rfl)),
    KD.glo X G (List.all_eq_true.mp h6 _ (List.mem_of_getElem? (i := 4) rfl)),
    KD.glo X G (List.all_eq_true.mp h6 _ (List.mem_of_getElem? (i := 5) rfl)),
    ExD.exX X G et_InvalidGuard (c.exc 0 rfl) (List.all_eq_true.mp h7 _ (List.mem_of_getElem? (i := 0) rfl)) h8,
    ExD.exX X G et_InvalidRow (c.exc 1 rfl) (List.all_eq_true.mp h7 _ (List.mem_of_getElem? (i := 1) rfl)) h8⟩
theorem facts {w : World} {K : PySem.W.Frag} {h : Heap} {mg : Str → Option Value} (X : K.In h) (G : h.Ns mainGlobals mg) (c : SaysP ex fn xs K) : ∃ fd : FuncData, (∀ (s : Shared) (u : Value), BindsTo s fd ⟨[u], []⟩ [("_law_script", u)]) ∧ ∀ base : Heap, FnOk PySem.Challenge.pw_listletters_k11_whole_partings w K mg base (L2.CX PySem.Challenge.pw_listletters_k11_whole_partings w) 10 (He.ga K "law") fd ["_law_script"] (SpD K w 0 c_law) := by
  have hF : Fa w K mg := fa_ok X G c
  obtain ⟨h1, h2, h3, h4, h5, h6, h7, h8, h9, h10, h11, h12, h13⟩ := ex_of c.more
  obtain ⟨fd_is_integer, F_is_integer⟩ := c.def_ 0 (d := topD "is_integer" (top 12)) rfl
  have b_is_integer : Binds K fd_is_integer P_is_integer [] := FunD.bindsN F_is_integer fun _ _ _ _ _ _ us hl => match us, hl with | [_, _, _], _ => rfl
  obtain ⟨fd_is_one_of, F_is_one_of⟩ := c.def_ 1 (d := topD "is_one_of" (top 13)) rfl
  have b_is_one_of : Binds K fd_is_one_of P_is_one_of [] := FunD.bindsN F_is_one_of fun _ _ _ _ _ _ us hl => match us, hl with | [_, _], _ => rfl
  obtain ⟨fd_are_marks, F_are_marks⟩ := c.def_ 2 (d := topD "are_marks" (top 14)) rfl
  have b_are_marks : Binds K fd_are_marks P_are_marks [] := FunD.bindsN F_are_marks fun _ _ _ _ _ _ us hl => match us, hl with | [_], _ => rfl
  obtain ⟨fd_is_test, F_is_test⟩ := c.def_ 3 (d := topD "is_test" (top 15)) rfl
  have b_is_test : Binds K fd_is_test P_is_test [] := FunD.bindsN F_is_test fun _ _ _ _ _ _ us hl => match us, hl with | [_], _ => rfl
  obtain ⟨fd_is_send, F_is_send⟩ := c.def_ 4 (d := topD "is_send" (top 16)) rfl
  have b_is_send : Binds K fd_is_send P_is_send [] := FunD.bindsN F_is_send fun _ _ _ _ _ _ us hl => match us, hl with | [_], _ => rfl
  obtain ⟨fd_is_row, F_is_row⟩ := c.def_ 5 (d := topD "is_row" (top 17)) rfl
  have b_is_row : Binds K fd_is_row P_is_row [] := FunD.bindsN F_is_row fun _ _ _ _ _ _ us hl => match us, hl with | [_], _ => rfl
  obtain ⟨fd_holds, F_holds⟩ := c.def_ 6 (d := topD "holds" (top 18)) rfl
  have b_holds : Binds K fd_holds P_holds [] := FunD.bindsN F_holds fun _ _ _ _ _ _ us hl => match us, hl with | [_, _], _ => rfl
  obtain ⟨fd_head_behind, F_head_behind⟩ := c.def_ 7 (d := topD "head_behind" (top 19)) rfl
  have b_head_behind : Binds K fd_head_behind P_head_behind [] := FunD.bindsN F_head_behind fun _ _ _ _ _ _ us hl => match us, hl with | [_, _, _], _ => rfl
  obtain ⟨fd_acted, F_acted⟩ := c.def_ 8 (d := topD "acted" (top 20)) rfl
  have b_acted : Binds K fd_acted P_acted [] := FunD.bindsN F_acted fun _ _ _ _ _ _ us hl => match us, hl with | [_, _], _ => rfl
  obtain ⟨fd_Kind_init, F_Kind_init⟩ := c.def_ 9 (d := methD "Kind" "__init__" "Kind.__init__" (inClass (top 21) 0)) rfl
  have b_Kind_init : Binds K fd_Kind_init P_Kind_init [] := FunD.bindsN F_Kind_init fun _ _ _ _ _ _ us hl => match us, hl with | [_, _, _], _ => rfl
  obtain ⟨fd_all_heads, F_all_heads⟩ := c.def_ 10 (d := topD "all_heads" (top 22)) rfl
  have b_all_heads : Binds K fd_all_heads P_all_heads [] := FunD.bindsN F_all_heads fun _ _ _ _ _ _ us hl => match us, hl with | [], _ => rfl
  obtain ⟨fd_parting, F_parting⟩ := c.def_ 11 (d := topD "parting" (top 24)) rfl
  have b_parting : Binds K fd_parting P_parting [] := FunD.bindsN F_parting fun _ _ _ _ _ _ us hl => match us, hl with | [_, _], _ => rfl
  obtain ⟨fd_alike, F_alike⟩ := c.def_ 12 (d := topD "alike" (top 25)) rfl
  have b_alike : Binds K fd_alike P_alike [] := FunD.bindsN F_alike fun _ _ _ _ _ _ us hl => match us, hl with | [_, _], _ => rfl
  obtain ⟨fd_needless, F_needless⟩ := c.def_ 13 (d := topD "needless" (top 26)) rfl
  have b_needless : Binds K fd_needless P_needless [] := FunD.bindsN F_needless fun _ _ _ _ _ _ us hl => match us, hl with | [_], _ => rfl
  obtain ⟨fd_law_mix, F_law_mix⟩ := c.def_ 14 (d := topD "_law_mix" (top 28)) rfl
  have b_law_mix : Binds K fd_law_mix P_law_mix [] := FunD.bindsN F_law_mix fun _ _ _ _ _ _ us hl => match us, hl with | [_, _], _ => rfl
  obtain ⟨fd_law_next, F_law_next⟩ := c.def_ 15 (d := topD "_law_next" (top 29)) rfl
  have b_law_next : Binds K fd_law_next P_law_next [] := FunD.bindsN F_law_next fun _ _ _ _ _ _ us hl => match us, hl with | [_, _], _ => rfl
  obtain ⟨fd_law_alike, F_law_alike⟩ := c.def_ 16 (d := topD "_law_alike" (top 30)) rfl
  have b_law_alike : Binds K fd_law_alike P_law_alike [] := FunD.bindsN F_law_alike fun _ _ _ _ _ _ us hl => match us, hl with | [_, _], _ => rfl
  obtain ⟨fd_law_pick, F_law_pick⟩ := c.def_ 17 (d := topD "_law_pick" (top 31)) rfl
  have b_law_pick : Binds K fd_law_pick P_law_pick [] := FunD.bindsN F_law_pick fun _ _ _ _ _ _ us hl => match us, hl with | [_, _], _ => rfl
  obtain ⟨fd_law_marks, F_law_marks⟩ := c.def_ 18 (d := topD "_law_marks" (top 32)) rfl
  have b_law_marks : Binds K fd_law_marks P_law_marks [] := FunD.bindsN F_law_marks fun _ _ _ _ _ _ us hl => match us, hl with | [_], _ => rfl
  obtain ⟨fd_law_test, F_law_test⟩ := c.def_ 19 (d := topD "_law_test" (top 33)) rfl
  have b_law_test : Binds K fd_law_test P_law_test [] := FunD.bindsN F_law_test fun _ _ _ _ _ _ us hl => match us, hl with | [_], _ => rfl
  obtain ⟨fd_law_send, F_law_send⟩ := c.def_ 20 (d := topD "_law_send" (top 34)) rfl
  have b_law_send : Binds K fd_law_send P_law_send [] := FunD.bindsN F_law_send fun _ _ _ _ _ _ us hl => match us, hl with | [_], _ => rfl
  obtain ⟨fd_law_row, F_law_row⟩ := c.def_ 21 (d := topD "_law_row" (top 35)) rfl
  have b_law_row : Binds K fd_law_row P_law_row [] := FunD.bindsN F_law_row fun _ _ _ _ _ _ us hl => match us, hl with | [_], _ => rfl
  obtain ⟨fd_law_kind, F_law_kind⟩ := c.def_ 22 (d := topD "_law_kind" (top 36)) rfl
  have b_law_kind : Binds K fd_law_kind P_law_kind [] := FunD.bindsN F_law_kind fun _ _ _ _ _ _ us hl => match us, hl with | [_], _ => rfl
  obtain ⟨fd_law_heads, F_law_heads⟩ := c.def_ 23 (d := topD "_law_heads" (top 37)) rfl
  have b_law_heads : Binds K fd_law_heads P_law_heads [] := FunD.bindsN F_law_heads fun _ _ _ _ _ _ us hl => match us, hl with | [], _ => rfl
  obtain ⟨fd_law_holds, F_law_holds⟩ := c.def_ 24 (d := topD "_law_holds" (top 38)) rfl
  have b_law_holds : Binds K fd_law_holds P_law_holds [] := FunD.bindsN F_law_holds fun _ _ _ _ _ _ us hl => match us, hl with | [_, _], _ => rfl
  obtain ⟨fd_law_behind, F_law_behind⟩ := c.def_ 25 (d := topD "_law_behind" (top 39)) rfl
  have b_law_behind : Binds K fd_law_behind P_law_behind [] := FunD.bindsN F_law_behind fun _ _ _ _ _ _ us hl => match us, hl with | [_, _, _], _ => rfl
  obtain ⟨fd_law_acts, F_law_acts⟩ := c.def_ 26 (d := topD "_law_acts" (top 40)) rfl
  have b_law_acts : Binds K fd_law_acts P_law_acts [] := FunD.bindsN F_law_acts fun _ _ _ _ _ _ us hl => match us, hl with | [_, _], _ => rfl
  obtain ⟨fd_law_changed, F_law_changed⟩ := c.def_ 27 (d := topD "_law_changed" (top 41)) rfl
  have b_law_changed : Binds K fd_law_changed P_law_changed [] := FunD.bindsN F_law_changed fun _ _ _ _ _ _ us hl => match us, hl with | [_, _], _ => rfl
  obtain ⟨fd_law_parting, F_law_parting⟩ := c.def_ 28 (d := topD "_law_parting" (top 42)) rfl
  have b_law_parting : Binds K fd_law_parting P_law_parting [] := FunD.bindsN F_law_parting fun _ _ _ _ _ _ us hl => match us, hl with | [_, _], _ => rfl
  obtain ⟨fd_law, F_law⟩ := c.def_ 29 (d := topD "law" (top 43)) rfl
  refine ⟨fd_law, fun s u => FunD.bindsA (ps := ["_law_script"]) F_law (fun _ _ _ _ _ _ us hl => match us, hl with | [_], _ => rfl) s [u] rfl, fun base => ?_⟩
  have x_is_integer : FnX PySem.Challenge.pw_listletters_k11_whole_partings w K mg base "is_integer" 1 0 c_is_integer := fnX_of X G (List.all_eq_true.mp h9 _ (by decide +kernel)) rfl F_is_integer.kp b_is_integer (d_is_integer hF F_is_integer)
  have x_is_one_of : FnX PySem.Challenge.pw_listletters_k11_whole_partings w K mg base "is_one_of" 1 0 c_is_one_of := fnX_of X G (List.all_eq_true.mp h9 _ (by decide +kernel)) rfl F_is_one_of.kp b_is_one_of (d_is_one_of hF F_is_one_of)
  have x_are_marks : FnX PySem.Challenge.pw_listletters_k11_whole_partings w K mg base "are_marks" 2 0 c_are_marks := fnX_of X G (List.all_eq_true.mp h9 _ (by decide +kernel)) rfl F_are_marks.kp b_are_marks (d_are_marks hF x_is_one_of F_are_marks)
  have x_is_test : FnX PySem.Challenge.pw_listletters_k11_whole_partings w K mg base "is_test" 2 0 c_is_test := fnX_of X G (List.all_eq_true.mp h9 _ (by decide +kernel)) rfl F_is_test.kp b_is_test (d_is_test hF x_is_integer x_is_one_of F_is_test)
  have x_is_send : FnX PySem.Challenge.pw_listletters_k11_whole_partings w K mg base "is_send" 3 0 c_is_send := fnX_of X G (List.all_eq_true.mp h9 _ (by decide +kernel)) rfl F_is_send.kp b_is_send (d_is_send hF x_are_marks x_is_one_of F_is_send)
  have x_is_row : FnX PySem.Challenge.pw_listletters_k11_whole_partings w K mg base "is_row" 4 0 c_is_row := fnX_of X G (List.all_eq_true.mp h9 _ (by decide +kernel)) rfl F_is_row.kp b_is_row (d_is_row hF x_is_send x_is_test F_is_row)
  have x_holds : FnX PySem.Challenge.pw_listletters_k11_whole_partings w K mg base "holds" 1 0 c_holds := fnX_of X G (List.all_eq_true.mp h9 _ (by decide +kernel)) rfl F_holds.kp b_holds (d_holds hF F_holds)
  have x_head_behind : FnX PySem.Challenge.pw_listletters_k11_whole_partings w K mg base "head_behind" 1 0 c_head_behind := fnX_of X G (List.all_eq_true.mp h9 _ (by decide +kernel)) rfl F_head_behind.kp b_head_behind (d_head_behind hF F_head_behind)
  have x_acted : FnX PySem.Challenge.pw_listletters_k11_whole_partings w K mg base "acted" 2 0 c_acted := fnX_of X G (List.all_eq_true.mp h9 _ (by decide +kernel)) rfl F_acted.kp b_acted (d_acted hF x_head_behind x_holds F_acted)
  have y_Kind_init : MkX PySem.Challenge.pw_listletters_k11_whole_partings w K mg base "Kind" 5 c_Kind_init := mkX_of X G (List.all_eq_true.mp h9 _ (by decide +kernel)) (List.all_eq_true.mp h10 _ (by decide +kernel)) b_Kind_init (d_Kind_init hF x_is_row F_Kind_init)
  have x_all_heads : FnX PySem.Challenge.pw_listletters_k11_whole_partings w K mg base "all_heads" 1 0 c_all_heads := fnX_of X G (List.all_eq_true.mp h9 _ (by decide +kernel)) rfl F_all_heads.kp b_all_heads (d_all_heads hF F_all_heads)
  have x_parting : FnX PySem.Challenge.pw_listletters_k11_whole_partings w K mg base "parting" 3 0 c_parting := fnX_of X G (List.all_eq_true.mp h9 _ (by decide +kernel)) rfl F_parting.kp b_parting (d_parting hF x_acted x_all_heads F_parting)
  have x_alike : FnX PySem.Challenge.pw_listletters_k11_whole_partings w K mg base "alike" 4 0 c_alike := fnX_of X G (List.all_eq_true.mp h9 _ (by decide +kernel)) rfl F_alike.kp b_alike (d_alike hF x_parting F_alike)
  have x_needless : FnX PySem.Challenge.pw_listletters_k11_whole_partings w K mg base "needless" 7 0 c_needless := fnX_of X G (List.all_eq_true.mp h9 _ (by decide +kernel)) rfl F_needless.kp b_needless (d_needless hF x_parting y_Kind_init F_needless)
  have x_law_mix : FnX PySem.Challenge.pw_listletters_k11_whole_partings w K mg base "_law_mix" 1 0 c_law_mix := fnX_of X G (List.all_eq_true.mp h9 _ (by decide +kernel)) rfl F_law_mix.kp b_law_mix (d_law_mix hF F_law_mix)
  have x_law_next : FnX PySem.Challenge.pw_listletters_k11_whole_partings w K mg base "_law_next" 1 1 c_law_next := fnX_of X G (List.all_eq_true.mp h9 _ (by decide +kernel)) rfl F_law_next.kp b_law_next (d_law_next hF F_law_next)
  have x_law_alike : ∀ n, FnX PySem.Challenge.pw_listletters_k11_whole_partings w K mg base "_law_alike" (1 + n) 0 (c_law_alike n) := fun n => by
    induction n with
    | zero => exact fnX_of X G (List.all_eq_true.mp h9 _ (by decide +kernel)) rfl F_law_alike.kp b_law_alike (fail_of F_law_alike sc_law_alike 0)
    | succ n xr => exact fnX_of X G (List.all_eq_true.mp h9 _ (by decide +kernel)) rfl F_law_alike.kp b_law_alike (d_law_alike hF xr F_law_alike)
  have x_law_pick : FnX PySem.Challenge.pw_listletters_k11_whole_partings w K mg base "_law_pick" 2 1 c_law_pick := fnX_of X G (List.all_eq_true.mp h9 _ (by decide +kernel)) rfl F_law_pick.kp b_law_pick (d_law_pick hF x_law_next F_law_pick)
  have x_law_marks : FnX PySem.Challenge.pw_listletters_k11_whole_partings w K mg base "_law_marks" 3 1 c_law_marks := fnX_of X G (List.all_eq_true.mp h9 _ (by decide +kernel)) rfl F_law_marks.kp b_law_marks (d_law_marks hF x_law_pick F_law_marks)
  have x_law_test : FnX PySem.Challenge.pw_listletters_k11_whole_partings w K mg base "_law_test" 3 1 c_law_test := fnX_of X G (List.all_eq_true.mp h9 _ (by decide +kernel)) rfl F_law_test.kp b_law_test (d_law_test hF x_law_next x_law_pick F_law_test)
  have x_law_send : FnX PySem.Challenge.pw_listletters_k11_whole_partings w K mg base "_law_send" 4 1 c_law_send := fnX_of X G (List.all_eq_true.mp h9 _ (by decide +kernel)) rfl F_law_send.kp b_law_send (d_law_send hF x_law_marks x_law_next x_law_pick F_law_send)
  have x_law_row : FnX PySem.Challenge.pw_listletters_k11_whole_partings w K mg base "_law_row" 5 1 c_law_row := fnX_of X G (List.all_eq_true.mp h9 _ (by decide +kernel)) rfl F_law_row.kp b_law_row (d_law_row hF x_law_next x_law_pick x_law_send x_law_test F_law_row)
  have x_law_kind : FnX PySem.Challenge.pw_listletters_k11_whole_partings w K mg base "_law_kind" 6 1 c_law_kind := fnX_of X G (List.all_eq_true.mp h9 _ (by decide +kernel)) rfl F_law_kind.kp b_law_kind (d_law_kind hF x_law_next x_law_row F_law_kind)
  have x_law_heads : FnX PySem.Challenge.pw_listletters_k11_whole_partings w K mg base "_law_heads" 1 0 c_law_heads := fnX_of X G (List.all_eq_true.mp h9 _ (by decide +kernel)) rfl F_law_heads.kp b_law_heads (d_law_heads hF F_law_heads)
  have x_law_holds : FnX PySem.Challenge.pw_listletters_k11_whole_partings w K mg base "_law_holds" 1 0 c_law_holds := fnX_of X G (List.all_eq_true.mp h9 _ (by decide +kernel)) rfl F_law_holds.kp b_law_holds (d_law_holds hF F_law_holds)
  have x_law_behind : FnX PySem.Challenge.pw_listletters_k11_whole_partings w K mg base "_law_behind" 1 0 c_law_behind := fnX_of X G (List.all_eq_true.mp h9 _ (by decide +kernel)) rfl F_law_behind.kp b_law_behind (d_law_behind hF F_law_behind)
  have x_law_acts : FnX PySem.Challenge.pw_listletters_k11_whole_partings w K mg base "_law_acts" 2 0 c_law_acts := fnX_of X G (List.all_eq_true.mp h9 _ (by decide +kernel)) rfl F_law_acts.kp b_law_acts (d_law_acts hF x_law_behind x_law_holds F_law_acts)
  have x_law_changed : FnX PySem.Challenge.pw_listletters_k11_whole_partings w K mg base "_law_changed" 6 1 c_law_changed := fnX_of X G (List.all_eq_true.mp h9 _ (by decide +kernel)) rfl F_law_changed.kp b_law_changed (d_law_changed hF x_law_next x_law_row F_law_changed)
  have x_law_parting : FnX PySem.Challenge.pw_listletters_k11_whole_partings w K mg base "_law_parting" 3 0 c_law_parting := fnX_of X G (List.all_eq_true.mp h9 _ (by decide +kernel)) rfl F_law_parting.kp b_law_parting (d_law_parting hF x_law_acts x_law_heads F_law_parting)
  exact d_law hF x_law_alike x_law_changed x_law_kind x_law_mix x_law_parting x_alike x_needless x_parting y_Kind_init F_law
abbrev R : PySem.W.OpenRow := PySem.W.OpenLaw.row PySem.Challenge.rw_listletters_k11_whole_partings
abbrev hk : PySem.W.Hook := hookP 5 ex fn xs
def ob (s : PySem.W.SharedT) : AlP := obsPG 5 ex fn xs (HandSHeadRun.getT s)
theorem ob_eq (s : PySem.W.SharedT) : ob s = hk.obs s.abs := obsPG_eq (HandSHeadRun.getT_eq s)
def names : List Str := (["_wall", "LetterError", "InvalidRow", "InvalidGuard", "is_integer", "is_one_of", "are_marks", "is_test", "is_send", "is_row", "holds", "head_behind", "acted", "Kind", "all_heads", "parting"] : List Str) ++ (["alike", "needless", "_law_mix", "_law_next", "_law_alike", "_law_pick", "_law_marks", "_law_test", "_law_send", "_law_row", "_law_kind", "_law_heads", "_law_holds", "_law_behind", "_law_acts", "_law_changed"] : List Str) ++ (["_law_parting", "MARKS", "MOST_COUNT", "MOST_ROWS", "MOST_TESTS", "MOST_SENDS", "PLACES"] : List Str)
set_option maxHeartbeats 0 in
theorem run (w : World) : HandSHeadRun.RunEq R (PySem.W.view R.prog [43]) hk ob 6000 names w := by
  intro os
  kernel_rfl
end V11
set_option Elab.async false
set_option linter.all false
set_option maxRecDepth 100000
set_option maxHeartbeats 4000000
/-! k11: what the functions do. -/
namespace V11
open PySem PySem.Spec PyProof.Rows L2 Pl
open Pu (GH hD GRow isOk isOk_eq plN frzL_of fz_mem lc_ok lc_gen fz_rows fzL_all kindT kindF headsL heads0 actV KindV KD2 GK kF rawD partV ActV Is)
theorem q_is_row : c_is_row = Pu.c_is_row cs := rfl
theorem q_init : c_Kind_init = Pu.c_Kind_init cs := rfl
theorem q_alike : c_law_alike = Pu.c_law_alike cs := by
  funext n
  induction n with
  | zero => rfl
  | succ n ih =>
    show runF 0 2 3 (m_law_alike (c_law_alike n)) = runF 0 2 3 (Pu.m_law_alike cs (Pu.c_law_alike cs n))
    rw [ih]
    rfl
theorem q_next : c_law_next = Pu.c_law_next := rfl
theorem q_row : c_law_row = Pu.c_law_row := rfl
theorem q_kind : c_law_kind = Pu.c_law_kind := rfl
theorem q_mix : c_law_mix = Pu.c_law_mix := rfl
theorem q_heads : c_law_heads = Pu.c_law_heads := rfl
theorem q_acts : c_law_acts = Pu.c_law_acts := rfl
theorem q_acted : c_acted = Pu.c_acted cs := rfl
theorem cs_kind : cs.contains ("Kind" : Str) = true := by decide
/-! ### all heads -/
def rows8 : List D := [.tup [], .tup [.str "a"], .tup [.str "b"], .tup [.str "a", .str "b"], .tup [.str "c"], .tup [.str "a", .str "c"], .tup [.str "b", .str "c"], .tup [.str "a", .str "b", .str "c"]]
def ahA : M Fl := mSet 0 (mLst (mCons (mTup (mNil)) (mNil)))
def ahF : M Fl := mFor (mIt (mC k_MARKS)) (.nm 1) (mSet 0 (mBin dAdd (mVar 0) (mLc (mIt (mVar 0)) (.nm 2) [2] (mC (.bl true)) (mTup (mStar (mVar 2) (mCons (mVar 1) (mNil)))))))
def ahL : M D := mLc2 (mIt (mVar 0)) (.nm 2) [2, 3] (mC (.bl true)) (mRng1 (mCons (mBin dAdd (mC k_MOST_COUNT) (mC (.int 1))) (mNil))) (.nm 3) [3] (mC (.bl true)) (mTup (mCons (mVar 2) (mCons (mVar 3) (mNil))))
theorem ah_eq : m_all_heads = mSeq ahA (mSeq ahF (mRet (mB (one dSorted) (mCons ahL mNil)))) := rfl
theorem ah1 : ahA [none, none, none, none] = .ok .next [some (.lst true [.tup []]), none, none, none] := by kernel_rfl
theorem ah2 : ahF [some (.lst true [.tup []]), none, none, none] = .ok .next [some (.lst true rows8), some (.str "c"), none, none] := by kernel_rfl
theorem ah3 : ahL [some (.lst true rows8), some (.str "c"), none, none] = .ok (.lst true heads0) [some (.lst false rows8), some (.str "c"), none, none] := by kernel_rfl
theorem all_heads_eq : c_all_heads [] = .ok (.lst true headsL) [] := by
  have z := Pu.heads0_fz
  have d := Pu.heads_dS
  simp only [c_all_heads, ah_eq, runF, mSeq, mSet, mMov, mBin, mUn, mB, mCons, mNil, mVar, mBinL, mBinR, mUnP, mC, isIn, mIf, mRet, mNext, mBrk, mDo, mAnd, mOr, mNot, mIte, mTup, mLst, mSlice, mNoPart, mPart, mCall, mCallIO, mAsg, mPar, mPar3, asg, asgL, onB, R.bind_ok, R.bind_exc, R.bind_fail, R.of, one, dInt, dTuple, dList, dLen, dIdx, D.fz, D.frz, D.fzL, D.frzL, runE, pickIO, List.length_cons, List.length_nil, List.map_cons, List.map_nil, List.cons_append, List.nil_append, List.getElem?_cons_zero, List.getElem?_cons_succ, List.set_cons_zero, List.set_cons_succ, if_true, if_false, Bool.false_eq_true, Bool.not_true, Bool.not_false, Bool.true_and, Bool.false_and, Bool.and_true, Bool.and_self, List.replicate, Nat.reduceAdd, Nat.reduceSub, Nat.reduceLT, Nat.reduceLeDiff, Nat.reduceEqDiff, Option.bind_some, Option.map_some, Pu.atI0, Pu.atI1, Pu.atI2, Pu.atI3, and_self, Pu.sz, reduceIte, Pu.n0, Pu.n1, Pu.n2, Pu.n3, Pu.n4, Pu.n5, Pu.n6, Pu.n7, Pu.n8, Pu.n9, Int.reduceBEq, beq_self_eq_true, Pu.io_tup, Pu.io_lst, Pu.io_int, Pu.io_bl, Pu.io_str, Pu.io_non, decide_true, decide_false, ah1, ah2, ah3, z, d]
theorem hit1 (e : Pl.Env) : mIt (mCall c_all_heads mNil) e = .ok headsL e := by
  have z := frzL_of Pu.headsL_fz
  simp only [mIt, D.itemsS, runF, mSeq, mSet, mMov, mBin, mUn, mB, mCons, mNil, mVar, mBinL, mBinR, mUnP, mC, isIn, mIf, mRet, mNext, mBrk, mDo, mAnd, mOr, mNot, mIte, mTup, mLst, mSlice, mNoPart, mPart, mCall, mCallIO, mAsg, mPar, mPar3, asg, asgL, onB, R.bind_ok, R.bind_exc, R.bind_fail, R.of, one, dInt, dTuple, dList, dLen, dIdx, D.fz, D.frz, D.fzL, D.frzL, runE, pickIO, List.length_cons, List.length_nil, List.map_cons, List.map_nil, List.cons_append, List.nil_append, List.getElem?_cons_zero, List.getElem?_cons_succ, List.set_cons_zero, List.set_cons_succ, if_true, if_false, Bool.false_eq_true, Bool.not_true, Bool.not_false, Bool.true_and, Bool.false_and, Bool.and_true, Bool.and_self, List.replicate, Nat.reduceAdd, Nat.reduceSub, Nat.reduceLT, Nat.reduceLeDiff, Nat.reduceEqDiff, Option.bind_some, Option.map_some, Pu.atI0, Pu.atI1, Pu.atI2, Pu.atI3, and_self, Pu.sz, reduceIte, Pu.n0, Pu.n1, Pu.n2, Pu.n3, Pu.n4, Pu.n5, Pu.n6, Pu.n7, Pu.n8, Pu.n9, Int.reduceBEq, beq_self_eq_true, Pu.io_tup, Pu.io_lst, Pu.io_int, Pu.io_bl, Pu.io_str, Pu.io_non, decide_true, decide_false, all_heads_eq, z]
theorem hit2 (e : Pl.Env) : mIt (mCall c_law_heads mNil) e = .ok headsL e := by
  have z := frzL_of Pu.headsL_fz
  simp only [mIt, D.itemsS, runF, mSeq, mSet, mMov, mBin, mUn, mB, mCons, mNil, mVar, mBinL, mBinR, mUnP, mC, isIn, mIf, mRet, mNext, mBrk, mDo, mAnd, mOr, mNot, mIte, mTup, mLst, mSlice, mNoPart, mPart, mCall, mCallIO, mAsg, mPar, mPar3, asg, asgL, onB, R.bind_ok, R.bind_exc, R.bind_fail, R.of, one, dInt, dTuple, dList, dLen, dIdx, D.fz, D.frz, D.fzL, D.frzL, runE, pickIO, List.length_cons, List.length_nil, List.map_cons, List.map_nil, List.cons_append, List.nil_append, List.getElem?_cons_zero, List.getElem?_cons_succ, List.set_cons_zero, List.set_cons_succ, if_true, if_false, Bool.false_eq_true, Bool.not_true, Bool.not_false, Bool.true_and, Bool.false_and, Bool.and_true, Bool.and_self, List.replicate, Nat.reduceAdd, Nat.reduceSub, Nat.reduceLT, Nat.reduceLeDiff, Nat.reduceEqDiff, Option.bind_some, Option.map_some, Pu.atI0, Pu.atI1, Pu.atI2, Pu.atI3, and_self, Pu.sz, reduceIte, Pu.n0, Pu.n1, Pu.n2, Pu.n3, Pu.n4, Pu.n5, Pu.n6, Pu.n7, Pu.n8, Pu.n9, Int.reduceBEq, beq_self_eq_true, Pu.io_tup, Pu.io_lst, Pu.io_int, Pu.io_bl, Pu.io_str, Pu.io_non, decide_true, decide_false, q_heads, Pu.heads_eq, z]
/-! ### partings -/
theorem act1 {k : KD2} (g : GK k) : ActV c_acted (kF k) k := ⟨Pu.kF_fz g, fun h hh => Pu.acted_ok (Pu.kF_ok cs_kind g) hh, g⟩
theorem act2 {k : KD2} (g : GK k) : ActV c_law_acts (rawD k) k := ⟨Pu.raw_fz g, fun h hh => Pu.law_acts_ok g.2 k.2 hh, g⟩
theorem par1 : m_parting = Pu.m_par (mIt (mCall c_all_heads mNil)) c_acted := rfl
theorem par2 : m_law_parting = Pu.m_par (mIt (mCall c_law_heads mNil)) c_law_acts := rfl
theorem parting_ok {a b : KD2} (ga : GK a) (gb : GK b) {X Y : D} (hX : Is (kF a) X) (hY : Is (kF b) Y) : c_parting [X, Y] = .ok (partV a b) [] := by
  rw [c_parting, par1]
  exact Pu.par_ok hit1 (act1 ga) (act1 gb) hX hY
theorem lparting_ok {a b : KD2} (ga : GK a) (gb : GK b) : c_law_parting [rawD a, rawD b] = .ok (partV a b) [] := by
  rw [c_law_parting, par2]
  exact Pu.par_ok hit2 (act2 ga) (act2 gb) (.inl rfl) (.inl rfl)
def isN : D → Bool
  | .non => true
  | _ => false
theorem isN_ok (d : D) : dIsN false d = some (.bl (isN d)) := by cases d <;> rfl
theorem alike_ok {a b : KD2} (ga : GK a) (gb : GK b) : c_alike [kF a, kF b] = .ok (.bl (isN (partV a b))) [] := by
  have p := parting_ok ga gb (.inl rfl) (.inl rfl)
  have f1 := Pu.kF_fz ga
  have f2 := Pu.kF_fz gb
  have z := D.frz_id _ (Pu.part_fz a b)
  simp only [c_alike, m_alike, runF, mSeq, mSet, mMov, mBin, mUn, mB, mCons, mNil, mVar, mBinL, mBinR, mUnP, mC, isIn, mIf, mRet, mNext, mBrk, mDo, mAnd, mOr, mNot, mIte, mTup, mLst, mSlice, mNoPart, mPart, mCall, mCallIO, mAsg, mPar, mPar3, asg, asgL, onB, R.bind_ok, R.bind_exc, R.bind_fail, R.of, one, dInt, dTuple, dList, dLen, dIdx, D.fz, D.frz, D.fzL, D.frzL, runE, pickIO, List.length_cons, List.length_nil, List.map_cons, List.map_nil, List.cons_append, List.nil_append, List.getElem?_cons_zero, List.getElem?_cons_succ, List.set_cons_zero, List.set_cons_succ, if_true, if_false, Bool.false_eq_true, Bool.not_true, Bool.not_false, Bool.true_and, Bool.false_and, Bool.and_true, Bool.and_self, List.replicate, Nat.reduceAdd, Nat.reduceSub, Nat.reduceLT, Nat.reduceLeDiff, Nat.reduceEqDiff, Option.bind_some, Option.map_some, Pu.atI0, Pu.atI1, Pu.atI2, Pu.atI3, and_self, Pu.sz, reduceIte, Pu.n0, Pu.n1, Pu.n2, Pu.n3, Pu.n4, Pu.n5, Pu.n6, Pu.n7, Pu.n8, Pu.n9, Int.reduceBEq, beq_self_eq_true, Pu.io_tup, Pu.io_lst, Pu.io_int, Pu.io_bl, Pu.io_str, Pu.io_non, decide_true, decide_false, f1, f2, p, z, isN_ok]
/-! ### a row left out -/
theorem cut_to (ds : List D) (a : Nat) : Pl.cutD ds none (some (a : Int)) = ds.take a := by
  unfold Pl.cutD
  rw [HT.sIx_none, HT.sIx_nat, List.drop_zero, Nat.sub_zero]
  by_cases h : a ≤ ds.length
  · rw [Nat.min_eq_left h]
  · rw [Nat.min_eq_right (by omega), List.take_of_length_le (Nat.le_refl _), List.take_of_length_le (by omega)]
theorem cut_from (ds : List D) (a : Nat) : Pl.cutD ds (some (a : Int)) none = ds.drop a := by
  unfold Pl.cutD
  rw [HT.sIx_none, HT.sIx_nat]
  by_cases h : a ≤ ds.length
  · rw [Nat.min_eq_left h, List.take_of_length_le (by rw [List.length_drop]; omega)]
  · rw [Nat.min_eq_right (by omega), List.drop_eq_nil_of_le (Nat.le_refl _), List.drop_eq_nil_of_le (by omega), List.take_nil]
theorem cut_from1 (ds : List D) (a : Nat) : Pl.cutD ds (some ((a : Int) + 1)) none = ds.drop (a + 1) := cut_from ds (a + 1)
theorem cut_from2 (ds : List D) (a : Nat) : Pl.cutD ds (some ((a : Int) + 2)) none = ds.drop (a + 2) := cut_from ds (a + 2)
theorem cut_two (ds : List D) (a : Nat) : Pl.cutD ds (some (a : Int)) (some ((a : Int) + 2)) = (ds.drop a).take 2 := by
  show Pl.cutD ds (some (a : Int)) (some ((a + 2 : Nat) : Int)) = _
  unfold Pl.cutD
  rw [HT.sIx_nat, HT.sIx_nat]
  by_cases h : a + 2 ≤ ds.length
  · rw [Nat.min_eq_left (show a ≤ ds.length by omega), Nat.min_eq_left h, show a + 2 - a = 2 by omega]
  · rw [Nat.min_eq_right (show ds.length ≤ a + 2 by omega)]
    by_cases h2 : a ≤ ds.length
    · rw [Nat.min_eq_left h2, List.take_of_length_le (by rw [List.length_drop]; omega), List.take_of_length_le (by rw [List.length_drop]; omega)]
    · rw [Nat.min_eq_right (by omega), List.drop_eq_nil_of_le (Nat.le_refl _), List.drop_eq_nil_of_le (by omega), List.take_nil, List.take_nil]
theorem cut_4 (ds : List D) : Pl.cutD ds none (some 4) = ds.take 4 := cut_to ds 4
def dropK (k : KD2) (i : Nat) : KD2 := (k.1.take i ++ k.1.drop (i + 1), k.2)
theorem dropK_len (k : KD2) (i : Nat) : (dropK k i).1.length ≤ k.1.length := by
  show (k.1.take i ++ k.1.drop (i + 1)).length ≤ _
  rw [List.length_append, List.length_take, List.length_drop]
  omega
theorem dropK_ok {k : KD2} (g : GK k) (i : Nat) : GK (dropK k i) := by
  refine ⟨Nat.le_trans (dropK_len k i) g.1, fun r hr => ?_⟩
  rcases List.mem_append.mp hr with h | h
  · exact g.2 r (List.mem_of_mem_take h)
  · exact g.2 r (List.mem_of_mem_drop h)
def nP (k : KD2) : D → Bool
  | .int i => isN (partV k (dropK k i.toNat))
  | _ => false
def outV (k : KD2) : List D := (rngD 0 k.1.length).filter (nP k)
theorem acc_loop {t : Tgt} {b : M Fl} {p : D → Bool} {st : List D → Option D → Pl.Env} : ∀ (ds acc : List D) (x : Option D), (∀ d ∈ ds, ∀ acc x, asg t d (st acc x) = some (st acc (some d))) →
    (∀ d ∈ ds, ∀ acc, acc.length ≤ 1000 → b (st acc (some d)) = .ok .next (st (if p d = true then acc ++ [d] else acc) (some d))) → acc.length + ds.length ≤ 1000 → ∃ x', forL t b ds (st acc x) = .ok .next (st (acc ++ ds.filter p) x')
  | [], acc, x, _, _, _ => ⟨x, by rw [List.filter_nil, List.append_nil]; rfl⟩
  | d :: ds, acc, x, ha, hb, hl => by
    rw [List.length_cons] at hl
    have h1 := ha d List.mem_cons_self acc x
    have h2 := hb d List.mem_cons_self acc (by omega)
    obtain ⟨x', e⟩ := acc_loop (t := t) (b := b) (p := p) (st := st) ds (if p d = true then acc ++ [d] else acc) (some d) (fun y hy => ha y (List.mem_cons_of_mem _ hy)) (fun y hy => hb y (List.mem_cons_of_mem _ hy)) (by split <;> first | (rw [List.length_append, List.length_singleton]; omega) | omega)
    refine ⟨x', ?_⟩
    rw [forL]
    simp only [h1, h2, onFl, e]
    rw [List.filter_cons]
    split <;> simp only [List.append_assoc, List.singleton_append]
def nMk : M D := mMake "Kind" c_Kind_init (mCons (mTup (mStar (mSlice (mUn (dFld cs "lines") (mVar 0)) (mNoPart) (mPart (mVar 2))) (mStar (mSlice (mUn (dFld cs "lines") (mVar 0)) (mPart (mBin dAdd (mVar 2) (mC (.int 1)))) (mNoPart)) (mNil)))) (mCons (mUn (dFld cs "guard") (mVar 0)) (mNil)))
def nBody : M Fl := mIf (mUn (dIsN false) (mCall c_parting (mCons (mVar 0) (mCons nMk (mNil))))) (mDo (mApp 1 (mVar 2))) (mNext)
theorem dAdd_i (a b : Int) : dAdd (.int a) (.int b) = some (.int (a + b)) := rfl
theorem take_fz {ds : List D} (h : D.fzL ds = true) (i : Nat) : D.fzL (ds.take i) = true := fzL_all fun d hd => fz_mem h (List.mem_of_mem_take hd)
theorem drop_fz {ds : List D} (h : D.fzL ds = true) (i : Nat) : D.fzL (ds.drop i) = true := fzL_all fun d hd => fz_mem h (List.mem_of_mem_drop hd)
theorem nMk_ok {k : KD2} (g : GK k) (i : Nat) (x : Option D) : nMk [some (kF k), x, some (.int (i : Nat))] = .ok (kindT (dropK k i).1 k.2) [some (kF k), x, some (.int (i : Nat))] := by
  have v := Pu.kF_ok cs_kind g
  have f := fz_rows g.2
  have z := frzL_of f
  have d := dropK_ok g i
  have ie := Pu.init_ok cs_kind d.2 d.1 k.2
  have l2 := d.1
  unfold dropK at ie l2 ⊢
  dsimp only at ie l2 ⊢
  have z1 := frzL_of (take_fz f i)
  have z2 := frzL_of (drop_fz f (i + 1))
  have kf := v.f
  have kz := v.z
  have kg := v.g
  have kl := v.l
  have sl : (k.1.take i ++ k.1.drop (i + 1)).length ≤ 16777216 := by omega
  simp only [nMk, mMake, q_init, runF, mSeq, mSet, mMov, mBin, mUn, mB, mCons, mNil, mVar, mBinL, mBinR, mUnP, mC, isIn, mIf, mRet, mNext, mBrk, mDo, mAnd, mOr, mNot, mIte, mTup, mLst, mSlice, mNoPart, mPart, mCall, mCallIO, mAsg, mPar, mPar3, asg, asgL, onB, R.bind_ok, R.bind_exc, R.bind_fail, R.of, one, dInt, dTuple, dList, dLen, dIdx, D.fz, D.frz, D.fzL, D.frzL, runE, pickIO, List.length_cons, List.length_nil, List.map_cons, List.map_nil, List.cons_append, List.nil_append, List.getElem?_cons_zero, List.getElem?_cons_succ, List.set_cons_zero, List.set_cons_succ, if_true, if_false, Bool.false_eq_true, Bool.not_true, Bool.not_false, Bool.true_and, Bool.false_and, Bool.and_true, Bool.and_self, List.replicate, Nat.reduceAdd, Nat.reduceSub, Nat.reduceLT, Nat.reduceLeDiff, Nat.reduceEqDiff, Option.bind_some, Option.map_some, Pu.atI0, Pu.atI1, Pu.atI2, Pu.atI3, and_self, Pu.sz, reduceIte, Pu.n0, Pu.n1, Pu.n2, Pu.n3, Pu.n4, Pu.n5, Pu.n6, Pu.n7, Pu.n8, Pu.n9, Int.reduceBEq, beq_self_eq_true, Pu.io_tup, Pu.io_lst, Pu.io_int, Pu.io_bl, Pu.io_str, Pu.io_non, decide_true, decide_false, kf, kz, kl, kg, mStar, dCut, z, z1, z2, dAdd_i, cut_to, cut_from1, D.items, List.append_nil, sl, ie]
theorem Is_T {k : KD2} (g : GK k) : Is (kF k) (kindT k.1 k.2) := .inr ⟨Pu.kindT_fz k.1 k.2, Pu.kindT_frz g.2 k.2⟩
theorem nBody_ok {k : KD2} (g : GK k) (i : Nat) (acc : List D) (hl : acc.length ≤ 1000) : nBody [some (kF k), some (.lst true acc), some (.int (i : Nat))] = .ok .next [some (kF k), some (.lst true (if nP k (.int (i : Nat)) = true then acc ++ [.int (i : Nat)] else acc)), some (.int (i : Nat))] := by
  have m := nMk_ok g i (some (.lst true acc))
  have d := dropK_ok g i
  have p := parting_ok g d (.inl rfl) (Is_T d)
  have kf := Pu.kF_fz g
  have z := D.frz_id _ (Pu.part_fz k (dropK k i))
  have sl : acc.length < 16777216 := by omega
  have np : nP k (.int (i : Nat)) = isN (partV k (dropK k i)) := rfl
  rw [np]
  have p' : c_parting [kF k, kindT (dropK k i).1 k.2] = .ok (partV k (dropK k i)) [] := p
  generalize kindT (dropK k i).1 k.2 = B at *
  generalize kF k = A at *
  cases q : isN (partV k (dropK k i)) <;> simp only [nBody, runF, mSeq, mSet, mMov, mBin, mUn, mB, mCons, mNil, mVar, mBinL, mBinR, mUnP, mC, isIn, mIf, mRet, mNext, mBrk, mDo, mAnd, mOr, mNot, mIte, mTup, mLst, mSlice, mNoPart, mPart, mCall, mCallIO, mAsg, mPar, mPar3, asg, asgL, onB, R.bind_ok, R.bind_exc, R.bind_fail, R.of, one, dInt, dTuple, dList, dLen, dIdx, D.fz, D.frz, D.fzL, D.frzL, runE, pickIO, List.length_cons, List.length_nil, List.map_cons, List.map_nil, List.cons_append, List.nil_append, List.getElem?_cons_zero, List.getElem?_cons_succ, List.set_cons_zero, List.set_cons_succ, if_true, if_false, Bool.false_eq_true, Bool.not_true, Bool.not_false, Bool.true_and, Bool.false_and, Bool.and_true, Bool.and_self, List.replicate, Nat.reduceAdd, Nat.reduceSub, Nat.reduceLT, Nat.reduceLeDiff, Nat.reduceEqDiff, Option.bind_some, Option.map_some, Pu.atI0, Pu.atI1, Pu.atI2, Pu.atI3, and_self, Pu.sz, reduceIte, Pu.n0, Pu.n1, Pu.n2, Pu.n3, Pu.n4, Pu.n5, Pu.n6, Pu.n7, Pu.n8, Pu.n9, Int.reduceBEq, beq_self_eq_true, Pu.io_tup, Pu.io_lst, Pu.io_int, Pu.io_bl, Pu.io_str, Pu.io_non, decide_true, decide_false, kf, m, p', z, isN_ok, q, mApp, isLst, sl]
theorem needless_eq : m_needless = (mSeq (mSet 1 (mLst (mNil))) <| mSeq (mFor (mRng1 (mCons (mB (one dLen) (mCons (mUn (dFld cs "lines") (mVar 0)) mNil)) (mNil))) (.nm 2) nBody) <| mRet (mVar 1)) := rfl
theorem ints_fz (lo : Int) (n : Nat) : D.fzL (rngD lo n) = true := fzL_all fun d hd => by
  unfold rngD at hd
  obtain ⟨k, _, rfl⟩ := List.mem_map.mp hd
  rfl
theorem outV_fz (k : KD2) : D.fzL (outV k) = true := fzL_all fun d hd => fz_mem (ints_fz 0 _) (List.mem_filter.mp hd).1
theorem needless_ok {k : KD2} (g : GK k) : c_needless [kF k] = .ok (.lst false (outV k)) [] := by
  have v := Pu.kF_ok cs_kind g
  have f := fz_rows g.2
  have z := frzL_of f
  have kf := v.f
  have kz := v.z
  have kl := v.l
  have g1 := g.1
  obtain ⟨x', e⟩ := acc_loop (t := .nm 2) (b := nBody) (p := nP k) (st := fun acc x => [some (kF k), some (.lst true acc), x]) (rngD 0 k.1.length) [] none (fun d _ _ _ => rfl) (fun d hd acc hl => by
    obtain ⟨i, _, rfl⟩ := Pu.rngD_mem hd
    exact nBody_ok g i acc hl) (by rw [Pu.rngD_len, List.length_nil]; omega)
  rw [List.nil_append] at e
  have oz := frzL_of (outV_fz k)
  have r : mRng1 (mCons (mB (one dLen) (mCons (mUn (dFld cs "lines") (mVar 0)) mNil)) (mNil)) [some (kF k), some (.lst true []), none] = .ok (rngD 0 k.1.length) [some (kF k), some (.lst true []), none] :=
    Pu.rng1_len (by simp only [runF, mSeq, mSet, mMov, mBin, mUn, mB, mCons, mNil, mVar, mBinL, mBinR, mUnP, mC, isIn, mIf, mRet, mNext, mBrk, mDo, mAnd, mOr, mNot, mIte, mTup, mLst, mSlice, mNoPart, mPart, mCall, mCallIO, mAsg, mPar, mPar3, asg, asgL, onB, R.bind_ok, R.bind_exc, R.bind_fail, R.of, one, dInt, dTuple, dList, dLen, dIdx, D.fz, D.frz, D.fzL, D.frzL, runE, pickIO, List.length_cons, List.length_nil, List.map_cons, List.map_nil, List.cons_append, List.nil_append, List.getElem?_cons_zero, List.getElem?_cons_succ, List.set_cons_zero, List.set_cons_succ, if_true, if_false, Bool.false_eq_true, Bool.not_true, Bool.not_false, Bool.true_and, Bool.false_and, Bool.and_true, Bool.and_self, List.replicate, Nat.reduceAdd, Nat.reduceSub, Nat.reduceLT, Nat.reduceLeDiff, Nat.reduceEqDiff, Option.bind_some, Option.map_some, Pu.atI0, Pu.atI1, Pu.atI2, Pu.atI3, and_self, Pu.sz, reduceIte, Pu.n0, Pu.n1, Pu.n2, Pu.n3, Pu.n4, Pu.n5, Pu.n6, Pu.n7, Pu.n8, Pu.n9, Int.reduceBEq, beq_self_eq_true, Pu.io_tup, Pu.io_lst, Pu.io_int, Pu.io_bl, Pu.io_str, Pu.io_non, decide_true, decide_false, kf, kz, kl, z]) (by omega)
  have e' : forL (.nm 2) nBody (rngD 0 k.1.length) [some (kF k), some (.lst true []), none] = .ok .next [some (kF k), some (.lst true (outV k)), x'] := e
  simp only [c_needless, needless_eq, runF, mSeq, mSet, mMov, mBin, mUn, mB, mCons, mNil, mVar, mBinL, mBinR, mUnP, mC, isIn, mIf, mRet, mNext, mBrk, mDo, mAnd, mOr, mNot, mIte, mTup, mLst, mSlice, mNoPart, mPart, mCall, mCallIO, mAsg, mPar, mPar3, asg, asgL, onB, R.bind_ok, R.bind_exc, R.bind_fail, R.of, one, dInt, dTuple, dList, dLen, dIdx, D.fz, D.frz, D.fzL, D.frzL, runE, pickIO, List.length_cons, List.length_nil, List.map_cons, List.map_nil, List.cons_append, List.nil_append, List.getElem?_cons_zero, List.getElem?_cons_succ, List.set_cons_zero, List.set_cons_succ, if_true, if_false, Bool.false_eq_true, Bool.not_true, Bool.not_false, Bool.true_and, Bool.false_and, Bool.and_true, Bool.and_self, List.replicate, Nat.reduceAdd, Nat.reduceSub, Nat.reduceLT, Nat.reduceLeDiff, Nat.reduceEqDiff, Option.bind_some, Option.map_some, Pu.atI0, Pu.atI1, Pu.atI2, Pu.atI3, and_self, Pu.sz, reduceIte, Pu.n0, Pu.n1, Pu.n2, Pu.n3, Pu.n4, Pu.n5, Pu.n6, Pu.n7, Pu.n8, Pu.n9, Int.reduceBEq, beq_self_eq_true, Pu.io_tup, Pu.io_lst, Pu.io_int, Pu.io_bl, Pu.io_str, Pu.io_non, decide_true, decide_false, mFor, r, e', oz]
end V11
set_option Elab.async false
set_option linter.all false
set_option maxRecDepth 100000
set_option maxHeartbeats 4000000
/-! k11: the law answers True. -/
namespace V11
open PySem PySem.Spec PyProof.Rows L2 Pl
open Pu (GH hD GRow isOk isOk_eq plN frzL_of fz_mem lc_ok lc_gen fz_rows fzL_all kindT kindF headsL heads0 actV KindV KD2 GK kF rawD partV ActV Is)
/-! ### a change -/
def ch0 : M D := mTup (mCons (mBin dAdd (mSlice (mVar 2) (mNoPart) (mPart (mVar 4))) (mSlice (mVar 2) (mPart (mBin dAdd (mVar 4) (mC (.int 1)))) (mNoPart))) (mCons (mVar 3) (mNil)))
def ch1 : M D := mTup (mCons (mSlice (mBin dAdd (mBin dAdd (mSlice (mVar 2) (mNoPart) (mPart (mVar 4))) (mTup (mCons (mCallIO c_law_row 0 (mNil)) (mNil)))) (mSlice (mVar 2) (mPart (mBin dAdd (mVar 4) (mC (.int 1)))) (mNoPart))) (mNoPart) (mPart (mC (.int 4)))) (mCons (mVar 3) (mNil)))
def ch2 : M D := mTup (mCons (mVar 2) (mCons (mNot (mVar 3)) (mNil)))
def ch3L : M D := mLc (mIt (mVar 2)) (.tp [.nm 7, .nm 8, .nm 9]) [7, 8, 9] (mC (.bl true)) (mTup (mCons (mVar 7) (mCons (mVar 8) (mCons (mUn dRev (mVar 9)) (mNil)))))
def ch3 : M D := mTup (mCons (mB (one dTuple) (mCons ch3L mNil)) (mCons (mVar 3) (mNil)))
def ch4 : M D := mTup (mCons (mBin dAdd (mBin dAdd (mSlice (mVar 2) (mNoPart) (mPart (mVar 4))) (mUn dRev (mVar 6))) (mSlice (mVar 2) (mPart (mBin dAdd (mVar 4) (mC (.int 2)))) (mNoPart))) (mCons (mVar 3) (mNil)))
def chS : M Fl := mSet 6 (mSlice (mVar 2) (mPart (mVar 4)) (mPart (mBin dAdd (mVar 4) (mC (.int 2)))))
def chTail : M Fl :=
  mSeq (mIf (mBin (dEq false) (mVar 5) (mC (.int 0))) (mRet ch0) (mNext)) <|
  mSeq (mIf (mBin (dEq false) (mVar 5) (mC (.int 1))) (mRet ch1) (mNext)) <|
  mSeq (mIf (mBin (dEq false) (mVar 5) (mC (.int 2))) (mRet ch2) (mNext)) <|
  mSeq (mIf (mBin (dEq false) (mVar 5) (mC (.int 3))) (mRet ch3) (mNext)) <|
  mSeq chS <| mRet ch4
theorem changed_eq : m_law_changed = (mSeq (mAsg (.tp [.nm 2, .nm 3]) (mVar 1)) <|
  mSeq (mPar 4 5 (mCons (mCallIO c_law_next 0 (mCons (mBin dAdd (mB (one dLen) (mCons (mVar 2) mNil)) (mC (.int 1))) (mNil))) (mCons (mCallIO c_law_next 0 (mCons (mC (.int 5)) (mNil))) (mNil)))) chTail) := rfl
theorem dAdd_t {x y : List D} (hx : D.fzL x = true) (hy : D.fzL y = true) (hl : x.length + y.length ≤ 1000) : dAdd (.tup x) (.tup y) = some (.tup (x ++ y)) := by
  rw [dAdd, if_pos ⟨hx, hy, by rw [Pu.sz]; omega⟩]
theorem app_fz {x y : List D} (hx : D.fzL x = true) (hy : D.fzL y = true) : D.fzL (x ++ y) = true := fzL_all fun d hd => (List.mem_append.mp hd).elim (fz_mem hx) (fz_mem hy)
theorem rev_fz {x : List D} (hx : D.fzL x = true) : D.fzL x.reverse = true := fzL_all fun d hd => fz_mem hx (List.mem_reverse.mp hd)
def cE (h s1 : Option D) (rs : List D) (b : Bool) (n : Nat) (w : Int) (x6 : Option D) : Pl.Env := [h, s1, some (.tup rs), some (.bl b), some (.int n), some (.int w), x6, none, none, none]
theorem ch0_ok {rs : List D} (f : D.fzL rs = true) (l : rs.length ≤ 4) (h s1 : Option D) (b : Bool) (n : Nat) (w : Int) : ch0 (cE h s1 rs b n w none) = .ok (.tup [.tup (rs.take n ++ rs.drop (n + 1)), .bl b]) (cE h s1 rs b n w none) := by
  have z := frzL_of f
  have a1 := dAdd_t (take_fz f n) (drop_fz f (n + 1)) (by rw [List.length_take, List.length_drop]; omega)
  have z1 := frzL_of (take_fz f n)
  have z2 := frzL_of (drop_fz f (n + 1))
  simp only [ch0, cE, runF, mSeq, mSet, mMov, mBin, mUn, mB, mCons, mNil, mVar, mBinL, mBinR, mUnP, mC, isIn, mIf, mRet, mNext, mBrk, mDo, mAnd, mOr, mNot, mIte, mTup, mLst, mSlice, mNoPart, mPart, mCall, mCallIO, mAsg, mPar, mPar3, asg, asgL, onB, R.bind_ok, R.bind_exc, R.bind_fail, R.of, one, dInt, dTuple, dList, dLen, dIdx, D.fz, D.frz, D.fzL, D.frzL, runE, pickIO, List.length_cons, List.length_nil, List.map_cons, List.map_nil, List.cons_append, List.nil_append, List.getElem?_cons_zero, List.getElem?_cons_succ, List.set_cons_zero, List.set_cons_succ, if_true, if_false, Bool.false_eq_true, Bool.not_true, Bool.not_false, Bool.true_and, Bool.false_and, Bool.and_true, Bool.and_self, List.replicate, Nat.reduceAdd, Nat.reduceSub, Nat.reduceLT, Nat.reduceLeDiff, Nat.reduceEqDiff, Option.bind_some, Option.map_some, Pu.atI0, Pu.atI1, Pu.atI2, Pu.atI3, and_self, Pu.sz, reduceIte, Pu.n0, Pu.n1, Pu.n2, Pu.n3, Pu.n4, Pu.n5, Pu.n6, Pu.n7, Pu.n8, Pu.n9, Int.reduceBEq, beq_self_eq_true, Pu.io_tup, Pu.io_lst, Pu.io_int, Pu.io_bl, Pu.io_str, Pu.io_non, decide_true, decide_false, f, z, dCut, cut_to, cut_from1, dAdd_i, z1, z2, a1]
theorem ch1_ok {rs : List D} (f : D.fzL rs = true) (l : rs.length ≤ 4) {h : D} (gh : GH h) (s1 : Option D) (b : Bool) (n : Nat) (w : Int) : ∃ r h', GH h' ∧ GRow r ∧ ch1 (cE (some h) s1 rs b n w none) = .ok (.tup [.tup ((rs.take n ++ [r] ++ rs.drop (n + 1)).take 4), .bl b]) (cE (some h') s1 rs b n w none) := by
  obtain ⟨r, h', e, g, gr⟩ := Pu.row_ok gh
  refine ⟨r, h', g, gr, ?_⟩
  have z := frzL_of f
  have fr := gr.fz
  have zr := D.frz_id r fr
  have fr1 : D.fzL [r] = true := by rw [D.fzL, fr]; rfl
  have a1 := dAdd_t (take_fz f n) fr1 (by rw [List.length_take, List.length_singleton]; omega)
  have a2 := dAdd_t (app_fz (take_fz f n) fr1) (drop_fz f (n + 1)) (by rw [List.length_append, List.length_take, List.length_drop, List.length_singleton]; omega)
  have z1 := frzL_of (take_fz f n)
  have z2 := frzL_of (drop_fz f (n + 1))
  have z3 := frzL_of (app_fz (take_fz f n) fr1)
  have z4 := frzL_of (app_fz (app_fz (take_fz f n) fr1) (drop_fz f (n + 1)))
  simp only [ch1, cE, q_row, runF, mSeq, mSet, mMov, mBin, mUn, mB, mCons, mNil, mVar, mBinL, mBinR, mUnP, mC, isIn, mIf, mRet, mNext, mBrk, mDo, mAnd, mOr, mNot, mIte, mTup, mLst, mSlice, mNoPart, mPart, mCall, mCallIO, mAsg, mPar, mPar3, asg, asgL, onB, R.bind_ok, R.bind_exc, R.bind_fail, R.of, one, dInt, dTuple, dList, dLen, dIdx, D.fz, D.frz, D.fzL, D.frzL, runE, pickIO, List.length_cons, List.length_nil, List.map_cons, List.map_nil, List.cons_append, List.nil_append, List.getElem?_cons_zero, List.getElem?_cons_succ, List.set_cons_zero, List.set_cons_succ, if_true, if_false, Bool.false_eq_true, Bool.not_true, Bool.not_false, Bool.true_and, Bool.false_and, Bool.and_true, Bool.and_self, List.replicate, Nat.reduceAdd, Nat.reduceSub, Nat.reduceLT, Nat.reduceLeDiff, Nat.reduceEqDiff, Option.bind_some, Option.map_some, Pu.atI0, Pu.atI1, Pu.atI2, Pu.atI3, and_self, Pu.sz, reduceIte, Pu.n0, Pu.n1, Pu.n2, Pu.n3, Pu.n4, Pu.n5, Pu.n6, Pu.n7, Pu.n8, Pu.n9, Int.reduceBEq, beq_self_eq_true, Pu.io_tup, Pu.io_lst, Pu.io_int, Pu.io_bl, Pu.io_str, Pu.io_non, decide_true, decide_false, f, z, dCut, cut_to, cut_from1, cut_4, dAdd_i, z1, z2, a1, e, zr, fr, z3, z4, a2]
theorem ch2_ok {rs : List D} (f : D.fzL rs = true) (h s1 : Option D) (b : Bool) (n : Nat) (w : Int) : ch2 (cE h s1 rs b n w none) = .ok (.tup [.tup rs, .bl (!b)]) (cE h s1 rs b n w none) := by
  have z := frzL_of f
  simp only [ch2, cE, runF, mSeq, mSet, mMov, mBin, mUn, mB, mCons, mNil, mVar, mBinL, mBinR, mUnP, mC, isIn, mIf, mRet, mNext, mBrk, mDo, mAnd, mOr, mNot, mIte, mTup, mLst, mSlice, mNoPart, mPart, mCall, mCallIO, mAsg, mPar, mPar3, asg, asgL, onB, R.bind_ok, R.bind_exc, R.bind_fail, R.of, one, dInt, dTuple, dList, dLen, dIdx, D.fz, D.frz, D.fzL, D.frzL, runE, pickIO, List.length_cons, List.length_nil, List.map_cons, List.map_nil, List.cons_append, List.nil_append, List.getElem?_cons_zero, List.getElem?_cons_succ, List.set_cons_zero, List.set_cons_succ, if_true, if_false, Bool.false_eq_true, Bool.not_true, Bool.not_false, Bool.true_and, Bool.false_and, Bool.and_true, Bool.and_self, List.replicate, Nat.reduceAdd, Nat.reduceSub, Nat.reduceLT, Nat.reduceLeDiff, Nat.reduceEqDiff, Option.bind_some, Option.map_some, Pu.atI0, Pu.atI1, Pu.atI2, Pu.atI3, and_self, Pu.sz, reduceIte, Pu.n0, Pu.n1, Pu.n2, Pu.n3, Pu.n4, Pu.n5, Pu.n6, Pu.n7, Pu.n8, Pu.n9, Int.reduceBEq, beq_self_eq_true, Pu.io_tup, Pu.io_lst, Pu.io_int, Pu.io_bl, Pu.io_str, Pu.io_non, decide_true, decide_false, f, z]
def revS : D → D
  | .tup [a, b, .tup ss] => .tup [a, b, .tup ss.reverse]
  | _ => .non
theorem revS_ok {r : D} (g : GRow r) : GRow (revS r) := by
  obtain ⟨ts, k, ss, rfl, l1, l2, h1, h2⟩ := g
  exact ⟨ts, k, ss.reverse, rfl, l1, by rw [List.length_reverse]; exact l2, h1, fun s hs => h2 s (List.mem_reverse.mp hs)⟩
theorem ch3L_ok {rs : List D} (f : D.fzL rs = true) (gr : ∀ r ∈ rs, GRow r) (l : rs.length ≤ 4) (h s1 : Option D) (b : Bool) (n : Nat) (w : Int) : ch3L (cE h s1 rs b n w none) = .ok (.lst true (rs.map revS)) (cE h s1 rs b n w none) := by
  have z := frzL_of f
  have e := lc_gen (it := mIt (mVar 2)) (t := .tp [.nm 7, .nm 8, .nm 9]) (own := [7, 8, 9]) (c := mC (.bl true)) (y := mTup (mCons (mVar 7) (mCons (mVar 8) (mCons (mUn dRev (mVar 9)) (mNil))))) (e := cE h s1 rs b n w none) (ds := rs) (fun _ => true) revS
    (fun d => match d with | .tup [x, y, v] => [h, s1, some (.tup rs), some (.bl b), some (.int n), some (.int w), none, some x, some y, some v] | _ => [])
    (by simp only [cE, mIt, D.itemsS, runF, mSeq, mSet, mMov, mBin, mUn, mB, mCons, mNil, mVar, mBinL, mBinR, mUnP, mC, isIn, mIf, mRet, mNext, mBrk, mDo, mAnd, mOr, mNot, mIte, mTup, mLst, mSlice, mNoPart, mPart, mCall, mCallIO, mAsg, mPar, mPar3, asg, asgL, onB, R.bind_ok, R.bind_exc, R.bind_fail, R.of, one, dInt, dTuple, dList, dLen, dIdx, D.fz, D.frz, D.fzL, D.frzL, runE, pickIO, List.length_cons, List.length_nil, List.map_cons, List.map_nil, List.cons_append, List.nil_append, List.getElem?_cons_zero, List.getElem?_cons_succ, List.set_cons_zero, List.set_cons_succ, if_true, if_false, Bool.false_eq_true, Bool.not_true, Bool.not_false, Bool.true_and, Bool.false_and, Bool.and_true, Bool.and_self, List.replicate, Nat.reduceAdd, Nat.reduceSub, Nat.reduceLT, Nat.reduceLeDiff, Nat.reduceEqDiff, Option.bind_some, Option.map_some, Pu.atI0, Pu.atI1, Pu.atI2, Pu.atI3, and_self, Pu.sz, reduceIte, Pu.n0, Pu.n1, Pu.n2, Pu.n3, Pu.n4, Pu.n5, Pu.n6, Pu.n7, Pu.n8, Pu.n9, Int.reduceBEq, beq_self_eq_true, Pu.io_tup, Pu.io_lst, Pu.io_int, Pu.io_bl, Pu.io_str, Pu.io_non, decide_true, decide_false, f, z])
    (fun d hd => by obtain ⟨ts, k, ss, rfl, l1, l2, h1, h2⟩ := gr d hd; rfl)
    (fun d hd => by obtain ⟨ts, k, ss, rfl, l1, l2, h1, h2⟩ := gr d hd; rfl)
    (fun d hd => rfl)
    (fun d hd _ => by
      have fd := (gr d hd).fz
      obtain ⟨ts, k, ss, rfl, l1, l2, h1, h2⟩ := gr d hd
      have f1 := Pu.fz_tests h1
      have f2 := Pu.fz_sends h2
      have z1 := frzL_of f1
      have z2 := frzL_of f2
      simp only [runF, mSeq, mSet, mMov, mBin, mUn, mB, mCons, mNil, mVar, mBinL, mBinR, mUnP, mC, isIn, mIf, mRet, mNext, mBrk, mDo, mAnd, mOr, mNot, mIte, mTup, mLst, mSlice, mNoPart, mPart, mCall, mCallIO, mAsg, mPar, mPar3, asg, asgL, onB, R.bind_ok, R.bind_exc, R.bind_fail, R.of, one, dInt, dTuple, dList, dLen, dIdx, D.fz, D.frz, D.fzL, D.frzL, runE, pickIO, List.length_cons, List.length_nil, List.map_cons, List.map_nil, List.cons_append, List.nil_append, List.getElem?_cons_zero, List.getElem?_cons_succ, List.set_cons_zero, List.set_cons_succ, if_true, if_false, Bool.false_eq_true, Bool.not_true, Bool.not_false, Bool.true_and, Bool.false_and, Bool.and_true, Bool.and_self, List.replicate, Nat.reduceAdd, Nat.reduceSub, Nat.reduceLT, Nat.reduceLeDiff, Nat.reduceEqDiff, Option.bind_some, Option.map_some, Pu.atI0, Pu.atI1, Pu.atI2, Pu.atI3, and_self, Pu.sz, reduceIte, Pu.n0, Pu.n1, Pu.n2, Pu.n3, Pu.n4, Pu.n5, Pu.n6, Pu.n7, Pu.n8, Pu.n9, Int.reduceBEq, beq_self_eq_true, Pu.io_tup, Pu.io_lst, Pu.io_int, Pu.io_bl, Pu.io_str, Pu.io_non, decide_true, decide_false, f1, f2, z1, z2, dRev, revS])
    rfl (by rw [Pu.sz]; omega)
  have ft : (rs.filter fun _ => true) = rs := List.filter_eq_self.mpr fun _ _ => rfl
  rw [ft] at e
  exact e
theorem revs_fz {rs : List D} (gr : ∀ r ∈ rs, GRow r) : D.fzL (rs.map revS) = true := fzL_all fun d hd => by
  obtain ⟨r, hr, rfl⟩ := List.mem_map.mp hd
  exact (revS_ok (gr r hr)).fz
theorem ch3_ok {rs : List D} (f : D.fzL rs = true) (gr : ∀ r ∈ rs, GRow r) (l : rs.length ≤ 4) (h s1 : Option D) (b : Bool) (n : Nat) (w : Int) : ch3 (cE h s1 rs b n w none) = .ok (.tup [.tup (rs.map revS), .bl b]) (cE h s1 rs b n w none) := by
  have e := ch3L_ok f gr l h s1 b n w
  have z := frzL_of (revs_fz gr)
  have fz := revs_fz gr
  unfold cE at e ⊢
  generalize rs.map revS = T at *
  simp only [ch3, runF, mSeq, mSet, mMov, mBin, mUn, mB, mCons, mNil, mVar, mBinL, mBinR, mUnP, mC, isIn, mIf, mRet, mNext, mBrk, mDo, mAnd, mOr, mNot, mIte, mTup, mLst, mSlice, mNoPart, mPart, mCall, mCallIO, mAsg, mPar, mPar3, asg, asgL, onB, R.bind_ok, R.bind_exc, R.bind_fail, R.of, one, dInt, dTuple, dList, dLen, dIdx, D.fz, D.frz, D.fzL, D.frzL, runE, pickIO, List.length_cons, List.length_nil, List.map_cons, List.map_nil, List.cons_append, List.nil_append, List.getElem?_cons_zero, List.getElem?_cons_succ, List.set_cons_zero, List.set_cons_succ, if_true, if_false, Bool.false_eq_true, Bool.not_true, Bool.not_false, Bool.true_and, Bool.false_and, Bool.and_true, Bool.and_self, List.replicate, Nat.reduceAdd, Nat.reduceSub, Nat.reduceLT, Nat.reduceLeDiff, Nat.reduceEqDiff, Option.bind_some, Option.map_some, Pu.atI0, Pu.atI1, Pu.atI2, Pu.atI3, and_self, Pu.sz, reduceIte, Pu.n0, Pu.n1, Pu.n2, Pu.n3, Pu.n4, Pu.n5, Pu.n6, Pu.n7, Pu.n8, Pu.n9, Int.reduceBEq, beq_self_eq_true, Pu.io_tup, Pu.io_lst, Pu.io_int, Pu.io_bl, Pu.io_str, Pu.io_non, decide_true, decide_false, e, z, fz]
theorem ch4_ok {rs : List D} (f : D.fzL rs = true) (l : rs.length ≤ 4) (h s1 : Option D) (b : Bool) (n : Nat) (w : Int) : chS (cE h s1 rs b n w none) = .ok .next (cE h s1 rs b n w (some (.tup ((rs.drop n).take 2)))) ∧
    ch4 (cE h s1 rs b n w (some (.tup ((rs.drop n).take 2)))) = .ok (.tup [.tup (rs.take n ++ ((rs.drop n).take 2).reverse ++ rs.drop (n + 2)), .bl b]) (cE h s1 rs b n w (some (.tup ((rs.drop n).take 2)))) := by
  have z := frzL_of f
  have fp := take_fz (drop_fz f n) 2
  have zp := frzL_of fp
  have fq := rev_fz fp
  have zq := frzL_of fq
  have a1 := dAdd_t (take_fz f n) fq (by rw [List.length_take, List.length_reverse, List.length_take, List.length_drop]; omega)
  have a2 := dAdd_t (app_fz (take_fz f n) fq) (drop_fz f (n + 2)) (by rw [List.length_append, List.length_take, List.length_drop, List.length_reverse, List.length_take, List.length_drop]; omega)
  have z1 := frzL_of (take_fz f n)
  have z2 := frzL_of (drop_fz f (n + 2))
  have z3 := frzL_of (app_fz (take_fz f n) fq)
  constructor
  · simp only [chS, cE, runF, mSeq, mSet, mMov, mBin, mUn, mB, mCons, mNil, mVar, mBinL, mBinR, mUnP, mC, isIn, mIf, mRet, mNext, mBrk, mDo, mAnd, mOr, mNot, mIte, mTup, mLst, mSlice, mNoPart, mPart, mCall, mCallIO, mAsg, mPar, mPar3, asg, asgL, onB, R.bind_ok, R.bind_exc, R.bind_fail, R.of, one, dInt, dTuple, dList, dLen, dIdx, D.fz, D.frz, D.fzL, D.frzL, runE, pickIO, List.length_cons, List.length_nil, List.map_cons, List.map_nil, List.cons_append, List.nil_append, List.getElem?_cons_zero, List.getElem?_cons_succ, List.set_cons_zero, List.set_cons_succ, if_true, if_false, Bool.false_eq_true, Bool.not_true, Bool.not_false, Bool.true_and, Bool.false_and, Bool.and_true, Bool.and_self, List.replicate, Nat.reduceAdd, Nat.reduceSub, Nat.reduceLT, Nat.reduceLeDiff, Nat.reduceEqDiff, Option.bind_some, Option.map_some, Pu.atI0, Pu.atI1, Pu.atI2, Pu.atI3, and_self, Pu.sz, reduceIte, Pu.n0, Pu.n1, Pu.n2, Pu.n3, Pu.n4, Pu.n5, Pu.n6, Pu.n7, Pu.n8, Pu.n9, Int.reduceBEq, beq_self_eq_true, Pu.io_tup, Pu.io_lst, Pu.io_int, Pu.io_bl, Pu.io_str, Pu.io_non, decide_true, decide_false, f, z, dCut, cut_two, dAdd_i]
  · have rv : dRev (.tup ((rs.drop n).take 2)) = some (.tup ((rs.drop n).take 2).reverse) := by rw [dRev, if_pos fp]
    simp only [ch4, cE, runF, mSeq, mSet, mMov, mBin, mUn, mB, mCons, mNil, mVar, mBinL, mBinR, mUnP, mC, isIn, mIf, mRet, mNext, mBrk, mDo, mAnd, mOr, mNot, mIte, mTup, mLst, mSlice, mNoPart, mPart, mCall, mCallIO, mAsg, mPar, mPar3, asg, asgL, onB, R.bind_ok, R.bind_exc, R.bind_fail, R.of, one, dInt, dTuple, dList, dLen, dIdx, D.fz, D.frz, D.fzL, D.frzL, runE, pickIO, List.length_cons, List.length_nil, List.map_cons, List.map_nil, List.cons_append, List.nil_append, List.getElem?_cons_zero, List.getElem?_cons_succ, List.set_cons_zero, List.set_cons_succ, if_true, if_false, Bool.false_eq_true, Bool.not_true, Bool.not_false, Bool.true_and, Bool.false_and, Bool.and_true, Bool.and_self, List.replicate, Nat.reduceAdd, Nat.reduceSub, Nat.reduceLT, Nat.reduceLeDiff, Nat.reduceEqDiff, Option.bind_some, Option.map_some, Pu.atI0, Pu.atI1, Pu.atI2, Pu.atI3, and_self, Pu.sz, reduceIte, Pu.n0, Pu.n1, Pu.n2, Pu.n3, Pu.n4, Pu.n5, Pu.n6, Pu.n7, Pu.n8, Pu.n9, Int.reduceBEq, beq_self_eq_true, Pu.io_tup, Pu.io_lst, Pu.io_int, Pu.io_bl, Pu.io_str, Pu.io_non, decide_true, decide_false, f, z, fp, zp, rv, zq, dCut, cut_to, cut_from2, dAdd_i, z1, z2, z3, a1, a2]
theorem tail_ok {rs : List D} (gr : ∀ r ∈ rs, GRow r) (l : rs.length ≤ 4) {h : D} (gh : GH h) (s1 : Option D) (b : Bool) (n : Nat) {w : Int} (w0 : 0 ≤ w) (w5 : w < 5) : ∃ k h' x6, GK k ∧ GH h' ∧ chTail (cE (some h) s1 rs b n w none) = .ok (.ret (rawD k)) (cE (some h') s1 rs b n w x6) := by
  have f := fz_rows gr
  have cs : w = 0 ∨ w = 1 ∨ w = 2 ∨ w = 3 ∨ w = 4 := by omega
  have tr (x : Option D) (hh : Option D) (i : Int) : (mBin (dEq false) (mVar 5) (mC (.int i))) (cE hh s1 rs b n w x) = .ok (.bl (w == i)) (cE hh s1 rs b n w x) := by
    simp only [cE, runF, mSeq, mSet, mMov, mBin, mUn, mB, mCons, mNil, mVar, mBinL, mBinR, mUnP, mC, isIn, mIf, mRet, mNext, mBrk, mDo, mAnd, mOr, mNot, mIte, mTup, mLst, mSlice, mNoPart, mPart, mCall, mCallIO, mAsg, mPar, mPar3, asg, asgL, onB, R.bind_ok, R.bind_exc, R.bind_fail, R.of, one, dInt, dTuple, dList, dLen, dIdx, D.fz, D.frz, D.fzL, D.frzL, runE, pickIO, List.length_cons, List.length_nil, List.map_cons, List.map_nil, List.cons_append, List.nil_append, List.getElem?_cons_zero, List.getElem?_cons_succ, List.set_cons_zero, List.set_cons_succ, if_true, if_false, Bool.false_eq_true, Bool.not_true, Bool.not_false, Bool.true_and, Bool.false_and, Bool.and_true, Bool.and_self, List.replicate, Nat.reduceAdd, Nat.reduceSub, Nat.reduceLT, Nat.reduceLeDiff, Nat.reduceEqDiff, Option.bind_some, Option.map_some, Pu.atI0, Pu.atI1, Pu.atI2, Pu.atI3, and_self, Pu.sz, reduceIte, Pu.n0, Pu.n1, Pu.n2, Pu.n3, Pu.n4, Pu.n5, Pu.n6, Pu.n7, Pu.n8, Pu.n9, Int.reduceBEq, beq_self_eq_true, Pu.io_tup, Pu.io_lst, Pu.io_int, Pu.io_bl, Pu.io_str, Pu.io_non, decide_true, decide_false, Pu.dEq_int]
  have s {m : M D} {d : D} {e : Pl.Env} {x : Option D} {hh : Option D} (i : Int) (c : (w == i) = true) (q : m (cE hh s1 rs b n w x) = .ok d e) (r : M Fl) : (mSeq (mIf (mBin (dEq false) (mVar 5) (mC (.int i))) (mRet m) (mNext)) r) (cE hh s1 rs b n w x) = .ok (.ret d) e := by
    simp only [mSeq, mIf, tr, R.bind_ok, onB, c, if_true, mRet, q]
  have g {m : M D} {x : Option D} {hh : Option D} (i : Int) (c : (w == i) = false) (r : M Fl) : (mSeq (mIf (mBin (dEq false) (mVar 5) (mC (.int i))) (mRet m) (mNext)) r) (cE hh s1 rs b n w x) = r (cE hh s1 rs b n w x) := by
    simp only [mSeq, mIf, tr, R.bind_ok, onB, c, Bool.false_eq_true, if_false, mNext]
  unfold chTail
  rcases cs with e | e | e | e | e
  · refine ⟨(rs.take n ++ rs.drop (n + 1), b), h, none, dropK_ok (k := (rs, b)) ⟨l, gr⟩ n, gh, ?_⟩
    exact s 0 (by rw [e]; rfl) (ch0_ok f l _ _ _ _ _) _
  · obtain ⟨r, h', gh', g', q⟩ := ch1_ok f l gh s1 b n w
    refine ⟨((rs.take n ++ [r] ++ rs.drop (n + 1)).take 4, b), h', none, ⟨?_, fun x hx => ?_⟩, gh', ?_⟩
    · show (List.take 4 _).length ≤ 4
      rw [List.length_take]
      omega
    · have := List.mem_of_mem_take hx
      rcases List.mem_append.mp this with hx | hx
      · rcases List.mem_append.mp hx with hx | hx
        · exact gr x (List.mem_of_mem_take hx)
        · rw [List.mem_singleton.mp hx]; exact g'
      · exact gr x (List.mem_of_mem_drop hx)
    · rw [g 0 (by rw [e]; rfl)]
      exact s 1 (by rw [e]; rfl) q _
  · refine ⟨(rs, !b), h, none, ⟨l, gr⟩, gh, ?_⟩
    rw [g 0 (by rw [e]; rfl), g 1 (by rw [e]; rfl)]
    exact s 2 (by rw [e]; rfl) (ch2_ok f _ _ _ _ _) _
  · refine ⟨(rs.map revS, b), h, none, ⟨?_, fun x hx => ?_⟩, gh, ?_⟩
    · show (rs.map revS).length ≤ 4
      rw [List.length_map]
      exact l
    · obtain ⟨r, hr, rfl⟩ := List.mem_map.mp hx
      exact revS_ok (gr r hr)
    · rw [g 0 (by rw [e]; rfl), g 1 (by rw [e]; rfl), g 2 (by rw [e]; rfl)]
      exact s 3 (by rw [e]; rfl) (ch3_ok f gr l _ _ _ _ _) _
  · obtain ⟨q1, q2⟩ := ch4_ok f l (some h) s1 b n w
    refine ⟨(rs.take n ++ ((rs.drop n).take 2).reverse ++ rs.drop (n + 2), b), h, some (.tup ((rs.drop n).take 2)), ⟨?_, fun x hx => ?_⟩, gh, ?_⟩
    · show (rs.take n ++ ((rs.drop n).take 2).reverse ++ rs.drop (n + 2)).length ≤ 4
      rw [List.length_append, List.length_append, List.length_reverse, List.length_take, List.length_take, List.length_drop, List.length_drop]
      omega
    · rcases List.mem_append.mp hx with hx | hx
      · rcases List.mem_append.mp hx with hx | hx
        · exact gr x (List.mem_of_mem_take hx)
        · exact gr x (List.mem_of_mem_drop (List.mem_of_mem_take (List.mem_reverse.mp hx)))
      · exact gr x (List.mem_of_mem_drop hx)
    · rw [g 0 (by rw [e]; rfl), g 1 (by rw [e]; rfl), g 2 (by rw [e]; rfl), g 3 (by rw [e]; rfl)]
      simp only [mSeq, mRet, q1, R.bind_ok, q2]
      rfl
theorem changed_ok {k : KD2} (g : GK k) {h : D} (gh : GH h) : ∃ k' h', GK k' ∧ GH h' ∧ c_law_changed [h, rawD k] = .ok (rawD k') [h'] := by
  obtain ⟨rs, b⟩ := k
  have f := fz_rows g.2
  have z := frzL_of f
  have g1 : rs.length ≤ 4 := g.1
  dsimp only at f z
  obtain ⟨a, h1, e1, gh1, a0, a1⟩ := Pu.next_ok gh (c := (rs.length : Int) + 1) (by omega) (by omega)
  obtain ⟨w, h2, e2, gh2, w0, w1⟩ := Pu.next_ok gh1 (c := 5) (by omega) (by omega)
  obtain ⟨n, rfl⟩ : ∃ n : Nat, a = (n : Int) := ⟨a.toNat, by omega⟩
  obtain ⟨k', h', x6, gk, gh', e3⟩ := tail_ok g.2 g.1 gh2 (some (rawD (rs, b))) b n w0 w1
  refine ⟨k', h', gk, gh', ?_⟩
  unfold cE at e3
  have zz : D.frz (rawD k') = rawD k' := D.frz_id _ (Pu.raw_fz gk)
  generalize rawD k' = R' at *
  simp only [rawD] at e3 ⊢
  simp only [c_law_changed, changed_eq, q_next, runF, mSeq, mSet, mMov, mBin, mUn, mB, mCons, mNil, mVar, mBinL, mBinR, mUnP, mC, isIn, mIf, mRet, mNext, mBrk, mDo, mAnd, mOr, mNot, mIte, mTup, mLst, mSlice, mNoPart, mPart, mCall, mCallIO, mAsg, mPar, mPar3, asg, asgL, onB, R.bind_ok, R.bind_exc, R.bind_fail, R.of, one, dInt, dTuple, dList, dLen, dIdx, D.fz, D.frz, D.fzL, D.frzL, runE, pickIO, List.length_cons, List.length_nil, List.map_cons, List.map_nil, List.cons_append, List.nil_append, List.getElem?_cons_zero, List.getElem?_cons_succ, List.set_cons_zero, List.set_cons_succ, if_true, if_false, Bool.false_eq_true, Bool.not_true, Bool.not_false, Bool.true_and, Bool.false_and, Bool.and_true, Bool.and_self, List.replicate, Nat.reduceAdd, Nat.reduceSub, Nat.reduceLT, Nat.reduceLeDiff, Nat.reduceEqDiff, Option.bind_some, Option.map_some, Pu.atI0, Pu.atI1, Pu.atI2, Pu.atI3, and_self, Pu.sz, reduceIte, Pu.n0, Pu.n1, Pu.n2, Pu.n3, Pu.n4, Pu.n5, Pu.n6, Pu.n7, Pu.n8, Pu.n9, Int.reduceBEq, beq_self_eq_true, Pu.io_tup, Pu.io_lst, Pu.io_int, Pu.io_bl, Pu.io_str, Pu.io_non, decide_true, decide_false, f, z, dAdd_i, e1, e2, e3]
/-! ### the law -/
def lnBody : M Fl := mIf (mUn (dIsN false) (mCall c_law_parting (mCons (mVar 3) (mCons (mTup (mCons (mBin dAdd (mSlice (mBin dIdx (mVar 3) (mC (.int 0))) (mNoPart) (mPart (mVar 9))) (mSlice (mBin dIdx (mVar 3) (mC (.int 0))) (mPart (mBin dAdd (mVar 9) (mC (.int 1)))) (mNoPart))) (mCons (mBin dIdx (mVar 3) (mC (.int 1))) (mNil)))) (mNil))))) (mDo (mApp 8 (mVar 9))) (mNext)
def t1 : M Fl := mSeq (mSet 3 (mCallIO c_law_kind 1 (mNil))) <| mSet 4 (mCallIO c_law_changed 1 (mCons (mVar 3) (mNil)))
def t2 : M Fl := mPar3 5 6 7 (mCons (mMake "Kind" c_Kind_init (mCons (mBin dIdx (mVar 3) (mC (.int 0))) (mCons (mBin dIdx (mVar 3) (mC (.int 1))) (mNil)))) (mCons (mMake "Kind" c_Kind_init (mCons (mBin dIdx (mVar 4) (mC (.int 0))) (mCons (mBin dIdx (mVar 4) (mC (.int 1))) (mNil)))) (mCons (mCall c_law_parting (mCons (mVar 3) (mCons (mVar 4) (mNil)))) (mNil))))
def t3 : M Fl := mIf (mOr (mNot (mCall (c_law_alike 8) (mCons (mCall c_parting (mCons (mVar 5) (mCons (mVar 6) (mNil)))) (mCons (mVar 7) (mNil))))) (mNot (mCall (c_law_alike 8) (mCons (mCall c_parting (mCons (mVar 6) (mCons (mVar 5) (mNil)))) (mCons (mVar 7) (mNil)))))) (mRet (mC (.bl false))) (mNext)
def t4 : M Fl := mIf (mOr (mBin (dEq true) (mCall c_alike (mCons (mVar 5) (mCons (mVar 6) (mNil)))) (mUn (dIsN false) (mVar 7))) (mNot (mCall c_alike (mCons (mVar 5) (mCons (mVar 5) (mNil)))))) (mRet (mC (.bl false))) (mNext)
def t5 : M Fl := mSeq (mSet 8 (mLst (mNil))) <| mFor (mRng1 (mCons (mB (one dLen) (mCons (mBin dIdx (mVar 3) (mC (.int 0))) mNil)) (mNil))) (.nm 9) lnBody
def t6 : M Fl := mIf (mNot (mCall (c_law_alike 8) (mCons (mCall c_needless (mCons (mVar 5) (mNil))) (mCons (mVar 8) (mNil))))) (mRet (mC (.bl false))) (mNext)
def m_turn : M Fl := mSeq (mSet 3 (mCallIO c_law_kind 1 (mNil))) <| mSeq (mSet 4 (mCallIO c_law_changed 1 (mCons (mVar 3) (mNil)))) <| mSeq t2 <| mSeq t3 <| mSeq t4 <| mSeq (mSet 8 (mLst (mNil))) <| mSeq (mFor (mRng1 (mCons (mB (one dLen) (mCons (mBin dIdx (mVar 3) (mC (.int 0))) mNil)) (mNil))) (.nm 9) lnBody) t6
theorem law_eq : m_law = (mSeq (mSet 1 (mCall c_law_mix (mCons (mVar 0) (mCons (mC (.int 11)) (mNil))))) <| mSeq (mFor (mRng1 (mCons (mC (.int 4)) (mNil))) (.nm 2) m_turn) <| mRet (mC (.bl true))) := rfl
def tE (s0 h s2 : Option D) (a b : KD2) (k1 k2 d o x : Option D) : Pl.Env := [s0, h, s2, some (rawD a), some (rawD b), k1, k2, d, o, x]
theorem t2_ok {a b : KD2} (ga : GK a) (gb : GK b) (s0 h s2 x5 x6 x7 x8 x9 : Option D) : t2 (tE s0 h s2 a b x5 x6 x7 x8 x9) = .ok .next (tE s0 h s2 a b (some (kindT a.1 a.2)) (some (kindT b.1 b.2)) (some (partV a b)) x8 x9) := by
  obtain ⟨r, u⟩ := a
  obtain ⟨q, v⟩ := b
  have f1 := fz_rows ga.2
  have f2 := fz_rows gb.2
  have z1 := frzL_of f1
  have z2 := frzL_of f2
  have i1 := Pu.init_ok cs_kind ga.2 ga.1 u
  have i2 := Pu.init_ok cs_kind gb.2 gb.1 v
  have p := lparting_ok ga gb
  dsimp only at f1 f2 z1 z2 i1 i2
  generalize partV (r, u) (q, v) = P at *
  simp only [rawD] at p
  simp only [t2, tE, rawD, mMake, q_init, runF, mSeq, mSet, mMov, mBin, mUn, mB, mCons, mNil, mVar, mBinL, mBinR, mUnP, mC, isIn, mIf, mRet, mNext, mBrk, mDo, mAnd, mOr, mNot, mIte, mTup, mLst, mSlice, mNoPart, mPart, mCall, mCallIO, mAsg, mPar, mPar3, asg, asgL, onB, R.bind_ok, R.bind_exc, R.bind_fail, R.of, one, dInt, dTuple, dList, dLen, dIdx, D.fz, D.frz, D.fzL, D.frzL, runE, pickIO, List.length_cons, List.length_nil, List.map_cons, List.map_nil, List.cons_append, List.nil_append, List.getElem?_cons_zero, List.getElem?_cons_succ, List.set_cons_zero, List.set_cons_succ, if_true, if_false, Bool.false_eq_true, Bool.not_true, Bool.not_false, Bool.true_and, Bool.false_and, Bool.and_true, Bool.and_self, List.replicate, Nat.reduceAdd, Nat.reduceSub, Nat.reduceLT, Nat.reduceLeDiff, Nat.reduceEqDiff, Option.bind_some, Option.map_some, Pu.atI0, Pu.atI1, Pu.atI2, Pu.atI3, and_self, Pu.sz, reduceIte, Pu.n0, Pu.n1, Pu.n2, Pu.n3, Pu.n4, Pu.n5, Pu.n6, Pu.n7, Pu.n8, Pu.n9, Int.reduceBEq, beq_self_eq_true, Pu.io_tup, Pu.io_lst, Pu.io_int, Pu.io_bl, Pu.io_str, Pu.io_non, decide_true, decide_false, f1, f2, z1, z2, i1, i2, p]
theorem kF_frz {k : KD2} (g : GK k) : (kindT k.1 k.2).frz = kF k := Pu.kindT_frz g.2 k.2
theorem t3_ok {a b : KD2} (ga : GK a) (gb : GK b) (s0 h s2 x8 x9 : Option D) : t3 (tE s0 h s2 a b (some (kindT a.1 a.2)) (some (kindT b.1 b.2)) (some (partV a b)) x8 x9) = .ok .next (tE s0 h s2 a b (some (kF a)) (some (kF b)) (some (partV a b)) x8 x9) := by
  have p1 := parting_ok ga gb (.inl rfl) (.inl rfl)
  have p2 := parting_ok gb ga (.inl rfl) (.inl rfl)
  rw [Pu.partV_comm b a] at p2
  have fp := Pu.part_fz a b
  have r := Pu.alike_refl cs 8 _ (Pu.part_pl a b) fp
  have n1 := Pu.kindT_fz a.1 a.2
  have n2 := Pu.kindT_fz b.1 b.2
  have y1 := kF_frz ga
  have y2 := kF_frz gb
  have c1 := Pu.kF_fz ga
  have c2 := Pu.kF_fz gb
  generalize partV a b = P at *
  generalize kindT a.1 a.2 = T1 at *
  generalize kindT b.1 b.2 = T2 at *
  generalize kF a = K1 at *
  generalize kF b = K2 at *
  simp only [t3, tE, q_alike, runF, mSeq, mSet, mMov, mBin, mUn, mB, mCons, mNil, mVar, mBinL, mBinR, mUnP, mC, isIn, mIf, mRet, mNext, mBrk, mDo, mAnd, mOr, mNot, mIte, mTup, mLst, mSlice, mNoPart, mPart, mCall, mCallIO, mAsg, mPar, mPar3, asg, asgL, onB, R.bind_ok, R.bind_exc, R.bind_fail, R.of, one, dInt, dTuple, dList, dLen, dIdx, D.fz, D.frz, D.fzL, D.frzL, runE, pickIO, List.length_cons, List.length_nil, List.map_cons, List.map_nil, List.cons_append, List.nil_append, List.getElem?_cons_zero, List.getElem?_cons_succ, List.set_cons_zero, List.set_cons_succ, if_true, if_false, Bool.false_eq_true, Bool.not_true, Bool.not_false, Bool.true_and, Bool.false_and, Bool.and_true, Bool.and_self, List.replicate, Nat.reduceAdd, Nat.reduceSub, Nat.reduceLT, Nat.reduceLeDiff, Nat.reduceEqDiff, Option.bind_some, Option.map_some, Pu.atI0, Pu.atI1, Pu.atI2, Pu.atI3, and_self, Pu.sz, reduceIte, Pu.n0, Pu.n1, Pu.n2, Pu.n3, Pu.n4, Pu.n5, Pu.n6, Pu.n7, Pu.n8, Pu.n9, Int.reduceBEq, beq_self_eq_true, Pu.io_tup, Pu.io_lst, Pu.io_int, Pu.io_bl, Pu.io_str, Pu.io_non, decide_true, decide_false, n1, n2, y1, y2, c1, c2, p1, p2, fp, r]
theorem bl_ne (x : Bool) : dEq true (.bl x) (.bl x) = some (.bl false) := by cases x <;> kernel_rfl
theorem t4_ok {a b : KD2} (ga : GK a) (gb : GK b) (s0 h s2 x8 x9 : Option D) : t4 (tE s0 h s2 a b (some (kF a)) (some (kF b)) (some (partV a b)) x8 x9) = .ok .next (tE s0 h s2 a b (some (kF a)) (some (kF b)) (some (partV a b)) x8 x9) := by
  have p1 := alike_ok ga gb
  have p2 := alike_ok ga ga
  rw [Pu.part_self ga] at p2
  have p2' : c_alike [kF a, kF a] = .ok (.bl true) [] := p2
  have fp := Pu.part_fz a b
  have zp := D.frz_id _ fp
  have c1 := Pu.kF_fz ga
  have c2 := Pu.kF_fz gb
  generalize partV a b = P at *
  generalize kF a = K1 at *
  generalize kF b = K2 at *
  simp only [t4, tE, runF, mSeq, mSet, mMov, mBin, mUn, mB, mCons, mNil, mVar, mBinL, mBinR, mUnP, mC, isIn, mIf, mRet, mNext, mBrk, mDo, mAnd, mOr, mNot, mIte, mTup, mLst, mSlice, mNoPart, mPart, mCall, mCallIO, mAsg, mPar, mPar3, asg, asgL, onB, R.bind_ok, R.bind_exc, R.bind_fail, R.of, one, dInt, dTuple, dList, dLen, dIdx, D.fz, D.frz, D.fzL, D.frzL, runE, pickIO, List.length_cons, List.length_nil, List.map_cons, List.map_nil, List.cons_append, List.nil_append, List.getElem?_cons_zero, List.getElem?_cons_succ, List.set_cons_zero, List.set_cons_succ, if_true, if_false, Bool.false_eq_true, Bool.not_true, Bool.not_false, Bool.true_and, Bool.false_and, Bool.and_true, Bool.and_self, List.replicate, Nat.reduceAdd, Nat.reduceSub, Nat.reduceLT, Nat.reduceLeDiff, Nat.reduceEqDiff, Option.bind_some, Option.map_some, Pu.atI0, Pu.atI1, Pu.atI2, Pu.atI3, and_self, Pu.sz, reduceIte, Pu.n0, Pu.n1, Pu.n2, Pu.n3, Pu.n4, Pu.n5, Pu.n6, Pu.n7, Pu.n8, Pu.n9, Int.reduceBEq, beq_self_eq_true, Pu.io_tup, Pu.io_lst, Pu.io_int, Pu.io_bl, Pu.io_str, Pu.io_non, decide_true, decide_false, c1, c2, p1, p2', fp, zp, isN_ok, bl_ne]
theorem lnBody_ok {a b : KD2} (g : GK a) (s0 h s2 k1 k2 d : Option D) (i : Nat) (acc : List D) (hl : acc.length ≤ 1000) : lnBody (tE s0 h s2 a b k1 k2 d (some (.lst true acc)) (some (.int (i : Nat)))) = .ok .next (tE s0 h s2 a b k1 k2 d (some (.lst true (if nP a (.int (i : Nat)) = true then acc ++ [.int (i : Nat)] else acc))) (some (.int (i : Nat)))) := by
  have dk := dropK_ok g i
  have p := lparting_ok g dk
  have f := fz_rows g.2
  have z := frzL_of f
  have l := g.1
  have zp := D.frz_id _ (Pu.part_fz a (dropK a i))
  have sl : acc.length < 16777216 := by omega
  have np : nP a (.int (i : Nat)) = isN (partV a (dropK a i)) := rfl
  rw [np]
  obtain ⟨r, u⟩ := a
  dsimp only at f z l
  have a1 := dAdd_t (take_fz f i) (drop_fz f (i + 1)) (by rw [List.length_take, List.length_drop]; omega)
  have z1 := frzL_of (take_fz f i)
  have z2 := frzL_of (drop_fz f (i + 1))
  have p' : c_law_parting [.tup [.tup r, .bl u], .tup [.tup (r.take i ++ r.drop (i + 1)), .bl u]] = .ok (partV (r, u) (dropK (r, u) i)) [] := p
  generalize partV (r, u) (dropK (r, u) i) = P at *
  cases q : isN P <;> simp only [lnBody, tE, rawD, runF, mSeq, mSet, mMov, mBin, mUn, mB, mCons, mNil, mVar, mBinL, mBinR, mUnP, mC, isIn, mIf, mRet, mNext, mBrk, mDo, mAnd, mOr, mNot, mIte, mTup, mLst, mSlice, mNoPart, mPart, mCall, mCallIO, mAsg, mPar, mPar3, asg, asgL, onB, R.bind_ok, R.bind_exc, R.bind_fail, R.of, one, dInt, dTuple, dList, dLen, dIdx, D.fz, D.frz, D.fzL, D.frzL, runE, pickIO, List.length_cons, List.length_nil, List.map_cons, List.map_nil, List.cons_append, List.nil_append, List.getElem?_cons_zero, List.getElem?_cons_succ, List.set_cons_zero, List.set_cons_succ, if_true, if_false, Bool.false_eq_true, Bool.not_true, Bool.not_false, Bool.true_and, Bool.false_and, Bool.and_true, Bool.and_self, List.replicate, Nat.reduceAdd, Nat.reduceSub, Nat.reduceLT, Nat.reduceLeDiff, Nat.reduceEqDiff, Option.bind_some, Option.map_some, Pu.atI0, Pu.atI1, Pu.atI2, Pu.atI3, and_self, Pu.sz, reduceIte, Pu.n0, Pu.n1, Pu.n2, Pu.n3, Pu.n4, Pu.n5, Pu.n6, Pu.n7, Pu.n8, Pu.n9, Int.reduceBEq, beq_self_eq_true, Pu.io_tup, Pu.io_lst, Pu.io_int, Pu.io_bl, Pu.io_str, Pu.io_non, decide_true, decide_false, f, z, dCut, cut_to, cut_from1, dAdd_i, z1, z2, a1, p', zp, isN_ok, q, mApp, isLst, sl]
theorem loop_ok {a b : KD2} (g : GK a) (s0 h s2 k1 k2 d x : Option D) : ∃ x', (mFor (mRng1 (mCons (mB (one dLen) (mCons (mBin dIdx (mVar 3) (mC (.int 0))) mNil)) (mNil))) (.nm 9) lnBody) (tE s0 h s2 a b k1 k2 d (some (.lst true [])) x) = .ok .next (tE s0 h s2 a b k1 k2 d (some (.lst true (outV a))) x') := by
  have f := fz_rows g.2
  have z := frzL_of f
  have g1 := g.1
  obtain ⟨x', e⟩ := acc_loop (t := .nm 9) (b := lnBody) (p := nP a) (st := fun acc x => tE s0 h s2 a b k1 k2 d (some (.lst true acc)) x) (rngD 0 a.1.length) [] x (fun d _ _ _ => rfl) (fun y hy acc hl => by
    obtain ⟨i, _, rfl⟩ := Pu.rngD_mem hy
    exact lnBody_ok g s0 h s2 k1 k2 d i acc hl) (by rw [Pu.rngD_len, List.length_nil]; omega)
  rw [List.nil_append] at e
  refine ⟨x', ?_⟩
  have r : mRng1 (mCons (mB (one dLen) (mCons (mBin dIdx (mVar 3) (mC (.int 0))) mNil)) (mNil)) (tE s0 h s2 a b k1 k2 d (some (.lst true [])) x) = .ok (rngD 0 a.1.length) (tE s0 h s2 a b k1 k2 d (some (.lst true [])) x) :=
    Pu.rng1_len (by simp only [tE, rawD, runF, mSeq, mSet, mMov, mBin, mUn, mB, mCons, mNil, mVar, mBinL, mBinR, mUnP, mC, isIn, mIf, mRet, mNext, mBrk, mDo, mAnd, mOr, mNot, mIte, mTup, mLst, mSlice, mNoPart, mPart, mCall, mCallIO, mAsg, mPar, mPar3, asg, asgL, onB, R.bind_ok, R.bind_exc, R.bind_fail, R.of, one, dInt, dTuple, dList, dLen, dIdx, D.fz, D.frz, D.fzL, D.frzL, runE, pickIO, List.length_cons, List.length_nil, List.map_cons, List.map_nil, List.cons_append, List.nil_append, List.getElem?_cons_zero, List.getElem?_cons_succ, List.set_cons_zero, List.set_cons_succ, if_true, if_false, Bool.false_eq_true, Bool.not_true, Bool.not_false, Bool.true_and, Bool.false_and, Bool.and_true, Bool.and_self, List.replicate, Nat.reduceAdd, Nat.reduceSub, Nat.reduceLT, Nat.reduceLeDiff, Nat.reduceEqDiff, Option.bind_some, Option.map_some, Pu.atI0, Pu.atI1, Pu.atI2, Pu.atI3, and_self, Pu.sz, reduceIte, Pu.n0, Pu.n1, Pu.n2, Pu.n3, Pu.n4, Pu.n5, Pu.n6, Pu.n7, Pu.n8, Pu.n9, Int.reduceBEq, beq_self_eq_true, Pu.io_tup, Pu.io_lst, Pu.io_int, Pu.io_bl, Pu.io_str, Pu.io_non, decide_true, decide_false, f, z]) (by omega)
  simp only [mFor, r, R.bind_ok]
  exact e
theorem out_pl (k : KD2) (g : GK k) : plN 8 (.lst false (outV k)) = true := by
  refine Pu.plN_lst (n := 7) (List.all_eq_true.mpr fun d hd => ?_) ?_ false
  · obtain ⟨i, _, rfl⟩ := Pu.rngD_mem (List.mem_filter.mp hd).1
    rfl
  · have := List.length_filter_le (nP k) (rngD 0 k.1.length)
    rw [Pu.rngD_len] at this
    have := g.1
    unfold outV
    omega
theorem t6_ok {a b : KD2} (g : GK a) (s0 h s2 k2 d x : Option D) : t6 (tE s0 h s2 a b (some (kF a)) k2 d (some (.lst true (outV a))) x) = .ok .next (tE s0 h s2 a b (some (kF a)) k2 d (some (.lst false (outV a))) x) := by
  have n := needless_ok g
  have f := outV_fz a
  have z := frzL_of f
  have c1 := Pu.kF_fz g
  have r := Pu.alike_refl cs 8 _ (out_pl a g) (by rw [D.fz, f]; rfl)
  generalize outV a = O at *
  generalize kF a = K1 at *
  simp only [t6, tE, q_alike, runF, mSeq, mSet, mMov, mBin, mUn, mB, mCons, mNil, mVar, mBinL, mBinR, mUnP, mC, isIn, mIf, mRet, mNext, mBrk, mDo, mAnd, mOr, mNot, mIte, mTup, mLst, mSlice, mNoPart, mPart, mCall, mCallIO, mAsg, mPar, mPar3, asg, asgL, onB, R.bind_ok, R.bind_exc, R.bind_fail, R.of, one, dInt, dTuple, dList, dLen, dIdx, D.fz, D.frz, D.fzL, D.frzL, runE, pickIO, List.length_cons, List.length_nil, List.map_cons, List.map_nil, List.cons_append, List.nil_append, List.getElem?_cons_zero, List.getElem?_cons_succ, List.set_cons_zero, List.set_cons_succ, if_true, if_false, Bool.false_eq_true, Bool.not_true, Bool.not_false, Bool.true_and, Bool.false_and, Bool.and_true, Bool.and_self, List.replicate, Nat.reduceAdd, Nat.reduceSub, Nat.reduceLT, Nat.reduceLeDiff, Nat.reduceEqDiff, Option.bind_some, Option.map_some, Pu.atI0, Pu.atI1, Pu.atI2, Pu.atI3, and_self, Pu.sz, reduceIte, Pu.n0, Pu.n1, Pu.n2, Pu.n3, Pu.n4, Pu.n5, Pu.n6, Pu.n7, Pu.n8, Pu.n9, Int.reduceBEq, beq_self_eq_true, Pu.io_tup, Pu.io_lst, Pu.io_int, Pu.io_bl, Pu.io_str, Pu.io_non, decide_true, decide_false, c1, n, f, z, r]
theorem turn_ok {h : D} (gh : GH h) (s0 s2 x3 x4 x5 x6 x7 x8 x9 : Option D) : ∃ h' y3 y4 y5 y6 y7 y8 y9, GH h' ∧ m_turn [s0, some h, s2, x3, x4, x5, x6, x7, x8, x9] = .ok .next [s0, some h', s2, y3, y4, y5, y6, y7, y8, y9] := by
  obtain ⟨rs, b, h1, e1, g1, l1, p1⟩ := Pu.kind_ok gh
  have ga : GK (rs, b) := ⟨Nat.le_succ_of_le l1, p1⟩
  obtain ⟨k', h2, gb, g2, e2⟩ := changed_ok ga g1
  have fr := Pu.raw_fz ga
  have a1 : (mSet 3 (mCallIO c_law_kind 1 (mNil))) [s0, some h, s2, x3, x4, x5, x6, x7, x8, x9] = .ok .next [s0, some h1, s2, some (rawD (rs, b)), x4, x5, x6, x7, x8, x9] := by
    simp only [q_kind, runF, mSeq, mSet, mMov, mBin, mUn, mB, mCons, mNil, mVar, mBinL, mBinR, mUnP, mC, isIn, mIf, mRet, mNext, mBrk, mDo, mAnd, mOr, mNot, mIte, mTup, mLst, mSlice, mNoPart, mPart, mCall, mCallIO, mAsg, mPar, mPar3, asg, asgL, onB, R.bind_ok, R.bind_exc, R.bind_fail, R.of, one, dInt, dTuple, dList, dLen, dIdx, D.fz, D.frz, D.fzL, D.frzL, runE, pickIO, List.length_cons, List.length_nil, List.map_cons, List.map_nil, List.cons_append, List.nil_append, List.getElem?_cons_zero, List.getElem?_cons_succ, List.set_cons_zero, List.set_cons_succ, if_true, if_false, Bool.false_eq_true, Bool.not_true, Bool.not_false, Bool.true_and, Bool.false_and, Bool.and_true, Bool.and_self, List.replicate, Nat.reduceAdd, Nat.reduceSub, Nat.reduceLT, Nat.reduceLeDiff, Nat.reduceEqDiff, Option.bind_some, Option.map_some, Pu.atI0, Pu.atI1, Pu.atI2, Pu.atI3, and_self, Pu.sz, reduceIte, Pu.n0, Pu.n1, Pu.n2, Pu.n3, Pu.n4, Pu.n5, Pu.n6, Pu.n7, Pu.n8, Pu.n9, Int.reduceBEq, beq_self_eq_true, Pu.io_tup, Pu.io_lst, Pu.io_int, Pu.io_bl, Pu.io_str, Pu.io_non, decide_true, decide_false, e1, rawD]
  have a2 : (mSet 4 (mCallIO c_law_changed 1 (mCons (mVar 3) (mNil)))) [s0, some h1, s2, some (rawD (rs, b)), x4, x5, x6, x7, x8, x9] = .ok .next (tE s0 (some h2) s2 (rs, b) k' x5 x6 x7 x8 x9) := by
    unfold tE
    generalize rawD (rs, b) = R1 at *
    simp only [runF, mSeq, mSet, mMov, mBin, mUn, mB, mCons, mNil, mVar, mBinL, mBinR, mUnP, mC, isIn, mIf, mRet, mNext, mBrk, mDo, mAnd, mOr, mNot, mIte, mTup, mLst, mSlice, mNoPart, mPart, mCall, mCallIO, mAsg, mPar, mPar3, asg, asgL, onB, R.bind_ok, R.bind_exc, R.bind_fail, R.of, one, dInt, dTuple, dList, dLen, dIdx, D.fz, D.frz, D.fzL, D.frzL, runE, pickIO, List.length_cons, List.length_nil, List.map_cons, List.map_nil, List.cons_append, List.nil_append, List.getElem?_cons_zero, List.getElem?_cons_succ, List.set_cons_zero, List.set_cons_succ, if_true, if_false, Bool.false_eq_true, Bool.not_true, Bool.not_false, Bool.true_and, Bool.false_and, Bool.and_true, Bool.and_self, List.replicate, Nat.reduceAdd, Nat.reduceSub, Nat.reduceLT, Nat.reduceLeDiff, Nat.reduceEqDiff, Option.bind_some, Option.map_some, Pu.atI0, Pu.atI1, Pu.atI2, Pu.atI3, and_self, Pu.sz, reduceIte, Pu.n0, Pu.n1, Pu.n2, Pu.n3, Pu.n4, Pu.n5, Pu.n6, Pu.n7, Pu.n8, Pu.n9, Int.reduceBEq, beq_self_eq_true, Pu.io_tup, Pu.io_lst, Pu.io_int, Pu.io_bl, Pu.io_str, Pu.io_non, decide_true, decide_false, fr, e2]
  have a3 := t2_ok ga gb s0 (some h2) s2 x5 x6 x7 x8 x9
  have a4 := t3_ok ga gb s0 (some h2) s2 x8 x9
  have a5 := t4_ok ga gb s0 (some h2) s2 x8 x9
  have a6 : (mSet 8 (mLst (mNil))) (tE s0 (some h2) s2 (rs, b) k' (some (kF (rs, b))) (some (kF k')) (some (partV (rs, b) k')) x8 x9) = .ok .next (tE s0 (some h2) s2 (rs, b) k' (some (kF (rs, b))) (some (kF k')) (some (partV (rs, b) k')) (some (.lst true [])) x9) := by
    simp only [tE, runF, mSeq, mSet, mMov, mBin, mUn, mB, mCons, mNil, mVar, mBinL, mBinR, mUnP, mC, isIn, mIf, mRet, mNext, mBrk, mDo, mAnd, mOr, mNot, mIte, mTup, mLst, mSlice, mNoPart, mPart, mCall, mCallIO, mAsg, mPar, mPar3, asg, asgL, onB, R.bind_ok, R.bind_exc, R.bind_fail, R.of, one, dInt, dTuple, dList, dLen, dIdx, D.fz, D.frz, D.fzL, D.frzL, runE, pickIO, List.length_cons, List.length_nil, List.map_cons, List.map_nil, List.cons_append, List.nil_append, List.getElem?_cons_zero, List.getElem?_cons_succ, List.set_cons_zero, List.set_cons_succ, if_true, if_false, Bool.false_eq_true, Bool.not_true, Bool.not_false, Bool.true_and, Bool.false_and, Bool.and_true, Bool.and_self, List.replicate, Nat.reduceAdd, Nat.reduceSub, Nat.reduceLT, Nat.reduceLeDiff, Nat.reduceEqDiff, Option.bind_some, Option.map_some, Pu.atI0, Pu.atI1, Pu.atI2, Pu.atI3, and_self, Pu.sz, reduceIte, Pu.n0, Pu.n1, Pu.n2, Pu.n3, Pu.n4, Pu.n5, Pu.n6, Pu.n7, Pu.n8, Pu.n9, Int.reduceBEq, beq_self_eq_true, Pu.io_tup, Pu.io_lst, Pu.io_int, Pu.io_bl, Pu.io_str, Pu.io_non, decide_true, decide_false]
  obtain ⟨x', a7⟩ := loop_ok (b := k') ga s0 (some h2) s2 (some (kF (rs, b))) (some (kF k')) (some (partV (rs, b) k')) x9
  have a8 := t6_ok (b := k') ga s0 (some h2) s2 (some (kF k')) (some (partV (rs, b) k')) x'
  refine ⟨h2, some (rawD (rs, b)), some (rawD k'), some (kF (rs, b)), some (kF k'), some (partV (rs, b) k'), some (.lst false (outV (rs, b))), x', g2, ?_⟩
  simp only [m_turn, mSeq, a1, a2, a3, a4, a5, a6, a7, a8, R.bind_ok]
  rfl
def TI (s0 : Option D) (e : Pl.Env) : Prop := ∃ h s2 x3 x4 x5 x6 x7 x8 x9, GH h ∧ e = [s0, some h, s2, x3, x4, x5, x6, x7, x8, x9]
theorem law_pure {ns : List Int} (hl : ns.length ≤ 63) : ∃ io, c_law [.scr ns] = .ok (.bl true) io := by
  obtain ⟨h, e1, g⟩ := Pu.mix_seed 11 hl
  obtain ⟨e', ef, h', s2, x3, x4, x5, x6, x7, x8, x9, g', rfl⟩ := Pu.forL_inv (t := .nm 2) (b := m_turn) (TI (some (.scr ns))) (rngD 0 4) [some (.scr ns), some h, none, none, none, none, none, none, none, none]
    ⟨h, none, none, none, none, none, none, none, none, g, rfl⟩ (fun d _ e ⟨h, s2, x3, x4, x5, x6, x7, x8, x9, gh, he⟩ => by
      obtain ⟨h', y3, y4, y5, y6, y7, y8, y9, g', q⟩ := turn_ok gh (some (.scr ns)) (some d) x3 x4 x5 x6 x7 x8 x9
      refine ⟨[some (.scr ns), some h, some d, x3, x4, x5, x6, x7, x8, x9], _, ?_, q, h', some d, y3, y4, y5, y6, y7, y8, y9, g', rfl⟩
      rw [he]
      rfl)
  refine ⟨[], ?_⟩
  have rg (e : Pl.Env) : mRng1 (mCons (mC (.int 4)) (mNil)) e = .ok (rngD 0 4) e := by
    have q : mRng1 (mCons (mC (.int 4)) (mNil)) = fun e => .ok (rngD 0 4) e := by kernel_rfl
    rw [q]
  simp only [c_law, law_eq, q_mix, runF, mSeq, mSet, mMov, mBin, mUn, mB, mCons, mNil, mVar, mBinL, mBinR, mUnP, mC, isIn, mIf, mRet, mNext, mBrk, mDo, mAnd, mOr, mNot, mIte, mTup, mLst, mSlice, mNoPart, mPart, mCall, mCallIO, mAsg, mPar, mPar3, asg, asgL, onB, R.bind_ok, R.bind_exc, R.bind_fail, R.of, one, dInt, dTuple, dList, dLen, dIdx, D.fz, D.frz, D.fzL, D.frzL, runE, pickIO, List.length_cons, List.length_nil, List.map_cons, List.map_nil, List.cons_append, List.nil_append, List.getElem?_cons_zero, List.getElem?_cons_succ, List.set_cons_zero, List.set_cons_succ, if_true, if_false, Bool.false_eq_true, Bool.not_true, Bool.not_false, Bool.true_and, Bool.false_and, Bool.and_true, Bool.and_self, List.replicate, Nat.reduceAdd, Nat.reduceSub, Nat.reduceLT, Nat.reduceLeDiff, Nat.reduceEqDiff, Option.bind_some, Option.map_some, Pu.atI0, Pu.atI1, Pu.atI2, Pu.atI3, and_self, Pu.sz, reduceIte, Pu.n0, Pu.n1, Pu.n2, Pu.n3, Pu.n4, Pu.n5, Pu.n6, Pu.n7, Pu.n8, Pu.n9, Int.reduceBEq, beq_self_eq_true, Pu.io_tup, Pu.io_lst, Pu.io_int, Pu.io_bl, Pu.io_str, Pu.io_non, decide_true, decide_false, e1, mFor, rg, ef]
end V11
set_option Elab.async false
set_option linter.all false
set_option maxRecDepth 100000
set_option maxHeartbeats 1000000
/-! Pl: the end: a law whose defs may raise. -/
namespace Pl
open PySem PySem.Spec PyProof.Rows L2
theorem cx_none {P : Program} {w : World} {H : Hp} {s : Shared} {e : Value} {s' : Shared} (h : L2.CX P w [] H s (fun _ _ _ => False) e s') : False := by
  obtain ⟨_, _, _, _, _, _, _, _, _, _, _, _, z⟩ := h
  exact z.elim
theorem walk_ofP {l : PySem.W.OpenLaw} {n k : Nat} {q : Program} {loose : List Str} {XP : (Str → Option Value) → Heap → Prop} {YP : World → Heap → Prop} {d : DefRec} {x : Str}
    (hn : l.most = some n) (hn2 : n ≤ sizeLine) (hdf : d.params.defaults = []) (hr : Room k callerA)
    (F : ∀ (w : World) (mg : Str → Option Value) (fa : Addr) (h : Heap), YP w h → h.Ns mainGlobals mg → mg d.name = some (.ref fa) →
      ∃ (K : PySem.W.Frag) (fd : FuncData) (sp : Sp), K.In h ∧ (∀ (s : Shared) (u : Value), BindsTo s fd ⟨[u], []⟩ [(x, u)]) ∧
        (∀ (H : Hp) (a : Addr) (ns : List Int), ns.length ≤ n → Only H → SqL K H a (ns.map V.int) → sp [.ref a] H (fun v _ => v = .bl true) fun _ _ _ => False) ∧
        ∀ base : Heap, K.In base → base.Ns mainGlobals mg → FnOk l.prog w K mg base (L2.CX l.prog w) k fa fd [x] sp) :
    PySem.W.WalkO q loose XP YP l.row.toRowW d [] (fun f vs => PySem.call f vs) := by
  refine Att.attach_call hn hdf fun w s₀ s₁ mg mb fa o pm cd doc a vs ns G Y ho hd hcd hmg hobj hints hlen hg => ?_
  obtain ⟨K, fd, sp, KX, hb, hsp, hF⟩ := F w mg fa _ Y G.T.g hmg
  exact law_call KX G.T.g G.T.b G.T.builtins G.T.nolimit hg hobj hints (Nat.le_trans hlen hn2) hr hF hb (fun H hO hS => hsp H a ns hlen hO hS) fun H e s' z => cx_none z
end Pl
set_option Elab.async false
set_option linter.all false
set_option maxRecDepth 100000
set_option maxHeartbeats 0
open PySem PySem.W PySem.Calls PyProof.Rows
theorem PySem.Challenge.cw_listletters_k11_whole_partings_holds : PySem.Challenge.rw_listletters_k11_whole_partings.Holds := by
  w_on; o_law
  refine HandSHeadRun.head_any (r := OpenLaw.row PySem.Challenge.rw_listletters_k11_whole_partings) (q := view (OpenLaw.row PySem.Challenge.rw_listletters_k11_whole_partings).prog [43]) (H := V11.hk) (ob := V11.ob) (M := 6000) (loose := V11.names) (d := HandSHeadRun.topDef (OpenLaw.row PySem.Challenge.rw_listletters_k11_whole_partings).prog 43) (kwd := []) V11.ob_eq
    (by kernel_rfl) (fun s => by kernel_rfl) V11.run (by kernel_rfl) (by kernel_rfl) (by kernel_rfl) (by rfl) (by first | assumption | decide +kernel) (by decide +kernel) ⟨rfl, rfl, rfl, rfl, rfl, by decide +kernel⟩ ?hw ?hc
  case hw => w_witness2
  case hc =>
    refine Pl.walk_ofP (l := PySem.Challenge.rw_listletters_k11_whole_partings) (n := 63) (k := 10) (x := "_law_script") rfl (by decide) (by kernel_rfl) ⟨rfl, by decide, by decide⟩ ?F
    intro w mg fa h Y G hmg0
    obtain ⟨K, KX, c⟩ := Y
    have hmg : mg ("law" : PySem.Str) = some (.ref fa) := by
      have e : (HandSHeadRun.topDef (OpenLaw.row PySem.Challenge.rw_listletters_k11_whole_partings).prog 43).name = ("law" : PySem.Str) := by kernel_rfl
      rw [← e]
      exact hmg0
    have e2 : (He.Fa.glo "law").ok K = true := by
      obtain ⟨_, _, _, _, _, _, _, _, h9, _⟩ := V11.ex_of c.more
      exact List.all_eq_true.mp h9 _ (by decide +kernel)
    have e := hmg.symm.trans (He.glo_ok KX G e2)
    cases e
    obtain ⟨fd, hb, hF⟩ := V11.facts (w := w) KX G c
    exact ⟨K, fd, _, KX, hb, fun H a ns hl hO hS => Pl.spD_law hO hS (V11.law_pure hl), fun base _ _ => hF base⟩
