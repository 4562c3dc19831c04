import PyProof.Rows.All
import Wide.All
import OpenK.AllK
import Wide.FinOn
import HandS.ForMost
import HandS.EndTab
import HandS.Lambda
import HandS.SetKeys
import KE.KDictKeyed
import HandS.IsInst
import HandS.TupAny
import HandS.TupLen
import HandS.Style
import KE.KDictDisplayH
import PyProof.SeqIndex
import HandS.Nested
import HandS.SetBool
import KE.GoesNew
import HandS.More
import KE.DataFind
import HandS.TupMul
import PySem.Challenge.RW_madetorule_k12_whole_letters_by_other_na
set_option Elab.async false
set_option linter.all false
set_option maxRecDepth 100000
set_option maxHeartbeats 4000000
section
/-! Dd0: data over the abstract heap; slots told by data; judgements told by data. -/
namespace Dd
open PySem PySem.Spec PyProof.Rows L2

/-- the part that stands for good, and all; what may change -/
structure Bs where
  F0 : Hp
  H0 : Hp
  M : Addr → Prop

/-! ### data stays -/
theorem sql_same {K : PySem.W.Frag} {H H' : Hp} {a : Addr} {xs : List V} (e : Same H H') (h : SqL K H a xs) : SqL K H' a xs := e.seq h
theorem sqt_same {K : PySem.W.Frag} {H H' : Hp} {a : Addr} {xs : List V} (e : Same H H') (h : SqT K H a xs) : SqT K H' a xs := by
  rcases h with (h | ⟨o, h⟩) | h
  · exact .inl (.inl (e _ _ h))
  · exact .inl (.inr ⟨o, e _ _ h⟩)
  · exact .inr h
mutual
theorem dp_same {K : PySem.W.Frag} {H H' : Hp} (e : Same H H') : ∀ {v : V} {d : PyData}, Dp K H v d → Dp K H' v d
  | _, _, .non => .non
  | _, _, .bl b => .bl b
  | _, _, .int i => .int i
  | _, _, .str x => .str x
  | _, _, .lst h t => .lst (sql_same e h) (dpa_same e t)
  | _, _, .tup h t => .tup (sqt_same e h) (dpa_same e t)
theorem dpa_same {K : PySem.W.Frag} {H H' : Hp} (e : Same H H') : ∀ {vs : List V} {ds : List PyData}, DpAll K H vs ds → DpAll K H' vs ds
  | _, _, .nil => .nil
  | _, _, .cons h t => .cons (dp_same e h) (dpa_same e t)
end
section
variable {K : PySem.W.Frag} {H : Hp}
theorem dpa_len : ∀ {vs : List V} {ds : List PyData}, DpAll K H vs ds → vs.length = ds.length
  | _, _, .nil => rfl
  | _, _, .cons _ t => by rw [List.length_cons, List.length_cons, dpa_len t]
theorem dpa_get : ∀ {vs : List V} {ds : List PyData} {i : Nat} {d : PyData}, DpAll K H vs ds → ds[i]? = some d → ∃ v, vs[i]? = some v ∧ Dp K H v d
  | _, _, _, _, .nil, h => by simp at h
  | _, _, 0, _, .cons h _, e => by
    simp at e
    subst e
    exact ⟨_, rfl, h⟩
  | _, _, i + 1, _, .cons _ t, e => by
    obtain ⟨v, h1, h2⟩ := dpa_get (i := i) t (by simpa using e)
    exact ⟨v, by simpa using h1, h2⟩
theorem dpa_getv : ∀ {vs : List V} {ds : List PyData} {i : Nat} {v : V}, DpAll K H vs ds → vs[i]? = some v → ∃ d, ds[i]? = some d ∧ Dp K H v d
  | _, _, _, _, .nil, h => by simp at h
  | _, _, 0, _, .cons h _, e => by
    simp at e
    subst e
    exact ⟨_, rfl, h⟩
  | _, _, i + 1, _, .cons _ t, e => by
    obtain ⟨v, h1, h2⟩ := dpa_getv (i := i) t (by simpa using e)
    exact ⟨v, by simpa using h1, h2⟩
theorem dpa_append : ∀ {vs ws : List V} {ds es : List PyData}, DpAll K H vs ds → DpAll K H ws es → DpAll K H (vs ++ ws) (ds ++ es)
  | _, _, _, _, .nil, h => h
  | _, _, _, _, .cons h t, u => .cons h (dpa_append t u)
theorem dpa_take : ∀ {vs : List V} {ds : List PyData} (n : Nat), DpAll K H vs ds → DpAll K H (vs.take n) (ds.take n)
  | _, _, 0, _ => .nil
  | _, _, _ + 1, .nil => .nil
  | _, _, n + 1, .cons h t => .cons h (dpa_take n t)
theorem dpa_drop : ∀ {vs : List V} {ds : List PyData} (n : Nat), DpAll K H vs ds → DpAll K H (vs.drop n) (ds.drop n)
  | _, _, 0, h => h
  | _, _, _ + 1, .nil => .nil
  | _, _, n + 1, .cons _ t => dpa_drop n t
theorem dpa_set : ∀ {vs : List V} {ds : List PyData} {v : V} {d : PyData} (i : Nat), DpAll K H vs ds → Dp K H v d → DpAll K H (vs.set i v) (ds.set i d)
  | _, _, _, _, _, .nil, _ => .nil
  | _, _, _, _, 0, .cons _ t, h => .cons h t
  | _, _, _, _, i + 1, .cons a t, h => .cons a (dpa_set i t h)
theorem dpa_one {v : V} {d : PyData} (h : Dp K H v d) : DpAll K H [v] [d] := .cons h .nil
theorem dpa_reverse : ∀ {vs : List V} {ds : List PyData}, DpAll K H vs ds → DpAll K H vs.reverse ds.reverse
  | _, _, .nil => .nil
  | _, _, .cons h t => by
    rw [List.reverse_cons, List.reverse_cons]
    exact dpa_append (dpa_reverse t) (dpa_one h)
theorem dpa_replicate {v : V} {d : PyData} (h : Dp K H v d) : ∀ n, DpAll K H (List.replicate n v) (List.replicate n d)
  | 0 => .nil
  | n + 1 => .cons h (dpa_replicate h n)
theorem dp_tup {a : Addr} {xs : List V} {ds : List PyData} (h : H a = some (.tup xs)) (t : DpAll K H xs ds) : Dp K H (.ref a) (.tuple ds) := .tup (SqT.of h) t
theorem dp_tupF {a : Addr} {o : Obj} {xs : List V} {ds : List PyData} (h : H a = some (.frz o (.tup xs))) (t : DpAll K H xs ds) : Dp K H (.ref a) (.tuple ds) := .tup (.inl (.inr ⟨o, h⟩)) t
theorem dp_lst {a : Addr} {xs : List V} {ds : List PyData} (h : H a = some (.lst xs)) (t : DpAll K H xs ds) : Dp K H (.ref a) (.list ds) := .lst (SqL.of h) t
end

/-! ### heaps -/
/-- what stands through a whole call: tables of code objects, code objects, what is captured -/
structure Tb where
  tabs : List (Addr × Str)
  codes : List (Addr × Str)
  caps : Hp → Prop
  mono : ∀ F F', Same F F' → caps F → caps F'
theorem same_new {H : Hp} {p : Addr} {o : HO} (h : H p = none) : Same H (upd H p o) := fun b x e => by
  rw [upd_ne (ne_of_none e h)]
  exact e
/-- the words of the law's letters; a tuple of such is known to the object -/
def lw : List Str := ["a", "b", "go", "cc", "up", "down", "z", "x", "y", "yes", "no", "zz"]
def thV : V → Bool
  | .str x => lw.contains x
  | _ => false
def thin (xs : List V) : Bool := !xs.isEmpty && xs.all thV
/-- a good pair: what stands for good, all -/
structure Gd (T : Tb) (F H : Hp) : Prop where
  fh : Same F H
  nt : ∀ a ps, F a ≠ some (.tbl ps)
  tb : LamX.Tabs T.tabs H
  sz : ∀ a xs, Rd H a (.lst xs) ∨ Rd H a (.tup xs) → xs.length ≤ sizeLine
  th : ∀ a xs, F a = some (.tup xs) → thin xs = false
  fz : ∀ a o xs, F a = some (.frz o (.tup xs)) → thin xs = true → o.dict = none
  cd : ∀ p ∈ T.codes, H p.1 = some (LamX.CodeO p.1 p.2)
  cp : T.caps F
def NT (o : HO) : Prop := ∀ ps, o ≠ .tbl ps
/-- how it goes on: M may change -/
structure Nx (T : Tb) (M : Addr → Prop) (F H F' H' : Hp) : Prop where
  ff : Same F F'
  hh : ∀ a o, H a = some o → ¬ M a → NT o → H' a = some o
  dm : ∀ a, H a ≠ none → H' a ≠ none
  out : ∀ a, H a ≠ none → ¬ M a → F a = none → F' a = none
  gd : Gd T F' H'
section
variable {T : Tb} {M M' : Addr → Prop} {F H F1 H1 F2 H2 : Hp}
theorem Nx.refl (g : Gd T F H) : Nx T M F H F H := ⟨Same.refl F, fun _ _ h _ _ => h, fun _ h => h, fun _ _ _ h => h, g⟩
theorem Nx.trans (a : Nx T M F H F1 H1) (b : Nx T M F1 H1 F2 H2) : Nx T M F H F2 H2 :=
  ⟨a.ff.trans b.ff, fun x o h m n => b.hh x o (a.hh x o h m n) m n, fun x h => b.dm x (a.dm x h), fun x h m n => b.out x (a.dm x h) m (a.out x h m n), b.gd⟩
theorem Nx.mono (a : Nx T M F H F1 H1) (h : ∀ x, M x → M' x) : Nx T M' F H F1 H1 :=
  ⟨a.ff, fun x o e m n => a.hh x o e (fun z => m (h x z)) n, a.dm, fun x e m n => a.out x e (fun z => m (h x z)) n, a.gd⟩
theorem Gd.sql (g : Gd T F H) {K : PySem.W.Frag} {a : Addr} {xs : List V} (h : SqL K F a xs) : xs.length ≤ sizeLine := by
  rcases sql_same g.fh h with h | ⟨o, its, n, _, _, _, _, hz, r⟩
  · exact g.sz a xs (.inl h)
  · have e := r.length
    simp only [Array.length_toList] at e
    omega
theorem Gd.sqt (g : Gd T F H) {K : PySem.W.Frag} {a : Addr} {xs : List V} (h : SqT K F a xs) : xs.length ≤ sizeLine := by
  rcases sqt_same g.fh h with h | ⟨o, its, n, _, _, _, hz, r⟩
  · exact g.sz a xs (.inr h)
  · have e := r.length
    simp only [Array.length_toList] at e
    omega
def OkO : HO → Prop
  | .lst xs => xs.length ≤ sizeLine
  | .tup xs => xs.length ≤ sizeLine ∧ thin xs = false
  | .frz o (.tup xs) => xs.length ≤ sizeLine ∧ o.dict = none
  | .frz _ _ => False
  | .tbl _ => False
  | _ => True
theorem Gd.newH {p : Addr} {o : HO} (g : Gd T F H) (h : H p = none) (k : OkO o) : Gd T F (upd H p o) := by
  refine ⟨g.fh.trans (same_new h), g.nt, g.tb.ext fun b o e => same_new h b o e, fun a xs q => ?_, g.th, g.fz, fun c hc => same_new h _ _ (g.cd c hc), g.cp⟩
  by_cases e : a = p
  · subst e
    rcases q with (q | ⟨ob, q⟩) | (q | ⟨ob, q⟩) <;> rw [upd_same] at q <;> cases q <;> first | exact k | exact k.1 | exact k.elim
  · refine g.sz a xs ?_
    unfold Rd at q ⊢
    rw [upd_ne e] at q
    exact q
theorem none_of {p : Addr} (g : Gd T F H) (h : H p = none) : F p = none := by
  cases q : F p with
  | none => rfl
  | some u =>
    rw [g.fh _ _ q] at h
    cases h
theorem Gd.newF {p : Addr} {o : HO} (g : Gd T F H) (h : H p = none) (k : OkO o) : Gd T (upd F p o) (upd H p o) := by
  have g1 := g.newH h k
  refine ⟨fun b u e => ?_, fun a ps e => ?_, g1.tb, g1.sz, fun a xs q => ?_, fun a ob xs q t => ?_, g1.cd, T.mono _ _ (same_new (none_of g h)) g.cp⟩
  · by_cases q : b = p
    · subst q
      rw [upd_same] at e ⊢
      exact e
    · rw [upd_ne q] at e ⊢
      exact g.fh b u e
  · by_cases q : a = p
    · subst q
      rw [upd_same] at e
      cases e
      exact k
    · rw [upd_ne q] at e
      exact g.nt a ps e
  · by_cases e : a = p
    · subst e
      rw [upd_same] at q
      cases q
      exact k.2
    · rw [upd_ne e] at q
      exact g.th a xs q
  · by_cases e : a = p
    · subst e
      rw [upd_same] at q
      cases q
      exact k.2
    · rw [upd_ne e] at q
      exact g.fz a ob xs q t
/-- a new object, for good -/
theorem Nx.newF {p : Addr} {o : HO} (g : Gd T F H) (h : H p = none) (k : OkO o) : Nx T M F H (upd F p o) (upd H p o) := by
  have hf : F p = none := by
    cases q : F p with
    | none => rfl
    | some u =>
      rw [g.fh _ _ q] at h
      cases h
  refine ⟨same_new hf, fun a u e _ _ => same_new h a u e, fun a e q => ?_, fun a e _ n => ?_, g.newF h k⟩
  · cases z : H a with
    | none => exact e z
    | some u =>
      rw [same_new h a u z] at q
      cases q
  · have ne : a ≠ p := fun z => e (by rw [z]; exact h)
    rw [upd_ne ne]
    exact n
/-- a new object, not for good -/
theorem Nx.newH {p : Addr} {o : HO} (g : Gd T F H) (h : H p = none) (k : OkO o) : Nx T M F H F (upd H p o) := by
  refine ⟨Same.refl F, fun a u e _ _ => same_new h a u e, fun a e q => ?_, fun a e _ n => n, g.newH h k⟩
  cases z : H a with
  | none => exact e z
  | some u =>
    rw [same_new h a u z] at q
    cases q
/-- an object changed -/
theorem Nx.set {p : Addr} {o u : HO} (g : Gd T F H) (m : M p) (h : H p = some u) (hn : NT u) (hq : ∀ q, u ≠ LamX.CodeO p q) (hf : F p = none) (k : OkO o) : Nx T M F H F (upd H p o) := by
  refine ⟨Same.refl F, fun a x e na _ => ?_, fun a e q => ?_, fun a e _ n => n, ⟨fun b x e => ?_, g.nt, fun t ht => ?_, fun a xs q => ?_, g.th, g.fz, fun c hc => ?_, g.cp⟩⟩
  · rw [upd_ne (fun z => na (by rw [z]; exact m))]
    exact e
  · by_cases z : a = p
    · subst z
      rw [upd_same] at q
      cases q
    · rw [upd_ne z] at q
      exact e q
  · have ne : b ≠ p := fun z => by
      rw [z, hf] at e
      cases e
    rw [upd_ne ne]
    exact g.fh b x e
  · obtain ⟨ps, h1, h2, h3⟩ := g.tb t ht
    have n1 : t.1 ≠ p := fun z => by
      rw [z, h] at h1
      exact hn ps (Option.some.inj h1)
    refine ⟨ps, by rw [upd_ne n1]; exact h1, h2, fun pos cv hc => ?_⟩
    obtain ⟨c, e1, e2⟩ := h3 pos cv hc
    by_cases z : c = p
    · rw [z, h] at e2
      exact absurd (Option.some.inj e2) (hq t.2)
    · exact ⟨c, e1, by rw [upd_ne z]; exact e2⟩
  · by_cases e : a = p
    · subst e
      rcases q with (q | ⟨ob, q⟩) | (q | ⟨ob, q⟩) <;> rw [upd_same] at q <;> cases q <;> first | exact k | exact k.1 | exact k.elim
    · refine g.sz a xs ?_
      unfold Rd at q ⊢
      rw [upd_ne e] at q
      exact q
  · have hc' := g.cd c hc
    have n1 : c.1 ≠ p := fun z => by
      rw [z, h] at hc'
      exact hq c.2 (Option.some.inj hc')
    rw [upd_ne n1]
    exact hc'
end
end Dd
end
section
/-! Dd1: dicts by data; slots; the state; judgements. -/
namespace Dd
open PySem PySem.Spec PyProof.Rows L2

/-! ### a dict whose keys are tuples -/
def NdO (P : Program) (w : World) (a : Addr) (xs : List (NestedKey × Addr × Value)) : HO :=
  .ext fun h => ∃ o es ep, h.get? a = some o ∧ o.ExactDict ∧ o.data = .dict es ep ∧ es.toList = xs.map (entryOfKey (nestedKind P w))
structure NdR (K : PySem.W.Frag) (F : Hp) (x : NestedKey × Addr × Value) (q : NestedKey × PyData) : Prop where
  key : x.1 = q.1
  dep : x.1.depth ≤ 8
  dat : Dp K F (.ref x.2.1) x.1.data
  val : ∃ v, RelV v x.2.2 ∧ Dp K F v q.2
structure DkR (K : PySem.W.Frag) (F : Hp) (x : Key × V) (q : NestedKey × PyData) : Prop where
  key : ∃ i, x.1 = .inl i ∧ q.1 = .num i
  val : Dp K F x.2 q.2
/-- at a stands a dict of the keys and values kvs; t: its keys are tuples -/
def DctAt (P : Program) (w : World) (K : PySem.W.Frag) (F H : Hp) : Bool → Addr → List (NestedKey × PyData) → Prop
  | false, a, kvs => ∃ kv : List (Key × V), H a = some (.dK kv) ∧ Paired (DkR K F) kv kvs
  | true, a, kvs => ∃ xs : List (NestedKey × Addr × Value), H a = some (NdO P w a xs) ∧ (a == sysModules) = false ∧ xs.length ≤ sizeLine ∧ (xs.map (·.1)).Nodup ∧ Paired (NdR K F) xs kvs

inductive Sl where
  | un
  | dat (d : PyData)
  | val (v : V)
  | lst (w : Option Addr) (ds : List PyData)
  | dct (t : Bool) (kvs : List (NestedKey × PyData))
abbrev Ga := List Sl
/-- the world of a law's run: program, world, written part, tables -/
structure Wd where
  P : Program
  w : World
  K : PySem.W.Frag
  T : Tb
section
variable (W : Wd)
def Own (B : Bs) (F : Hp) (a : Addr) : Prop := F a = none ∧ (B.H0 a = none ∨ B.M a)
def SlOk (B : Bs) (F H : Hp) : Sl → Option V → Prop
  | .un, _ => True
  | .dat d, o => ∃ v, o = some v ∧ Dp W.K F v d
  | .val v, o => o = some v
  | .lst w ds, o => ∃ a xs, o = some (.ref a) ∧ Own B F a ∧ H a = some (.lst xs) ∧ DpAll W.K F xs ds ∧ ∀ b, w = some b → a = b
  | .dct t kvs, o => ∃ a, o = some (.ref a) ∧ Own B F a ∧ DctAt W.P W.w W.K F H t a kvs
def isOwn : Sl → Bool
  | .lst _ _ => true
  | .dct _ _ => true
  | _ => false
structure Ok (B : Bs) (Γ : Ga) (F : Hp) (σ : L2.St) (H : Hp) : Prop where
  nx : Nx W.T B.M B.F0 B.H0 F H
  len : σ.length = Γ.length
  sl : ∀ (i : Nat) (s : Sl), Γ[i]? = some s → ∃ o, σ[i]? = some o ∧ SlOk W B F H s o
  ds : ∀ (i j : Nat) (s t : Sl) (a : Addr), Γ[i]? = some s → Γ[j]? = some t → isOwn s = true → isOwn t = true → σ[i]? = some (some (.ref a)) → σ[j]? = some (some (.ref a)) → i = j
end
section
variable {W : Wd} {B : Bs} {Γ Γ' : Ga} {F H F' H' : Hp} {σ : L2.St} {M : Addr → Prop}
theorem paired_imp {α β : Type} {R S : α → β → Prop} (h : ∀ a b, R a b → S a b) : ∀ {l : List α} {m : List β}, Paired R l m → Paired S l m
  | _, _, .nil => .nil
  | _, _, .cons r t => .cons (h _ _ r) (paired_imp h t)
theorem DctAt.next {P : Program} {w : World} {K : PySem.W.Frag} {t : Bool} {a : Addr} {kvs : List (NestedKey × PyData)} (e : Same F F') (hh : ∀ o, H a = some o → NT o → H' a = some o) (h : DctAt P w K F H t a kvs) : DctAt P w K F' H' t a kvs := by
  cases t with
  | false =>
    obtain ⟨kv, h1, h2⟩ := h
    exact ⟨kv, hh _ h1 (fun ps z => by cases z), paired_imp (fun x q r => ⟨r.key, dp_same e r.val⟩) h2⟩
  | true =>
    obtain ⟨xs, h1, h2, h3, h4, h5⟩ := h
    refine ⟨xs, hh _ h1 (fun ps z => by unfold NdO at z; cases z), h2, h3, h4, paired_imp (fun x q r => ⟨r.key, r.dep, dp_same e r.dat, ?_⟩) h5⟩
    obtain ⟨v, r1, r2⟩ := r.val
    exact ⟨v, r1, dp_same e r2⟩
theorem DctAt.there {P : Program} {w : World} {K : PySem.W.Frag} {t : Bool} {a : Addr} {kvs : List (NestedKey × PyData)} (h : DctAt P w K F H t a kvs) : H a ≠ none := by
  cases t with
  | false =>
    obtain ⟨kv, h1, h2⟩ := h
    rw [h1]
    intro z
    cases z
  | true =>
    obtain ⟨xs, h1, h2⟩ := h
    rw [h1]
    intro z
    cases z
theorem Ok.gd (o : Ok W B Γ F σ H) : Gd W.T F H := o.nx.gd
/-- whatever changes nothing that stands keeps the state -/
theorem Ok.next (o : Ok W B Γ F σ H) (n : Nx W.T (fun _ => False) F H F' H') : Ok W B Γ F' σ H' := by
  refine ⟨o.nx.trans (n.mono fun _ z => z.elim), o.len, fun i s e => ?_, o.ds⟩
  obtain ⟨v, h1, h2⟩ := o.sl i s e
  refine ⟨v, h1, ?_⟩
  cases s with
  | un => trivial
  | dat d =>
    obtain ⟨u, e1, e2⟩ := h2
    exact ⟨u, e1, dp_same n.ff e2⟩
  | val u => exact h2
  | lst wa ds =>
    obtain ⟨a, xs, e1, ⟨e2, e3⟩, e4, e5, e6⟩ := h2
    exact ⟨a, xs, e1, ⟨n.out a (by rw [e4]; intro z; cases z) (fun z => z) e2, e3⟩, n.hh a _ e4 (fun z => z) (fun ps z => by cases z), dpa_same n.ff e5, e6⟩
  | dct t kvs =>
    obtain ⟨a, e1, ⟨e2, e3⟩, e4⟩ := h2
    exact ⟨a, e1, ⟨n.out a e4.there (fun z => z) e2, e3⟩, e4.next n.ff fun o q nt => n.hh a o q (fun z => z) nt⟩
/-- a slot set -/
theorem Ok.set {i : Nat} {s : Sl} {v : V} (o : Ok W B Γ F σ H) (h : SlOk W B F H s (some v))
    (hd : isOwn s = true → ∀ (j : Nat) (t : Sl) (a : Addr), v = .ref a → j ≠ i → Γ[j]? = some t → isOwn t = true → σ[j]? ≠ some (some (.ref a))) : Ok W B (Γ.set i s) F (σ.set i (some v)) H := by
  refine ⟨o.nx, by rw [List.length_set, List.length_set]; exact o.len, fun j t e => ?_, fun j k t u a e1 e2 o1 o2 s1 s2 => ?_⟩
  · by_cases q : i = j
    · subst q
      have hl : i < Γ.length := by
        have := (List.getElem?_eq_some_iff.mp e).1
        rw [List.length_set] at this
        exact this
      rw [List.getElem?_set_self hl] at e
      cases e
      exact ⟨some v, List.getElem?_set_self (by rw [o.len]; exact hl), h⟩
    · rw [List.getElem?_set_ne q] at e
      obtain ⟨w, h1, h2⟩ := o.sl j t e
      exact ⟨w, by rw [List.getElem?_set_ne q]; exact h1, h2⟩
  · have lt : ∀ {j : Nat} {t : Sl}, (Γ.set i s)[j]? = some t → i = j → t = s ∧ i < Γ.length := fun {j t} e q => by
      subst q
      have hl : i < Γ.length := by
        have := (List.getElem?_eq_some_iff.mp e).1
        rw [List.length_set] at this
        exact this
      rw [List.getElem?_set_self hl] at e
      exact ⟨(Option.some.inj e).symm, hl⟩
    by_cases q1 : i = j
    · by_cases q2 : i = k
      · exact q1.symm.trans q2
      · exfalso
        obtain ⟨et, hl⟩ := lt e1 q1
        subst q1
        subst et
        rw [List.getElem?_set_self (by rw [o.len]; exact hl)] at s1
        have ev : v = .ref a := Option.some.inj (Option.some.inj s1)
        rw [List.getElem?_set_ne q2] at e2 s2
        exact hd o1 k u a ev (fun z => q2 z.symm) e2 o2 s2
    · by_cases q2 : i = k
      · exfalso
        obtain ⟨et, hl⟩ := lt e2 q2
        subst q2
        subst et
        rw [List.getElem?_set_self (by rw [o.len]; exact hl)] at s2
        have ev : v = .ref a := Option.some.inj (Option.some.inj s2)
        rw [List.getElem?_set_ne q1] at e1 s1
        exact hd o2 j t a ev (fun z => q1 z.symm) e1 o1 s1
      · rw [List.getElem?_set_ne q1] at e1 s1
        rw [List.getElem?_set_ne q2] at e2 s2
        exact o.ds j k t u a e1 e2 o1 o2 s1 s2
theorem Ok.setDat {i : Nat} {d : PyData} {v : V} (o : Ok W B Γ F σ H) (h : Dp W.K F v d) : Ok W B (Γ.set i (.dat d)) F (σ.set i (some v)) H :=
  o.set ⟨v, rfl, h⟩ fun z => absurd (show false = true from z) Bool.false_ne_true
theorem Ok.setVal {i : Nat} {v : V} (o : Ok W B Γ F σ H) : Ok W B (Γ.set i (.val v)) F (σ.set i (some v)) H :=
  o.set rfl fun z => absurd (show false = true from z) Bool.false_ne_true
/-- the same state, another change base: what is held aside stays -/
theorem Ok.rebase (o : Ok W B Γ F σ H) : Ok W ⟨F, H, fun a => ∃ (i : Nat) (s : Sl), Γ[i]? = some s ∧ isOwn s = true ∧ σ[i]? = some (some (.ref a))⟩ Γ F σ H := by
  refine ⟨Nx.refl o.gd, o.len, fun i s e => ?_, o.ds⟩
  obtain ⟨v, h1, h2⟩ := o.sl i s e
  refine ⟨v, h1, ?_⟩
  cases s with
  | un => trivial
  | dat d => exact h2
  | val u => exact h2
  | lst wa ds =>
    obtain ⟨a, xs, e1, ⟨e2, e3⟩, e4, e5, e6⟩ := h2
    exact ⟨a, xs, e1, ⟨e2, .inr ⟨i, _, e, rfl, by rw [h1, e1]⟩⟩, e4, e5, e6⟩
  | dct t kvs =>
    obtain ⟨a, e1, ⟨e2, e3⟩, e4⟩ := h2
    exact ⟨a, e1, ⟨e2, .inr ⟨i, _, e, rfl, by rw [h1, e1]⟩⟩, e4⟩
theorem Ok.own (o : Ok W B Γ F σ H) {i : Nat} {s : Sl} {a : Addr} (e : Γ[i]? = some s) (ho : isOwn s = true) (hs : σ[i]? = some (some (.ref a))) : Own B F a ∧ H a ≠ none := by
  obtain ⟨v, h1, h2⟩ := o.sl i s e
  rw [hs] at h1
  cases h1
  cases s with
  | lst wa ds =>
    obtain ⟨b, xs, e1, e2, e4, e5⟩ := h2
    cases e1
    exact ⟨e2, by rw [e4]; intro z; cases z⟩
  | dct t kvs =>
    obtain ⟨b, e1, e2, e4⟩ := h2
    cases e1
    exact ⟨e2, e4.there⟩
  | _ => exact absurd (show false = true from ho) Bool.false_ne_true
/-- .. and back, behind steps that were told over the new base -/
theorem Ok.unbase (o : Ok W B Γ F σ H) (n : Ok W ⟨F, H, fun a => ∃ (i : Nat) (s : Sl), Γ[i]? = some s ∧ isOwn s = true ∧ σ[i]? = some (some (.ref a))⟩ Γ' F' σ H') : Ok W B Γ' F' σ H' := by
  have own : ∀ a, (∃ (i : Nat) (s : Sl), Γ[i]? = some s ∧ isOwn s = true ∧ σ[i]? = some (some (.ref a))) → Own B F a := fun a ⟨i, s, e1, e2, e3⟩ => (o.own e1 e2 e3).1
  refine ⟨⟨o.nx.ff.trans n.nx.ff, fun a u e m t => ?_, fun a h => n.nx.dm a (o.nx.dm a h), fun a h m e => ?_, n.nx.gd⟩, n.len, fun i s e => ?_, n.ds⟩
  · refine n.nx.hh a u (o.nx.hh a u e m t) (fun z => ?_) t
    rcases (own a z).2 with q | q
    · rw [show B.H0 a = some u from e] at q
      cases q
    · exact m q
  · refine n.nx.out a (o.nx.dm a h) (fun z => ?_) (o.nx.out a h m e)
    rcases (own a z).2 with q | q
    · exact h q
    · exact m q
  · obtain ⟨v, h1, h2⟩ := n.sl i s e
    refine ⟨v, h1, ?_⟩
    have back : ∀ a, Own ⟨F, H, fun a => ∃ (i : Nat) (s : Sl), Γ[i]? = some s ∧ isOwn s = true ∧ σ[i]? = some (some (.ref a))⟩ F' a → Own B F' a := fun a ⟨z1, z2⟩ => by
      refine ⟨z1, ?_⟩
      rcases z2 with z2 | z2
      · refine .inl ?_
        cases q : B.H0 a with
        | none => rfl
        | some u => exact absurd (show H a = none from z2) (o.nx.dm a (by rw [q]; intro z; cases z))
      · exact (own a z2).2
    cases s with
    | un => trivial
    | dat d => exact h2
    | val u => exact h2
    | lst wa ds =>
      obtain ⟨a, xs, e1, e2, e4⟩ := h2
      exact ⟨a, xs, e1, back a e2, e4⟩
    | dct t kvs =>
      obtain ⟨a, e1, e2, e4⟩ := h2
      exact ⟨a, e1, back a e2, e4⟩
end

/-! ### judgements -/
section
variable (W : Wd)
/-- an expression's reading by data -/
def tD (B : Bs) (Γ Γ' : Ga) (d : PyData) : TE := fun σ H Q => ∃ F, Ok W B Γ F σ H ∧ ∀ F' H' v, Ok W B Γ' F' σ H' → Same F F' → Dp W.K F' v d → Q v H'
def tDT (B : Bs) (Γ Γ' : Ga) (b : Bool) : TT := fun σ H Q => ∃ F, Ok W B Γ F σ H ∧ ∀ F' H', Ok W B Γ' F' σ H' → Same F F' → Q b H'
def tDA (B : Bs) (Γ Γ' : Ga) (ds : List PyData) : TA := fun σ H Q => ∃ F, Ok W B Γ F σ H ∧ ∀ F' H' vs, Ok W B Γ' F' σ H' → Same F F' → DpAll W.K F' vs ds → Q vs H'
inductive Out where
  | nx (Γ : Ga)
  | ret (Γ : Ga) (d : PyData)
def OutOk (B : Bs) (F : Hp) (D : Ends) : Out → Prop
  | .nx Γ' => ∀ F' σ' H', Ok W B Γ' F' σ' H' → Same F F' → D.nx σ' H'
  | .ret Γ' d => ∀ F' σ' H' v, Ok W B Γ' F' σ' H' → Same F F' → Dp W.K F' v d → D.rt v H'
def tDS (B : Bs) (Γ : Ga) (o : Out) : TS := fun D σ H => ∃ F, Ok W B Γ F σ H ∧ OutOk W B F D o
end
/-- the world that X runs in -/
abbrev wd (T : Tb) (X : Cx) : Wd := ⟨X.prog, X.w, X.K, T⟩
def DE (T : Tb) (X : Cx) (Γ : Ga) (e : Expr) (Γ' : Ga) (d : PyData) : Prop := ∀ B, PE X e (tD (wd T X) B Γ Γ' d)
def DT (T : Tb) (X : Cx) (Γ : Ga) (e : Expr) (Γ' : Ga) (b : Bool) : Prop := ∀ B, PT X e (tDT (wd T X) B Γ Γ' b)
def DW (T : Tb) (X : Cx) (Γ : Ga) (e : Expr) (Γ' : Ga) (b : Bool) : Prop := ∀ B, PW X e (tDT (wd T X) B Γ Γ' b)
def DA (T : Tb) (X : Cx) (Γ : Ga) (es : List Expr) (Γ' : Ga) (ds : List PyData) : Prop := ∀ B, PA X es (tDA (wd T X) B Γ Γ' ds)
def DS (T : Tb) (X : Cx) (Γ : Ga) (st : Stmt) (o : Out) : Prop := ∀ B, PS X st (tDS (wd T X) B Γ o)
def DSs (T : Tb) (X : Cx) (Γ : Ga) (sts : List Stmt) (o : Out) : Prop := ∀ B, PSs X sts (tDS (wd T X) B Γ o)
section
variable {X : Cx}
theorem pe_imp {e : Expr} {t u : TE} (h : PE X e t) (k : ∀ σ H Q, u σ H Q → t σ H Q) : PE X e u := ⟨fun pins s σ H Q I q => h.run pins s σ H Q I (k _ _ _ q)⟩
theorem pt_imp {e : Expr} {t u : TT} (h : PT X e t) (k : ∀ σ H Q, u σ H Q → t σ H Q) : PT X e u := ⟨fun pins s σ H Q I q => h.run pins s σ H Q I (k _ _ _ q)⟩
theorem pw_imp {e : Expr} {t u : TT} (h : PW X e t) (k : ∀ σ H Q, u σ H Q → t σ H Q) : PW X e u := ⟨fun wh pins s σ H Q I q => h.run wh pins s σ H Q I (k _ _ _ q)⟩
theorem pa_imp {es : List Expr} {t u : TA} (h : PA X es t) (k : ∀ σ H Q, u σ H Q → t σ H Q) : PA X es u := ⟨fun pos pins s σ H Q I q => h.run pos pins s σ H Q I (k _ _ _ q)⟩
theorem ps_imp {e : Stmt} {t u : TS} (h : PS X e t) (k : ∀ D σ H, u D σ H → t D σ H) : PS X e u := ⟨fun pins s σ H D I q => h.run pins s σ H D I (k _ _ _ q)⟩
theorem pss_imp {e : List Stmt} {t u : TS} (h : PSs X e t) (k : ∀ D σ H, u D σ H → t D σ H) : PSs X e u := ⟨fun pins s σ H D I q => h.run pins s σ H D I (k _ _ _ q)⟩
theorem pg_imp {e : Expr} {t u : TG} (h : PG X e t) (k : ∀ v σ H Q, u v σ H Q → t v σ H Q) : PG X e u := ⟨fun pins s σ H v x Q I r q => h.run pins s σ H v x Q I r (k _ _ _ _ q)⟩
end
end Dd
end
section
/-! Dd2: rules of expressions by data. -/
namespace Dd
open PySem PySem.Spec PyProof.Rows L2
abbrev NoM : Addr → Prop := fun _ => False
section
variable {T : Tb} {X : Cx} {Γ Γ1 Γ2 Γ3 : Ga} {e a b c : Expr} {es rest : List Expr} {d d1 d2 d3 : PyData} {ds : List PyData} {pos p p1 p2 : Pos} {k : Bool}

/-! ### names, constants -/
theorem de_name (i : Nat) {x : Str} (hN : X.N[i]? = some x := by rfl) (h : Γ[i]? = some (.dat d) := by rfl) (hv : Vis X.env.scope x := by first | exact Or.inl rfl | exact Or.inr (Or.inl rfl) | exact Or.inr (Or.inr rfl)) (hd : (x == ("__debug__" : Str)) = false := by decide)
    (hcd : (x == ("__classdict__" : Str)) = false := by decide) : DE T X Γ (.Name x pos) Γ d := fun B => pe_imp (pe_var hN hv hd hcd) fun σ H Q ⟨F, o, k⟩ => by
  obtain ⟨w, h1, v, h2, h3⟩ := o.sl i _ h
  subst h2
  exact ⟨v, h1, k F H v o (Same.refl F) h3⟩
/-- a value that all hold to be d -/
def VD (K : PySem.W.Frag) (v : V) (d : PyData) : Prop := ∀ F, Dp K F v d
theorem de_const {v : V} (h : PE X e (tC v)) (hv : VD X.K v d) : DE T X Γ e Γ d := fun B => pe_imp h fun σ H Q ⟨F, o, k⟩ => k F H v o (Same.refl F) (hv F)
theorem de_int {i : Int} {j : Nat} : DE T X Γ (.Constant (.int i) j pos) Γ (.int i) := de_const pe_int fun F => .int i
theorem de_bool {i : Bool} {j : Nat} : DE T X Γ (.Constant (.bool i) j pos) Γ (.bool i) := de_const pe_bl fun F => .bl i
theorem de_none {j : Nat} : DE T X Γ (.Constant .none j pos) Γ .none := de_const pe_non fun F => .non
theorem de_str {x : Str} {j : Nat} : DE T X Γ (.Constant (.str x) j pos) Γ (.str x) := de_const pe_str fun F => .str x
theorem de_glob {x : Str} {v : V} {u : Value} (hm : X.mg x = some u) (r : RelV v u) (hv : VD X.K v d) (hg : Gl X x := by rfl) (hd : (x == ("__debug__" : Str)) = false := by decide) : DE T X Γ (.Name x pos) Γ d := de_const (pe_glob hg hm r hd) hv

/-! ### in a row -/
theorem da_nil : DA T X Γ [] Γ [] := fun B => pa_imp pa_nil fun σ H Q ⟨F, o, k⟩ => k F H [] o (Same.refl F) .nil
theorem da_cons (h : DE T X Γ e Γ1 d) (t : DA T X Γ1 es Γ2 ds) (hs : starEach (e :: es) X.env = (false, eval e X.env) :: starEach es X.env := by rfl) : DA T X Γ (e :: es) Γ2 (d :: ds) := fun B =>
  pa_imp (pa_cons (h B) (t B) hs) fun σ H Q ⟨F, o, k⟩ => ⟨F, o, fun F1 H1 v o1 s1 r1 => ⟨F1, o1, fun F2 H2 vs o2 s2 r2 => k F2 H2 (v :: vs) o2 (s1.trans s2) (.cons (dp_same s2 r1) r2)⟩⟩
/-- an operation on two values, by data -/
def RD (T : Tb) (K : PySem.W.Frag) (r : V → V → Hp → VK → Prop) (d1 d2 d : PyData) : Prop :=
  ∀ (F H : Hp) (v1 v2 : V) (Q : VK), Gd T F H → Dp K F v1 d1 → Dp K F v2 d2 → (∀ F' H' v, Nx T NoM F H F' H' → Dp K F' v d → Q v H') → r v1 v2 H Q
theorem tOp_rd {r : R2} (B : Bs) (hr : RD T X.K r d1 d2 d) {σ : L2.St} {H : Hp} {Q : VK} (h : tD (wd T X) B Γ Γ2 d σ H Q) : tOp r (tD (wd T X) B Γ Γ1 d1) (tD (wd T X) B Γ1 Γ2 d2) σ H Q := by
  obtain ⟨F, o, k⟩ := h
  exact ⟨F, o, fun F1 H1 v1 o1 s1 r1 => ⟨F1, o1, fun F2 H2 v2 o2 s2 r2 => hr F2 H2 v1 v2 Q o2.gd (dp_same s2 r1) r2 fun F' H' v n q => k F' H' v (o2.next n) ((s1.trans s2).trans n.ff) q⟩⟩
theorem de_op {op : Operator} {r : R2} (ho : OpR X (binaryOp op) r) (ha : DE T X Γ a Γ1 d1) (hb : DE T X Γ1 b Γ2 d2) (hr : RD T X.K r d1 d2 d) : DE T X Γ (.BinOp a op b pos) Γ2 d := fun B =>
  pe_imp (pe_op ho (ha B) (hb B)) fun σ H Q h => tOp_rd B hr h
theorem de_cmp {op : CmpOp} {r : R2} (ho : OpR X (compareOp op) r) (hm : behindInMarks op b = false) (ha : DE T X Γ a Γ1 d1) (hb : DE T X Γ1 b Γ2 d2) (hr : RD T X.K r d1 d2 d) : DE T X Γ (.Compare a [op] [b] pos) Γ2 d := fun B =>
  pe_imp (pe_cmpR ho (ha B) (hb B) hm) fun σ H Q h => tOp_rd B hr h
theorem dt_cmp {op : CmpOp} {r : R2} (ho : OpR X (compareOp op) r) (hm : behindInMarks op b = false) (ha : DE T X Γ a Γ1 d1) (hb : DE T X Γ1 b Γ2 d2) (hr : RD T X.K r d1 d2 (.bool k)) : DT T X Γ (.Compare a [op] [b] pos) Γ2 k := fun B =>
  pt_imp (pt_cmpR ho (ha B) (hb B) hm) fun σ H Q ⟨F, o, q⟩ => tOp_rd B hr ⟨F, o, fun F' H' v o' s' r' => by
    cases r'
    exact ⟨k, rfl, q F' H' o' s'⟩⟩
theorem de_ix {r : R2} (hi : IxR X r) (ha : DE T X Γ a Γ1 d1) (hb : DE T X Γ1 b Γ2 d2) (hr : RD T X.K r d1 d2 d) (hs : PlainIx b := by exact fun _ _ => rfl) : DE T X Γ (.Subscript a b pos) Γ2 d := fun B =>
  pe_imp (pe_ix hi (ha B) (hb B) hs) fun σ H Q h => tOp_rd B hr h
/-- a chain of two comparisons -/
theorem tChain_rd {r r' : R2} {k1 : Bool} (B : Bs) (hr : RD T X.K r d1 d2 (.bool k1)) (hr' : k1 = true → RD T X.K r' d2 d3 (.bool k)) (hk : k1 = false → k = false) (h3 : Γ3 = Γ2 ∨ k1 = true) {σ : L2.St} {H : Hp} {Q : VK}
    (h : tD (wd T X) B Γ Γ3 (.bool k) σ H Q) : tChain r r' (tD (wd T X) B Γ Γ1 d1) (tD (wd T X) B Γ1 Γ2 d2) (tD (wd T X) B Γ2 Γ3 d3) σ H Q := by
  obtain ⟨F, o, q⟩ := h
  refine ⟨F, o, fun F1 H1 v1 o1 s1 r1 => ⟨F1, o1, fun F2 H2 v2 o2 s2 r2 => hr F2 H2 v1 v2 _ o2.gd (dp_same s2 r1) r2 fun F' H' v n z => ?_⟩⟩
  cases z
  refine ⟨k1, rfl, ?_⟩
  have o3 := o2.next n
  cases k1 with
  | true =>
    refine iteT ⟨F', o3, fun F4 H4 v4 o4 s4 r4 => hr' rfl F4 H4 v2 v4 Q o4.gd (dp_same (n.ff.trans s4) r2) r4 fun F5 H5 v5 n5 z5 => q F5 H5 v5 (o4.next n5) ((((s1.trans s2).trans n.ff).trans s4).trans n5.ff) z5⟩
  | false =>
    have e := hk rfl
    subst e
    rcases h3 with h3 | h3
    · subst h3
      exact iteF (q F' H' _ o3 ((s1.trans s2).trans n.ff) (.bl false))
    · cases h3
theorem de_chain {op op' : CmpOp} {r r' : R2} {k1 : Bool} (ho : OpR X (compareOp op) r) (ho' : OpR X (compareOp op') r') (ha : DE T X Γ a Γ d1) (hb : DE T X Γ b Γ d2) (hc : DE T X Γ c Γ d3)
    (hr : RD T X.K r d1 d2 (.bool k1)) (hr' : k1 = true → RD T X.K r' d2 d3 (.bool k)) (hk : k1 = false → k = false) (hm : lastMarks [op, op'] [b, c] = false := by rfl) : DE T X Γ (.Compare a [op, op'] [b, c] pos) Γ (.bool k) := fun B =>
  pe_imp (pe_chain ho ho' (ha B) (hb B) (hc B) hm) fun σ H Q h => tChain_rd B hr hr' hk (.inl rfl) h
theorem dt_chain {op op' : CmpOp} {r r' : R2} {k1 : Bool} (ho : OpR X (compareOp op) r) (ho' : OpR X (compareOp op') r') (ha : DE T X Γ a Γ d1) (hb : DE T X Γ b Γ d2) (hc : DE T X Γ c Γ d3)
    (hr : RD T X.K r d1 d2 (.bool k1)) (hr' : k1 = true → RD T X.K r' d2 d3 (.bool k)) (hk : k1 = false → k = false) (hm : lastMarks [op, op'] [b, c] = false := by rfl) : DT T X Γ (.Compare a [op, op'] [b, c] pos) Γ k := fun B =>
  pt_imp (pt_chain ho ho' (ha B) (hb B) (hc B) hm) fun σ H Q ⟨F, o, q⟩ => tChain_rd B hr hr' hk (.inl rfl) ⟨F, o, fun F' H' v o' s' r' => by
    cases r'
    exact ⟨k, rfl, q F' H' o' s'⟩⟩

/-! ### tests, and, or, not -/
theorem dt_val (h : DE T X Γ e Γ1 (.bool k)) (he : ∀ whole, isTrue e X.env whole = (do let v ← whole; standAt e.pos; holding [v] (truthy v)) := by intro _; rfl) : DT T X Γ e Γ1 k := fun B =>
  pt_imp (pt_val (h B) he) fun σ H Q ⟨F, o, q⟩ => ⟨F, o, fun F' H' v o' s' r' => by
    cases r'
    exact ⟨k, rfl, q F' H' o' s'⟩⟩
theorem dt_w (h : DW T X Γ e Γ1 k) : DT T X Γ e Γ1 k := fun B => (h B).pt
theorem dt_not (h : DT T X Γ a Γ1 k) : DT T X Γ (.UnaryOp .Not a pos) Γ1 (!k) := fun B => pt_imp (pt_not (h B)) fun σ H Q ⟨F, o, q⟩ => ⟨F, o, fun F' H' o' s' => q F' H' o' s'⟩
theorem de_not (h : DE T X Γ a Γ1 (.bool k)) : DE T X Γ (.UnaryOp .Not a pos) Γ1 (.bool (!k)) := fun B => pe_imp (pe_not (h B)) fun σ H Q ⟨F, o, q⟩ => ⟨F, o, fun F' H' v o' s' r' => by
  cases r'
  exact ⟨k, rfl, q F' H' _ o' s' (.bl _)⟩⟩
theorem dw_and1 (h : DT T X Γ a Γ1 k) : DW T X Γ (.BoolOp .And [a] pos) Γ1 k := fun B => pw_and1 (h B)
theorem dw_or1 (h : DT T X Γ a Γ1 k) : DW T X Γ (.BoolOp .Or [a] pos) Γ1 k := fun B => pw_or1 (h B)
theorem pw_false {X : Cx} {e : Expr} : PW X e (fun _ _ _ => False) := ⟨fun _ _ _ _ _ _ _ h => h.elim⟩
theorem pe_false {X : Cx} {e : Expr} : PE X e (fun _ _ _ => False) := ⟨fun _ _ _ _ _ _ h => h.elim⟩
/-- a and ..: the first is true -/
theorem dw_andT (h : DT T X Γ a Γ1 true) (t : DW T X Γ1 (.BoolOp .And (b :: rest) pos) Γ2 k) : DW T X Γ (.BoolOp .And (a :: b :: rest) pos) Γ2 k := fun B =>
  pw_imp (pw_and (h B) (t B)) fun σ H Q ⟨F, o, q⟩ => ⟨F, o, fun F' H' o' s' => iteT ⟨F', o', fun F2 H2 o2 s2 => q F2 H2 o2 (s'.trans s2)⟩⟩
theorem dw_andF (h : DT T X Γ a Γ1 false) : DW T X Γ (.BoolOp .And (a :: b :: rest) pos) Γ1 false := fun B =>
  pw_imp (pw_and (h B) pw_false) fun σ H Q ⟨F, o, q⟩ => ⟨F, o, fun F' H' o' s' => iteF (q F' H' o' s')⟩
theorem dw_orF (h : DT T X Γ a Γ1 false) (t : DW T X Γ1 (.BoolOp .Or (b :: rest) pos) Γ2 k) : DW T X Γ (.BoolOp .Or (a :: b :: rest) pos) Γ2 k := fun B =>
  pw_imp (pw_or (h B) (t B)) fun σ H Q ⟨F, o, q⟩ => ⟨F, o, fun F' H' o' s' => iteF ⟨F', o', fun F2 H2 o2 s2 => q F2 H2 o2 (s'.trans s2)⟩⟩
theorem dw_orT (h : DT T X Γ a Γ1 true) : DW T X Γ (.BoolOp .Or (a :: b :: rest) pos) Γ1 true := fun B =>
  pw_imp (pw_or (h B) pw_false) fun σ H Q ⟨F, o, q⟩ => ⟨F, o, fun F' H' o' s' => iteT (q F' H' o' s')⟩
theorem de_one {op} (h : DE T X Γ a Γ1 d) : DE T X Γ (.BoolOp op [a] pos) Γ1 d := fun B => pe_one (h B)
theorem de_andT (h : DE T X Γ a Γ1 (.bool true)) (t : DE T X Γ1 (.BoolOp .And (b :: rest) pos) Γ2 d) : DE T X Γ (.BoolOp .And (a :: b :: rest) pos) Γ2 d := fun B =>
  pe_imp (pe_and (h B) (t B)) fun σ H Q ⟨F, o, q⟩ => ⟨F, o, fun F' H' v o' s' r' => by
    cases r'
    exact ⟨true, rfl, iteT ⟨F', o', fun F2 H2 v2 o2 s2 r2 => q F2 H2 v2 o2 (s'.trans s2) r2⟩⟩⟩
theorem de_andF (h : DE T X Γ a Γ1 (.bool false)) : DE T X Γ (.BoolOp .And (a :: b :: rest) pos) Γ1 (.bool false) := fun B =>
  pe_imp (pe_and (h B) pe_false) fun σ H Q ⟨F, o, q⟩ => ⟨F, o, fun F' H' v o' s' r' => by
    cases r'
    exact ⟨false, rfl, iteF (q F' H' _ o' s' (.bl false))⟩⟩
theorem de_orF (h : DE T X Γ a Γ1 (.bool false)) (t : DE T X Γ1 (.BoolOp .Or (b :: rest) pos) Γ2 d) : DE T X Γ (.BoolOp .Or (a :: b :: rest) pos) Γ2 d := fun B =>
  pe_imp (pe_or (h B) (t B)) fun σ H Q ⟨F, o, q⟩ => ⟨F, o, fun F' H' v o' s' r' => by
    cases r'
    exact ⟨false, rfl, iteF ⟨F', o', fun F2 H2 v2 o2 s2 r2 => q F2 H2 v2 o2 (s'.trans s2) r2⟩⟩⟩
theorem de_orT (h : DE T X Γ a Γ1 (.bool true)) : DE T X Γ (.BoolOp .Or (a :: b :: rest) pos) Γ1 (.bool true) := fun B =>
  pe_imp (pe_or (h B) pe_false) fun σ H Q ⟨F, o, q⟩ => ⟨F, o, fun F' H' v o' s' r' => by
    cases r'
    exact ⟨true, rfl, iteT (q F' H' _ o' s' (.bl true))⟩⟩
theorem de_ifT (hc : DT T X Γ c Γ1 k) (hk : k = true) (ha : DE T X Γ1 a Γ2 d) : DE T X Γ (.IfExp c a b pos) Γ2 d := fun B =>
  pe_imp (pe_ifExp (hc B) (ha B) pe_false) fun σ H Q ⟨F, o, q⟩ => ⟨F, o, fun F' H' o' s' => by
    subst hk
    exact iteT ⟨F', o', fun F2 H2 v2 o2 s2 r2 => q F2 H2 v2 o2 (s'.trans s2) r2⟩⟩
theorem de_ifF (hc : DT T X Γ c Γ1 k) (hk : k = false) (hb : DE T X Γ1 b Γ2 d) : DE T X Γ (.IfExp c a b pos) Γ2 d := fun B =>
  pe_imp (pe_ifExp (hc B) pe_false (hb B)) fun σ H Q ⟨F, o, q⟩ => ⟨F, o, fun F' H' o' s' => by
    subst hk
    exact iteF ⟨F', o', fun F2 H2 v2 o2 s2 r2 => q F2 H2 v2 o2 (s'.trans s2) r2⟩⟩
theorem de_is {d' : PyData} (h : DE T X Γ e Γ1 d) (he : d = d') : DE T X Γ e Γ1 d' := he ▸ h
theorem dt_is {k' : Bool} (h : DT T X Γ e Γ1 k) (he : k = k') : DT T X Γ e Γ1 k' := he ▸ h

/-! ### tuples, lists made -/
/-- a tuple, its object known -/
def tTupF (t : TA) : TE := fun σ H Q => t σ H fun xs H1 => xs.length ≤ sizeLine ∧ ∀ p o, H1 p = none → o.dict = none → Q (.ref p) (upd H1 p (.frz o (.tup xs)))
theorem pe_tupF {kk : Nat} {t : TA} (h : PA X es t) : PE X (.Tuple es kk pos) (tTupF t) :=
  ⟨fun pins s σ H Q I hq => wpAny_Tuple_spliced (thn (h.run pos pins s σ H _ I hq) fun us s1 ⟨xs, H1, I1, r, z, q⟩ => ⟨r.length ▸ z, ⟨.ref s1.heap.objs.size, _,
    I1.laid (o := .frz _ (.tup xs)) (t' := s1.toks) (fun _ _ e => Heap.get?_push_of_some _ e) (Nat.le_refl _) ⟨Heap.get?_push_size _ rfl, z, us, r, ⟨_, Heap.get?_push_size _ rfl, rfl, _, rfl⟩⟩, rfl, q _ _ (I1.hok.fresh (Nat.le_refl _)) rfl⟩⟩)⟩
theorem de_tup {kk : Nat} (h : DA T X Γ es Γ1 ds) (hl : ds.length ≤ 100000) : DE T X Γ (.Tuple es kk pos) Γ1 (.tuple ds) := fun B =>
  pe_imp (pe_tupF (h B)) fun σ H Q ⟨F, o, q⟩ => ⟨F, o, fun F' H' vs o' s' r' => by
    have hz : vs.length ≤ sizeLine := by
      rw [dpa_len r']
      exact Nat.le_trans hl (by decide)
    refine ⟨hz, fun p ob hp hd => ?_⟩
    have n : Nx T NoM F' H' (upd F' p (.frz ob (.tup vs))) (upd H' p (.frz ob (.tup vs))) := Nx.newF o'.gd hp ⟨hz, hd⟩
    exact q _ _ _ (o'.next n) (s'.trans n.ff) (dp_tupF upd_same (dpa_same n.ff r'))⟩
theorem de_lst (h : DA T X Γ es Γ1 ds) (hl : ds.length ≤ 100000) : DE T X Γ (.List es pos) Γ1 (.list ds) := fun B =>
  pe_imp (pe_lst (h B)) fun σ H Q ⟨F, o, q⟩ => ⟨F, o, fun F' H' vs o' s' r' => by
    have hz : vs.length ≤ sizeLine := by
      rw [dpa_len r']
      exact Nat.le_trans hl (by decide)
    refine ⟨hz, fun p hp => ?_⟩
    have n : Nx T NoM F' H' (upd F' p (.lst vs)) (upd H' p (.lst vs)) := Nx.newF o'.gd hp hz
    exact q _ _ _ (o'.next n) (s'.trans n.ff) (dp_lst upd_same (dpa_same n.ff r'))⟩

/-! ### a call by values -/
def RC (T : Tb) (K : PySem.W.Frag) (r : List V → Hp → VK → Prop) (ds : List PyData) (d : PyData) : Prop :=
  ∀ (F H : Hp) (vs : List V) (Q : VK), Gd T F H → DpAll K F vs ds → (∀ F' H' v, Nx T NoM F H F' H' → Dp K F' v d → Q v H') → r vs H Q
theorem tCB_rc {r : List V → Hp → VK → Prop} (B : Bs) (hr : RC T X.K r ds d) {σ : L2.St} {H : Hp} {Q : VK} (h : tD (wd T X) B Γ Γ1 d σ H Q) : tCB r (tDA (wd T X) B Γ Γ1 ds) σ H Q := by
  obtain ⟨F, o, k⟩ := h
  exact ⟨F, o, fun F1 H1 vs o1 s1 r1 => hr F1 H1 vs Q o1.gd r1 fun F' H' v n q => k F' H' v (o1.next n) (s1.trans n.ff) q⟩
theorem de_callB {id : String} {x : Str} {r : List V → Hp → VK → Prop} (hc : CallR X (.builtin id) r) (hm : X.mg x = none) (hv : bootBuiltins x = some (.builtin id)) (ha : DA T X Γ (e :: es) Γ1 ds) (hr : RC T X.K r ds d) (hg : Gl X x := by rfl)
    (hn : x ≠ "__name__" := by decide) (hdb : (x == ("__debug__" : Str)) = false := by decide) (he : starEach (e :: es) X.env = (false, eval e X.env) :: starEach es X.env := by rfl) (hpl : (backTo pos (starEach es X.env)).any (·.1) = false := by rfl) :
    DE T X Γ (.Call (.Name x p) (e :: es) [] pos) Γ1 d := fun B => pe_imp (pe_callB hc hg hm hv (ha B) hn hdb he hpl) fun σ H Q h => tCB_rc B hr h
theorem de_callTy {id : String} {x : Str} {r : List V → Hp → VK → Prop} (hc : CallR X (.type id) r) (hm : X.mg x = none) (hv : bootBuiltins x = some (.type id)) (ha : DA T X Γ (e :: es) Γ1 ds) (hr : RC T X.K r ds d) (hg : Gl X x := by rfl)
    (hn : x ≠ "__name__" := by decide) (hdb : (x == ("__debug__" : Str)) = false := by decide) (he : starEach (e :: es) X.env = (false, eval e X.env) :: starEach es X.env := by rfl) (hpl : (backTo pos (starEach es X.env)).any (·.1) = false := by rfl) :
    DE T X Γ (.Call (.Name x p) (e :: es) [] pos) Γ1 d := fun B => pe_imp (pe_callTy hc hg hm hv (ha B) hn hdb he hpl) fun σ H Q h => tCB_rc B hr h
end
end Dd
end
section
/-! Dd3: what operations and built-ins are by data. -/
namespace Dd
open PySem PySem.Spec PyProof.Rows L2
section
variable {T : Tb} {K : PySem.W.Frag} {d d1 d2 : PyData} {ds : List PyData} {i j : Int} {F H : Hp}
theorem vd_int (i : Int) : VD K (.int i) (.int i) := fun _ => .int i
theorem vd_bl (b : Bool) : VD K (.bl b) (.bool b) := fun _ => .bl b
theorem vd_str (x : Str) : VD K (.str x) (.str x) := fun _ => .str x
theorem vd_non : VD K .non .none := fun _ => .non

theorem rd_I0 {g : Int → Int → V} (h : VD K (g i j) d) : RD T K (rI0 g) (.int i) (.int j) d := fun F H v1 v2 Q g r1 r2 q => by
  cases r1
  cases r2
  exact ⟨i, j, rfl, rfl, q F H _ (Nx.refl g) (h F)⟩
theorem rd_I {C : Int → Int → Prop} {g : Int → Int → V} (hc : C i j) (h : VD K (g i j) d) : RD T K (rI C g) (.int i) (.int j) d := fun F H v1 v2 Q g r1 r2 q => by
  cases r1
  cases r2
  exact ⟨i, j, rfl, rfl, hc, q F H _ (Nx.refl g) (h F)⟩

/-! ### equality -/
def flatD : PyData → Bool
  | .none => true
  | .bool _ => true
  | .int _ => true
  | .str _ => true
  | _ => false
def valD : PyData → V
  | .none => .non
  | .bool b => .bl b
  | .int i => .int i
  | .str x => .str x
  | _ => .non
theorem dp_flat {v : V} (h : Dp K F v d) (f : flatD d = true) : v = valD d := by
  cases h with
  | non => rfl
  | bl b => rfl
  | int i => rfl
  | str x => rfl
  | lst a b => exact absurd (show false = true from f) Bool.false_ne_true
  | tup a b => exact absurd (show false = true from f) Bool.false_ne_true
def scalD (a b : PyData) : Bool := flatD a && flatD b && scal (valD a) (valD b)
theorem scal_eqv (h : scalD d1 d2 = true) : decide (valD d1 = valD d2) = PyData.eqv d1 d2 := by
  unfold scalD at h
  rw [Bool.and_eq_true, Bool.and_eq_true] at h
  obtain ⟨⟨h1, h2⟩, h3⟩ := h
  cases d1 <;> cases d2 <;> simp only [flatD, valD, PyData.eqv] at h1 h2 h3 ⊢ <;> first
    | rfl
    | exact absurd h1 Bool.false_ne_true
    | exact absurd h2 Bool.false_ne_true
    | exact absurd h3 Bool.false_ne_true
    | exact dec_int
    | exact dec_bl
    | exact dec_str
    | (exact decide_eq_false (fun z => nomatch z))
theorem rd_eq (h : scalD d1 d2 = true) : RD T K rEq d1 d2 (.bool (PyData.eqv d1 d2)) := fun F H v1 v2 Q g r1 r2 q => by
  have h' := h
  unfold scalD at h'
  rw [Bool.and_eq_true, Bool.and_eq_true] at h'
  have e1 := dp_flat r1 h'.1.1
  have e2 := dp_flat r2 h'.1.2
  subst e1 e2
  refine ⟨h'.2, ?_⟩
  rw [scal_eqv h]
  exact q F H _ (Nx.refl g) (.bl _)
theorem rd_ne (h : scalD d1 d2 = true) : RD T K rNe d1 d2 (.bool (!PyData.eqv d1 d2)) := fun F H v1 v2 Q g r1 r2 q => by
  have h' := h
  unfold scalD at h'
  rw [Bool.and_eq_true, Bool.and_eq_true] at h'
  have e1 := dp_flat r1 h'.1.1
  have e2 := dp_flat r2 h'.1.2
  subst e1 e2
  refine ⟨h'.2, ?_⟩
  rw [scal_eqv h]
  exact q F H _ (Nx.refl g) (.bl _)
theorem rd_eqD (h1 : SeqAt.shaped d1 = true) (h2 : SeqAt.shaped d2 = true) : RD T K (rEqD K) d1 d2 (.bool (PyData.eqv d1 d2)) := fun F H v1 v2 Q g r1 r2 q =>
  ⟨d1, d2, dp_same g.fh r1, dp_same g.fh r2, h1, h2, q F H _ (Nx.refl g) (.bl _)⟩
theorem rd_neD (h1 : SeqAt.shaped d1 = true) (h2 : SeqAt.shaped d2 = true) : RD T K (rNeD K) d1 d2 (.bool (!PyData.eqv d1 d2)) := fun F H v1 v2 Q g r1 r2 q =>
  ⟨d1, d2, dp_same g.fh r1, dp_same g.fh r2, h1, h2, q F H _ (Nx.refl g) (.bl _)⟩
def isNoneD : PyData → Bool
  | .none => true
  | _ => false
theorem none_iff {v : V} (h : Dp K F v d) : decide (v = .non) = isNoneD d := by
  cases h <;> rfl
theorem rd_isN : RD T K (fun x y H Q => y = .non ∧ Q (.bl (decide (x = .non))) H) d .none (.bool (isNoneD d)) := fun F H v1 v2 Q g r1 r2 q => by
  cases r2
  refine ⟨rfl, ?_⟩
  rw [none_iff r1]
  exact q F H _ (Nx.refl g) (.bl _)
theorem rd_notN : RD T K (fun x y H Q => y = .non ∧ Q (.bl (!decide (x = .non))) H) d .none (.bool (!isNoneD d)) := fun F H v1 v2 Q g r1 r2 q => by
  cases r2
  refine ⟨rfl, ?_⟩
  rw [none_iff r1]
  exact q F H _ (Nx.refl g) (.bl _)

/-! ### in -/
def seqD : PyData → Option (List PyData)
  | .tuple ds => some ds
  | .list ds => some ds
  | _ => none
theorem dp_seq {v : V} (h : Dp K F v d) (e : seqD d = some ds) : ∃ a xs, v = .ref a ∧ (SqL K F a xs ∨ SqT K F a xs) ∧ DpAll K F xs ds := by
  cases h with
  | lst a b =>
    cases e
    exact ⟨_, _, rfl, .inl a, b⟩
  | tup a b =>
    cases e
    exact ⟨_, _, rfl, .inr a, b⟩
  | _ => cases e
def inD (d : PyData) (ds : List PyData) : Bool := ds.any fun y => PyData.eqv y d
theorem flat_eqV {v w : V} {d e : PyData} (h1 : Dp K F v d) (h2 : Dp K F w e) (f1 : flatD d = true) (f2 : flatD e = true) : eqV v w = PyData.eqv d e := by
  have e1 := dp_flat h1 f1
  have e2 := dp_flat h2 f2
  subst e1 e2
  cases d <;> cases e <;> simp only [flatD, valD, eqV, PyData.eqv] at f1 f2 ⊢ <;> first
    | rfl
    | exact absurd f1 Bool.false_ne_true
    | exact absurd f2 Bool.false_ne_true
theorem flat_flatV {v : V} (h : Dp K F v d) (f : flatD d = true) : flatV v = true := by
  have e := dp_flat h f
  subst e
  cases d <;> first
    | rfl
    | exact absurd (show false = true from f) Bool.false_ne_true
theorem inV_inD {x : V} : ∀ {xs : List V} {ds : List PyData}, DpAll K F xs ds → Dp K F x d → flatD d = true → ds.all flatD = true → inV x xs = inD d ds ∧ xs.all flatV = true
  | _, _, .nil, _, _, _ => ⟨rfl, rfl⟩
  | _, _, .cons (v := v) (vs := vs) (d := e) (ds := es) h t, hx, f, a => by
    rw [List.all_cons, Bool.and_eq_true] at a
    obtain ⟨i1, i2⟩ := inV_inD t hx f a.2
    refine ⟨?_, ?_⟩
    · show ((v :: vs).any fun y => eqV y x) = ((e :: es).any fun y => PyData.eqv y d)
      rw [List.any_cons, List.any_cons, flat_eqV h hx a.1 f]
      have i1' : (vs.any fun y => eqV y x) = (es.any fun y => PyData.eqv y d) := i1
      rw [i1']
    · rw [List.all_cons, flat_flatV h a.1, i2] <;> rfl
theorem rd_in (e : seqD d2 = some ds) (f : flatD d1 = true) (a : ds.all flatD = true) : RD T K (rIn K false) d1 d2 (.bool (inD d1 ds)) := fun F H v1 v2 Q g r1 r2 q => by
  obtain ⟨p, xs, rfl, s, t⟩ := dp_seq r2 e
  obtain ⟨i1, i2⟩ := inV_inD t r1 f a
  refine ⟨p, xs, rfl, s.imp (sql_same g.fh) (sqt_same g.fh), flat_flatV r1 f, i2, ?_⟩
  show Q (.bl (inV v1 xs)) H
  rw [i1]
  exact q F H _ (Nx.refl g) (.bl _)
theorem rd_notIn (e : seqD d2 = some ds) (f : flatD d1 = true) (a : ds.all flatD = true) : RD T K (rIn K true) d1 d2 (.bool (!inD d1 ds)) := fun F H v1 v2 Q g r1 r2 q => by
  obtain ⟨p, xs, rfl, s, t⟩ := dp_seq r2 e
  obtain ⟨i1, i2⟩ := inV_inD t r1 f a
  refine ⟨p, xs, rfl, s.imp (sql_same g.fh) (sqt_same g.fh), flat_flatV r1 f, i2, ?_⟩
  show Q (.bl (!inV v1 xs)) H
  rw [i1]
  exact q F H _ (Nx.refl g) (.bl _)

/-! ### subscripts -/
theorem dpa_at {xs : List V} (h : DpAll K F xs ds) {i : Int} (e : atI ds i = some d) : ∃ v, atI xs i = some v ∧ Dp K F v d := by
  unfold atI at e ⊢
  rw [dpa_len h]
  cases q : ixN ds.length i with
  | none =>
    rw [q] at e
    cases e
  | some j =>
    rw [q] at e
    exact dpa_get h e
theorem rd_ix (s : seqD d1 = some ds) (e : atI ds i = some d) : RD T K (rIx K) d1 (.int i) d := fun F H v1 v2 Q g r1 r2 q => by
  cases r2
  obtain ⟨p, xs, rfl, s, t⟩ := dp_seq r1 s
  obtain ⟨v, e1, e2⟩ := dpa_at t e
  rcases s with s | s
  · exact .inl ⟨p, xs, i, v, rfl, rfl, sql_same g.fh s, e1, q F H v (Nx.refl g) e2⟩
  · exact .inr (.inl ⟨p, xs, i, v, rfl, rfl, sqt_same g.fh s, e1, q F H v (Nx.refl g) e2⟩)

/-! ### built-ins -/
def lenD : PyData → Option Nat
  | .tuple ds => some ds.length
  | .list ds => some ds.length
  | _ => none
theorem rc_len {n : Nat} (e : lenD d = some n) : RC T K (fun xs H Q => ∃ x n, xs = [x] ∧ LenV K x H n ∧ Q (.int n) H) [d] (.int (n : Int)) := fun F H vs Q g r q => by
  cases r with
  | cons h t =>
    cases t
    refine ⟨_, n, rfl, ?_, q F H _ (Nx.refl g) (.int _)⟩
    cases h with
    | lst s t =>
      cases e
      exact .inl ⟨_, sql_same g.fh s, (dpa_len t).symm⟩
    | tup s t =>
      cases e
      exact .inr ⟨_, sqt_same g.fh s, (dpa_len t).symm⟩
    | _ => cases e
theorem rc_lenS {x : Str} (hz : x.length ≤ 100000) : RC T K (fun xs H Q => ∃ x n, xs = [x] ∧ LenV K x H n ∧ Q (.int n) H) [.str x] (.int (x.length : Int)) := fun F H vs Q g r q => by
  cases r with
  | cons h t =>
    cases t
    cases h
    exact ⟨_, x.length, rfl, ⟨Nat.le_trans hz (by decide), rfl⟩, q F H _ (Nx.refl g) (.int _)⟩
theorem rc_intB {k : Bool} : RC T K (fun xs H Q => (∃ i, xs = [.int i] ∧ Q (.int i) H) ∨ ∃ k, xs = [.bl k] ∧ Q (.int (if k then 1 else 0)) H) [.bool k] (.int (if k then 1 else 0)) := fun F H vs Q g r q => by
  cases r with
  | cons h t =>
    cases t
    cases h
    exact .inr ⟨k, rfl, q F H _ (Nx.refl g) (.int _)⟩
theorem rc_max : RC T K (fun xs H Q => ∃ i j, xs = [.int i, .int j] ∧ Q (.int (if j > i then j else i)) H) [.int i, .int j] (.int (if j > i then j else i)) := fun F H vs Q g r q => by
  cases r with
  | cons h t =>
    cases h
    cases t with
    | cons h t =>
      cases h
      cases t
      exact ⟨i, j, rfl, q F H _ (Nx.refl g) (.int _)⟩
theorem rc_min : RC T K (fun xs H Q => ∃ i j, xs = [.int i, .int j] ∧ Q (.int (if j < i then j else i)) H) [.int i, .int j] (.int (if j < i then j else i)) := fun F H vs Q g r q => by
  cases r with
  | cons h t =>
    cases h
    cases t with
    | cons h t =>
      cases h
      cases t
      exact ⟨i, j, rfl, q F H _ (Nx.refl g) (.int _)⟩
theorem dpa_bools : ∀ {bs : List Bool} {xs : List V}, DpAll K F xs (bs.map .bool) → xs = bs.map V.bl
  | [], _, .nil => rfl
  | _ :: _, _, .cons h t => by
    cases h
    rw [dpa_bools t] <;> rfl
theorem rc_all {bs : List Bool} : RC T K (rAll K) [.list (bs.map .bool)] (.bool (bs.all id)) := fun F H vs Q g r q => by
  cases r with
  | cons h t =>
    cases t
    cases h with
    | lst s t =>
      have e := dpa_bools t
      subst e
      exact ⟨_, bs, rfl, sql_same g.fh s, q F H _ (Nx.refl g) (.bl _)⟩
/-- the data of a tuple of the law's words -/
def thD : PyData → Bool
  | .str x => lw.contains x
  | _ => false
def thinD (ds : List PyData) : Bool := !ds.isEmpty && ds.all thD
theorem th_eq {v : V} (h : Dp K F v d) : thV v = thD d := by cases h <;> rfl
theorem all_eq {xs : List V} (h : DpAll K F xs ds) : xs.all thV = ds.all thD := by
  induction ds generalizing xs with
  | nil =>
    cases h
    rfl
  | cons d ds ih =>
    cases h with
    | cons a b => rw [List.all_cons, List.all_cons, th_eq a, ih b]
theorem thin_eq {xs : List V} (h : DpAll K F xs ds) : thin xs = thinD ds := by
  unfold thin thinD
  rw [all_eq h]
  cases h <;> rfl
theorem thin_head {d : PyData} {ds : List PyData} (h : thD d = false) : thinD (d :: ds) = false := by
  unfold thinD
  rw [List.all_cons, h, Bool.false_and, Bool.and_false]
/-- tuple(xs), its object known -/
def rTupF (K : PySem.W.Frag) : List V → Hp → VK → Prop := fun xs H Q => ∃ p ys, xs = [.ref p] ∧ ((SqL K H p ys ∧ ∀ l o, H l = none → o.dict = none → Q (.ref l) (upd H l (.frz o (.tup ys)))) ∨ (SqT K H p ys ∧ Q (.ref p) H))
theorem cr_tupF {X : Cx} : CallR X (.type "tuple") (rTupF X.K) := by
  intro pins s σ H xs us Q I r h
  obtain ⟨p, ys, rfl, h⟩ := h
  rcases h with ⟨hq, q⟩ | ⟨hq, q⟩
  · obtain ⟨u, rfl, rx⟩ := vals1 r
    cases rx
    obtain ⟨its, r', pl, hz⟩ := I.list hq
    have hlen := r'.length
    refine call_tuple_list pl.isList (fun h' kp => ?_) (by simp only [List.size_toArray] <;> omega)
    have I1 : Inv X pins σ H { s with heap := h' } := I.kept (t' := s.toks) kp
    exact ⟨.ref h'.objs.size, _, I1.laid (o := .frz _ (.tup ys)) (t' := s.toks) (fun _ _ e => Heap.get?_push_of_some _ e) (Nat.le_refl _) ⟨Heap.get?_push_size _ rfl, hz, its, r', ⟨_, Heap.get?_push_size _ rfl, rfl, _, rfl⟩⟩, rfl, q _ _ (I1.hok.fresh (Nat.le_refl _)) rfl⟩
  · exact call_tuple_of pins s σ H [.ref p] us Q I r ⟨p, ys, rfl, .inr ⟨hq, q⟩⟩
theorem rc_tuple (e : seqD d = some ds) : RC T K (rTupF K) [d] (.tuple ds) := fun F H vs Q g r q => by
  cases r with
  | cons h t =>
    cases t
    cases h with
    | lst s t =>
      cases e
      refine ⟨_, _, rfl, .inl ⟨sql_same g.fh s, fun l ob hl hd => ?_⟩⟩
      have n : Nx T NoM F H (upd F l (.frz ob (.tup _))) (upd H l (.frz ob (.tup _))) := Nx.newF g hl (show OkO (.frz ob (.tup _)) from ⟨g.sql s, hd⟩)
      exact q _ _ _ n (dp_tupF upd_same (dpa_same n.ff t))
    | tup s t =>
      cases e
      exact ⟨_, _, rfl, .inr ⟨sqt_same g.fh s, q F H _ (Nx.refl g) (.tup s t)⟩⟩
    | _ => cases e

/-! ### tuples joined -/
theorem dpa_nil_iff {xs : List V} (h : DpAll K F xs ds) : xs = [] ↔ ds = [] := by
  cases h with
  | nil => exact ⟨fun _ => rfl, fun _ => rfl⟩
  | cons a b => exact ⟨fun z => (by cases z), fun z => (by cases z)⟩
theorem rd_cat {es : List PyData} (hz : ds.length + es.length ≤ 100000) (ht : ds ≠ [] → es ≠ [] → thinD (ds ++ es) = false) : RD T K (rCatA K) (.tuple ds) (.tuple es) (.tuple (ds ++ es)) := fun F H v1 v2 Q g r1 r2 q => by
  cases r1 with
  | tup s1 t1 =>
    cases r2 with
    | tup s2 t2 =>
      rename_i a1 xs1 a2 xs2
      have hl := dpa_len t1
      have hl2 := dpa_len t2
      have hz' : xs1.length + xs2.length ≤ sizeLine := Nat.le_trans (by rw [hl, hl2]; exact hz) (show 100000 ≤ sizeLine by decide)
      refine ⟨_, _, _, _, rfl, rfl, sqt_same g.fh s1, sqt_same g.fh s2, hz', fun e => ?_, fun _ e => ?_, fun n1 n2 p hp => ?_⟩
      · have e' := (dpa_nil_iff t1).mp e
        subst e'
        exact q F H _ (Nx.refl g) (.tup s2 t2)
      · have e' := (dpa_nil_iff t2).mp e
        subst e'
        rw [List.append_nil] at q
        exact q F H _ (Nx.refl g) (.tup s1 t1)
      · have n : Nx T NoM F H (upd F p (.tup _)) (upd H p (.tup _)) := Nx.newF g hp (show OkO (.tup (xs1 ++ xs2)) from ⟨by
          rw [List.length_append]
          exact hz', (thin_eq (dpa_append t1 t2)).trans (ht (fun z => n1 ((dpa_nil_iff t1).mpr z)) fun z => n2 ((dpa_nil_iff t2).mpr z))⟩)
        exact q _ _ _ n (dp_tup upd_same (dpa_same n.ff (dpa_append t1 t2)))
end

/-! ### isinstance -/
def tyD : PyData → String
  | .none => "NoneType"
  | .bool _ => "bool"
  | .int _ => "int"
  | .str _ => "str"
  | .list _ => "list"
  | .tuple _ => "tuple"
  | .dict _ => "dict"
section
variable {T : Tb} {X : Cx} {Γ Γ1 : Ga} {a : Expr} {d : PyData} {pos p p2 : Pos}
theorem sql_ty {K : PySem.W.Frag} {H : Hp} {a : Addr} {xs : List V} (h : SqL K H a xs) : TyX K H (.ref a) (.type "list") := by
  rcases h with (h | ⟨o, h⟩) | ⟨o, its, n, hk, hc, _⟩
  · exact .base (.lst h)
  · exact .base (.frz h)
  · exact .kList hk hc
theorem sqt_ty {K : PySem.W.Frag} {H : Hp} {a : Addr} {xs : List V} (h : SqT K H a xs) : TyX K H (.ref a) (.type "tuple") := by
  rcases h with (h | ⟨o, h⟩) | ⟨o, its, n, hk, hc, _⟩
  · exact .base (.tup h)
  · exact .fTuple h
  · exact .kTuple hk hc
theorem dp_ty {K : PySem.W.Frag} {H : Hp} {v : V} (h : Dp K H v d) : TyX K H v (.type (tyD d)) := by
  cases h with
  | non => exact .base .non
  | bl b => exact .base (.bl b)
  | int i => exact .base (.int i)
  | str x => exact .base (.str x)
  | lst s t => exact sql_ty s
  | tup s t => exact sqt_ty s
/-- isinstance(a, t), t a built-in class by its name -/
theorem de_isi {t : Str} {n : String} {k : Bool} (hm : X.mg "isinstance" = none) (ht : X.mg t = none) (hv : bootBuiltins t = some (.type n)) (ha : DE T X Γ a Γ1 d) (hk : kitB (tyD d) n = some k)
    (hg : Gl X "isinstance" := by rfl) (hgt : Gl X t := by rfl) (hn : t ≠ "__name__" := by decide) (hd : (t == ("__debug__" : Str)) = false := by decide) (he : starEach [a, .Name t p2] X.env = (false, eval a X.env) :: starEach [.Name t p2] X.env := by rfl)
    (he2 : starEach [.Name t p2] X.env = (false, eval (.Name t p2) X.env) :: starEach [] X.env := by rfl)
    (hpl : (backTo pos (starEach [.Name t p2] X.env)).any (·.1) = false := by rfl) : DE T X Γ (.Call (.Name "isinstance" p) [a, .Name t p2] [] pos) Γ1 (.bool k) := fun B =>
  pe_imp (pe_callB call_isi hg hm (by decide +kernel) (pa_cons (ha B) (pa_cons (pe_bltn (v := .ty n) hgt ht hv rfl hn hd) pa_nil he2) he) (by decide) (by decide) he hpl) fun σ H Q ⟨F, o, q⟩ =>
    ⟨F, o, fun F' H' v o' s' r' => ⟨v, .ty n, .type (tyD d), .type n, k, rfl, .ty n, dp_ty (dp_same o'.gd.fh r'), kit_ty hk, q F' H' _ o' s' (.bl k)⟩⟩
theorem de_isi_tuple {k : Bool} (hm : X.mg "isinstance" = none) (ht : X.mg "tuple" = none) (ha : DE T X Γ a Γ1 d) (hk : kitB (tyD d) "tuple" = some k) (hg : Gl X "isinstance" := by rfl) (hgt : Gl X "tuple" := by rfl)
    (he : starEach [a, .Name "tuple" p2] X.env = (false, eval a X.env) :: starEach [.Name "tuple" p2] X.env := by rfl) (he2 : starEach [.Name "tuple" p2] X.env = (false, eval (.Name "tuple" p2) X.env) :: starEach [] X.env := by rfl)
    (hpl : (backTo pos (starEach [.Name "tuple" p2] X.env)).any (·.1) = false := by rfl) : DE T X Γ (.Call (.Name "isinstance" p) [a, .Name "tuple" p2] [] pos) Γ1 (.bool k) :=
  de_isi hm ht (by decide +kernel) ha hk hg hgt (by decide) (by decide) he he2 hpl
theorem de_isi_str {k : Bool} (hm : X.mg "isinstance" = none) (ht : X.mg "str" = none) (ha : DE T X Γ a Γ1 d) (hk : kitB (tyD d) "str" = some k) (hg : Gl X "isinstance" := by rfl) (hgt : Gl X "str" := by rfl)
    (he : starEach [a, .Name "str" p2] X.env = (false, eval a X.env) :: starEach [.Name "str" p2] X.env := by rfl) (he2 : starEach [.Name "str" p2] X.env = (false, eval (.Name "str" p2) X.env) :: starEach [] X.env := by rfl)
    (hpl : (backTo pos (starEach [.Name "str" p2] X.env)).any (·.1) = false := by rfl) : DE T X Γ (.Call (.Name "isinstance" p) [a, .Name "str" p2] [] pos) Γ1 (.bool k) :=
  de_isi hm ht (by decide +kernel) ha hk hg hgt (by decide) (by decide) he he2 hpl
theorem de_isi_int {k : Bool} (hm : X.mg "isinstance" = none) (ht : X.mg "int" = none) (ha : DE T X Γ a Γ1 d) (hk : kitB (tyD d) "int" = some k) (hg : Gl X "isinstance" := by rfl) (hgt : Gl X "int" := by rfl)
    (he : starEach [a, .Name "int" p2] X.env = (false, eval a X.env) :: starEach [.Name "int" p2] X.env := by rfl) (he2 : starEach [.Name "int" p2] X.env = (false, eval (.Name "int" p2) X.env) :: starEach [] X.env := by rfl)
    (hpl : (backTo pos (starEach [.Name "int" p2] X.env)).any (·.1) = false := by rfl) : DE T X Γ (.Call (.Name "isinstance" p) [a, .Name "int" p2] [] pos) Γ1 (.bool k) :=
  de_isi hm ht (by decide +kernel) ha hk hg hgt (by decide) (by decide) he he2 hpl
theorem de_isi_bool {k : Bool} (hm : X.mg "isinstance" = none) (ht : X.mg "bool" = none) (ha : DE T X Γ a Γ1 d) (hk : kitB (tyD d) "bool" = some k) (hg : Gl X "isinstance" := by rfl) (hgt : Gl X "bool" := by rfl)
    (he : starEach [a, .Name "bool" p2] X.env = (false, eval a X.env) :: starEach [.Name "bool" p2] X.env := by rfl) (he2 : starEach [.Name "bool" p2] X.env = (false, eval (.Name "bool" p2) X.env) :: starEach [] X.env := by rfl)
    (hpl : (backTo pos (starEach [.Name "bool" p2] X.env)).any (·.1) = false := by rfl) : DE T X Γ (.Call (.Name "isinstance" p) [a, .Name "bool" p2] [] pos) Γ1 (.bool k) :=
  de_isi hm ht (by decide +kernel) ha hk hg hgt (by decide) (by decide) he he2 hpl
theorem de_globS {x z : Str} {t : Tok} (hm : X.mg x = some (.str z t)) (hg : Gl X x := by rfl) (hd : (x == ("__debug__" : Str)) = false := by decide) : DE T X Γ (.Name x pos) Γ (.str z) := de_glob hm (show RelV (.str z) (.str z t) from ⟨t, rfl⟩) (vd_str z) hg hd
theorem de_globI {x : Str} {z : Int} {t : Tok} (hm : X.mg x = some (.int z t)) (hg : Gl X x := by rfl) (hd : (x == ("__debug__" : Str)) = false := by decide) : DE T X Γ (.Name x pos) Γ (.int z) := de_glob hm (show RelV (.int z) (.int z t) from ⟨t, rfl⟩) (vd_int z) hg hd
end
end Dd
end
section
/-! Dd4: calls of defs, statements, loops, by data. -/
namespace Dd
open PySem PySem.Spec PyProof.Rows L2

/-! ### owned cells -/
section
variable {W : Wd} {B : Bs} {Γ Γ' : Ga} {F H F' H' : Hp} {σ : L2.St}
theorem set_get {Γ : Ga} {i j : Nat} {s t : Sl} (e : (Γ.set i s)[j]? = some t) : (i = j ∧ t = s ∧ i < Γ.length) ∨ (i ≠ j ∧ Γ[j]? = some t) := by
  by_cases q : i = j
  · subst q
    have hl : i < Γ.length := by
      have := (List.getElem?_eq_some_iff.mp e).1
      rw [List.length_set] at this
      exact this
    rw [List.getElem?_set_self hl] at e
    exact .inl ⟨rfl, (Option.some.inj e).symm, hl⟩
  · rw [List.getElem?_set_ne q] at e
    exact .inr ⟨q, e⟩
/-- the cell that slot i owns has changed, all else stands -/
theorem Ok.cell {i : Nat} {s s' : Sl} {a : Addr} (o : Ok W B Γ F σ H) (e : Γ[i]? = some s) (ho : isOwn s = true) (hs : σ[i]? = some (some (.ref a))) (n : Nx W.T (fun b => b = a) F H F' H')
    (h : SlOk W B F' H' s' (some (.ref a))) : Ok W B (Γ.set i s') F' σ H' := by
  have own := o.own e ho hs
  have hb : B.H0 a = none ∨ B.M a := own.1.2
  refine ⟨⟨o.nx.ff.trans n.ff, fun b u q m t => ?_, fun b q => n.dm b (o.nx.dm b q), fun b q m r => ?_, n.gd⟩, by rw [List.length_set]; exact o.len, fun j t q => ?_, fun j k u v b q1 q2 o1 o2 s1 s2 => ?_⟩
  · refine n.hh b u (o.nx.hh b u q m t) (fun z => ?_) t
    subst z
    rcases hb with z | z
    · rw [z] at q
      cases q
    · exact m z
  · refine n.out b (o.nx.dm b q) (fun z => ?_) (o.nx.out b q m r)
    subst z
    rcases hb with z | z
    · exact q z
    · exact m z
  · rcases set_get q with ⟨rfl, rfl, hl⟩ | ⟨ne, q⟩
    · exact ⟨_, hs, h⟩
    · obtain ⟨w, h1, h2⟩ := o.sl j t q
      refine ⟨w, h1, ?_⟩
      have apart : isOwn t = true → ∀ b, σ[j]? = some (some (.ref b)) → b ≠ a := fun ot b sb z => by
        subst z
        exact ne (o.ds i j s t b e q ho ot hs sb)
      cases t with
      | un => trivial
      | dat d =>
        obtain ⟨u, e1, e2⟩ := h2
        exact ⟨u, e1, dp_same n.ff e2⟩
      | val u => exact h2
      | lst wa ds =>
        obtain ⟨b, xs, e1, ⟨e2, e3⟩, e4, e5, e6⟩ := h2
        have nb := apart rfl b (by rw [h1, e1])
        exact ⟨b, xs, e1, ⟨n.out b (by rw [e4]; intro z; cases z) nb e2, e3⟩, n.hh b _ e4 nb (fun ps z => by cases z), dpa_same n.ff e5, e6⟩
      | dct t kvs =>
        obtain ⟨b, e1, ⟨e2, e3⟩, e4⟩ := h2
        have nb := apart rfl b (by rw [h1, e1])
        exact ⟨b, e1, ⟨n.out b e4.there nb e2, e3⟩, e4.next n.ff fun ob q nt => n.hh b ob q nb nt⟩
  · have back : ∀ {j : Nat} {u : Sl}, (Γ.set i s')[j]? = some u → isOwn u = true → ∃ u', Γ[j]? = some u' ∧ isOwn u' = true := fun {j u} q ou => by
      rcases set_get q with ⟨rfl, rfl, hl⟩ | ⟨ne, q⟩
      · exact ⟨s, e, ho⟩
      · exact ⟨u, q, ou⟩
    obtain ⟨u', r1, r2⟩ := back q1 o1
    obtain ⟨v', r3, r4⟩ := back q2 o2
    exact o.ds j k u' v' b r1 r3 r2 r4 s1 s2
/-- a cell of one's own stands for good from now on -/
theorem Ok.freeze {D : Addr} {ob : HO} (o : Ok W B Γ F σ H) (hD : H D = some ob) (hl : ∃ ys, ob = .lst ys) (hn : NT ob) (hf : F D = none) (h0 : B.H0 D = none ∨ B.M D)
    (na : ∀ (j : Nat) (s : Sl), Γ[j]? = some s → isOwn s = true → σ[j]? ≠ some (some (.ref D))) : Ok W B Γ (upd F D ob) σ H := by
  have sf : Same F (upd F D ob) := same_new hf
  refine ⟨⟨o.nx.ff.trans sf, o.nx.hh, o.nx.dm, fun a h m e => ?_, ⟨fun b u e => ?_, fun a ps e => ?_, o.gd.tb, o.gd.sz, fun a xs q => ?_, fun a ox xs q t => ?_, o.gd.cd, W.T.mono _ _ sf o.gd.cp⟩⟩, o.len, fun i s e => ?_, o.ds⟩
  · have ne : a ≠ D := fun z => by
      subst z
      rcases h0 with h0 | h0
      · exact h h0
      · exact m h0
    rw [upd_ne ne]
    exact o.nx.out a h m e
  · by_cases q : b = D
    · subst q
      rw [upd_same] at e
      rw [← e]
      exact hD
    · rw [upd_ne q] at e
      exact o.gd.fh b u e
  · by_cases q : a = D
    · subst q
      rw [upd_same] at e
      exact hn ps (Option.some.inj e)
    · rw [upd_ne q] at e
      exact o.gd.nt a ps e
  · obtain ⟨ys, el⟩ := hl
    by_cases e : a = D
    · rw [e, upd_same, el] at q
      cases q
    · rw [upd_ne e] at q
      exact o.gd.th a xs q
  · obtain ⟨ys, el⟩ := hl
    by_cases e : a = D
    · rw [e, upd_same, el] at q
      cases q
    · rw [upd_ne e] at q
      exact o.gd.fz a ox xs q t
  · obtain ⟨v, h1, h2⟩ := o.sl i s e
    refine ⟨v, h1, ?_⟩
    cases s with
    | un => trivial
    | dat d =>
      obtain ⟨u, e1, e2⟩ := h2
      exact ⟨u, e1, dp_same sf e2⟩
    | val u => exact h2
    | lst wa ds =>
      obtain ⟨a, xs, e1, ⟨e2, e3⟩, e4, e5, e6⟩ := h2
      have ne : a ≠ D := fun z => na i _ e rfl (by rw [h1, e1, z])
      exact ⟨a, xs, e1, ⟨by rw [upd_ne ne]; exact e2, e3⟩, e4, dpa_same sf e5, e6⟩
    | dct t kvs =>
      obtain ⟨a, e1, ⟨e2, e3⟩, e4⟩ := h2
      have ne : a ≠ D := fun z => na i _ e rfl (by rw [h1, e1, z])
      exact ⟨a, e1, ⟨by rw [upd_ne ne]; exact e2, e3⟩, e4.next sf fun _ q _ => q⟩
/-- .. the list that slot i owns is data from now on -/
theorem Ok.thaw {i : Nat} {wa : Option Addr} {ds : List PyData} (o : Ok W B Γ F σ H) (e : Γ[i]? = some (.lst wa ds)) :
    ∃ F', Same F F' ∧ Ok W B (Γ.set i (.dat (.list ds))) F' σ H := by
  obtain ⟨v, h1, a, xs, e1, ⟨e2, e3⟩, e4, e5, e6⟩ := o.sl i _ e
  subst e1
  -- the slot forgotten first
  have o1 : Ok W B (Γ.set i .un) F σ H := by
    refine ⟨o.nx, by rw [List.length_set]; exact o.len, fun j t q => ?_, fun j k u w b q1 q2 p1 p2 s1 s2 => ?_⟩
    · rcases set_get q with ⟨rfl, rfl, hl⟩ | ⟨ne, q⟩
      · exact ⟨_, h1, trivial⟩
      · exact o.sl j t q
    · rcases set_get q1 with ⟨rfl, rfl, hl⟩ | ⟨ne, q1⟩
      · cases p1
      · rcases set_get q2 with ⟨rfl, rfl, hl⟩ | ⟨ne2, q2⟩
        · cases p2
        · exact o.ds j k u w b q1 q2 p1 p2 s1 s2
  have na : ∀ (j : Nat) (s : Sl), (Γ.set i .un)[j]? = some s → isOwn s = true → σ[j]? ≠ some (some (.ref a)) := fun j s q os sb => by
    rcases set_get q with ⟨rfl, rfl, hl⟩ | ⟨ne, q⟩
    · cases os
    · exact ne (o.ds i j _ s a e q rfl os h1 sb)
  have o2 := o1.freeze e4 ⟨_, rfl⟩ (fun ps z => by cases z) e2 e3 na
  refine ⟨upd F a (.lst xs), same_new e2, ?_⟩
  have o3 := o2.setDat (i := i) (d := .list ds) (v := .ref a) (dp_lst upd_same (dpa_same (same_new e2) e5))
  rw [List.set_set] at o3
  have es : σ.set i (some (.ref a)) = σ := by
    refine List.ext_getElem? fun j => ?_
    by_cases q : i = j
    · subst q
      rw [List.getElem?_set_self (List.getElem?_eq_some_iff.mp h1).1, h1]
    · rw [List.getElem?_set_ne q]
  rw [es] at o3
  exact o3
end

/-! ### promises by data -/
abbrev Rl := List PyData → PyData → Prop
def SpD (T : Tb) (K : PySem.W.Frag) (R : Rl) : Sp := fun vs H Q _ => ∃ F ds d, Gd T F H ∧ DpAll K F vs ds ∧ R ds d ∧ ∀ F' H' v, Nx T NoM F H F' H' → Dp K F' v d → Q v H'
/-- the first argument is a list that is changed -/
abbrev Rm := List PyData → List PyData → List PyData → PyData → Prop
def SpM (T : Tb) (K : PySem.W.Frag) (R : Rm) : Sp := fun vs H Q _ => ∃ F a xs us st ds st' d, vs = .ref a :: us ∧ Gd T F H ∧ F a = none ∧ H a = some (.lst xs) ∧ DpAll K F xs st ∧ DpAll K F us ds ∧ R st ds st' d ∧
  ∀ F' H' v xs', Nx T (fun b => b = a) F H F' H' → F' a = none → H' a = some (.lst xs') → DpAll K F' xs' st' → Dp K F' v d → Q v H'
/-- a def of the text that keeps its promise -/
def Cal (P : Program) (w : World) (K : PySem.W.Frag) (mg : Str → Option Value) (base : Heap) (k : Nat) (x : Str) (sp : Sp) : Prop :=
  ∃ f fd ps, mg x = some (.ref f) ∧ PySem.W.keepIn K (.ref f) = true ∧ Binds K fd ps [] ∧ FnOk P w K mg base CX0 k f fd ps sp
section
variable {T : Tb} {X : Cx} {Γ Γ1 Γ2 Γ3 : Ga} {e a b c : Expr} {es rest : List Expr} {d d1 d2 d3 : PyData} {ds : List PyData} {pos p p1 p2 : Pos} {k : Bool} {n : Nat}
theorem de_call {x : Str} {R : Rl} (hc : Cal X.prog X.w X.K X.mg X.base n x (SpD T X.K R)) (hr : Room n X.A) (ha : DA T X Γ (e :: es) Γ1 ds) (h : R ds d) (hg : Gl X x := by rfl) (hdb : (x == ("__debug__" : Str)) = false := by decide)
    (he : starEach (e :: es) X.env = (false, eval e X.env) :: starEach es X.env := by rfl) (hpl : (backTo pos (starEach es X.env)).any (·.1) = false := by rfl) : DE T X Γ (.Call (.Name x p) (e :: es) [] pos) Γ1 d := by
  obtain ⟨f, fd, ps, hm, hk, hb, F⟩ := hc
  exact fun B => pe_imp (pe_call F hr hg hm hk hb .nil pass0 (ha B) hdb he hpl) fun σ H Q ⟨F, o, q⟩ => ⟨F, o, fun F' H' vs o' s' r' => by
    show SpD T X.K R (vs ++ []) H' Q E0
    rw [List.append_nil]
    exact ⟨F', ds, d, o'.gd, r', h, fun F2 H2 v n r2 => q F2 H2 v (o'.next n) (s'.trans n.ff) r2⟩⟩
/-- a call that changes the list in slot i, its first argument -/
theorem de_callM (i : Nat) {x y : Str} {R : Rm} {wa : Option Addr} {st st' : List PyData} (hi : Γ[i]? = some (.lst wa st)) (hc : Cal X.prog X.w X.K X.mg X.base n x (SpM T X.K R)) (hr : Room n X.A) (ha : DA T X Γ es Γ ds) (h : R st ds st' d) (hN : X.N[i]? = some y := by rfl)
    (hv : Vis X.env.scope y := by first | exact Or.inl rfl | exact Or.inr (Or.inl rfl) | exact Or.inr (Or.inr rfl)) (hd : (y == ("__debug__" : Str)) = false := by decide) (hcd : (y == ("__classdict__" : Str)) = false := by decide)
    (hg : Gl X x := by rfl) (hdb : (x == ("__debug__" : Str)) = false := by decide)
    (he : starEach (.Name y p1 :: es) X.env = (false, eval (.Name y p1) X.env) :: starEach es X.env := by rfl) (hpl : (backTo pos (starEach es X.env)).any (·.1) = false := by rfl) : DE T X Γ (.Call (.Name x p) (.Name y p1 :: es) [] pos) (Γ.set i (.lst wa st')) d := by
  obtain ⟨f, fd, ps, hm, hk, hb, F⟩ := hc
  exact fun B => pe_imp (pe_call F hr hg hm hk hb .nil pass0 (pa_cons (pe_var hN hv hd hcd) (ha B) he) hdb he hpl) fun σ H Q ⟨F, o, q⟩ => by
    obtain ⟨w, h1, a, xs, h2, _⟩ := o.sl i _ hi
    subst h2
    refine ⟨.ref a, h1, F, o, fun F' H' vs o' s' r' => ?_⟩
    show SpM T X.K R ((.ref a :: vs) ++ []) H' Q E0
    rw [List.append_nil]
    obtain ⟨w2, g1, a2, xs2, g2, ⟨g3, g4⟩, g5, g6, g7⟩ := o'.sl i _ hi
    subst g2
    rw [h1] at g1
    cases g1
    refine ⟨F', a, xs2, vs, st, ds, st', d, rfl, o'.gd, g3, g5, g6, r', h, fun F2 H2 v ys n f2 h2 y2 r2 => ?_⟩
    exact q F2 H2 v (o'.cell hi rfl h1 n ⟨a, ys, rfl, ⟨f2, g4⟩, h2, y2, g7⟩) (s'.trans n.ff) r2

/-! ### statements -/
theorem ds_set (i : Nat) {x : Str} (he : DE T X Γ e Γ1 d) (hN : X.N.Nodup) (hi : X.N[i]? = some x := by rfl) (hx : Loc X.env.scope x := by first | exact Or.inl rfl | exact Or.inr rfl) (hs : swapsWith e (some (.Name x p)) pos.line X.env = pure false := by rfl)
    (hf : X.fn x = true ∨ X.env.scope.names.lookup x = some .local := by first | exact .inl rfl | exact .inr rfl) : DS T X Γ (.Assign [.Name x p] e pos) (.nx (Γ1.set i (.dat d))) := fun B =>
  ps_imp (ps_set hN hi hx (he B) hs hf) fun D σ H ⟨F, o, q⟩ => ⟨F, o, fun F' H' v o' s' r' => q F' _ H' (o'.setDat r') s'⟩
theorem ds_expr (he : DE T X Γ e Γ1 d) (hs : swapsWith e none pos.line X.env = pure false := by rfl) : DS T X Γ (.Expr e pos) (.nx Γ1) := fun B =>
  ps_imp (ps_expr (he B) hs) fun D σ H ⟨F, o, q⟩ => ⟨F, o, fun F' H' v o' s' r' => q F' σ H' o' s'⟩
theorem ds_ret (he : DE T X Γ e Γ1 d) : DS T X Γ (.Return (some e) pos) (.ret Γ1 d) := fun B =>
  ps_imp (ps_ret (he B)) fun D σ H ⟨F, o, q⟩ => ⟨F, o, fun F' H' v o' s' r' => q F' σ H' v o' s' r'⟩
theorem ds_retN : DS T X Γ (.Return none pos) (.ret Γ .none) := fun B =>
  ps_imp ps_retN fun D σ H ⟨F, o, q⟩ => q F σ H .non o (Same.refl F) .non
theorem ds_pass : DS T X Γ (.Pass pos) (.nx Γ) := fun B => ps_imp ps_pass fun D σ H ⟨F, o, q⟩ => q F σ H o (Same.refl F)
theorem dss_nil : DSs T X Γ [] (.nx Γ) := fun B => pss_imp pss_nil fun D σ H ⟨F, o, q⟩ => q F σ H o (Same.refl F)
theorem OutOk.mono {W : Wd} {B : Bs} {F F1 : Hp} {D : Ends} {o : Out} (h : OutOk W B F D o) (s : Same F F1) : OutOk W B F1 D o := by
  cases o with
  | nx Γ => exact fun F' σ' H' o' s' => h F' σ' H' o' (s.trans s')
  | ret Γ d => exact fun F' σ' H' v o' s' r' => h F' σ' H' v o' (s.trans s') r'
theorem dss_cons {st : Stmt} {sts : List Stmt} {o : Out} (h : DS T X Γ st (.nx Γ1)) (t : DSs T X Γ1 sts o) : DSs T X Γ (st :: sts) o := fun B =>
  pss_imp (pss_cons (h B) (t B)) fun D σ H ⟨F, o', q⟩ => ⟨F, o', fun F' σ' H' o2 s2 => ⟨F', o2, q.mono s2⟩⟩
theorem dss_one {st : Stmt} {o : Out} (h : DS T X Γ st o) : DSs T X Γ [st] o := fun B =>
  pss_imp (pss_one (h B)) fun D σ H q => q
theorem dss_ret {st : Stmt} {sts : List Stmt} (h : DS T X Γ st (.ret Γ1 d)) : DSs T X Γ (st :: sts) (.ret Γ1 d) := fun B =>
  pss_imp (pss_cons (h B) pss_never) fun D σ H q => q
theorem ds_ifT {th el : List Stmt} {o : Out} (hc : DT T X Γ c Γ1 k) (hk : k = true) (h : DSs T X Γ1 th o) : DS T X Γ (.If c th el pos) o := fun B =>
  ps_imp (ps_if (hc B) (h B) pss_never) fun D σ H ⟨F, o', q⟩ => ⟨F, o', fun F' H' o2 s2 => by
    subst hk
    exact iteT ⟨F', o2, q.mono s2⟩⟩
theorem ds_ifF {th el : List Stmt} {o : Out} (hc : DT T X Γ c Γ1 k) (hk : k = false) (h : DSs T X Γ1 el o) : DS T X Γ (.If c th el pos) o := fun B =>
  ps_imp (ps_if (hc B) pss_never (h B)) fun D σ H ⟨F, o', q⟩ => ⟨F, o', fun F' H' o2 s2 => by
    subst hk
    exact iteF ⟨F', o2, q.mono s2⟩⟩
/-- what is known may be said otherwise -/
theorem dss_is {sts : List Stmt} {o o' : Out} (h : DSs T X Γ sts o) (e : o = o') : DSs T X Γ sts o' := e ▸ h
theorem ds_is {st : Stmt} {o o' : Out} (h : DS T X Γ st o) (e : o = o') : DS T X Γ st o' := e ▸ h
end
end Dd
end
section
/-! Dd5: targets, what is walked, loops, comprehensions, by data. -/
namespace Dd
open PySem PySem.Spec PyProof.Rows L2

/-! ### targets -/
def setAll (σ : L2.St) : List Nat → List V → L2.St
  | i :: is, v :: vs => setAll (σ.set i (some v)) is vs
  | _, _ => σ
def setG (Γ : Ga) : List Nat → List PyData → Ga
  | i :: is, d :: ds => setG (Γ.set i (.dat d)) is ds
  | _, _ => Γ
section
variable {W : Wd} {B : Bs} {Γ Γ' : Ga} {F H F' H' : Hp} {σ : L2.St}
theorem Ok.setAll : ∀ {is : List Nat} {vs : List V} {ds : List PyData} {Γ : Ga} {σ : L2.St}, Ok W B Γ F σ H → DpAll W.K F vs ds → Ok W B (setG Γ is ds) F (setAll σ is vs) H
  | [], _, _, _, _, o, _ => by
    simp only [Dd.setAll, setG]
    exact o
  | _ :: _, _, _, _, _, o, .nil => by
    simp only [Dd.setAll, setG]
    exact o
  | _ :: _, _, _, _, _, o, .cons h t => by
    simp only [Dd.setAll, setG]
    exact Ok.setAll (o.setDat h) t
end
/-- what a target of the slots ks takes of d -/
def parts : List Nat → PyData → Option (List PyData)
  | [_], d => some [d]
  | ks, .tuple ds => if ds.length = ks.length then some ds else none
  | _, _ => none
def gSetD (W : Wd) (B : Bs) (ks : List Nat) : TG := fun v σ H Q => ∃ Γ F d ds, Ok W B Γ F σ H ∧ Dp W.K F v d ∧ parts ks d = some ds ∧ ∀ vs, vs.length = ds.length → Ok W B (setG Γ ks ds) F (setAll σ ks vs) H → Q (setAll σ ks vs) H
/-- a target that stores into the slots ks -/
def DG (T : Tb) (X : Cx) (tg : Expr) (ks : List Nat) : Prop := ∀ B, PG X tg (gSetD (wd T X) B ks)
section
variable {T : Tb} {X : Cx} {Γ Γ1 Γ2 Γ3 : Ga} {e a b c tg iter : Expr} {es rest : List Expr} {d d1 d2 d3 : PyData} {ds : List PyData} {pos p p1 p2 p3 : Pos} {k : Bool} {n : Nat}
theorem dg_name (i : Nat) {x : Str} (hN : X.N.Nodup) (hi : X.N[i]? = some x := by rfl) (hx : Loc X.env.scope x := by first | exact Or.inl rfl | exact Or.inr rfl)
    (hf : X.fn x = true ∨ X.env.scope.names.lookup x = some .local := by first | exact .inl rfl | exact .inr rfl) : DG T X (.Name x p) [i] := fun B =>
  pg_imp (pg_name hN hi hx hf) fun v σ H Q ⟨Γ, F, d, ds, o, r, e, q⟩ => by
    cases e
    exact q [v] rfl (o.setAll (.cons r .nil))
theorem dg_two (i j : Nat) {x y : Str} {kk : Nat} (hc : X.calm = true) (hN : X.N.Nodup) (hi : X.N[i]? = some x := by rfl) (hj : X.N[j]? = some y := by rfl) (hx : Loc X.env.scope x := by first | exact Or.inl rfl | exact Or.inr rfl) (hy : Loc X.env.scope y := by first | exact Or.inl rfl | exact Or.inr rfl)
    (hf : X.fn x = true ∨ X.env.scope.names.lookup x = some .local := by first | exact .inl rfl | exact .inr rfl) (hf2 : X.fn y = true ∨ X.env.scope.names.lookup y = some .local := by first | exact .inl rfl | exact .inr rfl) : DG T X (.Tuple [.Name x p1, .Name y p2] kk p) [i, j] := fun B =>
  pg_imp (pg_tup hc (pgs_cons (pg_name hN hi hx hf) (pgs_cons (pg_name hN hj hy hf2) pgs_nil))) fun v σ H Q ⟨Γ, F, d, ds, o, r, e, q⟩ => by
    cases r with
    | tup s t =>
      have hl : _ = _ := dpa_len t
      simp only [parts] at e
      split at e
      · cases e
        rename_i h
        cases t with
        | nil => cases h
        | cons h1 t =>
          cases t with
          | nil => cases h
          | cons h2 t =>
            cases t with
            | nil => exact ⟨_, _, rfl, sqt_same o.gd.fh s, rfl, _, _, rfl, _, _, rfl, rfl, q [_, _] rfl (o.setAll (.cons h1 (.cons h2 .nil)))⟩
            | cons h3 t => cases h
      · cases e
    | _ => cases e
theorem dg_three (i j l : Nat) {x y z : Str} {kk : Nat} (hc : X.calm = true) (hN : X.N.Nodup) (hi : X.N[i]? = some x := by rfl) (hj : X.N[j]? = some y := by rfl) (hk : X.N[l]? = some z := by rfl)
    (hx : Loc X.env.scope x := by first | exact Or.inl rfl | exact Or.inr rfl) (hy : Loc X.env.scope y := by first | exact Or.inl rfl | exact Or.inr rfl) (hz : Loc X.env.scope z := by first | exact Or.inl rfl | exact Or.inr rfl)
    (hf : X.fn x = true ∨ X.env.scope.names.lookup x = some .local := by first | exact .inl rfl | exact .inr rfl) (hf2 : X.fn y = true ∨ X.env.scope.names.lookup y = some .local := by first | exact .inl rfl | exact .inr rfl)
    (hf3 : X.fn z = true ∨ X.env.scope.names.lookup z = some .local := by first | exact .inl rfl | exact .inr rfl) : DG T X (.Tuple [.Name x p1, .Name y p2, .Name z p3] kk p) [i, j, l] := fun B =>
  pg_imp (pg_tup hc (pgs_cons (pg_name hN hi hx hf) (pgs_cons (pg_name hN hj hy hf2) (pgs_cons (pg_name hN hk hz hf3) pgs_nil)))) fun v σ H Q ⟨Γ, F, d, ds, o, r, e, q⟩ => by
    cases r with
    | tup s t =>
      simp only [parts] at e
      split at e
      · cases e
        rename_i h
        cases t with
        | nil => cases h
        | cons h1 t =>
          cases t with
          | nil => cases h
          | cons h2 t =>
            cases t with
            | nil => cases h
            | cons h3 t =>
              cases t with
              | nil => exact ⟨_, _, rfl, sqt_same o.gd.fh s, rfl, _, _, rfl, _, _, rfl, _, _, rfl, rfl, q [_, _, _] rfl (o.setAll (.cons h1 (.cons h2 (.cons h3 .nil))))⟩
              | cons h4 t => cases h
      · cases e
    | _ => cases e
/-- target = e -/
theorem ds_asg {ks : List Nat} (he : DE T X Γ e Γ1 d) (hg : DG T X tg ks) (hp : parts ks d = some ds) (hs : swapsWithSole [tg] e pos.line X.env = pure false := by rfl) (hw : swappedStores [tg] e X.env = pure none := by rfl)
    (h1 : assignEach [tg] X.env = [(false, assign tg X.env)] := by rfl) : DS T X Γ (.Assign [tg] e pos) (.nx (setG Γ1 ks ds)) := fun B =>
  ps_imp (ps_asg (he B) (hg B) hs hw (by first | exact h1 | (rw [h1]; rfl) | simpa using h1)) fun D σ H ⟨F, o, q⟩ => ⟨F, o, fun F' H' v o' s' r' => ⟨Γ1, F', d, ds, o', r', hp, fun vs hl o2 => q F' _ H' o2 s'⟩⟩

/-! ### what is walked -/
structure ItOk (T : Tb) (K : PySem.W.Frag) (J : It) (F : Hp) (ds : List PyData) : Prop where
  few : ds.length ≤ sizeLine
  stop : ∀ i F1 H1, Gd T F1 H1 → Same F F1 → i = ds.length → J.stop i H1
  go : ∀ i F1 H1, Gd T F1 H1 → Same F F1 → i < ds.length → J.go i H1
  yld : ∀ i F1 H1 x H2, Gd T F1 H1 → Same F F1 → J.yld i H1 x H2 → ∀ d, ds[i]? = some d → ∃ F2, Nx T NoM F1 H1 F2 H2 ∧ Dp K F2 x d
def tI (W : Wd) (B : Bs) (Γ Γ1 : Ga) (ds : List PyData) : TI := fun σ H R => ∃ F, Ok W B Γ F σ H ∧ ∀ F' H' J, Ok W B Γ1 F' σ H' → Same F F' → ItOk W.T W.K J F' ds → R J H'
/-- iter hands out ds, item by item -/
def DI (T : Tb) (X : Cx) (tg : Expr) (Γ : Ga) (iter : Expr) (Γ1 : Ga) (ds : List PyData) : Prop := ∀ B, PI X tg iter (tI (wd T X) B Γ Γ1 ds)
theorem pi_imp {wi wj : TI} (h : PI X tg iter wi) (k : ∀ σ H R, wj σ H R → wi σ H R) : PI X tg iter wj := ⟨fun pins s σ H R I q => h.run pins s σ H R I (k _ _ _ q)⟩
theorem sql_fun {K : PySem.W.Frag} {H : Hp} {a : Addr} {xs ys : List V} (h : SqL K H a xs) (hx : ∀ zs, SqL K H a zs → zs = xs) (h' : SqL K H a ys) : ys = xs := hx ys h'
theorem it_list {K : PySem.W.Frag} {F : Hp} {a : Addr} {xs : List V} (g : xs.length ≤ sizeLine) (h : SqL K F a xs) (t : DpAll K F xs ds) : ItOk T K (Itl K a) F ds where
  few := by rw [← dpa_len t]; exact g
  stop := fun i F1 H1 g s hi0 => have hi := Nat.le_of_eq hi0.symm; ⟨xs, sql_same (s.trans g.fh) h, by rw [dpa_len t]; exact hi⟩
  go := fun i F1 H1 g s hi => by
    have hx : i < xs.length := by rw [dpa_len t]; exact hi
    exact ⟨xs, xs[i], sql_same (s.trans g.fh) h, by simp [hx]⟩
  yld := fun i F1 H1 x H2 g s ⟨e, hx⟩ d hd => by
    subst e
    obtain ⟨v, e1, e2⟩ := dpa_get t hd
    have e3 := hx xs (sql_same (s.trans g.fh) h)
    rw [e1] at e3
    cases e3
    exact ⟨F1, Nx.refl g, dp_same s e2⟩
theorem it_tup {K : PySem.W.Frag} {F : Hp} {a : Addr} {xs : List V} (g : xs.length ≤ sizeLine) (h : SqT K F a xs) (t : DpAll K F xs ds) : ItOk T K (Itt K a) F ds where
  few := by rw [← dpa_len t]; exact g
  stop := fun i F1 H1 g s hi0 => have hi := Nat.le_of_eq hi0.symm; ⟨xs, sqt_same (s.trans g.fh) h, by rw [dpa_len t]; exact hi⟩
  go := fun i F1 H1 g s hi => by
    have hx : i < xs.length := by rw [dpa_len t]; exact hi
    exact ⟨xs, xs[i], sqt_same (s.trans g.fh) h, by simp [hx]⟩
  yld := fun i F1 H1 x H2 g s ⟨e, hx⟩ d hd => by
    subst e
    obtain ⟨v, e1, e2⟩ := dpa_get t hd
    have e3 := hx xs (sqt_same (s.trans g.fh) h)
    rw [e1] at e3
    cases e3
    exact ⟨F1, Nx.refl g, dp_same s e2⟩
theorem di_list (he : DE T X Γ e Γ1 (.list ds)) : DI T X tg Γ e Γ1 ds := fun B => pi_imp (pi_list (he B)) fun σ H R ⟨F, o, q⟩ => ⟨F, o, fun F' H' v o' s' r' => by
  cases r' with
  | lst s t => exact ⟨_, rfl, ⟨_, sql_same o'.gd.fh s⟩, q F' H' _ o' s' (it_list (o'.gd.sql s) s t)⟩⟩
theorem di_tup (he : DE T X Γ e Γ1 (.tuple ds)) : DI T X tg Γ e Γ1 ds := fun B => pi_imp (pi_tup (he B)) fun σ H R ⟨F, o, q⟩ => ⟨F, o, fun F' H' v o' s' r' => by
  cases r' with
  | tup s t => exact ⟨_, rfl, ⟨_, sqt_same o'.gd.fh s⟩, q F' H' _ o' s' (it_tup (o'.gd.sqt s) s t)⟩⟩
/-- the ints from lo, n of them -/
def rangeD (lo : Int) (n : Nat) : List PyData := (List.range n).map fun (i : Nat) => .int (lo + (i : Int))
theorem it_range {K : PySem.W.Frag} {F : Hp} {lo : Int} {n : Nat} (hn : n ≤ 1000000) : ItOk T K (Itr lo n) F (rangeD lo n) where
  few := by
    unfold rangeD
    rw [List.length_map, List.length_range]
    exact Nat.le_trans hn (by decide)
  stop := fun i F1 H1 g s hi0 => have hi := Nat.le_of_eq hi0.symm; by
    unfold rangeD at hi
    show n ≤ i
    simpa using hi
  go := fun i F1 H1 g s hi => by
    unfold rangeD at hi
    show i < n
    simpa using hi
  yld := fun i F1 H1 x H2 g s ⟨e, hx⟩ d hd => by
    subst e
    subst hx
    unfold rangeD at hd
    rw [List.getElem?_map] at hd
    cases q : (List.range n)[i]? with
    | none =>
      rw [q] at hd
      cases hd
    | some j =>
      rw [q] at hd
      obtain ⟨h1, h2⟩ := List.getElem?_eq_some_iff.mp q
      rw [List.getElem_range] at h2
      subst h2
      cases hd
      exact ⟨F1, Nx.refl g, .int _⟩
theorem di_range {j : Int} (hm : X.mg "range" = none) (ha : DE T X Γ a Γ1 (.int j)) (hj : -1000000 ≤ j ∧ j ≤ 1000000) (hg : Gl X "range" := by rfl) (hs1 : starEach [a] X.env = (false, eval a X.env) :: starEach [] X.env := by rfl) (hs : starEach [a] X.env = [(false, eval a X.env)] := by rfl) :
    DI T X tg Γ (.Call (.Name "range" p) [a] [] pos) Γ1 (rangeD 0 j.toNat) := fun B =>
  pi_imp (pi_range1 hg hm (pa_cons (ha B) pa_nil hs1) hs) fun σ H R ⟨F, o, q⟩ => ⟨F, o, fun F' H' v o' s' r' => by
    cases r'
    exact ⟨j, rfl, by omega, by omega, q F' H' _ o' s' (it_range (by omega))⟩⟩
def enumD (ds : List PyData) : List PyData := ds.zipIdx.map fun p => .tuple [.int (p.2 : Int), p.1]
theorem enumD_len (ds : List PyData) : (enumD ds).length = ds.length := by
  unfold enumD
  rw [List.length_map, List.length_zipIdx]
theorem enumD_get {i : Nat} {e : PyData} (h : (enumD ds)[i]? = some e) : ∃ d, ds[i]? = some d ∧ e = .tuple [.int (i : Int), d] := by
  unfold enumD at h
  rw [List.getElem?_map, List.getElem?_zipIdx] at h
  cases q : ds[i]? with
  | none =>
    rw [q] at h
    cases h
  | some d =>
    rw [q] at h
    cases h
    refine ⟨d, rfl, ?_⟩
    rw [Nat.zero_add]
theorem two_fits : (2 : Nat) ≤ sizeLine := by decide
theorem it_enum {K : PySem.W.Frag} {F : Hp} {a : Addr} {xs : List V} (g : xs.length ≤ sizeLine) (h : SqL K F a xs) (t : DpAll K F xs ds) : ItOk T K (Ite K a) F (enumD ds) where
  few := by rw [enumD_len, ← dpa_len t]; exact g
  stop := fun i F1 H1 g s hi0 => have hi := Nat.le_of_eq hi0.symm; ⟨xs, sql_same (s.trans g.fh) h, by
    rw [enumD_len] at hi
    rw [dpa_len t]
    exact hi⟩
  go := fun i F1 H1 g s hi => by
    rw [enumD_len] at hi
    have hx : i < xs.length := by rw [dpa_len t]; exact hi
    exact ⟨xs, xs[i], sql_same (s.trans g.fh) h, by simp [hx]⟩
  yld := fun i F1 H1 x H2 g s ⟨p, y, e1, e2, e3, hx⟩ d hd => by
    obtain ⟨e, f1, f2⟩ := enumD_get hd
    subst e1 e3 f2
    obtain ⟨v, g1, g2⟩ := dpa_get t f1
    have g3 := hx xs (sql_same (s.trans g.fh) h)
    rw [g1] at g3
    cases g3
    have n : Nx T NoM F1 H1 (upd F1 p (.tup _)) (upd H1 p (.tup _)) := Nx.newF g e2 (show OkO (.tup [.int (i : Nat), y]) from ⟨two_fits, rfl⟩)
    exact ⟨_, n, dp_tup upd_same (.cons (.int _) (.cons (dp_same (s.trans n.ff) g2) .nil))⟩
theorem di_enum {kk : Nat} {elts : List Expr} {tpos : Pos} (hm : X.mg "enumerate" = none) (ha : DE T X Γ a Γ1 (.list ds)) (hg : Gl X "enumerate" := by rfl) (hs1 : starEach [a] X.env = (false, eval a X.env) :: starEach [] X.env := by rfl) (hs : starEach [a] X.env = [(false, eval a X.env)] := by rfl) :
    DI T X (.Tuple elts kk tpos) Γ (.Call (.Name "enumerate" p) [a] [] pos) Γ1 (enumD ds) := fun B =>
  pi_imp (pi_enum hg hm (pa_cons (ha B) pa_nil hs1) hs) fun σ H R ⟨F, o, q⟩ => ⟨F, o, fun F' H' v o' s' r' => by
    cases r' with
    | lst s t => exact ⟨_, _, rfl, sql_same o'.gd.fh s, q F' H' _ o' s' (it_enum (o'.gd.sql s) s t)⟩⟩

/-! ### for -/
inductive LoopR (T : Tb) (X : Cx) (ks : List Nat) (body : List Stmt) : List PyData → Ga → Out → Prop
  | nil (Γ : Ga) : LoopR T X ks body [] Γ (.nx Γ)
  | next {d : PyData} {ps ds : List PyData} {Γ Γ2 : Ga} {o : Out} (hp : parts ks d = some ps) (h : DSs T X (setG Γ ks ps) body (.nx Γ2)) (t : LoopR T X ks body ds Γ2 o) : LoopR T X ks body (d :: ds) Γ o
  | ret {d r : PyData} {ps ds : List PyData} {Γ Γ2 : Ga} (hp : parts ks d = some ps) (h : DSs T X (setG Γ ks ps) body (.ret Γ2 r)) : LoopR T X ks body (d :: ds) Γ (.ret Γ2 r)
/-- the reading of a block that covers all that is told of it -/
def uS (T : Tb) (X : Cx) (B : Bs) (body : List Stmt) : TS := fun D σ H => ∃ Γ o, DSs T X Γ body o ∧ tDS (wd T X) B Γ o D σ H
theorem pss_u {body : List Stmt} (B : Bs) : PSs X body (uS T X B body) := ⟨fun pins s σ H D I ⟨Γ, o, h, q⟩ => (h B).run pins s σ H D I q⟩
theorem ds_for {ks : List Nat} {body : List Stmt} {o : Out} (hi : DI T X tg Γ iter Γ1 ds) (hg : DG T X tg ks) (hl : LoopR T X ks body ds Γ1 o) (hc : X.calm = true := by rfl) (hp : PassesOwn (model X.prog X.w) X.A X.env X.xe := by exact PassesOwn.never)
    (hs : ∀ x, foldedSetIterable iter X.env x = pure x := by intro _; rfl) : DS T X Γ (.For tg iter body [] pos) o := fun B =>
  ps_imp (ps_for hp hc (hi B) (hg B) (pss_u B) hs) fun D σ H ⟨F, ok, q⟩ => by
    refine ⟨F, ok, fun F1 H1 J o1 s1 it => ?_⟩
    refine ⟨fun i m σ' H' => m + i = ds.length ∧ ∃ Γi Fi, Ok (wd T X) B Γi Fi σ' H' ∧ Same F1 Fi ∧ LoopR T X ks body (ds.drop i) Γi o, ⟨ds.length, rfl, Γ1, F1, o1, Same.refl F1, hl⟩, ?_⟩
    rintro i m σ' H' ⟨hm, Γi, Fi, oi, si, li⟩
    cases hd : ds.drop i with
    | nil =>
      have hle : ds.length ≤ i := by
        have h1 := congrArg List.length hd
        rw [List.length_drop] at h1
        simp at h1
        omega
      rw [hd] at li
      cases li
      exact .inl ⟨it.stop i Fi H' oi.gd si (by omega), q Fi σ' H' oi (s1.trans si)⟩
    | cons d rest =>
      have hlt : i < ds.length := by
        have h1 := congrArg List.length hd
        rw [List.length_drop, List.length_cons] at h1
        omega
      have hget : ds[i]? = some d := by
        rw [← List.head?_drop, hd]
        rfl
      have hrest : ds.drop (i + 1) = rest := by
        rw [← List.tail_drop, hd]
        rfl
      refine .inr ⟨it.go i Fi H' oi.gd si hlt, fun σ2 H2 => ∃ Γ2 F2, Ok (wd T X) B Γ2 F2 σ2 H2 ∧ Same F1 F2 ∧ LoopR T X ks body rest Γ2 o, ?_, ?_⟩
      · rintro σ2 H2 ⟨Γ2, F2, o2, s2, l2⟩
        refine ⟨m - 1, by omega, by omega, Γ2, F2, o2, s2, ?_⟩
        rw [hrest]
        exact l2
      · intro x H2 hy
        obtain ⟨F2, n2, r2⟩ := it.yld i Fi H' x H2 oi.gd si hy d hget
        have o2 := oi.next n2
        rw [hd] at li
        cases li with
        | next hp h t =>
          refine ⟨Γi, F2, d, _, o2, r2, hp, fun vs hl o3 => ?_⟩
          exact ⟨_, _, h, F2, o3, fun F4 σ4 H4 o4 s4 => ⟨_, F4, o4, (si.trans n2.ff).trans s4, t⟩⟩
        | ret hp h =>
          refine ⟨Γi, F2, d, _, o2, r2, hp, fun vs hl o3 => ?_⟩
          exact ⟨_, _, h, F2, o3, fun F4 σ4 H4 v o4 s4 r4 => q F4 σ4 H4 v o4 (((s1.trans si).trans n2.ff).trans s4) r4⟩

/-! ### while -/
inductive WhileR (T : Tb) (X : Cx) (c : Expr) (body : List Stmt) : Nat → Ga → Out → Prop
  | done {n : Nat} {Γ Γ1 : Ga} (h : DT T X Γ c Γ1 false) : WhileR T X c body n Γ (.nx Γ1)
  | step {n : Nat} {Γ Γ1 Γ2 : Ga} {o : Out} (h : DT T X Γ c Γ1 true) (b : DSs T X Γ1 body (.nx Γ2)) (t : WhileR T X c body n Γ2 o) : WhileR T X c body (n + 1) Γ o
  | ret {n : Nat} {Γ Γ1 Γ2 : Ga} {r : PyData} (h : DT T X Γ c Γ1 true) (b : DSs T X Γ1 body (.ret Γ2 r)) : WhileR T X c body n Γ (.ret Γ2 r)
def uT (T : Tb) (X : Cx) (B : Bs) (c : Expr) : TT := fun σ H Q => ∃ Γ Γ1 b, DT T X Γ c Γ1 b ∧ tDT (wd T X) B Γ Γ1 b σ H Q
theorem pt_u (B : Bs) : PT X c (uT T X B c) := ⟨fun pins s σ H Q I ⟨Γ, Γ1, b, h, q⟩ => (h B).run pins s σ H Q I q⟩
theorem ds_while {body : List Stmt} {o : Out} (hw : WhileR T X c body n Γ o) (hp : PassesOwn (model X.prog X.w) X.A X.env X.xe := by exact PassesOwn.never) : DS T X Γ (.While c body [] pos) o := fun B =>
  ps_imp (ps_while hp (pt_u B) (pss_u B)) fun D σ H ⟨F, ok, q⟩ => by
    refine ⟨fun m σ' H' => ∃ Γi Fi, Ok (wd T X) B Γi Fi σ' H' ∧ Same F Fi ∧ WhileR T X c body m Γi o, ⟨n, Γ, F, ok, Same.refl F, hw⟩, ?_⟩
    rintro m σ' H' ⟨Γi, Fi, oi, si, wi⟩
    cases wi with
    | done h =>
      refine ⟨Γi, _, false, h, Fi, oi, fun F1 H1 o1 s1 => ?_⟩
      exact iteF (q F1 σ' H1 o1 (si.trans s1))
    | step h b t =>
      rename_i m' Γa Γb
      refine ⟨Γi, _, true, h, Fi, oi, fun F1 H1 o1 s1 => ?_⟩
      refine iteT ⟨fun σ2 H2 => ∃ Γ2 F2, Ok (wd T X) B Γ2 F2 σ2 H2 ∧ Same F F2 ∧ WhileR T X c body m' Γ2 o, ?_, ?_⟩
      · rintro σ2 H2 w2
        exact ⟨_, Nat.lt_succ_self _, w2⟩
      · exact ⟨_, _, b, F1, o1, fun F2 σ2 H2 o2 s2 => ⟨_, F2, o2, (si.trans s1).trans s2, t⟩⟩
    | ret h b =>
      refine ⟨Γi, _, true, h, Fi, oi, fun F1 H1 o1 s1 => ?_⟩
      refine iteT ⟨fun _ _ => False, fun _ _ z => z.elim, ?_⟩
      exact ⟨_, _, b, F1, o1, fun F2 σ2 H2 v o2 s2 r2 => q F2 σ2 H2 v o2 ((si.trans s1).trans s2) r2⟩
end
end Dd
end
section
/-! Dd6: comprehensions by data. -/
namespace Dd
open PySem PySem.Spec PyProof.Rows L2

/-! ### the slots of a block -/
def wipeG (vs : List Nat) : Nat → Ga → Ga
  | _, [] => []
  | j, s :: Γ => (if vs.contains j then .un else s) :: wipeG vs (j + 1) Γ
/-- the block's own slots as they were, the others as they are -/
def restG (vs : List Nat) : Nat → Ga → Ga → Ga
  | j, s :: Γ, t :: Γb => (if vs.contains j then s else t) :: restG vs (j + 1) Γ Γb
  | _, _, _ => []
def noOwn (vs : List Nat) (Γ : Ga) : Bool := vs.all fun j => !isOwn (Γ[j]?.getD .un)
theorem wipeG_len (vs : List Nat) : ∀ (Γ : Ga) (j : Nat), (wipeG vs j Γ).length = Γ.length
  | [], _ => rfl
  | s :: Γ, j => by
    unfold wipeG
    rw [List.length_cons, List.length_cons, wipeG_len vs Γ (j + 1)]
theorem wipeG_get (vs : List Nat) : ∀ (Γ : Ga) (j i : Nat) (t : Sl), (wipeG vs j Γ)[i]? = some t → ∃ s, Γ[i]? = some s ∧ t = if vs.contains (j + i) then .un else s
  | [], j, i, t, h => by
    unfold wipeG at h
    simp at h
  | s :: Γ, j, 0, t, h => by
    unfold wipeG at h
    simp at h
    exact ⟨s, rfl, by simpa using h.symm⟩
  | s :: Γ, j, i + 1, t, h => by
    unfold wipeG at h
    rw [List.getElem?_cons_succ] at h
    obtain ⟨u, h1, h2⟩ := wipeG_get vs Γ (j + 1) i t h
    refine ⟨u, by simpa using h1, ?_⟩
    rw [h2, show j + 1 + i = j + (i + 1) by omega]
theorem restG_get (vs : List Nat) : ∀ (Γ Γb : Ga) (j i : Nat) (t : Sl), (restG vs j Γ Γb)[i]? = some t → ∃ s u, Γ[i]? = some s ∧ Γb[i]? = some u ∧ t = if vs.contains (j + i) then s else u
  | [], Γb, j, i, t, h => by
    unfold restG at h
    simp at h
  | s :: Γ, [], j, i, t, h => by
    unfold restG at h
    simp at h
  | s :: Γ, u :: Γb, j, 0, t, h => by
    unfold restG at h
    simp at h
    exact ⟨s, u, rfl, rfl, by simpa using h.symm⟩
  | s :: Γ, u :: Γb, j, i + 1, t, h => by
    unfold restG at h
    rw [List.getElem?_cons_succ] at h
    obtain ⟨s', u', h1, h2, h3⟩ := restG_get vs Γ Γb (j + 1) i t h
    refine ⟨s', u', by simpa using h1, by simpa using h2, ?_⟩
    rw [h3, show j + 1 + i = j + (i + 1) by omega]
theorem restG_len (vs : List Nat) : ∀ (Γ Γb : Ga) (j : Nat), Γ.length = Γb.length → (restG vs j Γ Γb).length = Γ.length
  | [], Γb, j, h => by
    cases Γb with
    | nil => rfl
    | cons => cases h
  | s :: Γ, [], j, h => by cases h
  | s :: Γ, u :: Γb, j, h => by
    unfold restG
    rw [List.length_cons, List.length_cons, restG_len vs Γ Γb (j + 1) (by simpa using h)]
theorem wipe_get (σ : L2.St) : ∀ (vs : List Nat) (j : Nat), (wipe σ vs)[j]? = if vs.contains j then (if j < σ.length then some none else none) else σ[j]?
  | [], j => by
    unfold wipe
    simp
  | v :: vs, j => by
    unfold wipe
    by_cases h : v = j
    · subst h
      rw [List.getElem?_set]
      simp [wipe_length]
    · rw [List.getElem?_set_ne h, wipe_get σ vs j]
      have h2 : (v :: vs).contains j = vs.contains j := by
        rw [List.contains_cons]
        simp
        intro z
        exact absurd z.symm h
      rw [h2]
theorem setAll_get : ∀ (ks : List Nat) (ws : List V) (σ : L2.St) (j : Nat), ks.contains j = false → (setAll σ ks ws)[j]? = σ[j]?
  | [], ws, σ, j, _ => by
    simp only [setAll]
  | k :: ks, [], σ, j, _ => by
    simp only [setAll]
  | k :: ks, w :: ws, σ, j, h => by
    simp only [setAll]
    rw [List.contains_cons] at h
    simp at h
    rw [setAll_get ks ws _ j (by simpa using h.2), List.getElem?_set_ne (fun z => h.1 z.symm)]
theorem setAll_len : ∀ (ks : List Nat) (ws : List V) (σ : L2.St), (setAll σ ks ws).length = σ.length
  | [], ws, σ => by simp only [setAll]
  | k :: ks, [], σ => by simp only [setAll]
  | k :: ks, w :: ws, σ => by
    simp only [setAll]
    rw [setAll_len ks ws, List.length_set]
theorem wipe_setAll {σ : L2.St} {vs ks : List Nat} {ws : List V} (h : ks.all vs.contains = true) : wipe (setAll (wipe σ vs) ks ws) vs = wipe σ vs := by
  refine List.ext_getElem? fun j => ?_
  rw [wipe_get, wipe_get, setAll_len, wipe_length]
  by_cases q : vs.contains j = true
  · rw [if_pos q, if_pos q]
  · rw [if_neg q, if_neg q]
    have hk : ks.contains j = false := by
      cases z : ks.contains j with
      | false => rfl
      | true => exact absurd (List.all_eq_true.mp h j (by simpa using z)) q
    rw [setAll_get ks ws _ j hk, wipe_get, if_neg q]
section
variable {W : Wd} {B : Bs} {Γ Γb : Ga} {F H F' H' : Hp} {σ : L2.St} {vs ks : List Nat} {ws : List V}
theorem noOwn_at (h : noOwn vs Γ = true) {j : Nat} {s : Sl} (hj : vs.contains j = true) (e : Γ[j]? = some s) : isOwn s = false := by
  have h1 := List.all_eq_true.mp h j (by simpa using hj)
  rw [e] at h1
  simpa using h1
theorem Ok.wipe (o : Ok W B Γ F σ H) (hn : noOwn vs Γ = true) : Ok W B (wipeG vs 0 Γ) F (wipe σ vs) H := by
  refine ⟨o.nx, by rw [wipe_length, wipeG_len]; exact o.len, fun i t e => ?_, fun i j s t a e1 e2 o1 o2 s1 s2 => ?_⟩
  · obtain ⟨s, h1, h2⟩ := wipeG_get vs Γ 0 i t e
    rw [Nat.zero_add] at h2
    obtain ⟨w, h3, h4⟩ := o.sl i s h1
    rw [wipe_get]
    by_cases q : vs.contains i = true
    · rw [if_pos q] at h2
      subst h2
      rw [if_pos q, if_pos (List.getElem?_eq_some_iff.mp h3).1]
      exact ⟨none, rfl, trivial⟩
    · rw [if_neg q] at h2
      subst h2
      rw [if_neg q]
      exact ⟨w, h3, h4⟩
  · have bk : ∀ {i : Nat} {s : Sl}, (wipeG vs 0 Γ)[i]? = some s → isOwn s = true → Γ[i]? = some s ∧ ¬ vs.contains i = true := fun {i s} e os => by
      obtain ⟨u, h1, h2⟩ := wipeG_get vs Γ 0 i s e
      rw [Nat.zero_add] at h2
      by_cases q : vs.contains i = true
      · rw [if_pos q] at h2
        subst h2
        cases os
      · rw [if_neg q] at h2
        subst h2
        exact ⟨h1, q⟩
    obtain ⟨f1, n1⟩ := bk e1 o1
    obtain ⟨f2, n2⟩ := bk e2 o2
    rw [wipe_get, if_neg n1] at s1
    rw [wipe_get, if_neg n2] at s2
    exact o.ds i j s t a f1 f2 o1 o2 s1 s2
/-- .. behind the block -/
theorem Ok.unwipe (o0 : Ok W B Γ F σ H) (sf : Same F F') (o : Ok W B Γb F' (Dd.setAll (L2.wipe σ vs) ks ws) H') (hk : ks.all vs.contains = true) (hn : noOwn vs Γ = true) : Ok W B (restG vs 0 Γ Γb) F' σ H' := by
  have hl : Γ.length = Γb.length := by
    rw [← o0.len, ← o.len, setAll_len, wipe_length]
  have at_ : ∀ j, ¬ vs.contains j = true → (Dd.setAll (L2.wipe σ vs) ks ws)[j]? = σ[j]? := fun j q => by
    have hk : ks.contains j = false := by
      cases z : ks.contains j with
      | false => rfl
      | true => exact absurd (List.all_eq_true.mp hk j (by simpa using z)) q
    rw [setAll_get ks ws _ j hk, wipe_get, if_neg q]
  refine ⟨o.nx, by rw [restG_len vs Γ Γb 0 hl]; exact o0.len, fun i t e => ?_, fun i j s t a e1 e2 o1 o2 s1 s2 => ?_⟩
  · obtain ⟨s, u, h1, h2, h3⟩ := restG_get vs Γ Γb 0 i t e
    rw [Nat.zero_add] at h3
    by_cases q : vs.contains i = true
    · rw [if_pos q] at h3
      subst h3
      obtain ⟨w, h4, h5⟩ := o0.sl i t h1
      refine ⟨w, h4, ?_⟩
      have no := noOwn_at hn q h1
      cases t with
      | un => trivial
      | dat d =>
        obtain ⟨x, e1, e2⟩ := h5
        exact ⟨x, e1, dp_same sf e2⟩
      | val x => exact h5
      | lst _ _ => cases no
      | dct _ _ => cases no
    · rw [if_neg q] at h3
      subst h3
      obtain ⟨w, h4, h5⟩ := o.sl i t h2
      rw [at_ i q] at h4
      exact ⟨w, h4, h5⟩
  · have bk : ∀ {i : Nat} {s : Sl}, (restG vs 0 Γ Γb)[i]? = some s → isOwn s = true → Γb[i]? = some s ∧ ¬ vs.contains i = true := fun {i s} e os => by
      obtain ⟨s', u, h1, h2, h3⟩ := restG_get vs Γ Γb 0 i s e
      rw [Nat.zero_add] at h3
      by_cases q : vs.contains i = true
      · rw [if_pos q] at h3
        subst h3
        rw [noOwn_at hn q h1] at os
        cases os
      · rw [if_neg q] at h3
        subst h3
        exact ⟨h2, q⟩
    obtain ⟨f1, n1⟩ := bk e1 o1
    obtain ⟨f2, n2⟩ := bk e2 o2
    rw [← at_ i n1] at s1
    rw [← at_ j n2] at s2
    exact o.ds i j s t a f1 f2 o1 o2 s1 s2
/-- a cell aside has changed -/
theorem Ok.side {D : Addr} (o : Ok W B Γ F σ H) (n : Nx W.T (fun b => b = D) F H F' H') (h0 : B.H0 D = none) (na : ∀ (j : Nat) (s : Sl), Γ[j]? = some s → isOwn s = true → σ[j]? ≠ some (some (.ref D))) : Ok W B Γ F' σ H' := by
  refine ⟨⟨o.nx.ff.trans n.ff, fun b u q m t => ?_, fun b q => n.dm b (o.nx.dm b q), fun b q m r => ?_, n.gd⟩, o.len, fun j t q => ?_, o.ds⟩
  · refine n.hh b u (o.nx.hh b u q m t) (fun z => ?_) t
    subst z
    rw [h0] at q
    cases q
  · refine n.out b (o.nx.dm b q) (fun z => ?_) (o.nx.out b q m r)
    subst z
    exact q h0
  · obtain ⟨w, h1, h2⟩ := o.sl j t q
    refine ⟨w, h1, ?_⟩
    cases t with
    | un => trivial
    | dat d =>
      obtain ⟨u, e1, e2⟩ := h2
      exact ⟨u, e1, dp_same n.ff e2⟩
    | val u => exact h2
    | lst wa ds =>
      obtain ⟨b, xs, e1, ⟨e2, e3⟩, e4, e5, e6⟩ := h2
      have nb : b ≠ D := fun z => na j _ q rfl (by rw [h1, e1, z])
      exact ⟨b, xs, e1, ⟨n.out b (by rw [e4]; intro z; cases z) nb e2, e3⟩, n.hh b _ e4 nb (fun ps z => by cases z), dpa_same n.ff e5, e6⟩
    | dct t kvs =>
      obtain ⟨b, e1, ⟨e2, e3⟩, e4⟩ := h2
      have nb : b ≠ D := fun z => na j _ q rfl (by rw [h1, e1, z])
      exact ⟨b, e1, ⟨n.out b e4.there nb e2, e3⟩, e4.next n.ff fun ob q nt => n.hh b ob q nb nt⟩
end
theorem restG_self (vs ks : List Nat) (hk : ks.all vs.contains = true) : ∀ (Γ : Ga) (ps : List PyData), restG vs 0 Γ (setG (wipeG vs 0 Γ) ks ps) = Γ := by
  have len : ∀ (ks : List Nat) (ps : List PyData) (Γ : Ga), (setG Γ ks ps).length = Γ.length := fun ks => by
    induction ks with
    | nil => intro ps Γ; simp only [setG]
    | cons k ks ih =>
      intro ps Γ
      cases ps with
      | nil => simp only [setG]
      | cons p ps => simp only [setG]; rw [ih, List.length_set]
  have get : ∀ (ks : List Nat) (ps : List PyData) (Γ : Ga) (j : Nat), ks.contains j = false → (setG Γ ks ps)[j]? = Γ[j]? := fun ks => by
    induction ks with
    | nil => intro ps Γ j h; simp only [setG]
    | cons k ks ih =>
      intro ps Γ j h
      cases ps with
      | nil => simp only [setG]
      | cons p ps =>
        simp only [setG]
        rw [List.contains_cons] at h
        simp at h
        rw [ih ps _ j (by simpa using h.2), List.getElem?_set_ne (fun z => h.1 z.symm)]
  intro Γ ps
  have hl : Γ.length = (setG (wipeG vs 0 Γ) ks ps).length := by rw [len, wipeG_len]
  refine List.ext_getElem? fun i => ?_
  cases hi : (restG vs 0 Γ (setG (wipeG vs 0 Γ) ks ps))[i]? with
  | none =>
    have h1 := List.getElem?_eq_none_iff.mp hi
    rw [restG_len vs _ _ 0 hl] at h1
    exact (List.getElem?_eq_none_iff.mpr h1).symm
  | some t =>
    obtain ⟨s, u, h1, h2, h3⟩ := restG_get vs _ _ 0 i t hi
    rw [Nat.zero_add] at h3
    rw [h1]
    by_cases q : vs.contains i = true
    · rw [if_pos q] at h3
      rw [h3]
    · rw [if_neg q] at h3
      have hk2 : ks.contains i = false := by
        cases z : ks.contains i with
        | false => rfl
        | true => exact absurd (List.all_eq_true.mp hk i (by simpa using z)) q
      rw [get ks ps _ i hk2] at h2
      obtain ⟨s', h4, h5⟩ := wipeG_get vs Γ 0 i u h2
      rw [Nat.zero_add, if_neg q] at h5
      rw [h1] at h4
      rw [h3, h5]
      exact h4.symm

/-! ### the comprehension -/
section
variable (T : Tb) (X : Cx) (scope : Scope)
abbrev BCx (s : Shared) (H : Hp) (C : Addr) (cl : List (Str × Addr)) (fp : List Addr) : Cx := X.blk s H scope (compEnvC scope cl C X.env) fp
/-- in any block of this scope -/
def BE (Γ : Ga) (e : Expr) (Γ' : Ga) (d : PyData) : Prop := ∀ s H C cl fp, DE T (BCx X scope s H C cl fp) Γ e Γ' d
def BT (Γ : Ga) (ifs : List Expr) (b : Bool) : Prop := ∀ s H C cl fp, ∀ B, PTs (BCx X scope s H C cl fp) ifs (tDT (wd T X) B Γ Γ b)
def BG (tg : Expr) (ks : List Nat) : Prop := ∀ s H C cl fp, DG T (BCx X scope s H C cl fp) tg ks
end
inductive CompR (T : Tb) (X : Cx) (scope : Scope) (vs ks : List Nat) (ifs : List Expr) (elt : Expr) : List PyData → Ga → List PyData → Ga → Prop
  | nil (Γ : Ga) : CompR T X scope vs ks ifs elt [] Γ [] Γ
  | keep {d r : PyData} {ps ds rs : List PyData} {Γ Γb Γ3 : Ga} (hp : parts ks d = some ps) (ho : noOwn vs Γ = true) (hc : BT T X scope (setG (wipeG vs 0 Γ) ks ps) ifs true) (he : BE T X scope (setG (wipeG vs 0 Γ) ks ps) elt Γb r)
      (t : CompR T X scope vs ks ifs elt ds (restG vs 0 Γ Γb) rs Γ3) : CompR T X scope vs ks ifs elt (d :: ds) Γ (r :: rs) Γ3
  | skip {d : PyData} {ps ds rs : List PyData} {Γ Γ3 : Ga} (hp : parts ks d = some ps) (ho : noOwn vs Γ = true) (hc : BT T X scope (setG (wipeG vs 0 Γ) ks ps) ifs false)
      (t : CompR T X scope vs ks ifs elt ds Γ rs Γ3) : CompR T X scope vs ks ifs elt (d :: ds) Γ rs Γ3
section
variable {T : Tb} {X : Cx} {scope : Scope} {vs ks : List Nat} {Γ Γ1 Γ2 Γ3 : Ga} {e a b c tg iter elt : Expr} {ifs es rest : List Expr} {d d1 d2 d3 : PyData} {ds rs : List PyData} {pos p p1 p2 p3 : Pos} {k : Bool} {n : Nat}
theorem bt_nil : BT T X scope Γ [] true := fun s H C cl fp B => ⟨fun pins s σ H Q I ⟨F, o, q⟩ => pts_nil.run pins s σ H Q I (q F H o (Same.refl F))⟩
theorem bt_one (h : ∀ s H C cl fp, DT T (BCx X scope s H C cl fp) Γ e Γ k) : BT T X scope Γ [e] k := fun s H C cl fp B => pts_one (h s H C cl fp B)
def cG (T : Tb) (X : Cx) (ks : List Nat) : TG := fun v σ H Q => ∃ B, gSetD (wd T X) B ks v σ H Q
def cT (T : Tb) (X : Cx) (scope : Scope) (ifs : List Expr) : TT := fun σ H Q => ∃ B Γ b, BT T X scope Γ ifs b ∧ tDT (wd T X) B Γ Γ b σ H Q
def cE (T : Tb) (X : Cx) (scope : Scope) (elt : Expr) : TE := fun σ H Q => ∃ B Γ Γ' d, BE T X scope Γ elt Γ' d ∧ tD (wd T X) B Γ Γ' d σ H Q
def NotO (Γ : Ga) (σ : L2.St) (D : Addr) : Prop := ∀ (j : Nat) (s : Sl), Γ[j]? = some s → isOwn s = true → σ[j]? ≠ some (some (.ref D))
/-- the reading of the comprehension -/
theorem tLc_by {wi : TI} (B : Bs) (hwi : ∀ σ H R, tI (wd T X) B Γ Γ1 ds σ H R → wi σ H R) (hk : ks.all vs.contains = true) (hc : CompR T X scope vs ks ifs elt ds Γ1 rs Γ2) {σ : L2.St} {H : Hp} {Q : VK} (h : tD (wd T X) B Γ Γ2 (.list rs) σ H Q) :
    tLc wi (cG T X ks) (cT T X scope ifs) (cE T X scope elt) vs σ H Q := by
  obtain ⟨F, ok, q⟩ := h
  refine hwi _ _ _ ⟨F, ok, fun F1 H1 J o1 s1 it D hD => ?_⟩
  have h0 : B.H0 D = none := by
    cases z : B.H0 D with
    | none => rfl
    | some u => exact absurd hD (o1.nx.dm D (by rw [z]; intro z; cases z))
  have nf : F1 D = none := by
    cases z : F1 D with
    | none => rfl
    | some u =>
      rw [o1.gd.fh D u z] at hD
      cases hD
  have no1 : NotO Γ1 σ D := fun j s e os z => (o1.own e os z).2 hD
  have n0 : Nx T NoM F1 H1 F1 (upd H1 D (.lst [])) := Nx.newH o1.gd hD (show OkO (.lst []) from Nat.zero_le _)
  refine ⟨fun i m H' => m + i = ds.length ∧ ∃ Γi Fi acc rsd rst, Ok (wd T X) B Γi Fi σ H' ∧ Same F1 Fi ∧ H' D = some (.lst acc) ∧ Fi D = none ∧ NotO Γi σ D ∧ DpAll X.K Fi acc rsd ∧ acc.length ≤ i ∧ rs = rsd ++ rst ∧ CompR T X scope vs ks ifs elt (ds.drop i) Γi rst Γ2,
    ⟨ds.length, rfl, Γ1, F1, [], [], rs, o1.next n0, Same.refl F1, upd_same, nf, no1, .nil, Nat.le_refl _, rfl, hc⟩, ?_⟩
  rintro i m H' ⟨hm, Γi, Fi, acc, rsd, rst, oi, si, eD, fD, noD, da, la, ers, ci⟩
  cases hd : ds.drop i with
  | nil =>
    have hle : ds.length ≤ i := by
      have h1 := congrArg List.length hd
      rw [List.length_drop] at h1
      simp at h1
      omega
    rw [hd] at ci
    cases ci
    rw [List.append_nil] at ers
    subst ers
    refine .inl ⟨it.stop i Fi H' oi.gd si (by omega), ?_⟩
    have o2 := oi.freeze eD ⟨_, rfl⟩ (fun ps z => by cases z) fD (.inl h0) noD
    have sf : Same Fi (upd Fi D (.lst acc)) := same_new fD
    exact q _ H' _ o2 ((s1.trans si).trans sf) (dp_lst upd_same (dpa_same sf da))
  | cons d rest =>
    have hlt : i < ds.length := by
      have h1 := congrArg List.length hd
      rw [List.length_drop, List.length_cons] at h1
      omega
    have hget : ds[i]? = some d := by
      rw [← List.head?_drop, hd]
      rfl
    have hrest : ds.drop (i + 1) = rest := by
      rw [← List.tail_drop, hd]
      rfl
    refine .inr ⟨it.go i Fi H' oi.gd si hlt, fun H2 => ∃ Γ' F' acc' rsd' rst', Ok (wd T X) B Γ' F' σ H2 ∧ Same F1 F' ∧ H2 D = some (.lst acc') ∧ F' D = none ∧ NotO Γ' σ D ∧ DpAll X.K F' acc' rsd' ∧ acc'.length ≤ i + 1 ∧ rs = rsd' ++ rst' ∧ CompR T X scope vs ks ifs elt rest Γ' rst' Γ2, ?_, ?_⟩
    · rintro H2 ⟨Γ', F', acc', rsd', rst', z⟩
      refine ⟨m - 1, by omega, by omega, Γ', F', acc', rsd', rst', ?_⟩
      rw [hrest]
      exact z
    · intro x H2 hy
      obtain ⟨F2, n2, r2⟩ := it.yld i Fi H' x H2 oi.gd si hy d hget
      have o2 := oi.next n2
      have eD2 : H2 D = some (.lst acc) := n2.hh D _ eD (fun z => z) (fun ps z => by cases z)
      have fD2 : F2 D = none := n2.out D (by rw [eD]; intro z; cases z) (fun z => z) fD
      have ob := o2.rebase
      -- D is not among what the block may change
      have nM : ¬ (∃ (j : Nat) (s : Sl), Γi[j]? = some s ∧ isOwn s = true ∧ σ[j]? = some (some (.ref D))) := fun ⟨j, s, e1, e2, e3⟩ => noD j s e1 e2 e3
      generalize hB : (⟨F2, H2, fun a => ∃ (j : Nat) (s : Sl), Γi[j]? = some s ∧ isOwn s = true ∧ σ[j]? = some (some (.ref a))⟩ : Bs) = Bn at ob
      have hBm : ¬ Bn.M D := by rw [← hB]; exact nM
      have hBH : Bn.H0 = H2 := by rw [← hB]
      have keep : ∀ {Γx : Ga} {Fx Hx : Hp} {τ : L2.St}, Ok (wd T X) Bn Γx Fx τ Hx → Hx D = some (.lst acc) ∧ Fx D = none ∧ NotO Γx τ D := fun {Γx Fx Hx τ} ox => by
        refine ⟨ox.nx.hh D _ (by rw [hBH]; exact eD2) hBm (fun ps z => by cases z), ox.nx.out D (by rw [hBH, eD2]; intro z; cases z) hBm (by rw [← hB]; exact fD2), fun j s e os z => ?_⟩
        rcases (ox.own e os z).1.2 with w | w
        · rw [hBH, eD2] at w
          cases w
        · exact hBm w
      rw [hd] at ci
      cases ci with
      | keep hp ho hcc hee t =>
        rename_i r ps rs' Γb
        refine ⟨Bn, wipeG vs 0 Γi, F2, d, ps, ob.wipe ho, r2, hp, fun ws hl o3 => ?_⟩
        refine ⟨wipe_setAll hk, Bn, _, true, hcc, F2, o3, fun F4 H4 o4 s4 => ?_⟩
        refine iteT ⟨Bn, _, _, _, hee, F4, o4, fun F5 H5 y o5 s5 r5 => ?_⟩
        obtain ⟨eD5, fD5, no5⟩ := keep o5
        have hz : acc.length < sizeLine := Nat.lt_of_le_of_lt la (Nat.lt_of_lt_of_le hlt it.few)
        refine ⟨acc, eD5, hz, ?_⟩
        have o6 : Ok (wd T X) Bn (restG vs 0 Γi Γb) F5 σ H5 := Ok.unwipe ob (s4.trans s5) o5 hk ho
        have o7 : Ok (wd T X) B (restG vs 0 Γi Γb) F5 σ H5 := o2.unbase (by rw [hB]; exact o6)
        have n8 : Nx T (fun b => b = D) F5 H5 F5 (upd H5 D (.lst (acc ++ [y]))) := Nx.set o5.gd rfl eD5 (fun ps z => by cases z) (fun q z => by unfold LamX.CodeO at z; cases z) fD5 (show OkO (.lst (acc ++ [y])) from (by
          show (acc ++ [y]).length ≤ sizeLine
          rw [List.length_append]
          exact hz))
        have s25 : Same Fi F5 := (n2.ff.trans s4).trans s5
        refine ⟨_, F5, acc ++ [y], rsd ++ [r], rs', o7.side n8 h0 (keep o6).2.2, si.trans s25, upd_same, fD5, (keep o6).2.2, dpa_append (dpa_same s25 da) (dpa_one r5), by rw [List.length_append]; exact Nat.succ_le_succ la, by rw [ers, List.append_assoc]; rfl, t⟩
      | skip hp ho hcc t =>
        rename_i ps
        refine ⟨Bn, wipeG vs 0 Γi, F2, d, ps, ob.wipe ho, r2, hp, fun ws hl o3 => ?_⟩
        refine ⟨wipe_setAll hk, Bn, _, false, hcc, F2, o3, fun F4 H4 o4 s4 => ?_⟩
        refine iteF ?_
        obtain ⟨eD4, fD4, no4⟩ := keep o4
        have o6 : Ok (wd T X) Bn (restG vs 0 Γi (setG (wipeG vs 0 Γi) ks ps)) F4 σ H4 := Ok.unwipe ob s4 o4 hk ho
        rw [restG_self vs ks hk] at o6
        have o7 : Ok (wd T X) B Γi F4 σ H4 := o2.unbase (by rw [hB]; exact o6)
        exact ⟨Γi, F4, acc, rsd, rst, o7, si.trans (n2.ff.trans s4), eD4, fD4, noD, dpa_same (n2.ff.trans s4) da, Nat.le_succ_of_le la, ers, t⟩
theorem bg_pg (h : BG T X scope tg ks) (s : Shared) (H : Hp) (C : Addr) (cl : List (Str × Addr)) (fp : List Addr) : PG (BCx X scope s H C cl fp) tg (cG T X ks) := ⟨fun pins s' σ H' v u Q I r ⟨B, q⟩ => (h s H C cl fp B).run pins s' σ H' v u Q I r q⟩
theorem bt_pts (s : Shared) (H : Hp) (C : Addr) (cl : List (Str × Addr)) (fp : List Addr) : PTs (BCx X scope s H C cl fp) ifs (cT T X scope ifs) := ⟨fun pins s' σ H' Q I ⟨B, Γ, b, h, q⟩ => (h s H C cl fp B).run pins s' σ H' Q I q⟩
theorem be_pe (s : Shared) (H : Hp) (C : Addr) (cl : List (Str × Addr)) (fp : List Addr) : PE (BCx X scope s H C cl fp) elt (cE T X scope elt) := ⟨fun pins s' σ H' Q I ⟨B, Γ, Γ', d, h, q⟩ => (h s H C cl fp B).run pins s' σ H' Q I q⟩
/-- [elt for tg in iter if ..] -/
theorem de_comp (own : List (Str × Nat)) (ks : List Nat) (hi : DI T X tg Γ iter Γ1 ds) (hb : BlkOk X.N X.env.scope scope own) (hN : X.N.Nodup) (hg : BG T X scope tg ks) (hk : ks.all (own.map (·.2)).contains = true) (hcr : CompR T X scope (own.map (·.2)) ks ifs elt ds Γ1 rs Γ2)
    (hc : X.calm = true := by rfl) (hs : ∀ x, foldedSetIterable iter X.env x = pure x := by intro _; rfl) : DE T X Γ (.ListComp elt [⟨tg, iter, ifs, 0⟩] scope pos) Γ2 (.list rs) := fun B =>
  pe_imp (pe_lc hc hN (hi B) hb (bg_pg hg) bt_pts be_pe hs) fun σ H Q h => tLc_by B (fun _ _ _ z => z) hk hcr h
/-- name = [..] on one line, the name a local -/
theorem ds_setLc (i : Nat) {y : Str} {py spos : Pos} (own : List (Str × Nat)) (ks : List Nat) (hi : DI T X tg Γ iter Γ1 ds) (hb : BlkOk X.N X.env.scope scope own) (hN : X.N.Nodup) (hg : BG T X scope tg ks) (hk : ks.all (own.map (·.2)).contains = true) (hcr : CompR T X scope (own.map (·.2)) ks ifs elt ds Γ1 rs Γ2)
    (hsw : swapsWith (.ListComp elt [⟨tg, iter, ifs, 0⟩] scope pos) (some (.Name y py)) spos.line X.env = pure true) (hy : X.N[i]? = some y := by rfl) (hyl : X.env.scope.names.lookup y = some .local := by rfl)
    (hc : X.calm = true := by rfl) (hs : ∀ x, foldedSetIterable iter X.env x = pure x := by intro _; rfl) : DS T X Γ (.Assign [.Name y py] (.ListComp elt [⟨tg, iter, ifs, 0⟩] scope pos) spos) (.nx (Γ2.set i (.dat (.list rs)))) := fun B =>
  ps_imp (ps_setLc hc hN hy hyl hsw (hi B) hb (bg_pg hg) bt_pts be_pe hs) fun D σ H ⟨F, o, q⟩ => tLc_by B (fun _ _ _ z => z) hk hcr ⟨F, o, fun F' H' v o' s' r' => q F' _ H' (o'.setDat r') s'⟩
end
end Dd
end
section
/-! Dd7: a def keeps its promise by data. -/
namespace Dd
open PySem PySem.Spec PyProof.Rows L2
section
variable {T : Tb} {P : Program} {w : World} {K : PySem.W.Frag} {mg : Str → Option Value} {base : Heap}
def OutR (o : Out) (d : PyData) : Prop := match o with
  | .ret _ d' => d' = d
  | .nx _ => d = .none
theorem by_out {X : Cx} {Γ : Ga} {sts : List Stmt} {o : Out} {d : PyData} (h : DSs T X Γ sts o) (e : OutR o d) : ∃ o, DSs T X Γ sts o ∧ OutR o d := ⟨o, h, e⟩
def ga0 (N : List Str) (ds : List PyData) : Ga := ds.map .dat ++ List.replicate (N.length - ds.length) .un
theorem dpa_dat {F : Hp} {vs : List V} {ds : List PyData} (h : DpAll K F vs ds) {i : Nat} {s : Sl} (e : (ds.map Sl.dat)[i]? = some s) : ∃ v d, vs[i]? = some v ∧ s = .dat d ∧ Dp K F v d := by
  rw [List.getElem?_map] at e
  cases q : ds[i]? with
  | none =>
    rw [q] at e
    cases e
  | some d =>
    rw [q] at e
    cases e
    obtain ⟨v, h1, h2⟩ := dpa_get h q
    exact ⟨v, d, h1, rfl, h2⟩
theorem start_ok {F H : Hp} {vs : List V} {ds : List PyData} {N : List Str} (g : Gd T F H) (h : DpAll K F vs ds) (hl : ds.length ≤ N.length) : Ok ⟨P, w, K, T⟩ ⟨F, H, NoM⟩ (ga0 N ds) F (L2.start N vs) H := by
  have hv := dpa_len h
  refine ⟨Nx.refl g, ?_, fun i s e => ?_, fun i j s t a e1 e2 o1 _ _ _ => ?_⟩
  · unfold ga0 L2.start
    rw [List.length_append, List.length_append, List.length_map, List.length_map, List.length_replicate, List.length_replicate, hv]
  · unfold ga0 at e
    unfold L2.start
    by_cases hi : i < ds.length
    · rw [List.getElem?_append_left (by rw [List.length_map]; exact hi)] at e
      obtain ⟨v, d, h1, rfl, h2⟩ := dpa_dat h e
      rw [List.getElem?_append_left (by rw [List.length_map, hv]; exact hi), List.getElem?_map, h1]
      exact ⟨_, rfl, v, rfl, h2⟩
    · rw [List.getElem?_append_right (by rw [List.length_map]; omega), List.getElem?_replicate, List.length_map] at e
      split at e
      · cases e
        rename_i hq
        rw [List.getElem?_append_right (by rw [List.length_map, hv]; omega), List.getElem?_replicate, List.length_map, hv, if_pos hq]
        exact ⟨_, rfl, trivial⟩
      · cases e
  · exfalso
    unfold ga0 at e1
    rcases List.mem_append.mp (List.mem_of_getElem? e1) with m | m
    · obtain ⟨d, _, rfl⟩ := List.mem_map.mp m
      cases o1
    · have := List.eq_of_mem_replicate m
      subst this
      cases o1
theorem fn_pure {x : Str} {st : Stmt} {f : Addr} {fd : FuncData} {N ps : List Str} {k : Nat} {R : Rl} (F : Fun K x x st f fd) (S : FnScope N ps (defScope st)) (len : ∀ ds d, R ds d → ds.length = ps.length)
    (body : ∀ ds d, R ds d → ∀ (cdv : Value) (A : Around) (outer : List Env) (s : Shared) (H : Hp) (E : XK), Room k (A.deeper (envOfC x (defScope st) s.heap.objs.size f cdv)) →
      ∃ o, DSs T (cxOf CX0 P w K mg base N x (defScope st) f cdv A outer s H E).nox (ga0 N ds) (defBody st) o ∧ OutR o d) : FnOk P w K mg base CX0 (k + 1) f fd ps (SpD T K R) := by
  have hpl : ps.length ≤ N.length := by
    have := congrArg List.length S.pre
    rw [List.length_take] at this
    omega
  refine F.ok S (fun vs H Q E h => ?_) (fun cdv A outer s H vs Q E hr h => ?_)
  · obtain ⟨F0, ds, d, g, r, hR, _⟩ := h
    rw [dpa_len r]
    exact len _ _ hR
  · obtain ⟨F0, ds, d, g, r, hR, q⟩ := h
    obtain ⟨o, hb, ho⟩ := body ds d hR cdv A outer s H E hr
    refine ⟨_, hb ⟨F0, H, NoM⟩, F0, start_ok g r (by rw [len _ _ hR]; exact hpl), ?_⟩
    cases o with
    | nx Γ =>
      have e : d = .none := ho
      subst e
      exact fun F' σ' H' o' s' => q F' H' .non o'.nx .non
    | ret Γ d' =>
      have e : d' = d := ho
      subst e
      exact fun F' σ' H' v o' s' r' => q F' H' v o'.nx r'
/-- a def that changes the list that it is given first -/
def OutM (o : Out) (a : Addr) (st' : List PyData) (d : PyData) : Prop := match o with
  | .ret Γ d' => d' = d ∧ Γ[0]? = some (.lst (some a) st')
  | .nx Γ => d = .none ∧ Γ[0]? = some (.lst (some a) st')
theorem by_outM {X : Cx} {Γ : Ga} {sts : List Stmt} {o : Out} {a : Addr} {st' : List PyData} {d : PyData} (h : DSs T X Γ sts o) (e : OutM o a st' d) : ∃ o, DSs T X Γ sts o ∧ OutM o a st' d := ⟨o, h, e⟩
def gaM (N : List Str) (a : Addr) (st ds : List PyData) : Ga := .lst (some a) st :: (ds.map .dat ++ List.replicate (N.length - ds.length - 1) .un)
theorem startM_ok {F H : Hp} {a : Addr} {xs vs : List V} {st ds : List PyData} {N : List Str} (g : Gd T F H) (hf : F a = none) (ha : H a = some (.lst xs)) (hx : DpAll K F xs st) (h : DpAll K F vs ds) (hl : ds.length + 1 ≤ N.length) :
    Ok ⟨P, w, K, T⟩ ⟨F, H, fun b => b = a⟩ (gaM N a st ds) F (L2.start N (.ref a :: vs)) H := by
  have hv := dpa_len h
  have own : ∀ i s, (gaM N a st ds)[i]? = some s → isOwn s = true → i = 0 := fun i s e o1 => by
    cases i with
    | zero => rfl
    | succ i =>
      exfalso
      unfold gaM at e
      rw [List.getElem?_cons_succ] at e
      rcases List.mem_append.mp (List.mem_of_getElem? e) with m | m
      · obtain ⟨d, _, rfl⟩ := List.mem_map.mp m
        cases o1
      · have := List.eq_of_mem_replicate m
        subst this
        cases o1
  refine ⟨Nx.refl g, ?_, fun i s e => ?_, fun i j s t b e1 e2 o1 o2 _ _ => (own i s e1 o1).trans (own j t e2 o2).symm⟩
  · unfold gaM L2.start
    simp only [List.length_append, List.length_cons, List.length_map, List.length_replicate, hv]
    omega
  · unfold gaM at e
    unfold L2.start
    cases i with
    | zero =>
      cases e
      exact ⟨some (.ref a), rfl, a, xs, rfl, ⟨hf, .inr rfl⟩, ha, hx, fun b z => Option.some.inj z⟩
    | succ i =>
      rw [List.getElem?_cons_succ] at e
      rw [List.map_cons, List.cons_append, List.getElem?_cons_succ]
      by_cases hi : i < ds.length
      · rw [List.getElem?_append_left (by rw [List.length_map]; exact hi)] at e
        obtain ⟨v, d, h1, rfl, h2⟩ := dpa_dat h e
        rw [List.getElem?_append_left (by rw [List.length_map, hv]; exact hi), List.getElem?_map, h1]
        exact ⟨_, rfl, v, rfl, h2⟩
      · rw [List.getElem?_append_right (by rw [List.length_map]; omega), List.getElem?_replicate, List.length_map] at e
        split at e
        · cases e
          rename_i hq
          rw [List.getElem?_append_right (by rw [List.length_map, hv]; omega), List.getElem?_replicate, List.length_map, hv, List.length_cons, hv, if_pos (by omega)]
          exact ⟨_, rfl, trivial⟩
        · cases e
theorem fn_mut {x : Str} {st : Stmt} {f : Addr} {fd : FuncData} {N ps : List Str} {k : Nat} {R : Rm} (F : Fun K x x st f fd) (S : FnScope N ps (defScope st)) (len : ∀ a b c d, R a b c d → b.length + 1 = ps.length)
    (body : ∀ a b c d, R a b c d → ∀ (ad : Addr) (cdv : Value) (A : Around) (outer : List Env) (s : Shared) (H : Hp) (E : XK), Room k (A.deeper (envOfC x (defScope st) s.heap.objs.size f cdv)) →
      ∃ o, DSs T (cxOf CX0 P w K mg base N x (defScope st) f cdv A outer s H E).nox (gaM N ad a b) (defBody st) o ∧ OutM o ad c d) : FnOk P w K mg base CX0 (k + 1) f fd ps (SpM T K R) := by
  have hpl : ps.length ≤ N.length := by
    have := congrArg List.length S.pre
    rw [List.length_take] at this
    omega
  refine F.ok S (fun vs H Q E h => ?_) (fun cdv A outer s H vs Q E hr h => ?_)
  · obtain ⟨F0, a, xs, us, st, ds, st', d, rfl, g, hf, ha, hx, r, hR, q⟩ := h
    rw [List.length_cons, dpa_len r]
    exact len _ _ _ _ hR
  · obtain ⟨F0, a, xs, us, st, ds, st', d, rfl, g, hf, ha, hx, r, hR, q⟩ := h
    obtain ⟨o, hb, ho⟩ := body st ds st' d hR a cdv A outer s H E hr
    have fin : ∀ {Γ' : Ga} {F' H' : Hp} {σ' : L2.St} {v : V}, Ok ⟨P, w, K, T⟩ ⟨F0, H, fun b => b = a⟩ Γ' F' σ' H' → Γ'[0]? = some (.lst (some a) st') → Dp K F' v d → Q v H' := fun {Γ' F' H' σ' v} o' e r' => by
      obtain ⟨u, h1, b, xs', e1, ⟨e2, e3⟩, e4, e5, e6⟩ := o'.sl 0 _ e
      have eb := e6 a rfl
      subst eb
      exact q F' H' v xs' o'.nx e2 e4 e5 r'
    refine ⟨_, hb ⟨F0, H, fun b => b = a⟩, F0, startM_ok g hf ha hx r (by rw [len _ _ _ _ hR]; exact hpl), ?_⟩
    cases o with
    | nx Γ =>
      obtain ⟨e, e2⟩ : d = .none ∧ Γ[0]? = some (Sl.lst (some a) st') := ho
      subst e
      exact fun F' σ' H' o' s' => fin o' e2 .non
    | ret Γ d' =>
      obtain ⟨e, e2⟩ : d' = d ∧ Γ[0]? = some (Sl.lst (some a) st') := ho
      subst e
      exact fun F' σ' H' v o' s' r' => fin o' e2 r'
end
end Dd
end
section
/-! Dd8: rules in the form that the tactic takes. -/
namespace Dd
open PySem PySem.Spec PyProof.Rows L2
section
variable {T : Tb} {X : Cx} {Γ Γ1 Γ2 Γ3 : Ga} {e a b c : Expr} {es rest : List Expr} {d d1 d2 d3 : PyData} {ds : List PyData} {pos p p1 p2 : Pos} {k k2 : Bool} {n : Nat}
def AndE (T : Tb) (X : Cx) (Γ1 : Ga) (k : Bool) (e : Expr) (Γ2 : Ga) (d : PyData) : Prop := (k = true ∧ DE T X Γ1 e Γ2 d) ∨ (k = false ∧ Γ2 = Γ1 ∧ d = .bool false)
def OrE (T : Tb) (X : Cx) (Γ1 : Ga) (k : Bool) (e : Expr) (Γ2 : Ga) (d : PyData) : Prop := (k = false ∧ DE T X Γ1 e Γ2 d) ∨ (k = true ∧ Γ2 = Γ1 ∧ d = .bool true)
def AndW (T : Tb) (X : Cx) (Γ1 : Ga) (k : Bool) (e : Expr) (Γ2 : Ga) (d : Bool) : Prop := (k = true ∧ DW T X Γ1 e Γ2 d) ∨ (k = false ∧ Γ2 = Γ1 ∧ d = false)
def OrW (T : Tb) (X : Cx) (Γ1 : Ga) (k : Bool) (e : Expr) (Γ2 : Ga) (d : Bool) : Prop := (k = false ∧ DW T X Γ1 e Γ2 d) ∨ (k = true ∧ Γ2 = Γ1 ∧ d = true)
theorem de_and' (h : DE T X Γ a Γ1 (.bool k)) (t : AndE T X Γ1 k (.BoolOp .And (b :: rest) pos) Γ2 d) : DE T X Γ (.BoolOp .And (a :: b :: rest) pos) Γ2 d := by
  rcases t with ⟨rfl, t⟩ | ⟨rfl, rfl, rfl⟩
  · exact de_andT h t
  · exact de_andF h
theorem de_or' (h : DE T X Γ a Γ1 (.bool k)) (t : OrE T X Γ1 k (.BoolOp .Or (b :: rest) pos) Γ2 d) : DE T X Γ (.BoolOp .Or (a :: b :: rest) pos) Γ2 d := by
  rcases t with ⟨rfl, t⟩ | ⟨rfl, rfl, rfl⟩
  · exact de_orF h t
  · exact de_orT h
theorem dw_and' (h : DT T X Γ a Γ1 k) (t : AndW T X Γ1 k (.BoolOp .And (b :: rest) pos) Γ2 k2) : DW T X Γ (.BoolOp .And (a :: b :: rest) pos) Γ2 k2 := by
  rcases t with ⟨rfl, t⟩ | ⟨rfl, rfl, rfl⟩
  · exact dw_andT h t
  · exact dw_andF h
theorem dw_or' (h : DT T X Γ a Γ1 k) (t : OrW T X Γ1 k (.BoolOp .Or (b :: rest) pos) Γ2 k2) : DW T X Γ (.BoolOp .Or (a :: b :: rest) pos) Γ2 k2 := by
  rcases t with ⟨rfl, t⟩ | ⟨rfl, rfl, rfl⟩
  · exact dw_orF h t
  · exact dw_orT h
def IfX (T : Tb) (X : Cx) (Γ1 : Ga) (k : Bool) (a b : Expr) (Γ2 : Ga) (d : PyData) : Prop := (k = true ∧ DE T X Γ1 a Γ2 d) ∨ (k = false ∧ DE T X Γ1 b Γ2 d)
theorem de_if' (h : DT T X Γ c Γ1 k) (t : IfX T X Γ1 k a b Γ2 d) : DE T X Γ (.IfExp c a b pos) Γ2 d := by
  rcases t with ⟨e, t⟩ | ⟨e, t⟩
  · exact de_ifT h e t
  · exact de_ifF h e t
theorem ifx_T (hk : k = true) (h : DE T X Γ1 a Γ2 d) : IfX T X Γ1 k a b Γ2 d := .inl ⟨hk, h⟩
theorem ifx_F (hk : k = false) (h : DE T X Γ1 b Γ2 d) : IfX T X Γ1 k a b Γ2 d := .inr ⟨hk, h⟩
theorem andE_T (hk : k = true) (h : DE T X Γ1 e Γ2 d) : AndE T X Γ1 k e Γ2 d := .inl ⟨hk, h⟩
theorem andE_F (hk : k = false) : AndE T X Γ1 k e Γ1 (.bool false) := .inr ⟨hk, rfl, rfl⟩
theorem orE_F (hk : k = false) (h : DE T X Γ1 e Γ2 d) : OrE T X Γ1 k e Γ2 d := .inl ⟨hk, h⟩
theorem orE_T (hk : k = true) : OrE T X Γ1 k e Γ1 (.bool true) := .inr ⟨hk, rfl, rfl⟩
theorem andW_T (hk : k = true) (h : DW T X Γ1 e Γ2 k2) : AndW T X Γ1 k e Γ2 k2 := .inl ⟨hk, h⟩
theorem andW_F (hk : k = false) : AndW T X Γ1 k e Γ1 false := .inr ⟨hk, rfl, rfl⟩
theorem orW_F (hk : k = false) (h : DW T X Γ1 e Γ2 k2) : OrW T X Γ1 k e Γ2 k2 := .inl ⟨hk, h⟩
theorem orW_T (hk : k = true) : OrW T X Γ1 k e Γ1 true := .inr ⟨hk, rfl, rfl⟩
/-- what follows a block -/
def SeqE (T : Tb) (X : Cx) (o1 : Out) (rest : List Stmt) (o : Out) : Prop := match o1 with
  | .nx Γ => DSs T X Γ rest o
  | .ret Γ d => o = .ret Γ d
theorem seq_nx {rest : List Stmt} {o : Out} (h : DSs T X Γ rest o) : SeqE T X (.nx Γ) rest o := h
theorem seq_ret {rest : List Stmt} : SeqE T X (.ret Γ d) rest (.ret Γ d) := rfl
theorem dss_seq {st : Stmt} {rest : List Stmt} {o1 o : Out} (h : DS T X Γ st o1) (t : SeqE T X o1 rest o) : DSs T X Γ (st :: rest) o := by
  cases o1 with
  | nx Γ1 => exact dss_cons h t
  | ret Γ1 d =>
    have e : o = .ret Γ1 d := t
    subst e
    exact dss_ret h
def IfE (T : Tb) (X : Cx) (Γ1 : Ga) (k : Bool) (th el rest : List Stmt) (o : Out) : Prop := (k = true ∧ ∃ o1, DSs T X Γ1 th o1 ∧ SeqE T X o1 rest o) ∨ (k = false ∧ ∃ o1, DSs T X Γ1 el o1 ∧ SeqE T X o1 rest o)
theorem ife_T {th el rest : List Stmt} {o1 o : Out} (hk : k = true) (h : DSs T X Γ1 th o1) (t : SeqE T X o1 rest o) : IfE T X Γ1 k th el rest o := .inl ⟨hk, o1, h, t⟩
theorem ife_F0 {th rest : List Stmt} {o : Out} (hk : k = false) (t : DSs T X Γ1 rest o) : IfE T X Γ1 k th [] rest o := .inr ⟨hk, _, dss_nil, t⟩
theorem ife_F {th el rest : List Stmt} {o1 o : Out} (hk : k = false) (h : DSs T X Γ1 el o1) (t : SeqE T X o1 rest o) : IfE T X Γ1 k th el rest o := .inr ⟨hk, o1, h, t⟩
theorem dss_if {th el rest : List Stmt} {o : Out} (h : DT T X Γ c Γ1 k) (t : IfE T X Γ1 k th el rest o) : DSs T X Γ (.If c th el pos :: rest) o := by
  rcases t with ⟨e, o1, h1, t⟩ | ⟨e, o1, h1, t⟩
  · exact dss_seq (ds_ifT h e h1) t
  · exact dss_seq (ds_ifF h e h1) t

/-! ### two names at once -/
theorem ds_par (i j : Nat) {x y : Str} {px py pt pt2 : Pos} {kt k2 : Nat} (h : DA T X Γ [a, b] Γ1 [d1, d2]) (hc : X.calm = true) (hN : X.N.Nodup) (hi : X.N[i]? = some x := by rfl) (hj : X.N[j]? = some y := by rfl) (hij : i ≠ j := by decide)
    (hx : X.env.scope.names.lookup x = some .local := by rfl) (hy : X.env.scope.names.lookup y = some .local := by rfl) (hs : swapsWithSole [.Tuple [.Name x px, .Name y py] kt pt] (.Tuple [a, b] k2 pt2) pos.line X.env = pure false := by rfl)
    (hw : swappedStores [.Tuple [.Name x px, .Name y py] kt pt] (.Tuple [a, b] k2 pt2) X.env = pure (some [x, y]) := by rfl) : DS T X Γ (.Assign [.Tuple [.Name x px, .Name y py] kt pt] (.Tuple [a, b] k2 pt2) pos) (.nx ((Γ1.set i (.dat d1)).set j (.dat d2))) := fun B =>
  ps_imp (ps_par hc hN hi hj hij hx hy (h B) hw hs) fun D σ H ⟨F, o, q⟩ => ⟨F, o, fun F' H' vs o' s' r' => by
    cases r' with
    | cons h1 r' =>
      cases r' with
      | cons h2 r' =>
        cases r'
        exact ⟨_, _, rfl, q F' _ H' ((o'.setDat h1).setDat h2) s'⟩⟩
theorem not_t (h : k = false) : (!k) = true := by rw [h] <;> rfl
theorem not_f (h : k = true) : (!k) = false := by rw [h] <;> rfl
end
end Dd
end
section
/-! Dd9: texts sign by sign, all(..), slices of tuples, comprehensions that map. -/
namespace Dd
open PySem PySem.Spec PyProof.Rows L2
section
variable {T : Tb} {X : Cx} {Γ Γ1 Γ2 Γ3 : Ga} {e a b c tg elt : Expr} {es rest ifs : List Expr} {d d1 d2 d3 : PyData} {ds : List PyData} {pos p p1 p2 : Pos} {k k2 : Bool} {n : Nat}
/-! ### a text, sign by sign -/
def signsD (x : Str) : List PyData := x.cps.toList.map fun c => .str ⟨#[c]⟩
theorem it_str {K : PySem.W.Frag} {F : Hp} {x : Str} (hx : x.length ≤ 100000) : ItOk T K (Its x) F (signsD x) where
  few := by
    unfold signsD
    rw [List.length_map, Array.length_toList]
    exact Nat.le_trans hx (by decide)
  stop := fun i F1 H1 g s hi0 => have hi := Nat.le_of_eq hi0.symm; by
    unfold signsD at hi
    show x.cps.size ≤ i
    simpa using hi
  go := fun i F1 H1 g s hi => by
    unfold signsD at hi
    show i < x.cps.size
    simpa using hi
  yld := fun i F1 H1 v H2 g s ⟨e, c, hc, hv⟩ d hd => by
    subst e hv
    unfold signsD at hd
    rw [List.getElem?_map, Array.getElem?_toList, hc] at hd
    cases hd
    exact ⟨F1, Nx.refl g, .str _⟩
theorem di_str {x : Str} (he : DE T X Γ e Γ1 (.str x)) (hx : x.length ≤ 100000) : DI T X tg Γ e Γ1 (signsD x) := fun B => pi_imp (pi_str (he B)) fun σ H R ⟨F, o, q⟩ => ⟨F, o, fun F' H' v o' s' r' => by
  cases r'
  exact ⟨x, rfl, q F' H' _ o' s' (it_str hx)⟩⟩
theorem rd_inSign {K : PySem.W.Frag} {z : Nat} {x : Str} : RD T K (fun x y H Q => ∃ (c : Nat) (z : Str), x = .str ⟨#[c]⟩ ∧ y = .str z ∧ Q (.bl (decide (c ∈ z.cps.toList))) H) (.str ⟨#[z]⟩) (.str x) (.bool (decide (z ∈ x.cps.toList))) := fun F H v1 v2 Q g r1 r2 q => by
  cases r1
  cases r2
  exact ⟨z, x, rfl, rfl, q F H _ (Nx.refl g) (.bl _)⟩

/-! ### all -/
theorem bools_true : ∀ {ds : List PyData}, (∀ d ∈ ds, d = .bool true) → ∃ bs : List Bool, ds = bs.map .bool ∧ bs.all id = true
  | [], _ => ⟨[], rfl, rfl⟩
  | d :: ds, h => by
    obtain ⟨bs, e1, e2⟩ := bools_true fun x hx => h x (List.mem_cons_of_mem _ hx)
    have e := h d List.mem_cons_self
    subst e
    refine ⟨true :: bs, by rw [e1]; rfl, ?_⟩
    rw [List.all_cons, e2] <;> rfl
theorem rc_allT {K : PySem.W.Frag} (h : ∀ d ∈ ds, d = .bool true) : RC T K (rAll K) [.list ds] (.bool true) := by
  obtain ⟨bs, e1, e2⟩ := bools_true h
  have r := rc_all (T := T) (K := K) (bs := bs)
  rw [e2] at r
  rw [e1]
  exact r

/-! ### slices of tuples -/
def cutD (ds : List PyData) (lo hi : Option Int) : List PyData := (ds.drop (HT.sIx ds.length 0 lo)).take (HT.sIx ds.length ds.length hi - HT.sIx ds.length 0 lo)
def DO (T : Tb) (X : Cx) (Γ : Ga) (e : Option Expr) (o : Option Int) : Prop := ∃ t : Bs → TO, (∀ B, PO X e (t B)) ∧ ∀ B F σ H (Q : Option Int → Hp → Prop), Ok (wd T X) B Γ F σ H → (∀ F' H', Ok (wd T X) B Γ F' σ H' → Same F F' → Q o H') → t B σ H Q
theorem do_none : DO T X Γ none none := ⟨fun _ => tNoPart, fun _ => po_none, fun B F σ H Q o q => q F H o (Same.refl F)⟩
theorem do_some {i : Int} (h : DE T X Γ e Γ (.int i)) : DO T X Γ (some e) (some i) := ⟨fun B => tPart (tD (wd T X) B Γ Γ (.int i)), fun B => po_some (h B), fun B F σ H Q o q => ⟨F, o, fun F' H' v o' s' r' => by
  cases r'
  exact ⟨i, rfl, q F' H' o' s'⟩⟩⟩
theorem cutV_dpa {K : PySem.W.Frag} {F : Hp} {xs : List V} (h : DpAll K F xs ds) (lo hi : Option Int) : DpAll K F (cutV xs lo hi) (cutD ds lo hi) := by
  unfold cutV cutD
  rw [dpa_len h]
  exact dpa_take _ (dpa_drop _ h)
theorem de_slice {lo hi : Option Expr} {i j : Option Int} (ha : DE T X Γ a Γ1 (.tuple ds)) (hl : DO T X Γ1 lo i) (hh : DO T X Γ1 hi j) (ht : thinD (cutD ds i j) = false) : DE T X Γ (.Subscript a (.Slice lo hi none p2) pos) Γ1 (.tuple (cutD ds i j)) := by
  obtain ⟨t1, h1, q1⟩ := hl
  obtain ⟨t2, h2, q2⟩ := hh
  exact fun B => pe_imp (pe_slice sl_tupA (ha B) (h1 B) (h2 B)) fun σ H Q ⟨F, o, q⟩ => ⟨F, o, fun F1 H1 v o1 s1 r1 => q1 B F1 σ H1 _ o1 fun F2 H2 o2 s2 => q2 B F2 σ H2 _ o2 fun F3 H3 o3 s3 => by
    cases r1 with
    | tup s t =>
      rename_i ad xs
      have s' := sqt_same (s2.trans s3) s
      have t' := dpa_same (s2.trans s3) t
      refine ⟨ad, xs, rfl, sqt_same o3.gd.fh s', fun hw => ?_, fun _ p hp => ?_⟩
      · have e : cutD ds i j = ds := by
          unfold cutD
          rw [← dpa_len t, hw.1, hw.2, List.drop_zero, Nat.sub_zero, dpa_len t, List.take_length]
        exact q F3 H3 _ o3 ((s1.trans s2).trans s3) (by rw [e]; exact .tup s' t')
      · have hz : (cutV xs i j).length ≤ sizeLine := Nat.le_trans (cutV_length xs i j) (o3.gd.sqt s')
        have n : Nx T NoM F3 H3 (upd F3 p (.tup (cutV xs i j))) (upd H3 p (.tup (cutV xs i j))) := Nx.newF o3.gd hp ⟨hz, (thin_eq (cutV_dpa t' i j)).trans ht⟩
        exact q _ _ _ (o3.next n) (((s1.trans s2).trans s3).trans n.ff) (dp_tup upd_same (dpa_same n.ff (cutV_dpa t' i j)))⟩

/-! ### comprehensions that map -/
variable {scope : Scope} {vs ks : List Nat}
theorem compR_map (f : PyData → PyData) (hk : ks.all vs.contains = true) (ho : noOwn vs Γ = true) :
    ∀ {ds : List PyData}, (∀ d ∈ ds, ∃ ps, parts ks d = some ps ∧ BE T X scope (setG (wipeG vs 0 Γ) ks ps) elt (setG (wipeG vs 0 Γ) ks ps) (f d)) → CompR T X scope vs ks [] elt ds Γ (ds.map f) Γ
  | [], _ => .nil Γ
  | d :: ds, h => by
    obtain ⟨ps, h1, h2⟩ := h d List.mem_cons_self
    refine .keep h1 ho bt_nil h2 ?_
    rw [restG_self vs ks hk]
    exact compR_map f hk ho fun x hx => h x (List.mem_cons_of_mem _ hx)
theorem compR_all (hk : ks.all vs.contains = true) (ho : noOwn vs Γ = true)
    (h : ∀ d ∈ ds, ∃ ps, parts ks d = some ps ∧ BE T X scope (setG (wipeG vs 0 Γ) ks ps) elt (setG (wipeG vs 0 Γ) ks ps) (.bool true)) : CompR T X scope vs ks [] elt ds Γ (ds.map fun _ => .bool true) Γ := compR_map _ hk ho h
theorem all_true {ds : List PyData} : ∀ d ∈ ds.map (fun _ => PyData.bool true), d = .bool true := fun d h => by
  obtain ⟨x, _, rfl⟩ := List.mem_map.mp h
  rfl
/-- a comprehension over pairs of a list of one's own -/
theorem compR_mapL {α : Type} (g : α → PyData) (f : α → PyData) (hk : ks.all vs.contains = true) (ho : noOwn vs Γ = true) :
    ∀ {l : List α}, (∀ x ∈ l, ∃ ps, parts ks (g x) = some ps ∧ BE T X scope (setG (wipeG vs 0 Γ) ks ps) elt (setG (wipeG vs 0 Γ) ks ps) (f x)) → CompR T X scope vs ks [] elt (l.map g) Γ (l.map f) Γ
  | [], _ => .nil Γ
  | d :: ds, h => by
    obtain ⟨ps, h1, h2⟩ := h d List.mem_cons_self
    refine .keep h1 ho bt_nil h2 ?_
    rw [restG_self vs ks hk]
    exact compR_mapL g f hk ho fun x hx => h x (List.mem_cons_of_mem _ hx)
end
end Dd
end
section
/-! Dd10: dicts by data: what the operations do. -/
namespace Dd
open PySem PySem.Spec PyProof.Rows L2

/-! ### keys -/
mutual
theorem nis_of {h : Heap} : ∀ {k : NestedKey} {u : Value} {as : List Addr}, Reads h u k.data as → NestedIs h k u
  | .none, _, _, r => by
    simp only [NestedKey.data] at r
    cases r
    exact .none
  | .num i, _, _, r => by
    simp only [NestedKey.data] at r
    cases r
    exact .int _ _
  | .text x, _, _, r => by
    simp only [NestedKey.data] at r
    cases r
    exact .text _ _
  | .tup ks, _, _, r => by
    simp only [NestedKey.data] at r
    cases r with
    | tuple h1 h2 h3 h4 => exact .tup h1 h2 h3 (nall_of h4)
theorem nall_of {h : Heap} : ∀ {ks : List NestedKey} {us : List Value} {as : List Addr}, ReadsAll h us (NestedKey.datas ks) as → NestedAll h ks us
  | [], _, _, r => by
    simp only [NestedKey.datas] at r
    cases r
    exact .nil
  | k :: ks, _, _, r => by
    simp only [NestedKey.datas] at r
    cases r with
    | cons a b => exact .cons (nis_of a) (nall_of b)
end
/-- the keys that a dict of this kind takes -/
def keyOk : Bool → NestedKey → Bool
  | false, .num _ => true
  | true, .tup ks => decide ((NestedKey.tup ks).depth ≤ 8)
  | _, _ => false
def dget (kvs : List (NestedKey × PyData)) (k : NestedKey) : Option PyData := (kvs.find? fun q => decide (q.1 = k)).map (·.2)
def putAtD (k : NestedKey) (d : PyData) (q : NestedKey × PyData) : NestedKey × PyData := if q.1 = k then (q.1, d) else q
def dput (kvs : List (NestedKey × PyData)) (k : NestedKey) (d : PyData) : List (NestedKey × PyData) := if (dget kvs k).isSome then kvs.map (putAtD k d) else kvs ++ [(k, d)]
theorem dput_len (kvs : List (NestedKey × PyData)) (k : NestedKey) (d : PyData) : (dput kvs k d).length ≤ kvs.length + 1 := by
  unfold dput
  split
  · rw [List.length_map]
    exact Nat.le_succ _
  · rw [List.length_append]
    exact Nat.le_refl _
theorem dget_pos {q : NestedKey × PyData} {kvs : List (NestedKey × PyData)} {k : NestedKey} (h : q.1 = k) : dget (q :: kvs) k = some q.2 := by simp [dget, List.find?_cons, h]
theorem dget_neg {q : NestedKey × PyData} {kvs : List (NestedKey × PyData)} {k : NestedKey} (h : ¬ q.1 = k) : dget (q :: kvs) k = dget kvs k := by simp [dget, List.find?_cons, h]
theorem atk_pos {q : NestedKey × Addr × Value} {kvs : List (NestedKey × Addr × Value)} {k : NestedKey} (h : q.1 = k) : atKey (q :: kvs) k = some q.2 := by simp [atKey, List.find?_cons, h]
theorem atk_neg {q : NestedKey × Addr × Value} {kvs : List (NestedKey × Addr × Value)} {k : NestedKey} (h : ¬ q.1 = k) : atKey (q :: kvs) k = atKey kvs k := by simp [atKey, List.find?_cons, h]
theorem nd_len {K : PySem.W.Frag} {F : Hp} : ∀ {xs : List (NestedKey × Addr × Value)} {kvs : List (NestedKey × PyData)}, Paired (NdR K F) xs kvs → xs.length = kvs.length
  | _, _, .nil => rfl
  | _, _, .cons _ t => by rw [List.length_cons, List.length_cons, nd_len t]
theorem dk_len {K : PySem.W.Frag} {F : Hp} : ∀ {xs : List (Key × V)} {kvs : List (NestedKey × PyData)}, Paired (DkR K F) xs kvs → xs.length = kvs.length
  | _, _, .nil => rfl
  | _, _, .cons _ t => by rw [List.length_cons, List.length_cons, dk_len t]
section
variable {K : PySem.W.Frag} {F : Hp} {k : NestedKey} {d : PyData}
/-- the entry of a key -/
theorem nd_get : ∀ {xs : List (NestedKey × Addr × Value)} {kvs : List (NestedKey × PyData)}, Paired (NdR K F) xs kvs →
    (dget kvs k = none ∧ atKey xs k = none) ∨ ∃ d p v, dget kvs k = some d ∧ atKey xs k = some p ∧ RelV v p.2 ∧ Dp K F v d
  | _, _, .nil => .inl ⟨rfl, rfl⟩
  | _, _, .cons (a := x) (b := q) (l₁ := xs) (l₂ := kvs) r t => by
    have e := r.key
    by_cases h : q.1 = k
    · right
      obtain ⟨v, h1, h2⟩ := r.val
      exact ⟨q.2, x.2, v, dget_pos h, atk_pos (e.trans h), h1, h2⟩
    · rw [dget_neg h, atk_neg fun z => h (e.symm.trans z)]
      exact nd_get t
theorem nd_map {v : V} {u : Value} (r : RelV v u) (h : Dp K F v d) : ∀ {xs : List (NestedKey × Addr × Value)} {kvs : List (NestedKey × PyData)}, Paired (NdR K F) xs kvs → Paired (NdR K F) (xs.map (putAt k u)) (kvs.map (putAtD k d))
  | _, _, .nil => .nil
  | _, _, .cons (a := x) (b := q) (l₁ := xs) (l₂ := kvs) z t => by
    refine .cons ?_ (nd_map r h t)
    have e := z.key
    unfold putAt putAtD
    by_cases hk : q.1 = k
    · rw [if_pos hk, if_pos (e.trans hk)]
      exact ⟨e, z.dep, z.dat, v, r, h⟩
    · rw [if_neg hk, if_neg (fun y => hk (e.symm.trans y))]
      exact z
theorem nd_put {xs : List (NestedKey × Addr × Value)} {kvs : List (NestedKey × PyData)} (t : Paired (NdR K F) xs kvs) {b : Addr} {v : V} {u : Value} (hk : Dp K F (.ref b) k.data) (hd : k.depth ≤ 8) (r : RelV v u) (h : Dp K F v d) : Paired (NdR K F) (storedH xs k b u) (dput kvs k d) := by
  rcases nd_get (k := k) t with ⟨e1, e2⟩ | ⟨d0, p, v0, e1, e2, _⟩
  · unfold storedH dput
    rw [e1, e2, if_neg (by decide), if_neg (by decide)]
    exact t.snoc ⟨rfl, hd, hk, v, r, h⟩
  · unfold storedH dput
    rw [e1, e2, if_pos Option.isSome_some, if_pos Option.isSome_some]
    exact nd_map r h t
theorem dk_get {i : Int} : ∀ {xs : List (Key × V)} {kvs : List (NestedKey × PyData)}, Paired (DkR K F) xs kvs →
    (dget kvs (.num i) = none ∧ valV xs (.inl i) = none) ∨ ∃ d v, dget kvs (.num i) = some d ∧ valV xs (.inl i) = some v ∧ Dp K F v d
  | _, _, .nil => .inl ⟨rfl, rfl⟩
  | _, _, .cons (a := x) (b := q) (l₁ := xs) (l₂ := kvs) r t => by
    obtain ⟨j, e1, e2⟩ := r.key
    by_cases h : j = i
    · right
      subst h
      exact ⟨q.2, x.2, dget_pos e2, valV_pos e1, r.val⟩
    · have n1 : ¬ q.1 = .num i := fun z => h (by
        rw [e2] at z
        injection z)
      have n2 : ¬ x.1 = .inl i := fun z => h (by
        rw [e1] at z
        injection z)
      rw [dget_neg n1, valV_neg n2]
      exact dk_get t
theorem dk_map {i : Int} {v : V} (h : Dp K F v d) : ∀ {xs : List (Key × V)} {kvs : List (NestedKey × PyData)}, Paired (DkR K F) xs kvs →
    Paired (DkR K F) (xs.map fun kv => if kv.1 = .inl i then (kv.1, v) else kv) (kvs.map (putAtD (.num i) d))
  | _, _, .nil => .nil
  | _, _, .cons (a := x) (b := q) (l₁ := xs) (l₂ := kvs) z t => by
    refine .cons ?_ (dk_map h t)
    obtain ⟨j, e1, e2⟩ := z.key
    unfold putAtD
    show DkR K F (if x.1 = .inl i then (x.1, v) else x) (if q.1 = .num i then (q.1, d) else q)
    by_cases hk : j = i
    · subst hk
      rw [if_pos e1, if_pos e2]
      exact ⟨⟨j, e1, e2⟩, h⟩
    · rw [if_neg (fun y => hk (by rw [e1] at y; injection y)), if_neg (fun y => hk (by rw [e2] at y; injection y))]
      exact z
theorem dk_put {i : Int} {xs : List (Key × V)} {kvs : List (NestedKey × PyData)} (t : Paired (DkR K F) xs kvs) {v : V} (h : Dp K F v d) : Paired (DkR K F) (putK xs (.inl i) v) (dput kvs (.num i) d) := by
  rcases dk_get (i := i) t with ⟨e1, e2⟩ | ⟨d0, v0, e1, e2, _⟩
  · rw [putK_new v e2]
    unfold dput
    rw [e1, if_neg (by decide)]
    exact t.snoc ⟨⟨i, rfl, rfl⟩, h⟩
  · unfold putK dput
    rw [valV_any, e1, e2, if_pos Option.isSome_some, if_pos Option.isSome_some]
    exact dk_map h t
end
section
variable {X : Cx} {pins : List (Addr × Obj)} {σ : L2.St} {F H : Hp} {s : Shared} {a : Addr} {k : NestedKey} {d : PyData} {t : Bool} {kvs : List (NestedKey × PyData)} {y v : V} {u r : Value} {A : Around} {E : Value → Shared → Prop}
theorem nis_at (I : Inv X pins σ H s) (h : Dp X.K H y k.data) (ry : RelV y u) : NestedIs s.heap k u := let ⟨_, q⟩ := Dp.reads I _ y u h ry; nis_of q
theorem ext_ok {φ : Heap → Prop} (I : Inv X pins σ H s) (h : H a = some (.ext φ)) : φ s.heap := (I.hok a _ h).1
theorem nd_at (I : Inv X pins σ H s) (sf : Same F H) {xs : List (NestedKey × Addr × Value)} (h : H a = some (NdO X.prog X.w a xs)) (hn : (xs.map (·.1)).Nodup) (hx : Paired (NdR X.K F) xs kvs) : s.heap.DictOfH (nestedKind X.prog X.w) a xs := by
  obtain ⟨o, es, ep, h1, h2, h3, h4⟩ := ext_ok (φ := fun h => ∃ o es ep, h.get? a = some o ∧ o.ExactDict ∧ o.data = .dict es ep ∧ es.toList = xs.map (entryOfKey (nestedKind X.prog X.w))) I h
  refine ⟨o, es, ep, h1, h2, h3, h4, fun x hm => ?_, hn⟩
  have all : ∀ {xs : List (NestedKey × Addr × Value)} {kvs : List (NestedKey × PyData)}, Paired (NdR X.K F) xs kvs → ∀ x ∈ xs, NestedIs s.heap x.1 (.ref x.2.1) ∧ x.1.depth ≤ 8 := fun {xs kvs} p => by
    induction p with
    | nil => exact fun x hm => by cases hm
    | cons z t ih =>
      intro x hm
      rcases List.mem_cons.mp hm with rfl | hm
      · exact ⟨nis_at I (dp_same sf z.dat) rfl, z.dep⟩
      · exact ih x hm
  exact all hx x hm
theorem nd_new {P : Program} {w : World} {H' : Hp} {h' : Heap} {xs : List (NestedKey × Addr × Value)} (dd : h'.DictOfH (nestedKind P w) a xs) : ObjOk P w H' h' a (NdO P w a xs) := by
  obtain ⟨o, es, ep, h1, h2, h3, h4, _⟩ := dd
  exact ⟨⟨o, es, ep, h1, h2, h3, h4⟩, ⟨o, h1⟩, fun h1' h2' p q => by
    obtain ⟨o', es', ep', g1, g2, g3, g4⟩ := p
    exact ⟨o', es', ep', q _ g1, g2, g3, g4⟩⟩
theorem key_tup (ko : keyOk true k = true) : ∃ ks, k = .tup ks ∧ k.depth ≤ 8 := by
  cases k with
  | tup ks => exact ⟨ks, rfl, of_decide_eq_true ko⟩
  | _ => exact absurd (show false = true from ko) Bool.false_ne_true
theorem key_num (ko : keyOk false k = true) : ∃ i, k = .num i := by
  cases k with
  | num i => exact ⟨i, rfl⟩
  | _ => exact absurd (show false = true from ko) Bool.false_ne_true
theorem tup_ref {ks : List NestedKey} (h : Dp X.K F y (NestedKey.tup ks).data) : ∃ b, y = .ref b := by
  simp only [NestedKey.data] at h
  cases h with
  | tup s t => exact ⟨_, rfl⟩
theorem num_int {i : Int} (h : Dp X.K F y (NestedKey.num i).data) : y = .int i := by
  simp only [NestedKey.data] at h
  cases h
  rfl
theorem nroom (hu : A.units + 64 < cLine) : (nestedKind X.prog X.w).room A.in1 := by
  show A.units + 1 + 8 < cLine
  omega
/-- d[k] -/
theorem dct_get {Q : Value → Shared → Prop} (hu : A.units + 64 < cLine) (I : Inv X pins σ H s) (sf : Same F H) (D : DctAt X.prog X.w X.K F H t a kvs) (ko : keyOk t k = true) (hy : Dp X.K H y k.data) (ry : RelV y u) (hd : dget kvs k = some d)
    (h : ∀ v w' s', Inv X pins σ H s' → RelV v w' → Dp X.K F v d → Q w' s') : wpAny (model X.prog X.w) A (getItem (.ref a) u) Q E s := by
  cases t with
  | false =>
    obtain ⟨i, rfl⟩ := key_num ko
    obtain ⟨xs, h1, h2⟩ := D
    obtain rfl := num_int hy
    rcases dk_get (i := i) h2 with ⟨e1, _⟩ | ⟨d0, v, e1, e2, e3⟩
    · rw [hd] at e1
      cases e1
    · rw [hd] at e1
      cases e1
      refine d_getItem (v := v) (by omega) I ?_ ry fun w' s' I' r' => h v w' s' I' r' e3
      have g := DGet.k (k := .inl i) h1
      rw [e2] at g
      exact g
  | true =>
    obtain ⟨ks, rfl, hdep⟩ := key_tup ko
    obtain ⟨xs, h1, h2, h3, h4, h5⟩ := D
    obtain ⟨b, rfl⟩ := tup_ref hy
    cases (show u = Value.ref b from ry)
    rcases nd_get (k := .tup ks) h5 with ⟨e1, _⟩ | ⟨d0, p, v, e1, e2, e3, e4⟩
    · rw [hd] at e1
      cases e1
    · rw [hd] at e1
      cases e1
      exact wpAny_getItem_heap (nroom hu) ⟨nis_at I hy rfl, hdep⟩ (nd_at I sf h1 h4 h5) e2 (h v _ _ (I.tok _) e3 e4)
/-- k in d, k not in d -/
theorem dct_in {Q : Value → Shared → Prop} (hu : A.units + 64 < cLine) (I : Inv X pins σ H s) (sf : Same F H) (D : DctAt X.prog X.w X.K F H t a kvs) (ko : keyOk t k = true) (hy : Dp X.K H y k.data) (ry : RelV y u)
    (h : ∀ s', Inv X pins σ H s' → Q (.bool (dget kvs k).isSome) s') : wpAny (model X.prog X.w) A (compareOp .In u (.ref a)) Q E s := by
  cases t with
  | false =>
    obtain ⟨i, rfl⟩ := key_num ko
    obtain ⟨xs, h1, h2⟩ := D
    obtain rfl := num_int hy
    refine d_in (by omega) I (DGet.k (k := .inl i) h1) ry fun s' I' => ?_
    have q := h s' I'
    rcases dk_get (i := i) h2 with ⟨e1, e2⟩ | ⟨d0, v, e1, e2, e3⟩
    · rw [e1] at q
      rw [e2]
      exact q
    · rw [e1] at q
      rw [e2]
      exact q
  | true =>
    obtain ⟨ks, rfl, hdep⟩ := key_tup ko
    obtain ⟨xs, h1, h2, h3, h4, h5⟩ := D
    obtain ⟨b, rfl⟩ := tup_ref hy
    cases (show u = Value.ref b from ry)
    refine wpAny_in_heap (nroom hu) ⟨nis_at I hy rfl, hdep⟩ h2 (nd_at I sf h1 h4 h5) ?_
    rcases nd_get (k := .tup ks) h5 with ⟨e1, e2⟩ | ⟨d0, p, v, e1, e2, e3, e4⟩
    · rw [e1] at h
      rw [e2]
      exact h _ (I.tok _)
    · rw [e1] at h
      rw [e2]
      exact h _ (I.tok _)
theorem dct_notIn {Q : Value → Shared → Prop} (hu : A.units + 64 < cLine) (I : Inv X pins σ H s) (sf : Same F H) (D : DctAt X.prog X.w X.K F H t a kvs) (ko : keyOk t k = true) (hy : Dp X.K H y k.data) (ry : RelV y u)
    (h : ∀ s', Inv X pins σ H s' → Q (.bool (!(dget kvs k).isSome)) s') : wpAny (model X.prog X.w) A (compareOp .NotIn u (.ref a)) Q E s := by
  cases t with
  | false =>
    obtain ⟨i, rfl⟩ := key_num ko
    obtain ⟨xs, h1, h2⟩ := D
    obtain rfl := num_int hy
    refine d_notIn (by omega) I (DGet.k (k := .inl i) h1) ry fun s' I' => ?_
    have q := h s' I'
    rcases dk_get (i := i) h2 with ⟨e1, e2⟩ | ⟨d0, v, e1, e2, e3⟩
    · rw [e1] at q
      rw [e2]
      exact q
    · rw [e1] at q
      rw [e2]
      exact q
  | true =>
    obtain ⟨ks, rfl, hdep⟩ := key_tup ko
    obtain ⟨xs, h1, h2, h3, h4, h5⟩ := D
    obtain ⟨b, rfl⟩ := tup_ref hy
    cases (show u = Value.ref b from ry)
    refine wpAny_notIn_heap (nroom hu) ⟨nis_at I hy rfl, hdep⟩ h2 (nd_at I sf h1 h4 h5) ?_
    rcases nd_get (k := .tup ks) h5 with ⟨e1, e2⟩ | ⟨d0, p, v, e1, e2, e3, e4⟩
    · rw [e1] at h
      rw [e2]
      exact h _ (I.tok _)
    · rw [e1] at h
      rw [e2]
      exact h _ (I.tok _)
/-- what stands at a now, and may be exchanged -/
structure MayPut (H : Hp) (a : Addr) (o : HO) : Prop where
  old : ∃ u, H a = some u ∧ NT u ∧ ∀ q, u ≠ LamX.CodeO a q
  fit : OkO o
theorem ndo_code (I : Inv X pins σ H s) {xs : List (NestedKey × Addr × Value)} (h : H a = some (NdO X.prog X.w a xs)) (q : Str) : NdO X.prog X.w a xs ≠ LamX.CodeO a q := fun z => by
  have h2 := h
  rw [z] at h2
  unfold LamX.CodeO at h2
  obtain ⟨oc, vs, tk, g1, g2, g3⟩ := ext_ok I h2
  obtain ⟨o, es, ep, f1, f2, f3, f4⟩ := ext_ok (φ := fun h => ∃ o es ep, h.get? a = some o ∧ o.ExactDict ∧ o.data = .dict es ep ∧ es.toList = xs.map (entryOfKey (nestedKind X.prog X.w))) I h
  rw [g1] at f1
  cases f1
  rw [g2] at f3
  cases f3
theorem dk_nt {xs : List (Key × V)} : NT (.dK xs) := fun ps z => by cases z
theorem dk_code {xs : List (Key × V)} (q : Str) : HO.dK xs ≠ LamX.CodeO a q := fun z => by
  unfold LamX.CodeO at z
  cases z
theorem nd_nt {P : Program} {w : World} {xs : List (NestedKey × Addr × Value)} : NT (NdO P w a xs) := fun ps z => by
  unfold NdO at z
  cases z
/-- d[k] = v -/
theorem dct_set {Q : Unit → Shared → Prop} (hu : A.units + 64 < cLine) (I : Inv X pins σ H s) (sf : Same F H) (D : DctAt X.prog X.w X.K F H t a kvs) (ko : keyOk t k = true) (hy : Dp X.K F y k.data) (ry : RelV y u) (hv : Dp X.K F v d) (rv : RelV v r) (hl : kvs.length ≤ 100000)
    (h : ∀ o s', Inv X pins σ (upd H a o) s' → MayPut H a o → DctAt X.prog X.w X.K F (upd H a o) t a (dput kvs k d) → Q () s') : wpAny (model X.prog X.w) A (setItem (.ref a) u r) Q E s := by
  have big : 100000 < sizeLine := by decide
  cases t with
  | false =>
    obtain ⟨i, rfl⟩ := key_num ko
    obtain ⟨xs, h1, h2⟩ := D
    obtain rfl := num_int hy
    have hlen := dk_len h2
    refine d_setItem (by omega) I (DPut.k (k := .inl i) (v := v) h1 (by omega)) ry rv fun s' I' => ?_
    exact h _ s' I' ⟨⟨_, h1, dk_nt, dk_code⟩, trivial⟩ ⟨_, upd_same, dk_put h2 hv⟩
  | true =>
    obtain ⟨ks, rfl, hdep⟩ := key_tup ko
    obtain ⟨xs, h1, h2, h3, h4, h5⟩ := D
    obtain ⟨b, rfl⟩ := tup_ref hy
    cases (show u = Value.ref b from ry)
    have hlen := nd_len h5
    refine wpAny_setItem_heap (nroom hu) ⟨nis_at I (dp_same sf hy) rfl, hdep⟩ (nd_at I sf h1 h4 h5) (fun h' dd hs => ?_) h3
    have he : ∃ q, h'.get? a = some q := let ⟨q, _, _, hq, _⟩ := dd; ⟨q, hq⟩
    have I' := d_write (ob := NdO X.prog X.w a (storedH xs (.tup ks) b r)) (t' := s.toks + (nestedKind X.prog X.w).draws (.tup ks)) I (by rw [h1]; trivial) hs he (nd_new dd)
    refine h _ _ I' ⟨⟨_, h1, nd_nt, ndo_code I h1⟩, trivial⟩ ⟨_, upd_same, h2, ?_, dd.nodup, nd_put h5 hy hdep rv hv⟩
    have := dput_len kvs (.tup ks) d
    have := nd_len (nd_put (u := r) h5 hy hdep rv hv)
    omega
/-- d.setdefault(k, v) -/
theorem dct_setd {Q : Value → Shared → Prop} (hu : A.units + 64 < cLine) (I : Inv X pins σ H s) (sf : Same F H) (D : DctAt X.prog X.w X.K F H t a kvs) (ko : keyOk t k = true) (hy : Dp X.K F y k.data) (ry : RelV y u) (hv : Dp X.K F v d) (rv : RelV v r) (hl : kvs.length ≤ 100000)
    (h1 : ∀ d0, dget kvs k = some d0 → ∀ z w' s', Inv X pins σ H s' → RelV z w' → Dp X.K F z d0 → Q w' s')
    (h2 : dget kvs k = none → ∀ o w' s', Inv X pins σ (upd H a o) s' → RelV v w' → MayPut H a o → DctAt X.prog X.w X.K F (upd H a o) t a (dput kvs k d) → Q w' s') : wpAny (model X.prog X.w) A (call (.builtin "dict.setdefault") [.ref a, u, r]) Q E s := by
  have big : 100000 < sizeLine := by decide
  cases t with
  | false =>
    obtain ⟨i, rfl⟩ := key_num ko
    obtain ⟨xs, g1, g2⟩ := D
    obtain rfl := num_int hy
    have hlen := dk_len g2
    rcases dk_get (i := i) g2 with ⟨e1, e2⟩ | ⟨d0, v0, e1, e2, e3⟩
    · refine d_setd (k := .inl i) (d := v) I g1 ry rv (by omega) (fun v' hv' => ?_) fun _ w' s' I' r' => ?_
      · rw [e2] at hv'
        cases hv'
      · exact h2 e1 _ w' s' I' r' ⟨⟨_, g1, dk_nt, dk_code⟩, trivial⟩ ⟨_, upd_same, dk_put g2 hv⟩
    · refine d_setd (k := .inl i) (d := v) I g1 ry rv (by omega) (fun v' hv' w' s' I' r' => ?_) fun hn => ?_
      · rw [e2] at hv'
        cases hv'
        exact h1 d0 e1 v0 w' s' I' r' e3
      · rw [e2] at hn
        cases hn
  | true =>
    obtain ⟨ks, rfl, hdep⟩ := key_tup ko
    obtain ⟨xs, g1, g2, g3, g4, g5⟩ := D
    obtain ⟨b, rfl⟩ := tup_ref hy
    cases (show u = Value.ref b from ry)
    have hlen := nd_len g5
    rcases nd_get (k := .tup ks) g5 with ⟨e1, e2⟩ | ⟨d0, p, v0, e1, e2, e3, e4⟩
    · refine call_setdefault_heap (nroom hu) ⟨nis_at I (dp_same sf hy) rfl, hdep⟩ g2 (nd_at I sf g1 g4 g5) (fun p hp => ?_) (fun _ h' dd hs => ?_) g3
      · rw [e2] at hp
        cases hp
      · have he : ∃ q, h'.get? a = some q := let ⟨q, _, _, hq, _⟩ := dd; ⟨q, hq⟩
        have I' := d_write (ob := NdO X.prog X.w a (storedH xs (.tup ks) b r)) (t' := s.toks + (nestedKind X.prog X.w).draws (.tup ks)) I (by rw [g1]; trivial) hs he (nd_new dd)
        refine h2 e1 _ _ _ I' rv ⟨⟨_, g1, nd_nt, ndo_code I g1⟩, trivial⟩ ⟨_, upd_same, g2, ?_, dd.nodup, nd_put g5 hy hdep rv hv⟩
        have := dput_len kvs (.tup ks) d
        have := nd_len (nd_put (u := r) g5 hy hdep rv hv)
        omega
    · refine call_setdefault_heap (nroom hu) ⟨nis_at I (dp_same sf hy) rfl, hdep⟩ g2 (nd_at I sf g1 g4 g5) (fun p' hp => ?_) (fun hn => ?_) g3
      · rw [e2] at hp
        cases hp
        exact h1 d0 e1 v0 _ _ (I.tok _) e3 e4
      · rw [e2] at hn
        cases hn
/-- len(d) -/
theorem dct_len {Q : Value → Shared → Prop} (I : Inv X pins σ H s) (sf : Same F H) (D : DctAt X.prog X.w X.K F H t a kvs) (h : ∀ tk s', Inv X pins σ H s' → Q (.int (kvs.length : Int) tk) s') : wpAny (model X.prog X.w) A (call (.builtin "len") [.ref a]) Q E s := by
  cases t with
  | false =>
    obtain ⟨xs, g1, g2⟩ := D
    refine d_len I (.inl g1) fun tk s' I' => ?_
    rw [dk_len g2]
    exact h tk s' I'
  | true =>
    obtain ⟨xs, g1, g2, g3, g4, g5⟩ := D
    refine call_len_dictH g2 (nd_at I sf g1 g4 g5) (by rw [sizeLine_eq] at g3; omega) ?_
    rw [nd_len g5]
    exact h _ _ (I.tok _)
theorem dct_type (I : Inv X pins σ H s) (sf : Same F H) (D : DctAt X.prog X.w X.K F H t a kvs) : s.TypeIs (.ref a) "dict" ∧ ∀ b, Value.ref a = .ref b → ∃ ob, s.heap.get? b = some ob ∧ ob.dict = none := by
  cases t with
  | false =>
    obtain ⟨xs, g1, g2⟩ := D
    obtain ⟨q1, q2, _⟩ := isD_at I (.inl ⟨xs, .inl g1⟩)
    exact ⟨q1, q2⟩
  | true =>
    obtain ⟨xs, g1, g2, g3, g4, g5⟩ := D
    have dd := nd_at I sf g1 g4 g5
    refine ⟨dd.typeIs, fun b q => ?_⟩
    cases q
    obtain ⟨o, _, _, f1, f2, _⟩ := dd
    exact ⟨o, f1, f2.2.1⟩
end
end Dd
end
section
/-! Dd11: values of one's own on the way into a slot. -/
namespace Dd
open PySem PySem.Spec PyProof.Rows L2

/-! ### the state, its slots otherwise -/
section
variable {W : Wd} {B Bn : Bs} {Γ Γ' ss s2 : Ga} {F H F' H' : Hp} {σ τ τ2 : L2.St} {s : Sl} {v : V}
theorem Ok.map {σ' : L2.St} (o : Ok W B Γ F σ H) (f : Nat → Nat) (inj : ∀ i j s t, Γ'[i]? = some s → Γ'[j]? = some t → f i = f j → i = j) (len : σ'.length = Γ'.length)
    (h : ∀ j t, Γ'[j]? = some t → Γ[f j]? = some t ∧ σ'[j]? = σ[f j]?) : Ok W B Γ' F σ' H := by
  refine ⟨o.nx, len, fun i t e => ?_, fun i j t u a e1 e2 o1 o2 s1 s2 => ?_⟩
  · obtain ⟨h1, h2⟩ := h i t e
    rw [h2]
    exact o.sl _ _ h1
  · obtain ⟨h1, h2⟩ := h i t e1
    obtain ⟨h3, h4⟩ := h j u e2
    rw [h2] at s1
    rw [h4] at s2
    exact inj i j t u e1 e2 (o.ds _ _ t u a h1 h3 o1 o2 s1 s2)
theorem app_get {α : Type} {l m : List α} {j : Nat} {x : α} (h : l[j]? = some x) : (l ++ m)[j]? = some x := by
  rw [List.getElem?_append_left (List.getElem?_eq_some_iff.mp h).1]
  exact h
theorem Ok.front (o : Ok W B (Γ ++ ss) F (σ ++ τ) H) (hl : σ.length = Γ.length) : Ok W B Γ F σ H :=
  o.map id (fun i j s t _ _ e => e) hl fun j t e => ⟨app_get e, by
    have hj := (List.getElem?_eq_some_iff.mp e).1
    rw [show id j = j from rfl, List.getElem?_append_left (by rw [hl]; exact hj)]⟩
/-- the value behind goes into slot i -/
theorem Ok.pull {i : Nat} (o : Ok W B (Γ ++ s :: ss) F (σ ++ some v :: τ) H) (hl : σ.length = Γ.length) (hi : i < Γ.length) : Ok W B (Γ.set i s ++ ss) F (σ.set i (some v) ++ τ) H := by
  have len := o.len
  rw [List.length_append, List.length_append, List.length_cons, List.length_cons] at len
  have look : ∀ {α : Type} (l m : List α) (x : α) (j : Nat), i < l.length → ((l.set i x) ++ m)[j]? = (l ++ x :: m)[if j = i then l.length else if j < l.length then j else j + 1]? := fun {α} l m x j hi => by
    by_cases e : j = i
    · subst e
      rw [if_pos rfl, List.getElem?_append_left (by rw [List.length_set]; exact hi), List.getElem?_set_self hi, List.getElem?_append_right (Nat.le_refl _), Nat.sub_self]
      rfl
    · rw [if_neg e]
      by_cases h : j < l.length
      · rw [if_pos h, List.getElem?_append_left (by rw [List.length_set]; exact h), List.getElem?_append_left h, List.getElem?_set_ne (fun z => e z.symm)]
      · rw [if_neg h, List.getElem?_append_right (by rw [List.length_set]; omega), List.length_set, List.getElem?_append_right (by omega), show j + 1 - l.length = (j - l.length) + 1 by omega, List.getElem?_cons_succ]
  refine o.map (fun j => if j = i then Γ.length else if j < Γ.length then j else j + 1) (fun a b s t ha hb e => ?_) (by rw [List.length_append, List.length_append, List.length_set, List.length_set]; omega) fun j t e => ⟨?_, ?_⟩
  · split at e <;> split at e <;> (try split at e) <;> (try split at e) <;> omega
  · rw [← look _ _ _ _ hi]
    exact e
  · have q := look σ τ (some v) j (by rw [hl]; exact hi)
    rw [hl] at q
    exact q
theorem Ok.push (o : Ok W B Γ F σ H) (h : SlOk W B F H s (some v)) (hd : isOwn s = true → ∀ (a : Addr), v = .ref a → ∀ (j : Nat) (t : Sl), Γ[j]? = some t → isOwn t = true → σ[j]? ≠ some (some (.ref a))) : Ok W B (Γ ++ [s]) F (σ ++ [some v]) H := by
  have sl : ∀ {α : Type} {l : List α} {x y : α} {j : Nat}, (l ++ [x])[j]? = some y → (j < l.length ∧ l[j]? = some y) ∨ (j = l.length ∧ y = x) := fun {α l x y j} e => by
    by_cases hj : j < l.length
    · rw [List.getElem?_append_left hj] at e
      exact .inl ⟨hj, e⟩
    · rw [List.getElem?_append_right (by omega)] at e
      have : j - l.length = 0 := by
        have := (List.getElem?_eq_some_iff.mp e).1
        simp at this
        omega
      rw [this] at e
      exact .inr ⟨by omega, by simpa using e.symm⟩
  refine ⟨o.nx, by rw [List.length_append, List.length_append, o.len]; rfl, fun i t e => ?_, fun i j t u a e1 e2 o1 o2 s1 s2 => ?_⟩
  · rcases sl e with ⟨hj, e⟩ | ⟨hj, rfl⟩
    · obtain ⟨w, h1, h2⟩ := o.sl i t e
      exact ⟨w, app_get h1, h2⟩
    · refine ⟨some v, ?_, h⟩
      rw [hj, ← o.len, List.getElem?_append_right (Nat.le_refl _), Nat.sub_self]
      rfl
  · rcases sl e1 with ⟨h1, f1⟩ | ⟨h1, rfl⟩ <;> rcases sl e2 with ⟨h2, f2⟩ | ⟨h2, g2⟩
    · rw [List.getElem?_append_left (by rw [o.len]; exact h1)] at s1
      rw [List.getElem?_append_left (by rw [o.len]; exact h2)] at s2
      exact o.ds i j t u a f1 f2 o1 o2 s1 s2
    · exfalso
      subst g2
      rw [List.getElem?_append_left (by rw [o.len]; exact h1)] at s1
      rw [h2, ← o.len, List.getElem?_append_right (Nat.le_refl _), Nat.sub_self] at s2
      exact hd o2 a (by simpa using s2) i t f1 o1 s1
    · exfalso
      rw [List.getElem?_append_left (by rw [o.len]; exact h2)] at s2
      rw [h1, ← o.len, List.getElem?_append_right (Nat.le_refl _), Nat.sub_self] at s1
      exact hd o1 a (by simpa using s1) j u f2 o2 s2
    · rw [h1, h2]
theorem Ok.unbase2 {σ' : L2.St} (o : Ok W B Γ F σ H) (n : Ok W ⟨F, H, fun a => ∃ (i : Nat) (s : Sl), Γ[i]? = some s ∧ isOwn s = true ∧ σ[i]? = some (some (.ref a))⟩ Γ' F' σ' H') : Ok W B Γ' F' σ' H' := by
  have own : ∀ a, (∃ (i : Nat) (s : Sl), Γ[i]? = some s ∧ isOwn s = true ∧ σ[i]? = some (some (.ref a))) → Own B F a := fun a ⟨i, s, e1, e2, e3⟩ => (o.own e1 e2 e3).1
  refine ⟨⟨o.nx.ff.trans n.nx.ff, fun a u e m t => ?_, fun a h => n.nx.dm a (o.nx.dm a h), fun a h m e => ?_, n.nx.gd⟩, n.len, fun i s e => ?_, n.ds⟩
  · refine n.nx.hh a u (o.nx.hh a u e m t) (fun z => ?_) t
    rcases (own a z).2 with q | q
    · rw [show B.H0 a = some u from e] at q
      cases q
    · exact m q
  · refine n.nx.out a (o.nx.dm a h) (fun z => ?_) (o.nx.out a h m e)
    rcases (own a z).2 with q | q
    · exact h q
    · exact m q
  · obtain ⟨v, h1, h2⟩ := n.sl i s e
    refine ⟨v, h1, ?_⟩
    have back : ∀ a, Own ⟨F, H, fun a => ∃ (i : Nat) (s : Sl), Γ[i]? = some s ∧ isOwn s = true ∧ σ[i]? = some (some (.ref a))⟩ F' a → Own B F' a := fun a ⟨z1, z2⟩ => by
      refine ⟨z1, ?_⟩
      rcases z2 with z2 | z2
      · refine .inl ?_
        cases q : B.H0 a with
        | none => rfl
        | some u => exact absurd (show H a = none from z2) (o.nx.dm a (by rw [q]; intro z; cases z))
      · exact (own a z2).2
    cases s with
    | un => trivial
    | dat d => exact h2
    | val u => exact h2
    | lst wa ds =>
      obtain ⟨a, xs, e1, e2, e4⟩ := h2
      exact ⟨a, xs, e1, back a e2, e4⟩
    | dct t kvs =>
      obtain ⟨a, e1, e2, e4⟩ := h2
      exact ⟨a, e1, back a e2, e4⟩
def mOf (Γ : Ga) (σ : L2.St) : Addr → Prop := fun a => ∃ (i : Nat) (s : Sl), Γ[i]? = some s ∧ isOwn s = true ∧ σ[i]? = some (some (.ref a))
/-- what was told of the front alone, the slots behind stand -/
theorem Ok.frame (o : Ok W B (Γ ++ ss) F (σ ++ τ) H) (hl : σ.length = Γ.length) (n : Ok W ⟨F, H, mOf Γ σ⟩ (Γ' ++ s2) F' (σ ++ τ2) H') (hl' : Γ'.length = Γ.length) : Ok W B (Γ' ++ (ss ++ s2)) F' (σ ++ (τ ++ τ2)) H' := by
  have of := o.front hl
  have lo := o.len
  have ln := n.len
  rw [List.length_append, List.length_append] at lo ln
  have nb := of.unbase2 n
  -- the slots behind
  have back : ∀ (i : Nat) (t : Sl), ss[i]? = some t → (Γ ++ ss)[Γ.length + i]? = some t ∧ ∀ w, τ[i]? = some w ↔ (σ ++ τ)[Γ.length + i]? = some w := fun i t e => by
    refine ⟨?_, fun w => ?_⟩
    · rw [List.getElem?_append_right (by omega), show Γ.length + i - Γ.length = i by omega]
      exact e
    · rw [List.getElem?_append_right (by omega), show Γ.length + i - σ.length = i by omega]
  -- they stand apart from what changed
  have apart : ∀ (i : Nat) (t : Sl) (a : Addr), ss[i]? = some t → isOwn t = true → τ[i]? = some (some (.ref a)) → ¬ mOf Γ σ a := fun i t a e os et ⟨j, u, e1, e2, e3⟩ => by
    obtain ⟨b1, b2⟩ := back i t e
    have hj := (List.getElem?_eq_some_iff.mp e1).1
    have q := o.ds (Γ.length + i) j t u a b1 (app_get e1) os e2 ((b2 _).mp et) (app_get e3)
    omega
  have cut : ∀ {α : Type} (l m k : List α) (j : Nat) (x : α), (l ++ (m ++ k))[j]? = some x → (j < l.length ∧ l[j]? = some x) ∨ (∃ i, j = l.length + i ∧ m[i]? = some x) ∨ ∃ i, j = l.length + (m.length + i) ∧ k[i]? = some x := fun {α} l m k j x e => by
    by_cases h1 : j < l.length
    · rw [List.getElem?_append_left h1] at e
      exact .inl ⟨h1, e⟩
    · rw [List.getElem?_append_right (by omega)] at e
      by_cases h2 : j - l.length < m.length
      · rw [List.getElem?_append_left h2] at e
        exact .inr (.inl ⟨_, by omega, e⟩)
      · rw [List.getElem?_append_right (by omega)] at e
        exact .inr (.inr ⟨_, by omega, e⟩)
  have s0 : ∀ (j : Nat), j < Γ.length → (σ ++ (τ ++ τ2))[j]? = (σ ++ τ2)[j]? := fun j h => by
    rw [List.getElem?_append_left (by omega), List.getElem?_append_left (by omega)]
  have s1 : ∀ (j : Nat) (t : Sl), ss[j]? = some t → (σ ++ (τ ++ τ2))[Γ.length + j]? = τ[j]? := fun j t h => by
    have := (List.getElem?_eq_some_iff.mp h).1
    rw [List.getElem?_append_right (by omega), show Γ.length + j - σ.length = j by omega, List.getElem?_append_left (by omega)]
  have s2' : ∀ (j : Nat), (σ ++ (τ ++ τ2))[Γ.length + (ss.length + j)]? = (σ ++ τ2)[Γ.length + j]? := fun j => by
    rw [List.getElem?_append_right (by omega), List.getElem?_append_right (by omega), List.getElem?_append_right (by omega), show Γ.length + (ss.length + j) - σ.length - τ.length = j by omega, show Γ.length + j - σ.length = j by omega]
  have g2 : ∀ (j : Nat) (t : Sl), s2[j]? = some t → (Γ' ++ s2)[Γ.length + j]? = some t := fun j t h => by
    rw [List.getElem?_append_right (by omega), show Γ.length + j - Γ'.length = j by omega]
    exact h
  refine ⟨nb.nx, by simp only [List.length_append]; omega, fun i t e => ?_, fun i j t u a e1 e2 o1 o2 t1 t2 => ?_⟩
  · rcases cut _ _ _ _ _ e with ⟨h, f⟩ | ⟨i, rfl, f⟩ | ⟨i, rfl, f⟩
    · rw [s0 i (by omega)]
      exact nb.sl i t (app_get f)
    · rw [hl', s1 i t f]
      obtain ⟨b1, b2⟩ := back i t f
      obtain ⟨w, h1, h2⟩ := o.sl _ _ b1
      refine ⟨w, (b2 w).mpr h1, ?_⟩
      have hw := (b2 w).mpr h1
      cases t with
      | un => trivial
      | dat d =>
        obtain ⟨z, q1, q2⟩ := h2
        exact ⟨z, q1, dp_same n.nx.ff q2⟩
      | val z => exact h2
      | lst wa ds =>
        obtain ⟨a, xs, q1, ⟨q2, q3⟩, q4, q5, q6⟩ := h2
        subst q1
        have na := apart i _ a f rfl hw
        exact ⟨a, xs, rfl, ⟨n.nx.out a (by show H a ≠ none; rw [q4]; intro z; cases z) na q2, q3⟩, n.nx.hh a _ q4 na (fun ps z => by cases z), dpa_same n.nx.ff q5, q6⟩
      | dct t kvs =>
        obtain ⟨a, q1, ⟨q2, q3⟩, q4⟩ := h2
        subst q1
        have na := apart i _ a f rfl hw
        exact ⟨a, rfl, ⟨n.nx.out a q4.there na q2, q3⟩, q4.next n.nx.ff fun ob z nt => n.nx.hh a ob z na nt⟩
    · rw [hl', s2' i]
      exact nb.sl _ t (g2 i t f)
  · -- two owned slots, told by the parts
    have told : ∀ {i : Nat} {t : Sl} {a : Addr}, (Γ' ++ (ss ++ s2))[i]? = some t → isOwn t = true → (σ ++ (τ ++ τ2))[i]? = some (some (.ref a)) →
        (∃ i', (Γ' ++ s2)[i']? = some t ∧ (σ ++ τ2)[i']? = some (some (.ref a)) ∧ i = if i' < Γ.length then i' else i' + ss.length) ∨ ∃ i', ss[i']? = some t ∧ τ[i']? = some (some (.ref a)) ∧ i = Γ.length + i' := fun {i t a} e os es => by
      rcases cut _ _ _ _ _ e with ⟨h, f⟩ | ⟨i, rfl, f⟩ | ⟨i, rfl, f⟩
      · rw [s0 i (by omega)] at es
        exact .inl ⟨i, app_get f, es, by rw [if_pos (by omega)]⟩
      · rw [hl', s1 i t f] at es
        exact .inr ⟨i, f, es, by omega⟩
      · rw [hl', s2' i] at es
        exact .inl ⟨_, g2 i t f, es, by rw [if_neg (by omega)]; omega⟩
    have cross : ∀ {i' j' : Nat} {t u : Sl} {a : Addr}, (Γ' ++ s2)[i']? = some t → isOwn t = true → (σ ++ τ2)[i']? = some (some (.ref a)) → ss[j']? = some u → isOwn u = true → τ[j']? = some (some (.ref a)) → False := fun {i' j' t u a} e1 o1 t1 e2 o2 t2 => by
      obtain ⟨b1, b2⟩ := back j' u e2
      have h1 := (o.own b1 o2 ((b2 _).mp t2)).2
      rcases (n.own e1 o1 t1).1.2 with z | z
      · exact h1 z
      · exact apart j' u a e2 o2 t2 z
    rcases told e1 o1 t1 with ⟨i', a1, a2, a3⟩ | ⟨i', a1, a2, a3⟩ <;> rcases told e2 o2 t2 with ⟨j', b1, b2, b3⟩ | ⟨j', b1, b2, b3⟩
    · have q := n.ds i' j' t u a a1 b1 o1 o2 a2 b2
      rw [a3, b3, q]
    · exact (cross a1 o1 a2 b1 o2 b2).elim
    · exact (cross b1 o2 b2 a1 o1 a2).elim
    · obtain ⟨c1, c2⟩ := back i' t a1
      obtain ⟨d1, d2⟩ := back j' u b1
      have q := o.ds _ _ t u a c1 d1 o1 o2 ((c2 _).mp a2) ((d2 _).mp b2)
      omega
theorem Ok.self (o : Ok W B Γ F σ H) : Ok W ⟨F, H, mOf Γ σ⟩ Γ F σ H := o.rebase
end

/-! ### values on the way -/
section
variable {T : Tb} {X : Cx} {Γ Γ1 Γ2 : Ga} {e a b c : Expr} {es : List Expr} {d d1 d2 : PyData} {ds : List PyData} {pos p p1 p2 : Pos} {s s1 s2 s3 : Sl} {ss : List Sl}
/-- the value of e, in a slot behind -/
def DO1 (T : Tb) (X : Cx) (Γ : Ga) (e : Expr) (Γ' : Ga) (s : Sl) : Prop :=
  ∀ B, PE X e (fun σ H Q => ∃ F, Ok (wd T X) B Γ F σ H ∧ ∀ F' H' v, Ok (wd T X) B (Γ' ++ [s]) F' (σ ++ [some v]) H' → Same F F' → Q v H')
def DV (T : Tb) (X : Cx) (Γ : Ga) (es : List Expr) (Γ' : Ga) (ss : List Sl) : Prop :=
  ∀ B, PA X es (fun σ H Q => ∃ F, Ok (wd T X) B Γ F σ H ∧ ∀ F' H' vs, vs.length = ss.length → Ok (wd T X) B (Γ' ++ ss) F' (σ ++ vs.map some) H' → Same F F' → Q vs H')
theorem noO {α : Prop} {s : Sl} (h : isOwn s = false) (z : isOwn s = true) : α := by
  rw [h] at z
  cases z
theorem do1_dat (h : DE T X Γ e Γ1 d) : DO1 T X Γ e Γ1 (.dat d) := fun B => pe_imp (h B) fun σ H Q ⟨F, o, q⟩ => ⟨F, o, fun F' H' v o' s' r' => q F' H' v (o'.push ⟨v, rfl, r'⟩ fun z => noO rfl z) s'⟩
theorem do1_lst (h : DA T X Γ es Γ1 ds) (hl : ds.length ≤ 100000) : DO1 T X Γ (.List es pos) Γ1 (.lst none ds) := fun B =>
  pe_imp (pe_lst (h B)) fun σ H Q ⟨F, o, q⟩ => ⟨F, o, fun F' H' vs o' s' r' => by
    have hz : vs.length ≤ sizeLine := by
      rw [dpa_len r']
      exact Nat.le_trans hl (by decide)
    refine ⟨hz, fun p hp => ?_⟩
    have n : Nx T NoM F' H' F' (upd H' p (.lst vs)) := Nx.newH o'.gd hp hz
    have hf : F' p = none := by
      cases z : F' p with
      | none => rfl
      | some u =>
        rw [o'.gd.fh _ _ z] at hp
        cases hp
    have h0 : B.H0 p = none := by
      cases z : B.H0 p with
      | none => rfl
      | some u => exact absurd hp (o'.nx.dm p (by rw [z]; intro y; cases y))
    refine q F' _ _ ((o'.next n).push ⟨p, vs, rfl, ⟨hf, .inl h0⟩, upd_same, r', fun _ z => by cases z⟩ fun _ a ea j t e1 o1 e2 => ?_) s'
    cases ea
    exact (o'.own e1 o1 e2).2 hp⟩
theorem dv_nil : DV T X Γ [] Γ [] := fun B => pa_imp pa_nil fun σ H Q ⟨F, o, q⟩ => q F H [] rfl (by rw [List.map_nil, List.append_nil, List.append_nil]; exact o) (Same.refl F)
theorem dv_cons (h : DO1 T X Γ e Γ1 s) (t : DV T X Γ1 es Γ2 ss) (hs : starEach (e :: es) X.env = (false, eval e X.env) :: starEach es X.env := by rfl) : DV T X Γ (e :: es) Γ2 (s :: ss) := fun B => by
  refine pa_imp (pa_cons (h B) (t := fun σ H Q => ∃ Bn, ∃ F, Ok (wd T X) Bn Γ1 F σ H ∧ ∀ F' H' vs, vs.length = ss.length → Ok (wd T X) Bn (Γ2 ++ ss) F' (σ ++ vs.map some) H' → Same F F' → Q vs H') ⟨fun pos pins s σ H Q I ⟨Bn, q⟩ => (t Bn).run pos pins s σ H Q I q⟩ hs) fun σ H Q ⟨F, o, q⟩ => ⟨F, o, fun F1 H1 v o1 s1 => ?_⟩
  have hl : σ.length = Γ1.length := by
    have := o1.len
    rw [List.length_append, List.length_append] at this
    simpa using this
  refine ⟨⟨F1, H1, mOf Γ1 σ⟩, F1, (o1.front hl).self, fun F2 H2 vs hv o2 s2 => ?_⟩
  have hl2 : Γ2.length = Γ1.length := by
    have := o2.len
    rw [List.length_append, List.length_append, List.length_map] at this
    omega
  exact q F2 H2 (v :: vs) (by rw [List.length_cons, List.length_cons, hv]) (o1.frame hl o2 hl2) (s1.trans s2)
theorem ds_setO (i : Nat) {x : Str} (he : DO1 T X Γ e Γ1 s) (hN : X.N.Nodup) (hl : i < Γ.length := by exact Nat.le_of_ble_eq_true rfl) (hi : X.N[i]? = some x := by rfl) (hx : Loc X.env.scope x := by first | exact Or.inl rfl | exact Or.inr rfl) (hs : swapsWith e (some (.Name x p)) pos.line X.env = pure false := by rfl)
    (hf : X.fn x = true ∨ X.env.scope.names.lookup x = some .local := by first | exact .inl rfl | exact .inr rfl) : DS T X Γ (.Assign [.Name x p] e pos) (.nx (Γ1.set i s)) := fun B =>
  ps_imp (ps_set hN hi hx (he B) hs hf) fun D σ H ⟨F, o, q⟩ => ⟨F, o, fun F' H' v o' s' => q F' _ H' (by
    have hl' : σ.length = Γ1.length := by
      have := o'.len
      rw [List.length_append, List.length_append] at this
      simpa using this
    have o2 := o'.pull hl' (by rw [← hl', o.len]; exact hl)
    rw [List.append_nil, List.append_nil] at o2
    exact o2) s'⟩
theorem pull2 {W : Wd} {B : Bs} {Γ : Ga} {F H : Hp} {σ : L2.St} {v1 v2 : V} {i j : Nat} (o : Ok W B (Γ ++ [s1, s2]) F (σ ++ [some v1, some v2]) H) (hi : i < Γ.length) (hj : j < Γ.length) : Ok W B ((Γ.set i s1).set j s2) F ((σ.set i (some v1)).set j (some v2)) H := by
  have hl : σ.length = Γ.length := by
    have := o.len
    rw [List.length_append, List.length_append] at this
    simpa using this
  have o2 := (o.pull (i := i) hl hi).pull (i := j) (by rw [List.length_set, List.length_set]; exact hl) (by rw [List.length_set]; exact hj)
  rw [List.append_nil, List.append_nil] at o2
  exact o2
theorem pull3 {W : Wd} {B : Bs} {Γ : Ga} {F H : Hp} {σ : L2.St} {v1 v2 v3 : V} {i j l : Nat} (o : Ok W B (Γ ++ [s1, s2, s3]) F (σ ++ [some v1, some v2, some v3]) H) (hi : i < Γ.length) (hj : j < Γ.length) (hk : l < Γ.length) :
    Ok W B (((Γ.set i s1).set j s2).set l s3) F (((σ.set i (some v1)).set j (some v2)).set l (some v3)) H := by
  have hl : σ.length = Γ.length := by
    have := o.len
    rw [List.length_append, List.length_append] at this
    simpa using this
  have o2 := ((o.pull (i := i) hl hi).pull (i := j) (by rw [List.length_set, List.length_set]; exact hl) (by rw [List.length_set]; exact hj)).pull (i := l) (by simp only [List.length_set]; exact hl) (by simp only [List.length_set]; exact hk)
  rw [List.append_nil, List.append_nil] at o2
  exact o2
theorem len2 {W : Wd} {B : Bs} {Γ Γ1 : Ga} {F H F' H' : Hp} {σ : L2.St} {v1 v2 : V} (o : Ok W B Γ F σ H) (o' : Ok W B (Γ1 ++ [s1, s2]) F' (σ ++ [some v1, some v2]) H') : Γ.length = Γ1.length := by
  have a := o.len
  have b := o'.len
  rw [List.length_append, List.length_append] at b
  simp at b
  omega
theorem len3 {W : Wd} {B : Bs} {Γ Γ1 : Ga} {F H F' H' : Hp} {σ : L2.St} {v1 v2 v3 : V} (o : Ok W B Γ F σ H) (o' : Ok W B (Γ1 ++ [s1, s2, s3]) F' (σ ++ [some v1, some v2, some v3]) H') : Γ.length = Γ1.length := by
  have a := o.len
  have b := o'.len
  rw [List.length_append, List.length_append] at b
  simp at b
  omega
theorem ds_parO (i j : Nat) {x y : Str} {px py pt pt2 : Pos} {kt k2 : Nat} (h : DV T X Γ [a, b] Γ1 [s1, s2]) (hc : X.calm = true) (hN : X.N.Nodup) (hi' : i < Γ.length := by exact Nat.le_of_ble_eq_true rfl) (hj' : j < Γ.length := by exact Nat.le_of_ble_eq_true rfl) (hi : X.N[i]? = some x := by rfl) (hj : X.N[j]? = some y := by rfl) (hij : i ≠ j := by decide)
    (hx : X.env.scope.names.lookup x = some .local := by rfl) (hy : X.env.scope.names.lookup y = some .local := by rfl) (hs : swapsWithSole [.Tuple [.Name x px, .Name y py] kt pt] (.Tuple [a, b] k2 pt2) pos.line X.env = pure false := by rfl)
    (hw : swappedStores [.Tuple [.Name x px, .Name y py] kt pt] (.Tuple [a, b] k2 pt2) X.env = pure (some [x, y]) := by rfl) : DS T X Γ (.Assign [.Tuple [.Name x px, .Name y py] kt pt] (.Tuple [a, b] k2 pt2) pos) (.nx ((Γ1.set i s1).set j s2)) := fun B =>
  ps_imp (ps_par hc hN hi hj hij hx hy (h B) hw hs) fun D σ H ⟨F, o, q⟩ => ⟨F, o, fun F' H' vs hv o' s' => by
    match vs, hv with
    | [v1, v2], _ => exact ⟨_, _, rfl, q F' _ H' (pull2 o' (len2 o o' ▸ hi') (len2 o o' ▸ hj')) s'⟩⟩
theorem ds_parO3 (i j l : Nat) {x y z : Str} {px py pz pt pt2 : Pos} {kt k2 : Nat} (h : DV T X Γ [a, b, c] Γ1 [s1, s2, s3]) (hc : X.calm = true) (hN : X.N.Nodup) (hi' : i < Γ.length := by exact Nat.le_of_ble_eq_true rfl) (hj' : j < Γ.length := by exact Nat.le_of_ble_eq_true rfl) (hl' : l < Γ.length := by exact Nat.le_of_ble_eq_true rfl)
    (hi : X.N[i]? = some x := by rfl) (hj : X.N[j]? = some y := by rfl) (hl : X.N[l]? = some z := by rfl) (hij : i ≠ j := by decide) (hil : i ≠ l := by decide) (hjl : j ≠ l := by decide)
    (hx : X.env.scope.names.lookup x = some .local := by rfl) (hy : X.env.scope.names.lookup y = some .local := by rfl) (hz : X.env.scope.names.lookup z = some .local := by rfl) (hs : swapsWithSole [.Tuple [.Name x px, .Name y py, .Name z pz] kt pt] (.Tuple [a, b, c] k2 pt2) pos.line X.env = pure false := by rfl)
    (hw : swappedStores [.Tuple [.Name x px, .Name y py, .Name z pz] kt pt] (.Tuple [a, b, c] k2 pt2) X.env = pure (some [x, y, z]) := by rfl) :
    DS T X Γ (.Assign [.Tuple [.Name x px, .Name y py, .Name z pz] kt pt] (.Tuple [a, b, c] k2 pt2) pos) (.nx (((Γ1.set i s1).set j s2).set l s3)) := fun B =>
  ps_imp (ps_par3 hc hN hi hj hl hij hil hjl hx hy hz (h B) hw hs) fun D σ H ⟨F, o, q⟩ => ⟨F, o, fun F' H' vs hv o' s' => by
    match vs, hv with
    | [v1, v2, v3], _ => exact ⟨_, _, _, rfl, q F' _ H' (pull3 o' (len3 o o' ▸ hi') (len3 o o' ▸ hj') (len3 o o' ▸ hl')) s'⟩⟩
/-- a, b = .., where a name of them is a cell: by a tuple -/
theorem ds_tupO (i j : Nat) {x y : Str} {px py pt pt2 : Pos} {kt k2 : Nat} (h : DV T X Γ [a, b] Γ1 [s1, s2]) (hc : X.calm = true) (hN : X.N.Nodup) (hi' : i < Γ.length := by exact Nat.le_of_ble_eq_true rfl) (hj' : j < Γ.length := by exact Nat.le_of_ble_eq_true rfl) (hi : X.N[i]? = some x := by rfl) (hj : X.N[j]? = some y := by rfl)
    (hx : Loc X.env.scope x := by first | exact Or.inl rfl | exact Or.inr rfl) (hy : Loc X.env.scope y := by first | exact Or.inl rfl | exact Or.inr rfl)
    (hf : X.fn x = true ∨ X.env.scope.names.lookup x = some .local := by first | exact .inl rfl | exact .inr rfl) (hf2 : X.fn y = true ∨ X.env.scope.names.lookup y = some .local := by first | exact .inl rfl | exact .inr rfl)
    (hs : swapsWithSole [.Tuple [.Name x px, .Name y py] kt pt] (.Tuple [a, b] k2 pt2) pos.line X.env = pure false := by rfl)
    (hw : swappedStores [.Tuple [.Name x px, .Name y py] kt pt] (.Tuple [a, b] k2 pt2) X.env = pure none := by rfl) : DS T X Γ (.Assign [.Tuple [.Name x px, .Name y py] kt pt] (.Tuple [a, b] k2 pt2) pos) (.nx ((Γ1.set i s1).set j s2)) := fun B =>
  ps_imp (ps_asg (pe_tupF (h B)) (pg_tup hc (pgs_cons (pg_name hN hi hx hf) (pgs_cons (pg_name hN hj hy hf2) pgs_nil))) hs hw rfl) fun D σ H ⟨F, o, q⟩ => ⟨F, o, fun F' H' vs hv o' s' => by
    match vs, hv with
    | [v1, v2], _ =>
      refine ⟨two_fits, fun p ob hp hd => ?_⟩
      have n : Nx T NoM F' H' F' (upd H' p (.frz ob (.tup [v1, v2]))) := Nx.newH o'.gd hp ⟨two_fits, hd⟩
      exact ⟨p, [v1, v2], rfl, .inl (.inr ⟨ob, upd_same⟩), rfl, _, _, rfl, _, _, rfl, rfl, q F' _ _ (pull2 (o'.next n) (len2 o o' ▸ hi') (len2 o o' ▸ hj')) s'⟩⟩
theorem ds_tupO3 (i j l : Nat) {x y z : Str} {px py pz pt pt2 : Pos} {kt k2 : Nat} (h : DV T X Γ [a, b, c] Γ1 [s1, s2, s3]) (hc : X.calm = true) (hN : X.N.Nodup) (hi' : i < Γ.length := by exact Nat.le_of_ble_eq_true rfl) (hj' : j < Γ.length := by exact Nat.le_of_ble_eq_true rfl) (hl' : l < Γ.length := by exact Nat.le_of_ble_eq_true rfl)
    (hi : X.N[i]? = some x := by rfl) (hj : X.N[j]? = some y := by rfl) (hl : X.N[l]? = some z := by rfl)
    (hx : Loc X.env.scope x := by first | exact Or.inl rfl | exact Or.inr rfl) (hy : Loc X.env.scope y := by first | exact Or.inl rfl | exact Or.inr rfl) (hz : Loc X.env.scope z := by first | exact Or.inl rfl | exact Or.inr rfl)
    (hf : X.fn x = true ∨ X.env.scope.names.lookup x = some .local := by first | exact .inl rfl | exact .inr rfl) (hf2 : X.fn y = true ∨ X.env.scope.names.lookup y = some .local := by first | exact .inl rfl | exact .inr rfl)
    (hf3 : X.fn z = true ∨ X.env.scope.names.lookup z = some .local := by first | exact .inl rfl | exact .inr rfl)
    (hs : swapsWithSole [.Tuple [.Name x px, .Name y py, .Name z pz] kt pt] (.Tuple [a, b, c] k2 pt2) pos.line X.env = pure false := by rfl)
    (hw : swappedStores [.Tuple [.Name x px, .Name y py, .Name z pz] kt pt] (.Tuple [a, b, c] k2 pt2) X.env = pure none := by rfl) :
    DS T X Γ (.Assign [.Tuple [.Name x px, .Name y py, .Name z pz] kt pt] (.Tuple [a, b, c] k2 pt2) pos) (.nx (((Γ1.set i s1).set j s2).set l s3)) := fun B =>
  ps_imp (ps_asg (pe_tupF (h B)) (pg_tup hc (pgs_cons (pg_name hN hi hx hf) (pgs_cons (pg_name hN hj hy hf2) (pgs_cons (pg_name hN hl hz hf3) pgs_nil)))) hs hw rfl) fun D σ H ⟨F, o, q⟩ => ⟨F, o, fun F' H' vs hv o' s' => by
    match vs, hv with
    | [v1, v2, v3], _ =>
      have fits : (3 : Nat) ≤ sizeLine := by decide
      refine ⟨fits, fun p ob hp hd => ?_⟩
      have n : Nx T NoM F' H' F' (upd H' p (.frz ob (.tup [v1, v2, v3]))) := Nx.newH o'.gd hp ⟨fits, hd⟩
      exact ⟨p, [v1, v2, v3], rfl, .inl (.inr ⟨ob, upd_same⟩), rfl, _, _, rfl, _, _, rfl, _, _, rfl, rfl, q F' _ _ (pull3 (o'.next n) (len3 o o' ▸ hi') (len3 o o' ▸ hj') (len3 o o' ▸ hl')) s'⟩⟩
/-- a list of one's own is data from here on -/
theorem dss_thaw (i : Nat) {w : Option Addr} {sts : List Stmt} {o : Out} (hi : Γ[i]? = some (.lst w ds)) (h : DSs T X (Γ.set i (.dat (.list ds))) sts o) : DSs T X Γ sts o := fun B =>
  pss_imp (h B) fun D σ H ⟨F, ok, q⟩ => by
    obtain ⟨F1, s1, o1⟩ := ok.thaw hi
    exact ⟨F1, o1, q.mono s1⟩
theorem de_thaw (i : Nat) {w : Option Addr} (hi : Γ[i]? = some (.lst w ds)) (h : DE T X (Γ.set i (.dat (.list ds))) e Γ1 d) : DE T X Γ e Γ1 d := fun B =>
  pe_imp (h B) fun σ H Q ⟨F, ok, q⟩ => by
    obtain ⟨F1, s1, o1⟩ := ok.thaw hi
    exact ⟨F1, o1, fun F' H' v o' s' r' => q F' H' v o' (s1.trans s') r'⟩
end
end Dd
end
section
/-! Dd12: rules for lists and dicts of one's own. -/
namespace Dd
open PySem PySem.Spec PyProof.Rows L2
section
variable {T : Tb} {X : Cx} {Γ Γ1 Γ2 : Ga} {e a b c : Expr} {es : List Expr} {d d1 d2 : PyData} {ds : List PyData} {pos p p1 p2 apos cpos : Pos} {w : Option Addr} {t : Bool} {kvs : List (NestedKey × PyData)} {k : NestedKey} {y : Str} {bb : Bool}
/-- the name of slot i may be read -/
structure Rn (X : Cx) (i : Nat) (y : Str) : Prop where
  hN : X.N[i]? = some y
  hv : Vis X.env.scope y
  hd : (y == ("__debug__" : Str)) = false
  hcd : (y == ("__classdict__" : Str)) = false
theorem Rn.of (i : Nat) (hN : X.N[i]? = some y := by rfl) (hv : Vis X.env.scope y := by first | exact Or.inl rfl | exact Or.inr (Or.inl rfl) | exact Or.inr (Or.inr rfl)) (hd : (y == ("__debug__" : Str)) = false := by decide)
    (hcd : (y == ("__classdict__" : Str)) = false := by decide) : Rn X i y := ⟨hN, hv, hd, hcd⟩
theorem Rn.pe {i : Nat} (r : Rn X i y) : PE X (.Name y p) (tVar i) := pe_var r.hN r.hv r.hd r.hcd

/-! ### lists -/
theorem de_lenL {i : Nat} (r : Rn X i y) (hi : Γ[i]? = some (.lst w ds)) (hm : X.mg "len" = none) (hg : Gl X "len" := by rfl) (he : starEach [.Name y p1] X.env = (false, eval (.Name y p1) X.env) :: starEach [] X.env := by rfl)
    (hpl : (backTo pos (starEach [] X.env)).any (·.1) = false := by rfl) : DE T X Γ (.Call (.Name "len" p) [.Name y p1] [] pos) Γ (.int (ds.length : Int)) := fun B =>
  pe_imp (pe_callB call_len hg hm (by decide +kernel) (pa_cons r.pe pa_nil he) (by decide) (by decide) he hpl) fun σ H Q ⟨F, o, q⟩ => by
    obtain ⟨v, h1, ad, xs, h2, h3, h4, h5, h6⟩ := o.sl i _ hi
    subst h2
    exact ⟨_, h1, _, ds.length, rfl, .inl ⟨xs, SqL.of h4, (dpa_len h5).symm⟩, q F H _ o (Same.refl F) (.int _)⟩
theorem de_ixL {i : Nat} {j : Int} (r : Rn X i y) (hi : Γ[i]? = some (.lst w ds)) (hb : DE T X Γ b Γ (.int j)) (e : atI ds j = some d) (hs : PlainIx b := by exact fun _ _ => rfl) : DE T X Γ (.Subscript (.Name y p1) b pos) Γ d := fun B =>
  pe_imp (pe_ix ix_list r.pe (hb B) hs) fun σ H Q ⟨F, o, q⟩ => by
    obtain ⟨v, h1, ad, xs, h2, _⟩ := o.sl i _ hi
    subst h2
    refine ⟨_, h1, F, o, fun F' H' u o' s' r' => ?_⟩
    cases r'
    obtain ⟨v2, g1, ad2, xs2, g2, g3, g4, g5, g6⟩ := o'.sl i _ hi
    subst g2
    rw [h1] at g1
    cases g1
    obtain ⟨z, e1, e2⟩ := dpa_at g5 e
    exact ⟨ad, xs2, j, z, rfl, rfl, SqL.of g4, e1, q F' H' z o' s' e2⟩
/-- xs.append(e) -/
theorem ds_app {i : Nat} (r : Rn X i y) (hi : Γ[i]? = some (.lst w ds)) (he : DE T X Γ e Γ1 d) (hi1 : Γ1[i]? = some (.lst w ds)) (hl : ds.length ≤ 100000)
    (hbase : attributeBase (.Name y p1) "append" X.env (eval (.Name y p1) X.env) = eval (.Name y p1) X.env := by rfl)
    (hfew : ((backTo cpos (starEach [e] X.env)).all (fun x => !x.1) && (backToKw cpos (keywordEach [] X.env)).all (fun x => x.1.isSome) && decide ([e].length + ([] : List Keyword).length + (if ([] : List Keyword).isEmpty then 0 else 1) < 30)) = true := by rfl)
    (hline : (apos.endLine == cpos.line) = true := by rfl) (hs : starEach [e] X.env = (false, eval e X.env) :: starEach [] X.env := by rfl) (hplain : (backTo cpos (starEach [] X.env)).any (·.1) = false := by rfl)
    (hsw : swapsWith (.Call (.Attribute (.Name y p1) "append" apos) [e] [] cpos) none pos.line X.env = pure false := by rfl) :
    DS T X Γ (.Expr (.Call (.Attribute (.Name y p1) "append" apos) [e] [] cpos) pos) (.nx (Γ1.set i (.lst w (ds ++ [d])))) := fun B =>
  ps_imp (ps_expr (pe_bm PySem.F.plainAttrs_list PySem.F.slot_list_append PySem.F.type_list_append mt_append r.pe (pa_cons (he B) pa_nil hs) hbase hfew hline hs hplain) hsw) fun D σ H ⟨F, o, q⟩ => by
    obtain ⟨v, h1, ad, xs, h2, h3, h4, h5, h6⟩ := o.sl i _ hi
    subst h2
    refine ⟨_, h1, .inl ⟨rfl, xs, SqL.of h4⟩, F, o, fun F' H' u o' s' r' => ?_⟩
    obtain ⟨v2, g1, ad2, xs2, g2, ⟨g3, g3'⟩, g4, g5, g6⟩ := o'.sl i _ hi1
    subst g2
    rw [h1] at g1
    cases g1
    have hz : xs2.length < sizeLine := by
      rw [dpa_len g5]
      exact Nat.lt_of_le_of_lt hl (by decide)
    refine ⟨ad, xs2, u, rfl, rfl, g4, hz, ?_⟩
    have n : Nx T (fun b => b = ad) F' H' F' (upd H' ad (.lst (xs2 ++ [u]))) := Nx.set o'.gd rfl g4 (fun ps z => by cases z) (fun q z => by unfold LamX.CodeO at z; cases z) g3 (show OkO (.lst (xs2 ++ [u])) from (by
      show (xs2 ++ [u]).length ≤ sizeLine
      rw [List.length_append]
      exact hz))
    exact q F' σ _ (o'.cell hi1 rfl h1 n ⟨ad, _, rfl, ⟨g3, g3'⟩, upd_same, dpa_append g5 (dpa_one r'), g6⟩) s'
/-- [x] * n -/
theorem de_rep {n : Nat} (ha : DA T X Γ es Γ1 ds) (hb : DE T X Γ1 b Γ2 (.int (n : Int))) (hz : ds.length ≤ 1000) (hn : n ≤ 1000) (hz2 : ds.length * n ≤ 100000) : DE T X Γ (.BinOp (.List es p1) .Mult b pos) Γ2 (.list (List.replicate n ds).flatten) := fun B =>
  pe_imp (pe_op op_rep (pe_lst (ha B)) (hb B)) fun σ H Q ⟨F, o, q⟩ => ⟨F, o, fun F1 H1 vs o1 s1 r1 => by
    have hl := dpa_len r1
    have big : 100000 ≤ sizeLine := by decide
    have fit : vs.length ≤ sizeLine := by omega
    refine ⟨fit, fun p hp => ?_⟩
    have n1 : Nx T NoM F1 H1 (upd F1 p (.lst vs)) (upd H1 p (.lst vs)) := Nx.newF o1.gd hp fit
    refine ⟨_, o1.next n1, fun F2 H2 v2 o2 s2 r2 => ?_⟩
    cases r2
    have e2 : H2 p = some (.lst vs) := o2.gd.fh p _ (s2 p _ upd_same)
    have fit2 : vs.length * ((n : Int)).toNat ≤ sizeLine := by
      rw [Int.toNat_natCast, hl]
      omega
    refine ⟨p, (n : Int), vs, rfl, rfl, e2, by omega, by omega, fit2, fun l hl2 => ?_⟩
    rw [Int.toNat_natCast]
    have fit3 : (List.replicate n vs).flatten.length ≤ sizeLine := by
      rw [List.length_flatten, List.map_replicate, List.sum_replicate_nat]
      rw [hl]
      have : n * ds.length = ds.length * n := Nat.mul_comm _ _
      omega
    have n3 : Nx T NoM F2 H2 (upd F2 l (.lst _)) (upd H2 l (.lst _)) := Nx.newF o2.gd hl2 (show OkO (.lst (List.replicate n vs).flatten) from fit3)
    have dd : ∀ m, DpAll X.K F2 (List.replicate m vs).flatten (List.replicate m ds).flatten := fun m => by
      induction m with
      | zero => exact .nil
      | succ m ih =>
        rw [List.replicate_succ, List.replicate_succ, List.flatten_cons, List.flatten_cons]
        exact dpa_append (dpa_same (n1.ff.trans s2) r1) ih
    exact q _ _ _ (o2.next n3) (((s1.trans n1.ff).trans s2).trans n3.ff) (dp_lst upd_same (dpa_same n3.ff (dd n)))⟩

/-! ### dicts -/
/-- the dict of slot i, known by its address -/
theorem dct_slot {W : Wd} {B : Bs} {F H : Hp} {σ : L2.St} {i : Nat} (o : Ok W B Γ F σ H) (hi : Γ[i]? = some (.dct t kvs)) : ∃ ad, σ[i]? = some (some (.ref ad)) ∧ Own B F ad ∧ DctAt W.P W.w W.K F H t ad kvs := by
  obtain ⟨v, h1, ad, h2, h3, h4⟩ := o.sl i _ hi
  subst h2
  exact ⟨ad, h1, h3, h4⟩
theorem dct_same {W : Wd} {B B' : Bs} {F H F' H' : Hp} {σ : L2.St} {i : Nat} {ad : Addr} (o : Ok W B Γ F σ H) (hi : Γ[i]? = some (.dct t kvs)) (h : σ[i]? = some (some (.ref ad))) : Own B F ad ∧ DctAt W.P W.w W.K F H t ad kvs := by
  obtain ⟨ad2, h1, h2, h3⟩ := dct_slot o hi
  rw [h] at h1
  cases h1
  exact ⟨h2, h3⟩
/-- what an operation on a dict must know -/
def rDct (T : Tb) (X : Cx) (f : Bool → Bool) : R2 := fun x y H Q => ∃ F t ad kvs k, y = .ref ad ∧ Same F H ∧ DctAt X.prog X.w X.K F H t ad kvs ∧ keyOk t k = true ∧ Dp X.K F x k.data ∧ Q (.bl (f (dget kvs k).isSome)) H
theorem op_din (hu : X.A.units + 64 < cLine) : OpR X (compareOp .In) (rDct T X id) := fun pins s σ H x y v u Q I rx ry ⟨F, t, ad, kvs, k, e, sf, D, ko, hx, q⟩ => by
  subst e
  cases ry
  exact dct_in hu I sf D ko (dp_same sf hx) rx fun s' I' => ⟨.bl _, H, I', rfl, q⟩
theorem op_dnotIn (hu : X.A.units + 64 < cLine) : OpR X (compareOp .NotIn) (rDct T X not) := fun pins s σ H x y v u Q I rx ry ⟨F, t, ad, kvs, k, e, sf, D, ko, hx, q⟩ => by
  subst e
  cases ry
  exact dct_notIn hu I sf D ko (dp_same sf hx) rx fun s' I' => ⟨.bl _, H, I', rfl, q⟩
theorem dct_rd {i : Nat} {f : Bool → Bool} {F0 : Hp} {B : Bs} {F H : Hp} {σ : L2.St} {x : V} {Q : VK} (o : Ok (wd T X) B Γ F σ H) (hi : Γ[i]? = some (.dct t kvs)) (ko : keyOk t k = true) (r : Dp X.K F x k.data) (q : Q (.bl (f (dget kvs k).isSome)) H) : tVar i σ H fun v H2 => rDct T X f x v H2 Q := by
  obtain ⟨ad, h1, h3, h4⟩ := dct_slot o hi
  exact ⟨.ref ad, h1, F, t, ad, kvs, k, rfl, o.gd.fh, h4, ko, r, q⟩
theorem de_din {i : Nat} (r : Rn X i y) (he : DE T X Γ e Γ1 k.data) (hi : Γ1[i]? = some (.dct t kvs)) (ko : keyOk t k = true) (hu : X.A.units + 64 < cLine) : DE T X Γ (.Compare e [.In] [.Name y p1] pos) Γ1 (.bool (dget kvs k).isSome) := fun B =>
  pe_imp (pe_cmpR (op_din (T := T) hu) (he B) r.pe rfl) fun σ H Q ⟨F, o, q⟩ => ⟨F, o, fun F' H' v o' s' r' => dct_rd (f := id) (F0 := F) o' hi ko r' (q F' H' _ o' s' (.bl _))⟩
theorem dt_din {i : Nat} (r : Rn X i y) (he : DE T X Γ e Γ1 k.data) (hi : Γ1[i]? = some (.dct t kvs)) (ko : keyOk t k = true) (hu : X.A.units + 64 < cLine) (hb : (dget kvs k).isSome = bb) : DT T X Γ (.Compare e [.In] [.Name y p1] pos) Γ1 bb := fun B =>
  pt_imp (pt_cmpR (op_din (T := T) hu) (he B) r.pe rfl) fun σ H Q ⟨F, o, q⟩ => ⟨F, o, fun F' H' v o' s' r' => dct_rd (f := id) (F0 := F) o' hi ko r' ⟨_, rfl, by
    subst hb
    exact q F' H' o' s'⟩⟩
theorem de_dnotIn {i : Nat} (r : Rn X i y) (he : DE T X Γ e Γ1 k.data) (hi : Γ1[i]? = some (.dct t kvs)) (ko : keyOk t k = true) (hu : X.A.units + 64 < cLine) : DE T X Γ (.Compare e [.NotIn] [.Name y p1] pos) Γ1 (.bool (!(dget kvs k).isSome)) := fun B =>
  pe_imp (pe_cmpR (op_dnotIn (T := T) hu) (he B) r.pe rfl) fun σ H Q ⟨F, o, q⟩ => ⟨F, o, fun F' H' v o' s' r' => dct_rd (f := not) (F0 := F) o' hi ko r' (q F' H' _ o' s' (.bl _))⟩
theorem dt_dnotIn {i : Nat} (r : Rn X i y) (he : DE T X Γ e Γ1 k.data) (hi : Γ1[i]? = some (.dct t kvs)) (ko : keyOk t k = true) (hu : X.A.units + 64 < cLine) (hb : (!(dget kvs k).isSome) = bb) : DT T X Γ (.Compare e [.NotIn] [.Name y p1] pos) Γ1 bb := fun B =>
  pt_imp (pt_cmpR (op_dnotIn (T := T) hu) (he B) r.pe rfl) fun σ H Q ⟨F, o, q⟩ => ⟨F, o, fun F' H' v o' s' r' => dct_rd (f := not) (F0 := F) o' hi ko r' ⟨_, rfl, by
    subst hb
    exact q F' H' o' s'⟩⟩
/-- d[k] -/
theorem de_dget {i : Nat} (r : Rn X i y) (hi : Γ[i]? = some (.dct t kvs)) (he : DE T X Γ e Γ k.data) (ko : keyOk t k = true) (hd : dget kvs k = some d) (hu : X.A.units + 64 < cLine) (hs : NoSl e := by exact fun _ _ => rfl) : DE T X Γ (.Subscript (.Name y p1) e pos) Γ d := fun B => ⟨fun pins s σ H Q I ⟨F, o, q⟩ => by
  obtain ⟨ad, h1, h3, h4⟩ := dct_slot o hi
  refine subD_of PySem.F.slot_dict_getitem.lookup hs (thn (r.pe.run pins s σ H (fun v H1 => v = .ref ad ∧ H1 = H) I ⟨.ref ad, h1, rfl, rfl⟩) fun u s1 ⟨x, H1, I1, rx, ex, eH⟩ => ?_)
  subst ex eH
  cases rx
  refine thn ((he B).run pins s1 σ _ (fun v H2 => ∃ F2, Ok (wd T X) B Γ F2 σ H2 ∧ Same F F2 ∧ Dp X.K F2 v k.data) I1 ⟨F, o, fun F' H' v o' s' r' => ⟨F', o', s', r'⟩⟩) fun iv s2 ⟨z, H2, I2, rz, F2, o2, s2', r2⟩ => ?_
  obtain ⟨g1, g2⟩ := dct_same (B' := B) (F' := F) (H' := H2) o2 hi h1
  refine ⟨(dct_type I2 o2.gd.fh g2).1, ?_⟩
  exact dct_get hu I2 o2.gd.fh g2 ko (dp_same o2.gd.fh r2) rz hd fun v w' s3 I3 rw' dv => ⟨v, H2, I3, rw', q F2 H2 v o2 s2' dv⟩⟩
/-- len(d) -/
def rLenDct (X : Cx) : List V → Hp → VK → Prop := fun xs H Q => ∃ F t ad kvs, xs = [.ref ad] ∧ Same F H ∧ DctAt X.prog X.w X.K F H t ad kvs ∧ Q (.int (kvs.length : Int)) H
theorem cr_lenDct : CallR X (.builtin "len") (rLenDct X) := by
  intro pins s σ H xs us Q I r h
  obtain ⟨F, t, ad, kvs, e, sf, D, q⟩ := h
  subst e
  obtain ⟨u, rfl, rx⟩ := vals1 r
  cases rx
  exact dct_len I sf D fun tk s' I' => ⟨.int _, H, I', ⟨tk, rfl⟩, q⟩
theorem de_lenD {i : Nat} (r : Rn X i y) (hi : Γ[i]? = some (.dct t kvs)) (hm : X.mg "len" = none) (hg : Gl X "len" := by rfl) (he : starEach [.Name y p1] X.env = (false, eval (.Name y p1) X.env) :: starEach [] X.env := by rfl)
    (hpl : (backTo pos (starEach [] X.env)).any (·.1) = false := by rfl) : DE T X Γ (.Call (.Name "len" p) [.Name y p1] [] pos) Γ (.int (kvs.length : Int)) := fun B =>
  pe_imp (pe_callB cr_lenDct hg hm (by decide +kernel) (pa_cons r.pe pa_nil he) (by decide) (by decide) he hpl) fun σ H Q ⟨F, o, q⟩ => by
    obtain ⟨ad, h1, h3, h4⟩ := dct_slot o hi
    exact ⟨_, h1, F, t, ad, kvs, rfl, o.gd.fh, h4, q F H _ o (Same.refl F) (.int _)⟩
theorem dct_cell {B : Bs} {F H : Hp} {σ : L2.St} {i : Nat} {ad : Addr} {o : HO} {kvs' : List (NestedKey × PyData)} (ok : Ok (wd T X) B Γ F σ H) (hi : Γ[i]? = some (.dct t kvs)) (h : σ[i]? = some (some (.ref ad))) (m : MayPut H ad o) (D : DctAt X.prog X.w X.K F (upd H ad o) t ad kvs') :
    Ok (wd T X) B (Γ.set i (.dct t kvs')) F σ (upd H ad o) := by
  obtain ⟨g1, g2⟩ := dct_same (B' := B) (F' := F) (H' := H) ok hi h
  obtain ⟨u, m1, m2, m3⟩ := m.old
  exact ok.cell hi rfl h (Nx.set ok.gd rfl m1 m2 m3 g1.1 m.fit) ⟨ad, rfl, g1, D⟩
/-- d[k] = v -/
theorem ds_dput {i : Nat} {val : Expr} (r : Rn X i y) (hv : DE T X Γ val Γ1 d) (hi : Γ1[i]? = some (.dct t kvs)) (he : DE T X Γ1 e Γ1 k.data) (ko : keyOk t k = true) (hl : kvs.length ≤ 100000) (hu : X.A.units + 64 < cLine)
    (hs : swapsWith val (some (.Subscript (.Name y p1) e p2)) pos.line X.env = pure false := by rfl) : DS T X Γ (.Assign [.Subscript (.Name y p1) e p2] val pos) (.nx (Γ1.set i (.dct t (dput kvs k d)))) := fun B => ⟨fun pins s σ H D I ⟨F, o, q⟩ => by
  refine wpAny_Assign_Subscript (thn ((hv B).run pins s σ H (fun v H1 => ∃ F1, Ok (wd T X) B Γ1 F1 σ H1 ∧ Same F F1 ∧ Dp X.K F1 v d) I ⟨F, o, fun F' H' v o' s' r' => ⟨F', o', s', r'⟩⟩) fun rv s1 ⟨v, H1, I1, r1, F1, o1, sf1, dv⟩ => ?_) hs
  obtain ⟨ad, h1, h3, h4⟩ := dct_slot o1 hi
  refine thn (r.pe.run pins s1 σ H1 (fun v H' => v = .ref ad ∧ H' = H1) I1 ⟨.ref ad, h1, rfl, rfl⟩) fun u s2 ⟨x, H', I2, rx, ex, eH⟩ => ?_
  subst ex eH
  cases rx
  refine thn ((he B).run pins s2 σ _ (fun v H2 => ∃ F2, Ok (wd T X) B Γ1 F2 σ H2 ∧ Same F1 F2 ∧ Dp X.K F2 v k.data) I2 ⟨F1, o1, fun F' H' v o' s' r' => ⟨F', o', s', r'⟩⟩) fun iv s3 ⟨z, H2, I3, rz, F2, o2, sf2, dz⟩ => ?_
  obtain ⟨g1, g2⟩ := dct_same (B' := B) (F' := F) (H' := H2) o2 hi h1
  exact dct_set hu I3 o2.gd.fh g2 ko dz rz (dp_same sf2 dv) r1 hl fun ob s4 I4 m D' => ⟨σ, _, I4, q F2 σ _ (dct_cell o2 hi h1 m D') (sf1.trans sf2)⟩⟩
/-- d.setdefault(k, v) -/
def setdG (kvs : List (NestedKey × PyData)) (k : NestedKey) (d : PyData) : List (NestedKey × PyData) := if (dget kvs k).isSome then kvs else dput kvs k d
theorem ds_dsetd {i : Nat} {val : Expr} (r : Rn X i y) (hi : Γ[i]? = some (.dct t kvs)) (he : DE T X Γ e Γ k.data) (hv : DE T X Γ val Γ d) (ko : keyOk t k = true) (hl : kvs.length ≤ 100000) (hu : X.A.units + 64 < cLine)
    (hbase : attributeBase (.Name y p1) "setdefault" X.env (eval (.Name y p1) X.env) = eval (.Name y p1) X.env := by rfl)
    (hfew : ((backTo cpos (starEach [e, val] X.env)).all (fun x => !x.1) && (backToKw cpos (keywordEach [] X.env)).all (fun x => x.1.isSome) && decide ([e, val].length + ([] : List Keyword).length + (if ([] : List Keyword).isEmpty then 0 else 1) < 30)) = true := by rfl)
    (hline : (apos.endLine == cpos.line) = true := by rfl) (hs : starEach [e, val] X.env = (false, eval e X.env) :: starEach [val] X.env := by rfl) (hs2 : starEach [val] X.env = (false, eval val X.env) :: starEach [] X.env := by rfl)
    (hplain : (backTo cpos (starEach [val] X.env)).any (·.1) = false := by rfl) (hsw : swapsWith (.Call (.Attribute (.Name y p1) "setdefault" apos) [e, val] [] cpos) none pos.line X.env = pure false := by rfl) :
    DS T X Γ (.Expr (.Call (.Attribute (.Name y p1) "setdefault" apos) [e, val] [] cpos) pos) (.nx (Γ.set i (.dct t (setdG kvs k d)))) := fun B => by
  have hpe : PE X (.Call (.Attribute (.Name y p1) "setdefault" apos) [e, val] [] cpos) (fun σ H Q => ∃ F, Ok (wd T X) B Γ F σ H ∧ ∀ F' H' v, Ok (wd T X) B (Γ.set i (.dct t (setdG kvs k d))) F' σ H' → Same F F' → Q v H') := ⟨fun pins s σ H Q I ⟨F, o, q⟩ => by
    obtain ⟨ad, h1, h3, h4⟩ := dct_slot o hi
    refine wpAny_Call_method_late hbase hfew hline rfl (thn (r.pe.run pins s σ H (fun v H' => v = .ref ad ∧ H' = H) I ⟨.ref ad, h1, rfl, rfl⟩) fun u s2 ⟨x, H', I2, rx, ex, eH⟩ => ?_)
    subst ex eH
    cases rx
    obtain ⟨t1, t2⟩ := dct_type I2 o.gd.fh h4
    refine ⟨"dict", "dict.setdefault", PySem.F.plainAttrs_dict, PySem.F.slot_dict_setdefault, PySem.F.type_dict_setdefault, t1, t2, ?_⟩
    have hA := (pa_cons (he B) (pa_cons (hv B) pa_nil hs2) hs).run cpos pins s2 σ _ (fun vs H3 => ∃ F3 v1 v2, vs = [v1, v2] ∧ Ok (wd T X) B Γ F3 σ H3 ∧ Same F F3 ∧ Dp X.K F3 v1 k.data ∧ Dp X.K F3 v2 d) I2
      ⟨F, o, fun F1 H1 v1 o1 sf1 r1 => ⟨F1, o1, fun F2 H2 v2 o2 sf2 r2 => ⟨F2, v1, v2, rfl, o2, sf1.trans sf2, dp_same sf2 r1, r2⟩⟩⟩
    rw [hs] at hA ⊢
    refine Calls.callWith_builtin (by show (false || (backTo cpos (starEach [val] X.env)).any (·.1)) = false; rw [hplain] <;> rfl) (Calls.evalArgs_plain ?_)
    refine thn hA fun us s3 ⟨vs, H3, I3, r3, F3, v1, v2, ev, o3, sf3, d1, d2⟩ => ?_
    subst ev
    obtain ⟨u1, u2, rfl, ru1, ru2⟩ := r3.two
    obtain ⟨g1, g2⟩ := dct_same (B' := B) (F' := F) (H' := H3) o3 hi h1
    have keep : (dget kvs k).isSome = true → Γ.set i (.dct t (setdG kvs k d)) = Γ := fun z => by
      unfold setdG
      rw [if_pos z]
      refine List.ext_getElem? fun j => ?_
      by_cases e : i = j
      · subst e
        rw [List.getElem?_set_self (List.getElem?_eq_some_iff.mp hi).1, hi]
      · rw [List.getElem?_set_ne e]
    refine dct_setd hu I3 o3.gd.fh g2 ko d1 ru1 d2 ru2 hl (fun d0 e0 z w' s' I' rz dz => ?_) fun e0 ob w' s' I' rz m D' => ?_
    · exact ⟨z, H3, I', rz, q F3 H3 z (by rw [keep (by rw [e0] <;> rfl)]; exact o3) sf3⟩
    · refine ⟨v2, _, I', rz, q F3 _ v2 ?_ sf3⟩
      have es : setdG kvs k d = dput kvs k d := by
        unfold setdG
        rw [e0] <;> rfl
      rw [es]
      exact dct_cell o3 hi h1 m D'⟩
  exact ps_imp (ps_expr hpe hsw) fun D σ H ⟨F, o, q⟩ => ⟨F, o, fun F' H' v o' s' => q F' σ H' o' s'⟩
/-- {} -/
theorem do1_dict0 (t : Bool) : DO1 T X Γ (.Dict [] [] pos) Γ (.dct t []) := fun B => ⟨fun pins s σ H Q I ⟨F, o, q⟩ => by
  have hp : H s.heap.objs.size = none := I.hok.fresh (Nat.le_refl _)
  have hf : F s.heap.objs.size = none := by
    cases z : F s.heap.objs.size with
    | none => rfl
    | some u =>
      rw [o.gd.fh _ _ z] at hp
      cases hp
  have h0 : B.H0 s.heap.objs.size = none := by
    cases z : B.H0 s.heap.objs.size with
    | none => rfl
    | some u => exact absurd hp (o.nx.dm _ (by rw [z]; intro y; cases y))
  have ns : (s.heap.objs.size == sysModules) = false := beq_eq_false_iff_ne.mpr (Ne.symm (Nat.ne_of_lt I.big))
  cases t with
  | false =>
    have n : Nx T NoM F H F (upd H s.heap.objs.size (.dK [])) := Nx.newH o.gd hp trivial
    refine pe_dnewK.run pins s σ H Q I fun p hp' => ?_
    have hf' : F p = none := by
      cases z : F p with
      | none => rfl
      | some u =>
        rw [o.gd.fh _ _ z] at hp'
        cases hp'
    have h0' : B.H0 p = none := by
      cases z : B.H0 p with
      | none => rfl
      | some u => exact absurd hp' (o.nx.dm _ (by rw [z]; intro y; cases y))
    have n : Nx T NoM F H F (upd H p (.dK [])) := Nx.newH o.gd hp' trivial
    refine q F _ _ ((o.next n).push ⟨p, rfl, ⟨hf', .inl h0'⟩, [], upd_same, .nil⟩ fun _ a ea j t e1 o1 e2 => ?_) (Same.refl F)
    cases ea
    exact (o.own e1 o1 e2).2 hp'
  | true =>
    have I' : Inv X pins σ (upd H s.heap.objs.size (NdO X.prog X.w s.heap.objs.size [])) { s with heap := s.heap.push { cls := .type "dict", data := .dict #[] }, toks := s.toks } :=
      I.laid (fun _ _ z => Heap.get?_push_of_some _ z) (Nat.le_refl _) (nd_new (Heap.DictOfH.new s.heap))
    have n : Nx T NoM F H F (upd H s.heap.objs.size (NdO X.prog X.w s.heap.objs.size [])) := Nx.newH o.gd hp trivial
    refine wpAny_Dict_empty ⟨.ref s.heap.objs.size, _, I', rfl, q F _ _ ((o.next n).push ⟨_, rfl, ⟨hf, .inl h0⟩, [], upd_same, ns, Nat.zero_le _, List.nodup_nil, .nil⟩ fun _ a ea j t e1 o1 e2 => ?_) (Same.refl F)⟩
    cases ea
    exact (o.own e1 o1 e2).2 hp⟩
end
end Dd
end
section
/-! Dd13: a dict of one pair; methods of tuples. -/
namespace Dd
open PySem PySem.Spec PyProof.Rows L2
section
variable {T : Tb} {X : Cx} {Γ Γ1 Γ2 : Ga} {e a b c : Expr} {es : List Expr} {d d1 d2 : PyData} {ds : List PyData} {pos p p1 p2 apos cpos : Pos} {t : Bool} {kvs : List (NestedKey × PyData)} {k : NestedKey} {y : Str}
theorem fresh_own {B : Bs} {F H : Hp} {σ : L2.St} {p : Addr} (o : Ok (wd T X) B Γ F σ H) (hp : H p = none) : Own B F p ∧ ∀ (a : Addr), V.ref p = .ref a → ∀ (j : Nat) (t : Sl), Γ[j]? = some t → isOwn t = true → σ[j]? ≠ some (some (.ref a)) := by
  refine ⟨⟨?_, .inl ?_⟩, fun a ea j t e1 o1 e2 => ?_⟩
  · cases z : F p with
    | none => rfl
    | some u =>
      rw [o.gd.fh _ _ z] at hp
      cases hp
  · cases z : B.H0 p with
    | none => rfl
    | some u => exact absurd hp (o.nx.dm p (by rw [z]; intro y; cases y))
  · cases ea
    exact (o.own e1 o1 e2).2 hp
/-- the new dict stands, its pair is evaluated -/
theorem pair_run {B : Bs} {F H : Hp} {σ : L2.St} {p : Addr} {pins : List (Addr × Obj)} {s : Shared} (he : DE T X Γ e Γ k.data) (hv : DE T X Γ b Γ d) (o : Ok (wd T X) B (Γ ++ [.dct t []]) F (σ ++ [some (.ref p)]) H) (I : Inv X pins σ H s) (hl : σ.length = Γ.length)
    {Q : List (Value × Value) → Shared → Prop} (q : ∀ F' H' y v u r s', Inv X pins σ H' s' → RelV y u → RelV v r → Dp X.K F' y k.data → Dp X.K F' v d → Ok (wd T X) B (Γ ++ [.dct t []]) F' (σ ++ [some (.ref p)]) H' → Same F F' → Q [(u, r)] s') :
    wpAny (model X.prog X.w) X.A (evalPairs (pairTrees [some e] [b] X.env pos)) Q X.xe s := by
  have len : ∀ {F' H' : Hp}, Ok (wd T X) ⟨F, H, mOf Γ σ⟩ Γ F' σ H' → Ok (wd T X) B (Γ ++ [.dct t []]) F' (σ ++ [some (.ref p)]) H' := fun {F' H'} o' => by
    have := o.frame (s2 := []) (τ2 := []) hl (by rw [List.append_nil, List.append_nil]; exact o') rfl
    rw [List.append_nil, List.append_nil] at this
    exact this
  refine pairTrees_cons_walk (thn ((he ⟨F, H, mOf Γ σ⟩).run pins s σ H (fun v H2 => ∃ F2, Ok (wd T X) ⟨F, H, mOf Γ σ⟩ Γ F2 σ H2 ∧ Same F F2 ∧ Dp X.K F2 v k.data) I ⟨F, (o.front hl).self, fun F' H' v o' s' r' => ⟨F', o', s', r'⟩⟩) fun u s1 ⟨y, H1, I1, ry, F1, o1, sf1, dy⟩ => ?_)
  refine thn ((hv ⟨F, H, mOf Γ σ⟩).run pins s1 σ H1 (fun v H2 => ∃ F2, Ok (wd T X) ⟨F, H, mOf Γ σ⟩ Γ F2 σ H2 ∧ Same F1 F2 ∧ Dp X.K F2 v d) I1 ⟨F1, o1, fun F' H' v o' s' r' => ⟨F', o', s', r'⟩⟩) fun r s2 ⟨v, H2, I2, rv, F2, o2, sf2, dv⟩ => ?_
  exact pairTrees_nil_walk (q F2 H2 y v u r s2 I2 ry rv (dp_same sf2 dy) dv (len o2) (sf1.trans sf2))
theorem last_dct {B : Bs} {F H : Hp} {σ : L2.St} {p : Addr} (o : Ok (wd T X) B (Γ ++ [.dct t kvs]) F (σ ++ [some (.ref p)]) H) : Own B F p ∧ DctAt X.prog X.w X.K F H t p kvs := by
  have hl : σ.length = Γ.length := by
    have := o.len
    rw [List.length_append, List.length_append] at this
    simpa using this
  have g : (Γ ++ [Sl.dct t kvs])[Γ.length]? = some (.dct t kvs) := by
    rw [List.getElem?_append_right (Nat.le_refl _), Nat.sub_self]
    rfl
  have h : (σ ++ [some (V.ref p)])[Γ.length]? = some (some (.ref p)) := by
    rw [← hl, List.getElem?_append_right (Nat.le_refl _), Nat.sub_self]
    rfl
  exact dct_same (B' := B) (F' := F) (H' := H) o g h
theorem last_put {B : Bs} {F H : Hp} {σ : L2.St} {p : Addr} {ob : HO} {kvs' : List (NestedKey × PyData)} (o : Ok (wd T X) B (Γ ++ [.dct t kvs]) F (σ ++ [some (.ref p)]) H) (m : MayPut H p ob) (D : DctAt X.prog X.w X.K F (upd H p ob) t p kvs') :
    Ok (wd T X) B (Γ ++ [.dct t kvs']) F (σ ++ [some (.ref p)]) (upd H p ob) := by
  have hl : σ.length = Γ.length := by
    have := o.len
    rw [List.length_append, List.length_append] at this
    simpa using this
  have g : (Γ ++ [Sl.dct t kvs])[Γ.length]? = some (.dct t kvs) := by
    rw [List.getElem?_append_right (Nat.le_refl _), Nat.sub_self]
    rfl
  have h : (σ ++ [some (V.ref p)])[Γ.length]? = some (some (.ref p)) := by
    rw [← hl, List.getElem?_append_right (Nat.le_refl _), Nat.sub_self]
    rfl
  have r := dct_cell o g h m D
  have e : (Γ ++ [Sl.dct t kvs]).set Γ.length (.dct t kvs') = Γ ++ [.dct t kvs'] := by
    rw [List.set_append_right _ _ (Nat.le_refl _), Nat.sub_self]
    rfl
  rw [e] at r
  exact r
/-- {k: v} -/
theorem do1_dict1 (t : Bool) (he : DE T X Γ e Γ k.data) (hv : DE T X Γ b Γ d) (ko : keyOk t k = true) (hu : X.A.units + 64 < cLine) : DO1 T X Γ (.Dict [some e] [b] pos) Γ (.dct t [(k, d)]) := fun B => ⟨fun pins s σ H Q I ⟨F, o, q⟩ => by
  have hp : H s.heap.objs.size = none := I.hok.fresh (Nat.le_refl _)
  obtain ⟨ow, ap⟩ := fresh_own o hp
  have ns : (s.heap.objs.size == sysModules) = false := beq_eq_false_iff_ne.mpr (Ne.symm (Nat.ne_of_lt I.big))
  have hl : σ.length = Γ.length := o.len
  refine wpAny_Dict_any rfl rfl (fun z => by cases z) (show 1 ≤ 15 by decide) ?_
  cases t with
  | false =>
    obtain ⟨i, rfl⟩ := key_num ko
    have I1 : Inv X pins σ (upd H s.heap.objs.size (.dK [])) { s with heap := s.heap.push { cls := .type "dict", data := .dict #[] }, toks := s.toks } := I.laid (fun _ _ z => Heap.get?_push_of_some _ z) (Nat.le_refl _) (dk_empty s.heap I.big)
    have n : Nx T NoM F H F (upd H s.heap.objs.size (.dK [])) := Nx.newH o.gd hp trivial
    have o1 := (o.next n).push (s := .dct false []) (v := .ref s.heap.objs.size) ⟨_, rfl, ow, [], upd_same, .nil⟩ fun _ => ap
    refine pair_run he hv o1 I1 hl fun F2 H2 y v u r s2 I2 ry rv dy dv o2 sf => ?_
    obtain ⟨ow2, kv, g1, g2⟩ := last_dct o2
    cases g2
    obtain rfl := num_int dy
    obtain ⟨z, hd, vs0, r0, dd⟩ := dk_of I2.hok g1
    cases r0
    refine wpAny_storeAll (knd := mixKind X.prog X.w) [(u, r)] [(.inl i, r)] [] s2 _ ⟨kV_is (k := .inl i) ry, rfl, trivial⟩ dd (show 0 + 1 ≤ sizeLine by decide) fun h' dd' hs => ?_
    have he' : ∃ q, h'.get? s.heap.objs.size = some q := let ⟨q, _, _, hq, _⟩ := dd'; ⟨q, hq⟩
    have I3 := d_write (ob := .dK [(.inl i, v)]) (t' := s2.toks + [(u, r)].length) I2 (by rw [g1]; exact True.intro) hs he' (dk_new (show 1 ≤ sizeLine by decide) hd (show KV [((.inl i : Key), v)] [((.inl i : Key), r)] from .cons ⟨rfl, rv⟩ .nil) dd')
    refine ⟨.ref s.heap.objs.size, _, I3, rfl, q F2 _ _ (last_put o2 ⟨⟨_, g1, dk_nt, dk_code⟩, trivial⟩ ⟨_, upd_same, .cons ⟨⟨i, rfl, rfl⟩, dv⟩ .nil⟩) sf⟩
  | true =>
    obtain ⟨ks, rfl, hdep⟩ := key_tup ko
    have I1 : Inv X pins σ (upd H s.heap.objs.size (NdO X.prog X.w s.heap.objs.size [])) { s with heap := s.heap.push { cls := .type "dict", data := .dict #[] }, toks := s.toks } :=
      I.laid (fun _ _ z => Heap.get?_push_of_some _ z) (Nat.le_refl _) (nd_new (Heap.DictOfH.new s.heap))
    have n : Nx T NoM F H F (upd H s.heap.objs.size (NdO X.prog X.w s.heap.objs.size [])) := Nx.newH o.gd hp trivial
    have o1 := (o.next n).push (s := .dct true []) (v := .ref s.heap.objs.size) ⟨_, rfl, ow, [], upd_same, ns, Nat.zero_le _, List.nodup_nil, .nil⟩ fun _ => ap
    refine pair_run he hv o1 I1 hl fun F2 H2 y v u r s2 I2 ry rv dy dv o2 sf => ?_
    obtain ⟨ow2, xs, g1, g2, g3, g4, g5⟩ := last_dct o2
    cases g5
    obtain ⟨bb, rfl⟩ := tup_ref dy
    cases (show u = Value.ref bb from ry)
    have dd := nd_at I2 o2.gd.fh g1 g4 .nil
    have kin : (nestedKind X.prog X.w).is s2.heap (.tup ks) bb := ⟨nis_at I2 (dp_same o2.gd.fh dy) rfl, hdep⟩
    refine wpAny_storeAllH (knd := nestedKind X.prog X.w) (show X.A.units + 8 < cLine by omega) [(.ref bb, r)] [(.tup ks, bb, r)] [] s2 _ ⟨rfl, rfl, kin, trivial⟩ dd (show 0 + 1 ≤ sizeLine by decide) fun h' tk dd' hs => ?_
    have he' : ∃ q, h'.get? s.heap.objs.size = some q := let ⟨q, _, _, hq, _⟩ := dd'; ⟨q, hq⟩
    have es : storedAllH [] [(NestedKey.tup ks, bb, r)] = [(NestedKey.tup ks, bb, r)] := rfl
    rw [es] at dd'
    have I3 := d_write (ob := NdO X.prog X.w s.heap.objs.size [(.tup ks, bb, r)]) (t' := tk) I2 (by rw [g1]; trivial) hs he' (nd_new dd')
    exact ⟨.ref s.heap.objs.size, _, I3, rfl, q F2 _ _ (last_put o2 ⟨⟨_, g1, nd_nt, ndo_code I2 g1⟩, trivial⟩ ⟨_, upd_same, g2, (show 1 ≤ sizeLine by decide), dd'.nodup, .cons ⟨rfl, hdep, dy, v, rv, dv⟩ .nil⟩) sf⟩⟩

/-! ### methods of tuples -/
/-- the object of a tuple of the law's words -/
theorem thin_obj {F H : Hp} {σ : L2.St} {pins : List (Addr × Obj)} {s : Shared} {l : Addr} {xs : List V} (hK : ∀ a o, X.K.lookup a = some o → o.cls = .type "tuple" → o.dict = none) (I : Inv X pins σ H s) (g : Gd T F H) (h : SqT X.K F l xs) (ht : thin xs = true) :
    ∃ ob, s.heap.get? l = some ob ∧ ob.cls = .type "tuple" ∧ ob.dict = none := by
  rcases h with (h | ⟨ob, h⟩) | ⟨ob, its, n, h1, h2, _⟩
  · rw [g.th l xs h] at ht
    cases ht
  · obtain ⟨e1, _, its, _, o2, e2, e3, _⟩ := I.hok l _ (g.fh _ _ h)
    rw [e1] at e2
    cases e2
    exact ⟨_, e1, e3, g.fz l _ xs h ht⟩
  · exact ⟨ob, I.kIn l ob h1, h2, hK l ob h1 h2⟩
/-- t.m(x) -/
theorem de_tupM {nm : Str} {id : String} {r : V → List V → Hp → VK → Prop} (pa : PlainAttrs "tuple") (slot : Slot "tuple" nm id) (hty : typeOf (.builtin id) = pure (.type "method_descriptor")) (hm : MtR X id r) (hK : ∀ a o, X.K.lookup a = some o → o.cls = .type "tuple" → o.dict = none) (hth : thinD ds = true) (ha : DE T X Γ a Γ1 (.tuple ds)) (hb : DE T X Γ1 b Γ2 d1)
    (hr : ∀ F H l xs v (Q : VK), Gd T F H → SqT X.K H l xs → DpAll X.K F xs ds → Dp X.K F v d1 → (∀ F' H' v, Nx T NoM F H F' H' → Dp X.K F' v d → Q v H') → r (.ref l) [v] H Q)
    (hbase : attributeBase a nm X.env (eval a X.env) = eval a X.env := by rfl)
    (hfew : ((backTo cpos (starEach [b] X.env)).all (fun x => !x.1) && (backToKw cpos (keywordEach [] X.env)).all (fun x => x.1.isSome) && decide ([b].length + ([] : List Keyword).length + (if ([] : List Keyword).isEmpty then 0 else 1) < 30)) = true := by rfl)
    (hline : (apos.endLine == cpos.line) = true := by rfl) (hs : starEach [b] X.env = (false, eval b X.env) :: starEach [] X.env := by rfl) (hplain : (backTo cpos (starEach [] X.env)).any (·.1) = false := by rfl) :
    DE T X Γ (.Call (.Attribute a nm apos) [b] [] cpos) Γ2 d := fun B => ⟨fun pins s σ H Q I ⟨F, o, q⟩ => by
  refine wpAny_Call_method_late hbase hfew hline rfl (thn ((ha B).run pins s σ H (fun v H2 => ∃ F2, Ok (wd T X) B Γ1 F2 σ H2 ∧ Same F F2 ∧ Dp X.K F2 v (.tuple ds)) I ⟨F, o, fun F' H' v o' s' r' => ⟨F', o', s', r'⟩⟩) fun u s1 ⟨x, H1, I1, rx, F1, o1, sf1, dx⟩ => ?_)
  cases dx with
  | tup sq t =>
    rename_i l xs
    cases rx
    obtain ⟨ob, g1, g2, g3⟩ := thin_obj hK I1 o1.gd sq ((thin_eq t).trans hth)
    refine ⟨"tuple", id, pa, slot, hty, ⟨ob, g1, g2⟩, fun bb eb => ?_, ?_⟩
    · cases eb
      exact ⟨ob, g1, g3⟩
    · have hA := (pa_cons (hb B) pa_nil hs).run cpos pins s1 σ H1 (fun vs H3 => ∃ F3 v1, vs = [v1] ∧ Ok (wd T X) B Γ2 F3 σ H3 ∧ Same F1 F3 ∧ Dp X.K F3 v1 d1) I1 ⟨F1, o1, fun F2 H2 v1 o2 sf2 r1 => ⟨F2, v1, rfl, o2, sf2, r1⟩⟩
      rw [hs] at hA ⊢
      refine Calls.callWith_builtin (by show (false || (backTo cpos (starEach [] X.env)).any (·.1)) = false; rw [hplain] <;> rfl) (Calls.evalArgs_plain ?_)
      refine thn hA fun us s3 ⟨vs, H3, I3, r3, F3, v1, ev, o3, sf3, dv⟩ => ?_
      subst ev
      refine hm pins s3 σ H3 (.ref l) [v1] (.ref l) us Q I3 rfl r3 (hr F3 H3 l xs v1 Q o3.gd (sqt_same (sf3.trans o3.gd.fh) sq) (dpa_same sf3 t) dv fun F' H' v n r' => q F' H' v (o3.next n) ((sf1.trans sf3).trans n.ff) r')⟩
/-- t.index(x), texts -/
def rIndexT (K : PySem.W.Frag) : V → List V → Hp → VK → Prop := fun x xs H Q => ∃ (l : Addr) (ks : List Str) (z : Str), x = .ref l ∧ xs = [.str z] ∧ SqT K H l (ks.map .str) ∧ z ∈ ks ∧ Q (.int (ks.idxOf z : Nat)) H
theorem mt_indexT : MtR X "tuple.index" (rIndexT X.K) := by
  intro pins s σ H x xs v us Q I rx rxs h
  obtain ⟨l, ks, z, rfl, rfl, hs, hz, q⟩ := h
  cases rx
  obtain ⟨u, rfl, ru⟩ := rxs.one
  obtain ⟨tu, rfl⟩ := ru
  obtain ⟨its, rv, it, _⟩ := I.tuple hs
  have hv := rv.length
  rw [List.length_map] at hv
  refine SeqAt.call_tuple_index (vs := its) (ks := ks) (k := z) it ⟨hv.symm, fun j h1 h2 => ?_⟩ hz ⟨.int _, H, I.tok _, ⟨_, rfl⟩, q⟩
  obtain ⟨w, hw, rw'⟩ := rv.get (i := j) (x := .str ks[j]) (by rw [List.getElem?_map, List.getElem?_eq_getElem h2]; rfl)
  obtain ⟨tw, rfl⟩ := rw'
  have e : its[j] = .str ks[j] tw := by
    rw [List.getElem?_eq_getElem h1] at hw
    exact Option.some.inj hw
  rw [e]
  have q2 := SeqAt.EqAt.str_str (A := X.A.in1) (s := s) ks[j] tw z tu
  have e2 : (ks[j] == z) = decide (ks[j] = z) := by
    by_cases hh : ks[j] = z
    · rw [hh, beq_self_eq_true, decide_eq_true rfl]
    · rw [beq_eq_false_iff_ne.mpr hh, decide_eq_false hh]
  rw [e2] at q2
  exact q2
theorem dpa_strs {F : Hp} : ∀ {ks : List Str} {xs : List V}, DpAll X.K F xs (ks.map .str) → xs = ks.map V.str
  | [], _, .nil => rfl
  | k :: ks, _, .cons h t => by
    cases h
    rw [dpa_strs t] <;> rfl
theorem de_tupIx {ks : List Str} {z : Str} (hK : ∀ a o, X.K.lookup a = some o → o.cls = .type "tuple" → o.dict = none) (hth : thinD (ks.map .str) = true) (hz : z ∈ ks) (ha : DE T X Γ a Γ1 (.tuple (ks.map .str))) (hb : DE T X Γ1 b Γ2 (.str z))
    (hbase : attributeBase a "index" X.env (eval a X.env) = eval a X.env := by rfl)
    (hfew : ((backTo cpos (starEach [b] X.env)).all (fun x => !x.1) && (backToKw cpos (keywordEach [] X.env)).all (fun x => x.1.isSome) && decide ([b].length + ([] : List Keyword).length + (if ([] : List Keyword).isEmpty then 0 else 1) < 30)) = true := by rfl)
    (hline : (apos.endLine == cpos.line) = true := by rfl) (hs : starEach [b] X.env = (false, eval b X.env) :: starEach [] X.env := by rfl) (hplain : (backTo cpos (starEach [] X.env)).any (·.1) = false := by rfl) :
    DE T X Γ (.Call (.Attribute a "index" apos) [b] [] cpos) Γ2 (.int (ks.idxOf z : Nat)) :=
  de_tupM PySem.F.plainAttrs_tuple PySem.F.slot_tuple_index PySem.F.type_tuple_index mt_indexT hK hth ha hb (fun F H l xs v Q g sq da dv q => by
    cases dv
    have e := dpa_strs da
    subst e
    exact ⟨l, ks, z, rfl, rfl, sq, hz, q F H _ (Nx.refl g) (.int _)⟩) hbase hfew hline hs hplain
end
end Dd
end
section
/-! Dd14: loops by their places. -/
namespace Dd
open PySem PySem.Spec PyProof.Rows L2
section
variable {W : Wd} {B : Bs} {Γ : Ga} {F H : Hp} {σ : L2.St}
theorem Ok.forget (i : Nat) (o : Ok W B Γ F σ H) : Ok W B (Γ.set i .un) F σ H := by
  refine ⟨o.nx, by rw [List.length_set]; exact o.len, fun j t q => ?_, fun j k u w b q1 q2 p1 p2 s1 s2 => ?_⟩
  · rcases set_get q with ⟨rfl, rfl, hl⟩ | ⟨ne, q⟩
    · have h := o.len
      refine ⟨σ[i]'(by omega), List.getElem?_eq_getElem _, trivial⟩
    · exact o.sl j t q
  · rcases set_get q1 with ⟨rfl, rfl, hl⟩ | ⟨ne, q1⟩
    · cases p1
    · rcases set_get q2 with ⟨rfl, rfl, hl⟩ | ⟨ne2, q2⟩
      · cases p2
      · exact o.ds j k u w b q1 q2 p1 p2 s1 s2
end
section
variable {T : Tb} {X : Cx} {Γ Γ1 Γ2 Γ3 : Ga} {e a b c tg iter : Expr} {d d1 d2 : PyData} {ds : List PyData} {pos p p1 p2 : Pos} {ks : List Nat} {body : List Stmt} {o : Out}
theorem dss_fgt (i : Nat) (h : DSs T X Γ body (.nx Γ1)) : DSs T X Γ body (.nx (Γ1.set i .un)) := fun B =>
  pss_imp (h B) fun D σ H ⟨F, o, q⟩ => ⟨F, o, fun F' σ' H' o' s' => q F' σ' H' (o'.forget i) s'⟩
theorem dss_fgt0 (i : Nat) (h : DSs T X (Γ.set i .un) body o) : DSs T X Γ body o := fun B =>
  pss_imp (h B) fun D σ H ⟨F, o, q⟩ => ⟨F, o.forget i, q⟩
theorem ds_fgt {st : Stmt} (i : Nat) (h : DS T X Γ st (.nx Γ1)) : DS T X Γ st (.nx (Γ1.set i .un)) := fun B =>
  ps_imp (h B) fun D σ H ⟨F, o, q⟩ => ⟨F, o, fun F' σ' H' o' s' => q F' σ' H' (o'.forget i) s'⟩
theorem loopR_range (G : Nat → Ga) (g : Nat → PyData) (n : Nat) (h : ∀ i, i < n → ∃ ps, parts ks (g i) = some ps ∧ DSs T X (setG (G i) ks ps) body (.nx (G (i + 1)))) : LoopR T X ks body ((List.range n).map g) (G 0) (.nx (G n)) := by
  have all : ∀ m i, i + m = n → LoopR T X ks body ((List.range' i m).map g) (G i) (.nx (G n)) := fun m => by
    induction m with
    | zero =>
      intro i hi
      rw [show i = n by omega]
      exact .nil _
    | succ m ih =>
      intro i hi
      obtain ⟨ps, h1, h2⟩ := h i (by omega)
      rw [List.range'_succ, List.map_cons]
      exact .next h1 h2 (ih (i + 1) (by omega))
  rw [List.range_eq_range']
  exact all n 0 (by omega)
theorem loopR_to (G : Nat → Ga) (g : Nat → PyData) (n : Nat) (h : ∀ i, i < n → ∃ ps, parts ks (g i) = some ps ∧ DSs T X (setG (G i) ks ps) body (.nx (G (i + 1)))) (h0 : G 0 = Γ) (hn : G n = Γ1) (he : ds = (List.range n).map g) : LoopR T X ks body ds Γ (.nx Γ1) := by
  subst h0 hn he
  exact loopR_range G g n h
/-- .. that ends at its lap k -/
theorem loopR_ret (G : Nat → Ga) (g : Nat → PyData) (n k : Nat) {r : PyData} (hk : k < n) (h : ∀ i, i < k → ∃ ps, parts ks (g i) = some ps ∧ DSs T X (setG (G i) ks ps) body (.nx (G (i + 1)))) (hr : ∃ ps, parts ks (g k) = some ps ∧ DSs T X (setG (G k) ks ps) body (.ret Γ2 r)) :
    LoopR T X ks body ((List.range n).map g) (G 0) (.ret Γ2 r) := by
  have all : ∀ m i, i + m = n → i ≤ k → LoopR T X ks body ((List.range' i m).map g) (G i) (.ret Γ2 r) := fun m => by
    induction m with
    | zero =>
      intro i hi h2
      omega
    | succ m ih =>
      intro i hi hik
      rw [List.range'_succ, List.map_cons]
      by_cases e : i = k
      · subst e
        obtain ⟨ps, h1, h2⟩ := hr
        exact .ret h1 h2
      · obtain ⟨ps, h1, h2⟩ := h i (by omega)
        exact .next h1 h2 (ih (i + 1) (by omega) (by omega))
  rw [List.range_eq_range']
  exact all n 0 (by omega) (Nat.zero_le _)
theorem whileR_to (G : Nat → Ga) (n : Nat) (h : ∀ i, i < n → DT T X (G i) c (G i) true ∧ DSs T X (G i) body (.nx (G (i + 1)))) (hn : DT T X (G n) c (G n) false) : WhileR T X c body n (G 0) (.nx (G n)) := by
  have all : ∀ m i, i + m = n → WhileR T X c body m (G i) (.nx (G n)) := fun m => by
    induction m with
    | zero =>
      intro i hi
      rw [show i = n by omega]
      exact .done hn
    | succ m ih =>
      intro i hi
      obtain ⟨h1, h2⟩ := h i (by omega)
      exact .step h1 h2 (ih (i + 1) (by omega))
  exact all n 0 (by omega)
/-- .. that ends at its lap n -/
theorem whileR_ret (G : Nat → Ga) (n : Nat) {r : PyData} (h : ∀ i, i < n → DT T X (G i) c (G i) true ∧ DSs T X (G i) body (.nx (G (i + 1)))) (hn : DT T X (G n) c (G n) true) (hr : DSs T X (G n) body (.ret Γ2 r)) : WhileR T X c body n (G 0) (.ret Γ2 r) := by
  have all : ∀ m i, i + m = n → WhileR T X c body m (G i) (.ret Γ2 r) := fun m => by
    induction m with
    | zero =>
      intro i hi
      rw [show i = n by omega]
      exact .ret hn hr
    | succ m ih =>
      intro i hi
      obtain ⟨h1, h2⟩ := h i (by omega)
      exact .step h1 h2 (ih (i + 1) (by omega))
  exact all n 0 (by omega)
theorem whileR_for (G : Nat → Ga) (n : Nat) (h : ∀ i, i < n → DT T X (G i) c (G i) true ∧ DSs T X (G i) body (.nx (G (i + 1)))) (hn : DT T X (G n) c (G n) false) (h0 : G 0 = Γ) (h1 : G n = Γ1) : WhileR T X c body n Γ (.nx Γ1) := by
  subst h0 h1
  exact whileR_to G n h hn
theorem enumD_range (ds : List PyData) : enumD ds = (List.range ds.length).map fun i => .tuple [.int ((i : Nat) : Int), ds.getD i .none] := by
  refine List.ext_getElem? fun i => ?_
  rw [List.getElem?_map]
  by_cases h : i < ds.length
  · rw [List.getElem?_eq_getElem (l := enumD ds) (by rw [enumD_len]; exact h), List.getElem?_range h]
    obtain ⟨d, h1, h2⟩ := enumD_get (ds := ds) (List.getElem?_eq_getElem (l := enumD ds) (by rw [enumD_len]; exact h))
    rw [h2, Option.map_some, List.getD_eq_getElem?_getD, h1]
    rfl
  · rw [List.getElem?_eq_none (by rw [enumD_len]; omega), List.getElem?_eq_none (by rw [List.length_range]; omega)]
    rfl
theorem map_range {α : Type} (l : List α) (z : α) (g : α → PyData) : l.map g = (List.range l.length).map fun i => g (l.getD i z) := by
  refine List.ext_getElem? fun i => ?_
  rw [List.getElem?_map, List.getElem?_map]
  by_cases h : i < l.length
  · rw [List.getElem?_range h, List.getElem?_eq_getElem h, Option.map_some, Option.map_some, List.getD_eq_getElem?_getD, List.getElem?_eq_getElem h]
    rfl
  · rw [List.getElem?_eq_none (by omega), List.getElem?_eq_none (by rw [List.length_range]; omega)]
    rfl
theorem for_is {ds ds' : List PyData} (h : LoopR T X ks body ds Γ o) (e : ds = ds') : LoopR T X ks body ds' Γ o := e ▸ h
/-- a comprehension, item by item of a plain list, that keeps the slots -/
theorem compR_nil0 {scope : Scope} {vs : List Nat} {elt : Expr} : CompR T X scope vs ks [] elt [] Γ [] Γ := .nil Γ
theorem compR_range {scope : Scope} {vs : List Nat} {elt : Expr} {ds rs : List PyData} (g f : Nat → PyData) (n : Nat) (hk : ks.all vs.contains = true) (ho : noOwn vs Γ = true)
    (h : ∀ i, i < n → ∃ ps, parts ks (g i) = some ps ∧ BE T X scope (setG (wipeG vs 0 Γ) ks ps) elt (setG (wipeG vs 0 Γ) ks ps) (f i)) (e1 : ds = (List.range n).map g) (e2 : rs = (List.range n).map f) : CompR T X scope vs ks [] elt ds Γ rs Γ := by
  subst e1 e2
  exact compR_mapL g f hk ho fun i hi => h i (List.mem_range.mp hi)
theorem rc_tupL {K : PySem.W.Frag} : RC T K (rTupF K) [.list ds] (.tuple ds) := rc_tuple rfl
theorem atI_n {ds : List PyData} {i : Nat} {d : PyData} (h : ds[i]? = some d) : atI ds (i : Int) = some d := by
  have hi := (List.getElem?_eq_some_iff.mp h).1
  unfold atI ixN
  simp [hi]
  exact (List.getElem?_eq_some_iff.mp h).2
end
end Dd
end
section
/-! Dd15: lambdas with parameters, handed to a def. -/
namespace Dd
open PySem PySem.Spec PyProof.Rows L2
open LamX (CodeO Tabs TabS)
open NdefX (NF NScope CellsAt ncx envF startF)
section
variable {X : Cx} {pins : List (Addr × Obj)} {σ : L2.St} {F H : Hp} {s : Shared}
theorem code_ne {c : Addr} {q : Str} (ps : Array Value) : CodeO c q ≠ .tbl ps := LamX.codeO_ne ps
/-- the good pair when the table has grown by a code object -/
theorem Gd.grow {T : Tb} {P c : Addr} {q : Str} {ps : Array Value} {pos : Pos} (g : Gd T F H) (hP : H P = some (.tbl ps)) (ht : TriplesOk ps.toList) (hc : H c = none) (hm : (P, q) ∈ T.tabs) (hu : ∀ p ∈ T.tabs, p.1 = P → p.2 = q) :
    Nx T NoM F H F (upd (upd H P (.tbl (ps ++ #[rawInt pos.line, rawInt pos.col, .ref c]))) c (CodeO c q)) := by
  have keep : ∀ a o, H a = some o → NT o → upd (upd H P (.tbl (ps ++ #[rawInt pos.line, rawInt pos.col, .ref c]))) c (CodeO c q) a = some o := fun a o e n => by
    have n1 : a ≠ c := ne_of_none e hc
    have n2 : a ≠ P := fun z => by
      rw [z, hP] at e
      exact n ps (Option.some.inj e).symm
    rw [upd_ne n1, upd_ne n2]
    exact e
  have nPc : P ≠ c := ne_of_none hP hc
  have eL : (ps ++ #[rawInt pos.line, rawInt pos.col, .ref c]).toList = ps.toList ++ [rawInt pos.line, rawInt pos.col, .ref c] := by simp
  have seq : ∀ a o, upd (upd H P (.tbl (ps ++ #[rawInt pos.line, rawInt pos.col, .ref c]))) c (CodeO c q) a = some o → NT o → (∀ φ, o ≠ .ext φ) → H a = some o := fun a o e n x => by
    by_cases e1 : a = c
    · rw [e1, upd_same] at e
      exact absurd (Option.some.inj e).symm (by unfold CodeO; exact x _)
    · rw [upd_ne e1] at e
      by_cases e2 : a = P
      · rw [e2, upd_same] at e
        exact absurd (Option.some.inj e).symm (n _)
      · rw [upd_ne e2] at e
        exact e
  refine ⟨Same.refl F, fun a o e _ n => keep a o e n, fun a e z => ?_, fun _ _ _ n => n, ⟨fun a o e => keep a o (g.fh a o e) (fun ps z => g.nt a ps (by rw [e, z])), g.nt, fun p hp => ?_, fun a xs z => ?_, g.th, g.fz, fun p hp => keep _ _ (g.cd p hp) (fun ps => code_ne ps), g.cp⟩⟩
  · by_cases e1 : a = c
    · rw [e1, upd_same] at z
      cases z
    · rw [upd_ne e1] at z
      by_cases e2 : a = P
      · rw [e2, upd_same] at z
        cases z
      · rw [upd_ne e2] at z
        exact e z
  · obtain ⟨qs, a1, a2, a3⟩ := g.tb p hp
    by_cases hb : p.1 = P
    · have eq2 := hu p hp hb
      rw [hb, hP] at a1
      cases a1
      refine ⟨_, by rw [hb, upd_ne nPc, upd_same], by rw [eL]; exact PySem.TriplesOk_snoc _ _ _ _ ht, fun pos' cv hcv => ?_⟩
      rw [eL] at hcv
      rcases LamX.among_app _ ht hcv with z | z
      · obtain ⟨c0, e1, e2⟩ := a3 pos' cv z
        exact ⟨c0, e1, keep _ _ e2 (fun ps => code_ne ps)⟩
      · exact ⟨c, z, by rw [eq2]; exact upd_same⟩
    · refine ⟨qs, by rw [upd_ne (ne_of_none a1 hc), upd_ne hb]; exact a1, a2, fun pos' cv hcv => ?_⟩
      obtain ⟨c0, e1, e2⟩ := a3 pos' cv hcv
      exact ⟨c0, e1, keep _ _ e2 (fun ps => code_ne ps)⟩
  · refine g.sz a xs ?_
    rcases z with (z | ⟨o, z⟩) | (z | ⟨o, z⟩)
    · exact .inl (.inl (seq a _ z (fun ps y => by cases y) fun φ y => by cases y))
    · exact .inl (.inr ⟨o, seq a _ z (fun ps y => by cases y) fun φ y => by cases y⟩)
    · exact .inr (.inl (seq a _ z (fun ps y => by cases y) fun φ y => by cases y))
    · exact .inr (.inr ⟨o, seq a _ z (fun ps y => by cases y) fun φ y => by cases y⟩)
/-- the object of the lambda -/
abbrev lamObj (q : Str) (params : Arguments) (body : Expr) (scope : Scope) (cl : List (Str × Addr)) (pm : Value) (c : Addr) (ctv : Value) : Obj := PySem.W.kla_obj "<lambda>" q params body scope cl pm c ctv
def LamO (f : Addr) (q : Str) (params : Arguments) (body : Expr) (scope : Scope) (cl : List (Str × Addr)) (c : Addr) : HO := .ext fun h => ∃ pm ctv, h.get? f = some (lamObj q params body scope cl pm c ctv)
theorem lamO_nt {f : Addr} {q : Str} {params : Arguments} {body : Expr} {scope : Scope} {cl : List (Str × Addr)} {c : Addr} : NT (LamO f q params body scope cl c) := fun ps z => by
  unfold LamO at z
  cases z
theorem lamO_new {Pr : Program} {w : World} {H' : Hp} {h' : Heap} {f : Addr} {q : Str} {params : Arguments} {body : Expr} {scope : Scope} {cl : List (Str × Addr)} {c : Addr} {pm ctv : Value} (e : h'.get? f = some (lamObj q params body scope cl pm c ctv)) : ObjOk Pr w H' h' f (LamO f q params body scope cl c) :=
  ⟨⟨pm, ctv, e⟩, ⟨_, e⟩, fun _ _ ⟨pm, ctv, p⟩ k => ⟨pm, ctv, k _ p⟩⟩
theorem lam_new {T : Tb} {c P : Addr} {q : Str} {params : Arguments} {body : Expr} {scope : Scope} {pos : Pos} {E : Value → Shared → Prop} {Q : Value → Shared → Prop} (I : Inv X pins σ H s) (g : Gd T F H) (TB : LamX.TabB X.base X.mg c P) (hcode : X.env.code = .ref c)
    (hq : X.env.qual ++ "<lambda>" = q) (hm : (P, q) ∈ T.tabs) (hu : ∀ p ∈ T.tabs, p.1 = P → p.2 = q) (hdef : defaultsOf params X.env = ([], [])) (hfree : ∀ y ∈ scope.names, y.2 = .free → ∃ c, X.env.cells.lookup y.1 = some c)
    (h : ∀ (f c' : Addr) (H1 : Hp) (s' : Shared), Inv X pins σ H1 s' → Nx T NoM F H (upd F f (LamO f q params body scope (cloFrom X.env.cells scope.names []) c')) H1 → H1 c' = some (CodeO c' q) → Q (.ref f) s') :
    wpAny (model X.prog X.w) X.A (eval (.Lambda params body scope pos) X.env) Q E s := by
  subst hq
  obtain ⟨ps, hP, ht, ha⟩ := g.tb _ hm
  have bP := TB.bm.keeps I.bk
  have oP : s.heap.get? P = some { cls := .none, data := .fields ps } := I.hok P _ hP
  refine PySem.W.kla_eval hdef ?_
  cases hc : codeAmong pos ps.toList with
  | some cv =>
    obtain ⟨c', rfl, hco⟩ := ha pos cv hc
    refine PySem.W.kla_makeFunctionHit (closure_ok hfree) I.ok.glob (I.mod.glob.keeps I.bk) hcode (TB.code.keeps I.bk) oP ht hc bP fun ctv h' tk kp le => ?_
    have nF : H h'.objs.size = none := I.hok.fresh le
    have I1 := I.laid (o := LamO h'.objs.size (X.env.qual ++ "<lambda>") params body scope (cloFrom X.env.cells scope.names []) c') (t' := tk) (h' := h'.push (PySem.W.kla_obj "<lambda>" (X.env.qual ++ "<lambda>") params body scope (cloFrom X.env.cells scope.names []) ((X.mg "__name__").getD .none) c' ctv)) (fun b o e => Heap.get?_push_of_some _ (kp b o e)) le (lamO_new (Heap.get?_push_size h' rfl))
    have n := Nx.newF (M := NoM) g nF (o := LamO h'.objs.size (X.env.qual ++ "<lambda>") params body scope (cloFrom X.env.cells scope.names []) c') trivial
    exact h _ c' _ _ I1 n (n.hh _ _ hco (fun z => z) (fun ps => code_ne ps))
  | none =>
    refine PySem.W.kla_makeFunction (closure_ok hfree) I.ok.glob (I.mod.glob.keeps I.bk) hcode (TB.code.keeps I.bk) oP ht hc TB.gP bP fun c' ctv h' tk kp le lt rec tab => ?_
    obtain ⟨c2, oc, vs, t, ec, g1, g2, g3⟩ := rec
    cases ec
    have nC : H c' = none := I.hok.fresh le
    have I1 := LamX.inv_table (t' := tk) (q := X.env.qual ++ "<lambda>") (more := #[rawInt pos.line, rawInt pos.col, .ref c']) I hP (fun b o hb e => kp b o hb e) tab le ⟨oc, vs, t, g1, g2, g3⟩
    have n1 := g.grow (pos := pos) hP ht nC hm hu
    have nF := I1.hok.fresh (Nat.le_refl h'.objs.size)
    have I2 := I1.laid (o := LamO h'.objs.size (X.env.qual ++ "<lambda>") params body scope (cloFrom X.env.cells scope.names []) c') (t' := tk) (h' := h'.push (PySem.W.kla_obj "<lambda>" (X.env.qual ++ "<lambda>") params body scope (cloFrom X.env.cells scope.names []) ((X.mg "__name__").getD .none) c' ctv)) (fun b o e => Heap.get?_push_of_some _ e) (Nat.le_refl _) (lamO_new (Heap.get?_push_size h' rfl))
    have n2 := Nx.newF (M := NoM) n1.gd nF (o := LamO h'.objs.size (X.env.qual ++ "<lambda>") params body scope (cloFrom X.env.cells scope.names []) c') trivial
    exact h _ c' _ _ I2 (n1.trans n2) (n2.hh _ _ upd_same (fun z => z) (fun ps => code_ne ps))
/-- cells hold what they held -/
theorem cells_later {fs : List Addr} {H' : Hp} {h h' : Heap} {cl : List (Str × Addr)} {fr : List Str} {ws : List (Option V)} (C : CellsAt cl fr ws h H) (un : Un fs [] H H' h h') : CellsAt cl fr ws h' H' := by
  have cell : ∀ {c : Addr} {v : Option Value}, H c = none → h.IsCell c v → h'.IsCell c v := fun {c v} n ⟨o, ho, hd⟩ => by
    obtain ⟨sl, z⟩ := un.any ho n (by simp)
    exact ⟨_, z, hd⟩
  refine ⟨C.len, fun y c e => ?_, C.inj, fun i y e => ?_⟩
  · obtain ⟨n, v, z⟩ := C.all y c e
    refine ⟨?_, v, cell n z⟩
    obtain ⟨o, ho, _⟩ := z
    exact un.free c o ho n (by simp)
  · obtain ⟨c, hc, hv⟩ := C.has i y e
    refine ⟨c, hc, fun v ev => ?_⟩
    obtain ⟨u, r, z⟩ := hv v ev
    exact ⟨u, r, cell (C.all y c hc).1 z⟩
end
/-- the lambda as a nested function -/
abbrev lamF (q : Str) (params : Arguments) (scope : Scope) (cl : List (Str × Addr)) (c : Addr) : NF := ⟨"<lambda>", q, params, [], scope, cl, c⟩
section
variable {CX : CXT} {P : Program} {w : World} {K : PySem.W.Frag} {mg : Str → Option Value} {base : Heap} {N ps fr : List Str} {q : Str} {params : Arguments} {body : Expr} {scope : Scope} {cl : List (Str × Addr)} {pm ctv : Value} {c f : Addr} {k : Nat}
/-- the lambda called -/
theorem lam_run {A : Around} {outer : List Env} {s : Shared} {H : Hp} {us : List Value} {vs : List V} {ws : List (Option V)} {Q : VK} {E : XK} (hr : Room (k + 1) A) (e0 : Env0 P w K mg base A outer s H) (ho : s.heap.get? f = some (lamObj q params body scope cl pm c ctv)) (hc : H c = some (CodeO c q))
    (C : CellsAt cl fr ws s.heap H) (r : Vals vs us) (hl : vs.length = ps.length) (S : NScope N ps fr scope) (hb : bindArgs (PySem.W.kla_fn "<lambda>" q params body scope cl pm (.ref c) ctv) ⟨us, []⟩ = pure (ps.zip us))
    (hbody : Room k (A.deeper (envF (lamF q params scope cl c) f s.heap.objs.size)) → ∃ t, PE (ncx CX P w K mg base N (lamF q params scope cl c) f A outer s H E) body t ∧ t (startF N vs ws) H Q) :
    codeAny (model P w) A (.call (.ref f) ⟨us, []⟩) (CR CX outer P w H s Q E) s := by
  have lim : s.heap.NoLimit := e0.mod.nolimit.keeps fun b o e => (e0.bs b o e).1
  refine PySem.W.kla_callFunE hr.depth ho rfl S.co S.gen rfl (NdefX.codeO_at e0.hok hc) ?_
  rw [hb]
  refine wpAny_pure (wpAny_newFunctionEnv S.nocell (fun ⟨n, _⟩ hy => S.par n (List.of_mem_zip hy).1) (fun h₁ hns hsb => ⟨lim.fresh _ hsb, ?_⟩) S.kind)
  have kp : ∀ b o, s.heap.get? b = some o → h₁.get? b = some o := fun b o e => hsb.extBut b o (Nat.ne_of_lt (Heap.lt_size e)) (Heap.get?_push_of_some _ e)
  obtain ⟨t, ht, hq⟩ := hbody (hr.deeper _)
  have J := NdefX.inv_startN (CX := CX) (base := base) (f := f) (E := E) (F := lamF q params scope cl c) (tk := s.toks + (ps.zip us).length) S hr.hd e0 hl r C hns kp
  show codeAny _ _ (.expr body (envF (lamF q params scope cl c) f s.heap.objs.size)) _ _
  refine PySem.W.kla_codeExpr (wpAny_mono (ht.run [] _ _ H Q J hq) (fun v s' z => ?_) fun e s' z => z)
  obtain ⟨v', H', J', rv, z⟩ := z
  exact ⟨v', H', J'.os, J'.bare, J'.base, J'.hok, rv, z⟩
end
/-! ### what the lambda is to the def that got it -/
def gaL (N : List Str) (ds cds : List PyData) : Ga := ds.map .dat ++ (cds.map .dat ++ List.replicate (N.length - ds.length - cds.length) .un)
/-- what is captured, as data -/
def CapsAre (K : PySem.W.Frag) (F : Hp) (ws : List (Option V)) (cds : List PyData) : Prop := Paired (fun o d => ∃ v, o = some v ∧ Dp K F v d) ws cds
theorem caps_len {K : PySem.W.Frag} {F : Hp} {ws : List (Option V)} {cds : List PyData} (h : CapsAre K F ws cds) : ws.length = cds.length := Paired.length h
theorem caps_get {K : PySem.W.Frag} {F : Hp} : ∀ {ws : List (Option V)} {cds : List PyData}, CapsAre K F ws cds → ∀ (i : Nat) (d : PyData), cds[i]? = some d → ∃ v, ws[i]? = some (some v) ∧ Dp K F v d
  | _, _, .nil, _, _, e => by simp at e
  | _, _, .cons ⟨v, h1, h2⟩ t, 0, d, e => by
    simp at e
    subst e h1
    exact ⟨v, rfl, h2⟩
  | _, _, .cons h t, i + 1, d, e => by
    obtain ⟨v, h1, h2⟩ := caps_get t i d (by simpa using e)
    exact ⟨v, by simpa using h1, h2⟩
theorem startF_ok {T : Tb} {P : Program} {w : World} {K : PySem.W.Frag} {N : List Str} {F H : Hp} {vs : List V} {ds cds : List PyData} {ws : List (Option V)} (g : Gd T F H) (h : DpAll K F vs ds) (hc : CapsAre K F ws cds) : Ok ⟨P, w, K, T⟩ ⟨F, H, NoM⟩ (gaL N ds cds) F (startF N vs ws) H := by
  have l1 := dpa_len h
  have l2 := caps_len hc
  have all : ∀ (i : Nat) (s : Sl), (gaL N ds cds)[i]? = some s → isOwn s = false ∧ ∃ o, (startF N vs ws)[i]? = some o ∧ SlOk ⟨P, w, K, T⟩ ⟨F, H, NoM⟩ F H s o := fun i s e => by
    unfold gaL at e
    unfold startF
    by_cases h1 : i < ds.length
    · rw [List.getElem?_append_left (by rw [List.length_map]; exact h1)] at e
      obtain ⟨v, d, e1, rfl, e2⟩ := dpa_dat h e
      refine ⟨rfl, some v, ?_, v, rfl, e2⟩
      rw [List.getElem?_append_left (by rw [List.length_map]; omega), List.getElem?_map, e1]
      rfl
    · rw [List.getElem?_append_right (by rw [List.length_map]; omega), List.length_map] at e
      rw [List.getElem?_append_right (by rw [List.length_map]; omega), List.length_map, l1]
      by_cases h2 : i - ds.length < cds.length
      · rw [List.getElem?_append_left (by rw [List.length_map]; exact h2), List.getElem?_map] at e
        cases hd : cds[i - ds.length]? with
        | none =>
          rw [hd] at e
          cases e
        | some d =>
          rw [hd] at e
          cases e
          obtain ⟨v, e1, e2⟩ := caps_get hc _ d hd
          refine ⟨rfl, some v, ?_, v, rfl, e2⟩
          rw [List.getElem?_append_left (by omega)]
          exact e1
      · rw [List.getElem?_append_right (by rw [List.length_map]; omega), List.length_map, List.getElem?_replicate] at e
        split at e
        · cases e
          rename_i hq
          refine ⟨rfl, none, ?_, trivial⟩
          rw [List.getElem?_append_right (by omega), List.getElem?_replicate, l2, if_pos hq]
        · cases e
  refine ⟨Nx.refl g, ?_, fun i s e => (all i s e).2, fun i j s t a e1 _ o1 _ _ _ => ?_⟩
  · unfold gaL startF
    simp only [List.length_append, List.length_map, List.length_replicate]
    omega
  · rw [(all i s e1).1] at o1
    cases o1
def StepAct (T : Tb) (X : Cx) (fl : Addr) (R : Rl) : Prop := ∀ {Γ Γ1 : Ga} {x : Str} {i : Nat} {e1 e2 e3 : Expr} {ds : List PyData} {d : PyData} {p pos : Pos}, Rn X i x → Γ[i]? = some (.val (.ref fl)) → DA T X Γ [e1, e2, e3] Γ1 ds → R ds d →
  starEach [e1, e2, e3] X.env = (false, eval e1 X.env) :: starEach [e2, e3] X.env → (backTo pos (starEach [e2, e3] X.env)).any (·.1) = false → DE T X Γ (.Call (.Name x p) [e1, e2, e3] [] pos) Γ1 d
section
variable {T : Tb} {P : Program} {w : World} {K : PySem.W.Frag} {mg : Str → Option Value} {base : Heap} {N Nl ps fr : List Str} {nm q : Str} {sc scope : Scope} {g fl c : Addr} {cdv pm ctv : Value} {A : Around} {outer : List Env} {s : Shared} {H : Hp} {E : XK}
  {params : Arguments} {body : Expr} {cl : List (Str × Addr)} {ws : List (Option V)} {cds : List PyData} {k : Nat} {R : Rl}
theorem step_act (hf : ∀ F, T.caps F → F fl = some (LamO fl q params body scope cl c)) (hc : (c, q) ∈ T.codes) (C : CellsAt cl fr ws s.heap H) (S : NScope Nl ps fr scope) (hp : ps.length = 3)
    (hb : ∀ (pm ctv : Value) (us : List Value), us.length = 3 → bindArgs (PySem.W.kla_fn "<lambda>" q params body scope cl pm (.ref c) ctv) ⟨us, []⟩ = pure (ps.zip us)) (hcap : ∀ F, T.caps F → CapsAre K F ws cds) (hlen : ∀ ds d, R ds d → ds.length = 3)
    (hr : Room (k + 1) (A.deeper (envOfC nm sc s.heap.objs.size g cdv)))
    (hbody : ∀ (A : Around) (outer : List Env) (s : Shared) (H : Hp) (E : XK) (ds : List PyData) (d : PyData), R ds d → Room k (A.deeper (envF (lamF q params scope cl c) fl s.heap.objs.size)) → ∃ Γ', DE T (ncx CX0 P w K mg base Nl (lamF q params scope cl c) fl A outer s H E) (gaL Nl ds cds) body Γ' d) :
    StepAct T (cxOf CX0 P w K mg base N nm sc g cdv A outer s H E).nox fl R := by
  intro Γ Γ1 x i e1 e2 e3 ds d p pos rn hi ha hR he hpl B
  refine ⟨fun pins sZ σ HZ Q I ⟨F, o, kq⟩ => ?_⟩
  obtain ⟨v, hs, hv⟩ := o.sl i _ hi
  have hv' : v = some (.ref fl) := hv
  subst hv'
  refine wpAny_Call_Name_kw (thn (rn.pe.run pins sZ σ HZ (fun v H1 => v = .ref fl ∧ H1 = HZ) I ⟨.ref fl, hs, rfl, rfl⟩) fun u s1 ⟨v, H1, I1, r1, ev, eH⟩ => ?_)
  subst ev eH
  cases r1
  have at_ : ∀ {pins : List (Addr × Obj)} {σ : L2.St} {F2 H2 : Hp} {s2 : Shared}, Gd T F2 H2 → Inv (cxOf CX0 P w K mg base N nm sc g cdv A outer s H E).nox pins σ H2 s2 → ∃ pm ctv, s2.heap.get? fl = some (lamObj q params body scope cl pm c ctv) := fun g I2 => ext_ok I2 (g.fh _ _ (hf _ g.cp))
  obtain ⟨pm1, ctv1, ob1⟩ := at_ o.gd I1
  refine PySem.W.callWith_F (first := []) ⟨_, _, _, _, ob1⟩ (thn ((ha B).run pos pins s1 σ _ (fun vs H2 => ∃ F2, Ok (wd T (cxOf CX0 P w K mg base N nm sc g cdv A outer s H E).nox) B Γ1 F2 σ H2 ∧ Same F F2 ∧ DpAll K F2 vs ds) I1 ⟨F, o, fun F' H' vs o' s' r' => ⟨F', o', s', r'⟩⟩) fun us s2 ⟨vs, H2, I2, r, F2, o2, sf, dv⟩ => ?_) he hpl
  obtain ⟨pm2, ctv2, ob2⟩ := at_ o2.gd I2
  refine ⟨⟨_, _, _, _, ob2⟩, ?_⟩
  show wpAny _ _ (call (.ref fl) us) _ _ _
  have un : Un (frs outer) [] H H2 s.heap s2.heap := I2.base
  have C2 := cells_later C un
  have lv : vs.length = 3 := (dpa_len dv).trans (hlen _ _ hR)
  refine wpAny_call (codeAny_mono (lam_run (CX := CX0) (E := E0) (Q := Q) hr I2.env0 ob2 (o2.gd.cd _ hc) C2 r (lv.trans hp.symm) S (hb pm2 ctv2 us (by rw [← r.length]; exact lv)) fun hr' => ?_) fun r s' hq => ?_)
  · obtain ⟨Γ', hbd⟩ := hbody _ _ s2 H2 E0 ds d hR hr'
    exact ⟨_, hbd ⟨F2, H2, NoM⟩, F2, startF_ok o2.gd dv (hcap F2 o2.gd.cp), fun F' H' v o' s' r' => kq F' H' v (o2.next o'.nx) (sf.trans o'.nx.ff) r'⟩
  · cases r with
    | error e => exact pass0 pins σ H2 s2 e s' I2 hq
    | ok fl =>
      cases fl with
      | ret u => exact I2.after hq
      | next => exact False.elim hq
      | brk => exact False.elim hq
      | cont => exact False.elim hq
end
end Dd
end
section
/-! Dd16: a def that hands a lambda to a def. -/
namespace Dd
open PySem PySem.Spec PyProof.Rows L2
open NdefX (NF NScope CellsAt ncx envF startF)
/-- a def whose code object is known -/
structure FunC (K : PySem.W.Frag) (x : Str) (st : Stmt) (f : Addr) (fd : FuncData) (c : Addr) : Prop where
  ex : ∃ (oc : Value) (od : Option Addr) (kV doc pm : Value) (an : Option Addr) (ct : Value) (osl : Array (Option Value)),
    fd = PySem.W.fnOf x x (defArgs st) (defBody st) (defScope st) .none kV doc pm an (.ref c) ct ∧ K.lookup f = some ⟨oc, od, .func fd, osl⟩ ∧ PySem.W.codeIn K (.ref c) x = true
  kp : PySem.W.keepIn K (.ref f) = true
section
variable {T : Tb} {P : Program} {w : World} {K : PySem.W.Frag} {mg : Str → Option Value} {base : Heap}
theorem FunC.fn {x : Str} {st : Stmt} {f : Addr} {fd : FuncData} {c : Addr} (F : FunC K x st f fd c) : Fun K x x st f fd := by
  obtain ⟨oc, od, kV, doc, pm, an, ct, osl, h⟩ := F.ex
  exact ⟨⟨oc, od, kV, doc, pm, an, .ref c, ct, osl, h⟩, F.kp⟩
theorem fn_pureC {x : Str} {st : Stmt} {f : Addr} {fd : FuncData} {c : Addr} {N ps : List Str} {k : Nat} {R : Rl} (F : FunC K x st f fd c) (S : FnScope N ps (defScope st)) (len : ∀ ds d, R ds d → ds.length = ps.length)
    (body : ∀ ds d, R ds d → ∀ (A : Around) (outer : List Env) (s : Shared) (H : Hp) (E : XK), Room k (A.deeper (envOfC x (defScope st) s.heap.objs.size f (.ref c))) →
      ∃ o, DSs T (cxOf CX0 P w K mg base N x (defScope st) f (.ref c) A outer s H E).nox (ga0 N ds) (defBody st) o ∧ OutR o d) : FnOk P w K mg base CX0 (k + 1) f fd ps (SpD T K R) := by
  have hpl : ps.length ≤ N.length := by
    have := congrArg List.length S.pre
    rw [List.length_take] at this
    omega
  obtain ⟨oc, od, kV, doc, pm, an, ct, osl, rfl, lk, hcd⟩ := F.ex
  refine fn_of lk hcd S (fun vs H Q E h => ?_) fun A outer s H vs Q E hr h => ?_
  · obtain ⟨F0, ds, d, g, r, hR, _⟩ := h
    rw [dpa_len r]
    exact len _ _ hR
  · obtain ⟨F0, ds, d, g, r, hR, q⟩ := h
    obtain ⟨o, hb, ho⟩ := body ds d hR A outer s H E hr
    refine ⟨_, (hb ⟨F0, H, NoM⟩).nox, F0, start_ok g r (by rw [len _ _ hR]; exact hpl), ?_⟩
    cases o with
    | nx Γ =>
      have e : d = .none := ho
      subst e
      exact fun F' σ' H' o' s' => q F' H' .non o'.nx .non
    | ret Γ d' =>
      have e : d' = d := ho
      subst e
      exact fun F' σ' H' v o' s' r' => q F' H' v o'.nx r'
theorem start3 {N : List Str} {F H : Hp} {v1 v2 : V} {d1 d2 : PyData} {fl : Addr} (g : Gd T F H) (h1 : Dp K F v1 d1) (h2 : Dp K F v2 d2) (hN : 3 ≤ N.length) :
    Ok ⟨P, w, K, T⟩ ⟨F, H, NoM⟩ ([.dat d1, .dat d2, .val (.ref fl)] ++ List.replicate (N.length - 3) .un) F (L2.start N [v1, v2, .ref fl]) H := by
  have o := start_ok (T := T) (P := P) (w := w) (K := K) (N := N) g (DpAll.cons h1 (.cons h2 .nil)) (show 2 ≤ N.length by omega)
  have o2 := o.setVal (i := 2) (v := .ref fl)
  obtain ⟨m, hm⟩ : ∃ m, N.length = m + 3 := ⟨N.length - 3, by omega⟩
  have e1 : (ga0 N [d1, d2]).set 2 (.val (.ref fl)) = [.dat d1, .dat d2, .val (.ref fl)] ++ List.replicate (N.length - 3) .un := by
    unfold ga0
    rw [hm, show m + 3 - [d1, d2].length = m + 1 from rfl, show m + 3 - 3 = m from rfl, List.replicate_succ]
    rfl
  have e2 : (L2.start N [v1, v2]).set 2 (some (.ref fl)) = L2.start N [v1, v2, .ref fl] := by
    unfold L2.start
    rw [hm, show m + 3 - [v1, v2].length = m + 1 from rfl, show m + 3 - [v1, v2, V.ref fl].length = m from rfl, List.replicate_succ]
    rfl
  rw [e1, e2] at o2
  exact o2
end
section
variable {T : Tb} {X : Cx} {Γ Γ1 Γ2 : Ga} {a b body : Expr} {d1 d2 dc r : PyData} {params : Arguments} {scope : Scope} {p lpos pos : Pos} {x q y : Str} {st : Stmt} {g c P : Addr} {fd : FuncData} {Ng Nl ps pl : List Str} {k j : Nat} {R : Rl}
/-- the world of the called def -/
def inT (T : Tb) (K : PySem.W.Frag) (c : Addr) (q : Str) (v : V) (d : PyData) (f : Addr) (u : HO) : Tb := ⟨T.tabs, (c, q) :: T.codes, fun F => T.caps F ∧ Dp K F v d ∧ F f = some u, fun F F' s h => ⟨T.mono F F' s h.1, dp_same s h.2.1, s f u h.2.2⟩⟩
theorem nx_out {K : PySem.W.Frag} {c : Addr} {q : Str} {v : V} {d : PyData} {f : Addr} {u : HO} {M : Addr → Prop} {F H F' H' : Hp} (n : Nx (inT T K c q v d f u) M F H F' H') : Nx T M F H F' H' :=
  ⟨n.ff, n.hh, n.dm, n.out, n.gd.fh, n.gd.nt, n.gd.tb, n.gd.sz, n.gd.th, n.gd.fz, fun p hp => n.gd.cd p (List.mem_cons_of_mem _ hp), n.gd.cp.1⟩
def tLam3 (W : Wd) (B : Bs) (Γ : Ga) (q : Str) (params : Arguments) (body : Expr) (scope : Scope) (cl : List (Str × Addr)) : TE := fun σ H Q => ∃ F, Ok W B Γ F σ H ∧ ∀ f c F1 H1, Ok W B Γ F1 σ H1 → Same F F1 → F1 f = some (LamO f q params body scope cl c) → H1 c = some (LamX.CodeO c q) → Q (.ref f) H1
/-- x(a, b, lambda ..), the lambda with three parameters, y captured, from slot j -/
theorem de_lam3 (hm : X.mg x = some (.ref g)) (Fn : Fun X.K x x st g fd) (Sg : FnScope Ng ps (defScope st)) (hps : ps.length = 3) (hbg : Binds X.K fd ps []) (ha : DE T X Γ a Γ1 d1) (hb : DE T X Γ1 b Γ2 d2)
    (TB : LamX.TabB X.base X.mg c P) (hcode : X.env.code = .ref c) (hq : X.env.qual ++ "<lambda>" = q) (hmT : (P, q) ∈ T.tabs) (hu : ∀ p ∈ T.tabs, p.1 = P → p.2 = q) (hdef : defaultsOf params X.env = ([], []))
    (hfree : ∀ z ∈ scope.names, z.2 = .free → X.env.scope.names.lookup z.1 = some .cell ∨ X.env.scope.names.lookup z.1 = some .free) (hy : (y, NameKind.free) ∈ scope.names) (hj : X.N[j]? = some y) (hjd : Γ2[j]? = some (.dat dc)) (S : NScope Nl pl [y] scope) (hpl : pl.length = 3)
    (hbl : ∀ (cl : List (Str × Addr)) (pm cv ctv : Value) (us : List Value), us.length = 3 → bindArgs (PySem.W.kla_fn "<lambda>" q params body scope cl pm cv ctv) ⟨us, []⟩ = pure (pl.zip us)) (hR : ∀ ds d, R ds d → ds.length = 3) (hr : Room (k + 2) X.A)
    (hbody : ∀ (T' : Tb) (f c : Addr) (cl : List (Str × Addr)) (A : Around) (outer : List Env) (s : Shared) (H : Hp) (E : XK) (ds : List PyData) (d : PyData), R ds d → Room k (A.deeper (envF (lamF q params scope cl c) f s.heap.objs.size)) →
      ∃ Γ', DE T' (ncx CX0 X.prog X.w X.K X.mg X.base Nl (lamF q params scope cl c) f A outer s H E) (gaL Nl ds [dc]) body Γ' d)
    (hG : ∀ (T' : Tb) (fl : Addr) (cdv : Value) (A : Around) (outer : List Env) (s : Shared) (H : Hp) (E : XK), Room (k + 1) (A.deeper (envOfC x (defScope st) s.heap.objs.size g cdv)) → StepAct T' (cxOf CX0 X.prog X.w X.K X.mg X.base Ng x (defScope st) g cdv A outer s H E).nox fl R →
      ∃ o, DSs T' (cxOf CX0 X.prog X.w X.K X.mg X.base Ng x (defScope st) g cdv A outer s H E).nox ([.dat d1, .dat d2, .val (.ref fl)] ++ List.replicate (Ng.length - 3) .un) (defBody st) o ∧ OutR o r)
    (hg : Gl X x := by rfl) (hdb : (x == ("__debug__" : Str)) = false := by decide) (he : starEach [a, b, .Lambda params body scope lpos] X.env = (false, eval a X.env) :: starEach [b, .Lambda params body scope lpos] X.env := by rfl)
    (he2 : starEach [b, .Lambda params body scope lpos] X.env = (false, eval b X.env) :: starEach [.Lambda params body scope lpos] X.env := by rfl) (he3 : starEach [.Lambda params body scope lpos] X.env = (false, eval (.Lambda params body scope lpos) X.env) :: starEach [] X.env := by rfl)
    (hpla : (backTo pos (starEach [b, .Lambda params body scope lpos] X.env)).any (·.1) = false := by rfl) :
    DE T X Γ (.Call (.Name x p) [a, b, .Lambda params body scope lpos] [] pos) Γ2 r := fun B => by
  refine ⟨fun pins s σ H Q I ⟨F0, o, kq⟩ => ?_⟩
  obtain ⟨oc, od, kV, doc, pm, an, cdv, ct, osl, efd, lk, hcg⟩ := Fn.ex
  have hNg : 3 ≤ Ng.length := by
    have := congrArg List.length Sg.pre
    rw [List.length_take] at this
    omega
  have hL : PE X (.Lambda params body scope lpos) (tLam3 (wd T X) B Γ2 q params body scope (cloFrom X.env.cells scope.names [])) := ⟨fun pins s σ H Q I ⟨F, o, k2⟩ =>
    lam_new I o.gd TB hcode hq hmT hu hdef (fun z hz e => (hfree z hz e).elim (fun z => I.ok.has _ (.inl z)) fun z => I.ok.has _ (.inr z)) fun f c' H1 s' I1 n hc => ⟨.ref f, H1, I1, rfl, k2 f c' _ _ (o.next n) n.ff upd_same hc⟩⟩
  refine wpAny_Call_Name_kw (ld_glob I hg hm ?_ hdb)
  refine PySem.W.callWith_K (h₀ := X.base) I.ok.mod.kin Fn.kp ?_ he hpla
  have hA := (pa_cons (ha B) (pa_cons (hb B) (pa_cons hL pa_nil he3) he2) he).run pos pins s σ H (fun vs H3 => ∃ F3 v1 v2 f c', vs = [v1, v2, .ref f] ∧ Ok (wd T X) B Γ2 F3 σ H3 ∧ Same F0 F3 ∧ Dp X.K F3 v1 d1 ∧ Dp X.K F3 v2 d2 ∧ F3 f = some (LamO f q params body scope (cloFrom X.env.cells scope.names []) c') ∧ H3 c' = some (LamX.CodeO c' q)) I
    ⟨F0, o, fun F1 H1 v1 o1 s1 r1 => ⟨F1, o1, fun F2 H2 v2 o2 s2 r2 => ⟨F2, o2, fun f c' F3 H3 o3 s3 hf hc => ⟨F3, v1, v2, f, c', rfl, o3, (s1.trans s2).trans s3, dp_same (s2.trans s3) r1, dp_same s3 r2, hf, hc⟩⟩⟩⟩
  refine thn hA fun us s3 ⟨vs, H3, I3, rv, F3, v1, v2, f, c', ev, o3, sf, r1, r2, hf, hc⟩ => ⟨I3.kIn, ?_⟩
  subst ev
  obtain ⟨u1, u2, eus⟩ : ∃ u1 u2, us = [u1, u2, .ref f] := by
    cases rv with
    | cons a rv =>
      cases rv with
      | cons b rv =>
        cases rv with
        | cons c rv =>
          cases rv
          cases c
          exact ⟨_, _, rfl⟩
  subst eus
  obtain ⟨vo, hs, vc, hvo, hvc⟩ := o3.sl j _ hjd
  subst hvo
  have cp := NdefX.Caps.made (scope := scope) (fr := [y]) (js := [j]) I3.ok hfree (fun z hz => by rw [List.mem_singleton.mp hz]; exact hy) (by rw [List.map_singleton, List.map_singleton, hj])
  have C := NdefX.cells_of I3 cp
  rw [List.map_singleton, NdefX.slotAt_of hs] at C
  have g3 : Gd (inT T X.K c' q vc dc f (LamO f q params body scope (cloFrom X.env.cells scope.names []) c')) F3 H3 := ⟨o3.gd.fh, o3.gd.nt, o3.gd.tb, o3.gd.sz, o3.gd.th, o3.gd.fz, fun p hp => by
    rcases List.mem_cons.mp hp with e | hp
    · rw [e]
      exact hc
    · exact o3.gd.cd p hp, o3.gd.cp, hvc, hf⟩
  have bnd := hbg s3 [u1, u2, .ref f] I3.kIn hps.symm
  rw [efd] at bnd lk
  have rc : codeAny (model X.prog X.w) X.A (.call (.ref g) ⟨[u1, u2, .ref f], []⟩) (CR CX0 X.stack X.prog X.w H3 s3 Q E0) s3 := by
    refine LamX.run_ofS (N := Ng) (ps := ps) (us := [u1, u2, .ref f]) (vs := [v1, v2, .ref f]) lk hcg Sg hr I3.env0 bnd rv hps.symm fun hr' => ?_
    obtain ⟨ot, hbd, hot⟩ := hG (inT T X.K c' q vc dc f (LamO f q params body scope (cloFrom X.env.cells scope.names []) c')) f cdv X.A X.stack s3 H3 E0 hr'
      (step_act (T := inT T X.K c' q vc dc f (LamO f q params body scope (cloFrom X.env.cells scope.names []) c')) (fun F h => h.2.2) List.mem_cons_self C S hpl (fun pm ctv us hl => hbl _ pm _ ctv us hl) (fun F h => .cons ⟨vc, rfl, h.2.1⟩ .nil) hR hr' fun A outer s H E ds d hRd hrA => hbody _ f c' _ A outer s H E ds d hRd hrA)
    refine ⟨_, (hbd ⟨F3, H3, NoM⟩).nox, F3, start3 g3 r1 r2 hNg, ?_⟩
    cases ot with
    | nx Γx =>
      have e : r = .none := hot
      subst e
      exact fun F' σ' H' o' s' => kq F' H' .non (o3.next (nx_out o'.nx)) (sf.trans o'.nx.ff) .non
    | ret Γx d' =>
      have e : d' = r := hot
      subst e
      exact fun F' σ' H' v o' s' r' => kq F' H' v (o3.next (nx_out o'.nx)) (sf.trans o'.nx.ff) r'
  refine wpAny_call (codeAny_mono rc fun r s' hq => ?_)
  cases r with
  | error e => exact pass0 pins σ H3 s3 e s' I3 hq
  | ok fl =>
    cases fl with
    | ret u => exact I3.after hq
    | next => exact False.elim hq
    | brk => exact False.elim hq
    | cont => exact False.elim hq
end
end Dd
end
section
/-! Dd17: comprehensions of two clauses, over data alone. -/
namespace Dd
open PySem PySem.Spec PyProof.Rows L2
def noOwns (Γ : Ga) : Prop := ∀ (j : Nat) (s : Sl), Γ[j]? = some s → isOwn s = false
section
variable {W : Wd} {B : Bs} {Γ Γ' : Ga} {F H F' H' : Hp} {σ σ' : L2.St} {D : Addr} {acc : List V}
theorem noOwns_wipe {vs : List Nat} (h : noOwns Γ) : noOwns (wipeG vs 0 Γ) := fun j s e => by
  obtain ⟨t, h1, h2⟩ := wipeG_get vs Γ 0 j s e
  rw [h2]
  split
  · rfl
  · exact h j t h1
theorem noOwns_set {k : Nat} {d : PyData} (h : noOwns Γ) : noOwns (Γ.set k (.dat d)) := fun j s e => by
  rcases set_get e with ⟨_, rfl, _⟩ | ⟨_, e⟩
  · rfl
  · exact h j s e
theorem noOwns_noOwn {vs : List Nat} (h : noOwns Γ) : noOwn vs Γ = true := List.all_eq_true.mpr fun j _ => by
  cases e : Γ[j]? with
  | none => rfl
  | some s =>
    rw [Option.getD_some, h j s e]
    rfl
/-- an evaluation told over the new base keeps the cell D -/
theorem keepD (o : Ok W B Γ F σ H) (no : noOwns Γ) (hD : H D = some (.lst acc)) (fD : F D = none) (o' : Ok W ⟨F, H, mOf Γ σ⟩ Γ' F' σ' H') : Ok W B Γ' F' σ' H' ∧ H' D = some (.lst acc) ∧ F' D = none := by
  have nm : ¬ mOf Γ σ D := fun ⟨i, s, e1, e2, _⟩ => by
    rw [no i s e1] at e2
    cases e2
  exact ⟨o.unbase2 o', o'.nx.hh D _ hD nm (fun ps z => by cases z), o'.nx.out D (by show H D ≠ none; rw [hD]; intro z; cases z) nm fD⟩
end
section
variable {T : Tb} {X : Cx} {scope : Scope} {Γ : Ga} {tg tg1 iter iter1 elt : Expr} {ds : List PyData} {pos : Pos}
def cI (T : Tb) (X : Cx) (scope : Scope) (tg iter : Expr) : TI := fun σ H R => ∃ B Γ Γ1 ds, (∀ s H C cl fp, DI T (BCx X scope s H C cl fp) tg Γ iter Γ1 ds) ∧ tI (wd T X) B Γ Γ1 ds σ H R
theorem setG1 (Γ : Ga) (k : Nat) (d : PyData) : setG Γ [k] [d] = Γ.set k (.dat d) := by simp only [setG]
theorem setAll1 (σ : L2.St) (k : Nat) (v : V) : setAll σ [k] [v] = σ.set k (some v) := by simp only [setAll]
theorem one_of {α : Type} {l : List α} (h : l.length = 1) : ∃ x, l = [x] := by
  match l, h with
  | [x], _ => exact ⟨x, rfl⟩
/-- [elt for tg in iter for tg1 in iter1] -/
theorem de_comp2 (own : List (Str × Nat)) (k1 k2 : Nat) (inner : PyData → List PyData) (f : PyData → PyData → PyData) (hi : DI T X tg Γ iter Γ ds) (hb : BlkOk X.N X.env.scope scope own) (hN : X.N.Nodup) (no : noOwns Γ) (hk1 : k1 ∈ own.map (·.2)) (hk2 : k2 ∈ own.map (·.2)) (h12 : k1 ≠ k2)
    (hg : BG T X scope tg [k1]) (hg1 : BG T X scope tg1 [k2])
    (hi1 : ∀ d ∈ ds, ∀ s H C cl fp, DI T (BCx X scope s H C cl fp) tg1 ((wipeG (own.map (·.2)) 0 Γ).set k1 (.dat d)) iter1 ((wipeG (own.map (·.2)) 0 Γ).set k1 (.dat d)) (inner d))
    (he : ∀ d ∈ ds, ∀ e ∈ inner d, BE T X scope ((wipeG [k2] 0 ((wipeG (own.map (·.2)) 0 Γ).set k1 (.dat d))).set k2 (.dat e)) elt ((wipeG [k2] 0 ((wipeG (own.map (·.2)) 0 Γ).set k1 (.dat d))).set k2 (.dat e)) (f d e))
    (hz : (ds.flatMap fun d => (inner d).map (f d)).length ≤ 100000) (hc : X.calm = true := by rfl) (hs : ∀ x, foldedSetIterable iter X.env x = pure x := by intro _; rfl) (hs1 : ∀ env x, foldedSetIterable iter1 env x = pure x := by intro _ _; rfl) :
    DE T X Γ (.ListComp elt [⟨tg, iter, [], 0⟩, ⟨tg1, iter1, [], 0⟩] scope pos) Γ (.list (ds.flatMap fun d => (inner d).map (f d))) := fun B => by
  have big : 100000 < sizeLine := by decide
  refine pe_imp (pe_lc2 (vs1 := [k2]) (tt := cT T X scope []) (wi1 := cI T X scope tg1 iter1) (g1 := cG T X [k2]) (tt1 := cT T X scope []) (te := cE T X scope elt) hc hN (hi B) hb (fun i hi => by rw [List.mem_singleton.mp hi]; exact hk2) (bg_pg hg) bt_pts (fun s H C cl fp => ⟨fun pins s' σ H' R I ⟨B, Γ, Γ1, ds, h, q⟩ => (h s H C cl fp B).run pins s' σ H' R I q⟩) (bg_pg hg1) bt_pts be_pe hs hs1) fun σ H Q ⟨F, o, q⟩ => ⟨F, o, fun F1 H1 J o1 s1 it D hD => ?_⟩
  have h0 : B.H0 D = none := by
    cases z : B.H0 D with
    | none => rfl
    | some u => exact absurd hD (o1.nx.dm D (by rw [z]; intro z; cases z))
  have nf : F1 D = none := none_of o1.gd hD
  have na : ∀ {Γ' : Ga} {σ' : L2.St}, noOwns Γ' → ∀ (j : Nat) (s : Sl), Γ'[j]? = some s → isOwn s = true → σ'[j]? ≠ some (some (.ref D)) := fun {Γ' σ'} n j s e os => by
    rw [n j s e] at os
    cases os
  have n0 : Nx T NoM F1 H1 F1 (upd H1 D (.lst [])) := Nx.newH o1.gd hD (show OkO (.lst []) from Nat.zero_le _)
  have tail_le : ∀ i, ((ds.take i).flatMap fun d => (inner d).map (f d)).length + ((ds.drop i).flatMap fun d => (inner d).map (f d)).length ≤ 100000 := fun i => by
    have e : (ds.take i).flatMap (fun d => (inner d).map (f d)) ++ (ds.drop i).flatMap (fun d => (inner d).map (f d)) = ds.flatMap fun d => (inner d).map (f d) := by rw [← List.flatMap_append, List.take_append_drop]
    rw [← List.length_append, e]
    exact hz
  refine ⟨fun i m H' => m + i = ds.length ∧ ∃ Fi acc, Ok (wd T X) B Γ Fi σ H' ∧ Same F1 Fi ∧ H' D = some (.lst acc) ∧ Fi D = none ∧ DpAll X.K Fi acc ((ds.take i).flatMap fun d => (inner d).map (f d)),
    ⟨ds.length, rfl, F1, [], o1.next n0, Same.refl F1, upd_same, nf, .nil⟩, ?_⟩
  rintro i m H' ⟨hm, Fi, acc, oi, si, eD, fD, da⟩
  cases hd : ds[i]? with
  | none =>
    have hle : ds.length ≤ i := List.getElem?_eq_none_iff.mp hd
    rw [List.take_of_length_le hle] at da
    have o2 := oi.freeze eD ⟨_, rfl⟩ (fun ps z => by cases z) fD (.inl h0) (na no)
    have sf : Same Fi (upd Fi D (.lst acc)) := same_new fD
    exact .inl ⟨it.stop i Fi H' oi.gd si (by omega), q _ H' _ o2 ((s1.trans si).trans sf) (dp_lst upd_same (dpa_same sf da))⟩
  | some d =>
    have hlt := (List.getElem?_eq_some_iff.mp hd).1
    have hmem := List.mem_of_getElem? hd
    have etake : (ds.take (i + 1)).flatMap (fun d => (inner d).map (f d)) = (ds.take i).flatMap (fun d => (inner d).map (f d)) ++ (inner d).map (f d) := by
      rw [List.take_add_one, List.flatMap_append, hd]
      simp
    have edrop : (ds.drop i).flatMap (fun d => (inner d).map (f d)) = (inner d).map (f d) ++ (ds.drop (i + 1)).flatMap fun d => (inner d).map (f d) := by
      rw [List.drop_eq_getElem_cons hlt, List.flatMap_cons]
      rw [(List.getElem?_eq_some_iff.mp hd).2]
    refine .inr ⟨it.go i Fi H' oi.gd si hlt, fun H2 => ∃ F2 acc2, Ok (wd T X) B Γ F2 σ H2 ∧ Same F1 F2 ∧ H2 D = some (.lst acc2) ∧ F2 D = none ∧ DpAll X.K F2 acc2 ((ds.take (i + 1)).flatMap fun d => (inner d).map (f d)), ?_, ?_⟩
    · rintro H2 ⟨F2, acc2, z⟩
      exact ⟨m - 1, by omega, by omega, F2, acc2, z⟩
    intro x H2 hy
    obtain ⟨F2, n2, r2⟩ := it.yld i Fi H' x H2 oi.gd si hy d hd
    have o2 := oi.next n2
    have eD2 : H2 D = some (.lst acc) := n2.hh D _ eD (fun z => z) (fun ps z => by cases z)
    have fD2 : F2 D = none := n2.out D (by rw [eD]; intro z; cases z) (fun z => z) fD
    have ow : Ok (wd T X) B (wipeG (own.map (·.2)) 0 Γ) F2 (wipe σ (own.map (·.2))) H2 := o2.wipe (noOwns_noOwn no)
    refine ⟨B, _, F2, d, [d], ow, r2, rfl, fun ws hl o3 => ?_⟩
    obtain ⟨wv, rfl⟩ := one_of hl
    rw [setG1, setAll1] at o3
    rw [setAll1]
    have e1 : wipe ((wipe σ (own.map (·.2))).set k1 (some wv)) (own.map (·.2)) = wipe σ (own.map (·.2)) := by
      rw [← setAll1]
      exact wipe_setAll (by simp only [List.all_cons, List.all_nil, Bool.and_true]; simpa using hk1)
    refine ⟨e1, ?_⟩
    have no2 : noOwns ((wipeG (own.map (·.2)) 0 Γ).set k1 (.dat d)) := noOwns_set (noOwns_wipe no)
    generalize hG2 : (wipeG (own.map (·.2)) 0 Γ).set k1 (.dat d) = Γ2 at o3 no2
    generalize hS2 : (wipe σ (own.map (·.2))).set k1 (some wv) = σ2 at o3 e1
    have hi2 := hi1 d hmem
    have he2 := he d hmem
    rw [hG2] at hi2
    have he3 : ∀ e ∈ inner d, BE T X scope ((wipeG [k2] 0 Γ2).set k2 (.dat e)) elt ((wipeG [k2] 0 Γ2).set k2 (.dat e)) (f d e) := fun e hm => by
      have h := he2 e hm
      rw [hG2] at h
      exact h
    have fit := tail_le i
    rw [edrop, List.length_append, List.length_map] at fit
    -- back behind the inner loop
    have done : ∀ {Fj Hj : Hp} {accj : List V}, Ok (wd T X) B Γ2 Fj σ2 Hj → Same F2 Fj → Hj D = some (.lst accj) → Fj D = none → DpAll X.K Fj accj ((ds.take i).flatMap (fun d => (inner d).map (f d)) ++ (inner d).map (f d)) →
        ∃ F2 acc2, Ok (wd T X) B Γ F2 σ Hj ∧ Same F1 F2 ∧ Hj D = some (.lst acc2) ∧ F2 D = none ∧ DpAll X.K F2 acc2 ((ds.take (i + 1)).flatMap fun d => (inner d).map (f d)) := fun {Fj Hj accj} oj sj eDj fDj dj => by
      have o' : Ok (wd T X) B (restG (own.map (·.2)) 0 Γ Γ2) Fj σ Hj := by
        refine Ok.unwipe (ks := [k1]) (ws := [wv]) o2 sj ?_ (by simp only [List.all_cons, List.all_nil, Bool.and_true]; simpa using hk1) (noOwns_noOwn no)
        rw [setAll1, hS2]
        exact oj
      have er : restG (own.map (·.2)) 0 Γ Γ2 = Γ := by
        rw [← hG2, ← setG1]
        exact restG_self _ _ (by simp only [List.all_cons, List.all_nil, Bool.and_true]; simpa using hk1) Γ [d]
      rw [er] at o'
      rw [← etake] at dj
      exact ⟨Fj, accj, o', (si.trans n2.ff).trans sj, eDj, fDj, dj⟩
    refine ⟨_, Γ2, true, bt_nil, F2, o3.self, fun F4 H4 o4 s4 => ?_⟩
    obtain ⟨o5, eD5, fD5⟩ := keepD o3 no2 eD2 fD2 o4
    refine iteT ⟨_, Γ2, Γ2, inner d, hi2, F4, o5.self, fun F6 H6 J1 o6 s6 it1 => ?_⟩
    obtain ⟨o7, eD7, fD7⟩ := keepD o5 no2 eD5 fD5 o6
    have s26 : Same F2 F6 := s4.trans s6
    refine ⟨fun j k H => k + j = (inner d).length ∧ ∃ Fj accj, Ok (wd T X) B Γ2 Fj σ2 H ∧ Same F6 Fj ∧ H D = some (.lst accj) ∧ Fj D = none ∧ DpAll X.K Fj accj ((ds.take i).flatMap (fun d => (inner d).map (f d)) ++ ((inner d).take j).map (f d)),
      ⟨(inner d).length, rfl, F6, acc, o7, Same.refl F6, eD7, fD7, by rw [List.take_zero, List.map_nil, List.append_nil]; exact dpa_same ((n2.ff.trans s26)) da⟩, ?_⟩
    rintro j k Hj ⟨hk, Fj, accj, oj, sj, eDj, fDj, dj⟩
    cases hdj : (inner d)[j]? with
    | none =>
      have hle : (inner d).length ≤ j := List.getElem?_eq_none_iff.mp hdj
      rw [List.take_of_length_le hle] at dj
      exact .inl ⟨it1.stop j Fj Hj oj.gd sj (by omega), done oj (s26.trans sj) eDj fDj dj⟩
    | some e =>
      have hltj := (List.getElem?_eq_some_iff.mp hdj).1
      refine .inr ⟨it1.go j Fj Hj oj.gd sj hltj, fun Hn => ∃ Fn accn, Ok (wd T X) B Γ2 Fn σ2 Hn ∧ Same F6 Fn ∧ Hn D = some (.lst accn) ∧ Fn D = none ∧ DpAll X.K Fn accn ((ds.take i).flatMap (fun d => (inner d).map (f d)) ++ ((inner d).take (j + 1)).map (f d)), ?_, ?_⟩
      · rintro Hn ⟨Fn, accn, z⟩
        exact ⟨k - 1, by omega, by omega, Fn, accn, z⟩
      intro xj Hy hyj
      obtain ⟨Fy, ny, ry⟩ := it1.yld j Fj Hj xj Hy oj.gd sj hyj e hdj
      have oy := oj.next ny
      have eDy : Hy D = some (.lst accj) := ny.hh D _ eDj (fun z => z) (fun ps z => by cases z)
      have fDy : Fy D = none := ny.out D (by rw [eDj]; intro z; cases z) (fun z => z) fDj
      have owy : Ok (wd T X) B (wipeG [k2] 0 Γ2) Fy (wipe σ2 [k2]) Hy := oy.wipe (noOwns_noOwn no2)
      refine ⟨B, _, Fy, e, [e], owy, ry, rfl, fun ws2 hl2 o8 => ?_⟩
      obtain ⟨wv2, rfl⟩ := one_of hl2
      rw [setG1, setAll1] at o8
      rw [setAll1]
      refine ⟨by rw [← setAll1]; exact wipe_setAll (by simp), ?_⟩
      have no3 : noOwns ((wipeG [k2] 0 Γ2).set k2 (.dat e)) := noOwns_set (noOwns_wipe no2)
      refine ⟨_, _, true, bt_nil, Fy, o8.self, fun F9 H9 o9 s9 => ?_⟩
      obtain ⟨oa, eDa, fDa⟩ := keepD o8 no3 eDy fDy o9
      refine iteT ⟨_, _, _, _, he3 e (List.mem_of_getElem? hdj), F9, oa.self, fun Fb Hb v ob sb rb => ?_⟩
      obtain ⟨oc, eDc, fDc⟩ := keepD oa no3 eDa fDa ob
      have sjb : Same Fj Fb := (ny.ff.trans s9).trans sb
      have hz2 : accj.length < sizeLine := by
        rw [dpa_len dj, List.length_append, List.length_map, List.length_take]
        omega
      refine ⟨accj, eDc, hz2, ?_⟩
      have nx : Nx T (fun b => b = D) Fb Hb Fb (upd Hb D (.lst (accj ++ [v]))) := Nx.set oc.gd rfl eDc (fun ps z => by cases z) (fun q z => by unfold LamX.CodeO at z; cases z) fDc (show OkO (.lst (accj ++ [v])) from (by
        show (accj ++ [v]).length ≤ sizeLine
        rw [List.length_append]
        exact hz2))
      have od := oc.side nx h0 (na no3)
      -- the inner names as they were
      have oe : Ok (wd T X) B (restG [k2] 0 Γ2 ((wipeG [k2] 0 Γ2).set k2 (.dat e))) Fb σ2 (upd Hb D (.lst (accj ++ [v]))) := by
        refine Ok.unwipe (ks := [k2]) (ws := [wv2]) oy (s9.trans sb) ?_ (by simp) (noOwns_noOwn no2)
        rw [setAll1]
        exact od
      rw [← setG1, restG_self [k2] [k2] (by simp)] at oe
      refine ⟨Fb, accj ++ [v], oe, sj.trans sjb, upd_same, fDc, ?_⟩
      have et2 : ((inner d).take (j + 1)).map (f d) = ((inner d).take j).map (f d) ++ [f d e] := by
        rw [List.take_add_one, hdj, List.map_append]
        rfl
      rw [et2, ← List.append_assoc]
      exact dpa_append (dpa_same sjb dj) (dpa_one rb)
end
end Dd
end
section
/-! Dd18: how many texts are apart: len of a set made item by item. -/
namespace Dd
open PySem PySem.Spec PyProof.Rows L2
section
variable {X : Cx} {elt tg iter : Expr} {scope : Scope} {own : List (Str × Nat)} {pos : Pos} {wi : TI} {g : TG} {te : TE}
theorem setK_code {pins : List (Addr × Obj)} {σ : L2.St} {H : Hp} {s : Shared} {a : Addr} {S : Key → Bool} {n : Nat} (I : Inv X pins σ H s) (h : H a = some (SetK X.prog X.w a S n)) (q : Str) : SetK X.prog X.w a S n ≠ LamX.CodeO a q := fun z => by
  have h2 := h
  rw [z] at h2
  unfold LamX.CodeO at h2
  obtain ⟨oc, vs, tk, g1, g2, g3⟩ := ext_ok I h2
  obtain ⟨o, es, ep, t, f1, _, f3, _⟩ := setK_get I h
  rw [g1] at f1
  cases f1
  rw [g2] at f3
  cases f3
/-- the reading of a set's making: G i H, the laps still to go are n - i -/
def tSetK (P : Program) (w : World) (wi : TI) (g : TG) (te : TE) (vs : List Nat) : TE := fun σ H Q => wi σ H fun J H1 => ∀ D, H1 D = none → ∃ (n : Nat) (G : Nat → Hp → Prop), G 0 (upd H1 D (SetK P w D (fun _ => false) 0)) ∧ (∀ i Hi, G i Hi → i ≤ n) ∧
  ∀ i Hi, G i Hi → (J.stop i Hi ∧ Q (.ref D) Hi) ∨ (J.go i Hi ∧ ∀ x Hx, J.yld i Hi x Hx → g x (wipe σ vs) Hx fun σt Ht => wipe σt vs = wipe σ vs ∧ te σt Ht fun y Hy => (∀ S m q, Hy D = some (SetK P w D S m) → SetK P w D S m ≠ LamX.CodeO D q) →
    ∃ (k : Key) (S : Key → Bool) (m : Nat), y = kV k ∧ Hy D = some (SetK P w D S m) ∧ m + 1 < scanBound ∧ G (i + 1) (upd Hy D (SetK P w D (fun j => S j || decide (j = k)) (if S k = true then m else m + 1))))
theorem pe_setK (calm : X.calm = true) (dst : X.N.Nodup) (hi : PI X tg iter wi) (ok : BlkOk X.N X.env.scope scope own)
    (hg : ∀ (s : Shared) (H : Hp) (C : Addr) (cl : List (Str × Addr)) (fp : List Addr), PG (BCx X scope s H C cl fp) tg g) (he : ∀ (s : Shared) (H : Hp) (C : Addr) (cl : List (Str × Addr)) (fp : List Addr), PE (BCx X scope s H C cl fp) elt te) (hs : ∀ x, foldedSetIterable iter X.env x = pure x := by intro _; rfl) :
    PE X (.SetComp elt [⟨tg, iter, [], 0⟩] scope pos) (tSetK X.prog X.w wi g te (own.map (·.2))) := by
  refine ⟨fun pins s σ H Q I rd => ?_⟩
  rw [PpSet.eval_SetComp]
  refine wpAny_comprehension_free (use := none) rfl hs (closure_ok fun y hy e => (ok.free y hy e).elim (fun z => I.ok.has _ (.inl z)) fun z => I.ok.has _ (.inr z)) ok.kind (fun y hy e => by rw [ok.uniq y hy, e])
    (thn (hi.run pins s σ H _ I rd) fun _ _ hx => thn hx fun itv sa ⟨it, fp, tn, J, Ha, e, Ia, tr, sta, fa, rd2⟩ => ?_)
  subst e
  refine PpSet.newSet_ok (newEnv_comp ?_)
  obtain ⟨n, G, G0, Gn, lap⟩ := rd2 sa.heap.objs.size (Ia.hok.fresh (Nat.le_refl _))
  -- the state with the empty set
  have born : (sa.heap.push { cls := .type "set", dict := none, data := .set #[] 0 (.fresh 0 0 (!X.w.params.followText "set-order")) }).SetOf (mixKind X.prog X.w) sa.heap.objs.size (fun _ => false) 0 :=
    ⟨_, #[], 0, _, Heap.get?_push_size _ rfl, ⟨rfl, rfl, rfl⟩, rfl, (fun e he => by simp at he), (fun k => by simp), (by decide), (by rfl), rfl⟩
  have Ib := Ia.laid (t' := sa.toks) (fun _ _ e => Heap.get?_push_of_some _ e) (Nat.le_refl _) (setK_new (H := upd Ha sa.heap.objs.size (SetK X.prog X.w sa.heap.objs.size (fun _ => false) 0)) born)
  generalize hsb : ({ sa with heap := sa.heap.push { cls := .type "set", dict := none, data := .set #[] 0 (.fresh 0 0 (!X.w.params.followText "set-order")) }, toks := sa.toks } : Shared) = sb at Ib
  have heapb : sb.heap = sa.heap.push { cls := .type "set", dict := none, data := .set #[] 0 (.fresh 0 0 (!X.w.params.followText "set-order")) } := by rw [← hsb]
  generalize hD : sa.heap.objs.size = D at *
  generalize hHb : upd Ha D (SetK X.prog X.w D (fun _ => false) 0) = Hb at *
  have fb : ∀ b ∈ fp, FpOk X pins Hb b ∧ b < sb.heap.objs.size := fun b hb => by
    obtain ⟨o, eo, _⟩ := tr.obj _ _ sta b hb
    have lt := Heap.lt_size eo
    have ne : b ≠ D := by rw [← hD]; exact Nat.ne_of_lt lt
    refine ⟨⟨by rw [← hHb, upd_ne ne]; exact (fa b hb).1, (fa b hb).2⟩, ?_⟩
    rw [heapb, Heap.size_push]
    exact Nat.lt_succ_of_lt lt
  have stb : tn 0 sb.heap := tr.keep _ _ _ sta fun b _ o eo => by rw [heapb]; exact Heap.get?_push_of_some _ eo
  have Ic := block_start Ib ok dst fb
  have pg : PG (X.blk sb Hb scope (compEnvC scope (cellsFrom (sb.heap.objs.size + 1) scope.names (cloFrom X.env.cells scope.names [])) sb.heap.objs.size X.env) fp) tg g := hg sb Hb sb.heap.objs.size (cellsFrom (sb.heap.objs.size + 1) scope.names (cloFrom X.env.cells scope.names [])) fp
  have pe : PE (X.blk sb Hb scope (compEnvC scope (cellsFrom (sb.heap.objs.size + 1) scope.names (cloFrom X.env.cells scope.names [])) sb.heap.objs.size X.env) fp) elt te := he sb Hb sb.heap.objs.size (cellsFrom (sb.heap.objs.size + 1) scope.names (cloFrom X.env.cells scope.names [])) fp
  have goal : codeAny (model X.prog X.w) X.A (.compStart (.SetComp elt [⟨tg, iter, [], 0⟩] scope pos) 0 (.ref it) (.ref D) (compEnvC scope (cellsFrom (sb.heap.objs.size + 1) scope.names (cloFrom X.env.cells scope.names [])) sb.heap.objs.size X.env))
      (compPost (model X.prog X.w) X.A X.xe none (EP X pins σ Q) (.ref D) sb.heap.objs.size) { sb with heap := pushCells (sb.heap.push { cls := .type "dict", data := .dict #[] }) scope.names } := by
    generalize hce : compEnvC scope (cellsFrom (sb.heap.objs.size + 1) scope.names (cloFrom X.env.cells scope.names [])) sb.heap.objs.size X.env = ce at Ic pg pe ⊢
    have loc : ce.locals = sb.heap.objs.size := by
      subst hce
      rfl
    have nob : ∀ b ∈ fp, Hb b = none := fun b hb => (fb b hb).1.1
    generalize hsc : ({ sb with heap := pushCells (sb.heap.push { cls := .type "dict", data := .dict #[] }) scope.names } : Shared) = sc at Ic ⊢
    have stc : tn 0 sc.heap := tr.keep _ _ _ stb fun b _ o eo => by rw [← hsc]; exact pushCells_keeps _ _ _ _ (Heap.get?_push_of_some _ eo)
    have own_it : ∀ {τ : L2.St} {Hx : Hp} {sx : Shared}, Inv (X.blk sb Hb scope ce fp) [] τ Hx sx → (∀ b ∈ fp, Hx b = none) → ∀ b ∈ fp, FpOk (X.blk sb Hb scope ce fp) [] Hx b := fun {τ Hx sx} J2 hn b hb =>
      ⟨hn b hb, (J2.ok.exf b hb).1, J2.ok.exfs b hb, .inl hb, fun x c ec => (J2.ok.exf b hb).2 x c ec, fun p hp => absurd (show p ∈ ([] : List (Addr × Obj)) ++ [] from hp) (by simp)⟩
    have laps : codeAny (model X.prog X.w) X.A (.compLoop (.SetComp elt [⟨tg, iter, [], 0⟩] scope pos) 0 (.ref it) (.ref D) ce) (compPost (model X.prog X.w) X.A X.xe none (EP X pins σ Q) (.ref D) sb.heap.objs.size) sc := by
      refine PpSet.compLoopS_any (fun k sx => ∃ i Hx, k + i = n ∧ Inv (X.blk sb Hb scope ce fp) [] (wipe σ (own.map (·.2))) Hx sx ∧ tn i sx.heap ∧ (∀ b ∈ fp, Hx b = none) ∧ G i Hx) ?_ n ⟨0, Hb, rfl, Ic, stc, nob, G0⟩
      rintro k sx ⟨i, Hx, hk, Ix, stx, nox, gx⟩
      rcases lap i Hx gx with ⟨halt, q⟩ | ⟨go, more⟩
      · refine thnF (tr.done (X.blk sb Hb scope ce fp) rfl rfl rfl calm i [] sx _ Hx (fun _ _ => False) Ix (own_it Ix nox) stx halt) fun r sy ⟨hr, Iy⟩ => ?_
        subst hr
        have Iz : Inv X pins σ Hx sy := Ib.call' (ch := fp) Iy.os Iy.base Iy.hok Iy.bare fun b hb => ⟨(fb b hb).1.2.2.2.1, (fb b hb).1.2.1, (fb b hb).1.2.2.2.2.1, (fb b hb).1.2.2.2.2.2⟩
        have noC : Hx sb.heap.objs.size = none := by
          have z := Iy.free
          rw [show (X.blk sb Hb scope ce fp).env.locals = sb.heap.objs.size from loc] at z
          exact z
        obtain ⟨m, hn, _⟩ := Iy.loc
        rw [show (X.blk sb Hb scope ce fp).env.locals = sb.heap.objs.size from loc] at hn
        obtain ⟨f0, f1, f2, f3, f4, f5⟩ := Ib.fpOk (Nat.le_refl _) noC
        exact ⟨m, hn, fun h'' sbut => ⟨.ref D, Hx, Iz.turned (t' := sy.toks) (fun b o hb e => (sbut.2 b hb).trans e) f0 f1 f3 f4 f5, rfl, q⟩⟩
      · refine thnF (tr.item (X.blk sb Hb scope ce fp) rfl rfl rfl calm i [] sx _ Hx (fun _ _ => False) Ix (own_it Ix nox) stx go) fun r sy ⟨u, hr, hy⟩ => ?_
        subst hr
        refine thnF hy fun _ sz ⟨x, Hz, Iz, rz, yz, stz, noz⟩ => ?_
        have Ip := Iz.pinned (own_it Iz noz) (tr.obj _ _ stz)
        refine thnF (pg.run _ sz _ Hz x u _ Ip rz (more x Hz yz)) fun _ st ⟨σt, Ht, It, eqt, qt⟩ => ?_
        have none_left : wpAny (model X.prog X.w) X.A (forIn ([] : List Expr) true fun c r => if r = true then do let ok ← isTrue c ce (eval c ce); pure (ForInStep.yield ok) else pure (ForInStep.yield r)) (fun okb s₃ => okb = true ∧ s₃ = st) (fun _ _ => False) st := by
          rw [List.forIn_nil]
          exact wpAny_pure ⟨rfl, rfl⟩
        refine thnF none_left fun okb s3 ⟨e1, e2⟩ => ?_
        subst e1 e2
        rw [if_pos rfl]
        refine thnF (pe.run _ _ σt Ht _ It qt) fun z sv ⟨yv, Hv, Iv, rv, tail⟩ => ?_
        obtain ⟨key, S, m, ey, hDv, room, nxt⟩ := tail fun S m q hS => setK_code (X := X.blk sb Hb scope ce fp) Iv hS q
        subst ey
        refine call_set_add (kV_is rv) (key_scan rv) (setK_get (X := X.blk sb Hb scope ce fp) Iv hDv) room fun h' sbut new => ?_
        have there : ∃ o, h'.get? D = some o := by
          obtain ⟨o, _, _, _, ho, _⟩ := new
          exact ⟨o, ho⟩
        have Iw := Iv.write (e := D) (t' := sv.toks + 1) (by rw [hDv]; trivial) (.inl rfl) (fun b o hb ho => (sbut.2 b hb).trans ho) there (setK_new (H := upd Hv D (SetK X.prog X.w D (fun j => S j || decide (j = key)) (if S key = true then m else m + 1))) new)
        have lt : i + 1 ≤ n := Gn _ _ nxt
        have pin : ∀ b ∈ fp, ∀ o, sz.heap.get? b = some o → h'.get? b = some o ∧ (upd Hv D (SetK X.prog X.w D (fun j => S j || decide (j = key)) (if S key = true then m else m + 1))) b = none := fun b hb o eo =>
          let z := Iw.pin (b, o) (List.mem_append_right _ (List.mem_append_right _ (mem_pinsAt hb eo)))
          ⟨z.1, z.2.1⟩
        have len : (wipe σ (own.map (·.2))).length = σt.length := by rw [← eqt, wipe_length]
        refine ⟨n - (i + 1), by omega, i + 1, _, by omega, (Iw.unpinned (pins := [])).weak len (fun j v ev => ?_), tr.keep _ _ _ stz fun b hb o eo => (pin b hb o eo).1, fun b hb => ?_, nxt⟩
        · rw [← eqt] at ev
          exact (wipe_some ev).1
        · obtain ⟨o, eo, _⟩ := tr.obj _ _ stz b hb
          exact (pin b hb o eo).2
    exact PpSet.codeAny_compStart_set laps (tr.self X.A 0 _ _ _ stc laps)
  subst hsb
  exact goal
end
/-- len(a set of texts and ints) -/
def rLenSetK (X : Cx) : List V → Hp → VK → Prop := fun xs H Q => ∃ a S n, xs = [.ref a] ∧ H a = some (SetK X.prog X.w a S n) ∧ Q (.int (n : Int)) H
theorem cr_lenSetK {X : Cx} : CallR X (.builtin "len") (rLenSetK X) := by
  intro pins s σ H xs us Q I r h
  obtain ⟨a, S, n, e, ha, q⟩ := h
  subst e
  obtain ⟨u, rfl, rx⟩ := vals1 r
  cases rx
  obtain ⟨o, es, ep, t, ho, hex, hd, _, _, hb, hf, hn⟩ := setK_get I ha
  have sm : (scanBound : Int) < 2 ^ 63 := by decide
  refine call_len_set ho hex hd hf (by omega) ?_
  rw [hn]
  exact ⟨.int n, H, I.tok _, ⟨_, rfl⟩, q⟩
section
variable {T : Tb} {X : Cx} {scope : Scope} {Γ : Ga} {tg iter elt : Expr} {ws : List Str} {pos p spos : Pos}
theorem setK_nt {P : Program} {w : World} {a : Addr} {S : Key → Bool} {n : Nat} : NT (SetK P w a S n) := fun ps z => by
  unfold SetK at z
  cases z
/-- len({x for x in ..}) of texts that are all apart -/
theorem de_lenSet (own : List (Str × Nat)) (k1 : Nat) (hi : DI T X tg Γ iter Γ (ws.map .str)) (hb : BlkOk X.N X.env.scope scope own) (dst : X.N.Nodup) (no : noOwns Γ) (hk1 : k1 ∈ own.map (·.2)) (hg : BG T X scope tg [k1])
    (he : ∀ x ∈ ws, BE T X scope ((wipeG (own.map (·.2)) 0 Γ).set k1 (.dat (.str x))) elt ((wipeG (own.map (·.2)) 0 Γ).set k1 (.dat (.str x))) (.str x)) (nd : ws.Nodup) (hz : ws.length ≤ 100) (hm : X.mg "len" = none) (hgl : Gl X "len" := by rfl) (calm : X.calm = true := by rfl)
    (hs : ∀ x, foldedSetIterable iter X.env x = pure x := by intro _; rfl) (hst : starEach [.SetComp elt [⟨tg, iter, [], 0⟩] scope spos] X.env = (false, eval (.SetComp elt [⟨tg, iter, [], 0⟩] scope spos) X.env) :: starEach [] X.env := by rfl) (hpl : (backTo pos (starEach [] X.env)).any (·.1) = false := by rfl) :
    DE T X Γ (.Call (.Name "len" p) [.SetComp elt [⟨tg, iter, [], 0⟩] scope spos] [] pos) Γ (.int (ws.length : Int)) := fun B => by
  have room : 1000 < scanBound := by decide
  refine pe_imp (pe_callB cr_lenSetK hgl hm (by decide +kernel) (pa_cons (pe_setK (te := cE T X scope elt) calm dst (hi B) hb (bg_pg hg) be_pe hs) pa_nil hst) (by decide) (by decide) hst hpl) fun σ H Q ⟨F, o, q⟩ => ⟨F, o, fun F1 H1 J o1 s1 it D hD => ?_⟩
  have h0 : B.H0 D = none := by
    cases z : B.H0 D with
    | none => rfl
    | some u => exact absurd hD (o1.nx.dm D (by rw [z]; intro z; cases z))
  have nf : F1 D = none := none_of o1.gd hD
  have na : ∀ {Γ' : Ga} {σ' : L2.St}, noOwns Γ' → ∀ (j : Nat) (s : Sl), Γ'[j]? = some s → isOwn s = true → σ'[j]? ≠ some (some (.ref D)) := fun {Γ' σ'} n j s e os => by
    rw [n j s e] at os
    cases os
  have n0 : Nx T NoM F1 H1 F1 (upd H1 D (SetK X.prog X.w D (fun _ => false) 0)) := Nx.newH o1.gd hD trivial
  -- the set of the first i texts
  let SS : Nat → Key → Bool := fun i k => (ws.take i).any fun x => decide (k = .inr x)
  refine ⟨ws.length, fun i Hi => i ≤ ws.length ∧ ∃ Fi, Ok (wd T X) B Γ Fi σ Hi ∧ Same F1 Fi ∧ Fi D = none ∧ Hi D = some (SetK X.prog X.w D (SS i) i), ⟨Nat.zero_le _, F1, o1.next n0, Same.refl F1, nf, upd_same⟩, fun i Hi z => z.1, ?_⟩
  rintro i Hi ⟨hle, Fi, oi, si, fD, eD⟩
  cases hd : ws[i]? with
  | none =>
    have hge : ws.length ≤ i := List.getElem?_eq_none_iff.mp hd
    have e : i = ws.length := by omega
    refine .inl ⟨it.stop i Fi Hi oi.gd si (by rw [List.length_map]; exact e), D, SS i, i, rfl, eD, ?_⟩
    rw [e]
    exact q Fi Hi _ oi (s1.trans si) (.int _)
  | some x =>
    have hlt := (List.getElem?_eq_some_iff.mp hd).1
    refine .inr ⟨it.go i Fi Hi oi.gd si (by rw [List.length_map]; exact hlt), fun v Hx hy => ?_⟩
    obtain ⟨F2, n2, r2⟩ := it.yld i Fi Hi v Hx oi.gd si hy (.str x) (by rw [List.getElem?_map, hd]; rfl)
    have o2 := oi.next n2
    have eD2 := n2.hh D _ eD (fun z => z) setK_nt
    have fD2 : F2 D = none := n2.out D (by rw [eD]; intro z; cases z) (fun z => z) fD
    have ow : Ok (wd T X) B (wipeG (own.map (·.2)) 0 Γ) F2 (wipe σ (own.map (·.2))) Hx := o2.wipe (noOwns_noOwn no)
    refine ⟨B, _, F2, .str x, [.str x], ow, r2, rfl, fun wl hl o3 => ?_⟩
    obtain ⟨wv, rfl⟩ := one_of hl
    rw [setG1, setAll1] at o3
    rw [setAll1]
    have kin : [k1].all (own.map (·.2)).contains = true := by
      simp only [List.all_cons, List.all_nil, Bool.and_true]
      simpa using hk1
    refine ⟨by rw [← setAll1]; exact wipe_setAll kin, ?_⟩
    have no3 : noOwns ((wipeG (own.map (·.2)) 0 Γ).set k1 (.dat (.str x))) := noOwns_set (noOwns_wipe no)
    refine ⟨_, _, _, _, he x (List.mem_of_getElem? hd), F2, o3.self, fun F4 H4 y o4 s4 r4 code => ?_⟩
    have nm : ¬ mOf ((wipeG (own.map (·.2)) 0 Γ).set k1 (.dat (.str x))) ((wipe σ (own.map (·.2))).set k1 (some wv)) D := fun ⟨i, s, e1, e2, _⟩ => by
      rw [no3 i s e1] at e2
      cases e2
    have o5 := o3.unbase2 o4
    have eD4 := o4.nx.hh D _ eD2 nm setK_nt
    have fD4 : F4 D = none := o4.nx.out D (by show Hx D ≠ none; rw [eD2]; intro z; cases z) nm fD2
    cases r4
    have new : SS i (.inr x) = false := by
      refine List.any_eq_false.mpr fun y hy hxy => ?_
      have e : (Sum.inr x : Key) = .inr y := of_decide_eq_true hxy
      injection e with e
      obtain ⟨j, hj⟩ := List.getElem?_of_mem hy
      have hj2 := (List.getElem?_eq_some_iff.mp hj).1
      rw [List.length_take] at hj2
      rw [List.getElem?_take, if_pos (by omega)] at hj
      have ej : j = i := (List.getElem?_inj (by omega) nd).mp (by rw [hj, hd, e])
      omega
    have next : (fun j => SS i j || decide (j = (Sum.inr x : Key))) = SS (i + 1) := by
      funext k
      show ((ws.take i).any _ || _) = (ws.take (i + 1)).any _
      rw [List.take_add_one, hd, List.any_append]
      simp
    refine ⟨.inr x, SS i, i, rfl, eD4, by omega, hlt, ?_⟩
    rw [if_neg (by rw [new]; exact Bool.false_ne_true), next]
    have nq : ∀ q, SetK X.prog X.w D (SS i) i ≠ LamX.CodeO D q := fun q => code _ _ q eD4
    have nx : Nx T (fun b => b = D) F4 H4 F4 (upd H4 D (SetK X.prog X.w D (SS (i + 1)) (i + 1))) := Nx.set o5.gd rfl eD4 setK_nt nq fD4 trivial
    have o6 := o5.side nx h0 (na no3)
    have o7 : Ok (wd T X) B (restG (own.map (·.2)) 0 Γ ((wipeG (own.map (·.2)) 0 Γ).set k1 (.dat (.str x)))) F4 σ (upd H4 D (SetK X.prog X.w D (SS (i + 1)) (i + 1))) := by
      refine Ok.unwipe (ks := [k1]) (ws := [wv]) o2 s4 ?_ kin (noOwns_noOwn no)
      rw [setAll1]
      exact o6
    rw [← setG1, restG_self _ _ kin] at o7
    exact ⟨F4, o7, si.trans (n2.ff.trans s4), fD4, upd_same⟩
end
end Dd
end
section
/-! Dd19: iterators that hand out new tuples: enumerate over a tuple, zip of a list and a tuple, zip of three lists. -/
namespace Dd
open PySem PySem.Spec PyProof.Rows L2
/-- at each turn a new tuple of what src tells -/
def newIt (go : Nat → Hp → Prop) (src : Nat → Hp → List V → Prop) (fin : Nat → Hp → Prop) : It :=
  ⟨go, fun i H v H' => ∃ T vs, v = .ref T ∧ H T = none ∧ H' = upd H T (.tup vs) ∧ src i H vs, fin⟩
/-- what stands by a walk of the kit -/
structure Goer (X : Cx) (tg : Expr) (it : Addr) (fp : List Addr) (tn : Nat → Heap → Prop) (src : Nat → Hp → List V → Prop) (i : Nat) (s : Shared) (H : Hp) (last : Bool) : Prop where
  ex : ∃ (fpG wr : List Addr) (n : Nat) (Y : Nat → Heap → Value → Heap → Prop) (St : Nat → Heap → Prop), GoesN X.prog X.w X.A tg it fpG wr n Y St ∧ (∀ b ∈ wr, b ∈ fp) ∧ St i s.heap ∧ (if last = true then i = n else i < n) ∧ (∀ h', St (i + 1) h' → tn (i + 1) h') ∧
    ∀ v h', Y i s.heap v h' → ∃ T us vs, v = .ref T ∧ s.heap.objs.size ≤ T ∧ h'.IsTuple T us.toArray ∧ Vals vs us ∧ src i H vs ∧ vs.length ≤ 100
theorem turn_of {P : Program} {w : World} {K : PySem.W.Frag} {tg : Expr} {fp : List Addr} {it : Addr} {tn : Nat → Heap → Prop} {go : Nat → Hp → Prop} {src : Nat → Hp → List V → Prop} {fin : Nat → Hp → Prop} (mem : it ∈ fp) (obj : ∀ i h, tn i h → ∀ b ∈ fp, ∃ o, h.get? b = some o ∧ ∀ v, o.data ≠ .cell v)
    (keep : ∀ i h h', tn i h → (∀ b ∈ fp, ∀ o, h.get? b = some o → h'.get? b = some o) → tn i h')
    (nx : ∀ (X : Cx), X.prog = P → X.w = w → X.K = K → X.calm = true → ∀ (i : Nat) (pins : List (Addr × Obj)) (s : Shared) (σ : L2.St) (H : Hp), Inv X pins σ H s → tn i s.heap → go i H → Goer X tg it fp tn src i s H false)
    (st : ∀ (X : Cx), X.prog = P → X.w = w → X.K = K → X.calm = true → ∀ (i : Nat) (pins : List (Addr × Obj)) (s : Shared) (σ : L2.St) (H : Hp), Inv X pins σ H s → tn i s.heap → fin i H → Goer X tg it fp tn src i s H true)
    (self : ∀ (A : Around) (i : Nat) (s : Shared) (Q : Value → Shared → Prop) (E : Value → Shared → Prop), tn i s.heap → Q (.ref it) s → wpAny (model P w) A (pyIter (.ref it)) Q E s) : Turn P w K tg (newIt go src fin) fp it tn where
  mem := mem
  obj := obj
  keep := keep
  item := fun X hP hw hK hc i pins s σ H E I hf ht hg => by
    obtain ⟨fpG, wr, n, Y, St, W, hwr, hst, hi, next, out⟩ := (nx X hP hw hK hc i pins s σ H I ht hg).ex
    subst hP hw hK
    refine W.goes i s (fun u s2 => ∃ x H', Inv X pins σ H' s2 ∧ RelV x u ∧ (newIt go src fin).yld i H x H' ∧ tn (i + 1) s2.heap ∧ ∀ b ∈ fp, H' b = none) E hi hst fun v h' tk hy hst' kp _ => ?_
    obtain ⟨T, us, vs, ev, le, tp, rel, hsrc, fit⟩ := out v h' hy
    subst ev
    have hz : vs.length ≤ sizeLine := Nat.le_trans fit (by decide)
    have I1 := I.turnedNew (t' := tk) (ch := wr) (T := T) (ob := .tup vs) (fun b o hb e => kp b o hb e) (fun b hb => hf b (hwr b hb)) le (show ObjOk X.prog X.w _ h' T (.tup vs) from ⟨hz, us, rel, tp⟩)
    refine ⟨.ref T, _, I1, rfl, ⟨T, vs, rfl, I.hok.fresh le, rfl, hsrc⟩, next h' hst', fun b hb => ?_⟩
    obtain ⟨o, ho, _⟩ := obj i _ ht b hb
    have lt := Heap.lt_size ho
    rw [upd_ne (Nat.ne_of_lt (Nat.lt_of_lt_of_le lt le))]
    exact (hf b hb).1
  done := fun X hP hw hK hc i pins s σ H E I hf ht hg => by
    obtain ⟨fpG, wr, n, Y, St, W, hwr, hst, hi, _⟩ := (st X hP hw hK hc i pins s σ H I ht hg).ex
    subst hP hw hK
    have e : i = n := hi
    subst e
    refine W.stops s (fun s1 => Inv X pins σ H s1) E hst fun h' tk kp _ => ?_
    exact I.turnedL (ch := wr) kp fun b hb => hf b (hwr b hb)
  self := self

/-! ### enumerate over a tuple -/
section
variable {K : PySem.W.Frag} {a b c : Addr}
def enumIt (K : PySem.W.Frag) (a : Addr) : It := newIt (fun i H => ∃ xs : List V, SqT K H a xs ∧ i < xs.length) (fun i H vs => ∃ x, vs = [.int (i : Nat), x] ∧ ∀ xs, SqT K H a xs → xs[i]? = some x) (fun i H => ∃ xs : List V, SqT K H a xs ∧ i = xs.length)
theorem turn_enumT {P : Program} {w : World} {elts : List Expr} {kk : Nat} {tpos : Pos} {e it : Addr} (hei : e ≠ it) (hea : e ≠ a) (hai : a ≠ it) :
    Turn P w K (.Tuple elts kk tpos) (enumIt K a) [e, it] e (fun i h => (∃ old, IsEnum h e it ((0 : Int) + (i : Nat)) old) ∧ h.IsTupleIter it a i) := by
  refine turn_of (by simp) (fun i h ⟨⟨old, h1⟩, o, h2, h3, h4⟩ d hd => ?_) (fun i h h' ⟨⟨old, h1⟩, h2⟩ k => ⟨⟨old, k e (by simp) _ h1⟩, h2.at fun o q => k it (by simp) o q⟩) (fun X hP hw hK hc i pins s σ H I ⟨h1, h2⟩ ⟨xs, hx, hi⟩ => ?_) (fun X hP hw hK hc i pins s σ H I ⟨h1, h2⟩ ⟨xs, hx, hi⟩ => ?_) (fun A i s Q E ⟨⟨old, h1⟩, _⟩ h => wpAny_pyIter_enum h1 h)
  · have e' : d = e ∨ d = it := by simpa using hd
    rcases e' with z | z
    · rw [z]
      exact ⟨_, h1, fun v q => nomatch q⟩
    · rw [z]
      exact ⟨o, h2, fun v q => by rw [h4] at q; cases q⟩
  all_goals
    subst hP hw hK
    obtain ⟨its, rv, tp, _⟩ := I.tuple hx
    have hl := rv.length
    refine ⟨⟨_, [e, it], its.toArray.size, _, _, GoesN.enumFrom 0 (Draws.tuple (by exact I.ok.hd hc) it a hai its.toArray) e hei (by simp [hei, hea]) (by simp), by simp, ⟨h1, h2, tp⟩, ?_, fun h' z => ⟨z.1, z.2.1⟩, fun v h' ⟨T, t, x, ev, le, hP, tp'⟩ => ?_⟩⟩
    · first
        | (rw [if_pos rfl, List.size_toArray]; omega)
        | (rw [if_neg Bool.false_ne_true, List.size_toArray]; omega)
    · have hx' : its[i]? = some x := by simpa using hP
      obtain ⟨y, hy, ry⟩ : ∃ y, xs[i]? = some y ∧ RelV y x := by
        obtain ⟨hlt, _⟩ := List.getElem?_eq_some_iff.mp hx'
        have e1 : xs[i]? = some xs[i] := List.getElem?_eq_getElem (by omega)
        obtain ⟨u, hu, ru⟩ := rv.get e1
        rw [hx'] at hu
        cases hu
        exact ⟨_, e1, ru⟩
      refine ⟨T, [.int ((0 : Int) + (i : Nat)) t, x], [.int (i : Nat), y], ev, le, tp', .cons ⟨t, by rw [Int.zero_add]⟩ (.cons ry .nil), ⟨y, rfl, fun zs hz => ?_⟩, Nat.le_of_ble_eq_true rfl⟩
      rw [I.tuple_inj hz hx]
      exact hy
end
end Dd
namespace PySem
/-- enumerate(v): its two new cells -/
theorem meets_enum1 {v : Value} {o : Obj} {H : Heap → Prop} (B : Begins v o H) :
    Meets (Builtin.«enumerate.__new__» ⟨[.type "enumerate", v], []⟩) (fun _ R s => H s.heap ∧
      R (.ok (.ret (.ref (s.heap.push o).objs.size))) { s with heap := (s.heap.push o).push { cls := .type "enumerate", data := .fields #[.none, .bool false, .ref s.heap.objs.size, rawInt 0, .none, .none] } }) :=
  .of_wp fun prog w A R s h => by
    obtain ⟨hp, g, d, tk, os⟩ := s
    obtain ⟨h1, h⟩ := h
    have same := sub_enumerate
    have begin' : ∀ {A' : Around} {E : Value → Shared → Prop} {Q : Value → Shared → Prop}, Q (.ref hp.objs.size) ⟨hp.push o, g, d, tk, os⟩ → wpAny (model prog w) A' (pyIter v) Q E ⟨hp, g, d, tk, os⟩ := fun q => B.iter prog w _ _ _ _ h1 q
    wp_walk using begin'
    refine wpAny_stack_any fun st => wpAny_pure ?_
    split
    · rename_i c _ _ _ _ _
      cases (c == Value.type "enumerate") <;> (wp_walk using begin'; exact ⟨_, rfl, h⟩)
    · wp_walk using begin'
      exact ⟨_, rfl, h⟩
theorem enum_one {prog : Program} {w : World} {A : Around} {E : Value → Shared → Prop} {s : Shared} {v : Value} {o : Obj} {H : Heap → Prop} {Q : Value → Shared → Prop} (B : Begins v o H) (h1 : H s.heap)
    (h : ∀ h', IsEnum h' (s.heap.objs.size + 1) s.heap.objs.size 0 .none → h'.get? s.heap.objs.size = some o → (∀ b o, s.heap.get? b = some o → h'.get? b = some o) → Q (.ref (s.heap.objs.size + 1)) { s with heap := h' }) :
    wpAny (model prog w) A (call (.type "enumerate") [v]) Q E s := by
  have hz : (s.heap.push o).objs.size = s.heap.objs.size + 1 := Heap.size_push ..
  refine callType_new F.called_enumerate (by decide) (F.typeCall_enumerate_1 _) (F.newCall_enumerate_1 _) (fun obj => F.args_object_init_2 obj _) F.entry_enumerate_new (meets_enum1 B) ⟨h1, ?_⟩
  show _ ∧ _
  rw [hz]
  have new : ((s.heap.push o).push { cls := .type "enumerate", data := .fields #[.none, .bool false, .ref s.heap.objs.size, rawInt 0, .none, .none] }).get? (s.heap.objs.size + 1) = some { cls := .type "enumerate", data := .fields #[.none, .bool false, .ref s.heap.objs.size, rawInt 0, .none, .none] } := by
    rw [← hz]
    exact Heap.get?_push_size _ rfl
  exact ⟨⟨_, new, rfl⟩, h _ new (Heap.get?_push_of_some _ (Heap.get?_push_size _ B.free)) fun b o e => Heap.get?_push_of_some _ (Heap.get?_push_of_some _ e)⟩
end PySem
namespace Dd
open PySem PySem.Spec PyProof.Rows L2
section
variable {T : Tb} {X : Cx} {Γ Γ1 Γ2 Γ3 : Ga} {e e2 e3 : Expr} {ds es fs : List PyData} {p pos tpos : Pos} {kk : Nat} {elts : List Expr}
def iEnumT (K : PySem.W.Frag) (ta : TA) : TI := fun σ H R => ta σ H fun vs H1 => ∃ a xs, vs = [.ref a] ∧ SqT K H1 a xs ∧ R (enumIt K a) H1
theorem pi_enumT {ta : TA} (hg : Gl X "enumerate") (hm : X.mg "enumerate" = none) (ha : PA X [e] ta) (hs : starEach [e] X.env = [(false, eval e X.env)] := by rfl) : PI X (.Tuple elts kk tpos) (.Call (.Name "enumerate" p) [e] [] pos) (iEnumT X.K ta) := by
  refine ⟨fun pins s σ H R I h => Call_ (ld_blt I hg hm boot_enumerate (PyProof.Rows.callWith_type1 (thn (ha.run pos pins s σ H _ I h) fun us s1 ⟨vs, H1, I1, r1, a, xs, ev, hq, q⟩ => ?_) hs rfl))⟩
  subst ev
  obtain ⟨u, rfl, ru⟩ := r1.one
  cases ru
  obtain ⟨its, rv, tp, _⟩ := I1.tuple hq
  have low : a < s1.heap.objs.size := by
    obtain ⟨o, ho, _⟩ := tp
    exact Heap.lt_size ho
  refine PySem.enum_one (begins_tuple a its.toArray) tp fun h' he hit hk => wpAny_pyIter_enum he ?_
  refine ⟨s1.heap.objs.size + 1, [s1.heap.objs.size + 1, s1.heap.objs.size], _, _, H1, rfl, I1.kept (t' := s1.toks) hk, turn_enumT (Nat.succ_ne_self _) (Nat.ne_of_gt (Nat.lt_succ_of_lt low)) (Nat.ne_of_lt low), ⟨⟨.none, he⟩, _, hit, rfl, rfl⟩, fun b hb => ?_, q⟩
  have hle : s1.heap.objs.size ≤ b := by
    have e' : b = s1.heap.objs.size + 1 ∨ b = s1.heap.objs.size := by simpa using hb
    rcases e' with z | z
    · rw [z]
      exact Nat.le_succ _
    · rw [z]
      exact Nat.le_refl _
  exact I1.fpOk hle (I1.hok.fresh hle)
theorem it_enumT {K : PySem.W.Frag} {F : Hp} {a : Addr} {xs : List V} (g : xs.length ≤ sizeLine) (h : SqT K F a xs) (t : DpAll K F xs ds) : ItOk T K (enumIt K a) F (enumD ds) where
  few := by rw [enumD_len, ← dpa_len t]; exact g
  stop := fun i F1 H1 g s hi => ⟨xs, sqt_same (s.trans g.fh) h, by rw [dpa_len t, ← enumD_len]; exact hi⟩
  go := fun i F1 H1 g s hi => ⟨xs, sqt_same (s.trans g.fh) h, by rw [dpa_len t, ← enumD_len ds]; exact hi⟩
  yld := fun i F1 H1 v H2 g s ⟨p, vs, e1, e2, e3, y, ey, hx⟩ d hd => by
    obtain ⟨e, f1, f2⟩ := enumD_get hd
    subst e1 e3 f2 ey
    obtain ⟨z, g1, g2⟩ := dpa_get t f1
    have g3 := hx xs (sqt_same (s.trans g.fh) h)
    rw [g1] at g3
    cases g3
    have n : Nx T NoM F1 H1 (upd F1 p (.tup _)) (upd H1 p (.tup _)) := Nx.newF g e2 (show OkO (.tup [.int (i : Nat), y]) from ⟨two_fits, rfl⟩)
    exact ⟨_, n, dp_tup upd_same (.cons (.int _) (.cons (dp_same (s.trans n.ff) g2) .nil))⟩
theorem di_enumT (hm : X.mg "enumerate" = none) (ha : DE T X Γ e Γ1 (.tuple ds)) (hg : Gl X "enumerate" := by rfl) (hs1 : starEach [e] X.env = (false, eval e X.env) :: starEach [] X.env := by rfl) (hs : starEach [e] X.env = [(false, eval e X.env)] := by rfl) :
    DI T X (.Tuple elts kk tpos) Γ (.Call (.Name "enumerate" p) [e] [] pos) Γ1 (enumD ds) := fun B =>
  pi_imp (pi_enumT hg hm (pa_cons (ha B) pa_nil hs1) hs) fun σ H R ⟨F, o, q⟩ => ⟨F, o, fun F' H' v o' s' r' => by
    cases r' with
    | tup s t => exact ⟨_, _, rfl, sqt_same o'.gd.fh s, q F' H' _ o' s' (it_enumT (o'.gd.sqt s) s t)⟩⟩
end
end Dd
end
section
/-! Dd20: zip of a list and a tuple, zip of three lists. -/
namespace Dd
open PySem PySem.Spec PyProof.Rows L2
section
variable {K : PySem.W.Frag} {a b c : Addr}
theorem val_at {xs : List V} {its : List Value} (rv : Vals xs its) {i : Nat} {x : Value} (h : its[i]? = some x) : ∃ y, xs[i]? = some y ∧ RelV y x := by
  have hl := rv.length
  obtain ⟨hlt, _⟩ := List.getElem?_eq_some_iff.mp h
  have e1 : xs[i]? = some xs[i] := List.getElem?_eq_getElem (by omega)
  obtain ⟨u, hu, ru⟩ := rv.get e1
  rw [h] at hu
  cases hu
  exact ⟨_, e1, ru⟩
def zipIt (K : PySem.W.Frag) (a b : Addr) : It := newIt (fun i H => ∃ xs ys : List V, SqL K H a xs ∧ SqT K H b ys ∧ xs.length = ys.length ∧ i < xs.length)
  (fun i H vs => ∃ x y, vs = [x, y] ∧ (∀ xs, SqL K H a xs → xs[i]? = some x) ∧ ∀ ys, SqT K H b ys → ys[i]? = some y) (fun i H => ∃ xs ys : List V, SqL K H a xs ∧ SqT K H b ys ∧ xs.length = ys.length ∧ i = xs.length)
theorem turn_zipLT {P : Program} {w : World} {elts : List Expr} {kk : Nat} {tpos : Pos} {z TI TO i1 i2 : Addr} (S : ZipSep2 z TI TO i1 i2 [i1, a] [i2, b]) (h1 : a ≠ i1) (h2 : b ≠ i2) :
    Turn P w K (.Tuple elts kk tpos) (zipIt K a b) [z, TI, TO, i1, i2] z (fun i h => IsZip h z TI TO .none ∧ IsTupOf2 h TI (.ref i1) (.ref i2) ∧ (∃ a1 a2, IsTupOf2 h TO a1 a2) ∧ h.IsListIter i1 a i ∧ h.IsTupleIter i2 b i) := by
  refine turn_of (by simp) (fun i h ⟨g1, g2, ⟨a1, a2, g3⟩, ⟨o1, g4, _, d1⟩, ⟨o2, g5, _, d2⟩⟩ d hd => ?_)
    (fun i h h' ⟨g1, g2, ⟨a1, a2, g3⟩, g4, g5⟩ k => ⟨k z (by simp) _ g1, k TI (by simp) _ g2, ⟨a1, a2, k TO (by simp) _ g3⟩, g4.at fun o q => k i1 (by simp) o q, g5.at fun o q => k i2 (by simp) o q⟩)
    (fun X hP hw hK hc i pins s σ H I ⟨g1, g2, g3, g4, g5⟩ ⟨xs, ys, hx, hy, he, hi⟩ => ?_) (fun X hP hw hK hc i pins s σ H I ⟨g1, g2, g3, g4, g5⟩ ⟨xs, ys, hx, hy, he, hi⟩ => ?_) (fun A i s Q E ⟨g1, _⟩ h => wpAny_pyIter_zip g1 h)
  · have e' : d = z ∨ d = TI ∨ d = TO ∨ d = i1 ∨ d = i2 := by simpa using hd
    rcases e' with q | q | q | q | q <;> rw [q]
    · exact ⟨_, g1, fun v q => nomatch q⟩
    · exact ⟨_, g2, fun v q => nomatch q⟩
    · exact ⟨_, g3, fun v q => nomatch q⟩
    · exact ⟨o1, g4, fun v q => by rw [d1] at q; cases q⟩
    · exact ⟨o2, g5, fun v q => by rw [d2] at q; cases q⟩
  all_goals
    subst hP hw hK
    obtain ⟨its, rv, lp, _⟩ := I.list hx
    obtain ⟨its2, rv2, tp, _⟩ := I.tuple hy
    have hl := rv.length
    have hl2 := rv2.length
    refine ⟨⟨_, [z, TO, i1, i2], min its.toArray.size its2.toArray.size, _, _, GoesN.zip2 S (Draws.list (by exact I.ok.hd hc) i1 a h1 its.toArray) (Draws.tuple (by exact I.ok.hd hc) i2 b h2 its2.toArray), by simp, ⟨g1, g2, g3, ⟨g4, lp.isList⟩, g5, tp⟩, ?_, fun h' q => ⟨q.1, q.2.1, q.2.2.1, q.2.2.2.1.1, q.2.2.2.2.1⟩, fun v h' ⟨T, x, y, ev, le, hP, hP2, tp'⟩ => ?_⟩⟩
    · first
        | (rw [if_pos rfl, List.size_toArray, List.size_toArray]; omega)
        | (rw [if_neg Bool.false_ne_true, List.size_toArray, List.size_toArray]; omega)
    · obtain ⟨x', e1, r1⟩ := val_at rv (i := i) (by simpa using hP)
      obtain ⟨y', e2, r2⟩ := val_at rv2 (i := i) (by simpa using hP2)
      refine ⟨T, [x, y], [x', y'], ev, le, tp', .cons r1 (.cons r2 .nil), ⟨x', y', rfl, fun zs hz => ?_, fun zs hz => ?_⟩, Nat.le_of_ble_eq_true rfl⟩
      · rw [I.list_inj hz hx]
        exact e1
      · rw [I.tuple_inj hz hy]
        exact e2
def zipIt3 (K : PySem.W.Frag) (a b c : Addr) : It := newIt (fun i H => ∃ xs ys zs : List V, SqL K H a xs ∧ SqL K H b ys ∧ SqL K H c zs ∧ xs.length = ys.length ∧ xs.length = zs.length ∧ i < xs.length)
  (fun i H vs => ∃ x y z, vs = [x, y, z] ∧ (∀ xs, SqL K H a xs → xs[i]? = some x) ∧ (∀ ys, SqL K H b ys → ys[i]? = some y) ∧ ∀ zs, SqL K H c zs → zs[i]? = some z) (fun i H => ∃ xs ys zs : List V, SqL K H a xs ∧ SqL K H b ys ∧ SqL K H c zs ∧ xs.length = ys.length ∧ xs.length = zs.length ∧ i = xs.length)
theorem turn_zip3 {P : Program} {w : World} {elts : List Expr} {kk : Nat} {tpos : Pos} {z TI TO i1 i2 i3 : Addr} (S : ZipSep3 z TI TO i1 i2 i3 [i1, a] [i2, b] [i3, c]) (h1 : a ≠ i1) (h2 : b ≠ i2) (h3 : c ≠ i3) :
    Turn P w K (.Tuple elts kk tpos) (zipIt3 K a b c) [z, TI, TO, i1, i2, i3] z (fun i h => IsZip h z TI TO .none ∧ IsTupOf3 h TI (.ref i1) (.ref i2) (.ref i3) ∧ (∃ a1 a2 a3, IsTupOf3 h TO a1 a2 a3) ∧ h.IsListIter i1 a i ∧ h.IsListIter i2 b i ∧ h.IsListIter i3 c i) := by
  refine turn_of (by simp) (fun i h ⟨g1, g2, ⟨a1, a2, a3, g3⟩, ⟨o1, g4, _, d1⟩, ⟨o2, g5, _, d2⟩, ⟨o3, g6, _, d3⟩⟩ d hd => ?_)
    (fun i h h' ⟨g1, g2, ⟨a1, a2, a3, g3⟩, g4, g5, g6⟩ k => ⟨k z (by simp) _ g1, k TI (by simp) _ g2, ⟨a1, a2, a3, k TO (by simp) _ g3⟩, g4.at fun o q => k i1 (by simp) o q, g5.at fun o q => k i2 (by simp) o q, g6.at fun o q => k i3 (by simp) o q⟩)
    (fun X hP hw hK hc i pins s σ H I ⟨g1, g2, g3, g4, g5, g6⟩ ⟨xs, ys, zs, hx, hy, hz, he, he2, hi⟩ => ?_) (fun X hP hw hK hc i pins s σ H I ⟨g1, g2, g3, g4, g5, g6⟩ ⟨xs, ys, zs, hx, hy, hz, he, he2, hi⟩ => ?_) (fun A i s Q E ⟨g1, _⟩ h => wpAny_pyIter_zip g1 h)
  · have e' : d = z ∨ d = TI ∨ d = TO ∨ d = i1 ∨ d = i2 ∨ d = i3 := by simpa using hd
    rcases e' with q | q | q | q | q | q <;> rw [q]
    · exact ⟨_, g1, fun v q => nomatch q⟩
    · exact ⟨_, g2, fun v q => nomatch q⟩
    · exact ⟨_, g3, fun v q => nomatch q⟩
    · exact ⟨o1, g4, fun v q => by rw [d1] at q; cases q⟩
    · exact ⟨o2, g5, fun v q => by rw [d2] at q; cases q⟩
    · exact ⟨o3, g6, fun v q => by rw [d3] at q; cases q⟩
  all_goals
    subst hP hw hK
    obtain ⟨its, rv, lp, _⟩ := I.list hx
    obtain ⟨its2, rv2, lp2, _⟩ := I.list hy
    obtain ⟨its3, rv3, lp3, _⟩ := I.list hz
    have hl := rv.length
    have hl2 := rv2.length
    have hl3 := rv3.length
    refine ⟨⟨_, [z, TO, i1, i2, i3], min (min its.toArray.size its2.toArray.size) its3.toArray.size, _, _, GoesN.zip3 S (Draws.list (by exact I.ok.hd hc) i1 a h1 its.toArray) (Draws.list (by exact I.ok.hd hc) i2 b h2 its2.toArray) (Draws.list (by exact I.ok.hd hc) i3 c h3 its3.toArray), by simp, ⟨g1, g2, g3, ⟨g4, lp.isList⟩, ⟨g5, lp2.isList⟩, g6, lp3.isList⟩, ?_,
      fun h' q => ⟨q.1, q.2.1, q.2.2.1, q.2.2.2.1.1, q.2.2.2.2.1.1, q.2.2.2.2.2.1⟩, fun v h' ⟨T, x, y, u, ev, le, hP, hP2, hP3, tp'⟩ => ?_⟩⟩
    · first
        | (rw [if_pos rfl, List.size_toArray, List.size_toArray, List.size_toArray]; omega)
        | (rw [if_neg Bool.false_ne_true, List.size_toArray, List.size_toArray, List.size_toArray]; omega)
    · obtain ⟨x', e1, r1⟩ := val_at rv (i := i) (by simpa using hP)
      obtain ⟨y', e2, r2⟩ := val_at rv2 (i := i) (by simpa using hP2)
      obtain ⟨u', e3, r3⟩ := val_at rv3 (i := i) (by simpa using hP3)
      refine ⟨T, [x, y, u], [x', y', u'], ev, le, tp', .cons r1 (.cons r2 (.cons r3 .nil)), ⟨x', y', u', rfl, fun q hq => ?_, fun q hq => ?_, fun q hq => ?_⟩, Nat.le_of_ble_eq_true rfl⟩
      · rw [I.list_inj hq hx]
        exact e1
      · rw [I.list_inj hq hy]
        exact e2
      · rw [I.list_inj hq hz]
        exact e3
end
section
variable {T : Tb} {X : Cx} {Γ Γ1 Γ2 Γ3 : Ga} {e e2 e3 : Expr} {ds es fs : List PyData} {p pos tpos : Pos} {kk : Nat} {elts : List Expr}
def iZipLT (K : PySem.W.Frag) (ta : TA) : TI := fun σ H R => ta σ H fun vs H1 => ∃ a b xs ys, vs = [.ref a, .ref b] ∧ SqL K H1 a xs ∧ SqT K H1 b ys ∧ R (zipIt K a b) H1
theorem pi_zipLT {ta : TA} (hg : Gl X "zip") (hm : X.mg "zip" = none) (ha : PA X [e, e2] ta) (hs : starEach [e, e2] X.env = (false, eval e X.env) :: starEach [e2] X.env := by rfl) (hpl : (backTo pos (starEach [e2] X.env)).any (·.1) = false := by rfl) :
    PI X (.Tuple elts kk tpos) (.Call (.Name "zip" p) [e, e2] [] pos) (iZipLT X.K ta) := by
  refine ⟨fun pins s σ H R I h => Call_ (ld_blt I hg hm PyProof.Rows.boot_zip (PyProof.Rows.callWith_type1 (thn (ha.run pos pins s σ H _ I h) fun us s1 ⟨vs, H1, I1, r1, a, b, xs, ys, ev, hx, hy, q⟩ => ?_) hs hpl))⟩
  subst ev
  obtain ⟨u, v, rfl, ru, rv⟩ := r1.two
  cases ru
  cases rv
  obtain ⟨its, rv1, lp, _⟩ := I1.list hx
  obtain ⟨its2, rv2, tp, _⟩ := I1.tuple hy
  have l1 : a < s1.heap.objs.size := lp.lt
  have l2 : b < s1.heap.objs.size := by
    obtain ⟨o, ho, _⟩ := tp
    exact Heap.lt_size ho
  refine zip_begins2 (begins_list a its.toArray) (begins_tuple b its2.toArray) lp.isList tp fun h' hz hTI hTO g1 g2 hsz hk => wpAny_pyIter_zip hz ?_
  refine ⟨s1.heap.objs.size + 4, [s1.heap.objs.size + 4, s1.heap.objs.size + 2, s1.heap.objs.size + 3, s1.heap.objs.size, s1.heap.objs.size + 1], _, _, H1, rfl, I1.kept (t' := s1.toks) hk,
    turn_zipLT (zip_sep2 (fp1 := [a]) (fp2 := [b]) (fun d hd => by rw [List.mem_singleton.mp hd]; exact l1) (fun d hd => by rw [List.mem_singleton.mp hd]; exact l2)) (Nat.ne_of_lt l1) (Nat.ne_of_lt (Nat.lt_succ_of_lt l2)), ⟨hz, hTI, ⟨_, _, hTO⟩, ⟨_, g1, rfl, rfl⟩, ⟨_, g2, rfl, rfl⟩⟩, fun d hd => ?_, q⟩
  have hle : s1.heap.objs.size ≤ d := by
    have e' : d = s1.heap.objs.size + 4 ∨ d = s1.heap.objs.size + 2 ∨ d = s1.heap.objs.size + 3 ∨ d = s1.heap.objs.size ∨ d = s1.heap.objs.size + 1 := by simpa using hd
    rcases e' with z | z | z | z | z <;> rw [z] <;> first | exact Nat.le_add_right _ _ | exact Nat.le_refl _
  exact I1.fpOk hle (I1.hok.fresh hle)
def zipD (ds es : List PyData) : List PyData := (List.range ds.length).map fun i => .tuple [ds.getD i .none, es.getD i .none]
theorem zipD_get {i : Nat} {e : PyData} (he : ds.length = es.length) (h : (zipD ds es)[i]? = some e) : ∃ d d2, ds[i]? = some d ∧ es[i]? = some d2 ∧ e = .tuple [d, d2] := by
  unfold zipD at h
  rw [List.getElem?_map] at h
  by_cases hi : i < ds.length
  · rw [List.getElem?_range hi] at h
    cases h
    refine ⟨ds[i], es[i], List.getElem?_eq_getElem hi, List.getElem?_eq_getElem (by omega), ?_⟩
    simp [hi, show i < es.length by omega]
  · rw [List.getElem?_eq_none (by rw [List.length_range]; omega)] at h
    cases h
theorem zipD_len : (zipD ds es).length = ds.length := by
  unfold zipD
  rw [List.length_map, List.length_range]
theorem it_zipLT {K : PySem.W.Frag} {F : Hp} {a b : Addr} {xs ys : List V} (g : xs.length ≤ sizeLine) (h : SqL K F a xs) (h2 : SqT K F b ys) (t : DpAll K F xs ds) (t2 : DpAll K F ys es) (he : ds.length = es.length) (nt : ∀ d ∈ ds, thD d = false) : ItOk T K (zipIt K a b) F (zipD ds es) where
  few := by rw [zipD_len, ← dpa_len t]; exact g
  stop := fun i F1 H1 g s hi => ⟨xs, ys, sql_same (s.trans g.fh) h, sqt_same (s.trans g.fh) h2, by rw [dpa_len t, dpa_len t2, he], by rw [dpa_len t, ← zipD_len (es := es)]; exact hi⟩
  go := fun i F1 H1 g s hi => ⟨xs, ys, sql_same (s.trans g.fh) h, sqt_same (s.trans g.fh) h2, by rw [dpa_len t, dpa_len t2, he], by rw [dpa_len t, ← zipD_len (ds := ds) (es := es)]; exact hi⟩
  yld := fun i F1 H1 v H2 g s ⟨p, vs, e1, e2, e3, x, y, ev, hx, hy⟩ d hd => by
    obtain ⟨d1, d2, f1, f2, f3⟩ := zipD_get he hd
    subst e1 e3 ev f3
    obtain ⟨z, g1, g2⟩ := dpa_get t f1
    obtain ⟨z2, g3, g4⟩ := dpa_get t2 f2
    have q1 := hx xs (sql_same (s.trans g.fh) h)
    rw [g1] at q1
    cases q1
    have q2 := hy ys (sqt_same (s.trans g.fh) h2)
    rw [g3] at q2
    cases q2
    have th : thin [x, y] = false := by
      have e := thin_eq (K := K) (F := F) (.cons g2 (.cons g4 .nil))
      rw [e]
      exact thin_head (nt d1 (List.mem_of_getElem? f1))
    have n : Nx T NoM F1 H1 (upd F1 p (.tup _)) (upd H1 p (.tup _)) := Nx.newF g e2 (show OkO (.tup [x, y]) from ⟨two_fits, th⟩)
    exact ⟨_, n, dp_tup upd_same (.cons (dp_same (s.trans n.ff) g2) (.cons (dp_same (s.trans n.ff) g4) .nil))⟩
theorem di_zipLT (hm : X.mg "zip" = none) (ha : DE T X Γ e Γ1 (.list ds)) (hb : DE T X Γ1 e2 Γ2 (.tuple es)) (he : ds.length = es.length) (nt : ∀ d ∈ ds, thD d = false) (hg : Gl X "zip" := by rfl) (hs : starEach [e, e2] X.env = (false, eval e X.env) :: starEach [e2] X.env := by rfl) (hs2 : starEach [e2] X.env = (false, eval e2 X.env) :: starEach [] X.env := by rfl)
    (hpl : (backTo pos (starEach [e2] X.env)).any (·.1) = false := by rfl) : DI T X (.Tuple elts kk tpos) Γ (.Call (.Name "zip" p) [e, e2] [] pos) Γ2 (zipD ds es) := fun B =>
  pi_imp (pi_zipLT hg hm (pa_cons (ha B) (pa_cons (hb B) pa_nil hs2) hs) hs hpl) fun σ H R ⟨F, o, q⟩ => ⟨F, o, fun F1 H1 v o1 s1 r1 => ⟨F1, o1, fun F2 H2 v2 o2 s2 r2 => by
    cases r1 with
    | lst s t =>
      cases r2 with
      | tup s' t' => exact ⟨_, _, _, _, rfl, sql_same (s2.trans o2.gd.fh) s, sqt_same o2.gd.fh s', q F2 H2 _ o2 (s1.trans s2) (it_zipLT (o2.gd.sql (sql_same s2 s)) (sql_same s2 s) s' (dpa_same s2 t) t' he nt)⟩⟩⟩
def iZip3 (K : PySem.W.Frag) (ta : TA) : TI := fun σ H R => ta σ H fun vs H1 => ∃ a b c xs ys zs, vs = [.ref a, .ref b, .ref c] ∧ SqL K H1 a xs ∧ SqL K H1 b ys ∧ SqL K H1 c zs ∧ R (zipIt3 K a b c) H1
theorem vals3 {x y z : V} {us : List Value} (h : Vals [x, y, z] us) : ∃ u v t, us = [u, v, t] ∧ RelV x u ∧ RelV y v ∧ RelV z t := by
  cases h with
  | cons r h =>
    obtain ⟨u, v, rfl, r1, r2⟩ := Vals.two h
    exact ⟨_, _, _, rfl, r, r1, r2⟩
theorem pi_zip3 {ta : TA} (hg : Gl X "zip") (hm : X.mg "zip" = none) (ha : PA X [e, e2, e3] ta) (hs : starEach [e, e2, e3] X.env = (false, eval e X.env) :: starEach [e2, e3] X.env := by rfl) (hpl : (backTo pos (starEach [e2, e3] X.env)).any (·.1) = false := by rfl) :
    PI X (.Tuple elts kk tpos) (.Call (.Name "zip" p) [e, e2, e3] [] pos) (iZip3 X.K ta) := by
  refine ⟨fun pins s σ H R I h => Call_ (ld_blt I hg hm PyProof.Rows.boot_zip (PyProof.Rows.callWith_type1 (thn (ha.run pos pins s σ H _ I h) fun us s1 ⟨vs, H1, I1, r1, a, b, c, xs, ys, zs, ev, hx, hy, hz, q⟩ => ?_) hs hpl))⟩
  subst ev
  obtain ⟨u, v, t, rfl, ru, rv, rt⟩ := vals3 r1
  cases ru
  cases rv
  cases rt
  obtain ⟨its, rv1, lp, _⟩ := I1.list hx
  obtain ⟨its2, rv2, lp2, _⟩ := I1.list hy
  obtain ⟨its3, rv3, lp3, _⟩ := I1.list hz
  have l1 : a < s1.heap.objs.size := lp.lt
  have l2 : b < s1.heap.objs.size := lp2.lt
  have l3 : c < s1.heap.objs.size := lp3.lt
  refine zip_begins3 (begins_list a its.toArray) (begins_list b its2.toArray) (begins_list c its3.toArray) lp.isList lp2.isList lp3.isList fun h' hzz hTI hTO g1 g2 g3 hsz hk => wpAny_pyIter_zip hzz ?_
  refine ⟨s1.heap.objs.size + 5, [s1.heap.objs.size + 5, s1.heap.objs.size + 3, s1.heap.objs.size + 4, s1.heap.objs.size, s1.heap.objs.size + 1, s1.heap.objs.size + 2], _, _, H1, rfl, I1.kept (t' := s1.toks) hk,
    turn_zip3 (zip_sep3 (fp1 := [a]) (fp2 := [b]) (fp3 := [c]) (fun d hd => by rw [List.mem_singleton.mp hd]; exact l1) (fun d hd => by rw [List.mem_singleton.mp hd]; exact l2) (fun d hd => by rw [List.mem_singleton.mp hd]; exact l3)) (Nat.ne_of_lt l1) (Nat.ne_of_lt (Nat.lt_succ_of_lt l2)) (Nat.ne_of_lt (Nat.lt_succ_of_lt (Nat.lt_succ_of_lt l3))),
    ⟨hzz, hTI, ⟨_, _, _, hTO⟩, ⟨_, g1, rfl, rfl⟩, ⟨_, g2, rfl, rfl⟩, ⟨_, g3, rfl, rfl⟩⟩, fun d hd => ?_, q⟩
  have hle : s1.heap.objs.size ≤ d := by
    have e' : d = s1.heap.objs.size + 5 ∨ d = s1.heap.objs.size + 3 ∨ d = s1.heap.objs.size + 4 ∨ d = s1.heap.objs.size ∨ d = s1.heap.objs.size + 1 ∨ d = s1.heap.objs.size + 2 := by simpa using hd
    rcases e' with z | z | z | z | z | z <;> rw [z] <;> first | exact Nat.le_add_right _ _ | exact Nat.le_refl _
  exact I1.fpOk hle (I1.hok.fresh hle)
def zipD3 (ds es fs : List PyData) : List PyData := (List.range ds.length).map fun i => .tuple [ds.getD i .none, es.getD i .none, fs.getD i .none]
theorem zipD3_get {i : Nat} {e : PyData} (he : ds.length = es.length) (hf : ds.length = fs.length) (h : (zipD3 ds es fs)[i]? = some e) : ∃ d d2 d3, ds[i]? = some d ∧ es[i]? = some d2 ∧ fs[i]? = some d3 ∧ e = .tuple [d, d2, d3] := by
  unfold zipD3 at h
  rw [List.getElem?_map] at h
  by_cases hi : i < ds.length
  · rw [List.getElem?_range hi] at h
    cases h
    refine ⟨ds[i], es[i], fs[i], List.getElem?_eq_getElem hi, List.getElem?_eq_getElem (by omega), List.getElem?_eq_getElem (by omega), ?_⟩
    simp [hi, show i < es.length by omega, show i < fs.length by omega]
  · rw [List.getElem?_eq_none (by rw [List.length_range]; omega)] at h
    cases h
theorem zipD3_len : (zipD3 ds es fs).length = ds.length := by
  unfold zipD3
  rw [List.length_map, List.length_range]
theorem it_zip3 {K : PySem.W.Frag} {F : Hp} {a b c : Addr} {xs ys zs : List V} (g : xs.length ≤ sizeLine) (h : SqL K F a xs) (h2 : SqL K F b ys) (h3 : SqL K F c zs) (t : DpAll K F xs ds) (t2 : DpAll K F ys es) (t3 : DpAll K F zs fs) (he : ds.length = es.length) (hf : ds.length = fs.length) (nt : ∀ d ∈ ds, thD d = false) : ItOk T K (zipIt3 K a b c) F (zipD3 ds es fs) where
  few := by rw [zipD3_len, ← dpa_len t]; exact g
  stop := fun i F1 H1 g s hi => ⟨xs, ys, zs, sql_same (s.trans g.fh) h, sql_same (s.trans g.fh) h2, sql_same (s.trans g.fh) h3, by rw [dpa_len t, dpa_len t2, he], by rw [dpa_len t, dpa_len t3, hf], by rw [dpa_len t, ← zipD3_len (es := es) (fs := fs)]; exact hi⟩
  go := fun i F1 H1 g s hi => ⟨xs, ys, zs, sql_same (s.trans g.fh) h, sql_same (s.trans g.fh) h2, sql_same (s.trans g.fh) h3, by rw [dpa_len t, dpa_len t2, he], by rw [dpa_len t, dpa_len t3, hf], by rw [dpa_len t, ← zipD3_len (ds := ds) (es := es) (fs := fs)]; exact hi⟩
  yld := fun i F1 H1 v H2 g s ⟨p, vs, e1, e2, e3, x, y, z, ev, hx, hy, hz⟩ d hd => by
    obtain ⟨d1, d2, d3, f1, f2, f3, f4⟩ := zipD3_get he hf hd
    subst e1 e3 ev f4
    obtain ⟨z1, g1, g2⟩ := dpa_get t f1
    obtain ⟨z2, g3, g4⟩ := dpa_get t2 f2
    obtain ⟨z3, g5, g6⟩ := dpa_get t3 f3
    have q1 := hx xs (sql_same (s.trans g.fh) h)
    rw [g1] at q1
    cases q1
    have q2 := hy ys (sql_same (s.trans g.fh) h2)
    rw [g3] at q2
    cases q2
    have q3 := hz zs (sql_same (s.trans g.fh) h3)
    rw [g5] at q3
    cases q3
    have th : thin [x, y, z] = false := by
      have e := thin_eq (K := K) (F := F) (.cons g2 (.cons g4 (.cons g6 .nil)))
      rw [e]
      exact thin_head (nt d1 (List.mem_of_getElem? f1))
    have fit : (3 : Nat) ≤ sizeLine := by decide
    have n : Nx T NoM F1 H1 (upd F1 p (.tup _)) (upd H1 p (.tup _)) := Nx.newF g e2 (show OkO (.tup [x, y, z]) from ⟨fit, th⟩)
    exact ⟨_, n, dp_tup upd_same (.cons (dp_same (s.trans n.ff) g2) (.cons (dp_same (s.trans n.ff) g4) (.cons (dp_same (s.trans n.ff) g6) .nil)))⟩
theorem di_zip3 (hm : X.mg "zip" = none) (ha : DE T X Γ e Γ1 (.list ds)) (hb : DE T X Γ1 e2 Γ2 (.list es)) (hc : DE T X Γ2 e3 Γ3 (.list fs)) (he : ds.length = es.length) (hf : ds.length = fs.length) (nt : ∀ d ∈ ds, thD d = false) (hg : Gl X "zip" := by rfl) (hs : starEach [e, e2, e3] X.env = (false, eval e X.env) :: starEach [e2, e3] X.env := by rfl) (hs2 : starEach [e2, e3] X.env = (false, eval e2 X.env) :: starEach [e3] X.env := by rfl)
    (hs3 : starEach [e3] X.env = (false, eval e3 X.env) :: starEach [] X.env := by rfl) (hpl : (backTo pos (starEach [e2, e3] X.env)).any (·.1) = false := by rfl) : DI T X (.Tuple elts kk tpos) Γ (.Call (.Name "zip" p) [e, e2, e3] [] pos) Γ3 (zipD3 ds es fs) := fun B =>
  pi_imp (pi_zip3 hg hm (pa_cons (ha B) (pa_cons (hb B) (pa_cons (hc B) pa_nil hs3) hs2) hs) hs hpl) fun σ H R ⟨F, o, q⟩ => ⟨F, o, fun F1 H1 v o1 s1 r1 => ⟨F1, o1, fun F2 H2 v2 o2 s2 r2 => ⟨F2, o2, fun F3 H3 v3 o3 s3 r3 => by
    cases r1 with
    | lst s t =>
      cases r2 with
      | lst s' t' =>
        cases r3 with
        | lst s'' t'' =>
          have sa := sql_same (s2.trans s3) s
          have sb := sql_same s3 s'
          exact ⟨_, _, _, _, _, _, rfl, sql_same o3.gd.fh sa, sql_same o3.gd.fh sb, sql_same o3.gd.fh s'', q F3 H3 _ o3 ((s1.trans s2).trans s3) (it_zip3 (o3.gd.sql sa) sa sb s'' (dpa_same (s2.trans s3) t) (dpa_same s3 t') t'' he hf nt)⟩⟩⟩⟩
end
end Dd
end
section
/-! Dd21: a dict of the module with text keys. -/
namespace Dd
open PySem PySem.Spec PyProof.Rows L2
/-- at the name: a written dict that holds these -/
def KdAt (K : PySem.W.Frag) (w : World) (mg : Str → Option Value) (nm : Str) (kvs : List (Str × PyData)) : Prop :=
  ∃ a es n, mg nm = some (.ref a) ∧ KDict K w a es n ∧ ∀ q ∈ kvs, ∃ v u, PySem.W.nsIn K a q.1 = some (some u) ∧ RelV v u ∧ VD K v q.2
section
variable {T : Tb} {X : Cx} {Γ Γ1 : Ga} {a : Expr} {d : PyData} {pos p : Pos} {nm z : Str} {kvs : List (Str × PyData)}
theorem dt_notInKd (D : KdAt X.K X.w X.mg nm kvs) (ha : DE T X Γ a Γ1 (.str z)) (hq : (z, d) ∈ kvs) (hg : Gl X nm := by rfl) (hd : (nm == ("__debug__" : Str)) = false := by decide) : DT T X Γ (.Compare a [.NotIn] [.Name nm p] pos) Γ1 false := by
  obtain ⟨ad, es, n, hm, kd, hv⟩ := D
  obtain ⟨v, u, h1, h2, h3⟩ := hv _ hq
  exact fun B => pt_imp (pt_cmpR (op_notIn_kd kd) (ha B) (pe_glob hg hm (v := .ref ad) rfl hd) (by rfl)) fun σ H Q ⟨F, o, q⟩ => ⟨F, o, fun F1 H1 v1 o1 s1 r1 => by
    cases r1
    exact ⟨z, some u, rfl, rfl, h1, false, rfl, q F1 H1 o1 s1⟩⟩
theorem de_ixKd (D : KdAt X.K X.w X.mg nm kvs) (ha : DE T X Γ a Γ1 (.str z)) (hq : (z, d) ∈ kvs) (hg : Gl X nm := by rfl) (hd : (nm == ("__debug__" : Str)) = false := by decide) (hs : PlainIx a := by exact fun _ _ => rfl) : DE T X Γ (.Subscript (.Name nm p) a pos) Γ1 d := by
  obtain ⟨ad, es, n, hm, kd, hv⟩ := D
  obtain ⟨v, u, h1, h2, h3⟩ := hv _ hq
  exact fun B => pe_imp (pe_ix ix_kdict (pe_glob hg hm (v := .ref ad) rfl hd) (ha B) hs) fun σ H Q ⟨F, o, q⟩ => ⟨F, o, fun F1 H1 v1 o1 s1 r1 => by
    cases r1
    exact ⟨ad, z, v, rfl, rfl, ⟨es, n, u, kd.at_, kd.lit, h1, h2⟩, q F1 H1 v o1 s1 (h3 F1)⟩⟩
end
end Dd
end
section
/-! Dd22: a tuple whose object is known, in a slot. -/
namespace Dd
open PySem PySem.Spec PyProof.Rows L2
section
variable {T : Tb} {X : Cx} {Γ Γ1 Γ2 : Ga} {e a b c : Expr} {es : List Expr} {d d1 d2 : PyData} {ds : List PyData} {pos p p1 p2 apos cpos : Pos} {x : Str} {rest : List Stmt} {o : Out} {i : Nat} {ad : Addr}
/-- T, and the tuple at ad is known -/
def inK (T : Tb) (K : PySem.W.Frag) (ad : Addr) (ds : List PyData) : Tb := ⟨T.tabs, T.codes, fun F => T.caps F ∧ ∃ ob xs, F ad = some (.frz ob (.tup xs)) ∧ DpAll K F xs ds ∧ ob.dict = none, fun F F' s ⟨h1, ob, xs, h2, h3, h4⟩ => ⟨T.mono F F' s h1, ob, xs, s _ _ h2, dpa_same s h3, h4⟩⟩
theorem Gd.outK {K : PySem.W.Frag} {F H : Hp} (g : Gd (inK T K ad ds) F H) : Gd T F H := ⟨g.fh, g.nt, g.tb, g.sz, g.th, g.fz, g.cd, g.cp.1⟩
theorem Ok.outK {B : Bs} {F H : Hp} {σ : L2.St} (o : Ok (wd (inK T X.K ad ds) X) B Γ F σ H) : Ok (wd T X) B Γ F σ H := by
  refine ⟨⟨o.nx.ff, o.nx.hh, o.nx.dm, o.nx.out, o.nx.gd.outK⟩, o.len, fun i s e => ?_, o.ds⟩
  obtain ⟨v, h1, h2⟩ := o.sl i s e
  refine ⟨v, h1, ?_⟩
  cases s <;> exact h2
theorem Ok.inK {B : Bs} {F H : Hp} {σ : L2.St} (o : Ok (wd T X) B Γ F σ H) (h : ∃ ob xs, F ad = some (.frz ob (.tup xs)) ∧ DpAll X.K F xs ds ∧ ob.dict = none) : Ok (wd (Dd.inK T X.K ad ds) X) B Γ F σ H := by
  have g := o.nx.gd
  refine ⟨⟨o.nx.ff, o.nx.hh, o.nx.dm, o.nx.out, ⟨g.fh, g.nt, g.tb, g.sz, g.th, g.fz, g.cd, g.cp, h⟩⟩, o.len, fun i s e => ?_, o.ds⟩
  obtain ⟨v, h1, h2⟩ := o.sl i s e
  refine ⟨v, h1, ?_⟩
  cases s <;> exact h2
theorem OutOk.inK {B : Bs} {F : Hp} {D : Ends} (h : OutOk (wd T X) B F D o) : OutOk (wd (Dd.inK T X.K ad ds) X) B F D o := by
  cases o with
  | nx Γ' => exact fun F' σ' H' o' s' => h F' σ' H' o'.outK s'
  | ret Γ' d => exact fun F' σ' H' v o' s' r' => h F' σ' H' v o'.outK s' r'
/-- the reading of a block that covers all worlds with a known tuple -/
def uK (T : Tb) (X : Cx) (ds : List PyData) (B : Bs) (body : List Stmt) : TS := fun D σ H => ∃ ad Γ o, DSs (inK T X.K ad ds) X Γ body o ∧ tDS (wd (inK T X.K ad ds) X) B Γ o D σ H
theorem pss_uK {body : List Stmt} (B : Bs) : PSs X body (uK T X ds B body) := ⟨fun pins s σ H D I ⟨ad, Γ, o, h, q⟩ => (h B).run pins s σ H D I q⟩
/-- x = (.., ..), the tuple's object known behind -/
theorem dss_setK (i : Nat) {kk : Nat} (h : DA T X Γ es Γ1 ds) (hl : ds.length ≤ 100000) (hN : X.N.Nodup) (hr : ∀ ad, DSs (inK T X.K ad ds) X (Γ1.set i (.val (.ref ad))) rest o) (hi : X.N[i]? = some x := by rfl) (hx : Loc X.env.scope x := by first | exact Or.inl rfl | exact Or.inr rfl) (hs : swapsWith (.Tuple es kk p2) (some (.Name x p)) pos.line X.env = pure false := by rfl)
    (hf : X.fn x = true ∨ X.env.scope.names.lookup x = some .local := by first | exact .inl rfl | exact .inr rfl) : DSs T X Γ (.Assign [.Name x p] (.Tuple es kk p2) pos :: rest) o := fun B =>
  pss_imp (pss_cons (ps_set hN hi hx (pe_tupF (h B)) hs hf) (pss_uK (T := T) (ds := ds) B)) fun D σ H ⟨F, ok, q⟩ => ⟨F, ok, fun F' H' vs o' s' r' => by
    have hz : vs.length ≤ sizeLine := by
      rw [dpa_len r']
      exact Nat.le_trans hl (by decide)
    refine ⟨hz, fun ad ob hp hd => ?_⟩
    have n : Nx T NoM F' H' (upd F' ad (.frz ob (.tup vs))) (upd H' ad (.frz ob (.tup vs))) := Nx.newF o'.gd hp ⟨hz, hd⟩
    have o2 := (o'.next n).setVal (i := i) (v := .ref ad)
    exact ⟨ad, _, o, hr ad, _, o2.inK ⟨ob, vs, upd_same, dpa_same n.ff r', hd⟩, (q.mono (s'.trans n.ff)).inK⟩⟩
theorem de_nameK (i : Nat) (hN : X.N[i]? = some x := by rfl) (h : Γ[i]? = some (.val (.ref ad)) := by rfl) (hv : Vis X.env.scope x := by first | exact Or.inl rfl | exact Or.inr (Or.inl rfl) | exact Or.inr (Or.inr rfl)) (hd : (x == ("__debug__" : Str)) = false := by decide)
    (hcd : (x == ("__classdict__" : Str)) = false := by decide) : DE (inK T X.K ad ds) X Γ (.Name x pos) Γ (.tuple ds) := fun B => pe_imp (pe_var hN hv hd hcd) fun σ H Q ⟨F, o, k⟩ => by
  obtain ⟨w, h1, h2⟩ := o.sl i _ h
  have h2' : w = some (.ref ad) := h2
  subst h2'
  obtain ⟨ob, xs, g1, g2, g3⟩ := o.gd.cp.2
  exact ⟨.ref ad, h1, k F H _ o (Same.refl F) (dp_tupF g1 g2)⟩
/-- x.m(b), x's tuple known -/
theorem de_tupMK (i : Nat) {nm : Str} {id : String} {r : V → List V → Hp → VK → Prop} (pa : PlainAttrs "tuple") (slot : Slot "tuple" nm id) (hty : typeOf (.builtin id) = pure (.type "method_descriptor")) (hm : MtR X id r) (hb : DE (inK T X.K ad ds) X Γ b Γ2 d1)
    (hr : ∀ F H xs v (Q : VK), Gd (inK T X.K ad ds) F H → SqT X.K H ad xs → DpAll X.K F xs ds → Dp X.K F v d1 → (∀ F' H' v, Nx (inK T X.K ad ds) NoM F H F' H' → Dp X.K F' v d → Q v H') → r (.ref ad) [v] H Q)
    (hN : X.N[i]? = some x := by rfl) (h : Γ[i]? = some (.val (.ref ad)) := by rfl) (hv : Vis X.env.scope x := by first | exact Or.inl rfl | exact Or.inr (Or.inl rfl) | exact Or.inr (Or.inr rfl)) (hd : (x == ("__debug__" : Str)) = false := by decide)
    (hcd : (x == ("__classdict__" : Str)) = false := by decide)
    (hbase : attributeBase (.Name x p1) nm X.env (eval (.Name x p1) X.env) = eval (.Name x p1) X.env := by rfl)
    (hfew : ((backTo cpos (starEach [b] X.env)).all (fun x => !x.1) && (backToKw cpos (keywordEach [] X.env)).all (fun x => x.1.isSome) && decide ([b].length + ([] : List Keyword).length + (if ([] : List Keyword).isEmpty then 0 else 1) < 30)) = true := by rfl)
    (hline : (apos.endLine == cpos.line) = true := by rfl) (hs : starEach [b] X.env = (false, eval b X.env) :: starEach [] X.env := by rfl) (hplain : (backTo cpos (starEach [] X.env)).any (·.1) = false := by rfl) :
    DE (inK T X.K ad ds) X Γ (.Call (.Attribute (.Name x p1) nm apos) [b] [] cpos) Γ2 d := fun B => ⟨fun pins s σ H Q I ⟨F, o, q⟩ => by
  refine wpAny_Call_method_late hbase hfew hline rfl (thn ((pe_var (pos := p1) hN hv hd hcd).run pins s σ H (fun v H2 => v = .ref ad ∧ H2 = H) I ?_) fun u s1 ⟨y, H1, I1, rx, e1, e2⟩ => ?_)
  · obtain ⟨w, h1, h2⟩ := o.sl i _ h
    have h2' : w = some (.ref ad) := h2
    subst h2'
    exact ⟨_, h1, rfl, rfl⟩
  · subst e1 e2
    cases rx
    obtain ⟨ob, xs, g1, g2, g3⟩ := o.gd.cp.2
    have g1' := o.gd.fh _ _ g1
    obtain ⟨e1, _, its, _, o2, e2, e3, _⟩ := I1.hok ad _ g1'
    rw [e1] at e2
    cases e2
    refine ⟨"tuple", id, pa, slot, hty, ⟨ob, e1, e3⟩, fun bb eb => ?_, ?_⟩
    · cases eb
      exact ⟨ob, e1, g3⟩
    · have hA := (pa_cons (hb B) pa_nil hs).run cpos pins s1 σ H1 (fun vs H3 => ∃ F3 v1, vs = [v1] ∧ Ok (wd (Dd.inK T X.K ad ds) X) B Γ2 F3 σ H3 ∧ Same F F3 ∧ Dp X.K F3 v1 d1) I1 ⟨F, o, fun F2 H2 v1 o2 sf2 r1 => ⟨F2, v1, rfl, o2, sf2, r1⟩⟩
      rw [hs] at hA ⊢
      refine Calls.callWith_builtin (by show (false || (backTo cpos (starEach [] X.env)).any (·.1)) = false; rw [hplain] <;> rfl) (Calls.evalArgs_plain ?_)
      refine thn hA fun us s3 ⟨vs, H3, I3, r3, F3, v1, ev, o3, sf3, dv⟩ => ?_
      subst ev
      refine hm pins s3 σ H3 (.ref ad) [v1] (.ref ad) us Q I3 rfl r3 (hr F3 H3 xs v1 Q o3.gd (.inl (.inr ⟨ob, o3.gd.fh _ _ (sf3 _ _ g1)⟩)) (dpa_same sf3 g2) dv fun F' H' v n r' => q F' H' v (o3.next n) (sf3.trans n.ff) r')⟩
/-- t.count(x) by data -/
def rCountD (K : PySem.W.Frag) : V → List V → Hp → VK → Prop := fun x xs H Q => ∃ (l : Addr) (ys : List V) (ds : List PyData) (v : V) (d : PyData), x = .ref l ∧ xs = [v] ∧ SqT K H l ys ∧ DpAll K H ys ds ∧ Dp K H v d ∧ PyData.plainAll ds = true ∧ d.plain = true ∧ d.depth = 0 ∧ Q (.int ((ds.countP fun y => PyData.eqv y d : Nat) : Int)) H
theorem mt_countD (hu : X.A.units + 64 < cLine) : MtR X "tuple.count" (rCountD X.K) := by
  intro pins s σ H x xs v us Q I rx rxs h
  obtain ⟨l, ys, ds, v1, d, rfl, rfl, hs, ha, hd, pl, pd, dp, q⟩ := h
  cases rx
  obtain ⟨u, rfl, ru⟩ := rxs.one
  obtain ⟨its, rv, it, _⟩ := I.tuple hs
  obtain ⟨as, r1⟩ := Dp.readsAll I ds ys its ha rv
  obtain ⟨bs, r2⟩ := Dp.reads I d v1 u hd ru
  refine SeqAt.count_tuple_data (xs := ds) (d := d) it (by simpa using r1) r2 pl pd ?_ ⟨.int _, H, I.tok _, ⟨_, rfl⟩, q⟩
  rw [dp]
  omega
theorem de_countK (i : Nat) (hu : X.A.units + 64 < cLine) (pl : PyData.plainAll ds = true) (pd : d1.plain = true) (dp : d1.depth = 0) (hb : DE (inK T X.K ad ds) X Γ b Γ2 d1)
    (hN : X.N[i]? = some x := by rfl) (h : Γ[i]? = some (.val (.ref ad)) := by rfl) (hv : Vis X.env.scope x := by first | exact Or.inl rfl | exact Or.inr (Or.inl rfl) | exact Or.inr (Or.inr rfl)) (hd : (x == ("__debug__" : Str)) = false := by decide)
    (hcd : (x == ("__classdict__" : Str)) = false := by decide)
    (hbase : attributeBase (.Name x p1) "count" X.env (eval (.Name x p1) X.env) = eval (.Name x p1) X.env := by rfl)
    (hfew : ((backTo cpos (starEach [b] X.env)).all (fun x => !x.1) && (backToKw cpos (keywordEach [] X.env)).all (fun x => x.1.isSome) && decide ([b].length + ([] : List Keyword).length + (if ([] : List Keyword).isEmpty then 0 else 1) < 30)) = true := by rfl)
    (hline : (apos.endLine == cpos.line) = true := by rfl) (hs : starEach [b] X.env = (false, eval b X.env) :: starEach [] X.env := by rfl) (hplain : (backTo cpos (starEach [] X.env)).any (·.1) = false := by rfl) :
    DE (inK T X.K ad ds) X Γ (.Call (.Attribute (.Name x p1) "count" apos) [b] [] cpos) Γ2 (.int ((ds.countP fun y => PyData.eqv y d1 : Nat) : Int)) :=
  de_tupMK i PySem.F.plainAttrs_tuple PySem.F.slot_tuple_count PySem.F.type_tuple_count (mt_countD hu) hb (fun F H xs v Q g sq da dv q => ⟨ad, xs, ds, v, d1, rfl, rfl, sq, dpa_same g.fh da, dp_same g.fh dv, pl, pd, dp, q F H _ (Nx.refl g) (.int _)⟩) hN h hv hd hcd hbase hfew hline hs hplain
end
end Dd
end
section
/-! Dd23: an item set; a list made longer; a tuple turned round. -/
namespace Dd
open PySem PySem.Spec PyProof.Rows L2
section
variable {T : Tb} {X : Cx} {Γ Γ1 Γ2 : Ga} {e a b c val : Expr} {es : List Expr} {d d1 d2 : PyData} {ds zs : List PyData} {pos p p1 p2 p3 apos cpos : Pos} {x y : Str} {w : Option Addr} {i : Nat}
/-- xs[j] = v -/
theorem ds_setIx {j : Int} {n : Nat} (r : Rn X i y) (hv : DE T X Γ val Γ1 d) (hi : Γ1[i]? = some (.lst w ds)) (hj : DE T X Γ1 e Γ1 (.int j)) (hn : ixN ds.length j = some n)
    (hs : swapsWithSole [.Subscript (.Name y p1) e p2] val pos.line X.env = pure false := by rfl) (hw : swappedStores [.Subscript (.Name y p1) e p2] val X.env = pure none := by rfl)
    (h1 : (assignEach [.Subscript (.Name y p1) e p2] X.env).map (·.2) = [assign (.Subscript (.Name y p1) e p2) X.env] := by rfl)
    (ha : ∀ v, assign (.Subscript (.Name y p1) e p2) X.env v = (do
      let ov ← holding [v] (eval (.Name y p1) X.env)
      let iv ← holding [v, ov] (eval e X.env)
      standAt p2
      holding [v, ov, iv] (setItem ov iv v)
      release [v, ov, iv] []) := by intro _; rfl) :
    DS T X Γ (.Assign [.Subscript (.Name y p1) e p2] val pos) (.nx (Γ1.set i (.lst w (ds.set n d)))) := fun B =>
  ps_imp (ps_asg (hv B) (pg_sub r.pe (hj B) set_list ha) hs hw h1) fun D σ H ⟨F, o, q⟩ => ⟨F, o, fun F1 H1 v o1 s1 r1 => by
    obtain ⟨u, g1, ad, xs, g2, _⟩ := o1.sl i _ hi
    subst g2
    refine ⟨_, g1, F1, o1, fun F2 H2 u2 o2 s2 r2 => ?_⟩
    cases r2
    obtain ⟨u3, k1, ad2, xs2, k2, ⟨k3, k3'⟩, k4, k5, k6⟩ := o2.sl i _ hi
    subst k2
    rw [g1] at k1
    cases k1
    refine ⟨ad, xs2, j, n, rfl, rfl, k4, by rw [dpa_len k5]; exact hn, ?_⟩
    have hz : (xs2.set n v).length ≤ sizeLine := by
      rw [List.length_set]
      exact o2.gd.sz ad xs2 (.inl (.inl k4))
    have nx : Nx T (fun b => b = ad) F2 H2 F2 (upd H2 ad (.lst (xs2.set n v))) := Nx.set o2.gd rfl k4 (fun ps z => by cases z) (fun q z => by unfold LamX.CodeO at z; cases z) k3 (show OkO (.lst (xs2.set n v)) from hz)
    exact q F2 σ _ (o2.cell hi rfl g1 nx ⟨ad, _, rfl, ⟨k3, k3'⟩, upd_same, dpa_set n k5 (dp_same s2 r1), k6⟩) (s1.trans s2)⟩
/-- xs.extend(ys), ys any list -/
def rExtA (K : PySem.W.Frag) : V → List V → Hp → VK → Prop := fun x vs H Q => ∃ l b xs zs, x = .ref l ∧ vs = [.ref b] ∧ H l = some (.lst xs) ∧ SqL K H b zs ∧ xs.length + zs.length ≤ sizeLine ∧ Q .non (upd H l (.lst (xs ++ zs)))
theorem extend_any (l : Addr) (items : Array Value) (n : Nat) (b : Addr) (items2 : Array Value) (n2 : Nat) (sl : Array (Option Value)) (hc0 : ¬(!items.isEmpty && Builtin.List.listTooLong (items.size + items2.size)) = true) (hc1 : items.size ≤ sizeLine) (hs2 : items.size + items2.size ≤ sizeLine + 1) :
    Meets (Builtin.«list.extend» ⟨[.ref l, .ref b], []⟩) (fun _ R s => s.heap.get? l = some { cls := .type "list", dict := none, data := .seq items n, slots := #[] } ∧ s.heap.get? b = some { cls := .type "list", dict := none, data := .seq items2 n2, slots := sl } ∧ R (.ok (.ret Value.none)) { s with heap := s.heap.update l (Obj.mapSeq fun x => x ++ items2), toks := s.toks }) :=
  .of_wp fun prog w A R s h => by
    obtain ⟨hp, g, d, tk, os⟩ := s; obtain ⟨hl, hb, h⟩ := h
    have f1 := AutoSeq1.idx_int
    have f3 := AutoSeq1.sub_list_list
    have hz' : (items ++ items2).size ≤ sizeLine + 1 := by rw [Array.size_append]; exact hs2
    wp_walk using (wpAny_updateSeq hl rfl (hz := hc1) (_hz' := hz')), AutoSeq1.wpAny_loadPart' hl, AutoSeq1.wpAny_loadPart' hb
    exact ⟨_, rfl, h⟩
theorem mt_extendA : MtM X "list.extend" (rExtA X.K) := by
  intro pins s σ H x vs v us Q I rx rv ⟨l, b, xs, zs, ex, ev, hH, hB, hz, q⟩
  subst ex ev
  cases rx
  obtain ⟨u, eu, ru⟩ := rv.one
  subst eu
  cases ru
  obtain ⟨z, its, n, r, hl, e⟩ := I.lstM hH
  obtain ⟨its2, r2, ⟨⟨cls, dd, data, sl⟩, n2, ho, hc, hdn, hd⟩, _⟩ := I.list hB
  simp only at hc hdn hd
  subst hc hdn hd
  have k1 : its.toArray.size = xs.length := by rw [List.size_toArray]; exact r.length.symm
  have k2 : its2.toArray.size = zs.length := by rw [List.size_toArray]; exact r2.length.symm
  have hsz : its.toArray.size + its2.toArray.size ≤ sizeLine := by omega
  refine call_meets F.slot_list_extend ⟨_, e, rfl⟩ F.entry_list_extend (F.args_list_extend_2 _ _) (extend_any l its.toArray n b its2.toArray n2 sl (by rw [notLongL hsz, Bool.and_false]; exact Bool.false_ne_true) (by omega) (by omega)) ⟨e, ho, ?_⟩
  exact ⟨.non, _, I.lset (its' := its ++ its2) hH e (by simp) (r.append r2) (by rw [List.length_append]; omega), rfl, q⟩
/-- xs.extend(e) -/
theorem ds_ext (r : Rn X i y) (hi : Γ[i]? = some (.lst w ds)) (he : DE T X Γ e Γ1 (.list zs)) (hi1 : Γ1[i]? = some (.lst w ds)) (hl : ds.length + zs.length ≤ 100000)
    (hbase : attributeBase (.Name y p1) "extend" X.env (eval (.Name y p1) X.env) = eval (.Name y p1) X.env := by rfl)
    (hfew : ((backTo cpos (starEach [e] X.env)).all (fun x => !x.1) && (backToKw cpos (keywordEach [] X.env)).all (fun x => x.1.isSome) && decide ([e].length + ([] : List Keyword).length + (if ([] : List Keyword).isEmpty then 0 else 1) < 30)) = true := by rfl)
    (hline : (apos.endLine == cpos.line) = true := by rfl) (hs : starEach [e] X.env = (false, eval e X.env) :: starEach [] X.env := by rfl) (hplain : (backTo cpos (starEach [] X.env)).any (·.1) = false := by rfl)
    (hsw : swapsWith (.Call (.Attribute (.Name y p1) "extend" apos) [e] [] cpos) none pos.line X.env = pure false := by rfl) :
    DS T X Γ (.Expr (.Call (.Attribute (.Name y p1) "extend" apos) [e] [] cpos) pos) (.nx (Γ1.set i (.lst w (ds ++ zs)))) := fun B =>
  ps_imp (ps_expr (pe_bm PySem.F.plainAttrs_list PySem.F.slot_list_extend PySem.F.type_list_extend mt_extendA r.pe (pa_cons (he B) pa_nil hs) hbase hfew hline hs hplain) hsw) fun D σ H ⟨F, o, q⟩ => by
    obtain ⟨v, h1, ad, xs, h2, h3, h4, h5, h6⟩ := o.sl i _ hi
    subst h2
    refine ⟨_, h1, .inl ⟨rfl, xs, SqL.of h4⟩, F, o, fun F' H' u o' s' r' => ?_⟩
    obtain ⟨v2, g1, ad2, xs2, g2, ⟨g3, g3'⟩, g4, g5, g6⟩ := o'.sl i _ hi1
    subst g2
    rw [h1] at g1
    cases g1
    cases r' with
    | lst sq t =>
      rename_i b us
      have big : 100000 ≤ sizeLine := by decide
      have hz : xs2.length + us.length ≤ sizeLine := by
        rw [dpa_len g5, dpa_len t]
        omega
      refine ⟨ad, b, xs2, us, rfl, rfl, g4, sql_same o'.gd.fh sq, hz, ?_⟩
      have n : Nx T (fun b => b = ad) F' H' F' (upd H' ad (.lst (xs2 ++ us))) := Nx.set o'.gd rfl g4 (fun ps z => by cases z) (fun q z => by unfold LamX.CodeO at z; cases z) g3 (show OkO (.lst (xs2 ++ us)) from (by
        show (xs2 ++ us).length ≤ sizeLine
        rw [List.length_append]
        exact hz))
      exact q F' σ _ (o'.cell hi1 rfl h1 n ⟨ad, _, rfl, ⟨g3, g3'⟩, upd_same, dpa_append g5 t, g6⟩) s'
/-! ### t[::-1], two items -/
section
variable {prog : Program} {wo : World} {A : Around} {E : Value → Shared → Prop} {s : Shared}
theorem rev_item {t sl : Addr} {u v vs : Value} {Q : Value → Shared → Prop} (ht : IsTup s.heap t #[u, v]) (hs : s.heap.IsSliceOf sl .none .none vs) (pv : IsPart vs (some (-1)))
    (h : Q (.ref s.heap.objs.size) { s with heap := s.heap.push { cls := .type "tuple", data := .seq #[v, u] } }) : wpAny (model prog wo) A (getItem (.ref t) (.ref sl)) Q E s := by
  have fit : sizeOk (.seq #[v, u]) := show (2 : Nat) ≤ sizeLine by decide
  obtain ⟨os, hos, hcs, hds⟩ := id hs
  have hty : s.TypeIs (.ref sl) "slice" := ⟨os, hos, hcs⟩
  obtain ⟨k, hk⟩ : ∃ tk, vs = .int (-1) tk := by
    cases pv
    exact ⟨_, rfl⟩
  subst hk
  unfold getItem
  try with_reducible refine wpAny_holding ?_
  first | refine wpAny_bind (wpAny_pure ?_) | skip
  refine wpAny_bind (wpAny_sequenceKey ht.typeIs (by decide) (wpAny_bind (wpAny_callSpecial?_slot (name := Str.ofString "__getitem__") ht.typeIs PyProof.Rows.slot_tuple_getitem
    (wpAny_call_entry PyProof.Rows.slot_tuple_getitem ht.typeIs entry_tuple_getitem ?_ (args_tuple_getitem _ _)))))
  show wpAny _ _ (Builtin.Tuple.tupleItemsOf (.ref t) >>= _) _ _ s
  refine wpAny_bind (tupleItemsOf_ ht (wpAny_bind (wpAny_typeOf hty ?_)))
  rw [if_pos (by decide)]
  refine wpAny_bind ?_
  · unfold Builtin.Slice.sliceApplied Builtin.Slice.sliceFields
    refine wpAny_bind (wpAny_bind (wpAny_field hos hds (x := .none) rfl (wpAny_bind (wpAny_field hos hds (x := .none) rfl (wpAny_bind (wpAny_field hos hds (x := .int (-1) k) rfl (wpAny_pure ?_)))))))
    refine wpAny_bind (slicePart_int ?_)
    show wpAny _ _ (if ((-1 : Int) == 0) = true then _ else _) _ _ s
    rw [if_neg (by decide)]
    refine wpAny_bind (slicePart_none (wpAny_bind (slicePart_none (wpAny_bind (wpAny_pure ?_)))))
    have e1 : Builtin.Slice.sliceAdjust none none ((some (-1 : Int)).getD 1) ((#[u, v] : Array Value).size : Int) = (1, -1) := by
      simp [Builtin.Slice.sliceAdjust]
    have e2 : Builtin.Slice.slicePlaces 1 (-1) (-1) = 2 := by decide
    rw [e1]
    show wpAny _ _ (pure ((1 : Int), (-1 : Int), Builtin.Slice.slicePlaces 1 (-1) (-1))) _ _ s
    rw [e2]
    refine wpAny_pure ?_
    show wpAny _ _ (if (((1 : Int) == 0) && ((-1 : Int) == 1) && ((2 : Nat) == 2)) = true then _ else _) _ _ s
    rw [if_neg (by decide)]
    have ea : ((List.range 2).filterMap fun (m : Nat) => (#[u, v] : Array Value)[((1 : Int) + (m : Int) * -1).toNat]?).toArray = #[v, u] := rfl
    rw [ea]

    first
      | exact wpAny_bind (m := Builtin.Tuple.tupleExact _) (wpAny_newObj_type (s := s) (wpAny_pure ⟨_, rfl, wpAny_pure h⟩) fit)
      | exact wpAny_bind (m := Builtin.Tuple.tupleExact _) (wpAny_newObj_type (s := s) (wpAny_bind (wpAny_pure (wpAny_pure ⟨_, rfl, wpAny_pure h⟩))) fit)
      | exact wpAny_bind (wpAny_bind (m := Builtin.Tuple.tupleExact _) (wpAny_newObj_type (s := s) (wpAny_pure (wpAny_pure ⟨_, rfl, wpAny_pure h⟩)) fit))
      | exact wpAny_bind (wpAny_bind (m := Builtin.Tuple.tupleExact _) (wpAny_newObj_type (s := s) (wpAny_pure ⟨_, rfl, wpAny_pure h⟩) fit))
end
/-- t[::-1], two items; the object known -/
def tRevT (K : PySem.W.Frag) (te : TE) : TE := fun σ H Q => te σ H fun x H1 => ∃ a v1 v2, x = .ref a ∧ SqT K H1 a [v1, v2] ∧ ∀ p o, H1 p = none → o.dict = none → Q (.ref p) (upd H1 p (.frz o (.tup [v2, v1])))
theorem pe_revT {te : TE} {k : Nat} {q1 q2 q3 : Pos} (he : PE X e te) : PE X (.Subscript e (.Slice none none (some (.UnaryOp .USub (.Constant (.int 1) k q1) q2)) q3) pos) (tRevT X.K te) := by
  refine ⟨fun pins s σ H Q I h => Subscript_ (thn (he.run pins s σ H _ I h) fun v s1 ⟨x, H1, I1, r1, a, v1, v2, ex, hx, q⟩ => ?_)⟩
  subst ex
  cases r1
  have step : PO X (some (.UnaryOp .USub (.Constant (.int 1) k q1) q2)) (tPart (tUn (rU fun i => .int (-i)) (tC (.int 1)))) := po_some (pe_un un_neg pe_int)
  refine wpAny_Slice (thn (po_none.run pins s1 σ H1 (fun o H2 => o = none ∧ H2 = H1) I1 ⟨rfl, rfl⟩) fun vl s2 ⟨l, H2, I2, pl, el, e2⟩ => thn (po_none.run pins s2 σ H2 (fun o H3 => o = none ∧ H3 = H2) I2 ⟨rfl, rfl⟩) fun vu s3 ⟨u, H3, I3, pu, eu, e3⟩ =>
    thn (step.run pins s3 σ H3 (fun o H4 => o = some (-1) ∧ H4 = H3) I3 ⟨1, rfl, -1, rfl, rfl, rfl⟩) fun vs s4 ⟨o, H4, I4, ps, eo, e4⟩ => ?_)
  subst el e2 eu e3 eo e4
  cases pl
  cases pu
  have I5 : Inv X pins σ H4 { s4 with heap := s4.heap.push { cls := .type "slice", data := .fields #[.none, .none, vs] } } := I4.kept (t' := s4.toks) fun b ob z => Heap.get?_push_of_some _ z
  obtain ⟨its, r, ht, hz⟩ := I5.tuple hx
  obtain ⟨u1, u2, ei, ru1, ru2⟩ : ∃ u1 u2, its = [u1, u2] ∧ RelV v1 u1 ∧ RelV v2 u2 := by
    cases r with
    | cons a1 r =>
      cases r with
      | cons a2 r =>
        cases r
        exact ⟨_, _, rfl, a1, a2⟩
  subst ei
  show wpAny (model X.prog X.w) X.A (subscriptTail e (.Slice none none (some (.UnaryOp .USub (.Constant (.int 1) k q1) q2)) q3) (.ref a) (.ref s4.heap.objs.size)) (EP X pins σ Q) X.xe { s4 with heap := s4.heap.push { cls := .type "slice", data := .fields #[.none, .none, vs] } }
  refine tail_any (ops := [.ref a, .ref s4.heap.objs.size]) ht.typeIs PyProof.Rows.slot_tuple_getitem.lookup (rev_item ht (Heap.IsSliceOf.new _ .none .none vs) ps ?_) (by with_unfolding_all rfl)
  refine ⟨.ref _, _, I5.laid (o := .frz { cls := .type "tuple", data := .seq #[u2, u1] } (.tup [v2, v1])) (t' := s4.toks) (fun b ob z => Heap.get?_push_of_some _ z) (Nat.le_refl _) ?_, rfl, q _ _ (I5.hok.fresh (Nat.le_refl _)) rfl⟩
  exact ⟨Heap.get?_push_size _ rfl, show (2 : Nat) ≤ sizeLine by decide, [u2, u1], .cons ru2 (.cons ru1 .nil), ⟨_, Heap.get?_push_size _ rfl, rfl, _, rfl⟩⟩
theorem de_rev {k : Nat} {q1 q2 q3 : Pos} (he : DE T X Γ e Γ1 (.tuple [d1, d2])) : DE T X Γ (.Subscript e (.Slice none none (some (.UnaryOp .USub (.Constant (.int 1) k q1) q2)) q3) pos) Γ1 (.tuple [d2, d1]) := fun B =>
  pe_imp (pe_revT (he B)) fun σ H Q ⟨F, o, q⟩ => ⟨F, o, fun F1 H1 v o1 s1 r1 => by
    cases r1 with
    | tup sq t =>
      cases t with
      | cons t1 t =>
        cases t with
        | cons t2 t =>
          cases t
          rename_i a x1 x2
          refine ⟨a, x1, x2, rfl, sqt_same o1.gd.fh sq, fun p ob hp hd => ?_⟩
          have n : Nx T NoM F1 H1 (upd F1 p (.frz ob (.tup [x2, x1]))) (upd H1 p (.frz ob (.tup [x2, x1]))) := Nx.newF o1.gd hp ⟨show (2 : Nat) ≤ sizeLine by decide, hd⟩
          exact q _ _ _ (o1.next n) (s1.trans n.ff) (dp_tupF upd_same (dpa_same n.ff (.cons t2 (.cons t1 .nil))))⟩
end
end Dd
end
section
/-! Dd24: a tuple of one item, once or not at all. -/
namespace Dd
open PySem PySem.Spec PyProof.Rows L2
theorem mul_once (l : Addr) (it : Value) (n : Nat) (dd : Option Addr) (sl : Array (Option Value)) (t : Tok) :
    Meets (Builtin.«tuple.__mul__» ⟨[.ref l, .int 1 t], []⟩) (fun _ R s => s.heap.get? l = some { cls := .type "tuple", dict := dd, data := .seq #[it] n, slots := sl } ∧ R (.ok (.ret (.ref l))) s) :=
  .of_wp fun prog w A R s h => by
    obtain ⟨hp, g, d, tk, os⟩ := s
    obtain ⟨hl, h⟩ := h
    have f1 := AutoSeq1.idx_int
    wp_walk using AutoSeq1.wpAny_loadPart' hl
    exact ⟨_, rfl, h⟩
theorem mul_none (l : Addr) (it : Value) (n : Nat) (dd : Option Addr) (sl : Array (Option Value)) (t : Tok) :
    Meets (Builtin.«tuple.__mul__» ⟨[.ref l, .int 0 t], []⟩) (fun _ R s => s.heap.get? l = some { cls := .type "tuple", dict := dd, data := .seq #[it] n, slots := sl } ∧ R (.ok (.ret (.ref s.heap.objs.size))) { s with heap := s.heap.push { cls := .type "tuple", data := .seq #[] }, toks := s.toks }) :=
  .of_wp fun prog w A R s h => by
    obtain ⟨hp, g, d, tk, os⟩ := s
    obtain ⟨hl, h⟩ := h
    have f1 := AutoSeq1.idx_int
    wp_walk using AutoSeq1.wpAny_loadPart' hl
    exact ⟨_, rfl, h⟩
/-- t * k, t of one item, k 0 or 1 -/
def rMul1 (K : PySem.W.Frag) (k : Bool) : R2 := fun x y H Q => ∃ l v, x = .ref l ∧ y = .int (if k then 1 else 0) ∧ SqT K H l [v] ∧ (if k then Q (.ref l) H else ∀ p, H p = none → Q (.ref p) (upd H p (.tup [])))
section
variable {T : Tb} {X : Cx} {Γ Γ1 Γ2 : Ga} {a b : Expr} {d : PyData} {pos : Pos} {k : Bool}
theorem op_mul1 : OpR X (binaryOp .Mult) (rMul1 X.K k) := by
  intro pins s σ H x y v u Q I rx ry ⟨l, v1, ex, ey, hT, q⟩
  subst ex ey
  cases rx
  obtain ⟨t, rfl⟩ := ry
  obtain ⟨its, r, ⟨⟨cls, dd, data, sl⟩, ho, hc, n, hd⟩, hs⟩ := I.tuple hT
  simp only at hc hd
  subst hc hd
  obtain ⟨u1, eu, ru⟩ := r.one
  subst eu
  cases k with
  | true =>
    show wpAny (model X.prog X.w) X.A (binaryOp Operator.Mult (Value.ref l) (Value.int 1 t)) (EP X pins σ Q) X.xe s
    exact wpAny_binaryOp_repeat_ref (T := "tuple") (U := "int") (by decide) ⟨_, ho, rfl⟩ (fun s' => typeIs_int s' 1 t)
      noFill_tuple_mul F.fills_int_mul F.slot_int_rmul repeat_tuple F.slot_int_index.lookup (call_meets F.slot_int_rmul (typeIs_int s 1 t)
        F.entry_int_rmul (F.args_int_rmul_2 _ _) (int_rmul_tuple 1 t l #[u1] n dd sl) ⟨ho, rfl, ⟨_, ho, rfl⟩, call_meets F.slot_tuple_mul ⟨_, ho, rfl⟩ F.entry_tuple_mul (F.args_tuple_mul_2 _ _) (mul_once l u1 n dd sl t) ⟨ho, .ref l, H, I, rfl, q⟩⟩)
  | false =>
    show wpAny (model X.prog X.w) X.A (binaryOp Operator.Mult (Value.ref l) (Value.int 0 t)) (EP X pins σ Q) X.xe s
    refine wpAny_binaryOp_repeat_ref (T := "tuple") (U := "int") (by decide) ⟨_, ho, rfl⟩ (fun s' => typeIs_int s' 0 t)
      noFill_tuple_mul F.fills_int_mul F.slot_int_rmul repeat_tuple F.slot_int_index.lookup (call_meets F.slot_int_rmul (typeIs_int s 0 t)
        F.entry_int_rmul (F.args_int_rmul_2 _ _) (int_rmul_tuple 0 t l #[u1] n dd sl) ⟨ho, rfl, ⟨_, ho, rfl⟩, call_meets F.slot_tuple_mul ⟨_, ho, rfl⟩ F.entry_tuple_mul (F.args_tuple_mul_2 _ _) (mul_none l u1 n dd sl t) ⟨ho, .ref s.heap.objs.size, _, I.laid (t' := s.toks) (o := .tup []) (fun b ob z => Heap.get?_push_of_some _ z) (Nat.le_refl _) ?_, rfl, q _ (I.hok.fresh (Nat.le_refl _))⟩⟩)
    exact ⟨Nat.zero_le _, [], .nil, IsTup.new _ _⟩
theorem de_mul1 (ha : DE T X Γ a Γ1 (.tuple [d])) (hb : DE T X Γ1 b Γ2 (.int (if k then 1 else 0))) : DE T X Γ (.BinOp a .Mult b pos) Γ2 (.tuple (if k then [d] else [])) :=
  de_op (op_mul1 (k := k)) ha hb fun F H v1 v2 Q g r1 r2 q => by
    cases r2
    cases r1 with
    | tup sq t =>
      cases t with
      | cons t1 t =>
        cases t
        refine ⟨_, _, rfl, rfl, sqt_same g.fh sq, ?_⟩
        cases k with
        | true => exact q F H _ (Nx.refl g) (.tup sq (.cons t1 .nil))
        | false => exact fun p hp => q _ _ _ (Nx.newF g hp (show OkO (.tup []) from ⟨Nat.zero_le _, rfl⟩)) (dp_tup upd_same .nil)
theorem before_ne {z : Str} : ∀ {l : List Str} {m : Nat}, m < l.idxOf z → l[m]? ≠ some z
  | [], m, _, e => by simp at e
  | x :: l, m, h, e => by
    rw [List.idxOf_cons] at h
    by_cases q : x = z
    · rw [q, beq_self_eq_true, cond_true] at h
      exact absurd h (Nat.not_lt_zero _)
    · rw [beq_eq_false_iff_ne.mpr q, cond_false] at h
      cases m with
      | zero =>
        simp at e
        exact q e
      | succ m => exact before_ne (z := z) (l := l) (m := m) (by omega) (by simpa using e)
/-- the text's place in a list of texts -/
theorem de_listIx {ks : List Str} {z : Str} {apos cpos : Pos} (hz : z ∈ ks) (ha : DE T X Γ a Γ1 (.list (ks.map .str))) (hb : DE T X Γ1 b Γ2 (.str z))
    (hbase : attributeBase a "index" X.env (eval a X.env) = eval a X.env := by rfl)
    (hfew : ((backTo cpos (starEach [b] X.env)).all (fun x => !x.1) && (backToKw cpos (keywordEach [] X.env)).all (fun x => x.1.isSome) && decide ([b].length + ([] : List Keyword).length + (if ([] : List Keyword).isEmpty then 0 else 1) < 30)) = true := by rfl)
    (hline : (apos.endLine == cpos.line) = true := by rfl) (hs : starEach [b] X.env = (false, eval b X.env) :: starEach [] X.env := by rfl) (hplain : (backTo cpos (starEach [] X.env)).any (·.1) = false := by rfl) :
    DE T X Γ (.Call (.Attribute a "index" apos) [b] [] cpos) Γ2 (.int ((ks.idxOf z : Nat) : Int)) := fun B =>
  pe_imp (pe_bm PySem.F.plainAttrs_list PySem.F.slot_list_index PySem.F.type_list_index mt_index (ha B) (pa_cons (hb B) pa_nil hs) hbase hfew hline hs hplain) fun σ H Q ⟨F, o, q⟩ => ⟨F, o, fun F1 H1 v o1 s1 r1 => by
    cases r1 with
    | lst sq t =>
      rename_i l xs
      have e := dpa_strs (X := X) t
      subst e
      refine ⟨.inl ⟨rfl, _, sql_same o1.gd.fh sq⟩, F1, o1, fun F2 H2 u o2 s2 r2 => ?_⟩
      cases r2
      have hj : ks.idxOf z < ks.length := List.idxOf_lt_length_iff.mpr hz
      refine ⟨l, ks.map V.str, .str z, ks.idxOf z, .str z, rfl, rfl, sql_same (s2.trans o2.gd.fh) sq, rfl, ?_, ?_, ?_, fun m z' hm hz' => ?_, q F2 H2 _ o2 (s1.trans s2) (.int _)⟩
      · rw [List.all_eq_true]
        intro y hy
        obtain ⟨k, _, rfl⟩ := List.mem_map.mp hy
        rfl
      · rw [List.getElem?_map, List.getElem?_eq_getElem hj, List.getElem_idxOf hj]
        rfl
      · simp [eqV]
      · rw [List.getElem?_map] at hz'
        cases e2 : ks[m]? with
        | none =>
          rw [e2] at hz'
          cases hz'
        | some k =>
          rw [e2] at hz'
          cases hz'
          have ne : k ≠ z := fun ez => by
            rw [ez] at e2
            exact before_ne hm e2
          simp [eqV, ne]⟩
end
end Dd
end
section
/-! Dd25: a def that returns a new list, to be changed later. -/
namespace Dd
open PySem PySem.Spec PyProof.Rows L2
/-- the answer is a new list -/
def SpN (T : Tb) (K : PySem.W.Frag) (R : List PyData → List PyData → Prop) : Sp := fun vs H Q _ => ∃ F ds es, Gd T F H ∧ DpAll K F vs ds ∧ R ds es ∧
  ∀ F' H' a xs, Nx T NoM F H F' H' → H a = none → F' a = none → H' a = some (.lst xs) → DpAll K F' xs es → Q (.ref a) H'
theorem none_back {T : Tb} {M : Addr → Prop} {F H F' H' : Hp} {a : Addr} (n : Nx T M F H F' H') (h : H' a = none) : H a = none := by
  cases z : H a with
  | none => rfl
  | some u => exact absurd h (n.dm a (by rw [z]; intro y; cases y))
section
variable {T : Tb} {P : Program} {w : World} {K : PySem.W.Frag} {mg : Str → Option Value} {base : Heap}
theorem fn_new {x : Str} {st s1 : Stmt} {es : List Expr} {p1 p2 : Pos} {f : Addr} {fd : FuncData} {N ps : List Str} {k : Nat} {R : List PyData → List PyData → Prop} (F : Fun K x x st f fd) (S : FnScope N ps (defScope st)) (len : ∀ ds d, R ds d → ds.length = ps.length)
    (eb : defBody st = [s1, .Return (some (.List es p1)) p2])
    (body : ∀ ds d, R ds d → d.length ≤ 100000 ∧ ∀ (cdv : Value) (A : Around) (outer : List Env) (s : Shared) (H : Hp) (E : XK), Room k (A.deeper (envOfC x (defScope st) s.heap.objs.size f cdv)) →
      ∃ Γ1 Γ2, DS T (cxOf CX0 P w K mg base N x (defScope st) f cdv A outer s H E).nox (ga0 N ds) s1 (.nx Γ1) ∧ DA T (cxOf CX0 P w K mg base N x (defScope st) f cdv A outer s H E).nox Γ1 es Γ2 d) : FnOk P w K mg base CX0 (k + 1) f fd ps (SpN T K R) := by
  have hpl : ps.length ≤ N.length := by
    have e := congrArg List.length S.pre
    rw [List.length_take] at e
    omega
  refine F.ok S (fun vs H Q E ⟨F0, ds, d, g, r, hR, _⟩ => ?_) (fun cdv A outer s H vs Q E hr ⟨F0, ds, d, g, r, hR, q⟩ => ?_)
  · rw [dpa_len r]
    exact len _ _ hR
  · obtain ⟨hl, hb⟩ := body ds d hR
    obtain ⟨Γ1, Γ2, h1, h2⟩ := hb cdv A outer s H E hr
    rw [eb]
    refine ⟨_, pss_cons (h1 ⟨F0, H, NoM⟩) (pss_cons (ps_ret (pe_lst (h2 ⟨F0, H, NoM⟩))) pss_nil), F0, start_ok g r (by rw [len _ _ hR]; exact hpl), fun F1 σ1 H1 o1 s1 => ⟨F1, o1, fun F2 H2 vs2 o2 s2 r2 => ?_⟩⟩
    have hz : vs2.length ≤ sizeLine := by
      rw [dpa_len r2]
      exact Nat.le_trans hl (by decide)
    refine ⟨hz, fun a ha => ?_⟩
    have n : Nx T NoM F2 H2 F2 (upd H2 a (.lst vs2)) := Nx.newH o2.gd ha hz
    have hf : F2 a = none := none_of o2.gd ha
    exact q F2 _ a vs2 (o2.nx.trans n) (none_back o2.nx ha) hf upd_same r2
variable {X : Cx} {Γ Γ1 : Ga} {e : Expr} {es : List Expr} {ds zs : List PyData} {pos p : Pos} {n : Nat}
theorem do1_callN {x : Str} {R : List PyData → List PyData → Prop} (hc : Cal X.prog X.w X.K X.mg X.base n x (SpN T X.K R)) (hr : Room n X.A) (ha : DA T X Γ (e :: es) Γ1 ds) (h : R ds zs) (hg : Gl X x := by rfl) (hdb : (x == ("__debug__" : Str)) = false := by decide)
    (he : starEach (e :: es) X.env = (false, eval e X.env) :: starEach es X.env := by rfl) (hpl : (backTo pos (starEach es X.env)).any (·.1) = false := by rfl) : DO1 T X Γ (.Call (.Name x p) (e :: es) [] pos) Γ1 (.lst none zs) := by
  obtain ⟨f, fd, ps, hm, hk, hb, Fn⟩ := hc
  exact fun B => pe_imp (pe_call Fn hr hg hm hk hb .nil pass0 (ha B) hdb he hpl) fun σ H Q ⟨F, o, q⟩ => ⟨F, o, fun F' H' vs o' s' r' => by
    show SpN T X.K R (vs ++ []) H' Q E0
    rw [List.append_nil]
    refine ⟨F', ds, zs, o'.gd, r', h, fun F2 H2 a xs n2 h0 hf h2 d2 => ?_⟩
    have hB : B.H0 a = none := none_back o'.nx h0
    refine q F2 H2 (.ref a) ((o'.next n2).push ⟨a, xs, rfl, ⟨hf, .inl hB⟩, h2, d2, fun _ z => by cases z⟩ fun _ b eb j t e1 o1 e2 => ?_) (s'.trans n2.ff)
    cases eb
    exact (o'.own e1 o1 e2).2 h0⟩
end
end Dd
end
section
/-! M1: finite machines, plainly. -/
namespace Kx
open PySem

/-! ### lists without doubles -/
section
variable {κ : Type} [DecidableEq κ]
theorem nd_sub : ∀ {l m : List κ}, l.Nodup → (∀ x ∈ l, x ∈ m) → l.length ≤ m.length
  | [], m, _, _ => Nat.zero_le _
  | x :: l, m, hn, h => by
    have hx : x ∈ m := h x List.mem_cons_self
    have hl := List.nodup_cons.mp hn
    have ih := nd_sub (l := l) (m := m.erase x) hl.2 fun y hy => by
      have ne : y ≠ x := fun e => hl.1 (e ▸ hy)
      exact (List.mem_erase_of_ne ne).mpr (h y (List.mem_cons_of_mem _ hy))
    rw [List.length_erase_of_mem hx] at ih
    have : 0 < m.length := List.length_pos_of_mem hx
    rw [List.length_cons]
    omega
/-- k at the end of o, unless it stands there -/
def addO (o : List κ) (b : Option κ) : List κ := match b with
  | none => o
  | some k => if k ∈ o then o else o ++ [k]
def addAll (o : List κ) (bs : List (Option κ)) : List κ := bs.foldl addO o
def idxO (o : List κ) (b : Option κ) : Option Nat := b.map o.idxOf
theorem addO_in {o : List κ} {k : κ} (h : k ∈ o) : addO o (some k) = o := if_pos h
theorem addO_new {o : List κ} {k : κ} (h : k ∉ o) : addO o (some k) = o ++ [k] := if_neg h
theorem addO_cs (o : List κ) (k : κ) : (addO o (some k) = o ∧ k ∈ o) ∨ (addO o (some k) = o ++ [k] ∧ k ∉ o) := by
  by_cases h : k ∈ o
  · exact .inl ⟨addO_in h, h⟩
  · exact .inr ⟨addO_new h, h⟩
theorem addO_sub {o : List κ} {b : Option κ} {x : κ} (h : x ∈ o) : x ∈ addO o b := by
  cases b with
  | none => exact h
  | some k =>
    rcases addO_cs o k with ⟨e, _⟩ | ⟨e, _⟩ <;> rw [e]
    · exact h
    · exact List.mem_append_left _ h
theorem addO_mem {o : List κ} {k : κ} : k ∈ addO o (some k) := by
  rcases addO_cs o k with ⟨e, q⟩ | ⟨e, _⟩ <;> rw [e]
  · exact q
  · exact List.mem_append_right _ List.mem_cons_self
theorem addO_of {o : List κ} {b : Option κ} {x : κ} (h : x ∈ addO o b) : x ∈ o ∨ b = some x := by
  cases b with
  | none => exact .inl h
  | some k =>
    rcases addO_cs o k with ⟨e, _⟩ | ⟨e, _⟩ <;> rw [e] at h
    · exact .inl h
    · rcases List.mem_append.mp h with h | h
      · exact .inl h
      · exact .inr (by rw [List.mem_singleton.mp h])
theorem addO_nodup {o : List κ} {b : Option κ} (h : o.Nodup) : (addO o b).Nodup := by
  cases b with
  | none => exact h
  | some k =>
    rcases addO_cs o k with ⟨e, _⟩ | ⟨e, hk⟩ <;> rw [e]
    · exact h
    · rw [List.nodup_append]
      refine ⟨h, by simp, fun a ha c hc e => ?_⟩
      rw [List.mem_singleton] at hc
      exact hk (hc ▸ e ▸ ha)
theorem addO_idx {o : List κ} {b : Option κ} {x : κ} (h : x ∈ o) : (addO o b).idxOf x = o.idxOf x := by
  cases b with
  | none => rfl
  | some k =>
    rcases addO_cs o k with ⟨e, _⟩ | ⟨e, hk⟩ <;> rw [e]
    rw [List.idxOf_append, if_pos h]
theorem addO_get {o : List κ} {b : Option κ} {i : Nat} (h : i < o.length) : (addO o b)[i]? = o[i]? := by
  cases b with
  | none => rfl
  | some k =>
    rcases addO_cs o k with ⟨e, _⟩ | ⟨e, hk⟩ <;> rw [e]
    rw [List.getElem?_append_left h]
theorem addO_len {o : List κ} {b : Option κ} : o.length ≤ (addO o b).length := by
  cases b with
  | none => exact Nat.le_refl _
  | some k =>
    rcases addO_cs o k with ⟨e, _⟩ | ⟨e, hk⟩ <;> rw [e]
    · exact Nat.le_refl _
    · rw [List.length_append]
      exact Nat.le_add_right _ _
theorem addAll_cons (o : List κ) (b : Option κ) (bs : List (Option κ)) : addAll o (b :: bs) = addAll (addO o b) bs := rfl
theorem addAll_app (o : List κ) (as bs : List (Option κ)) : addAll o (as ++ bs) = addAll (addAll o as) bs := by
  unfold addAll
  rw [List.foldl_append]
theorem addAll_sub {x : κ} : ∀ {bs : List (Option κ)} {o : List κ}, x ∈ o → x ∈ addAll o bs
  | [], _, h => h
  | _ :: bs, _, h => addAll_sub (bs := bs) (addO_sub h)
theorem addAll_mem {k : κ} : ∀ {bs : List (Option κ)} {o : List κ}, some k ∈ bs → k ∈ addAll o bs
  | b :: bs, o, h => by
    rcases List.mem_cons.mp h with h | h
    · subst h
      exact addAll_sub (bs := bs) addO_mem
    · exact addAll_mem (bs := bs) h
theorem addAll_of {x : κ} : ∀ {bs : List (Option κ)} {o : List κ}, x ∈ addAll o bs → x ∈ o ∨ some x ∈ bs
  | [], _, h => .inl h
  | b :: bs, o, h => by
    rcases addAll_of (bs := bs) h with h | h
    · rcases addO_of h with h | h
      · exact .inl h
      · exact .inr (by rw [h]; exact List.mem_cons_self)
    · exact .inr (List.mem_cons_of_mem _ h)
theorem addAll_nodup : ∀ {bs : List (Option κ)} {o : List κ}, o.Nodup → (addAll o bs).Nodup
  | [], _, h => h
  | _ :: bs, _, h => addAll_nodup (bs := bs) (addO_nodup h)
theorem addAll_idx {x : κ} : ∀ {bs : List (Option κ)} {o : List κ}, x ∈ o → (addAll o bs).idxOf x = o.idxOf x
  | [], _, _ => rfl
  | b :: bs, o, h => by
    rw [addAll_cons, addAll_idx (bs := bs) (addO_sub h), addO_idx h]
theorem addAll_get {i : Nat} : ∀ {bs : List (Option κ)} {o : List κ}, i < o.length → (addAll o bs)[i]? = o[i]?
  | [], _, _ => rfl
  | b :: bs, o, h => by
    rw [addAll_cons, addAll_get (bs := bs) (Nat.lt_of_lt_of_le h addO_len), addO_get h]
theorem addAll_len : ∀ {bs : List (Option κ)} {o : List κ}, o.length ≤ (addAll o bs).length
  | [], _ => Nat.le_refl _
  | b :: bs, o => Nat.le_trans addO_len (addAll_len (bs := bs))
theorem idxO_add {o : List κ} {bs : List (Option κ)} {b : Option κ} (h : ∀ k, b = some k → k ∈ o) : idxO (addAll o bs) b = idxO o b := by
  cases b with
  | none => rfl
  | some k =>
    unfold idxO
    rw [Option.map_some, Option.map_some, addAll_idx (h k rfl)]
theorem nodup_idx {o : List κ} (h : o.Nodup) {i : Nat} {x : κ} (e : o[i]? = some x) : o.idxOf x = i := by
  obtain ⟨hi, e⟩ := List.getElem?_eq_some_iff.mp e
  rw [← e]
  exact List.Nodup.idxOf_getElem h i hi

def place (o : List κ) (k : κ) : Nat := o.idxOf k
theorem place_get {o : List κ} (h : o.Nodup) (c : Nat) (hc : c < o.length) : place o o[c] = c := List.Nodup.idxOf_getElem h c hc
theorem place_lt {o : List κ} {k : κ} (h : k ∈ o) : place o k < o.length := List.idxOf_lt_length_iff.mpr h

/-! ### all that is reached -/
variable (f : κ → List (Option κ))
/-- the standings behind i laps -/
def ord (b : κ) : Nat → List κ
  | 0 => [b]
  | i + 1 => match (ord b i)[i]? with
    | none => ord b i
    | some s => addAll (ord b i) (f s)
abbrev Row := List (Option Nat)
/-- the rows of the first i standings of o -/
def rowsOf (o : List κ) (i : Nat) : List Row := (o.take i).map fun s => (f s).map (idxO o)
structure Part (S : List κ) (o : List κ) (i : Nat) : Prop where
  nd : o.Nodup
  sub : ∀ x ∈ o, x ∈ S
  cl : ∀ s ∈ o.take i, ∀ k, some k ∈ f s → k ∈ o
  le : i ≤ o.length
structure Closed (S : List κ) : Prop where
  cl : ∀ s ∈ S, ∀ k, some k ∈ f s → k ∈ S
variable {f}
theorem Part.len {S o : List κ} {i : Nat} (p : Part f S o i) : o.length ≤ S.length := nd_sub p.nd p.sub
theorem Part.step {S o : List κ} {i : Nat} {s : κ} (p : Part f S o i) (c : Closed f S) (e : o[i]? = some s) : Part f S (addAll o (f s)) (i + 1) where
  nd := addAll_nodup p.nd
  sub := fun x hx => by
    rcases addAll_of hx with h | h
    · exact p.sub x h
    · exact c.cl s (p.sub s (List.mem_of_getElem? e)) x h
  cl := fun t ht k hk => by
    have hi := (List.getElem?_eq_some_iff.mp e).1
    obtain ⟨j, hj⟩ := List.getElem?_of_mem ht
    have hj2 := (List.getElem?_eq_some_iff.mp hj).1
    rw [List.length_take] at hj2
    rw [List.getElem?_take, if_pos (by omega)] at hj
    by_cases q : j < i
    · rw [addAll_get (by omega)] at hj
      exact addAll_sub (p.cl t (List.mem_of_getElem? (i := j) (by rw [List.getElem?_take, if_pos q]; exact hj)) k hk)
    · have : j = i := by omega
      subst this
      rw [addAll_get hi, e] at hj
      cases hj
      exact addAll_mem hk
  le := Nat.le_trans (List.getElem?_eq_some_iff.mp e).1 addAll_len
theorem rows_step {S o : List κ} {i : Nat} {s : κ} (p : Part f S o i) (e : o[i]? = some s) : rowsOf f (addAll o (f s)) (i + 1) = rowsOf f o i ++ [(f s).map (idxO (addAll o (f s)))] := by
  have hi := (List.getElem?_eq_some_iff.mp e).1
  have ht : (addAll o (f s)).take (i + 1) = o.take i ++ [s] := by
    refine List.ext_getElem? fun j => ?_
    rw [List.getElem?_take]
    by_cases q : j < i
    · rw [if_pos (by omega), addAll_get (by omega), List.getElem?_append_left (by rw [List.length_take]; omega), List.getElem?_take, if_pos q]
    · by_cases q2 : j = i
      · subst q2
        rw [if_pos (by omega), addAll_get hi, e, List.getElem?_append_right (by rw [List.length_take]; omega), List.length_take, Nat.min_eq_left (by omega), Nat.sub_self]
        rfl
      · rw [if_neg (by omega), List.getElem?_eq_none (by rw [List.length_append, List.length_take]; simp; omega)]
  unfold rowsOf
  rw [ht, List.map_append]
  congr 1
  refine List.map_congr_left fun t ht => List.map_congr_left fun b hb => ?_
  exact idxO_add fun k hk => p.cl t ht k (hk ▸ hb)
theorem Part.begin {S : List κ} {b : κ} (h : b ∈ S) : Part f S [b] 0 := ⟨by simp, fun x hx => (List.mem_singleton.mp hx) ▸ h, fun s hs => by simp at hs, Nat.zero_le _⟩
theorem ord_next {b s : κ} {i : Nat} (e : (ord f b i)[i]? = some s) : ord f b (i + 1) = addAll (ord f b i) (f s) := by
  show (match (ord f b i)[i]? with
    | none => ord f b i
    | some s => addAll (ord f b i) (f s)) = _
  rw [e]
theorem ord_stop {b : κ} {i : Nat} (h : (ord f b i).length ≤ i) : ord f b (i + 1) = ord f b i := by
  show (match (ord f b i)[i]? with
    | none => ord f b i
    | some s => addAll (ord f b i) (f s)) = _
  rw [List.getElem?_eq_none h]
theorem ord_stay {b : κ} {i : Nat} (h : (ord f b i).length ≤ i) : ∀ n, ord f b (i + n) = ord f b i
  | 0 => rfl
  | n + 1 => by
    have ih := ord_stay h n
    have e : ord f b (i + n + 1) = ord f b (i + n) := ord_stop (by rw [ih]; omega)
    rw [show i + (n + 1) = i + n + 1 by omega, e, ih]
theorem ord_part {S : List κ} (c : Closed f S) {b : κ} (hb : b ∈ S) : ∀ i, (∀ j, j < i → j < (ord f b j).length) → Part f S (ord f b i) i
  | 0, _ => Part.begin hb
  | i + 1, h => by
    have p := ord_part c hb i fun j hj => h j (Nat.lt_succ_of_lt hj)
    have hi := h i (Nat.lt_succ_self i)
    have e : (ord f b i)[i]? = some (ord f b i)[i] := List.getElem?_eq_getElem hi
    rw [ord_next e]
    exact p.step c e
/-- all that is reached from b, with enough laps n -/
structure Done (S : List κ) (b : κ) (n k : Nat) : Prop where
  le : k ≤ S.length
  run : ∀ j, j < k → j < (ord f b j).length
  len : (ord f b k).length = k
  same : ord f b n = ord f b k
theorem ord_done {S : List κ} (c : Closed f S) {b : κ} (hb : b ∈ S) {n : Nat} (hn : S.length ≤ n) : ∃ k, Done (f := f) S b n k := by
  have find : ∀ m, (∀ j, j < m → j < (ord f b j).length) ∨ ∃ k, k < m ∧ (∀ j, j < k → j < (ord f b j).length) ∧ (ord f b k).length ≤ k := fun m => by
    induction m with
    | zero => exact .inl fun j hj => absurd hj (Nat.not_lt_zero j)
    | succ m ih =>
      rcases ih with h | ⟨k, h1, h2⟩
      · by_cases q : m < (ord f b m).length
        · refine .inl fun j hj => ?_
          by_cases e : j = m
          · rw [e]
            exact q
          · exact h j (by omega)
        · exact .inr ⟨m, Nat.lt_succ_self m, h, by omega⟩
      · exact .inr ⟨k, by omega, h2⟩
  rcases find (S.length + 1) with h | ⟨k, h1, h2, h3⟩
  · exfalso
    have p := ord_part c hb (S.length + 1) h
    have := p.le
    have := p.len
    omega
  · have p := ord_part c hb k h2
    have := p.le
    refine ⟨k, by omega, h2, by omega, ?_⟩
    have e := ord_stay h3 (n - k)
    rw [show k + (n - k) = n by omega] at e
    exact e
/-- the table of what is reached from b -/
def table (f : κ → List (Option κ)) (n : Nat) (b : κ) : List Row := rowsOf f (ord f b n) (ord f b n).length
theorem Done.part {S : List κ} {b : κ} {n k : Nat} (d : Done (f := f) S b n k) (c : Closed f S) (hb : b ∈ S) : Part f S (ord f b k) k := ord_part c hb k d.run
theorem Done.pos {S : List κ} {b : κ} {n k : Nat} (d : Done (f := f) S b n k) : 1 ≤ k := by
  cases k with
  | zero => exact absurd (show (1 : Nat) = 0 from d.len) (by decide)
  | succ k => exact Nat.succ_le_succ (Nat.zero_le k)
theorem Done.table {S : List κ} {b : κ} {n k : Nat} (d : Done (f := f) S b n k) : table f n b = rowsOf f (ord f b k) k := by
  unfold Kx.table
  rw [d.same, d.len]
structure Wf (n m : Nat) (rs : List Row) : Prop where
  len : rs.length = n
  wid : ∀ r ∈ rs, r.length = m
  ok : ∀ r ∈ rs, ∀ j, some j ∈ r → j < n
theorem Done.wf {S : List κ} {n m k : Nat} {b : κ} (d : Done (f := f) S b n k) (c : Closed f S) (hb : b ∈ S) (hm : ∀ s ∈ S, (f s).length = m) : Wf k m (Kx.table f n b) := by
  have p := d.part c hb
  rw [d.table]
  refine ⟨?_, fun r hr => ?_, fun r hr j hj => ?_⟩
  · unfold rowsOf
    rw [List.length_map, List.length_take, d.len, Nat.min_self]
  · unfold rowsOf at hr
    obtain ⟨s, hs, rfl⟩ := List.mem_map.mp hr
    rw [List.length_map, hm s (p.sub s (List.mem_of_mem_take hs))]
  · unfold rowsOf at hr
    obtain ⟨s, hs, rfl⟩ := List.mem_map.mp hr
    obtain ⟨q, hq, e⟩ := List.mem_map.mp hj
    cases q with
    | none => cases e
    | some x =>
      unfold idxO at e
      rw [Option.map_some] at e
      cases e
      have := List.idxOf_lt_length_iff.mpr (p.cl s hs x hq)
      rw [d.len] at this
      exact this
theorem table_wf {S : List κ} {n m : Nat} {b : κ} (c : Closed f S) (hb : b ∈ S) (hn : S.length ≤ n) (hm : ∀ s ∈ S, (f s).length = m) : ∃ k, 1 ≤ k ∧ k ≤ S.length ∧ Wf k m (table f n b) := by
  obtain ⟨k, d⟩ := ord_done c hb hn
  exact ⟨k, d.pos, d.le, d.wf c hb hm⟩
end
end Kx
end
section
/-! M2: numbered keys; classes of rows; the least rows. -/
namespace Kx
open PySem Dd

/-! ### a dict that numbers -/
section
variable {κ : Type} [DecidableEq κ] (key : κ → NestedKey)
def numF : List κ → Nat → List (NestedKey × PyData)
  | [], _ => []
  | k :: o, i => (key k, .int (i : Int)) :: numF o (i + 1)
abbrev numD (o : List κ) : List (NestedKey × PyData) := numF key o 0
variable {key} (inj : ∀ a b, key a = key b → a = b)
theorem numF_len : ∀ {o : List κ} {i : Nat}, (numF key o i).length = o.length
  | [], _ => rfl
  | _ :: o, i => by
    unfold numF
    rw [List.length_cons, List.length_cons, numF_len]
theorem numF_app {k : κ} : ∀ {o : List κ} {i : Nat}, numF key (o ++ [k]) i = numF key o i ++ [(key k, .int ((i + o.length : Nat) : Int))]
  | [], i => rfl
  | x :: o, i => by
    rw [List.cons_append]
    unfold numF
    rw [numF_app, List.cons_append, List.length_cons, show i + 1 + o.length = i + (o.length + 1) by omega]
include inj in
theorem numF_in {k : κ} : ∀ {o : List κ} {i : Nat}, k ∈ o → dget (numF key o i) (key k) = some (.int ((i + o.idxOf k : Nat) : Int))
  | x :: o, i, h => by
    unfold numF
    by_cases e : x = k
    · subst e
      rw [dget_pos rfl]
      simp
    · have hk : k ∈ o := by
        rcases List.mem_cons.mp h with h | h
        · exact absurd h.symm e
        · exact h
      rw [dget_neg (fun z => e (inj x k z)), numF_in hk, List.idxOf_cons]
      have : (x == k) = false := beq_eq_false_iff_ne.mpr e
      rw [this, cond_false, show i + 1 + o.idxOf k = i + (o.idxOf k + 1) by omega]
include inj in
theorem numF_out {k : κ} : ∀ {o : List κ} {i : Nat}, k ∉ o → dget (numF key o i) (key k) = none
  | [], _, _ => rfl
  | x :: o, i, h => by
    unfold numF
    have e : ¬ x = k := fun z => h (by rw [z]; exact List.mem_cons_self)
    rw [dget_neg (fun z => e (inj x k z)), numF_out fun z => h (List.mem_cons_of_mem _ z)]
include inj in
theorem num_in {o : List κ} {k : κ} (h : k ∈ o) : dget (numD key o) (key k) = some (.int ((o.idxOf k : Nat) : Int)) := by
  have := numF_in inj (i := 0) h
  rw [Nat.zero_add] at this
  exact this
include inj in
theorem num_put {o : List κ} {k : κ} (h : k ∉ o) : dput (numD key o) (key k) (.int ((o.length : Nat) : Int)) = numD key (addO o (some k)) := by
  rw [addO_new h]
  show _ = numF key (o ++ [k]) 0
  rw [numF_app, Nat.zero_add]
  unfold dput
  rw [numF_out inj h]
  rfl
include inj in
theorem num_setd {o : List κ} {k : κ} : setdG (numD key o) (key k) (.int ((o.length : Nat) : Int)) = numD key (addO o (some k)) := by
  unfold setdG
  by_cases h : k ∈ o
  · rw [num_in inj h, addO_in h]
    rfl
  · rw [numF_out inj h, num_put inj h]
    rfl
end

/-! ### classes -/
abbrev Sign := Nat × Row
def optK : Option Nat → NestedKey
  | none => .none
  | some n => .num (n : Int)
def sgK (s : Sign) : NestedKey := .tup [.num (s.1 : Int), .tup (s.2.map optK)]
theorem optK_inj : ∀ {a b : Option Nat}, optK a = optK b → a = b
  | none, none, _ => rfl
  | some a, some b, h => by
    injection h with h
    rw [Int.ofNat.inj h]
  | none, some _, h => by cases h
  | some _, none, h => by cases h
theorem optKs_inj : ∀ {a b : List (Option Nat)}, a.map optK = b.map optK → a = b
  | [], [], _ => rfl
  | [], _ :: _, h => by simp at h
  | _ :: _, [], h => by simp at h
  | x :: a, y :: b, h => by
    rw [List.map_cons, List.map_cons] at h
    injection h with h1 h2
    rw [optK_inj h1, optKs_inj h2]
theorem sgK_inj : ∀ a b : Sign, sgK a = sgK b → a = b := fun ⟨a, r⟩ ⟨b, q⟩ h => by
  unfold sgK at h
  injection h with h
  injection h with h1 h2
  injection h1 with h1
  injection h2 with h2
  injection h2 with h2
  have e1 : a = b := Int.ofNat.inj h1
  have e2 : r = q := optKs_inj h2
  rw [e1, e2]
def relab (g : List Nat) (r : Row) : Row := r.map fun b => b.map fun j => g.getD j 0
def signF (g : List Nat) : List Row → Nat → List Sign
  | [], _ => []
  | r :: rs, i => (g.getD i 0, relab g r) :: signF g rs (i + 1)
def signs (g : List Nat) (rs : List Row) : List Sign := signF g rs 0
def kinds (ss : List Sign) : List Sign := addAll [] (ss.map some)
def renum (ss : List Sign) : List Nat := ss.map (place (kinds ss))
def cls (rs : List Row) : Nat → List Nat → Nat → List Nat
  | 0, g, _ => renum (signs g rs)
  | n + 1, g, m => if (kinds (signs g rs)).length = m then renum (signs g rs) else cls rs n (renum (signs g rs)) (kinds (signs g rs)).length
theorem signF_len {g : List Nat} : ∀ {rs : List Row} {i : Nat}, (signF g rs i).length = rs.length
  | [], _ => rfl
  | _ :: rs, i => by
    unfold signF
    rw [List.length_cons, List.length_cons, signF_len]
theorem signF_get {g : List Nat} : ∀ {rs : List Row} {i j : Nat}, j < rs.length → ∃ r, (signF g rs i)[j]? = some (g.getD (i + j) 0, r)
  | r :: rs, i, 0, _ => ⟨relab g r, rfl⟩
  | r :: rs, i, j + 1, h => by
    obtain ⟨q, e⟩ := signF_get (g := g) (rs := rs) (i := i + 1) (j := j) (by simpa using h)
    refine ⟨q, ?_⟩
    unfold signF
    rw [List.getElem?_cons_succ, e, show i + 1 + j = i + (j + 1) by omega]
/-- every class below m stands in g -/
def Full (m : Nat) (g : List Nat) : Prop := ∀ c, c < m → c ∈ g
theorem kinds_nd (ss : List Sign) : (kinds ss).Nodup := addAll_nodup List.nodup_nil
theorem kinds_le (ss : List Sign) : (kinds ss).length ≤ ss.length := nd_sub (kinds_nd ss) fun x hx => by
  rcases addAll_of hx with h | h
  · cases h
  · obtain ⟨y, hy, e⟩ := List.mem_map.mp h
    cases e
    exact hy
theorem kinds_mem {ss : List Sign} {x : Sign} : x ∈ kinds ss ↔ x ∈ ss := ⟨fun hx => by
  rcases addAll_of hx with h | h
  · cases h
  · obtain ⟨y, hy, e⟩ := List.mem_map.mp h
    cases e
    exact hy, fun hx => addAll_mem (List.mem_map.mpr ⟨x, hx, rfl⟩)⟩
theorem renum_full (ss : List Sign) : Full (kinds ss).length (renum ss) := fun c hc => by
  refine List.mem_map.mpr ⟨(kinds ss)[c], kinds_mem.mp (List.getElem_mem hc), ?_⟩
  exact place_get (kinds_nd ss) c hc
theorem renum_lt (ss : List Sign) : ∀ c ∈ renum ss, c < (kinds ss).length := fun c hc => by
  obtain ⟨x, hx, rfl⟩ := List.mem_map.mp hc
  exact place_lt (kinds_mem.mpr hx)
theorem renum_len (g : List Nat) (rs : List Row) : (renum (signs g rs)).length = rs.length := by
  unfold renum signs
  rw [List.length_map, signF_len]
/-- the classes grow in number -/
theorem kinds_grow {g : List Nat} {rs : List Row} {m : Nat} (hf : Full m g) (hl : g.length = rs.length) : m ≤ (kinds (signs g rs)).length := by
  have h := nd_sub (l := List.range m) (m := (kinds (signs g rs)).map (·.1)) List.nodup_range fun c hc => by
    have hc' := List.mem_range.mp hc
    obtain ⟨j, hj⟩ := List.getElem?_of_mem (hf c hc')
    have hj2 := (List.getElem?_eq_some_iff.mp hj).1
    obtain ⟨r, e⟩ := signF_get (g := g) (rs := rs) (i := 0) (j := j) (by omega)
    rw [Nat.zero_add, List.getD_eq_getElem?_getD, hj] at e
    exact List.mem_map.mpr ⟨_, kinds_mem.mpr (List.mem_of_getElem? e), rfl⟩
  rw [List.length_range, List.length_map] at h
  exact h
structure ClsOk (k : Nat) (rs : List Row) (g : List Nat) : Prop where
  len : g.length = rs.length
  lt : ∀ c ∈ g, c < k
  full : Full k g
theorem renum_ok (g : List Nat) (rs : List Row) : ClsOk (kinds (signs g rs)).length rs (renum (signs g rs)) := ⟨renum_len g rs, renum_lt _, renum_full _⟩
theorem ClsOk.le {k : Nat} {rs : List Row} {g : List Nat} (o : ClsOk k rs g) : k ≤ rs.length := by
  have h := nd_sub (l := List.range k) (m := g) List.nodup_range fun c hc => o.full c (List.mem_range.mp hc)
  rw [List.length_range, o.len] at h
  exact h
theorem cls_ok {rs : List Row} : ∀ {n m : Nat} {g : List Nat}, ∃ k, ClsOk k rs (cls rs n g m)
  | 0, m, g => ⟨_, renum_ok g rs⟩
  | n + 1, m, g => by
    unfold cls
    split
    · exact ⟨_, renum_ok g rs⟩
    · exact cls_ok
/-- the classes of rows, as the program finds them -/
def classes (rs : List Row) : List Nat := cls rs rs.length (List.replicate rs.length 0) 0

/-! ### the least rows -/
def many (g : List Nat) : Nat := (addAll [] (g.map some)).length
theorem many_eq {k : Nat} {rs : List Row} {g : List Nat} (o : ClsOk k rs g) : many g = k := by
  have nd : (addAll [] (g.map some)).Nodup := addAll_nodup List.nodup_nil
  refine Nat.le_antisymm ?_ ?_
  · have h := nd_sub (m := List.range k) nd fun c hc => by
      rcases addAll_of hc with h | h
      · cases h
      · obtain ⟨y, hy, e⟩ := List.mem_map.mp h
        cases e
        exact List.mem_range.mpr (o.lt _ hy)
    rw [List.length_range] at h
    exact h
  · have h := nd_sub (l := List.range k) (m := addAll [] (g.map some)) List.nodup_range fun c hc => addAll_mem (List.mem_map.mpr ⟨c, o.full c (List.mem_range.mp hc), rfl⟩)
    rw [List.length_range] at h
    exact h
def joined (rs : List Row) (g : List Nat) : List Row := (List.range (many g)).map fun c => relab g (rs.getD (g.idxOf c) [])
def nxt (js : List Row) (s : Nat) : Row := js.getD s []
def leastOf (rs : List Row) : List Row := table (nxt (joined rs (classes rs))) (joined rs (classes rs)).length 0
theorem getD_mem {α : Type} {l : List α} {i : Nat} {d : α} (h : i < l.length) : l.getD i d ∈ l := by
  rw [List.getD_eq_getElem?_getD, List.getElem?_eq_getElem h]
  exact List.getElem_mem h
theorem joined_wf {n m k : Nat} {rs : List Row} {g : List Nat} (w : Wf n m rs) (o : ClsOk k rs g) : Wf k m (joined rs g) where
  len := by
    unfold joined
    rw [List.length_map, List.length_range, many_eq o]
  wid := fun r hr => by
    obtain ⟨c, hc, rfl⟩ := List.mem_map.mp hr
    rw [List.mem_range, many_eq o] at hc
    unfold relab
    rw [List.length_map]
    have : g.idxOf c < rs.length := by
      rw [← o.len]
      exact List.idxOf_lt_length_iff.mpr (o.full c hc)
    exact w.wid _ (getD_mem this)
  ok := fun r hr j hj => by
    obtain ⟨c, hc, rfl⟩ := List.mem_map.mp hr
    rw [List.mem_range, many_eq o] at hc
    have hi : g.idxOf c < rs.length := by
      rw [← o.len]
      exact List.idxOf_lt_length_iff.mpr (o.full c hc)
    unfold relab at hj
    obtain ⟨b, hb, e⟩ := List.mem_map.mp hj
    cases b with
    | none => cases e
    | some q =>
      rw [Option.map_some] at e
      cases e
      have hq := w.ok _ (getD_mem hi) q hb
      exact o.lt _ (getD_mem (by rw [o.len, w.len]; exact hq))
theorem nxt_closed {n m : Nat} {js : List Row} (w : Wf n m js) : Closed (nxt js) (List.range n) where
  cl := fun s hs k hk => by
    rw [List.mem_range] at hs ⊢
    exact w.ok _ (getD_mem (d := []) (by rw [w.len]; exact hs)) k hk
theorem wf_pos {n m k : Nat} {rs : List Row} {g : List Nat} (w : Wf n m rs) (hn : 1 ≤ n) (o : ClsOk k rs g) : 1 ≤ k := by
  have hl := o.len
  rw [w.len] at hl
  have h0 : 0 < g.length := by omega
  have := o.lt g[0] (List.getElem_mem h0)
  omega
theorem least_wf {n m : Nat} {rs : List Row} (w : Wf n m rs) (hn : 1 ≤ n) : ∃ k, 1 ≤ k ∧ k ≤ n ∧ Wf k m (leastOf rs) := by
  obtain ⟨k, o⟩ := cls_ok (rs := rs) (n := rs.length) (m := 0) (g := List.replicate rs.length 0)
  have wj := joined_wf w o
  have hk := wf_pos w hn o
  have hkn : k ≤ n := by
    have := o.le
    rw [w.len] at this
    exact this
  obtain ⟨q, h1, h2, h3⟩ := table_wf (nxt_closed wj) (b := 0) (n := (joined rs (classes rs)).length) (m := m) (List.mem_range.mpr hk) (by rw [List.length_range]; exact Nat.le_of_eq wj.len.symm) fun s hs => wj.wid _ (getD_mem (by rw [wj.len]; exact List.mem_range.mp hs))
  rw [List.length_range] at h2
  exact ⟨q, h1, Nat.le_trans h2 hkn, h3⟩
/-- the first place of every class -/
def firstD (g : List Nat) : List (NestedKey × PyData) := (addAll [] (g.map some)).map fun (c : Nat) => (NestedKey.num (c : Int), .int ((g.idxOf c : Nat) : Int))
theorem firstD_len (g : List Nat) : (firstD g).length = many g := by
  unfold firstD many
  rw [List.length_map]
theorem dget_map {l : List Nat} {h : Nat → PyData} {c : Nat} : dget (l.map fun (c : Nat) => (NestedKey.num (c : Int), h c)) (.num (c : Int)) = if c ∈ l then some (h c) else none := by
  induction l with
  | nil => rfl
  | cons x l ih =>
    rw [List.map_cons]
    by_cases e : x = c
    · subst e
      rw [dget_pos rfl, if_pos List.mem_cons_self]
    · have ne : ¬ (NestedKey.num (x : Int)) = .num (c : Int) := fun z => e (by
        injection z with z
        exact Int.ofNat.inj z)
      rw [dget_neg ne, ih]
      by_cases hc : c ∈ l
      · rw [if_pos hc, if_pos (List.mem_cons_of_mem _ hc)]
      · rw [if_neg hc, if_neg fun z => by
          rcases List.mem_cons.mp z with z | z
          · exact e z.symm
          · exact hc z]
theorem all_in {g : List Nat} {c : Nat} : c ∈ addAll [] (g.map some) ↔ c ∈ g := ⟨fun hc => by
  rcases addAll_of hc with h | h
  · cases h
  · obtain ⟨y, hy, e⟩ := List.mem_map.mp h
    cases e
    exact hy, fun hc => addAll_mem (List.mem_map.mpr ⟨c, hc, rfl⟩)⟩
theorem first_get {g : List Nat} {c : Nat} (h : c ∈ g) : dget (firstD g) (.num (c : Int)) = some (.int ((g.idxOf c : Nat) : Int)) := by
  unfold firstD
  rw [dget_map, if_pos (all_in.mpr h)]
theorem first_step {g : List Nat} {c : Nat} : setdG (firstD g) (.num (c : Int)) (.int ((g.length : Nat) : Int)) = firstD (g ++ [c]) := by
  have e1 : addAll [] ((g ++ [c]).map some) = addO (addAll [] (g.map some)) (some c) := by
    rw [List.map_append, addAll_app]
    rfl
  have e2 : ∀ x ∈ addAll [] (g.map some), (g ++ [c]).idxOf x = g.idxOf x := fun x hx => by
    rw [List.idxOf_append, if_pos (all_in.mp hx)]
  have e3 : (addAll [] (g.map some)).map (fun (c : Nat) => (NestedKey.num (c : Int), PyData.int ((g.idxOf c : Nat) : Int))) = (addAll [] (g.map some)).map (fun (x : Nat) => (NestedKey.num (x : Int), PyData.int (((g ++ [c]).idxOf x : Nat) : Int))) :=
    List.map_congr_left fun x hx => by rw [e2 x hx]
  unfold setdG
  by_cases h : c ∈ g
  · rw [first_get h]
    show firstD g = _
    unfold firstD
    rw [e1, addO_in (all_in.mpr h), e3]
  · have hn : dget (firstD g) (.num (c : Int)) = none := by
      unfold firstD
      rw [dget_map, if_neg fun z => h (all_in.mp z)]
    rw [hn]
    show dput (firstD g) _ _ = _
    unfold dput
    rw [hn]
    show firstD g ++ _ = _
    unfold firstD
    rw [e1, addO_new fun z => h (all_in.mp z), e3, List.map_append, List.map_singleton, List.idxOf_append, if_neg h]
    simp
end Kx
end
section
/-! M3: the laps of the classes. -/
namespace Kx
open PySem Dd
variable {rs : List Row}
def st (rs : List Row) : Nat → List Nat × Nat
  | 0 => (List.replicate rs.length 0, 0)
  | i + 1 => (renum (signs (st rs i).1 rs), (kinds (signs (st rs i).1 rs)).length)
theorem st_len : ∀ i, (st rs i).1.length = rs.length
  | 0 => List.length_replicate
  | i + 1 => renum_len _ _
theorem st_full : ∀ i, Full (st rs i).2 (st rs i).1
  | 0 => fun c hc => absurd hc (Nat.not_lt_zero c)
  | i + 1 => renum_full _
theorem st_grow (i : Nat) : (st rs i).2 ≤ (st rs (i + 1)).2 := kinds_grow (st_full i) (st_len i)
theorem st_le (i : Nat) : (st rs i).2 ≤ rs.length := by
  cases i with
  | zero => exact Nat.zero_le _
  | succ i =>
    have h := kinds_le (signs (st rs i).1 rs)
    unfold signs at h
    rw [signF_len] at h
    exact h
structure Halt (rs : List Row) (k : Nat) : Prop where
  le : k ≤ rs.length
  run : ∀ j, j < k → (st rs (j + 1)).2 ≠ (st rs j).2
  stop : (st rs (k + 1)).2 = (st rs k).2
theorem st_halt (rs : List Row) : ∃ k, Halt rs k := by
  have find : ∀ m, (∀ j, j < m → (st rs (j + 1)).2 ≠ (st rs j).2) ∨ ∃ k, k < m ∧ (∀ j, j < k → (st rs (j + 1)).2 ≠ (st rs j).2) ∧ (st rs (k + 1)).2 = (st rs k).2 := fun m => by
    induction m with
    | zero => exact .inl fun j hj => absurd hj (Nat.not_lt_zero j)
    | succ m ih =>
      rcases ih with h | ⟨k, h1, h2⟩
      · by_cases q : (st rs (m + 1)).2 = (st rs m).2
        · exact .inr ⟨m, Nat.lt_succ_self m, h, q⟩
        · refine .inl fun j hj => ?_
          by_cases e : j = m
          · rw [e]
            exact q
          · exact h j (by omega)
      · exact .inr ⟨k, by omega, h2⟩
  rcases find (rs.length + 1) with h | ⟨k, h1, h2, h3⟩
  · exfalso
    have up : ∀ j, j ≤ rs.length + 1 → j ≤ (st rs j).2 := fun j => by
      induction j with
      | zero => exact fun _ => Nat.zero_le _
      | succ j ih =>
        intro hj
        have a := ih (by omega)
        have b := st_grow (rs := rs) j
        have c := h j (by omega)
        omega
    have a := up (rs.length + 1) (Nat.le_refl _)
    have b := st_le (rs := rs) (rs.length + 1)
    omega
  · exact ⟨k, by omega, h2, h3⟩
theorem cls_st {k : Nat} (h : Halt rs k) : ∀ n i, i ≤ k → k ≤ n + i → cls rs n (st rs i).1 (st rs i).2 = (st rs (k + 1)).1
  | 0, i, h1, h2 => by
    have e : i = k := by omega
    subst e
    rfl
  | n + 1, i, h1, h2 => by
    unfold cls
    by_cases e : i = k
    · subst e
      rw [if_pos (show (kinds (signs (st rs i).1 rs)).length = (st rs i).2 from h.stop)]
      rfl
    · rw [if_neg (show ¬ (kinds (signs (st rs i).1 rs)).length = (st rs i).2 from h.run i (by omega))]
      exact cls_st h n (i + 1) (by omega) (by omega)
theorem classes_st {k : Nat} (h : Halt rs k) : classes rs = (st rs (k + 1)).1 := cls_st h rs.length 0 (Nat.zero_le _) h.le
theorem signF_range {g : List Nat} : ∀ {rs : List Row} {i : Nat}, signF g rs i = (List.range rs.length).map fun j => (g.getD (i + j) 0, relab g (rs.getD j []))
  | [], _ => rfl
  | r :: rs, i => by
    unfold signF
    rw [List.length_cons, List.range_succ_eq_map, List.map_cons, List.map_map, signF_range]
    congr 1
    refine List.map_congr_left fun j _ => ?_
    show (g.getD (i + 1 + j) 0, relab g (rs.getD j [])) = (g.getD (i + (j + 1)) 0, relab g ((r :: rs).getD (j + 1) []))
    rw [show i + 1 + j = i + (j + 1) by omega]
    rfl
theorem signs_range {g : List Nat} : signs g rs = (List.range rs.length).map fun j => (g.getD j 0, relab g (rs.getD j [])) := by
  unfold signs
  rw [signF_range]
  refine List.map_congr_left fun j _ => ?_
  rw [Nat.zero_add]
end Kx
end
section
/-! M4: machines side by side, plainly. -/
namespace Kx
open PySem
def look (rs : List Row) (s at_ : Nat) : Option Nat := (rs.getD s []).getD at_ none
def stepRows : List (List Row) → List Nat → Nat → Option (List Nat)
  | [], _, _ => some []
  | _ :: _, [], _ => some []
  | rs :: ws, s :: ss, j => match look rs s j, stepRows ws ss j with
    | some a, some r => some (a :: r)
    | _, _ => none
def foundOf : List (List Row) → List Nat → Nat → List (Option Nat)
  | [], _, _ => []
  | _ :: _, [], _ => []
  | rs :: ws, s :: ss, j => look rs s j :: foundOf ws ss j
def InP : List (List Row) → List Nat → Prop
  | [], [] => True
  | rs :: ws, s :: ss => s < rs.length ∧ InP ws ss
  | _, _ => False
theorem InP.len : ∀ {ws : List (List Row)} {ss : List Nat}, InP ws ss → ws.length = ss.length
  | [], [], _ => rfl
  | rs :: ws, s :: ss, h => by rw [List.length_cons, List.length_cons, InP.len h.2]
  | [], _ :: _, h => h.elim
  | _ :: _, [], h => h.elim
theorem found_some : ∀ {ws : List (List Row)} {ss ts : List Nat} {j : Nat}, stepRows ws ss j = some ts → foundOf ws ss j = ts.map some
  | [], _, ts, _, h => by
    cases h
    rfl
  | _ :: _, [], ts, _, h => by
    cases h
    rfl
  | rs :: ws, s :: ss, ts, j, h => by
    unfold stepRows at h
    unfold foundOf
    cases e1 : look rs s j with
    | none =>
      rw [e1] at h
      cases h
    | some a =>
      rw [e1] at h
      cases e2 : stepRows ws ss j with
      | none =>
        rw [e2] at h
        cases h
      | some r =>
        rw [e2] at h
        cases h
        rw [found_some e2] <;> rfl
theorem found_none : ∀ {ws : List (List Row)} {ss : List Nat} {j : Nat}, stepRows ws ss j = none → none ∈ foundOf ws ss j
  | [], _, _, h => by cases h
  | _ :: _, [], _, h => by cases h
  | rs :: ws, s :: ss, j, h => by
    unfold stepRows at h
    unfold foundOf
    cases e1 : look rs s j with
    | none => exact List.mem_cons_self
    | some a =>
      rw [e1] at h
      cases e2 : stepRows ws ss j with
      | none => exact List.mem_cons_of_mem _ (found_none e2)
      | some r =>
        rw [e2] at h
        cases h
theorem found_len : ∀ {ws : List (List Row)} {ss : List Nat} {j : Nat}, InP ws ss → (foundOf ws ss j).length = ws.length
  | [], _, _, _ => rfl
  | _ :: _, [], _, h => h.elim
  | rs :: ws, s :: ss, j, h => by
    unfold foundOf
    rw [List.length_cons, List.length_cons, found_len h.2]
theorem found_get : ∀ {ws : List (List Row)} {ss : List Nat} {j i : Nat}, InP ws ss → i < ws.length → (foundOf ws ss j).getD i none = look (ws.getD i []) (ss.getD i 0) j
  | rs :: ws, s :: ss, j, 0, h, hi => rfl
  | rs :: ws, s :: ss, j, i + 1, h, hi => by
    unfold foundOf
    exact found_get (ws := ws) (ss := ss) (i := i) h.2 (Nat.lt_of_succ_lt_succ hi)
  | [], _, _, _, _, hi => absurd hi (Nat.not_lt_zero _)
  | _ :: _, [], _, _, h, _ => h.elim
theorem InP.get : ∀ {ws : List (List Row)} {ss : List Nat} {i : Nat}, InP ws ss → i < ws.length → ss.getD i 0 < (ws.getD i []).length
  | rs :: ws, s :: ss, 0, h, hi => h.1
  | rs :: ws, s :: ss, i + 1, h, hi => InP.get (ws := ws) (ss := ss) (i := i) h.2 (Nat.lt_of_succ_lt_succ hi)
  | [], _, _, _, hi => absurd hi (Nat.not_lt_zero _)
  | _ :: _, [], _, h, _ => h.elim
/-- good tables of width m -/
def Tabs (m : Nat) (ws : List (List Row)) : Prop := ∀ rs ∈ ws, ∃ k, 1 ≤ k ∧ Wf k m rs
theorem look_lt {m k s j a : Nat} {rs : List Row} (w : Wf k m rs) (hs : s < rs.length) (h : look rs s j = some a) : a < rs.length := by
  rw [w.len]
  unfold look at h
  have hr : rs.getD s [] ∈ rs := getD_mem hs
  refine w.ok _ hr a ?_
  generalize rs.getD s [] = r at h
  by_cases hj : j < r.length
  · rw [← h]
    exact getD_mem hj
  · rw [List.getD_eq_getElem?_getD, List.getElem?_eq_none (by omega)] at h
    cases h
theorem step_InP {m : Nat} : ∀ {ws : List (List Row)} {ss ts : List Nat} {j : Nat}, Tabs m ws → InP ws ss → stepRows ws ss j = some ts → InP ws ts
  | [], [], ts, _, _, _, h => by
    cases h
    trivial
  | rs :: ws, s :: ss, ts, j, w, p, h => by
    unfold stepRows at h
    cases e1 : look rs s j with
    | none =>
      rw [e1] at h
      cases h
    | some a =>
      rw [e1] at h
      cases e2 : stepRows ws ss j with
      | none =>
        rw [e2] at h
        cases h
      | some r =>
        rw [e2] at h
        cases h
        obtain ⟨k, _, wk⟩ := w rs List.mem_cons_self
        exact ⟨look_lt wk p.1 e1, step_InP (fun x hx => w x (List.mem_cons_of_mem _ hx)) p.2 e2⟩
  | [], _ :: _, _, _, _, p, _ => p.elim
  | _ :: _, [], _, _, _, p, _ => p.elim
def manyOf : List (List Row) → Nat
  | [] => 1
  | rs :: ws => rs.length * manyOf ws
theorem manyOf_app : ∀ (ws vs : List (List Row)), manyOf (ws ++ vs) = manyOf ws * manyOf vs
  | [], vs => by rw [List.nil_append, manyOf, Nat.one_mul]
  | rs :: ws, vs => by rw [List.cons_append, manyOf, manyOf_app ws vs, manyOf, Nat.mul_assoc]
def prodS : List (List Row) → List (List Nat)
  | [] => [[]]
  | rs :: ws => (List.range rs.length).flatMap fun s => (prodS ws).map (s :: ·)
theorem prod_len : ∀ ws : List (List Row), (prodS ws).length = manyOf ws
  | [] => rfl
  | rs :: ws => by
    unfold prodS manyOf
    have e : ∀ l : List Nat, (l.flatMap fun s => (prodS ws).map (s :: ·)).length = l.length * (prodS ws).length := fun l => by
      induction l with
      | nil => simp
      | cons x l ih => rw [List.flatMap_cons, List.length_append, ih, List.length_map, List.length_cons, Nat.succ_mul, Nat.add_comm]
    rw [e, List.length_range, prod_len ws]
theorem prod_mem : ∀ {ws : List (List Row)} {ss : List Nat}, ss ∈ prodS ws ↔ InP ws ss
  | [], [] => by simp [prodS, InP]
  | [], _ :: _ => by simp [prodS, InP]
  | rs :: ws, [] => by simp [prodS, InP]
  | rs :: ws, s :: ss => by
    unfold prodS InP
    rw [List.mem_flatMap]
    constructor
    · rintro ⟨a, ha, h⟩
      obtain ⟨b, hb, e⟩ := List.mem_map.mp h
      cases e
      exact ⟨List.mem_range.mp ha, prod_mem.mp hb⟩
    · rintro ⟨h1, h2⟩
      exact ⟨s, List.mem_range.mpr h1, List.mem_map.mpr ⟨ss, prod_mem.mpr h2, rfl⟩⟩
def zeros (ws : List (List Row)) : List Nat := ws.map fun _ => 0
theorem zeros_in {m : Nat} : ∀ {ws : List (List Row)}, Tabs m ws → InP ws (zeros ws)
  | [], _ => trivial
  | rs :: ws, w => by
    obtain ⟨k, hk, wk⟩ := w rs List.mem_cons_self
    exact ⟨by rw [wk.len]; exact hk, zeros_in fun x hx => w x (List.mem_cons_of_mem _ hx)⟩
def stepsJ (m : Nat) (ws : List (List Row)) (ss : List Nat) : List (Option (List Nat)) := (List.range m).map fun j => stepRows ws ss j
theorem stepsJ_closed {m n : Nat} {ws : List (List Row)} (w : Tabs n ws) : Closed (stepsJ m ws) (prodS ws) := ⟨fun ss hs ts ht => by
  obtain ⟨j, _, e⟩ := List.mem_map.mp ht
  exact prod_mem.mpr (step_InP w (prod_mem.mp hs) e)⟩
def joinedOf (m : Nat) (ws : List (List Row)) : List Row := leastOf (table (stepsJ m ws) 60 (zeros ws))
def keyS (ss : List Nat) : NestedKey := .tup (ss.map fun s : Nat => NestedKey.num (s : Int))
theorem keySs_inj : ∀ {a b : List Nat}, (a.map fun s : Nat => NestedKey.num (s : Int)) = (b.map fun s : Nat => NestedKey.num (s : Int)) → a = b
  | [], [], _ => rfl
  | x :: a, y :: b, h => by
    rw [List.map_cons, List.map_cons] at h
    injection h with h1 h2
    injection h1 with h1
    rw [Int.ofNat.inj h1, keySs_inj h2]
  | [], _ :: _, h => by cases h
  | _ :: _, [], h => by cases h
theorem keyS_inj : ∀ a b : List Nat, keyS a = keyS b → a = b := fun a b h => by
  injection h with h
  exact keySs_inj h
theorem depth_nums : ∀ a : List Nat, NestedKey.depthAll (a.map fun s : Nat => NestedKey.num (s : Int)) = 0
  | [] => rfl
  | x :: a => by
    rw [List.map_cons]
    simp only [NestedKey.depthAll, NestedKey.depth]
    rw [depth_nums a] <;> rfl
theorem datas_nums : ∀ a : List Nat, NestedKey.datas (a.map fun s : Nat => NestedKey.num (s : Int)) = a.map fun s : Nat => PyData.int (s : Int)
  | [] => rfl
  | x :: a => by
    rw [List.map_cons, List.map_cons]
    simp only [NestedKey.datas, NestedKey.data]
    rw [datas_nums a]
theorem keyS_data (a : List Nat) : (keyS a).data = .tuple (a.map fun s : Nat => PyData.int (s : Int)) := by
  unfold keyS
  simp only [NestedKey.data]
  rw [datas_nums]
theorem keyS_ok (a : List Nat) : Dd.keyOk true (keyS a) = true := by
  unfold keyS Dd.keyOk
  refine decide_eq_true ?_
  simp only [NestedKey.depth]
  rw [depth_nums]
  decide
end Kx
end
section
/-! M5: the shortest parting, plainly. -/
namespace Kx
open PySem
abbrev Pr := Nat × Nat
/-- what has been found: pairs, in order, with the way to each (places of beats) -/
abbrev Found := List (Pr × List Nat)
inductive Step where
  | go (l : Found)
  | out (w : List Nat)
def lap (A B : List Row) (p : Pr) (w : List Nat) (l : Found) (j : Nat) : Step :=
  match look A p.1 j, look B p.2 j with
  | none, none => .go l
  | some a, some b => if (a, b) ∈ l.map (·.1) then .go l else .go (l ++ [((a, b), w ++ [j])])
  | _, _ => .out (w ++ [j])
/-- the beats from place i on, n of them -/
def laps (A B : List Row) (p : Pr) (w : List Nat) : Nat → Nat → Found → Step
  | 0, _, l => .go l
  | n + 1, i, l => match lap A B p w l i with
    | .go l' => laps A B p w n (i + 1) l'
    | .out v => .out v
/-- m beats, at most n spots from spot i on -/
def partF (A B : List Row) (m : Nat) : Nat → Nat → Found → Option (List Nat)
  | 0, _, _ => none
  | n + 1, i, l => match l[i]? with
    | none => none
    | some (p, w) => match laps A B p w m 0 l with
      | .go l' => partF A B m n (i + 1) l'
      | .out v => some v
def partOf (A B : List Row) (m : Nat) : Option (List Nat) := partF A B m (A.length * B.length + 1) 0 [((0, 0), [])]
/-- what holds of what has been found -/
structure Fine (A B : List Row) (l : Found) : Prop where
  nd : (l.map (·.1)).Nodup
  ok : ∀ e ∈ l, e.1.1 < A.length ∧ e.1.2 < B.length
  ways : ∀ (k : Nat) (e : Pr × List Nat), l[k]? = some e → e.2.length ≤ k
def prods (A B : List Row) : List Pr := (List.range A.length).flatMap fun a => (List.range B.length).map fun b => (a, b)
theorem prods_len (A B : List Row) : (prods A B).length = A.length * B.length := by
  unfold prods
  have e : ∀ l : List Nat, (l.flatMap fun a => (List.range B.length).map fun b => (a, b)).length = l.length * B.length := fun l => by
    induction l with
    | nil => simp
    | cons x l ih => rw [List.flatMap_cons, List.length_append, ih, List.length_map, List.length_range, List.length_cons, Nat.succ_mul, Nat.add_comm]
  rw [e, List.length_range]
theorem Fine.len {A B : List Row} {l : Found} (h : Fine A B l) : l.length ≤ A.length * B.length := by
  have := nd_sub (m := prods A B) h.nd fun x hx => by
    obtain ⟨e, he, rfl⟩ := List.mem_map.mp hx
    obtain ⟨h1, h2⟩ := h.ok e he
    exact List.mem_flatMap.mpr ⟨_, List.mem_range.mpr h1, List.mem_map.mpr ⟨_, List.mem_range.mpr h2, rfl⟩⟩
  rw [List.length_map, prods_len] at this
  exact this
theorem Fine.begin {A B : List Row} (hA : 1 ≤ A.length) (hB : 1 ≤ B.length) : Fine A B [((0, 0), [])] := by
  refine ⟨by simp, fun e he => ?_, fun k e he => ?_⟩
  · cases List.mem_singleton.mp he
    exact ⟨hA, hB⟩
  · cases k with
    | zero =>
      cases he
      exact Nat.le_refl _
    | succ k => simp at he
theorem lap_fine {m n k : Nat} {A B : List Row} (wA : Wf n m A) (wB : Wf k m B) {p : Pr} {w : List Nat} {l l' : Found} {j i : Nat} (h : Fine A B l) (hi : l[i]? = some (p, w)) (e : lap A B p w l j = .go l') : Fine A B l' ∧ l'[i]? = some (p, w) ∧ l.length ≤ l'.length := by
  have hp := h.ok _ (List.mem_of_getElem? hi)
  have hw := h.ways i _ hi
  have hl := (List.getElem?_eq_some_iff.mp hi).1
  unfold lap at e
  cases e1 : look A p.1 j with
  | none =>
    cases e2 : look B p.2 j with
    | none =>
      rw [e1, e2] at e
      cases e
      exact ⟨h, hi, Nat.le_refl _⟩
    | some b =>
      rw [e1, e2] at e
      cases e
  | some a =>
    cases e2 : look B p.2 j with
    | none =>
      rw [e1, e2] at e
      cases e
    | some b =>
      rw [e1, e2] at e
      have e : (if (a, b) ∈ l.map (·.1) then Step.go l else Step.go (l ++ [((a, b), w ++ [j])])) = .go l' := e
      split at e
      · cases e
        exact ⟨h, hi, Nat.le_refl _⟩
      · rename_i hn
        cases e
        refine ⟨⟨?_, fun x hx => ?_, fun q x hx => ?_⟩, ?_, by rw [List.length_append]; exact Nat.le_add_right _ _⟩
        · rw [List.map_append, List.nodup_append]
          refine ⟨h.nd, by simp, fun x hx y hy z => ?_⟩
          have : y = (a, b) := by simpa using hy
          exact hn (by rw [← this, ← z]; exact hx)
        · rcases List.mem_append.mp hx with hx | hx
          · exact h.ok x hx
          · cases List.mem_singleton.mp hx
            exact ⟨look_lt wA hp.1 e1, look_lt wB hp.2 e2⟩
        · by_cases hq : q < l.length
          · rw [List.getElem?_append_left hq] at hx
            exact h.ways q x hx
          · rw [List.getElem?_append_right (by omega)] at hx
            cases z : q - l.length with
            | zero =>
              rw [z] at hx
              cases hx
              rw [List.length_append]
              have hw' : w.length ≤ i := hw
              show w.length + 1 ≤ q
              omega
            | succ z' =>
              rw [z] at hx
              simp at hx
        · rw [List.getElem?_append_left hl]
          exact hi
theorem laps_fine {m n k : Nat} {A B : List Row} (wA : Wf n m A) (wB : Wf k m B) {p : Pr} {w : List Nat} {i : Nat} : ∀ {q j : Nat} {l l' : Found}, Fine A B l → l[i]? = some (p, w) → laps A B p w q j l = .go l' → Fine A B l' ∧ l'[i]? = some (p, w) ∧ l.length ≤ l'.length
  | 0, _, l, l', h, hi, e => by
    cases e
    exact ⟨h, hi, Nat.le_refl _⟩
  | q + 1, j, l, l', h, hi, e => by
    unfold laps at e
    cases e1 : lap A B p w l j with
    | go l2 =>
      rw [e1] at e
      obtain ⟨h1, h2, h3⟩ := lap_fine wA wB h hi e1
      obtain ⟨h4, h5, h6⟩ := laps_fine wA wB h1 h2 e
      exact ⟨h4, h5, Nat.le_trans h3 h6⟩
    | out v =>
      rw [e1] at e
      cases e
def keyP (p : Pr) : NestedKey := .tup [.num (p.1 : Int), .num (p.2 : Int)]
theorem keyP_inj : ∀ a b : Pr, keyP a = keyP b → a = b := fun ⟨a, b⟩ ⟨c, d⟩ h => by
  injection h with h
  injection h with h1 h2
  injection h2 with h2 _
  injection h1 with h1
  injection h2 with h2
  have e1 : a = c := Int.ofNat.inj h1
  have e2 : b = d := Int.ofNat.inj h2
  rw [e1, e2]
theorem keyP_ok (p : Pr) : Dd.keyOk true (keyP p) = true := by
  unfold keyP Dd.keyOk
  refine decide_eq_true ?_
  simp [NestedKey.depth, NestedKey.depthAll]
theorem keyP_data (p : Pr) : (keyP p).data = .tuple [.int (p.1 : Int), .int (p.2 : Int)] := by
  unfold keyP
  simp only [NestedKey.data, NestedKey.datas]
end Kx
end
section
/-! Tx: the text by places: each def's statement, its names. Printed by gen0.py. -/
namespace Kx
open PySem PySem.Spec PyProof.Rows L2 Dd
def topS (i : Nat) : Stmt := PySem.Challenge.pw_madetorule_k12_whole_letters_by_other_na.main.body.getD i (.Pass ⟨0, 0, 0, 0⟩)
abbrev s_is_whole : Stmt := topS 9
abbrev n_is_whole : List Str := ["thing"]
theorem sc_is_whole : FnScope n_is_whole ["thing"] (defScope s_is_whole) := ⟨rfl, rfl, rfl, by decide +kernel, rfl, by decide +kernel, by decide +kernel⟩
abbrev s_is_within : Stmt := topS 10
abbrev n_is_within : List Str := ["thing", "least", "most"]
theorem sc_is_within : FnScope n_is_within ["thing", "least", "most"] (defScope s_is_within) := ⟨rfl, rfl, rfl, by decide +kernel, rfl, by decide +kernel, by decide +kernel⟩
abbrev s_is_word : Stmt := topS 11
abbrev n_is_word : List Str := ["thing", "sign"]
theorem sc_is_word : FnScope n_is_word ["thing"] (defScope s_is_word) := ⟨rfl, rfl, rfl, by decide +kernel, rfl, by decide +kernel, by decide +kernel⟩
abbrev s_are_words : Stmt := topS 15
abbrev n_are_words : List Str := ["thing", "one", "word"]
theorem sc_are_words : FnScope n_are_words ["thing"] (defScope s_are_words) := ⟨rfl, rfl, rfl, by decide +kernel, rfl, by decide +kernel, by decide +kernel⟩
abbrev s_is_letters : Stmt := topS 16
abbrev n_is_letters : List Str := ["thing"]
theorem sc_is_letters : FnScope n_is_letters ["thing"] (defScope s_is_letters) := ⟨rfl, rfl, rfl, by decide +kernel, rfl, by decide +kernel, by decide +kernel⟩
abbrev s_need_letters : Stmt := topS 17
abbrev n_need_letters : List Str := ["thing"]
theorem sc_need_letters : FnScope n_need_letters ["thing"] (defScope s_need_letters) := ⟨rfl, rfl, rfl, by decide +kernel, rfl, by decide +kernel, by decide +kernel⟩
abbrev s_beats_of : Stmt := topS 18
abbrev n_beats_of : List Str := ["letters", "given", "told"]
theorem sc_beats_of : FnScope n_beats_of ["letters"] (defScope s_beats_of) := ⟨rfl, rfl, rfl, by decide +kernel, rfl, by decide +kernel, by decide +kernel⟩
abbrev s_is_beat : Stmt := topS 19
abbrev n_is_beat : List Str := ["letters", "thing", "one"]
theorem sc_is_beat : FnScope n_is_beat ["letters", "thing"] (defScope s_is_beat) := ⟨rfl, rfl, rfl, by decide +kernel, rfl, by decide +kernel, by decide +kernel⟩
abbrev s_is_saying_by : Stmt := topS 20
abbrev n_is_saying_by : List Str := ["letters", "thing", "depth", "some"]
theorem sc_is_saying_by : FnScope n_is_saying_by ["letters", "thing", "depth"] (defScope s_is_saying_by) := ⟨rfl, rfl, rfl, by decide +kernel, rfl, by decide +kernel, by decide +kernel⟩
abbrev s_is_so_by : Stmt := topS 21
abbrev n_is_so_by : List Str := ["saying", "beat", "first", "second"]
theorem sc_is_so_by : FnScope n_is_so_by ["saying", "beat"] (defScope s_is_so_by) := ⟨rfl, rfl, rfl, by decide +kernel, rfl, by decide +kernel, by decide +kernel⟩
abbrev s_is_sentence_by : Stmt := topS 25
abbrev n_is_sentence_by : List Str := ["letters", "thing", "sayings", "numbers", "one"]
theorem sc_is_sentence_by : FnScope n_is_sentence_by ["letters", "thing"] (defScope s_is_sentence_by) := ⟨rfl, rfl, rfl, by decide +kernel, rfl, by decide +kernel, by decide +kernel⟩
abbrev s_need_sentence : Stmt := topS 26
abbrev n_need_sentence : List Str := ["letters", "thing"]
theorem sc_need_sentence : FnScope n_need_sentence ["letters", "thing"] (defScope s_need_sentence) := ⟨rfl, rfl, rfl, by decide +kernel, rfl, by decide +kernel, by decide +kernel⟩
abbrev s_is_run : Stmt := topS 27
abbrev n_is_run : List Str := ["letters", "thing", "one"]
theorem sc_is_run : FnScope n_is_run ["letters", "thing"] (defScope s_is_run) := ⟨rfl, rfl, rfl, by decide +kernel, rfl, by decide +kernel, by decide +kernel⟩
abbrev s_need_run : Stmt := topS 28
abbrev n_need_run : List Str := ["letters", "thing"]
theorem sc_need_run : FnScope n_need_run ["letters", "thing"] (defScope s_need_run) := ⟨rfl, rfl, rfl, by decide +kernel, rfl, by decide +kernel, by decide +kernel⟩
abbrev s_step_within : Stmt := topS 29
abbrev n_step_within : List Str := ["sentence", "left", "beat"]
theorem sc_step_within : FnScope n_step_within ["sentence", "left", "beat"] (defScope s_step_within) := ⟨rfl, rfl, rfl, by decide +kernel, rfl, by decide +kernel, by decide +kernel⟩
abbrev s_step_counted : Stmt := topS 30
abbrev n_step_counted : List Str := ["sentence", "state", "beat", "kind", "saying", "number", "is_here"]
theorem sc_step_counted : FnScope n_step_counted ["sentence", "state", "beat"] (defScope s_step_counted) := ⟨rfl, rfl, rfl, by decide +kernel, rfl, by decide +kernel, by decide +kernel⟩
abbrev s_step_marked : Stmt := topS 31
abbrev n_step_marked : List Str := ["sentence", "state", "beat", "is_here", "is_barred", "is_over"]
theorem sc_step_marked : FnScope n_step_marked ["sentence", "state", "beat"] (defScope s_step_marked) := ⟨rfl, rfl, rfl, by decide +kernel, rfl, by decide +kernel, by decide +kernel⟩
abbrev s_step_by : Stmt := topS 32
abbrev n_step_by : List Str := ["sentence", "state", "beat"]
theorem sc_step_by : FnScope n_step_by ["sentence", "state", "beat"] (defScope s_step_by) := ⟨rfl, rfl, rfl, by decide +kernel, rfl, by decide +kernel, by decide +kernel⟩
abbrev s_broken_at_by : Stmt := topS 33
abbrev n_broken_at_by : List Str := ["sentence", "run", "state", "at", "beat"]
theorem sc_broken_at_by : FnScope n_broken_at_by ["sentence", "run"] (defScope s_broken_at_by) := ⟨rfl, rfl, rfl, by decide +kernel, rfl, by decide +kernel, by decide +kernel⟩
abbrev s_broken_at : Stmt := topS 34
abbrev n_broken_at : List Str := ["letters", "sentence", "run"]
theorem sc_broken_at : FnScope n_broken_at ["letters", "sentence", "run"] (defScope s_broken_at) := ⟨rfl, rfl, rfl, by decide +kernel, rfl, by decide +kernel, by decide +kernel⟩
abbrev s_step_rows : Stmt := topS 38
abbrev n_step_rows : List Str := ["watchers", "states", "at", "found", "rows", "state"]
theorem sc_step_rows : FnScope n_step_rows ["watchers", "states", "at"] (defScope s_step_rows) := ⟨rfl, rfl, rfl, by decide +kernel, rfl, by decide +kernel, by decide +kernel⟩
abbrev s_renumbered : Stmt := topS 39
abbrev n_renumbered : List Str := ["rows", "order", "number", "at", "behind", "state"]
theorem sc_renumbered : FnScope n_renumbered ["rows"] (defScope s_renumbered) := ⟨rfl, rfl, rfl, by decide +kernel, rfl, by decide +kernel, by decide +kernel⟩
abbrev s_classes_of : Stmt := topS 40
abbrev n_classes_of : List Str := ["rows", "found", "many", "signs", "number", "sign", "at", "row", "behind"]
theorem sc_classes_of : FnScope n_classes_of ["rows"] (defScope s_classes_of) := ⟨rfl, rfl, rfl, by decide +kernel, rfl, by decide +kernel, by decide +kernel⟩
abbrev s_least_rows : Stmt := topS 41
abbrev n_least_rows : List Str := ["rows", "classes", "first", "at", "name", "joined", "row", "behind"]
theorem sc_least_rows : FnScope n_least_rows ["rows"] (defScope s_least_rows) := ⟨rfl, rfl, rfl, by decide +kernel, rfl, by decide +kernel, by decide +kernel⟩
abbrev s_machine_by : Stmt := topS 42
abbrev n_machine_by : List Str := ["beats", "begin", "step", "order", "number", "rows", "row", "at", "beat", "behind"]
theorem sc_machine_by : FnScope n_machine_by ["beats", "begin", "step"] (defScope s_machine_by) := ⟨rfl, rfl, rfl, by decide +kernel, rfl, by decide +kernel, by decide +kernel⟩
abbrev s_watcher_by : Stmt := topS 43
abbrev n_watcher_by : List Str := ["letters", "sentence"]
theorem sc_watcher_by : FnScope n_watcher_by ["letters", "sentence"] (defScope s_watcher_by) := ⟨rfl, rfl, rfl, by decide +kernel, rfl, by decide +kernel, by decide +kernel⟩
abbrev s_watcher : Stmt := topS 44
abbrev n_watcher : List Str := ["letters", "sentence"]
theorem sc_watcher : FnScope n_watcher ["letters", "sentence"] (defScope s_watcher) := ⟨rfl, rfl, rfl, by decide +kernel, rfl, by decide +kernel, by decide +kernel⟩
abbrev s_many_of : Stmt := topS 45
abbrev n_many_of : List Str := ["watchers", "found", "rows"]
theorem sc_many_of : FnScope n_many_of ["watchers"] (defScope s_many_of) := ⟨rfl, rfl, rfl, by decide +kernel, rfl, by decide +kernel, by decide +kernel⟩
abbrev s_joined_rows : Stmt := topS 46
abbrev n_joined_rows : List Str := ["letters", "watchers", "begin", "rows"]
theorem sc_joined_rows : FnScope n_joined_rows ["letters", "watchers"] (defScope s_joined_rows) := ⟨rfl, rfl, rfl, by decide +kernel, rfl, by decide +kernel, by decide +kernel⟩
abbrev s_together : Stmt := topS 47
abbrev n_together : List Str := ["letters", "sentences", "watchers", "one", "sentence"]
theorem sc_together : FnScope n_together ["letters", "sentences"] (defScope s_together) := ⟨rfl, rfl, rfl, by decide +kernel, rfl, by decide +kernel, by decide +kernel⟩
abbrev s_need_two : Stmt := topS 48
abbrev n_need_two : List Str := ["letters", "sentence", "other"]
theorem sc_need_two : FnScope n_need_two ["letters", "sentence", "other"] (defScope s_need_two) := ⟨rfl, rfl, rfl, by decide +kernel, rfl, by decide +kernel, by decide +kernel⟩
abbrev s_parting : Stmt := topS 49
abbrev n_parting : List Str := ["letters", "sentence", "other", "rows", "others", "beats", "order", "ways", "spot", "here", "there", "at", "beat", "pair"]
theorem sc_parting : FnScope n_parting ["letters", "sentence", "other"] (defScope s_parting) := ⟨rfl, rfl, rfl, by decide +kernel, rfl, by decide +kernel, by decide +kernel⟩
abbrev s__law_cell_at : Stmt := topS 51
abbrev n__law_cell_at : List Str := ["_law_script", "_law_k"]
theorem sc__law_cell_at : FnScope n__law_cell_at ["_law_script", "_law_k"] (defScope s__law_cell_at) := ⟨rfl, rfl, rfl, by decide +kernel, rfl, by decide +kernel, by decide +kernel⟩
abbrev s__law_state : Stmt := topS 52
abbrev n__law_state : List Str := ["_law_script", "_law_k", "_law_cell"]
theorem sc__law_state : FnScope n__law_state ["_law_script", "_law_k"] (defScope s__law_state) := ⟨rfl, rfl, rfl, by decide +kernel, rfl, by decide +kernel, by decide +kernel⟩
abbrev s__law_choice : Stmt := topS 53
abbrev n__law_choice : List Str := ["_law_state_here", "_law_many", "_law_found", "_law_mixed"]
theorem sc__law_choice : FnScope n__law_choice ["_law_state_here", "_law_many"] (defScope s__law_choice) := ⟨rfl, rfl, rfl, by decide +kernel, rfl, by decide +kernel, by decide +kernel⟩
abbrev s__law_letters : Stmt := topS 54
abbrev n__law_letters : List Str := ["_law_state_here", "_law_ins", "_law_outs"]
theorem sc__law_letters : FnScope n__law_letters ["_law_state_here"] (defScope s__law_letters) := ⟨rfl, rfl, rfl, by decide +kernel, rfl, by decide +kernel, by decide +kernel⟩
abbrev s__law_beats : Stmt := topS 55
abbrev n__law_beats : List Str := ["_law_letters_here", "_law_found", "_law_one", "_law_other"]
theorem sc__law_beats : FnScope n__law_beats ["_law_letters_here"] (defScope s__law_beats) := ⟨rfl, rfl, rfl, by decide +kernel, rfl, by decide +kernel, by decide +kernel⟩
abbrev s__law_atom : Stmt := topS 56
abbrev n__law_atom : List Str := ["_law_state_here", "_law_letters_here", "_law_plain"]
theorem sc__law_atom : FnScope n__law_atom ["_law_state_here", "_law_letters_here", "_law_plain"] (defScope s__law_atom) := ⟨rfl, rfl, rfl, by decide +kernel, rfl, by decide +kernel, by decide +kernel⟩
abbrev s__law_saying : Stmt := topS 57
abbrev n__law_saying : List Str := ["_law_state_here", "_law_letters_here", "_law_plain", "_law_found", "_law_lap", "_law_kind", "_law_other"]
theorem sc__law_saying : FnScope n__law_saying ["_law_state_here", "_law_letters_here", "_law_plain"] (defScope s__law_saying) := ⟨rfl, rfl, rfl, by decide +kernel, rfl, by decide +kernel, by decide +kernel⟩
abbrev s__law_sentence : Stmt := topS 58
abbrev n__law_sentence : List Str := ["_law_state_here", "_law_letters_here", "_law_great", "_law_plain", "_law_kind", "_law_many", "_law_found", "_law_lap"]
theorem sc__law_sentence : FnScope n__law_sentence ["_law_state_here", "_law_letters_here", "_law_great", "_law_plain"] (defScope s__law_sentence) := ⟨rfl, rfl, rfl, by decide +kernel, rfl, by decide +kernel, by decide +kernel⟩
abbrev s__law_run : Stmt := topS 59
abbrev n__law_run : List Str := ["_law_state_here", "_law_letters_here", "_law_many", "_law_beats_here", "_law_lap"]
theorem sc__law_run : FnScope n__law_run ["_law_state_here", "_law_letters_here", "_law_many"] (defScope s__law_run) := ⟨rfl, rfl, rfl, by decide +kernel, rfl, by decide +kernel, by decide +kernel⟩
abbrev s__law_renamed : Stmt := topS 60
abbrev n__law_renamed : List Str := ["_law_letters_here", "_law_other", "_law_saying_here", "_law_side", "_law_one"]
theorem sc__law_renamed : FnScope n__law_renamed ["_law_letters_here", "_law_other", "_law_saying_here"] (defScope s__law_renamed) := ⟨rfl, rfl, rfl, by decide +kernel, rfl, by decide +kernel, by decide +kernel⟩
abbrev s__law_exchanged : Stmt := topS 61
abbrev n__law_exchanged : List Str := ["_law_saying_here", "_law_one"]
theorem sc__law_exchanged : FnScope n__law_exchanged ["_law_saying_here"] (defScope s__law_exchanged) := ⟨rfl, rfl, rfl, by decide +kernel, rfl, by decide +kernel, by decide +kernel⟩
abbrev s__law_run_renamed : Stmt := topS 62
abbrev n__law_run_renamed : List Str := ["_law_letters_here", "_law_other", "_law_run_here", "_law_found", "_law_beat", "_law_side"]
theorem sc__law_run_renamed : FnScope n__law_run_renamed ["_law_letters_here", "_law_other", "_law_run_here"] (defScope s__law_run_renamed) := ⟨rfl, rfl, rfl, by decide +kernel, rfl, by decide +kernel, by decide +kernel⟩
abbrev s_law : Stmt := topS 63
abbrev n_law : List Str := ["_law_script", "_law_k", "_law_state_here", "_law_letters_here", "_law_other", "_law_some", "_law_named", "_law_swapped", "_law_one", "_law_says", "_law_rest", "_law_found", "_law_there", "_law_lap", "_law_run_here", "_law_away", "_law_two", "_law_three", "_law_at", "_law_part", "_law_beat"]
theorem sc_law : FnScope n_law ["_law_script"] (defScope s_law) := ⟨rfl, rfl, rfl, by decide +kernel, rfl, by decide +kernel, by decide +kernel⟩
end Kx
end
namespace Kx
open PySem PySem.Spec PyProof.Rows L2 Dd
/-! the tactic: dC closes a side condition, dN a name, dE an expression, dA arguments, dT a test, dW its parts, dS a block; dX, dR, dY, dZ: a row of one's own -/
local macro_rules | `(tactic| wtm_at "dC") => `(tactic| first | assumption | rfl | decide +kernel | exact Dd.not_t (by assumption) | exact Dd.not_f (by assumption))
local macro_rules | `(tactic| wtm_at "dN") => `(tactic| first | exact Dd.de_name 0 | exact Dd.de_name 1 | exact Dd.de_name 2 | exact Dd.de_name 3 | exact Dd.de_name 4 | exact Dd.de_name 5 | exact Dd.de_name 6 | exact Dd.de_name 7 | exact Dd.de_name 8 | exact Dd.de_name 9 | exact Dd.de_name 10 | exact Dd.de_name 11 | exact Dd.de_name 12 | exact Dd.de_name 13 | exact Dd.de_name 14 | exact Dd.de_name 15 | exact Dd.de_name 16 | exact Dd.de_name 17 | exact Dd.de_name 18 | exact Dd.de_name 19 | exact Dd.de_name 20 | exact Dd.de_name 21 | exact Dd.de_name 22 | exact Dd.de_name 23)
local macro_rules | `(tactic| wtm_at "dG") => `(tactic| first | exact Dd.de_globI (by assumption) | exact Dd.de_globS (by assumption))
local macro_rules | `(tactic| wtm_at "dX") => `(tactic| fail)
local macro_rules | `(tactic| wtm_at "dR") => `(tactic| fail)
local macro_rules | `(tactic| wtm_at "dY") => `(tactic| fail)
local macro_rules | `(tactic| wtm_at "dZ") => `(tactic| fail)
local macro_rules | `(tactic| wtm_at "dJ") => `(tactic| first | rfl | assumption | exact Dd.thin_head rfl | exact Dd.thin_head (by assumption) | wtm_at "dX")
local macro_rules | `(tactic| wtm_at "dL") => `(tactic| exact Nat.le_of_ble_eq_true rfl)
local macro_rules | `(tactic| wtm_at "dE") => `(tactic| first
  | wtm_at "dX"
  | ((with_reducible show Dd.DE _ _ _ (.Name _ _) _ _); first
      | wtm_at "dN"
      | wtm_at "dG")
  | ((with_reducible show Dd.DE _ _ _ (.Constant _ _ _) _ _); first
      | exact Dd.de_str
      | exact Dd.de_int
      | exact Dd.de_none
      | exact Dd.de_bool)
  | ((with_reducible show Dd.DE _ _ _ (.Subscript _ _ _) _ _); first
      | (refine' Dd.de_ix L2.ix_seq ?a1 ?b1 ?r1; (case' a1 => wtm_at "dE"); (case' b1 => wtm_at "dE"); (case' r1 => exact Dd.rd_ix (by first | rfl | assumption) (by first | rfl | assumption))))
  | ((with_reducible show Dd.DE _ _ _ (.Tuple _ _ _) _ _); first
      | (refine' Dd.de_tup ?a1 ?l1; (case' a1 => wtm_at "dA"); (case' l1 => wtm_at "dL")))
  | ((with_reducible show Dd.DE _ _ _ (.List _ _) _ _); first
      | (refine' Dd.de_lst ?a1 ?l1; (case' a1 => wtm_at "dA"); (case' l1 => wtm_at "dL")))
  | ((with_reducible show Dd.DE _ _ _ (.BinOp _ .Add _ _) _ _); first
      | (refine' Dd.de_op L2.op_add ?a1 ?b1 ?r1; (case' a1 => wtm_at "dE"); (case' b1 => wtm_at "dE"); (case' r1 => exact Dd.rd_I0 (Dd.vd_int _)))
      | (refine' Dd.de_op L2.op_catA ?a1 ?b1 ?r1; (case' a1 => wtm_at "dE"); (case' b1 => wtm_at "dE"); (case' r1 => exact Dd.rd_cat (by wtm_at "dL") (fun _ _ => by wtm_at "dJ"))))
  | ((with_reducible show Dd.DE _ _ _ (.BinOp _ .Sub _ _) _ _); first
      | (refine' Dd.de_op L2.op_sub ?a1 ?b1 ?r1; (case' a1 => wtm_at "dE"); (case' b1 => wtm_at "dE"); (case' r1 => exact Dd.rd_I0 (Dd.vd_int _))))
  | ((with_reducible show Dd.DE _ _ _ (.Compare _ [.Eq] [_] _) _ _); first
      | (refine' Dd.de_cmp L2.op_eq (L2.nomark _) ?a1 ?b1 ?r1; (case' a1 => wtm_at "dE"); (case' b1 => wtm_at "dE"); (case' r1 => exact Dd.rd_eq (by wtm_at "dC")))
      | (refine' Dd.de_cmp (L2.op_eqD (by assumption)) (L2.nomark _) ?a1 ?b1 ?r1; (case' a1 => wtm_at "dE"); (case' b1 => wtm_at "dE"); (case' r1 => exact Dd.rd_eqD (by wtm_at "dC") (by wtm_at "dC"))))
  | ((with_reducible show Dd.DE _ _ _ (.Compare _ [.NotEq] [_] _) _ _); first
      | (refine' Dd.de_cmp L2.op_ne (L2.nomark _) ?a1 ?b1 ?r1; (case' a1 => wtm_at "dE"); (case' b1 => wtm_at "dE"); (case' r1 => exact Dd.rd_ne (by wtm_at "dC")))
      | (refine' Dd.de_cmp (L2.op_neD (by assumption)) (L2.nomark _) ?a1 ?b1 ?r1; (case' a1 => wtm_at "dE"); (case' b1 => wtm_at "dE"); (case' r1 => exact Dd.rd_neD (by wtm_at "dC") (by wtm_at "dC"))))
  | ((with_reducible show Dd.DE _ _ _ (.Compare _ [.In] [_] _) _ _); first
      | (refine' Dd.de_cmp L2.op_in_seq (by rfl) ?a1 ?b1 ?r1; (case' a1 => wtm_at "dE"); (case' b1 => wtm_at "dE"); (case' r1 => exact Dd.rd_in rfl rfl (by wtm_at "dC"))))
  | ((with_reducible show Dd.DE _ _ _ (.Compare _ [.NotIn] [_] _) _ _); first
      | (refine' Dd.de_cmp L2.op_notIn_seq (by rfl) ?a1 ?b1 ?r1; (case' a1 => wtm_at "dE"); (case' b1 => wtm_at "dE"); (case' r1 => exact Dd.rd_notIn rfl rfl (by wtm_at "dC"))))
  | ((with_reducible show Dd.DE _ _ _ (.Compare _ [.Is] [_] _) _ _); first
      | (refine' Dd.de_cmp L2.op_isN (L2.nomark _) ?a1 ?b1 ?r1; (case' a1 => wtm_at "dE"); (case' b1 => wtm_at "dE"); (case' r1 => exact Dd.rd_isN)))
  | ((with_reducible show Dd.DE _ _ _ (.Compare _ [.IsNot] [_] _) _ _); first
      | (refine' Dd.de_cmp L2.op_notN (L2.nomark _) ?a1 ?b1 ?r1; (case' a1 => wtm_at "dE"); (case' b1 => wtm_at "dE"); (case' r1 => exact Dd.rd_notN)))
  | ((with_reducible show Dd.DE _ _ _ (.Compare _ [.Lt] [_] _) _ _); first
      | (refine' Dd.de_cmp L2.op_lt (L2.nomark _) ?a1 ?b1 ?r1; (case' a1 => wtm_at "dE"); (case' b1 => wtm_at "dE"); (case' r1 => exact Dd.rd_I0 (Dd.vd_bl _))))
  | ((with_reducible show Dd.DE _ _ _ (.Compare _ [.LtE] [_] _) _ _); first
      | (refine' Dd.de_cmp L2.op_le (L2.nomark _) ?a1 ?b1 ?r1; (case' a1 => wtm_at "dE"); (case' b1 => wtm_at "dE"); (case' r1 => exact Dd.rd_I0 (Dd.vd_bl _))))
  | ((with_reducible show Dd.DE _ _ _ (.Compare _ [.Gt] [_] _) _ _); first
      | (refine' Dd.de_cmp L2.op_gt (L2.nomark _) ?a1 ?b1 ?r1; (case' a1 => wtm_at "dE"); (case' b1 => wtm_at "dE"); (case' r1 => exact Dd.rd_I0 (Dd.vd_bl _))))
  | ((with_reducible show Dd.DE _ _ _ (.Compare _ [.GtE] [_] _) _ _); first
      | (refine' Dd.de_cmp L2.op_ge (L2.nomark _) ?a1 ?b1 ?r1; (case' a1 => wtm_at "dE"); (case' b1 => wtm_at "dE"); (case' r1 => exact Dd.rd_I0 (Dd.vd_bl _))))
  | ((with_reducible show Dd.DE _ _ _ (.Compare _ [.LtE, .LtE] _ _) _ _); first
      | (refine' Dd.de_chain L2.op_le L2.op_le ?a1 ?b1 ?c1 ?r1 ?r2 ?r3; (case' a1 => wtm_at "dE"); (case' b1 => wtm_at "dE"); (case' c1 => wtm_at "dE"); (case' r1 => exact Dd.rd_I0 (Dd.vd_bl _)); (case' r2 => exact fun _ => Dd.rd_I0 (Dd.vd_bl _)); (case' r3 => wtm_at "dH")))
  | ((with_reducible show Dd.DE _ _ _ (.UnaryOp .Not _ _) _ _); first
      | (refine' Dd.de_not ?a1; (case' a1 => wtm_at "dE")))
  | ((with_reducible show Dd.DE _ _ _ (.BoolOp _ _ _) _ _); first
      | (refine' Dd.de_one ?a1; (case' a1 => wtm_at "dE"))
      | (refine' Dd.de_and' ?a1 ?t1; (case' a1 => wtm_at "dE"); (case' t1 => first | (refine' Dd.andE_T ?h1 ?h2; (case' h1 => wtm_at "dC"); (case' h2 => wtm_at "dE")) | exact Dd.andE_F (by wtm_at "dC")))
      | (refine' Dd.de_or' ?a1 ?t1; (case' a1 => wtm_at "dE"); (case' t1 => first | (refine' Dd.orE_F ?h1 ?h2; (case' h1 => wtm_at "dC"); (case' h2 => wtm_at "dE")) | exact Dd.orE_T (by wtm_at "dC"))))
  | ((with_reducible show Dd.DE _ _ _ (.IfExp _ _ _ _) _ _); first
      | (refine' Dd.de_if' ?a1 ?t1; (case' a1 => wtm_at "dT"); (case' t1 => first | (refine' Dd.ifx_T ?h1 ?h2; (case' h1 => wtm_at "dC"); (case' h2 => wtm_at "dE")) | (refine' Dd.ifx_F ?h1 ?h2; (case' h1 => wtm_at "dC"); (case' h2 => wtm_at "dE")))))
  | ((with_reducible show Dd.DE _ _ _ (.Call (.Name (Str.ofString "int") _) _ _ _) _ _); first
      | (refine' Dd.de_callTy L2.call_int1 (by assumption) (by decide +kernel) ?a1 ?r1; (case' a1 => wtm_at "dA"); (case' r1 => exact Dd.rc_intB)))
  | ((with_reducible show Dd.DE _ _ _ (.Call (.Name (Str.ofString "tuple") _) _ _ _) _ _); first
      | (refine' Dd.de_callTy Dd.cr_tupF (by assumption) (by decide +kernel) ?a1 ?r1; (case' a1 => wtm_at "dA"); (case' r1 => exact Dd.rc_tuple rfl)))
  | ((with_reducible show Dd.DE _ _ _ (.Call (.Name (Str.ofString "len") _) _ _ _) _ _); first
      | (refine' Dd.de_callB L2.call_len (by assumption) (by decide +kernel) ?a1 ?r1; (case' a1 => wtm_at "dA"); (case' r1 => first | exact Dd.rc_len rfl | exact Dd.rc_lenS (by wtm_at "dC"))))
  | ((with_reducible show Dd.DE _ _ _ (.Call (.Name (Str.ofString "all") _) _ _ _) _ _); first
      | (refine' Dd.de_callB (L2.cr_all rfl) (by assumption) (by decide +kernel) ?a1 ?r1; (case' a1 => wtm_at "dA"); (case' r1 => exact Dd.rc_all)))
  | ((with_reducible show Dd.DE _ _ _ (.Call (.Name (Str.ofString "max") _) _ _ _) _ _); first
      | (refine' Dd.de_callB (L2.call_max2 rfl) (by assumption) (by decide +kernel) ?a1 ?r1; (case' a1 => wtm_at "dA"); (case' r1 => exact Dd.rc_max)))
  | ((with_reducible show Dd.DE _ _ _ (.Call (.Name (Str.ofString "min") _) _ _ _) _ _); first
      | (refine' Dd.de_callB (L2.call_min2 rfl) (by assumption) (by decide +kernel) ?a1 ?r1; (case' a1 => wtm_at "dA"); (case' r1 => exact Dd.rc_min)))
  | ((with_reducible show Dd.DE _ _ _ (.Call (.Name (Str.ofString "isinstance") _) _ _ _) _ _); first
      | (first | (refine' Dd.de_isi_tuple (by assumption) (by assumption) ?a1 ?k1) | (refine' Dd.de_isi_str (by assumption) (by assumption) ?a1 ?k1) | (refine' Dd.de_isi_int (by assumption) (by assumption) ?a1 ?k1) | (refine' Dd.de_isi_bool (by assumption) (by assumption) ?a1 ?k1)); (case' a1 => wtm_at "dE"); (case' k1 => (first | decide +kernel | (exact (by decide +kernel : kitB "tuple" "tuple" = some true)) | (exact (by decide +kernel : kitB "str" "str" = some true)) | (exact (by decide +kernel : kitB "int" "int" = some true)) | (exact (by decide +kernel : kitB "int" "bool" = some false)))))
  | ((with_reducible show Dd.DE _ _ _ (.Call (.Name _ _) _ _ _) _ _); first
      | (refine' Dd.de_call (by assumption) (by first | assumption | exact L2.Room.mono (by assumption) (by omega)) ?a1 ?r1; (case' a1 => wtm_at "dA"); (case' r1 => wtm_at "dR")))
  | wtm_at "dY")
local macro_rules | `(tactic| wtm_at "dA") => `(tactic| first | exact Dd.da_nil | (refine' Dd.da_cons ?a1 ?b1; (case' a1 => wtm_at "dE"); (case' b1 => wtm_at "dA")))
local macro_rules | `(tactic| wtm_at "dT") => `(tactic| first
  | ((with_reducible show Dd.DT _ _ _ (.Compare _ [.Eq] [_] _) _ _); first
      | (refine' Dd.dt_cmp L2.op_eq (L2.nomark _) ?a1 ?b1 ?r1; (case' a1 => wtm_at "dE"); (case' b1 => wtm_at "dE"); (case' r1 => exact Dd.rd_eq (by wtm_at "dC")))
      | (refine' Dd.dt_cmp (L2.op_eqD (by assumption)) (L2.nomark _) ?a1 ?b1 ?r1; (case' a1 => wtm_at "dE"); (case' b1 => wtm_at "dE"); (case' r1 => exact Dd.rd_eqD (by wtm_at "dC") (by wtm_at "dC"))))
  | ((with_reducible show Dd.DT _ _ _ (.Compare _ [.NotEq] [_] _) _ _); first
      | (refine' Dd.dt_cmp L2.op_ne (L2.nomark _) ?a1 ?b1 ?r1; (case' a1 => wtm_at "dE"); (case' b1 => wtm_at "dE"); (case' r1 => exact Dd.rd_ne (by wtm_at "dC")))
      | (refine' Dd.dt_cmp (L2.op_neD (by assumption)) (L2.nomark _) ?a1 ?b1 ?r1; (case' a1 => wtm_at "dE"); (case' b1 => wtm_at "dE"); (case' r1 => exact Dd.rd_neD (by wtm_at "dC") (by wtm_at "dC"))))
  | ((with_reducible show Dd.DT _ _ _ (.Compare _ [.In] [_] _) _ _); first
      | (refine' Dd.dt_cmp L2.op_in_seq (by rfl) ?a1 ?b1 ?r1; (case' a1 => wtm_at "dE"); (case' b1 => wtm_at "dE"); (case' r1 => exact Dd.rd_in rfl rfl (by wtm_at "dC"))))
  | ((with_reducible show Dd.DT _ _ _ (.Compare _ [.NotIn] [_] _) _ _); first
      | (refine' Dd.dt_cmp L2.op_notIn_seq (by rfl) ?a1 ?b1 ?r1; (case' a1 => wtm_at "dE"); (case' b1 => wtm_at "dE"); (case' r1 => exact Dd.rd_notIn rfl rfl (by wtm_at "dC"))))
  | ((with_reducible show Dd.DT _ _ _ (.Compare _ [.Is] [_] _) _ _); first
      | (refine' Dd.dt_cmp L2.op_isN (L2.nomark _) ?a1 ?b1 ?r1; (case' a1 => wtm_at "dE"); (case' b1 => wtm_at "dE"); (case' r1 => exact Dd.rd_isN)))
  | ((with_reducible show Dd.DT _ _ _ (.Compare _ [.IsNot] [_] _) _ _); first
      | (refine' Dd.dt_cmp L2.op_notN (L2.nomark _) ?a1 ?b1 ?r1; (case' a1 => wtm_at "dE"); (case' b1 => wtm_at "dE"); (case' r1 => exact Dd.rd_notN)))
  | ((with_reducible show Dd.DT _ _ _ (.Compare _ [.Lt] [_] _) _ _); first
      | (refine' Dd.dt_cmp L2.op_lt (L2.nomark _) ?a1 ?b1 ?r1; (case' a1 => wtm_at "dE"); (case' b1 => wtm_at "dE"); (case' r1 => exact Dd.rd_I0 (Dd.vd_bl _))))
  | ((with_reducible show Dd.DT _ _ _ (.Compare _ [.LtE] [_] _) _ _); first
      | (refine' Dd.dt_cmp L2.op_le (L2.nomark _) ?a1 ?b1 ?r1; (case' a1 => wtm_at "dE"); (case' b1 => wtm_at "dE"); (case' r1 => exact Dd.rd_I0 (Dd.vd_bl _))))
  | ((with_reducible show Dd.DT _ _ _ (.Compare _ [.Gt] [_] _) _ _); first
      | (refine' Dd.dt_cmp L2.op_gt (L2.nomark _) ?a1 ?b1 ?r1; (case' a1 => wtm_at "dE"); (case' b1 => wtm_at "dE"); (case' r1 => exact Dd.rd_I0 (Dd.vd_bl _))))
  | ((with_reducible show Dd.DT _ _ _ (.Compare _ [.GtE] [_] _) _ _); first
      | (refine' Dd.dt_cmp L2.op_ge (L2.nomark _) ?a1 ?b1 ?r1; (case' a1 => wtm_at "dE"); (case' b1 => wtm_at "dE"); (case' r1 => exact Dd.rd_I0 (Dd.vd_bl _))))
  | ((with_reducible show Dd.DT _ _ _ (.Compare _ [.LtE, .LtE] _ _) _ _); first
      | (refine' Dd.dt_chain L2.op_le L2.op_le ?a1 ?b1 ?c1 ?r1 ?r2 ?r3; (case' a1 => wtm_at "dE"); (case' b1 => wtm_at "dE"); (case' c1 => wtm_at "dE"); (case' r1 => exact Dd.rd_I0 (Dd.vd_bl _)); (case' r2 => exact fun _ => Dd.rd_I0 (Dd.vd_bl _)); (case' r3 => wtm_at "dH")))
  | ((with_reducible show Dd.DT _ _ _ (.UnaryOp .Not _ _) _ _); first
      | (refine' Dd.dt_not ?a1; (case' a1 => wtm_at "dT")))
  | ((with_reducible show Dd.DT _ _ _ (.BoolOp _ _ _) _ _); first
      | (refine' Dd.dt_w ?a1; (case' a1 => wtm_at "dW")))
  | (refine' Dd.dt_val ?a1; (case' a1 => wtm_at "dE"))
  | wtm_at "dZ")
local macro_rules | `(tactic| wtm_at "dH") => `(tactic| (intro hk; first | rfl | assumption | (exact absurd hk (by decide)) | (exact absurd (of_decide_eq_false hk) (by omega))))
local macro_rules | `(tactic| wtm_at "dW") => `(tactic| first
  | (refine' Dd.dw_and1 ?a1; (case' a1 => wtm_at "dT"))
  | (refine' Dd.dw_or1 ?a1; (case' a1 => wtm_at "dT"))
  | (refine' Dd.dw_and' ?a1 ?t1; (case' a1 => wtm_at "dT"); (case' t1 => first | (refine' Dd.andW_T ?h1 ?h2; (case' h1 => wtm_at "dC"); (case' h2 => wtm_at "dW")) | exact Dd.andW_F (by wtm_at "dC")))
  | (refine' Dd.dw_or' ?a1 ?t1; (case' a1 => wtm_at "dT"); (case' t1 => first | (refine' Dd.orW_F ?h1 ?h2; (case' h1 => wtm_at "dC"); (case' h2 => wtm_at "dW")) | exact Dd.orW_T (by wtm_at "dC"))))
local macro_rules | `(tactic| wtm_at "dS") => `(tactic| first
  | exact Dd.dss_nil
  | (refine' Dd.dss_ret (Dd.ds_ret ?a1); (case' a1 => wtm_at "dE"))
  | exact Dd.dss_ret Dd.ds_retN
  | (refine' Dd.dss_if ?a1 ?t1; (case' a1 => wtm_at "dT"); (case' t1 => wtm_at "dI"))
  | (refine' Dd.dss_cons ?a1 ?b1; (case' a1 => wtm_at "dP"); (case' b1 => wtm_at "dS")))
local macro_rules | `(tactic| wtm_at "dI") => `(tactic| first
  | (refine' Dd.ife_T ?h1 ?h2 ?h3; (case' h1 => wtm_at "dC"); (case' h2 => wtm_at "dS"); (case' h3 => wtm_at "dQ"))
  | (refine' Dd.ife_F0 ?h1 ?h2; (case' h1 => wtm_at "dC"); (case' h2 => wtm_at "dS"))
  | (refine' Dd.ife_F ?h1 ?h2 ?h3; (case' h1 => wtm_at "dC"); (case' h2 => wtm_at "dS"); (case' h3 => wtm_at "dQ")))
local macro_rules | `(tactic| wtm_at "dQ") => `(tactic| first | exact Dd.seq_ret | (refine' Dd.seq_nx ?a1; (case' a1 => wtm_at "dS")))
local macro_rules | `(tactic| wtm_at "dP") => `(tactic| first
  | ((with_reducible show Dd.DS _ _ _ (.Assign [.Name _ _] _ _) _); first
  | (refine' Dd.ds_set 1 ?a1 (by assumption); (case' a1 => wtm_at "dE"))
  | (refine' Dd.ds_set 2 ?a1 (by assumption); (case' a1 => wtm_at "dE"))
  | (refine' Dd.ds_set 3 ?a1 (by assumption); (case' a1 => wtm_at "dE"))
  | (refine' Dd.ds_set 4 ?a1 (by assumption); (case' a1 => wtm_at "dE"))
  | (refine' Dd.ds_set 5 ?a1 (by assumption); (case' a1 => wtm_at "dE"))
  | (refine' Dd.ds_set 6 ?a1 (by assumption); (case' a1 => wtm_at "dE"))
  | (refine' Dd.ds_set 7 ?a1 (by assumption); (case' a1 => wtm_at "dE"))
  | (refine' Dd.ds_set 8 ?a1 (by assumption); (case' a1 => wtm_at "dE"))
  | (refine' Dd.ds_set 9 ?a1 (by assumption); (case' a1 => wtm_at "dE"))
  | (refine' Dd.ds_set 10 ?a1 (by assumption); (case' a1 => wtm_at "dE"))
  | (refine' Dd.ds_set 11 ?a1 (by assumption); (case' a1 => wtm_at "dE"))
  | (refine' Dd.ds_set 12 ?a1 (by assumption); (case' a1 => wtm_at "dE"))
  | (refine' Dd.ds_set 13 ?a1 (by assumption); (case' a1 => wtm_at "dE")))
  | ((with_reducible show Dd.DS _ _ _ (.Assign [.Tuple _ _ _] _ _) _); first
  | (refine' Dd.ds_par 2 3 ?a1 rfl (by assumption); (case' a1 => wtm_at "dA"))
  | (refine' Dd.ds_par 3 4 ?a1 rfl (by assumption); (case' a1 => wtm_at "dA"))
  | (refine' Dd.ds_par 4 5 ?a1 rfl (by assumption); (case' a1 => wtm_at "dA"))
  | (refine' Dd.ds_par 5 6 ?a1 rfl (by assumption); (case' a1 => wtm_at "dA"))
  | (refine' Dd.ds_par 6 7 ?a1 rfl (by assumption); (case' a1 => wtm_at "dA"))
  | (refine' Dd.ds_par 7 8 ?a1 rfl (by assumption); (case' a1 => wtm_at "dA"))
  | (refine' Dd.ds_asg (ks := [2, 3]) ?a1 (Dd.dg_two 2 3 rfl (by assumption)) ?p1; (case' a1 => wtm_at "dE"); (case' p1 => rfl))
  | (refine' Dd.ds_asg (ks := [3, 4]) ?a1 (Dd.dg_two 3 4 rfl (by assumption)) ?p1; (case' a1 => wtm_at "dE"); (case' p1 => rfl))
  | (refine' Dd.ds_asg (ks := [4, 5]) ?a1 (Dd.dg_two 4 5 rfl (by assumption)) ?p1; (case' a1 => wtm_at "dE"); (case' p1 => rfl))
  | (refine' Dd.ds_asg (ks := [5, 6]) ?a1 (Dd.dg_two 5 6 rfl (by assumption)) ?p1; (case' a1 => wtm_at "dE"); (case' p1 => rfl))
  | (refine' Dd.ds_asg (ks := [6, 7]) ?a1 (Dd.dg_two 6 7 rfl (by assumption)) ?p1; (case' a1 => wtm_at "dE"); (case' p1 => rfl))
  | (refine' Dd.ds_asg (ks := [7, 8]) ?a1 (Dd.dg_two 7 8 rfl (by assumption)) ?p1; (case' a1 => wtm_at "dE"); (case' p1 => rfl))
  | (refine' Dd.ds_asg (ks := [3, 4, 5]) ?a1 (Dd.dg_three 3 4 5 rfl (by assumption)) ?p1; (case' a1 => wtm_at "dE"); (case' p1 => rfl)))
  | (refine' Dd.ds_expr ?a1; (case' a1 => wtm_at "dE")))
section
/-! F1 -/
/-! sayings -/
inductive Say where
  | inn (w : Str)
  | out (w : Str)
  | not (s : Say)
  | and (s t : Say)
  | or (s t : Say)
def Say.d : Say → PyData
  | .inn w => .tuple [.str "in", .str w]
  | .out w => .tuple [.str "out", .str w]
  | .not s => .tuple [.str "not", s.d]
  | .and s t => .tuple [.str "and", s.d, t.d]
  | .or s t => .tuple [.str "or", s.d, t.d]
def Say.depth : Say → Nat
  | .inn _ => 1
  | .out _ => 1
  | .not s => s.depth + 1
  | .and s t => max s.depth t.depth + 1
  | .or s t => max s.depth t.depth + 1
def beatD (b : Str × Str) : PyData := .tuple [.str b.1, .str b.2]
def so (b : Str × Str) : Say → Bool
  | .inn w => b.1 == w
  | .out w => b.2 == w
  | .not s => !so b s
  | .and s t => so b s && so b t
  | .or s t => so b s || so b t
def R_so (n : Nat) : Rl := fun ds r => ∃ (s : Say) (b : Str × Str), s.depth ≤ n ∧ ds = [s.d, beatD b] ∧ r = .bool (so b s)
section
variable {T : Tb} {P : Program} {w : World} {K : PySem.W.Frag} {mg : Str → Option Value} {base : Heap} {f : Addr} {fd : FuncData}
local macro_rules | `(tactic| wtm_at "dR") => `(tactic| exact ⟨_, _, by assumption, rfl, rfl⟩)
theorem ok_is_so_by (F : Fun K "is_so_by" "is_so_by" s_is_so_by f fd) (gm : mg "is_so_by" = some (.ref f)) (mi : mg "int" = none) (n : Nat) : FnOk P w K mg base CX0 (n + 1) f fd ["saying", "beat"] (SpD T K (R_so n)) := by
  have nd := sc_is_so_by.nd
  induction n with
  | zero =>
    refine fn_pure F sc_is_so_by (fun ds d ⟨s, b, hs, e, _⟩ => by rw [e] <;> rfl) fun ds d ⟨s, b, hs, e, er⟩ cdv A outer s' H E hr => ?_
    cases s <;> simp only [Say.depth] at hs <;> omega
  | succ n ih =>
    have C : Cal P w K mg base (n + 1) "is_so_by" (SpD T K (R_so n)) := ⟨f, fd, _, gm, F.kp, F.binds fun _ _ _ _ _ _ us hl => match us, hl with | [_, _], _ => rfl, ih⟩
    refine fn_pure F sc_is_so_by (fun ds d ⟨s, b, hs, e, _⟩ => by rw [e] <;> rfl) fun ds d ⟨s, b, hs, e, er⟩ cdv A outer s' H E hr => ?_
    subst e er
    obtain ⟨b1, b2⟩ := b
    cases s with
    | inn w =>
      refine' by_out ?h1 ?h2
      case h1 =>
        show DSs _ _ [.dat _, .dat _, .un, .un] _ _
        wtm_at "dS"
      case h2 => rfl
    | out w =>
      refine' by_out ?h1 ?h2
      case h1 =>
        show DSs _ _ [.dat _, .dat _, .un, .un] _ _
        wtm_at "dS"
      case h2 => rfl
    | not s =>
      have hs1 : s.depth ≤ n := by
        simp only [Say.depth] at hs
        omega
      refine' by_out ?h1 ?h2
      case h1 =>
        show DSs _ _ [.dat _, .dat _, .un, .un] _ _
        wtm_at "dS"
      case h2 => rfl
    | and s t =>
      have hs1 : s.depth ≤ n := by
        simp only [Say.depth] at hs
        omega
      have hs2 : t.depth ≤ n := by
        simp only [Say.depth] at hs
        omega
      have e : so (b1, b2) (.and s t) = (so (b1, b2) s && so (b1, b2) t) := rfl
      rw [e]
      cases h1 : so (b1, b2) s <;> cases h2 : so (b1, b2) t
      all_goals
        refine' by_out ?h1 ?h2
        case h1 =>
          show DSs _ _ [.dat _, .dat _, .un, .un] _ _
          wtm_at "dS"
        case h2 => first | rfl | exact congrArg _ h2 | exact congrArg _ h1
    | or s t =>
      have hs1 : s.depth ≤ n := by
        simp only [Say.depth] at hs
        omega
      have hs2 : t.depth ≤ n := by
        simp only [Say.depth] at hs
        omega
      have e : so (b1, b2) (.or s t) = (so (b1, b2) s || so (b1, b2) t) := rfl
      rw [e]
      cases h1 : so (b1, b2) s <;> cases h2 : so (b1, b2) t
      all_goals
        refine' by_out ?h1 ?h2
        case h1 =>
          show DSs _ _ [.dat _, .dat _, .un, .un] _ _
          wtm_at "dS"
        case h2 => first | rfl | exact congrArg _ h2 | exact congrArg _ h1
end
end
section
/-! F2 -/
/-! ### looks -/
def R_is_whole : Rl := fun ds r => ∃ i, ds = [.int i] ∧ r = .bool true
def R_is_within : Rl := fun ds r => ∃ i lo hi, ds = [.int i, .int lo, .int hi] ∧ lo ≤ i ∧ i ≤ hi ∧ r = .bool true
def small : Str := "abcdefghijklmnopqrstuvwxyz"
structure Word (w : Str) : Prop where
  lo : 1 ≤ w.length
  hi : w.length ≤ 8
  ok : ∀ c ∈ w.cps.toList, c ∈ small.cps.toList
def R_is_word : Rl := fun ds r => ∃ w, ds = [.str w] ∧ Word w ∧ r = .bool true
section
variable {T : Tb} {P : Program} {w : World} {K : PySem.W.Frag} {mg : Str → Option Value} {base : Heap} {f : Addr} {fd : FuncData}
theorem ok_is_whole (F : Fun K "is_whole" "is_whole" s_is_whole f fd) (mI : mg "isinstance" = none) (mi : mg "int" = none) (mb : mg "bool" = none) : FnOk P w K mg base CX0 1 f fd ["thing"] (SpD T K R_is_whole) := by
  have nd := sc_is_whole.nd
  refine fn_pure F sc_is_whole (fun ds d ⟨i, e, _⟩ => by rw [e] <;> rfl) fun ds d ⟨i, e, er⟩ cdv A outer s H E hr => ?_
  subst e er
  refine' by_out ?h1 ?h2
  case h1 =>
    show DSs _ _ [.dat _] _ _
    wtm_at "dS"
  case h2 => rfl
local macro_rules | `(tactic| wtm_at "dR") => `(tactic| exact ⟨_, rfl, rfl⟩)
theorem ok_is_within (F : Fun K "is_within" "is_within" s_is_within f fd) (C : Cal P w K mg base 1 "is_whole" (SpD T K R_is_whole)) : FnOk P w K mg base CX0 2 f fd ["thing", "least", "most"] (SpD T K R_is_within) := by
  have nd := sc_is_within.nd
  refine fn_pure F sc_is_within (fun ds d ⟨i, lo, hi, e, _⟩ => by rw [e] <;> rfl) fun ds d ⟨i, lo, hi, e, h1, h2, er⟩ cdv A outer s H E hr => ?_
  subst e er
  refine' by_out ?h1 ?h2
  case h1 =>
    show DSs _ _ [.dat _, .dat _, .dat _] _ _
    wtm_at "dS"
  case h2 => exact congrArg PyData.bool (decide_eq_true h2)
theorem ok_is_word (F : Fun K "is_word" "is_word" s_is_word f fd) (mI : mg "isinstance" = none) (ms : mg "str" = none) (ml : mg "len" = none) (ma : mg "all" = none) {t : Tok} (mS : mg "SMALL" = some (.str small t)) : FnOk P w K mg base CX0 1 f fd ["thing"] (SpD T K R_is_word) := by
  have nd := sc_is_word.nd
  refine fn_pure F sc_is_word (fun ds d ⟨i, e, _⟩ => by rw [e] <;> rfl) fun ds d ⟨z, e, hw, er⟩ cdv A outer s H E hr => ?_
  subst e er
  have h1 := hw.lo
  have h2 := hw.hi
  refine' by_out ?h1 ?h2
  case h1 =>
    show DSs _ _ [.dat _, .un] _ _
    refine' Dd.dss_ret (Dd.ds_ret ?a1)
    case a1 =>
      refine' Dd.de_and' ?a2 ?t2
      case a2 => wtm_at "dE"
      case t2 =>
        refine' Dd.andE_T ?h3 ?h4
        case h3 => rfl
        case h4 =>
          refine' Dd.de_and' ?a3 ?t3
          case a3 =>
            refine' Dd.de_chain L2.op_le L2.op_le ?a4 ?b4 ?c4 ?r4 ?r5 ?r6
            case a4 => wtm_at "dE"
            case b4 =>
              refine' Dd.de_callB L2.call_len (by assumption) (by decide +kernel) ?a5 ?r7
              case a5 => wtm_at "dA"
              case r7 => exact Dd.rc_lenS (by omega)
            case c4 => wtm_at "dE"
            case r4 => exact Dd.rd_I0 (Dd.vd_bl _)
            case r5 => exact fun _ => Dd.rd_I0 (Dd.vd_bl _)
            case r6 => wtm_at "dH"
          case t3 =>
            refine' Dd.andE_T ?h5 ?h6
            case h5 => exact decide_eq_true (by omega)
            case h6 =>
              refine' Dd.de_one ?a6
              case a6 =>
                refine' Dd.de_callB (L2.cr_all rfl) (by assumption) (by decide +kernel) ?a7 ?r8
                case a7 =>
                  refine' Dd.da_cons ?a8 Dd.da_nil
                  case a8 =>
                    refine' Dd.de_comp [("sign", 1)] [1] (Dd.di_str ?a9 ?l9) (L2.blkOk_by (N := n_is_word) (sc := defScope s_is_word) (by decide +kernel)) (by assumption) ?g9 rfl ?c9
                    case a9 => wtm_at "dE"
                    case l9 => omega
                    case g9 => exact fun s H C cl fp => Dd.dg_name 1 nd
                    case c9 =>
                      refine Dd.compR_all rfl rfl fun d hd => ?_
                      obtain ⟨c, hc, rfl⟩ := List.mem_map.mp hd
                      refine ⟨_, rfl, fun s H C cl fp => ?_⟩
                      refine Dd.de_is ?_ (congrArg PyData.bool (decide_eq_true (hw.ok c hc)))
                      exact Dd.de_cmp L2.op_in_sign rfl (Dd.de_name 1) (Dd.de_globS mS) Dd.rd_inSign
                case r8 => exact Dd.rc_allT Dd.all_true
  case h2 => rfl
end
end
section
/-! F3 -/
/-! ### letters -/
def wordsD (ws : List Str) : PyData := .tuple (ws.map .str)
def lettersD (i o : List Str) : PyData := .tuple [wordsD i, wordsD o]
structure Words (ws : List Str) : Prop where
  lo : 1 ≤ ws.length
  hi : ws.length ≤ 3
  nd : ws.Nodup
  ok : ∀ w ∈ ws, Word w
def R_are_words : Rl := fun ds r => ∃ ws, ds = [wordsD ws] ∧ Words ws ∧ r = .bool true
def R_is_letters : Rl := fun ds r => ∃ i o, ds = [lettersD i o] ∧ Words i ∧ Words o ∧ r = .bool true
def R_need_letters : Rl := fun ds r => ∃ i o, ds = [lettersD i o] ∧ Words i ∧ Words o ∧ r = .none
def R_is_beat : Rl := fun ds r => ∃ i o b, ds = [lettersD i o, beatD b] ∧ b.1 ∈ i ∧ b.2 ∈ o ∧ r = .bool true
def SayOk (i o : List Str) : Say → Prop
  | .inn w => w ∈ i
  | .out w => w ∈ o
  | .not s => SayOk i o s
  | .and s t => SayOk i o s ∧ SayOk i o t
  | .or s t => SayOk i o s ∧ SayOk i o t
def R_saying (n : Nat) : Rl := fun ds r => ∃ (i o : List Str) (s : Say) (k : Int), ds = [lettersD i o, s.d, .int k] ∧ SayOk i o s ∧ s.depth ≤ n ∧ (s.depth : Int) ≤ k ∧ r = .bool true
theorem flat_strs : ∀ ws : List Str, (ws.map PyData.str).all flatD = true
  | [] => rfl
  | w :: ws => by
    rw [List.map_cons, List.all_cons, flat_strs ws] <;> rfl
theorem eqv_str (x y : Str) : PyData.eqv (.str x) (.str y) = (x == y) := by simp only [PyData.eqv]
theorem eqv_int (x y : Int) : PyData.eqv (.int x) (.int y) = (x == y) := by simp only [PyData.eqv]
theorem in_strs {x : Str} : ∀ {ws : List Str}, x ∈ ws → inD (.str x) (ws.map .str) = true
  | w :: ws, h => by
    unfold inD
    rw [List.map_cons, List.any_cons, eqv_str]
    rcases List.mem_cons.mp h with e | h
    · subst e
      rw [beq_self_eq_true] <;> rfl
    · have := in_strs h
      unfold inD at this
      rw [this, Bool.or_true]
section
variable {T : Tb} {P : Program} {w : World} {K : PySem.W.Frag} {mg : Str → Option Value} {base : Heap} {f : Addr} {fd : FuncData}
local macro_rules | `(tactic| wtm_at "dR") => `(tactic| exact ⟨_, rfl, by assumption, rfl⟩)
theorem ok_is_letters (F : Fun K "is_letters" "is_letters" s_is_letters f fd) (mI : mg "isinstance" = none) (mt : mg "tuple" = none) (ml : mg "len" = none) (C : Cal P w K mg base 2 "are_words" (SpD T K R_are_words)) : FnOk P w K mg base CX0 3 f fd ["thing"] (SpD T K R_is_letters) := by
  have nd := sc_is_letters.nd
  refine fn_pure F sc_is_letters (fun ds d ⟨i, o, e, _⟩ => by rw [e] <;> rfl) fun ds d ⟨i, o, e, h1, h2, er⟩ cdv A outer s H E hr => ?_
  subst e er
  refine' by_out ?h1 ?h2
  case h1 =>
    show DSs _ _ [.dat _] _ _
    wtm_at "dS"
  case h2 => rfl
local macro_rules | `(tactic| wtm_at "dR") => `(tactic| exact ⟨_, _, rfl, by assumption, by assumption, rfl⟩)
theorem ok_need_letters (F : Fun K "need_letters" "need_letters" s_need_letters f fd) (C : Cal P w K mg base 3 "is_letters" (SpD T K R_is_letters)) : FnOk P w K mg base CX0 4 f fd ["thing"] (SpD T K R_need_letters) := by
  have nd := sc_need_letters.nd
  refine fn_pure F sc_need_letters (fun ds d ⟨i, o, e, _⟩ => by rw [e] <;> rfl) fun ds d ⟨i, o, e, h1, h2, er⟩ cdv A outer s H E hr => ?_
  subst e er
  refine' by_out ?h1 ?h2
  case h1 =>
    show DSs _ _ [.dat _] _ _
    wtm_at "dS"
  case h2 => rfl
theorem ok_is_beat (F : Fun K "is_beat" "is_beat" s_is_beat f fd) (mI : mg "isinstance" = none) (mt : mg "tuple" = none) (ms : mg "str" = none) (ml : mg "len" = none) (ma : mg "all" = none) : FnOk P w K mg base CX0 1 f fd ["letters", "thing"] (SpD T K R_is_beat) := by
  have nd := sc_is_beat.nd
  refine fn_pure F sc_is_beat (fun ds d ⟨i, o, b, e, _⟩ => by rw [e] <;> rfl) fun ds d ⟨i, o, b, e, h1, h2, er⟩ cdv A outer s H E hr => ?_
  subst e er
  have f1 := flat_strs i
  have f2 := flat_strs o
  have i1 := in_strs h1
  have i2 := in_strs h2
  refine' by_out ?h1 ?h2
  case h1 =>
    show DSs _ _ [.dat _, .dat _, .un] _ _
    refine' Dd.dss_if (k := false) ?a1 ?t1
    case a1 =>
      refine' Dd.dt_w ?a2
      case a2 =>
        refine' Dd.dw_or' ?a3 ?t3
        case a3 => wtm_at "dT"
        case t3 =>
          refine' Dd.orW_F rfl ?h3
          case h3 =>
            refine' Dd.dw_or' ?a4 ?t4
            case a4 => wtm_at "dT"
            case t4 =>
              refine' Dd.orW_F rfl ?h4
              case h4 =>
                refine' Dd.dw_or1 (Dd.dt_not (k := true) (Dd.dt_val ?a5))
                case a5 =>
                  refine' Dd.de_callB (L2.cr_all rfl) (by assumption) (by decide +kernel) ?a7 ?r8
                  case a7 =>
                    refine' Dd.da_cons ?a8 Dd.da_nil
                    case a8 =>
                      refine' Dd.de_comp [("one", 2)] [2] (Dd.di_tup ?a9) (L2.blkOk_by (N := n_is_beat) (sc := defScope s_is_beat) (by decide +kernel)) (by assumption) ?g9 rfl ?c9
                      case a9 => wtm_at "dE"
                      case g9 => exact fun s H C cl fp => Dd.dg_name 2 nd
                      case c9 =>
                        refine Dd.compR_all rfl rfl fun d hd => ?_
                        refine ⟨_, rfl, fun s H C cl fp => ?_⟩
                        rcases List.mem_cons.mp hd with rfl | hd
                        · wtm_at "dE"
                        · rcases List.mem_cons.mp hd with rfl | hd
                          · wtm_at "dE"
                          · cases hd
                  case r8 => exact Dd.rc_allT Dd.all_true
    case t1 =>
      refine' Dd.ife_F0 rfl ?h5
      case h5 => wtm_at "dS"
  case h2 => exact congrArg PyData.bool i2
end
section
variable {T : Tb} {P : Program} {w : World} {K : PySem.W.Frag} {mg : Str → Option Value} {base : Heap} {f : Addr} {fd : FuncData}
local macro_rules | `(tactic| wtm_at "dR") => `(tactic| exact ⟨_, _, _, _, rfl, by assumption, by assumption, by omega, rfl⟩)
theorem ok_is_saying_by (F : Fun K "is_saying_by" "is_saying_by" s_is_saying_by f fd) (gm : mg "is_saying_by" = some (.ref f)) (mI : mg "isinstance" = none) (mt : mg "tuple" = none) (ms : mg "str" = none) (ml : mg "len" = none) (n : Nat) :
    FnOk P w K mg base CX0 (n + 1) f fd ["letters", "thing", "depth"] (SpD T K (R_saying n)) := by
  have nd := sc_is_saying_by.nd
  induction n with
  | zero =>
    refine fn_pure F sc_is_saying_by (fun ds d ⟨i, o, s, k, e, _⟩ => by rw [e] <;> rfl) fun ds d ⟨i, o, s, k, e, h1, h2, h3, er⟩ cdv A outer s' H E hr => ?_
    cases s <;> simp only [Say.depth] at h2 <;> omega
  | succ n ih =>
    have C : Cal P w K mg base (n + 1) "is_saying_by" (SpD T K (R_saying n)) := ⟨f, fd, _, gm, F.kp, F.binds fun _ _ _ _ _ _ us hl => match us, hl with | [_, _, _], _ => rfl, ih⟩
    refine fn_pure F sc_is_saying_by (fun ds d ⟨i, o, s, k, e, _⟩ => by rw [e] <;> rfl) fun ds d ⟨i, o, s, k, e, h1, h2, h3, er⟩ cdv A outer s' H E hr => ?_
    subst e er
    have f1 := flat_strs i
    have f2 := flat_strs o
    have k0 : PyData.eqv (.int k) (.int 0) = false := by
      rw [eqv_int]
      refine beq_eq_false_iff_ne.mpr fun z => ?_
      cases s <;> simp only [Say.depth] at h3 <;> omega
    cases s with
    | inn z =>
      have i1 := in_strs h1
      refine' by_out ?h1 ?h2
      case h1 =>
        show DSs _ _ [.dat _, .dat _, .dat _, .un] _ _
        wtm_at "dS"
      case h2 => exact congrArg PyData.bool i1
    | out z =>
      have i1 := in_strs h1
      refine' by_out ?h1 ?h2
      case h1 =>
        show DSs _ _ [.dat _, .dat _, .dat _, .un] _ _
        wtm_at "dS"
      case h2 => exact congrArg PyData.bool i1
    | not s =>
      have d1 : s.depth ≤ n := by
        simp only [Say.depth] at h2
        omega
      have g1 : SayOk i o s := h1
      simp only [Say.depth] at h3
      refine' by_out ?h1 ?h2
      case h1 =>
        show DSs _ _ [.dat _, .dat _, .dat _, .un] _ _
        wtm_at "dS"
      case h2 => rfl
    | and s t =>
      have d1 : s.depth ≤ n := by
        simp only [Say.depth] at h2
        omega
      have d2 : t.depth ≤ n := by
        simp only [Say.depth] at h2
        omega
      have g1 : SayOk i o s := h1.1
      have g2 : SayOk i o t := h1.2
      simp only [Say.depth] at h3
      refine' by_out ?h1 ?h2
      case h1 =>
        show DSs _ _ [.dat _, .dat _, .dat _, .un] _ _
        wtm_at "dS"
      case h2 => rfl
    | or s t =>
      have d1 : s.depth ≤ n := by
        simp only [Say.depth] at h2
        omega
      have d2 : t.depth ≤ n := by
        simp only [Say.depth] at h2
        omega
      have g1 : SayOk i o s := h1.1
      have g2 : SayOk i o t := h1.2
      simp only [Say.depth] at h3
      refine' by_out ?h1 ?h2
      case h1 =>
        show DSs _ _ [.dat _, .dat _, .dat _, .un] _ _
        wtm_at "dS"
      case h2 => rfl
end
end
section
/-! F5 -/
/-! ### sentences, steps -/
inductive Sen where
  | never (p : Say)
  | after (p q : Say)
  | untl (p q r : Say)
  | within (p q : Say) (k : Nat)
  | first (p q : Say)
  | most (p : Say) (k : Nat)
  | apart (p : Say) (k : Nat)
def Sen.d : Sen → PyData
  | .never p => .tuple [.str "never", p.d]
  | .after p q => .tuple [.str "after", p.d, q.d]
  | .untl p q r => .tuple [.str "until", p.d, q.d, r.d]
  | .within p q k => .tuple [.str "within", p.d, q.d, .int (k : Int)]
  | .first p q => .tuple [.str "first", p.d, q.d]
  | .most p k => .tuple [.str "most", p.d, .int (k : Int)]
  | .apart p k => .tuple [.str "apart", p.d, .int (k : Int)]
def Sen.says : Sen → List Say
  | .never p => [p]
  | .after p q => [p, q]
  | .untl p q r => [p, q, r]
  | .within p q _ => [p, q]
  | .first p q => [p, q]
  | .most p _ => [p]
  | .apart p _ => [p]
def Sen.shallow (s : Sen) : Prop := ∀ p ∈ s.says, p.depth ≤ 4
abbrev Bt := Str × Str
def stepWithin (p q : Say) (k n : Nat) (b : Bt) : Option Nat :=
  if 0 < n then (if so b q = true then some (if so b p = true then k else 0) else if n = 1 then none else some (n - 1)) else some (if so b p = true then k else 0)
def stepMost (p : Say) (k n : Nat) (b : Bt) : Option Nat := if so b p = true then (if n + 1 ≤ k then some (n + 1) else none) else if n ≤ k then some n else none
def stepApart (p : Say) (k n : Nat) (b : Bt) : Option Nat := if so b p = true then (if n = 0 then some k else none) else some (n - 1)
def stepFirst (p q : Say) (n : Nat) (b : Bt) : Option Nat := if so b p = true then some 1 else if so b q = true then (if n = 0 then none else some n) else some n
def stepUntil (over : Bool) (p q : Say) (n : Nat) (b : Bt) : Option Nat :=
  if n = 1 then (if over = true then some (if so b p = true then 1 else 0) else if so b q = true then none else some 1) else some (if so b p = true then 1 else 0)
def step (b : Bt) (n : Nat) : Sen → Option Nat
  | .never p => if so b p = true then none else some 0
  | .after p q => stepUntil false p q n b
  | .untl p q r => stepUntil (so b r) p q n b
  | .within p q k => stepWithin p q k n b
  | .first p q => stepFirst p q n b
  | .most p k => stepMost p k n b
  | .apart p k => stepApart p k n b
def optD : Option Nat → PyData
  | none => .none
  | some n => .int (n : Int)
def R_step (ok : Sen → Prop) : Rl := fun ds r => ∃ (s : Sen) (n : Nat) (b : Bt), ds = [s.d, .int (n : Int), beatD b] ∧ s.shallow ∧ ok s ∧ r = optD (step b n s)
def isWithin : Sen → Prop
  | .within _ _ _ => True
  | _ => False
def isCounted : Sen → Prop
  | .most _ _ => True
  | .apart _ _ => True
  | _ => False
def isMarked : Sen → Prop
  | .after _ _ => True
  | .untl _ _ _ => True
  | .first _ _ => True
  | _ => False
theorem eqv_nat0 {n : Nat} (h : n = 0) : PyData.eqv (.int (n : Int)) (.int 0) = true := by
  rw [eqv_int, h] <;> rfl
theorem eqv_natS {n : Nat} (h : 0 < n) : PyData.eqv (.int (n : Int)) (.int 0) = false := by
  rw [eqv_int]
  exact beq_eq_false_iff_ne.mpr (by omega)
section
variable {T : Tb} {P : Program} {w : World} {K : PySem.W.Frag} {mg : Str → Option Value} {base : Heap} {f : Addr} {fd : FuncData}
local macro_rules | `(tactic| wtm_at "dR") => `(tactic| exact ⟨_, _, by assumption, rfl, rfl⟩)
theorem ok_step_within (F : Fun K "step_within" "step_within" s_step_within f fd) (C : Cal P w K mg base 5 "is_so_by" (SpD T K (R_so 4))) : FnOk P w K mg base CX0 6 f fd ["sentence", "left", "beat"] (SpD T K (R_step isWithin)) := by
  have nd := sc_step_within.nd
  refine fn_pure F sc_step_within (fun ds d ⟨s, n, b, e, _⟩ => by rw [e] <;> rfl) fun ds d ⟨s, n, b, e, h1, h2, er⟩ cdv A outer s' H E hr => ?_
  subst e er
  obtain ⟨p, q, k, rfl⟩ : ∃ p q k, s = .within p q k := by
    cases s with
    | within p q k => exact ⟨p, q, k, rfl⟩
    | _ => exact h2.elim
  have d1 : p.depth ≤ 4 := h1 p (by simp [Sen.says])
  have d2 : q.depth ≤ 4 := h1 q (by simp [Sen.says])
  show ∃ o, _ ∧ OutR o (optD (stepWithin p q k n b))
  unfold stepWithin
  by_cases hn : 0 < n
  · have g1 : decide ((0 : Int) < (n : Int)) = true := decide_eq_true (by omega)
    rw [if_pos hn]
    cases hq : so b q with
    | true =>
      rw [if_pos rfl]
      cases hp : so b p with
      | true =>
        refine' by_out ?h1 ?h2
        case h1 =>
          show DSs _ _ [.dat _, .dat _, .dat _] _ _
          wtm_at "dS"
        case h2 => rfl
      | false =>
        refine' by_out ?h1 ?h2
        case h1 =>
          show DSs _ _ [.dat _, .dat _, .dat _] _ _
          wtm_at "dS"
        case h2 => rfl
    | false =>
      rw [if_neg Bool.false_ne_true]
      by_cases h1 : n = 1
      · have g2 : PyData.eqv (.int ((n : Int) - 1)) (.int 0) = true := by rw [eqv_int, h1] <;> rfl
        rw [if_pos h1]
        refine' by_out ?h1 ?h2
        case h1 =>
          show DSs _ _ [.dat _, .dat _, .dat _] _ _
          wtm_at "dS"
        case h2 => rfl
      · have g2 : PyData.eqv (.int ((n : Int) - 1)) (.int 0) = false := by
          rw [eqv_int]
          exact beq_eq_false_iff_ne.mpr (by omega)
        rw [if_neg h1]
        refine' by_out ?h1 ?h2
        case h1 =>
          show DSs _ _ [.dat _, .dat _, .dat _] _ _
          wtm_at "dS"
        case h2 => exact congrArg PyData.int (show (n : Int) - 1 = ((n - 1 : Nat) : Int) by omega)
  · have g1 : decide ((0 : Int) < (n : Int)) = false := decide_eq_false (by omega)
    have g3 := eqv_nat0 (show n = 0 by omega)
    rw [if_neg hn]
    cases hp : so b p with
    | true =>
      refine' by_out ?h1 ?h2
      case h1 =>
        show DSs _ _ [.dat _, .dat _, .dat _] _ _
        wtm_at "dS"
      case h2 => rfl
    | false =>
      refine' by_out ?h1 ?h2
      case h1 =>
        show DSs _ _ [.dat _, .dat _, .dat _] _ _
        wtm_at "dS"
      case h2 => exact congrArg PyData.int (show (n : Int) = ((0 : Nat) : Int) by omega)
end
end
section
/-! F6 -/
section
variable {T : Tb} {P : Program} {w : World} {K : PySem.W.Frag} {mg : Str → Option Value} {base : Heap} {f : Addr} {fd : FuncData}
local macro_rules | `(tactic| wtm_at "dR") => `(tactic| exact ⟨_, _, by assumption, rfl, rfl⟩)
theorem ok_step_counted (F : Fun K "step_counted" "step_counted" s_step_counted f fd) (mi : mg "int" = none) (mx : mg "max" = none) (C : Cal P w K mg base 5 "is_so_by" (SpD T K (R_so 4))) : FnOk P w K mg base CX0 6 f fd ["sentence", "state", "beat"] (SpD T K (R_step isCounted)) := by
  have nd := sc_step_counted.nd
  refine fn_pure F sc_step_counted (fun ds d ⟨s, n, b, e, _⟩ => by rw [e] <;> rfl) fun ds d ⟨s, n, b, e, h1, h2, er⟩ cdv A outer s' H E hr => ?_
  subst e er
  cases s with
  | most p k =>
    have d1 : p.depth ≤ 4 := h1 p (by simp [Sen.says])
    show ∃ o, _ ∧ OutR o (optD (stepMost p k n b))
    unfold stepMost
    cases hp : so b p with
    | true =>
      rw [if_pos rfl]
      by_cases hk : n + 1 ≤ k
      · have g1 : decide ((n : Int) + (if so b p = true then 1 else 0) ≤ (k : Int)) = true := decide_eq_true (by rw [hp, if_pos rfl]; omega)
        rw [if_pos hk]
        refine' by_out ?h1 ?h2
        case h1 =>
          show DSs _ _ [.dat _, .dat _, .dat _, .un, .un, .un, .un] _ _
          wtm_at "dS"
        case h2 => exact congrArg PyData.int (by rw [hp, if_pos rfl]; omega)
      · have g1 : decide ((n : Int) + (if so b p = true then 1 else 0) ≤ (k : Int)) = false := decide_eq_false (by rw [hp, if_pos rfl]; omega)
        rw [if_neg hk]
        refine' by_out ?h1 ?h2
        case h1 =>
          show DSs _ _ [.dat _, .dat _, .dat _, .un, .un, .un, .un] _ _
          wtm_at "dS"
        case h2 => rfl
    | false =>
      rw [if_neg Bool.false_ne_true]
      by_cases hk : n ≤ k
      · have g1 : decide ((n : Int) + (if so b p = true then 1 else 0) ≤ (k : Int)) = true := decide_eq_true (by rw [hp, if_neg Bool.false_ne_true]; omega)
        rw [if_pos hk]
        refine' by_out ?h1 ?h2
        case h1 =>
          show DSs _ _ [.dat _, .dat _, .dat _, .un, .un, .un, .un] _ _
          wtm_at "dS"
        case h2 => exact congrArg PyData.int (by rw [hp, if_neg Bool.false_ne_true]; omega)
      · have g1 : decide ((n : Int) + (if so b p = true then 1 else 0) ≤ (k : Int)) = false := decide_eq_false (by rw [hp, if_neg Bool.false_ne_true]; omega)
        rw [if_neg hk]
        refine' by_out ?h1 ?h2
        case h1 =>
          show DSs _ _ [.dat _, .dat _, .dat _, .un, .un, .un, .un] _ _
          wtm_at "dS"
        case h2 => rfl
  | apart p k =>
    have d1 : p.depth ≤ 4 := h1 p (by simp [Sen.says])
    show ∃ o, _ ∧ OutR o (optD (stepApart p k n b))
    unfold stepApart
    cases hp : so b p with
    | true =>
      rw [if_pos rfl]
      by_cases hn : n = 0
      · have g1 := eqv_nat0 hn
        rw [if_pos hn]
        refine' by_out ?h1 ?h2
        case h1 =>
          show DSs _ _ [.dat _, .dat _, .dat _, .un, .un, .un, .un] _ _
          wtm_at "dS"
        case h2 => rfl
      · have g1 := eqv_natS (show 0 < n by omega)
        rw [if_neg hn]
        refine' by_out ?h1 ?h2
        case h1 =>
          show DSs _ _ [.dat _, .dat _, .dat _, .un, .un, .un, .un] _ _
          wtm_at "dS"
        case h2 => rfl
    | false =>
      rw [if_neg Bool.false_ne_true]
      refine' by_out ?h1 ?h2
      case h1 =>
        show DSs _ _ [.dat _, .dat _, .dat _, .un, .un, .un, .un] _ _
        wtm_at "dS"
      case h2 =>
        refine congrArg PyData.int ?_
        split <;> omega
  | _ => exact h2.elim
theorem eqv_nat1 {n : Nat} (h : n = 1) : PyData.eqv (.int (n : Int)) (.int 1) = true := by
  rw [eqv_int, h] <;> rfl
theorem eqv_nat1F {n : Nat} (h : n ≠ 1) : PyData.eqv (.int (n : Int)) (.int 1) = false := by
  rw [eqv_int]
  exact beq_eq_false_iff_ne.mpr (by omega)
theorem ok_step_marked (F : Fun K "step_marked" "step_marked" s_step_marked f fd) (mi : mg "int" = none) (C : Cal P w K mg base 5 "is_so_by" (SpD T K (R_so 4))) : FnOk P w K mg base CX0 6 f fd ["sentence", "state", "beat"] (SpD T K (R_step isMarked)) := by
  have nd := sc_step_marked.nd
  refine fn_pure F sc_step_marked (fun ds d ⟨s, n, b, e, _⟩ => by rw [e] <;> rfl) fun ds d ⟨s, n, b, e, h1, h2, er⟩ cdv A outer s' H E hr => ?_
  subst e er
  cases s with
  | first p q =>
    have d1 : p.depth ≤ 4 := h1 p (by simp [Sen.says])
    have d2 : q.depth ≤ 4 := h1 q (by simp [Sen.says])
    show ∃ o, _ ∧ OutR o (optD (stepFirst p q n b))
    unfold stepFirst
    cases hp : so b p with
    | true =>
      rw [if_pos rfl]
      cases hq : so b q
      all_goals
        refine' by_out ?h1 ?h2
        case h1 =>
          show DSs _ _ [.dat _, .dat _, .dat _, .un, .un, .un] _ _
          wtm_at "dS"
        case h2 => rfl
    | false =>
      rw [if_neg Bool.false_ne_true]
      cases hq : so b q with
      | true =>
        rw [if_pos rfl]
        by_cases hn : n = 0
        · have g1 := eqv_nat0 hn
          rw [if_pos hn]
          refine' by_out ?h1 ?h2
          case h1 =>
            show DSs _ _ [.dat _, .dat _, .dat _, .un, .un, .un] _ _
            wtm_at "dS"
          case h2 => rfl
        · have g1 := eqv_natS (show 0 < n by omega)
          rw [if_neg hn]
          refine' by_out ?h1 ?h2
          case h1 =>
            show DSs _ _ [.dat _, .dat _, .dat _, .un, .un, .un] _ _
            wtm_at "dS"
          case h2 => rfl
      | false =>
        rw [if_neg Bool.false_ne_true]
        refine' by_out ?h1 ?h2
        case h1 =>
          show DSs _ _ [.dat _, .dat _, .dat _, .un, .un, .un] _ _
          wtm_at "dS"
        case h2 => rfl
  | after p q =>
    have d1 : p.depth ≤ 4 := h1 p (by simp [Sen.says])
    have d2 : q.depth ≤ 4 := h1 q (by simp [Sen.says])
    show ∃ o, _ ∧ OutR o (optD (stepUntil false p q n b))
    unfold stepUntil
    by_cases hn : n = 1
    · have g1 := eqv_nat1 hn
      rw [if_pos hn, if_neg Bool.false_ne_true]
      cases hq : so b q <;> cases hp : so b p
      all_goals
        refine' by_out ?h1 ?h2
        case h1 =>
          show DSs _ _ [.dat _, .dat _, .dat _, .un, .un, .un] _ _
          wtm_at "dS"
        case h2 => rfl
    · have g1 := eqv_nat1F hn
      rw [if_neg hn]
      cases hq : so b q <;> cases hp : so b p
      all_goals
        refine' by_out ?h1 ?h2
        case h1 =>
          show DSs _ _ [.dat _, .dat _, .dat _, .un, .un, .un] _ _
          wtm_at "dS"
        case h2 => rfl
  | untl p q r =>
    have d1 : p.depth ≤ 4 := h1 p (by simp [Sen.says])
    have d2 : q.depth ≤ 4 := h1 q (by simp [Sen.says])
    have d3 : r.depth ≤ 4 := h1 r (by simp [Sen.says])
    show ∃ o, _ ∧ OutR o (optD (stepUntil (so b r) p q n b))
    unfold stepUntil
    by_cases hn : n = 1
    · have g1 := eqv_nat1 hn
      rw [if_pos hn]
      cases hx : so b r <;> cases hq : so b q <;> cases hp : so b p
      all_goals
        refine' by_out ?h1 ?h2
        case h1 =>
          show DSs _ _ [.dat _, .dat _, .dat _, .un, .un, .un] _ _
          wtm_at "dS"
        case h2 => first | rfl | exact congrArg PyData.int (by rw [hx] <;> rfl)
    · have g1 := eqv_nat1F hn
      rw [if_neg hn]
      cases hx : so b r <;> cases hq : so b q <;> cases hp : so b p
      all_goals
        refine' by_out ?h1 ?h2
        case h1 =>
          show DSs _ _ [.dat _, .dat _, .dat _, .un, .un, .un] _ _
          wtm_at "dS"
        case h2 => first | rfl | exact congrArg PyData.int (by rw [hx] <;> rfl)
  | _ => exact h2.elim
end
section
variable {T : Tb} {P : Program} {w : World} {K : PySem.W.Frag} {mg : Str → Option Value} {base : Heap} {f : Addr} {fd : FuncData}
local macro_rules | `(tactic| wtm_at "dR") => `(tactic| first | exact ⟨_, _, by assumption, rfl, rfl⟩ | exact ⟨_, _, _, rfl, by assumption, by trivial, rfl⟩)
theorem ok_step_by (F : Fun K "step_by" "step_by" s_step_by f fd) (C : Cal P w K mg base 5 "is_so_by" (SpD T K (R_so 4))) (C1 : Cal P w K mg base 6 "step_within" (SpD T K (R_step isWithin))) (C2 : Cal P w K mg base 6 "step_counted" (SpD T K (R_step isCounted))) (C3 : Cal P w K mg base 6 "step_marked" (SpD T K (R_step isMarked))) :
    FnOk P w K mg base CX0 7 f fd ["sentence", "state", "beat"] (SpD T K (R_step fun _ => True)) := by
  have nd := sc_step_by.nd
  refine fn_pure F sc_step_by (fun ds d ⟨s, n, b, e, _⟩ => by rw [e] <;> rfl) fun ds d ⟨s, n, b, e, h1, h2, er⟩ cdv A outer s' H E hr => ?_
  subst e er
  cases s with
  | never p =>
    have d1 : p.depth ≤ 4 := h1 p (by simp [Sen.says])
    show ∃ o, _ ∧ OutR o (optD (if so b p = true then none else some 0))
    cases hp : so b p
    all_goals
      refine' by_out ?h1 ?h2
      case h1 =>
        show DSs _ _ [.dat _, .dat _, .dat _] _ _
        wtm_at "dS"
      case h2 => rfl
  | _ =>
    refine' by_out ?h1 ?h2
    case h1 =>
      show DSs _ _ [.dat _, .dat _, .dat _] _ _
      wtm_at "dS"
    case h2 => rfl
end
end
section
/-! F7 -/
/-! ### machines: the defs -/
def natD (n : Nat) : PyData := .int (n : Int)
def numK (n : Nat) : NestedKey := .num (n : Int)
theorem numK_inj : ∀ a b : Nat, numK a = numK b → a = b := fun a b h => by
  injection h with h
  exact Int.ofNat.inj h
def rowL (r : Row) : PyData := .list (r.map optD)
def rowT (r : Row) : PyData := .tuple (r.map optD)
def tabL (rs : List Row) : PyData := .list (rs.map rowL)
def tabT (rs : List Row) : PyData := .tuple (rs.map rowT)
theorem tab_at {rs : List Row} {i : Nat} (h : i < rs.length) : atI (rs.map rowL) (i : Int) = some (rowL (rs.getD i [])) := by
  refine atI_n ?_
  rw [List.getElem?_map, List.getElem?_eq_getElem h, List.getD_eq_getElem?_getD, List.getElem?_eq_getElem h]
  rfl
theorem nats_at {o : List Nat} {i s : Nat} (h : o[i]? = some s) : atI (o.map natD) (i : Int) = some (natD s) := by
  refine atI_n ?_
  rw [List.getElem?_map, h]
  rfl
def R_renumbered : Rl := fun ds r => ∃ (n m : Nat) (js : List Row), ds = [tabL js] ∧ Wf n m js ∧ 1 ≤ n ∧ n ≤ 1000 ∧ m ≤ 1000 ∧ r = tabT (table (nxt js) js.length 0)
section
variable {T : Tb} {P : Program} {w : World} {K : PySem.W.Frag} {mg : Str → Option Value} {base : Heap} {f : Addr} {fd : FuncData}
theorem ok_renumbered (F : Fun K "renumbered" "renumbered" s_renumbered f fd) (ml : mg "len" = none) (mt : mg "tuple" = none) : FnOk P w K mg base CX0 1 f fd ["rows"] (SpD T K R_renumbered) := by
  have nd := sc_renumbered.nd
  refine fn_pure F sc_renumbered (fun ds d ⟨n, m, js, e, _⟩ => by rw [e] <;> rfl) fun ds d ⟨n, m, js, e, wf, h1, h2, h3, er⟩ cdv A outer s H E hr => ?_
  subst e er
  have hu := hr.units
  have cl := nxt_closed wf
  have hz : (0 : Nat) ∈ List.range n := List.mem_range.mpr h1
  have hS : (List.range n).length ≤ js.length := by rw [List.length_range, wf.len]; exact Nat.le_refl _
  obtain ⟨k, dn⟩ := ord_done cl hz hS
  have hk : k ≤ n := by
    have := dn.le
    rw [List.length_range] at this
    exact this
  refine' by_out ?h1 ?h2
  case h1 =>
    show DSs _ _ [.dat _, .un, .un, .un, .un, .un] _ _
    refine' dss_cons (ds_tupO3 1 2 3 ?v1 rfl nd) ?b1
    case v1 =>
      refine' dv_cons (do1_lst (ds := [natD 0]) ?a1 (by decide)) (dv_cons (do1_dict1 false (k := numK 0) ?a2 ?a3 rfl hu) (dv_cons (do1_dat ?a4) dv_nil))
      case a1 => wtm_at "dA"
      case a2 => exact de_int
      case a3 => exact de_int
      case a4 => exact de_int
    case b1 =>
      show DSs _ _ [.dat (tabL js), .lst none [natD 0], .dct false [(numK 0, .int 0)], .dat (.int 0), .un, .un] _ _
      refine' dss_cons (ds_while (n := k) (o := .nx [.dat (tabL js), .lst none ((ord (nxt js) 0 k).map natD), .dct false (numD numK (ord (nxt js) 0 k)), .dat (natD k), .un, .un]) ?w1) ?b2
      case w1 =>
        refine' whileR_to (fun i => [.dat (tabL js), .lst none ((ord (nxt js) 0 i).map natD), .dct false (numD numK (ord (nxt js) 0 i)), .dat (natD i), .un, .un]) k ?s1 ?s2
        case s2 =>
          refine' dt_is (dt_cmp op_lt (nomark _) (de_name 3) (de_lenL (Rn.of 1) rfl ml) (rd_I0 (vd_bl _))) ?r1
          case r1 =>
            rw [List.length_map, dn.len]
            exact decide_eq_false (by omega)
        case s1 =>
          intro i hi
          have hil := dn.run i hi
          refine' ⟨?c1, ?d1⟩
          case c1 =>
            refine' dt_is (dt_cmp op_lt (nomark _) (de_name 3) (de_lenL (Rn.of 1) rfl ml) (rd_I0 (vd_bl _))) ?r1
            case r1 =>
              rw [List.length_map]
              exact decide_eq_true (by omega)
          case d1 =>
            have pi := ord_part cl hz i fun j hj => dn.run j (by omega)
            have hpj : i + 1 ≤ k := hi
            have ei : (ord (nxt js) 0 i)[i]? = some (ord (nxt js) 0 i)[i] := List.getElem?_eq_getElem hil
            have hnx := ord_next ei
            generalize (ord (nxt js) 0 i)[i] = s0 at ei hnx
            have hs0 : s0 < n := List.mem_range.mp (pi.sub s0 (List.mem_of_getElem? ei))
            have hs1 : s0 < js.length := by rw [wf.len]; exact hs0
            rw [hnx]
            generalize ord (nxt js) 0 i = o at pi ei hil
            have bnd : ∀ j, (addAll o ((nxt js s0).take j)).length ≤ 1000 := fun j => by
              have := nd_sub (m := List.range n) (addAll_nodup (bs := (nxt js s0).take j) pi.nd) fun x hx => by
                rcases addAll_of hx with h | h
                · exact pi.sub x h
                · exact cl.cl s0 (List.mem_range.mpr hs0) x (List.mem_of_mem_take h)
              rw [List.length_range] at this
              omega
            refine' dss_cons (ds_for (ks := [4]) (o := .nx [.dat (tabL js), .lst none ((addAll o (nxt js s0)).map natD), .dct false (numD numK (addAll o (nxt js s0))), .dat (natD i), .un, .un]) (di_list (ds := (nxt js s0).map optD) ?i1) (dg_name 4 nd) ?l1) ?b3
            case i1 => exact de_ix ix_seq (de_name 0) (de_ixL (Rn.of 1) rfl (de_name 3) (nats_at ei)) (rd_ix rfl (tab_at hs1))
            case l1 =>
              refine' loopR_to (fun j => [.dat (tabL js), .lst none ((addAll o ((nxt js s0).take j)).map natD), .dct false (numD numK (addAll o ((nxt js s0).take j))), .dat (natD i), .un, .un]) (fun j => optD ((nxt js s0).getD j none)) (nxt js s0).length ?g1 rfl ?z1 (map_range (nxt js s0) none optD)
              case z1 => rw [List.take_length]
              case g1 =>
                intro j hj
                refine ⟨_, rfl, ?_⟩
                have et : addAll o ((nxt js s0).take (j + 1)) = addO (addAll o ((nxt js s0).take j)) ((nxt js s0).getD j none) := by
                  rw [List.take_add_one, addAll_app, List.getD_eq_getElem?_getD, List.getElem?_eq_getElem hj]
                  rfl
                have hb := bnd j
                rw [et]
                generalize addAll o ((nxt js s0).take j) = q at hb
                cases (nxt js s0).getD j none with
                | none =>
                  refine' dss_is (dss_fgt 4 (dss_if ?c2 (ife_F0 rfl dss_nil))) ?e2
                  case c2 =>
                    show DT _ _ [.dat _, .lst none (q.map natD), .dct false (numD numK q), .dat (natD i), .dat .none, .un] _ _ _
                    refine' dt_w (dw_and' (dt_cmp op_notN (nomark _) (de_name 4) de_none rd_notN) (andW_F rfl))
                  case e2 => rfl
                | some x =>
                  by_cases hx : x ∈ q
                  · refine' dss_is (dss_fgt 4 (dss_if ?c2 (ife_F0 rfl dss_nil))) ?e2
                    case c2 =>
                      show DT _ _ [.dat _, .lst none (q.map natD), .dct false (numD numK q), .dat (natD i), .dat (natD x), .un] _ _ _
                      refine' dt_w (dw_and' (dt_cmp op_notN (nomark _) (de_name 4) de_none rd_notN) (andW_T rfl (dw_and1 (dt_dnotIn (Rn.of 2) (k := numK x) (de_name 4) rfl rfl hu ?n2))))
                      case n2 => rw [num_in numK_inj hx] <;> rfl
                    case e2 =>
                      rw [addO_in hx]
                      rfl
                  · refine' dss_is (dss_fgt 4 (dss_if ?c2 (ife_T rfl ?t2 (seq_nx dss_nil)))) ?e2
                    case c2 =>
                      show DT _ _ [.dat _, .lst none (q.map natD), .dct false (numD numK q), .dat (natD i), .dat (natD x), .un] _ _ _
                      refine' dt_w (dw_and' (dt_cmp op_notN (nomark _) (de_name 4) de_none rd_notN) (andW_T rfl (dw_and1 (dt_dnotIn (Rn.of 2) (k := numK x) (de_name 4) rfl rfl hu ?n2))))
                      case n2 => rw [numF_out numK_inj hx] <;> rfl
                    case t2 =>
                      refine' dss_cons (ds_dput (Rn.of 2) (k := numK x) (de_lenL (Rn.of 1) rfl ml) rfl (de_name 4) rfl ?l2 hu) (dss_cons (ds_app (Rn.of 1) rfl (de_name 4) rfl ?l3) dss_nil)
                      case l2 =>
                        rw [numF_len]
                        omega
                      case l3 =>
                        rw [List.length_map]
                        omega
                    case e2 =>
                      have e3 : q.map natD ++ [natD x] = (addO q (some x)).map natD := by rw [addO_new hx, List.map_append] <;> rfl
                      have e4 : dput (numD numK q) (numK x) (.int (((q.map natD).length : Nat) : Int)) = numD numK (addO q (some x)) := by rw [List.length_map, num_put numK_inj hx]
                      show Out.nx [.dat (tabL js), .lst none (q.map natD ++ [natD x]), .dct false (dput (numD numK q) (numK x) (.int (((q.map natD).length : Nat) : Int))), .dat (natD i), .un, .un] = _
                      rw [e3, e4]
            case b3 =>
              refine' dss_is (dss_cons (ds_set 3 (de_op op_add (de_name 3) de_int (rd_I0 (vd_int _))) nd) dss_nil) ?e5
              case e5 => rfl
      case b2 =>
        refine' dss_thaw 1 rfl ?b4
        case b4 =>
          show DSs _ _ [.dat (tabL js), .dat (.list ((ord (nxt js) 0 k).map natD)), .dct false (numD numK (ord (nxt js) 0 k)), .dat (natD k), .un, .un] _ _
          have pk := dn.part cl hz
          have lk := dn.len
          refine' dss_ret (ds_ret (de_callTy cr_tupF mt (by decide +kernel) (da_cons ?t3 da_nil) (rc_tupL (ds := (ord (nxt js) 0 k).map fun s => rowT ((nxt js s).map (idxO (ord (nxt js) 0 k)))))))
          case t3 =>
            refine' de_comp [("state", 5)] [5] (di_list (de_name 1)) (L2.blkOk_by (N := n_renumbered) (sc := defScope s_renumbered) (by decide +kernel)) nd (fun s H C cl fp => dg_name 5 nd) rfl (compR_mapL natD (fun s => rowT ((nxt js s).map (idxO (ord (nxt js) 0 k)))) rfl rfl ?c3)
            case c3 =>
              intro x hx
              have hx' : x ∈ (ord (nxt js) 0 k).take k := by
                rw [← lk]
                rw [lk, List.take_of_length_le (by rw [lk]; exact Nat.le_refl _)]
                exact hx
              have hx0 : x < n := List.mem_range.mp (pk.sub x hx)
              have hx1 : x < js.length := by rw [wf.len]; exact hx0
              refine ⟨_, rfl, fun s H C cl fp => ?_⟩
              refine' de_is (de_callTy cr_tupF mt (by decide +kernel) (da_cons ?t4 da_nil) (rc_tupL (ds := (nxt js x).map fun b => optD (idxO (ord (nxt js) 0 k) b)))) ?e4
              case e4 =>
                unfold rowT
                rw [List.map_map]
                rfl
              case t4 =>
                refine' de_comp [("behind", 4)] [4] (di_list (ds := (nxt js x).map optD) (de_ix ix_seq (de_name 0) (de_name 5) (rd_ix rfl (tab_at hx1)))) (L2.blkOk_by (by rfl)) nd (fun s H C cl fp => dg_name 4 nd) rfl (compR_mapL optD (fun b => optD (idxO (ord (nxt js) 0 k) b)) rfl rfl ?c5)
                case c5 =>
                  intro b hb
                  refine ⟨_, rfl, fun s H C cl fp => ?_⟩
                  cases b with
                  | none => exact de_if' (dt_cmp op_isN (nomark _) (de_name 4) de_none rd_isN) (ifx_T rfl de_none)
                  | some y => exact de_if' (dt_cmp op_isN (nomark _) (de_name 4) de_none rd_isN) (ifx_F rfl (de_dget (Rn.of 2) rfl (k := numK y) (de_name 4) rfl (num_in numK_inj (pk.cl x hx' y hb)) hu))
  case h2 =>
    show PyData.tuple _ = _
    rw [dn.table]
    unfold tabT rowsOf
    rw [List.take_of_length_le (by rw [dn.len]; exact Nat.le_refl _), List.map_map]
    rfl
end
end
section
/-! F8 -/
def wBody : Stmt → List Stmt
  | .While _ b _ _ => b
  | _ => []
def sgD (s : Sign) : PyData := .tuple [natD s.1, .tuple (s.2.map optD)]
theorem datas_opt : ∀ r : Row, NestedKey.datas (r.map optK) = r.map optD
  | [] => rfl
  | none :: r => by
    rw [List.map_cons, List.map_cons]
    simp only [NestedKey.datas]
    rw [datas_opt r]
    rfl
  | some x :: r => by
    rw [List.map_cons, List.map_cons]
    simp only [NestedKey.datas]
    rw [datas_opt r]
    rfl
theorem sgK_data (s : Sign) : (sgK s).data = sgD s := by
  unfold sgK sgD
  simp only [NestedKey.data, NestedKey.datas]
  rw [datas_opt]
  rfl
theorem depth_opt : ∀ r : Row, NestedKey.depthAll (r.map optK) = 0
  | [] => rfl
  | none :: r => by
    rw [List.map_cons]
    simp only [NestedKey.depthAll, optK, NestedKey.depth]
    rw [depth_opt r] <;> rfl
  | some x :: r => by
    rw [List.map_cons]
    simp only [NestedKey.depthAll, optK, NestedKey.depth]
    rw [depth_opt r] <;> rfl
theorem sgK_ok (s : Sign) : keyOk true (sgK s) = true := by
  unfold sgK keyOk
  refine decide_eq_true ?_
  simp only [NestedKey.depth, NestedKey.depthAll]
  rw [depth_opt]
  decide
def R_classes : Rl := fun ds r => ∃ (n m : Nat) (rs : List Row), ds = [tabL rs] ∧ Wf n m rs ∧ 1 ≤ n ∧ n ≤ 1000 ∧ m ≤ 1000 ∧ r = .list ((classes rs).map natD)
theorem tab_get {rs : List Row} {i : Nat} (h : i < rs.length) : (rs.map rowL).getD i .none = rowL (rs.getD i []) := by
  rw [List.getD_eq_getElem?_getD, List.getElem?_map, List.getElem?_eq_getElem h, List.getD_eq_getElem?_getD, List.getElem?_eq_getElem h]
  rfl
theorem nats_atD {g : List Nat} {j : Nat} (h : j < g.length) : atI (g.map natD) (j : Int) = some (natD (g.getD j 0)) := by
  refine nats_at ?_
  rw [List.getD_eq_getElem?_getD, List.getElem?_eq_getElem h]
  rfl
section
variable {T : Tb} {P : Program} {w : World} {K : PySem.W.Frag} {mg : Str → Option Value} {base : Heap} {f : Addr} {fd : FuncData}
theorem ok_classes_of (F : Fun K "classes_of" "classes_of" s_classes_of f fd) (ml : mg "len" = none) (mt : mg "tuple" = none) (me : mg "enumerate" = none) : FnOk P w K mg base CX0 1 f fd ["rows"] (SpD T K R_classes) := by
  have nd := sc_classes_of.nd
  refine fn_pure F sc_classes_of (fun ds d ⟨n, m, rs, e, _⟩ => by rw [e] <;> rfl) fun ds d ⟨n, m, rs, e, wf, h1, h2, h3, er⟩ cdv A outer s H E hr => ?_
  subst e er
  have hu := hr.units
  obtain ⟨k, hk⟩ := st_halt rs
  have hl : (tabL rs) = .list (rs.map rowL) := rfl
  have hn := wf.len
  have key : ∀ i, i ≤ k → ∀ b : Bool, PyData.eqv (.int ((st rs (i + 1)).2 : Int)) (.int ((st rs i).2 : Int)) = b →
      DSs T (cxOf CX0 P w K mg base n_classes_of "classes_of" (defScope s_classes_of) f cdv A outer s H E).nox [.dat (tabL rs), .dat (.list ((st rs i).1.map natD)), .dat (natD (st rs i).2), .un, .un, .un, .un, .un, .un]
        (wBody ((defBody s_classes_of).getD 1 (.Pass ⟨0, 0, 0, 0⟩)))
        (if b then .ret [.dat (tabL rs), .dat (.list ((st rs (i + 1)).1.map natD)), .dat (natD (st rs i).2), .dat (.list ((signs (st rs i).1 rs).map sgD)), .dct true (numD sgK (kinds (signs (st rs i).1 rs))), .un, .un, .un, .un] (.list ((st rs (i + 1)).1.map natD)) else .nx [.dat (tabL rs), .dat (.list ((st rs (i + 1)).1.map natD)), .dat (natD (st rs (i + 1)).2), .un, .un, .un, .un, .un, .un]) := by
    intro i hi b hb
    have lg := st_len (rs := rs) i
    have e1 : (st rs (i + 1)).1 = renum (signs (st rs i).1 rs) := rfl
    have e2 : (st rs (i + 1)).2 = (kinds (signs (st rs i).1 rs)).length := rfl
    rw [e2] at hb
    rw [e1, e2]
    generalize (st rs i).2 = mi at hb ⊢
    generalize (st rs i).1 = g at lg hb ⊢
    have sl : (signs g rs).length = rs.length := by
      unfold signs
      exact signF_len
    have kl := kinds_le (signs g rs)
    refine' dss_cons (ds_setLc (ds := enumD (rs.map rowL)) (rs := (signs g rs).map sgD) 3 [("at", 6), ("row", 7)] [6, 7] (di_enum me (de_name 0)) (L2.blkOk_by (N := n_classes_of) (sc := defScope s_classes_of) (by decide +kernel)) nd (fun s H C cl fp => dg_two 6 7 rfl nd) rfl ?c1 rfl) ?b1
    case c1 =>
      refine' compR_range (fun j => .tuple [.int ((j : Nat) : Int), rowL (rs.getD j [])]) (fun j => sgD (g.getD j 0, relab g (rs.getD j []))) rs.length rfl rfl ?g1 ?e3 ?e4
      case e3 =>
        rw [enumD_range, List.length_map]
        refine List.map_congr_left fun j hj => ?_
        rw [tab_get (List.mem_range.mp hj)]
      case e4 => rw [signs_range, List.map_map] <;> rfl
      case g1 =>
        intro j hj
        have hw := wf.ok _ (getD_mem (d := []) hj)
        generalize rs.getD j [] = r at hw
        refine ⟨_, rfl, fun s H C cl fp => ?_⟩
        refine' de_is (de_tup (da_cons (de_ix ix_seq (de_name 1) (de_name 6) (rd_ix rfl (nats_atD ?l5))) (da_cons (de_callTy cr_tupF mt (by decide +kernel) (da_cons ?t4 da_nil) (rc_tupL (ds := r.map fun b => optD (b.map fun j => g.getD j 0)))) da_nil)) ?l6) ?e5
        case l5 => omega
        case l6 => exact Nat.le_of_ble_eq_true rfl
        case e5 =>
          unfold sgD relab
          rw [List.map_map]
          rfl
        case t4 =>
          refine' de_comp [("behind", 8)] [8] (di_list (ds := r.map optD) (de_name 7)) (L2.blkOk_by (by rfl)) nd (fun s H C cl fp => dg_name 8 nd) rfl (compR_mapL optD (fun b => optD (b.map fun j => g.getD j 0)) rfl rfl ?c5)
          case c5 =>
            intro b hb
            refine ⟨_, rfl, fun s H C cl fp => ?_⟩
            cases b with
            | none => exact de_if' (dt_cmp op_isN (nomark _) (de_name 8) de_none rd_isN) (ifx_T rfl de_none)
            | some y => exact de_if' (dt_cmp op_isN (nomark _) (de_name 8) de_none rd_isN) (ifx_F rfl (de_ix ix_seq (de_name 1) (de_name 8) (rd_ix rfl (nats_atD (by have := hw y hb; omega)))))
    case b1 =>
      refine' dss_cons (ds_setO 4 (do1_dict0 true) nd) (dss_cons (ds_for (ks := [5]) (o := .nx [.dat (tabL rs), .dat (.list (g.map natD)), .dat (natD mi), .dat (.list ((signs g rs).map sgD)), .dct true (numD sgK (kinds (signs g rs))), .un, .un, .un, .un]) (di_list (ds := (signs g rs).map sgD) (de_name 3)) (dg_name 5 nd) ?l7) ?b2)
      case l7 =>
        refine' loopR_to (fun j => [.dat (tabL rs), .dat (.list (g.map natD)), .dat (natD mi), .dat (.list ((signs g rs).map sgD)), .dct true (numD sgK (addAll [] (((signs g rs).take j).map some))), .un, .un, .un, .un]) (fun j => sgD ((signs g rs).getD j (0, []))) (signs g rs).length ?g2 rfl ?z2 (map_range (signs g rs) (0, []) sgD)
        case z2 =>
          rw [List.take_length]
          rfl
        case g2 =>
          intro j hj
          refine ⟨_, rfl, ?_⟩
          have et : addAll [] (((signs g rs).take (j + 1)).map some) = addO (addAll [] (((signs g rs).take j).map some)) (some ((signs g rs).getD j (0, []))) := by
            rw [List.take_add_one, List.map_append, addAll_app, List.getD_eq_getElem?_getD, List.getElem?_eq_getElem hj]
            rfl
          have hb2 : (addAll [] (((signs g rs).take j).map some)).length ≤ 1000 := by
            have := kinds_le ((signs g rs).take j)
            unfold kinds at this
            rw [List.length_take] at this
            omega
          rw [et]
          generalize addAll [] (((signs g rs).take j).map some) = q at hb2
          generalize (signs g rs).getD j (0, []) = sg
          refine' dss_is (dss_fgt 5 (dss_cons (ds_dsetd (Rn.of 4) (k := sgK sg) (d := .int (((numD sgK q).length : Nat) : Int)) rfl ?n1 (de_lenD (Rn.of 4) rfl ml) (sgK_ok sg) ?l8 hu) dss_nil)) ?e6
          case n1 => exact de_is (de_name 5) (sgK_data sg).symm
          case l8 =>
            rw [numF_len]
            omega
          case e6 =>
            rw [numF_len, num_setd sgK_inj]
            rfl
      case b2 =>
        refine' dss_cons (ds_set 1 (d := .list ((renum (signs g rs)).map natD)) (de_comp [("sign", 5)] [5] (di_list (ds := (signs g rs).map sgD) (de_name 3)) (L2.blkOk_by (N := n_classes_of) (sc := defScope s_classes_of) (by decide +kernel)) nd (fun s H C cl fp => dg_name 5 nd) rfl ?c6) nd) ?b3
        case c6 =>
          have e7 : (renum (signs g rs)).map natD = (signs g rs).map fun s => natD (place (kinds (signs g rs)) s) := by
            unfold renum
            rw [List.map_map]
            rfl
          rw [e7]
          refine compR_mapL sgD _ rfl rfl fun s hs => ⟨_, rfl, fun s' H C cl fp => ?_⟩
          exact de_dget (Rn.of 4) rfl (k := sgK s) (de_is (de_name 5) (sgK_data s).symm) (sgK_ok s) (num_in sgK_inj (kinds_mem.mpr hs)) hu
        case b3 =>
          have hb3 : PyData.eqv (.int (((numD sgK (kinds (signs g rs))).length : Nat) : Int)) (natD mi) = b := by
            rw [numF_len]
            exact hb
          cases b with
          | true =>
            refine' dss_if (dt_cmp op_eq (nomark _) (de_lenD (Rn.of 4) rfl ml) (de_name 2) (rd_eq rfl)) (ife_T hb3 ?t5 seq_ret)
            case t5 => exact dss_ret (ds_ret (de_name 1))
          | false =>
            refine' dss_if (dt_cmp op_eq (nomark _) (de_lenD (Rn.of 4) rfl ml) (de_name 2) (rd_eq rfl)) (ife_F0 hb3 ?t5)
            case t5 =>
              refine' dss_is (dss_fgt 3 (dss_fgt 4 (dss_cons (ds_set 2 (de_lenD (Rn.of 4) rfl ml) nd) dss_nil))) ?e8
              case e8 =>
                rw [numF_len]
                rfl
  refine' by_out ?h1 ?h2
  case h1 =>
    show DSs _ _ [.dat (tabL rs), .un, .un, .un, .un, .un, .un, .un, .un] _ _
    refine' dss_cons (ds_asg (ks := [1, 2]) (ds := [.list ((st rs 0).1.map natD), natD 0]) ?a1 (dg_two 1 2 rfl nd) ?p1) ?b1
    case a1 =>
      refine' de_tup (da_cons (de_is (de_rep (n := rs.length) (da_cons de_int da_nil) (de_callB call_len ml (by decide +kernel) (da_cons (de_name 0) da_nil) (rc_len ?l1)) (by decide) ?l2 ?l3) ?e1) (da_cons de_int da_nil)) ?l4
      case l4 => exact Nat.le_of_ble_eq_true rfl
      case l1 =>
        show some (rs.map rowL).length = _
        rw [List.length_map]
      case l2 => omega
      case l3 =>
        show 1 * rs.length ≤ _
        omega
      case e1 =>
        have e : ∀ q : Nat, (List.replicate q [natD 0]).flatten = (List.replicate q 0).map natD := fun q => by
          induction q with
          | zero => rfl
          | succ q ih =>
            rw [List.replicate_succ, List.flatten_cons, ih, List.replicate_succ]
            rfl
        exact congrArg PyData.list (e rs.length)
    case p1 => rfl
    case b1 =>
      show DSs _ _ [.dat (tabL rs), .dat (.list ((st rs 0).1.map natD)), .dat (natD (st rs 0).2), .un, .un, .un, .un, .un, .un] _ _
      refine' dss_ret (ds_while (n := k) (o := .ret _ (.list ((st rs (k + 1)).1.map natD))) (whileR_ret (fun i => [.dat (tabL rs), .dat (.list ((st rs i).1.map natD)), .dat (natD (st rs i).2), .un, .un, .un, .un, .un, .un]) k ?s1 (dt_val de_bool) ?s2))
      case s1 =>
        intro i hi
        refine ⟨dt_val de_bool, ?_⟩
        have h := key i (Nat.le_of_lt hi) false (by
          rw [eqv_int]
          exact beq_eq_false_iff_ne.mpr fun z => hk.run i hi (Int.ofNat.inj z))
        exact h
      case s2 =>
        have h := key k (Nat.le_refl _) true (by
          rw [eqv_int, hk.stop]
          exact beq_self_eq_true _)
        exact h
  case h2 => exact congrArg (fun q => PyData.list (q.map natD)) (classes_st hk).symm
end
end
section
/-! F9 -/
def R_least : Rl := fun ds r => ∃ (n m : Nat) (rs : List Row), ds = [tabL rs] ∧ Wf n m rs ∧ 1 ≤ n ∧ n ≤ 1000 ∧ m ≤ 1000 ∧ r = tabT (leastOf rs)
section
variable {T : Tb} {P : Program} {w : World} {K : PySem.W.Frag} {mg : Str → Option Value} {base : Heap} {f : Addr} {fd : FuncData}
theorem ok_least_rows (F : Fun K "least_rows" "least_rows" s_least_rows f fd) (ml : mg "len" = none) (mr : mg "range" = none) (me : mg "enumerate" = none) (C1 : Cal P w K mg base 1 "classes_of" (SpD T K R_classes)) (C2 : Cal P w K mg base 1 "renumbered" (SpD T K R_renumbered)) :
    FnOk P w K mg base CX0 2 f fd ["rows"] (SpD T K R_least) := by
  have nd := sc_least_rows.nd
  refine fn_pure F sc_least_rows (fun ds d ⟨n, m, rs, e, _⟩ => by rw [e] <;> rfl) fun ds d ⟨n, m, rs, e, wf, h1, h2, h3, er⟩ cdv A outer s H E hr => ?_
  subst e er
  have hu := hr.units
  have hn := wf.len
  obtain ⟨k, ck⟩ := cls_ok (rs := rs) (n := rs.length) (m := 0) (g := List.replicate rs.length 0)
  have ck' : ClsOk k rs (classes rs) := ck
  have wj := joined_wf wf ck'
  have hk := wf_pos wf h1 ck'
  have hkn := ck'.le
  have hm := many_eq ck'
  have lg := ck'.len
  refine' by_out ?h1 ?h2
  case h1 =>
    show DSs _ _ [.dat (tabL rs), .un, .un, .un, .un, .un, .un, .un] _ _
    refine' dss_cons (ds_tupO 1 2 (dv_cons (do1_dat (de_call (d := .list ((classes rs).map natD)) C1 hr (da_cons (de_name 0) da_nil) ⟨n, m, rs, rfl, wf, h1, h2, h3, rfl⟩)) (dv_cons (do1_dict0 false) dv_nil)) rfl nd) ?b1
    case b1 =>
      show DSs _ _ [.dat (tabL rs), .dat (.list ((classes rs).map natD)), .dct false (firstD []), .un, .un, .un, .un, .un] _ _
      refine' dss_cons (ds_for (ks := [3, 4]) (o := .nx [.dat (tabL rs), .dat (.list ((classes rs).map natD)), .dct false (firstD (classes rs)), .un, .un, .un, .un, .un]) (di_enum (ds := (classes rs).map natD) me (de_name 1)) (dg_two 3 4 rfl nd) ?l1) ?b2
      case l1 =>
        refine' loopR_to (fun j => [.dat (tabL rs), .dat (.list ((classes rs).map natD)), .dct false (firstD ((classes rs).take j)), .un, .un, .un, .un, .un]) (fun j => .tuple [.int ((j : Nat) : Int), natD ((classes rs).getD j 0)]) (classes rs).length ?g1 rfl ?z1 ?z2
        case z1 => rw [List.take_length]
        case z2 =>
          rw [enumD_range, List.length_map]
          refine List.map_congr_left fun j hj => ?_
          have hj' := List.mem_range.mp hj
          rw [List.getD_eq_getElem?_getD, List.getElem?_map, List.getElem?_eq_getElem hj', List.getD_eq_getElem?_getD, List.getElem?_eq_getElem hj']
          rfl
        case g1 =>
          intro j hj
          refine ⟨_, rfl, ?_⟩
          have et : (classes rs).take (j + 1) = (classes rs).take j ++ [(classes rs).getD j 0] := by
            rw [List.take_add_one, List.getD_eq_getElem?_getD, List.getElem?_eq_getElem hj]
            rfl
          have el : ((classes rs).take j).length = j := by
            rw [List.length_take]
            omega
          rw [et]
          have st := first_step (g := (classes rs).take j) (c := (classes rs).getD j 0)
          rw [el] at st
          rw [← st]
          have hb : (firstD ((classes rs).take j)).length ≤ 1000 := by
            rw [firstD_len]
            have h := nd_sub (l := addAll [] (((classes rs).take j).map some)) (m := (classes rs).take j) (addAll_nodup List.nodup_nil) fun x hx => all_in.mp hx
            show (addAll [] (((classes rs).take j).map some)).length ≤ 1000
            omega
          generalize firstD ((classes rs).take j) = q at hb
          generalize (classes rs).getD j 0 = c
          refine' dss_is (dss_fgt 3 (dss_fgt 4 (dss_cons (ds_dsetd (Rn.of 2) (k := .num (c : Int)) (d := .int ((j : Nat) : Int)) rfl (de_name 4) (de_name 3) rfl ?l8 hu) dss_nil))) ?e6
          case l8 => omega
          case e6 => rfl
      case b2 =>
        refine' dss_cons (ds_setO 5 (do1_lst (ds := []) da_nil (by decide)) nd) ?b3
        case b3 =>
          show DSs _ _ [.dat (tabL rs), .dat (.list ((classes rs).map natD)), .dct false (firstD (classes rs)), .un, .un, .lst none [], .un, .un] _ _
          refine' dss_cons (ds_for (ks := [4]) (o := .nx [.dat (tabL rs), .dat (.list ((classes rs).map natD)), .dct false (firstD (classes rs)), .un, .un, .lst none ((joined rs (classes rs)).map rowL), .un, .un]) (di_range mr (de_lenD (Rn.of 2) rfl ml) ?r1) (dg_name 4 nd) ?l2) ?b4
          case r1 =>
            rw [firstD_len, hm]
            omega
          case l2 =>
            refine' loopR_to (fun j => [.dat (tabL rs), .dat (.list ((classes rs).map natD)), .dct false (firstD (classes rs)), .un, .un, .lst none (((joined rs (classes rs)).take j).map rowL), .un, .un]) (fun j => natD j) k ?g2 rfl ?z3 ?z4
            case z3 => rw [List.take_of_length_le (by rw [wj.len]; exact Nat.le_refl _)]
            case z4 =>
              rw [firstD_len, hm]
              unfold rangeD
              rw [Int.toNat_natCast]
              refine List.map_congr_left fun j _ => ?_
              rw [Int.zero_add]
              rfl
            case g2 =>
              intro j hj
              refine ⟨_, rfl, ?_⟩
              have ej : (joined rs (classes rs))[j]? = some (relab (classes rs) (rs.getD ((classes rs).idxOf j) [])) := by
                unfold joined
                rw [List.getElem?_map, hm, List.getElem?_range hj]
                rfl
              have et : (joined rs (classes rs)).take (j + 1) = (joined rs (classes rs)).take j ++ [relab (classes rs) (rs.getD ((classes rs).idxOf j) [])] := by
                rw [List.take_add_one, ej]
                rfl
              have hin := ck'.full j hj
              have hix : (classes rs).idxOf j < rs.length := by
                rw [← lg]
                exact List.idxOf_lt_length_iff.mpr hin
              have hw := wf.ok _ (getD_mem (d := []) hix)
              have hgt := first_get hin
              have htb := tab_at hix
              rw [et]
              have hb : ((joined rs (classes rs)).take j).length ≤ 1000 := by
                rw [List.length_take]
                omega
              generalize (joined rs (classes rs)).take j = q at hb
              generalize rs.getD ((classes rs).idxOf j) [] = r at hw htb
              refine' dss_is (dss_fgt 4 (dss_fgt 6 (dss_cons (ds_set 6 (d := rowL r) (de_ix ix_seq (de_name 0) (de_dget (Rn.of 2) rfl (k := .num (j : Int)) (de_name 4) rfl hgt hu) (rd_ix rfl htb)) nd) (dss_cons (ds_app (Rn.of 5) rfl (d := rowL (relab (classes rs) r)) ?c2 ?r5 ?l9) dss_nil)))) ?e7
              case c2 =>
                refine' de_is (de_comp [("behind", 7)] [7] (di_list (ds := r.map optD) (de_name 6)) (L2.blkOk_by (N := n_least_rows) (sc := defScope s_least_rows) (by decide +kernel)) nd (fun s H C cl fp => dg_name 7 nd) rfl (compR_mapL optD (fun b => optD (b.map fun j => (classes rs).getD j 0)) rfl rfl ?c5)) ?e8
                case e8 =>
                  unfold rowL relab
                  rw [List.map_map]
                  rfl
                case c5 =>
                  intro b hb
                  refine ⟨_, rfl, fun s H C cl fp => ?_⟩
                  cases b with
                  | none => exact de_if' (dt_cmp op_isN (nomark _) (de_name 7) de_none rd_isN) (ifx_T rfl de_none)
                  | some y => exact de_if' (dt_cmp op_isN (nomark _) (de_name 7) de_none rd_isN) (ifx_F rfl (de_ix ix_seq (de_name 1) (de_name 7) (rd_ix rfl (nats_atD (by have := hw y hb; omega)))))
              case r5 => rfl
              case l9 =>
                rw [List.length_map]
                omega
              case e7 =>
                rw [List.map_append]
                rfl
          case b4 =>
            refine' dss_thaw 5 rfl (dss_ret (ds_ret (de_call (d := tabT (leastOf rs)) C2 hr (da_cons (de_name 5) da_nil) ⟨k, m, joined rs (classes rs), rfl, wj, hk, ?l3, h3, rfl⟩)))
            case l3 => omega
  case h2 => rfl
end
end
section
/-! F10 -/
/-! ### the machine of a step -/
section
variable {κ : Type} [DecidableEq κ]
/-- how standings are told as keys -/
structure Keys (t : Bool) (key : κ → NestedKey) : Prop where
  inj : ∀ a b, key a = key b → a = b
  ok : ∀ a, keyOk t (key a) = true
def okD (key : κ → NestedKey) (b : Option κ) : PyData := match b with
  | none => .none
  | some k => (key k).data
theorem Keys.some {t : Bool} {key : κ → NestedKey} (h : Keys t key) (k : κ) : isNoneD (key k).data = false := by
  have := h.ok k
  cases t with
  | true =>
    obtain ⟨ks, e, _⟩ := key_tup this
    rw [e]
    rfl
  | false =>
    obtain ⟨i, e⟩ := key_num this
    rw [e]
    rfl
/-- what the step answers -/
def R_stepOf (key : κ → NestedKey) (S : List κ) (f : κ → List (Option κ)) (beats : List PyData) : Rl := fun ds d => ∃ (s : κ) (i : Nat), ds = [(key s).data, .int (i : Int), beats.getD i .none] ∧ i < beats.length ∧ s ∈ S ∧ d = okD key ((f s).getD i none)
theorem enum_get {ds : List PyData} {i : Nat} : (PyData.tuple [.int ((i : Nat) : Int), ds.getD i .none]) = .tuple [.int ((i : Nat) : Int), ds.getD i .none] := rfl
end
section
variable {T : Tb} {P : Program} {w : World} {K : PySem.W.Frag} {mg : Str → Option Value} {base : Heap} {g : Addr}
theorem machine_ok {κ : Type} [DecidableEq κ] {t : Bool} {key : κ → NestedKey} (hk : Keys t key) {S : List κ} {f : κ → List (Option κ)} {beats : List PyData} {b : κ} {n : Nat} (cl : Closed f S) (hb : b ∈ S) (hn : S.length ≤ n) (hS : S.length ≤ 1000) (hm : ∀ s ∈ S, (f s).length = beats.length) (hbt : beats.length ≤ 1000)
    (ml : mg "len" = none) (me : mg "enumerate" = none) {j : Nat} (hj : 2 ≤ j) (C1 : Cal P w K mg base 2 "least_rows" (SpD T K R_least)) {fl : Addr} {cdv : Value} {A : Around} {outer : List Env} {s : Shared} {H : Hp} {E : XK} (hr : Room j (A.deeper (envOfC "machine_by" (defScope s_machine_by) s.heap.objs.size g cdv)))
    (act : StepAct T (cxOf CX0 P w K mg base n_machine_by "machine_by" (defScope s_machine_by) g cdv A outer s H E).nox fl (R_stepOf key S f beats)) :
    ∃ o, DSs T (cxOf CX0 P w K mg base n_machine_by "machine_by" (defScope s_machine_by) g cdv A outer s H E).nox ([.dat (.list beats), .dat (key b).data, .val (.ref fl)] ++ List.replicate (n_machine_by.length - 3) .un) (defBody s_machine_by) o ∧ OutR o (tabT (leastOf (table f n b))) := by
  have nd := sc_machine_by.nd
  have hu := hr.units
  obtain ⟨k, dn⟩ := ord_done cl hb hn
  have hkS := dn.le
  refine' by_out ?h1 ?h2
  case h1 =>
    show DSs _ _ [.dat (.list beats), .dat (key b).data, .val (.ref fl), .un, .un, .un, .un, .un, .un, .un] _ _
    refine' dss_cons (ds_parO3 3 4 5 (dv_cons (do1_lst (ds := [(key b).data]) (da_cons (de_name 1) da_nil) (Nat.le_of_ble_eq_true rfl)) (dv_cons (do1_dict1 t (k := key b) (de_name 1) (de_int (i := 0)) (hk.ok b) hu) (dv_cons (do1_lst (ds := []) da_nil (by decide)) dv_nil))) rfl nd) ?b1
    case b1 =>
      show DSs _ _ [.dat (.list beats), .dat (key b).data, .val (.ref fl), .lst none [(key b).data], .dct t (numD key [b]), .lst none [], .un, .un, .un, .un] _ _
      refine' dss_cons (ds_while (n := k) (whileR_for (Γ1 := [.dat (.list beats), .dat (key b).data, .val (.ref fl), .lst none ((ord f b k).map fun x => (key x).data), .dct t (numD key (ord f b k)), .lst none ((rowsOf f (ord f b k) k).map rowL), .un, .un, .un, .un])
        (fun i => [.dat (.list beats), .dat (key b).data, .val (.ref fl), .lst none ((ord f b i).map fun x => (key x).data), .dct t (numD key (ord f b i)), .lst none ((rowsOf f (ord f b i) i).map rowL), .un, .un, .un, .un]) k ?s1 ?s2 rfl rfl)) ?b2
      case s2 =>
        refine' dt_is (dt_cmp op_lt (nomark _) (de_lenL (Rn.of 5) rfl ml) (de_lenL (Rn.of 3) rfl ml) (rd_I0 (vd_bl _))) ?r1
        case r1 =>
          unfold rowsOf
          rw [List.length_map, List.length_map, List.length_map, List.length_take, dn.len]
          exact decide_eq_false (by omega)
      case s1 =>
        intro i hi
        have hil := dn.run i hi
        have pi := ord_part cl hb i fun j hj => dn.run j (by omega)
        have ei : (ord f b i)[i]? = some (ord f b i)[i] := List.getElem?_eq_getElem hil
        have hnx := ord_next ei
        generalize (ord f b i)[i] = s0 at ei hnx
        have hs0 : s0 ∈ S := pi.sub s0 (List.mem_of_getElem? ei)
        have hlen := hm s0 hs0
        have hrow := rows_step pi ei
        refine ⟨?_, ?_⟩
        · refine' dt_is (dt_cmp op_lt (nomark _) (de_lenL (Rn.of 5) rfl ml) (de_lenL (Rn.of 3) rfl ml) (rd_I0 (vd_bl _))) ?r1
          case r1 =>
            unfold rowsOf
            rw [List.length_map, List.length_map, List.length_map, List.length_take]
            exact decide_eq_true (by omega)
        · rw [hnx, hrow]
          have lr : (rowsOf f (ord f b i) i).length = i := by
            unfold rowsOf
            rw [List.length_map, List.length_take]
            omega
          generalize rowsOf f (ord f b i) i = q at lr
          generalize ord f b i = o at pi ei hil
          have bnd : ∀ j, (addAll o ((f s0).take j)).length ≤ 1000 := fun j => by
            have := nd_sub (m := S) (addAll_nodup (bs := (f s0).take j) pi.nd) fun x hx => by
              rcases addAll_of hx with h | h
              · exact pi.sub x h
              · exact cl.cl s0 hs0 x (List.mem_of_mem_take h)
            omega
          refine' dss_cons (ds_setO 6 (do1_lst (ds := []) da_nil (by decide)) nd) ?b3
          case b3 =>
            show DSs _ _ [.dat (.list beats), .dat (key b).data, .val (.ref fl), .lst none (o.map fun x => (key x).data), .dct t (numD key o), .lst none (q.map rowL), .lst none [], .un, .un, .un] _ _
            refine' dss_cons (ds_for (ks := [7, 8]) (o := .nx [.dat (.list beats), .dat (key b).data, .val (.ref fl), .lst none ((addAll o (f s0)).map fun x => (key x).data), .dct t (numD key (addAll o (f s0))), .lst none (q.map rowL), .lst none (((f s0).map (idxO (addAll o (f s0)))).map optD), .un, .un, .un])
              (di_enum (ds := beats) me (de_name 0)) (dg_two 7 8 rfl nd) ?l1) ?b4
            case l1 =>
              refine' loopR_to (fun j => [.dat (.list beats), .dat (key b).data, .val (.ref fl), .lst none ((addAll o ((f s0).take j)).map fun x => (key x).data), .dct t (numD key (addAll o ((f s0).take j))), .lst none (q.map rowL), .lst none ((((f s0).take j).map (idxO (addAll o ((f s0).take j)))).map optD), .un, .un, .un])
                (fun j => .tuple [.int ((j : Nat) : Int), beats.getD j .none]) beats.length ?g1 rfl ?z1 (enumD_range beats)
              case z1 => rw [← hlen, List.take_length]
              case g1 =>
                intro j hj
                refine ⟨_, rfl, ?_⟩
                have hj2 : j < (f s0).length := by omega
                have et : (f s0).take (j + 1) = (f s0).take j ++ [(f s0).getD j none] := by
                  rw [List.take_add_one, List.getD_eq_getElem?_getD, List.getElem?_eq_getElem hj2]
                  rfl
                have eo : addAll o ((f s0).take (j + 1)) = addO (addAll o ((f s0).take j)) ((f s0).getD j none) := by
                  rw [et, addAll_app]
                  rfl
                have er : ((f s0).take (j + 1)).map (idxO (addAll o ((f s0).take (j + 1)))) = ((f s0).take j).map (idxO (addAll o ((f s0).take j))) ++ [idxO (addAll o ((f s0).take (j + 1))) ((f s0).getD j none)] := by
                  rw [eo, et, List.map_append, List.map_singleton]
                  congr 1
                  refine List.map_congr_left fun x hx => ?_
                  exact idxO_add (bs := [(f s0).getD j none]) fun y hy => addAll_mem (by rw [← hy]; exact hx)
                have hb1 := bnd j
                have hlr : (((f s0).take j).map (idxO (addAll o ((f s0).take j)))).length ≤ 1000 := by
                  rw [List.length_map, List.length_take]
                  omega
                have hact : R_stepOf key S f beats [(key s0).data, .int (j : Int), beats.getD j .none] (okD key ((f s0).getD j none)) := ⟨s0, j, rfl, hj, hs0, rfl⟩
                have hix : atI (o.map fun x => (key x).data) (i : Int) = some ((key s0).data) := by
                  refine atI_n ?_
                  rw [List.getElem?_map, ei]
                  rfl
                have hix2 : atI ((addAll o ((f s0).take j)).map fun x => (key x).data) (i : Int) = some ((key s0).data) := by
                  refine atI_n ?_
                  rw [List.getElem?_map, addAll_get hil, ei]
                  rfl
                rw [er, eo]
                generalize addAll o ((f s0).take j) = u at hb1 hix2 hlr
                generalize ((f s0).take j).map (idxO u) = v at hlr
                generalize beats.getD j .none = bt at hact
                generalize (f s0).getD j none = x at hact
                refine' dss_cons (ds_set 9 (d := okD key x) (act (Rn.of 2) rfl (da_cons (de_ixL (Rn.of 3) rfl (de_is (de_lenL (Rn.of 5) rfl ml) ?e1) hix2) (da_cons (de_name 7) (da_cons (de_name 8) da_nil))) hact rfl rfl) nd) ?b5
                case e1 => rw [List.length_map, lr]
                case b5 =>
                  show DSs _ _ [.dat (.list beats), .dat (key b).data, .val (.ref fl), .lst none (u.map fun x => (key x).data), .dct t (numD key u), .lst none (q.map rowL), .lst none (v.map optD), .dat (.int (j : Int)), .dat bt, .dat (okD key x)] _ _
                  cases x with
                  | none =>
                    refine' dss_is (dss_fgt 7 (dss_fgt 8 (dss_fgt 9 (dss_if (dt_w (dw_and' (dt_cmp op_notN (nomark _) (de_name 9) de_none rd_notN) (andW_F rfl))) (ife_F0 rfl (dss_cons (ds_app (Rn.of 6) rfl (de_if' (dt_cmp op_isN (nomark _) (de_name 9) de_none rd_isN) (ifx_T rfl de_none)) rfl ?l6) dss_nil)))))) ?e6
                    case l6 =>
                      rw [List.length_map]
                      omega
                    case e6 =>
                      rw [List.map_append]
                      rfl
                  | some y =>
                    have hy := hk.some y
                    by_cases hin : y ∈ u
                    · refine' dss_is (dss_fgt 7 (dss_fgt 8 (dss_fgt 9 (dss_if (dt_w (dw_and' (dt_cmp op_notN (nomark _) (de_name 9) de_none rd_notN) (andW_T (not_t hy) (dw_and1 (dt_dnotIn (bb := false) (Rn.of 4) (k := key y) (de_name 9) rfl (hk.ok y) hu ?n2))))) (ife_F0 rfl (dss_cons (ds_app (Rn.of 6) rfl (de_if' (dt_cmp op_isN (nomark _) (de_name 9) de_none rd_isN) (ifx_F hy (de_dget (Rn.of 4) rfl (k := key y) (de_name 9) (hk.ok y) (num_in hk.inj hin) hu))) rfl ?l6) dss_nil)))))) ?e6
                      case n2 => rw [num_in hk.inj hin] <;> rfl
                      case l6 =>
                        rw [List.length_map]
                        omega
                      case e6 =>
                        rw [addO_in hin, List.map_append]
                        rfl
                    · have e3 : (u.map fun x => (key x).data) ++ [(key y).data] = (addO u (some y)).map fun x => (key x).data := by rw [addO_new hin, List.map_append] <;> rfl
                      have e4 : dput (numD key u) (key y) (.int (((u.map fun x => (key x).data).length : Nat) : Int)) = numD key (addO u (some y)) := by rw [List.length_map, num_put hk.inj hin]
                      refine' dss_is (dss_fgt 7 (dss_fgt 8 (dss_fgt 9 (dss_if (dt_w (dw_and' (dt_cmp op_notN (nomark _) (de_name 9) de_none rd_notN) (andW_T (not_t hy) (dw_and1 (dt_dnotIn (bb := true) (Rn.of 4) (k := key y) (de_name 9) rfl (hk.ok y) hu ?n2))))) (ife_T rfl ?t2 (seq_nx ?t3)))))) ?e6
                      case n2 => rw [numF_out hk.inj hin] <;> rfl
                      case t2 =>
                        refine' dss_is (dss_cons (ds_dput (Rn.of 4) (k := key y) (de_lenL (Rn.of 3) rfl ml) rfl (de_name 9) (hk.ok y) ?l2 hu) (dss_cons (ds_app (Rn.of 3) rfl (de_name 9) rfl ?l3) dss_nil)) (show _ = Out.nx [.dat (.list beats), .dat (key b).data, .val (.ref fl), .lst none ((addO u (some y)).map fun x => (key x).data), .dct t (numD key (addO u (some y))), .lst none (q.map rowL), .lst none (v.map optD), .dat (.int (j : Int)), .dat bt, .dat (okD key (some y))] from ?e7)
                        case l2 =>
                          rw [numF_len]
                          omega
                        case l3 =>
                          rw [List.length_map]
                          omega
                        case e7 =>
                          rw [← e3, ← e4]
                          rfl
                      case t3 =>
                        refine' dss_cons (ds_app (Rn.of 6) rfl (de_if' (dt_cmp op_isN (nomark _) (de_name 9) de_none rd_isN) (ifx_F hy (de_dget (Rn.of 4) rfl (k := key y) (de_name 9) (hk.ok y) (num_in hk.inj addO_mem) hu))) rfl ?l6) dss_nil
                        case l6 =>
                          rw [List.length_map]
                          omega
                      case e6 =>
                        rw [List.map_append]
                        rfl
            case b4 =>
              refine' dss_thaw 6 rfl (dss_is (dss_fgt 6 (dss_cons (ds_app (Rn.of 5) rfl (de_name 6) rfl ?l4) dss_nil)) ?e4)
              case l4 =>
                rw [List.length_map]
                omega
              case e4 =>
                rw [List.map_append]
                rfl
      case b2 =>
        refine' dss_thaw 5 rfl (dss_ret (ds_ret (de_call (d := tabT (leastOf (table f n b))) C1 (hr.mono hj) (da_cons (de_name 5) da_nil) ⟨k, beats.length, rowsOf f (ord f b k) k, rfl, ?w1, dn.pos, ?l5, hbt, ?e5⟩)))
        case w1 =>
          rw [← dn.table]
          exact dn.wf cl hb hm
        case l5 => omega
        case e5 => rw [dn.table]
  case h2 => rfl
end
end
section
/-! F11 -/
/-! ### letters, sentences, runs: the looks -/
section
variable {T : Tb} {P : Program} {w : World} {K : PySem.W.Frag} {mg : Str → Option Value} {base : Heap} {f : Addr} {fd : FuncData}
theorem ok_are_words (F : Fun K "are_words" "are_words" s_are_words f fd) (mI : mg "isinstance" = none) (mt : mg "tuple" = none) (ml : mg "len" = none) (ma : mg "all" = none) {t : Tok} (mM : mg "MOST_LETTERS" = some (.int 3 t)) (C : Cal P w K mg base 1 "is_word" (SpD T K R_is_word)) :
    FnOk P w K mg base CX0 2 f fd ["thing"] (SpD T K R_are_words) := by
  have nd := sc_are_words.nd
  refine fn_pure F sc_are_words (fun ds d ⟨ws, e, _⟩ => by rw [e] <;> rfl) fun ds d ⟨ws, e, hw, er⟩ cdv A outer s H E hr => ?_
  subst e er
  have h1 := hw.lo
  have h2 := hw.hi
  have lm : (ws.map PyData.str).length = ws.length := List.length_map _
  have g1 : 1 ≤ (ws.map PyData.str).length := by omega
  have g2 : decide (((ws.map PyData.str).length : Int) ≤ 3) = true := decide_eq_true (by omega)
  refine' by_out ?h1 ?h2
  case h1 =>
    show DSs _ _ [.dat _, .un, .un] _ _
    refine' Dd.dss_if (k := false) ?a1 ?t1
    case a1 =>
      refine' Dd.dt_w ?a2
      case a2 =>
        refine' Dd.dw_or' ?a3 ?t3
        case a3 => wtm_at "dT"
        case t3 =>
          refine' Dd.orW_F rfl ?h3
          case h3 =>
            refine' Dd.dw_or' ?a4 ?t4
            case a4 => wtm_at "dT"
            case t4 =>
              refine' Dd.orW_F (Dd.not_f g2) ?h4
              case h4 =>
                refine' Dd.dw_or1 (Dd.dt_not (k := true) (Dd.dt_val ?a5))
                case a5 =>
                  refine' Dd.de_callB (L2.cr_all rfl) (by assumption) (by decide +kernel) ?a7 ?r8
                  case a7 =>
                    refine' Dd.da_cons ?a8 Dd.da_nil
                    case a8 =>
                      refine' Dd.de_comp [("one", 1)] [1] (Dd.di_tup (Dd.de_name 0)) (L2.blkOk_by (N := n_are_words) (sc := defScope s_are_words) (by decide +kernel)) (by assumption) ?g9 rfl ?c9
                      case g9 => exact fun s H C cl fp => Dd.dg_name 1 nd
                      case c9 =>
                        refine Dd.compR_all rfl rfl fun d hd => ?_
                        obtain ⟨x, hx, rfl⟩ := List.mem_map.mp hd
                        refine ⟨_, rfl, fun s H C' cl fp => ?_⟩
                        exact Dd.de_call C hr (Dd.da_cons (Dd.de_name 1) Dd.da_nil) ⟨x, rfl, hw.ok x hx, rfl⟩
                  case r8 => exact Dd.rc_allT Dd.all_true
    case t1 =>
      refine' Dd.ife_F0 rfl ?h5
      case h5 =>
        refine' Dd.dss_ret (Dd.ds_ret (Dd.de_cmp L2.op_eq (L2.nomark _) (Dd.de_lenSet [("word", 2)] 2 (Dd.di_tup (Dd.de_name 0)) (L2.blkOk_by (N := n_are_words) (sc := defScope s_are_words) (by decide +kernel)) nd ?n1 (by decide) (fun s H C cl fp => Dd.dg_name 2 nd) ?e1 hw.nd (by omega) ml) (Dd.de_callB L2.call_len ml (by decide +kernel) (Dd.da_cons (Dd.de_name 0) Dd.da_nil) (Dd.rc_len rfl)) (Dd.rd_eq rfl)))
        case n1 =>
          intro j s e
          match j, e with
          | 0, e => cases e; rfl
          | 1, e => cases e; rfl
          | 2, e => cases e; rfl
        case e1 => exact fun x hx s H C cl fp => Dd.de_name 2
  case h2 =>
    refine congrArg PyData.bool ?_
    rw [eqv_int, lm]
    exact beq_self_eq_true _
end
/-- the beats of an alphabet -/
def beatsOf (i o : List Str) : List Bt := i.flatMap fun g => o.map fun t => (g, t)
def R_beats_of : Rl := fun ds r => ∃ i o, ds = [lettersD i o] ∧ Words i ∧ Words o ∧ r = .list ((beatsOf i o).map beatD)
theorem words_few {i o : List Str} (h1 : Words i) (h2 : Words o) : (beatsOf i o).length ≤ 9 := by
  unfold beatsOf
  have e : ∀ l : List Str, (l.flatMap fun g => o.map fun t => (g, t)).length = l.length * o.length := fun l => by
    induction l with
    | nil => simp
    | cons x l ih => rw [List.flatMap_cons, List.length_append, ih, List.length_map, List.length_cons, Nat.succ_mul, Nat.add_comm]
  rw [e]
  exact Nat.mul_le_mul h1.hi h2.hi
section
variable {T : Tb} {P : Program} {w : World} {K : PySem.W.Frag} {mg : Str → Option Value} {base : Heap} {f : Addr} {fd : FuncData}
theorem ok_beats_of (F : Fun K "beats_of" "beats_of" s_beats_of f fd) : FnOk P w K mg base CX0 1 f fd ["letters"] (SpD T K R_beats_of) := by
  have nd := sc_beats_of.nd
  refine fn_pure F sc_beats_of (fun ds d ⟨i, o, e, _⟩ => by rw [e] <;> rfl) fun ds d ⟨i, o, e, h1, h2, er⟩ cdv A outer s H E hr => ?_
  subst e er
  have few := words_few h1 h2
  have e1 : (beatsOf i o).map beatD = (i.map PyData.str).flatMap fun d => (o.map PyData.str).map fun e => PyData.tuple [d, e] := by
    unfold beatsOf
    rw [List.map_flatMap, List.flatMap_map]
    congr 1
    funext g
    rw [List.map_map, List.map_map]
    rfl
  rw [e1]
  refine' by_out ?h1 ?h2
  case h1 =>
    show DSs _ _ [.dat (.tuple [wordsD i, wordsD o]), .un, .un] _ _
    refine' Dd.dss_ret (Dd.ds_ret (Dd.de_comp2 [("given", 1), ("told", 2)] 1 2 (fun _ => o.map PyData.str) (fun d e => .tuple [d, e]) (Dd.di_tup ?a1) (L2.blkOk_by (N := n_beats_of) (sc := defScope s_beats_of) (by decide +kernel)) nd ?n1 (by decide) (by decide) (by decide) (fun s H C cl fp => Dd.dg_name 1 nd) (fun s H C cl fp => Dd.dg_name 2 nd) ?a2 ?a3 ?z1))
    case a1 => wtm_at "dE"
    case n1 =>
      intro j s e
      match j, e with
      | 0, e => cases e; rfl
      | 1, e => cases e; rfl
      | 2, e => cases e; rfl
    case a2 => exact fun d hd s H C cl fp => Dd.di_tup (Dd.de_ix L2.ix_seq (Dd.de_name 0) Dd.de_int (Dd.rd_ix rfl rfl))
    case a3 => exact fun d hd e he s H C cl fp => Dd.de_tup (Dd.da_cons (Dd.de_name 1) (Dd.da_cons (Dd.de_name 2) Dd.da_nil)) (Nat.le_of_ble_eq_true rfl)
    case z1 =>
      rw [← e1, List.length_map]
      omega
  case h2 => rfl
end
end
section
/-! F12 -/
/-! ### is_sentence_by and what calls it -/
/-- what the program's table of kinds says -/
def kindsD : List (Str × PyData) := [("never", .tuple [.int 1, .int 0]), ("after", .tuple [.int 2, .int 0]), ("until", .tuple [.int 3, .int 0]), ("within", .tuple [.int 2, .int 1]), ("first", .tuple [.int 2, .int 0]), ("most", .tuple [.int 1, .int 1]), ("apart", .tuple [.int 1, .int 1])]
/-- a sentence's kind, its numbers -/
def Sen.kind : Sen → Str
  | .never _ => "never"
  | .after _ _ => "after"
  | .untl _ _ _ => "until"
  | .within _ _ _ => "within"
  | .first _ _ => "first"
  | .most _ _ => "most"
  | .apart _ _ => "apart"
def Sen.nums : Sen → List Nat
  | .within _ _ k => [k]
  | .most _ k => [k]
  | .apart _ k => [k]
  | _ => []
def natsD (ns : List Nat) : List PyData := ns.map fun n : Nat => PyData.int (n : Int)
def Sen.tl (s : Sen) : List PyData := s.says.map Say.d ++ natsD s.nums
theorem Sen.d_eq (s : Sen) : s.d = .tuple (.str s.kind :: s.tl) := by
  cases s <;> rfl
theorem Sen.kinds_mem (s : Sen) : (s.kind, PyData.tuple [.int (s.says.length : Int), .int (s.nums.length : Int)]) ∈ kindsD := by
  cases s <;> simp [kindsD, Sen.kind, Sen.says, Sen.nums]
structure SenOk (i o : List Str) (s : Sen) : Prop where
  wi : Words i
  wo : Words o
  low : s.shallow
  ok : ∀ p ∈ s.says, SayOk i o p
  lo : ∀ n ∈ s.nums, 1 ≤ n
  hi : ∀ n ∈ s.nums, n ≤ 6
def R_is_sentence : Rl := fun ds r => ∃ i o s, ds = [lettersD i o, s.d] ∧ SenOk i o s ∧ r = .bool true
def R_need_sentence : Rl := fun ds r => ∃ i o s, ds = [lettersD i o, s.d] ∧ SenOk i o s ∧ r = .none
theorem Say.notThin (p : Say) : thD p.d = false := by
  cases p <;> rfl
theorem cut_says (s : Sen) : cutD (.str s.kind :: s.tl) (some 1) (some (1 + (s.says.length : Int))) = s.says.map Say.d := by
  cases s <;> rfl
theorem cut_nums (s : Sen) : cutD (.str s.kind :: s.tl) (some (1 + (s.says.length : Int))) none = natsD s.nums := by
  cases s <;> rfl
theorem thin_says (s : Sen) : thinD (s.says.map Say.d) = false := by
  cases s <;> exact thin_head (Say.notThin _)
theorem thin_nums (s : Sen) : thinD (natsD s.nums) = false := by
  cases s <;> rfl
theorem Word.strOk {z : Str} (h : Word z) : PyData.strOk z = true := by
  unfold PyData.strOk
  rw [← Array.all_toList, List.all_eq_true]
  intro c hc
  have q : ∀ c ∈ small.cps.toList, c < 0x110000 := by decide +kernel
  exact decide_eq_true (q c (h.ok c hc))
theorem k_in : PyData.strOk "in" = true := by decide +kernel
theorem k_out : PyData.strOk "out" = true := by decide +kernel
theorem k_not : PyData.strOk "not" = true := by decide +kernel
theorem k_and : PyData.strOk "and" = true := by decide +kernel
theorem k_or : PyData.strOk "or" = true := by decide +kernel
theorem kinds_ok : ∀ k ∈ ["never", "after", "until", "within", "first", "most", "apart"], PyData.strOk (Str.ofString k) = true := by decide +kernel
theorem Sen.kindOk (s : Sen) : PyData.strOk s.kind = true := by
  cases s <;> exact kinds_ok _ (by simp)
theorem Say.lay {i o : List Str} (wi : Words i) (wo : Words o) : ∀ p : Say, SayOk i o p → p.d.canLay0 = true
  | .inn w, h => by simp [Say.d, PyData.canLay0, PyData.canLayAll0, k_in, (wi.ok w h).strOk]
  | .out w, h => by simp [Say.d, PyData.canLay0, PyData.canLayAll0, k_out, (wo.ok w h).strOk]
  | .not p, h => by simp [Say.d, PyData.canLay0, PyData.canLayAll0, k_not, Say.lay wi wo p h]
  | .and p q, h => by simp [Say.d, PyData.canLay0, PyData.canLayAll0, k_and, Say.lay wi wo p h.1, Say.lay wi wo q h.2]
  | .or p q, h => by simp [Say.d, PyData.canLay0, PyData.canLayAll0, k_or, Say.lay wi wo p h.1, Say.lay wi wo q h.2]
theorem Say.deep : ∀ p : Say, p.d.depth ≤ p.depth
  | .inn w => by simp [Say.d, PyData.depth, PyData.depthAll, Say.depth]
  | .out w => by simp [Say.d, PyData.depth, PyData.depthAll, Say.depth]
  | .not p => by
    have := Say.deep p
    simp [Say.d, PyData.depth, PyData.depthAll, Say.depth]
    omega
  | .and p q => by
    have := Say.deep p
    have := Say.deep q
    simp [Say.d, PyData.depth, PyData.depthAll, Say.depth]
    omega
  | .or p q => by
    have := Say.deep p
    have := Say.deep q
    simp [Say.d, PyData.depth, PyData.depthAll, Say.depth]
    omega
theorem Sen.shaped {i o : List Str} (s : Sen) (h : SenOk i o s) : SeqAt.shaped s.d = true := by
  unfold SeqAt.shaped
  rw [Bool.and_eq_true]
  have a : ∀ p ∈ s.says, p.d.depth ≤ 4 := fun p hp => Nat.le_trans (Say.deep p) (h.low p hp)
  have c : ∀ p ∈ s.says, p.d.canLay0 = true := fun p hp => Say.lay h.wi h.wo p (h.ok p hp)
  have k := s.kindOk
  refine ⟨?_, decide_eq_true ?_⟩
  · cases s <;> simp [Sen.says] at c <;> simp [Sen.d, PyData.canLay0, PyData.canLayAll0, c] <;> exact k
  · cases s <;> simp [Sen.says] at a <;> simp [Sen.d, PyData.depth, PyData.depthAll] <;> omega
theorem atI_head {d : PyData} {l : List PyData} : atI (d :: l) 0 = some d := atI_n (i := 0) rfl
section
variable {T : Tb} {P : Program} {w : World} {K : PySem.W.Frag} {mg : Str → Option Value} {base : Heap} {f : Addr} {fd : FuncData}
theorem ok_is_sentence_by (F : Fun K "is_sentence_by" "is_sentence_by" s_is_sentence_by f fd) (kd : KdAt K w mg "KINDS" kindsD) (mI : mg "isinstance" = none) (mt : mg "tuple" = none) (ms : mg "str" = none) (ml : mg "len" = none) (ma : mg "all" = none) {t1 t2 : Tok} (mD : mg "MOST_DEPTH" = some (.int 4 t1)) (mN : mg "MOST_NUMBER" = some (.int 6 t2))
    (C1 : Cal P w K mg base 5 "is_saying_by" (SpD T K (R_saying 4))) (C2 : Cal P w K mg base 2 "is_within" (SpD T K R_is_within)) :
    FnOk P w K mg base CX0 6 f fd ["letters", "thing"] (SpD T K R_is_sentence) := by
  have nd := sc_is_sentence_by.nd
  refine fn_pure F sc_is_sentence_by (fun ds d ⟨i, o, s, e, _⟩ => by rw [e] <;> rfl) fun ds d ⟨i, o, s, e, h1, er⟩ cdv A outer s' H E hr => ?_
  subst e er
  have hu := hr.units
  have e0 := s.d_eq
  have g1 : (List.length (PyData.str s.kind :: s.tl) : Int) = 1 + (s.says.length : Int) + (s.nums.length : Int) := by
    have q : s.tl.length = s.says.length + s.nums.length := by
      unfold Sen.tl natsD
      rw [List.length_append, List.length_map, List.length_map]
    rw [List.length_cons, q]
    omega
  have g2 : PyData.eqv (.tuple (PyData.str s.kind :: s.tl)) (.tuple []) = false := by
    simp only [PyData.eqv, PyData.eqvAll]
  have g3 := s.shaped h1
  rw [e0] at g3
  have hat : atI (PyData.str s.kind :: s.tl) 0 = some (.str s.kind) := atI_head
  refine' by_out ?h1 ?h2
  case h1 =>
    show DSs _ _ [.dat _, .dat _, .un, .un, .un] _ _
    rw [e0]
    refine' Dd.dss_if (k := false) ?a1 ?t1
    case a1 =>
      refine' Dd.dt_w ?a2
      case a2 =>
        refine' Dd.dw_or' ?a3 ?t3
        case a3 => wtm_at "dT"
        case t3 =>
          refine' Dd.orW_F rfl ?h3
          case h3 =>
            refine' Dd.dw_or' ?a4 ?t4
            case a4 => exact Dd.dt_cmp (L2.op_eqD (by assumption)) (L2.nomark _) (Dd.de_name 1) (Dd.de_tup Dd.da_nil (Nat.le_of_ble_eq_true rfl)) (Dd.rd_eqD g3 rfl)
            case t4 =>
              refine' Dd.orW_F g2 ?h4
              case h4 =>
                refine' Dd.dw_or' ?a5 ?t5
                case a5 => wtm_at "dT"
                case t5 =>
                  refine' Dd.orW_F rfl ?h5
                  case h5 => exact Dd.dw_or1 (Dd.dt_notInKd kd (Dd.de_ix L2.ix_seq (Dd.de_name 1) Dd.de_int (Dd.rd_ix rfl hat)) s.kinds_mem)
    case t1 =>
      refine' Dd.ife_F0 rfl ?h6
      case h6 =>
        refine' Dd.dss_cons ?p1 ?q1
        case p1 => exact Dd.ds_asg (ks := [2, 3]) (Dd.de_ixKd kd (Dd.de_ix L2.ix_seq (Dd.de_name 1) Dd.de_int (Dd.rd_ix rfl hat)) s.kinds_mem) (Dd.dg_two 2 3 rfl (by assumption)) rfl
        case q1 =>
          refine' Dd.dss_if ?a7 ?t7
          case a7 => exact Dd.dt_cmp L2.op_ne (L2.nomark _) (Dd.de_callB L2.call_len ml (by decide +kernel) (Dd.da_cons (Dd.de_name 1) Dd.da_nil) (Dd.rc_len rfl)) (Dd.de_op L2.op_add (Dd.de_op L2.op_add Dd.de_int (Dd.de_name 2) (Dd.rd_I0 (Dd.vd_int _))) (Dd.de_name 3) (Dd.rd_I0 (Dd.vd_int _))) (Dd.rd_ne rfl)
          case t7 =>
            refine' Dd.ife_F0 ?g7 ?h8
            case g7 =>
              rw [eqv_int, g1]
              rw [beq_self_eq_true] <;> rfl
            case h8 =>
              refine' Dd.dss_if (k := false) ?a9 ?t9
              case a9 =>
                refine' Dd.dt_not (k := true) (Dd.dt_val ?b9)
                case b9 =>
                  refine' Dd.de_callB (L2.cr_all rfl) (by assumption) (by decide +kernel) ?c9 ?r9
                  case c9 =>
                    refine' Dd.da_cons ?d9 Dd.da_nil
                    case d9 =>
                      refine' Dd.de_comp [("one", 4)] [4] (Dd.di_tup (ds := s.says.map Say.d) ?s9) (L2.blkOk_by (N := n_is_sentence_by) (sc := defScope s_is_sentence_by) (by decide +kernel)) (by assumption) ?g9 rfl ?c9
                      case s9 =>
                        have z := cut_says s
                        rw [← z]
                        exact Dd.de_slice (Dd.de_name 1) (Dd.do_some Dd.de_int) (Dd.do_some (Dd.de_op L2.op_add Dd.de_int (Dd.de_name 2) (Dd.rd_I0 (Dd.vd_int _)))) (by rw [z]; exact thin_says s)
                      case g9 => exact fun s H C cl fp => Dd.dg_name 4 nd
                      case c9 =>
                        refine Dd.compR_all rfl rfl fun d hd => ?_
                        obtain ⟨x, hx, rfl⟩ := List.mem_map.mp hd
                        refine ⟨_, rfl, fun s H C' cl fp => ?_⟩
                        exact Dd.de_call C1 hr (Dd.da_cons (Dd.de_name 0) (Dd.da_cons (Dd.de_name 4) (Dd.da_cons (Dd.de_globI (by assumption)) Dd.da_nil))) ⟨i, o, x, 4, rfl, h1.ok x hx, h1.low x hx, by have := h1.low x hx; omega, rfl⟩
                  case r9 => exact Dd.rc_allT Dd.all_true
              case t9 =>
                refine' Dd.ife_F0 rfl ?h10
                case h10 =>
                  refine' Dd.dss_ret (Dd.ds_ret ?b10)
                  case b10 =>
                    refine' Dd.de_callB (L2.cr_all rfl) (by assumption) (by decide +kernel) ?c10 ?r10
                    case c10 =>
                      refine' Dd.da_cons ?d10 Dd.da_nil
                      case d10 =>
                        refine' Dd.de_comp [("one", 4)] [4] (Dd.di_tup (ds := natsD s.nums) ?s10) (L2.blkOk_by (N := n_is_sentence_by) (sc := defScope s_is_sentence_by) (by decide +kernel)) (by assumption) ?g10 rfl ?c10
                        case s10 =>
                          have z := cut_nums s
                          rw [← z]
                          exact Dd.de_slice (Dd.de_name 1) (Dd.do_some (Dd.de_op L2.op_add Dd.de_int (Dd.de_name 2) (Dd.rd_I0 (Dd.vd_int _)))) Dd.do_none (by rw [z]; exact thin_nums s)
                        case g10 => exact fun s H C cl fp => Dd.dg_name 4 nd
                        case c10 =>
                          refine Dd.compR_all rfl rfl fun d hd => ?_
                          obtain ⟨x, hx, rfl⟩ := List.mem_map.mp hd
                          refine ⟨_, rfl, fun s H C' cl fp => ?_⟩
                          have q1 := h1.lo x hx
                          have q2 := h1.hi x hx
                          exact Dd.de_call C2 (L2.Room.mono hr (by omega)) (Dd.da_cons (Dd.de_name 4) (Dd.da_cons Dd.de_int (Dd.da_cons (Dd.de_globI (by assumption)) Dd.da_nil))) ⟨_, _, _, rfl, by omega, by omega, rfl⟩
                    case r10 => exact Dd.rc_allT Dd.all_true
  case h2 => rfl
local macro_rules | `(tactic| wtm_at "dR") => `(tactic| first | exact ⟨_, _, rfl, by assumption, by assumption, rfl⟩ | exact ⟨_, _, _, rfl, by assumption, rfl⟩)
theorem ok_need_sentence (F : Fun K "need_sentence" "need_sentence" s_need_sentence f fd) (C1 : Cal P w K mg base 4 "need_letters" (SpD T K R_need_letters)) (C2 : Cal P w K mg base 6 "is_sentence_by" (SpD T K R_is_sentence)) : FnOk P w K mg base CX0 7 f fd ["letters", "thing"] (SpD T K R_need_sentence) := by
  have nd := sc_need_sentence.nd
  refine fn_pure F sc_need_sentence (fun ds d ⟨i, o, s, e, _⟩ => by rw [e] <;> rfl) fun ds d ⟨i, o, s, e, h1, er⟩ cdv A outer s' H E hr => ?_
  subst e er
  have wi := h1.wi
  have wo := h1.wo
  refine' by_out ?h1 ?h2
  case h1 =>
    show DSs _ _ [.dat _, .dat _] _ _
    wtm_at "dS"
  case h2 => rfl
end
/-- a run: beats of the alphabet -/
def runD (bs : List Bt) : PyData := .tuple (bs.map beatD)
def BeatIn (i o : List Str) (b : Bt) : Prop := b.1 ∈ i ∧ b.2 ∈ o
def R_is_run : Rl := fun ds r => ∃ i o bs, ds = [lettersD i o, runD bs] ∧ (∀ b ∈ bs, BeatIn i o b) ∧ r = .bool true
def R_need_run : Rl := fun ds r => ∃ i o bs, ds = [lettersD i o, runD bs] ∧ (∀ b ∈ bs, BeatIn i o b) ∧ r = .none
section
variable {T : Tb} {P : Program} {w : World} {K : PySem.W.Frag} {mg : Str → Option Value} {base : Heap} {f : Addr} {fd : FuncData}
theorem ok_is_run (F : Fun K "is_run" "is_run" s_is_run f fd) (mI : mg "isinstance" = none) (mt : mg "tuple" = none) (ma : mg "all" = none) (C : Cal P w K mg base 1 "is_beat" (SpD T K R_is_beat)) : FnOk P w K mg base CX0 2 f fd ["letters", "thing"] (SpD T K R_is_run) := by
  have nd := sc_is_run.nd
  refine fn_pure F sc_is_run (fun ds d ⟨i, o, s, e, _⟩ => by rw [e] <;> rfl) fun ds d ⟨i, o, bs, e, h1, er⟩ cdv A outer s' H E hr => ?_
  subst e er
  refine' by_out ?h1 ?h2
  case h1 =>
    show DSs _ _ [.dat _, .dat (.tuple (bs.map beatD)), .un] _ _
    refine' Dd.dss_ret (Dd.ds_ret ?a1)
    case a1 =>
      refine' Dd.de_and' ?a2 ?t2
      case a2 => wtm_at "dE"
      case t2 =>
        refine' Dd.andE_T rfl ?h4
        case h4 =>
          refine' Dd.de_one ?a3
          case a3 =>
            refine' Dd.de_callB (L2.cr_all rfl) (by assumption) (by decide +kernel) ?c10 ?r10
            case c10 =>
              refine' Dd.da_cons ?d10 Dd.da_nil
              case d10 =>
                refine' Dd.de_comp [("one", 2)] [2] (Dd.di_tup (ds := bs.map beatD) (Dd.de_name 1)) (L2.blkOk_by (N := n_is_run) (sc := defScope s_is_run) (by decide +kernel)) (by assumption) ?g10 rfl ?c10
                case g10 => exact fun s H C cl fp => Dd.dg_name 2 nd
                case c10 =>
                  refine Dd.compR_all rfl rfl fun d hd => ?_
                  obtain ⟨x, hx, rfl⟩ := List.mem_map.mp hd
                  refine ⟨_, rfl, fun s H C' cl fp => ?_⟩
                  exact Dd.de_call C hr (Dd.da_cons (Dd.de_name 0) (Dd.da_cons (Dd.de_name 2) Dd.da_nil)) ⟨_, _, x, rfl, (h1 x hx).1, (h1 x hx).2, rfl⟩
            case r10 => exact Dd.rc_allT Dd.all_true
  case h2 => rfl
local macro_rules | `(tactic| wtm_at "dR") => `(tactic| exact ⟨_, _, _, rfl, by assumption, rfl⟩)
theorem ok_need_run (F : Fun K "need_run" "need_run" s_need_run f fd) (C : Cal P w K mg base 2 "is_run" (SpD T K R_is_run)) : FnOk P w K mg base CX0 3 f fd ["letters", "thing"] (SpD T K R_need_run) := by
  have nd := sc_need_run.nd
  refine fn_pure F sc_need_run (fun ds d ⟨i, o, s, e, _⟩ => by rw [e] <;> rfl) fun ds d ⟨i, o, bs, e, h1, er⟩ cdv A outer s' H E hr => ?_
  subst e er
  refine' by_out ?h1 ?h2
  case h1 =>
    show DSs _ _ [.dat _, .dat _] _ _
    wtm_at "dS"
  case h2 => rfl
end
end
section
/-! F13 -/
/-! ### where a run breaks a sentence -/
def broken (s : Sen) : Nat → List Bt → Option Nat
  | _, [] => none
  | n, b :: bs => match step b n s with
    | none => some 0
    | some m => (broken s m bs).map (· + 1)
def R_broken_by : Rl := fun ds r => ∃ (s : Sen) (bs : List Bt), ds = [s.d, runD bs] ∧ s.shallow ∧ r = optD (broken s 0 bs)
def R_broken : Rl := fun ds r => ∃ (i o : List Str) (s : Sen) (bs : List Bt), ds = [lettersD i o, s.d, runD bs] ∧ SenOk i o s ∧ (∀ b ∈ bs, BeatIn i o b) ∧ r = optD (broken s 0 bs)
theorem loop_broken {T : Tb} {X : Cx} {body : List Stmt} {s : Sen} {r : PyData}
    (hN : ∀ (k n : Nat) (b : Bt), step b n s = none → ∃ Γ2, DSs T X [.dat s.d, .dat r, .dat (.int (n : Int)), .dat (.int (k : Int)), .dat (beatD b)] body (.ret Γ2 (.int (k : Int))))
    (hS : ∀ (k n m : Nat) (b : Bt), step b n s = some m → DSs T X [.dat s.d, .dat r, .dat (.int (n : Int)), .dat (.int (k : Int)), .dat (beatD b)] body (.nx [.dat s.d, .dat r, .dat (.int (m : Int)), .dat (.int (k : Int)), .dat (beatD b)])) :
    ∀ (bs : List Bt) (k n : Nat) (a c : Sl), match broken s n bs with
      | some j => ∃ Γ2, LoopR T X [3, 4] body (((bs.map beatD).zipIdx k).map fun p => .tuple [.int (p.2 : Int), p.1]) [.dat s.d, .dat r, .dat (.int (n : Int)), a, c] (.ret Γ2 (.int ((k + j : Nat) : Int)))
      | none => ∃ Γ2, LoopR T X [3, 4] body (((bs.map beatD).zipIdx k).map fun p => .tuple [.int (p.2 : Int), p.1]) [.dat s.d, .dat r, .dat (.int (n : Int)), a, c] (.nx Γ2)
  | [], k, n, a, c => ⟨_, .nil _⟩
  | b :: bs, k, n, a, c => by
    unfold broken
    cases e : step b n s with
    | none =>
      obtain ⟨Γ2, h⟩ := hN k n b e
      exact ⟨Γ2, .ret rfl h⟩
    | some m =>
      have h := hS k n m b e
      have ih := loop_broken hN hS bs (k + 1) m (.dat (.int (k : Int))) (.dat (beatD b))
      show match (broken s m bs).map (· + 1) with
        | some j => _
        | none => _
      cases q : broken s m bs with
      | none =>
        rw [q] at ih
        obtain ⟨Γ2, ih⟩ := ih
        exact ⟨Γ2, .next rfl h ih⟩
      | some j =>
        rw [q] at ih
        obtain ⟨Γ2, ih⟩ := ih
        rw [show k + 1 + j = k + (j + 1) by omega] at ih
        exact ⟨Γ2, .next rfl h ih⟩
theorem out_cons {T : Tb} {X : Cx} {Γ Γ1 : Ga} {st : Stmt} {sts : List Stmt} {r : PyData} (h : DS T X Γ st (.nx Γ1)) (t : ∃ o, DSs T X Γ1 sts o ∧ OutR o r) : ∃ o, DSs T X Γ (st :: sts) o ∧ OutR o r := by
  obtain ⟨o, h1, h2⟩ := t
  exact ⟨o, dss_cons h h1, h2⟩
theorem out_for {T : Tb} {X : Cx} {Γ Γ1 : Ga} {tg iter : Expr} {pos : Pos} {ks : List Nat} {ds : List PyData} {body sts : List Stmt} {r : PyData} (hi : DI T X tg Γ iter Γ1 ds) (hg : DG T X tg ks)
    (hl : ∃ o1, LoopR T X ks body ds Γ1 o1 ∧ ∃ o, SeqE T X o1 sts o ∧ OutR o r) (hc : X.calm = true := by rfl) (hp : PassesOwn (model X.prog X.w) X.A X.env X.xe := by exact PassesOwn.never)
    (hs : ∀ x, foldedSetIterable iter X.env x = pure x := by intro _; rfl) : ∃ o, DSs T X Γ (.For tg iter body [] pos :: sts) o ∧ OutR o r := by
  obtain ⟨o1, h1, o, h2, h3⟩ := hl
  exact ⟨o, dss_seq (ds_for hi hg h1 hc hp hs) h2, h3⟩
theorem out_broken {T : Tb} {X : Cx} {body rest : List Stmt} {s : Sen} {r : PyData} (bs : List Bt) {a c : Sl}
    (hN : ∀ (k n : Nat) (b : Bt), step b n s = none → ∃ Γ2, DSs T X [.dat s.d, .dat r, .dat (.int (n : Int)), .dat (.int (k : Int)), .dat (beatD b)] body (.ret Γ2 (.int (k : Int))))
    (hS : ∀ (k n m : Nat) (b : Bt), step b n s = some m → DSs T X [.dat s.d, .dat r, .dat (.int (n : Int)), .dat (.int (k : Int)), .dat (beatD b)] body (.nx [.dat s.d, .dat r, .dat (.int (m : Int)), .dat (.int (k : Int)), .dat (beatD b)]))
    (hr : ∀ Γ2, ∃ Γ3, DSs T X Γ2 rest (.ret Γ3 .none)) :
    ∃ o1, LoopR T X [3, 4] body (enumD (bs.map beatD)) [.dat s.d, .dat r, .dat (.int ((0 : Nat) : Int)), a, c] o1 ∧ ∃ o, SeqE T X o1 rest o ∧ OutR o (optD (broken s 0 bs)) := by
  have l := loop_broken hN hS bs 0 0 a c
  cases q : broken s 0 bs with
  | none =>
    rw [q] at l
    obtain ⟨Γ2, l⟩ := l
    obtain ⟨Γ3, h⟩ := hr Γ2
    exact ⟨_, l, _, seq_nx h, rfl⟩
  | some j =>
    rw [q] at l
    obtain ⟨Γ2, l⟩ := l
    rw [Nat.zero_add] at l
    exact ⟨_, l, _, seq_ret, rfl⟩
section
variable {T : Tb} {P : Program} {w : World} {K : PySem.W.Frag} {mg : Str → Option Value} {base : Heap} {f : Addr} {fd : FuncData}
theorem ok_broken_at_by (F : Fun K "broken_at_by" "broken_at_by" s_broken_at_by f fd) (me : mg "enumerate" = none) (C : Cal P w K mg base 7 "step_by" (SpD T K (R_step fun _ => True))) : FnOk P w K mg base CX0 8 f fd ["sentence", "run"] (SpD T K R_broken_by) := by
  have nd := sc_broken_at_by.nd
  refine fn_pure F sc_broken_at_by (fun ds d ⟨s, bs, e, _⟩ => by rw [e] <;> rfl) fun ds d ⟨s, bs, e, h1, er⟩ cdv A outer s' H E hr => ?_
  subst e er
  show ∃ o, DSs _ _ [.dat s.d, .dat (runD bs), .un, .un, .un] _ o ∧ OutR o _
  refine out_cons (Dd.ds_set 2 Dd.de_int nd) ?_
  show ∃ o, DSs _ _ [.dat s.d, .dat (runD bs), .dat (.int ((0 : Nat) : Int)), .un, .un] _ o ∧ OutR o _
  refine out_for (Dd.di_enumT (ds := bs.map beatD) me (Dd.de_name 1)) (Dd.dg_two 3 4 rfl nd) (out_broken bs (fun k n b e => ?_) (fun k n m b e => ?_) fun Γ2 => ?_)
  · have q : R_step (fun _ => True) [s.d, .int (n : Int), beatD b] .none := ⟨s, n, b, rfl, h1, trivial, by rw [e] <;> rfl⟩
    refine ⟨_, dss_cons (ds_set (d := .none) 2 (de_call C hr (da_cons (de_name 0) (da_cons (de_name 2) (da_cons (de_name 4) da_nil))) q) nd) (dss_if (dt_cmp op_isN (nomark _) (de_name 2) de_none rd_isN) (ife_T rfl (dss_ret (ds_ret (de_name 3))) seq_ret))⟩
  · have q : R_step (fun _ => True) [s.d, .int (n : Int), beatD b] (.int (m : Int)) := ⟨s, n, b, rfl, h1, trivial, by rw [e] <;> rfl⟩
    exact dss_cons (ds_set (d := .int (m : Int)) 2 (de_call C hr (da_cons (de_name 0) (da_cons (de_name 2) (da_cons (de_name 4) da_nil))) q) nd) (dss_if (dt_cmp op_isN (nomark _) (de_name 2) de_none rd_isN) (ife_F0 rfl dss_nil))
  · exact ⟨_, dss_ret (ds_ret de_none)⟩
local macro_rules | `(tactic| wtm_at "dR") => `(tactic| first | exact ⟨_, _, _, rfl, by assumption, rfl⟩ | exact ⟨_, _, rfl, by assumption, rfl⟩)
theorem ok_broken_at (F : Fun K "broken_at" "broken_at" s_broken_at f fd) (C1 : Cal P w K mg base 7 "need_sentence" (SpD T K R_need_sentence)) (C2 : Cal P w K mg base 3 "need_run" (SpD T K R_need_run)) (C3 : Cal P w K mg base 8 "broken_at_by" (SpD T K R_broken_by)) : FnOk P w K mg base CX0 9 f fd ["letters", "sentence", "run"] (SpD T K R_broken) := by
  have nd := sc_broken_at.nd
  refine fn_pure F sc_broken_at (fun ds d ⟨i, o, s, bs, e, _⟩ => by rw [e] <;> rfl) fun ds d ⟨i, o, s, bs, e, h1, h2, er⟩ cdv A outer s' H E hr => ?_
  subst e er
  have h3 := h1.low
  refine' by_out ?h1 ?h2
  case h1 =>
    show DSs _ _ [.dat _, .dat _, .dat _] _ _
    wtm_at "dS"
  case h2 => rfl
end
end
section
/-! F14 -/
/-! ### the watcher of a sentence -/
theorem step_le {s : Sen} {b : Bt} {n m : Nat} (hk : ∀ k ∈ s.nums, k ≤ 6) (hn : n ≤ 6) (h : step b n s = some m) : m ≤ 6 := by
  cases s with
  | never p =>
    simp only [step] at h
    split at h <;> simp at h
    omega
  | after p q =>
    simp only [step, stepUntil] at h
    repeat' split at h
    all_goals simp at h
    all_goals omega
  | untl p q r =>
    simp only [step, stepUntil] at h
    repeat' split at h
    all_goals simp at h
    all_goals omega
  | within p q k =>
    have := hk k (by simp [Sen.nums])
    simp only [step, stepWithin] at h
    repeat' split at h
    all_goals simp at h
    all_goals omega
  | first p q =>
    simp only [step, stepFirst] at h
    repeat' split at h
    all_goals simp at h
    all_goals omega
  | most p k =>
    have := hk k (by simp [Sen.nums])
    simp only [step, stepMost] at h
    repeat' split at h
    all_goals simp at h
    all_goals omega
  | apart p k =>
    have := hk k (by simp [Sen.nums])
    simp only [step, stepApart] at h
    repeat' split at h
    all_goals simp at h
    all_goals omega
/-- what a sentence's standing leads to, beat by beat -/
def stepsOf (i o : List Str) (s : Sen) (n : Nat) : List (Option Nat) := (beatsOf i o).map fun b => step b n s
def watcherOf (i o : List Str) (s : Sen) : List Row := leastOf (table (stepsOf i o s) 7 0)
theorem steps_closed {i o : List Str} {s : Sen} (hk : ∀ k ∈ s.nums, k ≤ 6) : Closed (stepsOf i o s) (List.range 7) := ⟨fun n hn m hm => by
  obtain ⟨b, _, e⟩ := List.mem_map.mp hm
  have h := List.mem_range.mp hn
  have := step_le hk (by omega) e
  exact List.mem_range.mpr (by omega)⟩
theorem keys_num : Keys false numK := ⟨numK_inj, fun _ => rfl⟩
def R_watcher : Rl := fun ds r => ∃ (i o : List Str) (s : Sen), ds = [lettersD i o, s.d] ∧ SenOk i o s ∧ r = tabT (watcherOf i o s)
abbrev n_lam1 : List Str := ["state", "at", "beat", "sentence"]
section
variable {T : Tb} {P : Program} {w : World} {K : PySem.W.Frag} {mg : Str → Option Value} {base : Heap} {f c PA g : Addr} {fd gd : FuncData}
theorem ok_watcher_by (F : FunC K "watcher_by" s_watcher_by f fd c) (G : Fun K "machine_by" "machine_by" s_machine_by g gd) (mm : mg "machine_by" = some (.ref g)) (TB : LamX.TabB base mg c PA) (hmT : (PA, Str.ofString "watcher_by.<locals>.<lambda>") ∈ T.tabs) (hu : ∀ p ∈ T.tabs, p.1 = PA → p.2 = Str.ofString "watcher_by.<locals>.<lambda>")
    (ml : mg "len" = none) (me : mg "enumerate" = none) (C1 : Cal P w K mg base 1 "beats_of" (SpD T K R_beats_of)) (C2 : ∀ T', Cal P w K mg base 2 "least_rows" (SpD T' K R_least)) (C3 : ∀ T', Cal P w K mg base 7 "step_by" (SpD T' K (R_step fun _ => True))) :
    FnOk P w K mg base CX0 10 f fd ["letters", "sentence"] (SpD T K R_watcher) := by
  have nd := sc_watcher_by.nd
  refine fn_pureC F sc_watcher_by (fun ds d ⟨i, o, s, e, _⟩ => by rw [e] <;> rfl) fun ds d ⟨i, o, s, e, h1, er⟩ A outer s' H E hr => ?_
  subst e er
  have few := words_few h1.wi h1.wo
  have hbl : ((beatsOf i o).map beatD).length = (beatsOf i o).length := List.length_map _
  refine' by_out ?h1 ?h2
  case h1 =>
    show DSs _ _ [.dat (lettersD i o), .dat s.d] _ _
    refine' dss_ret (ds_ret (de_lam3 (r := tabT (watcherOf i o s)) (y := "sentence") (j := 1) (Nl := n_lam1) (pl := ["state", "at", "beat"]) (k := 7) (R := R_stepOf numK (List.range 7) (stepsOf i o s) ((beatsOf i o).map beatD)) mm G sc_machine_by rfl ?bg
      (de_call (d := .list ((beatsOf i o).map beatD)) C1 (hr.mono (by omega)) (da_cons (de_name 0) da_nil) ⟨i, o, rfl, h1.wi, h1.wo, rfl⟩) de_int TB rfl rfl hmT hu rfl ?fr ?fy rfl rfl ?S rfl ?bl ?lr hr ?body ?G))
    case bg => exact G.binds fun _ _ _ _ _ _ us hl => match us, hl with | [_, _, _], _ => rfl
    case fr =>
      show ∀ z ∈ Scope.names _, z.2 = NameKind.free → (defScope s_watcher_by).names.lookup z.1 = some .cell ∨ (defScope s_watcher_by).names.lookup z.1 = some .free
      decide +kernel
    case fy => decide +kernel
    case S => exact NdefX.nscope_by (by decide +kernel)
    case bl => exact fun cl pm cv ctv us hl => match us, hl with | [_, _, _], _ => rfl
    case lr => exact fun ds d ⟨_, _, e, _⟩ => by rw [e] <;> rfl
    case body =>
      intro T' fl c' cl A' outer' s2 H' E' ds d hR hrA
      obtain ⟨n, j, rfl, hj, hn, rfl⟩ := hR
      have hj' : j < (beatsOf i o).length := by omega
      have eb : ((beatsOf i o).map beatD).getD j .none = beatD (beatsOf i o)[j] := by
        rw [List.getD_eq_getElem?_getD, List.getElem?_map, List.getElem?_eq_getElem hj'] <;> rfl
      have es : (stepsOf i o s n).getD j none = step (beatsOf i o)[j] n s := by
        unfold stepsOf
        rw [List.getD_eq_getElem?_getD, List.getElem?_map, List.getElem?_eq_getElem hj'] <;> rfl
      have hq : R_step (fun _ => True) [s.d, .int (n : Int), beatD (beatsOf i o)[j]] (okD numK (step (beatsOf i o)[j] n s)) := ⟨s, n, _, rfl, h1.low, trivial, by cases step (beatsOf i o)[j] n s <;> rfl⟩
      rw [eb, es]
      generalize okD numK (step (beatsOf i o)[j] n s) = r at hq
      generalize beatD (beatsOf i o)[j] = bt at hq
      refine ⟨[.dat (.int (n : Int)), .dat (.int (j : Int)), .dat bt, .dat s.d], ?_⟩
      show DE _ _ [.dat (.int (n : Int)), .dat (.int (j : Int)), .dat bt, .dat s.d] _ _ _
      exact de_call (C3 T') hrA (da_cons (de_name 3) (da_cons (de_name 0) (da_cons (de_name 2) da_nil))) hq
    case G =>
      intro T' fl cdv A' outer' s2 H' E' hr' act
      exact machine_ok (b := (0 : Nat)) keys_num (steps_closed h1.hi) (by decide) (by rw [List.length_range]; exact Nat.le_refl _) (by rw [List.length_range]; omega) (fun n _ => by unfold stepsOf; rw [List.length_map, List.length_map]) (by omega) ml me (by omega) (C2 T') hr' act
  case h2 => rfl
end
end
section
/-! F15 -/
/-! ### watchers side by side: the defs -/
theorem keys_tup : Keys true keyS := ⟨keyS_inj, keyS_ok⟩
def statesD (ss : List Nat) : PyData := .tuple (ss.map natD)
def watchD (ws : List (List Row)) : PyData := .list (ws.map tabT)
def R_step_rows : Rl := fun ds r => ∃ (m : Nat) (ws : List (List Row)) (ss : List Nat) (j : Nat), ds = [watchD ws, statesD ss, .int (j : Int)] ∧ Tabs m ws ∧ InP ws ss ∧ j < m ∧ r = okD keyS (stepRows ws ss j)
theorem in_none : ∀ {l : List (Option Nat)}, inD .none (l.map optD) = decide (none ∈ l)
  | [] => rfl
  | b :: l => by
    have ih := in_none (l := l)
    unfold inD at ih ⊢
    rw [List.map_cons, List.any_cons, ih]
    cases b with
    | none => simp [optD, PyData.eqv]
    | some x => simp [optD, PyData.eqv]
theorem flat_opts : ∀ l : List (Option Nat), (l.map optD).all flatD = true
  | [] => rfl
  | b :: l => by
    rw [List.map_cons, List.all_cons, flat_opts l]
    cases b <;> rfl
theorem tabs_at {rs : List Row} {s : Nat} (h : s < rs.length) : atI (rs.map rowT) (s : Int) = some (rowT (rs.getD s [])) := by
  refine atI_n ?_
  rw [List.getElem?_map, List.getElem?_eq_getElem h, List.getD_eq_getElem?_getD, List.getElem?_eq_getElem h]
  rfl
theorem row_at {r : Row} {j : Nat} (h : j < r.length) : atI (r.map optD) (j : Int) = some (optD (r.getD j none)) := by
  refine atI_n ?_
  rw [List.getElem?_map, List.getElem?_eq_getElem h, List.getD_eq_getElem?_getD, List.getElem?_eq_getElem h]
  rfl
theorem found_range {ws : List (List Row)} {ss : List Nat} {j : Nat} (h : InP ws ss) : foundOf ws ss j = (List.range ws.length).map fun i => look (ws.getD i []) (ss.getD i 0) j := by
  refine List.ext_getElem? fun i => ?_
  rw [List.getElem?_map]
  by_cases hi : i < ws.length
  · rw [List.getElem?_range hi]
    have hl : i < (foundOf ws ss j).length := by rw [found_len h]; exact hi
    have := found_get (j := j) h hi
    rw [List.getD_eq_getElem?_getD, List.getElem?_eq_getElem hl] at this
    rw [List.getElem?_eq_getElem hl]
    exact congrArg some this
  · rw [List.getElem?_eq_none (by rw [found_len h]; omega), List.getElem?_eq_none (by rw [List.length_range]; omega)]
    rfl
section
variable {T : Tb} {P : Program} {w : World} {K : PySem.W.Frag} {mg : Str → Option Value} {base : Heap} {f : Addr} {fd : FuncData}
theorem ok_step_rows (F : Fun K "step_rows" "step_rows" s_step_rows f fd) (mz : mg "zip" = none) (mt : mg "tuple" = none) : FnOk P w K mg base CX0 1 f fd ["watchers", "states", "at"] (SpD T K R_step_rows) := by
  have nd := sc_step_rows.nd
  refine fn_pure F sc_step_rows (fun ds d ⟨m, ws, ss, j, e, _⟩ => by rw [e] <;> rfl) fun ds d ⟨m, ws, ss, j, e, h1, h2, h3, er⟩ cdv A outer s' H E hr => ?_
  subst e er
  have hl := h2.len
  refine' by_out ?h1 ?h2
  case h1 =>
    show DSs _ _ [.dat (.list (ws.map tabT)), .dat (.tuple (ss.map natD)), .dat (.int (j : Int)), .un, .un, .un] _ _
    refine' dss_cons (ds_setLc (ds := zipD (ws.map tabT) (ss.map natD)) (rs := (foundOf ws ss j).map optD) 3 [("rows", 4), ("state", 5)] [4, 5] (di_zipLT mz (de_name 0) (de_name 1) (by rw [List.length_map, List.length_map, hl]) ?nt) (L2.blkOk_by (N := n_step_rows) (sc := defScope s_step_rows) (by decide +kernel)) nd (fun s H C cl fp => dg_two 4 5 rfl nd) rfl ?c1 rfl) ?b1
    case nt =>
      intro d hd
      obtain ⟨x, _, rfl⟩ := List.mem_map.mp hd
      rfl
    case c1 =>
      refine' compR_range (fun i => .tuple [tabT (ws.getD i []), natD (ss.getD i 0)]) (fun i => optD (look (ws.getD i []) (ss.getD i 0) j)) ws.length rfl rfl ?g1 ?e3 ?e4
      case e3 =>
        unfold zipD
        rw [List.length_map]
        refine List.map_congr_left fun i hi => ?_
        have hi := List.mem_range.mp hi
        rw [List.getD_eq_getElem?_getD, List.getD_eq_getElem?_getD, List.getElem?_map, List.getElem?_map, List.getElem?_eq_getElem hi, List.getElem?_eq_getElem (show i < ss.length by omega), List.getD_eq_getElem?_getD, List.getD_eq_getElem?_getD, List.getElem?_eq_getElem hi, List.getElem?_eq_getElem (show i < ss.length by omega)]
        rfl
      case e4 => rw [found_range h2, List.map_map] <;> rfl
      case g1 =>
        intro i hi
        have hs := h2.get hi
        obtain ⟨k, hk, wk⟩ := h1 _ (getD_mem (d := []) hi)
        have hw := wk.wid _ (getD_mem (d := []) hs)
        generalize ss.getD i 0 = s at hs hw
        generalize ws.getD i [] = rs at hs hw
        refine ⟨_, rfl, fun s H C cl fp => ?_⟩
        exact de_ix ix_seq (de_ix ix_seq (de_name 4) (de_name 5) (rd_ix rfl (tabs_at hs))) (de_name 2) (rd_ix rfl (row_at (by omega)))
    case b1 =>
      refine' dss_ret (ds_ret (d := okD keyS (stepRows ws ss j)) (de_if' (dt_cmp op_in_seq (by rfl) de_none (de_name 3) (rd_in rfl rfl (flat_opts _))) ?t1))
      case t1 =>
        rw [in_none]
        cases e : stepRows ws ss j with
        | none => exact ifx_T (decide_eq_true (found_none e)) de_none
        | some ts =>
          have e2 := found_some e
          refine ifx_F (decide_eq_false ?_) ?_
          · rw [e2]
            simp
          · have e3 : okD keyS (some ts) = .tuple ((foundOf ws ss j).map optD) := by
              rw [e2, List.map_map]
              exact keyS_data ts
            rw [e3]
            exact de_callTy cr_tupF mt (by decide +kernel) (da_cons (de_name 3) da_nil) (rc_tuple rfl)
  case h2 => rfl
end
def R_joined : Rl := fun ds r => ∃ (i o : List Str) (ws : List (List Row)), ds = [lettersD i o, watchD ws] ∧ Words i ∧ Words o ∧ Tabs (beatsOf i o).length ws ∧ manyOf ws ≤ 60 ∧ r = tabT (joinedOf (beatsOf i o).length ws)
abbrev n_lam2 : List Str := ["states", "at", "beat", "watchers"]
section
variable {T : Tb} {P : Program} {w : World} {K : PySem.W.Frag} {mg : Str → Option Value} {base : Heap} {f c PA g : Addr} {fd gd : FuncData}
theorem ok_joined_rows (F : FunC K "joined_rows" s_joined_rows f fd c) (G : Fun K "machine_by" "machine_by" s_machine_by g gd) (mm : mg "machine_by" = some (.ref g)) (TB : LamX.TabB base mg c PA) (hmT : (PA, Str.ofString "joined_rows.<locals>.<lambda>") ∈ T.tabs) (hu : ∀ p ∈ T.tabs, p.1 = PA → p.2 = Str.ofString "joined_rows.<locals>.<lambda>")
    (ml : mg "len" = none) (me : mg "enumerate" = none) (mt : mg "tuple" = none) (C1 : Cal P w K mg base 1 "beats_of" (SpD T K R_beats_of)) (C2 : ∀ T', Cal P w K mg base 2 "least_rows" (SpD T' K R_least)) (C3 : ∀ T', Cal P w K mg base 1 "step_rows" (SpD T' K R_step_rows)) :
    FnOk P w K mg base CX0 4 f fd ["letters", "watchers"] (SpD T K R_joined) := by
  have nd := sc_joined_rows.nd
  refine fn_pureC F sc_joined_rows (fun ds d ⟨i, o, s, e, _⟩ => by rw [e] <;> rfl) fun ds d ⟨i, o, ws, e, wi, wo, h1, h2, er⟩ A outer s' H E hr => ?_
  subst e er
  have few := words_few wi wo
  have hbl : ((beatsOf i o).map beatD).length = (beatsOf i o).length := List.length_map _
  have ez : (keyS (zeros ws)).data = .tuple (ws.map fun _ => natD 0) := by
    rw [keyS_data]
    unfold zeros
    rw [List.map_map]
    rfl
  refine' by_out ?h1 ?h2
  case h1 =>
    show DSs _ _ [.dat (lettersD i o), .dat (.list (ws.map tabT)), .un, .un] _ _
    refine' dss_cons (ds_set (d := (keyS (zeros ws)).data) 2 ?a1 nd) ?b1
    case a1 =>
      rw [ez]
      refine' de_callTy cr_tupF mt (by decide +kernel) (da_cons ?t4 da_nil) (rc_tupL (ds := ws.map fun _ => natD 0))
      case t4 => exact de_comp [("rows", 3)] [3] (di_list (ds := ws.map tabT) (de_name 1)) (L2.blkOk_by (N := n_joined_rows) (sc := defScope s_joined_rows) (by decide +kernel)) nd (fun s H C cl fp => dg_name 3 nd) rfl (compR_mapL tabT (fun b => natD 0) rfl rfl fun b hb => ⟨_, rfl, fun s H C cl fp => de_int⟩)
    case b1 =>
      refine' dss_ret (ds_ret (de_lam3 (r := tabT (joinedOf (beatsOf i o).length ws)) (y := "watchers") (j := 1) (Nl := n_lam2) (pl := ["states", "at", "beat"]) (k := 1) (R := R_stepOf keyS (prodS ws) (stepsJ (beatsOf i o).length ws) ((beatsOf i o).map beatD)) mm G sc_machine_by rfl ?bg
        (de_call (d := .list ((beatsOf i o).map beatD)) C1 (hr.mono (by omega)) (da_cons (de_name 0) da_nil) ⟨i, o, rfl, wi, wo, rfl⟩) (de_name 2) TB rfl rfl hmT hu rfl ?fr ?fy rfl rfl ?S rfl ?bl ?lr hr ?body ?G))
      case bg => exact G.binds fun _ _ _ _ _ _ us hl => match us, hl with | [_, _, _], _ => rfl
      case fr =>
        show ∀ z ∈ Scope.names _, z.2 = NameKind.free → (defScope s_joined_rows).names.lookup z.1 = some .cell ∨ (defScope s_joined_rows).names.lookup z.1 = some .free
        decide +kernel
      case fy => decide +kernel
      case S => exact NdefX.nscope_by (by decide +kernel)
      case bl => exact fun cl pm cv ctv us hl => match us, hl with | [_, _, _], _ => rfl
      case lr => exact fun ds d ⟨_, _, e, _⟩ => by rw [e] <;> rfl
      case body =>
        intro T' fl c' cl A' outer' s2 H' E' ds d hR hrA
        obtain ⟨ss, j, rfl, hj, hn, rfl⟩ := hR
        have hj' : j < (beatsOf i o).length := by omega
        have es : (stepsJ (beatsOf i o).length ws ss).getD j none = stepRows ws ss j := by
          unfold stepsJ
          rw [List.getD_eq_getElem?_getD, List.getElem?_map, List.getElem?_range hj'] <;> rfl
        have hq : R_step_rows [watchD ws, statesD ss, .int (j : Int)] (okD keyS (stepRows ws ss j)) := ⟨_, ws, ss, j, rfl, h1, prod_mem.mp hn, hj', rfl⟩
        rw [es]
        have ek : (keyS ss).data = statesD ss := keyS_data ss
        rw [ek]
        generalize okD keyS (stepRows ws ss j) = r at hq
        generalize ((beatsOf i o).map beatD).getD j .none = bt
        refine ⟨[.dat (statesD ss), .dat (.int (j : Int)), .dat bt, .dat (watchD ws)], ?_⟩
        show DE _ _ [.dat (statesD ss), .dat (.int (j : Int)), .dat bt, .dat (watchD ws)] _ _ _
        exact de_call (C3 T') hrA (da_cons (de_name 3) (da_cons (de_name 0) (da_cons (de_name 1) da_nil))) hq
      case G =>
        intro T' fl cdv A' outer' s2 H' E' hr' act
        exact machine_ok (b := zeros ws) keys_tup (stepsJ_closed h1) (prod_mem.mpr (zeros_in h1)) (by rw [prod_len]; exact h2) (by rw [prod_len]; omega) (fun n _ => by unfold stepsJ; rw [List.length_map, List.length_range, List.length_map]) (by omega) ml me (by omega) (C2 T') hr' act
  case h2 => rfl
end
end
section
/-! F16 -/
/-! ### watcher, together -/
theorem watcher_wf {i o : List Str} {s : Sen} {q : Nat} (h : ∀ k ∈ s.nums, k ≤ 6) : ∃ k, 1 ≤ k ∧ k ≤ 7 ∧ Wf k (beatsOf i o).length (watcherOf i o s) := by
  obtain ⟨k, h1, h2, w⟩ := table_wf (steps_closed (i := i) (o := o) h) (b := 0) (n := 7) (m := (beatsOf i o).length) (by decide) (Nat.le_of_eq List.length_range) fun n _ => by
    unfold stepsOf
    rw [List.length_map]
  rw [List.length_range] at h2
  obtain ⟨q, h3, h4, wq⟩ := least_wf w h1
  exact ⟨q, h3, Nat.le_trans h4 h2, wq⟩
def watchers (i o : List Str) (ss : List Sen) : List (List Row) := ss.map (watcherOf i o)
theorem watchers_tabs {i o : List Str} {ss : List Sen} (h : ∀ s ∈ ss, SenOk i o s) : Tabs (beatsOf i o).length (watchers i o ss) := fun rs hr => by
  obtain ⟨s, hs, rfl⟩ := List.mem_map.mp hr
  obtain ⟨k, h1, _, w⟩ := watcher_wf (i := i) (o := o) (q := 0) (h s hs).hi
  exact ⟨k, h1, w⟩
def sensD (ss : List Sen) : PyData := .tuple (ss.map Sen.d)
def R_many : Rl := fun ds r => ∃ ws : List (List Row), ds = [watchD ws] ∧ (∀ rs ∈ ws, rs.length ≤ 1000) ∧ r = .int (manyOf ws : Int)
def R_together : Rl := fun ds r => ∃ (i o : List Str) (ss : List Sen), ds = [lettersD i o, sensD ss] ∧ Words i ∧ Words o ∧ (∀ s ∈ ss, SenOk i o s) ∧ ss.length ≤ 8 ∧ manyOf (watchers i o ss) ≤ 60 ∧ r = tabT (joinedOf (beatsOf i o).length (watchers i o ss))
def R_need_two : Rl := fun ds r => ∃ (i o : List Str) (s t : Sen), ds = [lettersD i o, s.d, t.d] ∧ SenOk i o s ∧ SenOk i o t ∧ r = .none
theorem many_step {ws : List (List Row)} {j : Nat} (h : j < ws.length) : manyOf (ws.take (j + 1)) = manyOf (ws.take j) * (ws.getD j []).length := by
  rw [List.take_add_one, List.getD_eq_getElem?_getD, List.getElem?_eq_getElem h, manyOf_app]
  show _ * manyOf [_] = _
  rw [manyOf, manyOf, Nat.mul_one]
  rfl
section
variable {T : Tb} {P : Program} {w : World} {K : PySem.W.Frag} {mg : Str → Option Value} {base : Heap} {f : Addr} {fd : FuncData}
local macro_rules | `(tactic| wtm_at "dR") => `(tactic| exact ⟨_, _, _, rfl, by assumption, rfl⟩)
theorem ok_watcher (F : Fun K "watcher" "watcher" s_watcher f fd) (C1 : Cal P w K mg base 7 "need_sentence" (SpD T K R_need_sentence)) (C2 : Cal P w K mg base 10 "watcher_by" (SpD T K R_watcher)) : FnOk P w K mg base CX0 11 f fd ["letters", "sentence"] (SpD T K R_watcher) := by
  have nd := sc_watcher.nd
  refine fn_pure F sc_watcher (fun ds d ⟨i, o, s, e, _⟩ => by rw [e] <;> rfl) fun ds d ⟨i, o, s, e, h1, er⟩ cdv A outer s' H E hr => ?_
  subst e er
  refine' by_out ?h1 ?h2
  case h1 =>
    show DSs _ _ [.dat _, .dat _] _ _
    wtm_at "dS"
  case h2 => rfl
theorem ok_need_two (F : Fun K "need_two" "need_two" s_need_two f fd) (C1 : Cal P w K mg base 7 "need_sentence" (SpD T K R_need_sentence)) : FnOk P w K mg base CX0 8 f fd ["letters", "sentence", "other"] (SpD T K R_need_two) := by
  have nd := sc_need_two.nd
  refine fn_pure F sc_need_two (fun ds d ⟨i, o, s, t, e, _⟩ => by rw [e] <;> rfl) fun ds d ⟨i, o, s, t, e, h1, h2, er⟩ cdv A outer s' H E hr => ?_
  subst e er
  refine' by_out ?h1 ?h2
  case h1 =>
    show DSs _ _ [.dat _, .dat _, .dat _] _ _
    wtm_at "dS"
  case h2 => rfl
theorem ok_many_of (F : Fun K "many_of" "many_of" s_many_of f fd) (ml : mg "len" = none) : FnOk P w K mg base CX0 1 f fd ["watchers"] (SpD T K R_many) := by
  have nd := sc_many_of.nd
  refine fn_pure F sc_many_of (fun ds d ⟨ws, e, _⟩ => by rw [e] <;> rfl) fun ds d ⟨ws, e, h1, er⟩ cdv A outer s' H E hr => ?_
  subst e er
  refine' by_out ?h1 ?h2
  case h1 =>
    show DSs _ _ [.dat (.list (ws.map tabT)), .un, .un] _ _
    refine' dss_cons (ds_set 1 (d := .int 1) de_int nd) ?b1
    case b1 =>
      refine' dss_cons (ds_for (ks := [2]) (o := .nx [.dat (.list (ws.map tabT)), .dat (.int (manyOf ws : Int)), .un]) (di_list (ds := ws.map tabT) (de_name 0)) (dg_name 2 nd) ?l1) ?b2
      case l1 =>
        refine' loopR_to (fun j => [.dat (.list (ws.map tabT)), .dat (.int (manyOf (ws.take j) : Int)), .un]) (fun j => tabT (ws.getD j [])) ws.length ?g1 rfl ?z1 (map_range ws [] tabT)
        case z1 => rw [List.take_length]
        case g1 =>
          intro j hj
          refine ⟨_, rfl, ?_⟩
          have hw := h1 _ (getD_mem (d := []) hj)
          rw [many_step hj]
          generalize manyOf (ws.take j) = q
          generalize ws.getD j [] = rs at hw
          refine' dss_is (dss_fgt 2 (dss_cons (ds_set 1 (d := .int ((q * rs.length : Nat) : Int)) ?a2 nd) dss_nil)) ?e5
          case a2 =>
            refine' de_is (de_op op_mul (de_name 1) (de_callB L2.call_len ml (by decide +kernel) (da_cons (de_name 2) da_nil) (rc_len rfl)) (rd_I ?cm (vd_int _))) ?e2
            case cm =>
              right
              have e : (rs.map rowT).length = rs.length := List.length_map _
              constructor <;> omega
            case e2 =>
              rw [List.length_map]
              exact congrArg PyData.int (by rw [Int.natCast_mul])
          case e5 => rfl
      case b2 => exact dss_ret (ds_ret (de_name 1))
  case h2 => rfl
local macro_rules | `(tactic| wtm_at "dR") => `(tactic| first | exact ⟨_, _, rfl, by assumption, by assumption, rfl⟩ | exact ⟨_, rfl, by assumption, rfl⟩)
theorem ok_together (F : Fun K "together" "together" s_together f fd) (mI : mg "isinstance" = none) (mt : mg "tuple" = none) (ml : mg "len" = none) (ma : mg "all" = none) {t1 t2 : Tok} (mS : mg "MOST_SENTENCES" = some (.int 8 t1)) (mM : mg "MOST_STANDINGS" = some (.int 60 t2))
    (C1 : Cal P w K mg base 4 "need_letters" (SpD T K R_need_letters)) (C2 : Cal P w K mg base 6 "is_sentence_by" (SpD T K R_is_sentence)) (C3 : Cal P w K mg base 10 "watcher_by" (SpD T K R_watcher)) (C4 : Cal P w K mg base 1 "many_of" (SpD T K R_many)) (C5 : Cal P w K mg base 4 "joined_rows" (SpD T K R_joined)) :
    FnOk P w K mg base CX0 11 f fd ["letters", "sentences"] (SpD T K R_together) := by
  have nd := sc_together.nd
  refine fn_pure F sc_together (fun ds d ⟨i, o, s, e, _⟩ => by rw [e] <;> rfl) fun ds d ⟨i, o, ss, e, wi, wo, h1, h2, h3, er⟩ cdv A outer s' H E hr => ?_
  subst e er
  have hl : (ss.map Sen.d).length = ss.length := List.length_map _
  have g1 : decide ((8 : Int) < ((ss.map Sen.d).length : Int)) = false := decide_eq_false (by omega)
  have g2 : decide ((60 : Int) < (manyOf (watchers i o ss) : Int)) = false := decide_eq_false (by omega)
  have ht := watchers_tabs h1
  have hw : ∀ rs ∈ watchers i o ss, rs.length ≤ 1000 := fun rs hr => by
    obtain ⟨s, hs, rfl⟩ := List.mem_map.mp hr
    obtain ⟨k, _, h2, w⟩ := watcher_wf (i := i) (o := o) (q := 0) (h1 s hs).hi
    rw [w.len]
    omega
  refine' by_out ?h1 ?h2
  case h1 =>
    show DSs _ _ [.dat (lettersD i o), .dat (.tuple (ss.map Sen.d)), .un, .un, .un] _ _
    refine' dss_cons (ds_expr (de_call (d := .none) C1 (hr.mono (by omega)) (da_cons (de_name 0) da_nil) ⟨i, o, rfl, wi, wo, rfl⟩)) ?b1
    case b1 =>
      refine' dss_if (k := false) ?a1 ?tb2
      case a1 =>
        refine' dt_w ?w1
        case w1 =>
          refine' dw_or' ?w2 ?t2
          case w2 => wtm_at "dT"
          case t2 =>
            refine' orW_F rfl ?w3
            case w3 =>
              refine' dw_or1 (dt_is (dt_cmp op_gt (nomark _) (de_callB L2.call_len ml (by decide +kernel) (da_cons (de_name 1) da_nil) (rc_len rfl)) (de_globI mS) (rd_I0 (vd_bl _))) g1)
      case tb2 =>
        refine' ife_F0 rfl ?b2
        case b2 =>
          refine' dss_if (k := false) ?a3 (ife_F0 rfl ?b3)
          case a3 =>
            refine' dt_not (k := true) (dt_val ?a4)
            case a4 =>
              refine' de_callB (L2.cr_all rfl) (by assumption) (by decide +kernel) (da_cons ?d10 da_nil) ?r10
              case d10 =>
                refine' de_comp [("one", 3)] [3] (di_tup (ds := ss.map Sen.d) (de_name 1)) (L2.blkOk_by (N := n_together) (sc := defScope s_together) (by decide +kernel)) nd (fun s H C cl fp => dg_name 3 nd) rfl ?c10
                case c10 =>
                  refine compR_all rfl rfl fun d hd => ?_
                  obtain ⟨x, hx, rfl⟩ := List.mem_map.mp hd
                  refine ⟨_, rfl, fun s H C' cl fp => ?_⟩
                  exact de_call C2 (hr.mono (by omega)) (da_cons (de_name 0) (da_cons (de_name 3) da_nil)) ⟨_, _, x, rfl, h1 x hx, rfl⟩
              case r10 => exact rc_allT all_true
          case b3 =>
            refine' dss_cons (ds_setLc (ds := ss.map Sen.d) (rs := (watchers i o ss).map tabT) 2 [("sentence", 4)] [4] (di_tup (de_name 1)) (L2.blkOk_by (N := n_together) (sc := defScope s_together) (by decide +kernel)) nd (fun s H C cl fp => dg_name 4 nd) rfl ?c11 rfl) ?b4
            case c11 =>
              unfold watchers
              rw [List.map_map]
              refine compR_mapL Sen.d (fun s => tabT (watcherOf i o s)) rfl rfl fun x hx => ⟨_, rfl, fun s H C' cl fp => ?_⟩
              exact de_call C3 hr (da_cons (de_name 0) (da_cons (de_name 4) da_nil)) ⟨_, _, x, rfl, h1 x hx, rfl⟩
            case b4 =>
              refine' dss_if (k := false) ?a5 (ife_F0 rfl ?b5)
              case a5 => exact dt_is (dt_cmp op_gt (nomark _) (de_call (d := .int (manyOf (watchers i o ss) : Int)) C4 (hr.mono (by omega)) (da_cons (de_name 2) da_nil) ⟨_, rfl, hw, rfl⟩) (de_globI mM) (rd_I0 (vd_bl _))) g2
              case b5 => exact dss_ret (ds_ret (de_call C5 (hr.mono (by omega)) (da_cons (de_name 0) (da_cons (de_name 2) da_nil)) ⟨i, o, _, rfl, wi, wo, ht, h3, rfl⟩))
  case h2 => rfl
end
end
section
/-! F17 -/
/-! ### the shortest parting: the def -/
theorem keys_pair : Keys true keyP := ⟨keyP_inj, keyP_ok⟩
def prD (e : Pr × List Nat) : PyData := (keyP e.1).data
def pathD (bs : List PyData) (w : List Nat) : PyData := .tuple (w.map fun j => bs.getD j .none)
def waysD (bs : List PyData) (l : Found) : List (NestedKey × PyData) := l.map fun e => (keyP e.1, pathD bs e.2)
theorem ways_in {bs : List PyData} {p : Pr} {w : List Nat} : ∀ {l : Found} {i : Nat}, (l.map (·.1)).Nodup → l[i]? = some (p, w) → dget (waysD bs l) (keyP p) = some (pathD bs w)
  | [], i, _, h => by simp at h
  | e :: l, i, nd, h => by
    rw [List.map_cons, List.nodup_cons] at nd
    unfold waysD dget
    rw [List.map_cons]
    cases i with
    | zero =>
      cases h
      rw [List.find?_cons_of_pos]
      · rfl
      · exact decide_eq_true rfl
    | succ i =>
      have h : l[i]? = some (p, w) := by simpa using h
      have ne : e.1 ≠ p := fun z => nd.1 (by rw [z]; exact List.mem_map.mpr ⟨_, List.mem_of_getElem? h, rfl⟩)
      rw [List.find?_cons_of_neg (by simpa using fun z => ne (keyP_inj _ _ z))]
      exact ways_in nd.2 h
theorem ways_out {bs : List PyData} {p : Pr} : ∀ {l : Found}, p ∉ l.map (·.1) → dget (waysD bs l) (keyP p) = none
  | [], _ => rfl
  | e :: l, h => by
    rw [List.map_cons, List.mem_cons, not_or] at h
    unfold waysD dget
    rw [List.map_cons, List.find?_cons_of_neg (by simpa using fun z => h.1 (keyP_inj _ _ z).symm)]
    exact ways_out h.2
theorem ways_put {bs : List PyData} {p : Pr} {w : List Nat} {l : Found} (h : p ∉ l.map (·.1)) : dput (waysD bs l) (keyP p) (pathD bs w) = waysD bs (l ++ [(p, w)]) := by
  unfold dput
  rw [ways_out h]
  unfold waysD
  rw [List.map_append]
  rfl
def R_parting : Rl := fun ds r => ∃ (i o : List Str) (s t : Sen), ds = [lettersD i o, s.d, t.d] ∧ SenOk i o s ∧ SenOk i o t ∧ r = match partOf (watcherOf i o s) (watcherOf i o t) (beatsOf i o).length with
  | none => .none
  | some w => pathD ((beatsOf i o).map beatD) w
/-- a block that goes on with what is found, or returns a way -/
def LapR (T : Tb) (X : Cx) (Γ : Ga) (sts : List Stmt) (G : Found → Ga) (R : List Nat → PyData) (s : Step) : Prop := match s with
  | .go l' => DSs T X Γ sts (.nx (G l'))
  | .out v => ∃ Γ2, DSs T X Γ sts (.ret Γ2 (R v))
def LoopL (T : Tb) (X : Cx) (ks : List Nat) (body : List Stmt) (ds : List PyData) (Γ : Ga) (G : Found → Ga) (R : List Nat → PyData) (s : Step) : Prop := match s with
  | .go l' => LoopR T X ks body ds Γ (.nx (G l'))
  | .out v => ∃ Γ2, LoopR T X ks body ds Γ (.ret Γ2 (R v))
theorem loop_laps {T : Tb} {X : Cx} {body : List Stmt} {n' k' m i : Nat} {A B : List Row} (wA : Wf n' m A) (wB : Wf k' m B) {bs : List PyData} {p : Pr} {w : List Nat} (G : Found → Ga)
    (hb : ∀ j l, j < m → Fine A B l → l[i]? = some (p, w) → LapR T X (setG (G l) [11, 12] [.int (j : Int), bs.getD j .none]) body G (pathD bs) (lap A B p w l j)) :
    ∀ n j l, j + n = m → Fine A B l → l[i]? = some (p, w) → LoopL T X [11, 12] body ((List.range' j n).map fun j => .tuple [.int ((j : Nat) : Int), bs.getD j .none]) (G l) G (pathD bs) (laps A B p w n j l)
  | 0, j, l, _, _, _ => .nil _
  | n + 1, j, l, hj, hf, hi => by
    have h1 := hb j l (by omega) hf hi
    unfold laps
    rw [List.range'_succ, List.map_cons]
    cases e : lap A B p w l j with
    | go l' =>
      rw [e] at h1
      obtain ⟨hf2, hi2, _⟩ := lap_fine wA wB hf hi e
      have ih := loop_laps wA wB G hb n (j + 1) l' (by omega) hf2 hi2
      show LoopL _ _ _ _ _ _ _ _ (laps A B p w n (j + 1) l')
      cases e2 : laps A B p w n (j + 1) l' with
      | go l2 =>
        rw [e2] at ih
        exact .next rfl h1 ih
      | out v =>
        rw [e2] at ih
        obtain ⟨Γ2, ih⟩ := ih
        exact ⟨Γ2, .next rfl h1 ih⟩
    | out v =>
      rw [e] at h1
      obtain ⟨Γ2, h1⟩ := h1
      exact ⟨Γ2, .ret rfl h1⟩
theorem while_part {T : Tb} {X : Cx} {c : Expr} {body : List Stmt} {n' k' m : Nat} {A B : List Row} (wA : Wf n' m A) (wB : Wf k' m B) {bs : List PyData} (G : Nat → Found → Ga)
    (hc : ∀ i l, DT T X (G i l) c (G i l) (decide ((i : Int) < ((l.length : Nat) : Int))))
    (hb : ∀ i l p w, Fine A B l → l[i]? = some (p, w) → LapR T X (G i l) body (G (i + 1)) (pathD bs) (laps A B p w m 0 l)) :
    ∀ n i l, Fine A B l → i ≤ l.length → i + n = A.length * B.length + 1 → match partF A B m n i l with
      | none => ∃ Γ2, WhileR T X c body n (G i l) (.nx Γ2)
      | some v => ∃ Γ2, WhileR T X c body n (G i l) (.ret Γ2 (pathD bs v))
  | 0, i, l, hf, hi, hn => by
    have := hf.len
    omega
  | n + 1, i, l, hf, hi, hn => by
    have h0 := hc i l
    unfold partF
    cases e : l[i]? with
    | none =>
      have hl := List.getElem?_eq_none_iff.mp e
      rw [decide_eq_false (by omega)] at h0
      exact ⟨_, .done h0⟩
    | some q =>
      obtain ⟨p, w⟩ := q
      have hl := (List.getElem?_eq_some_iff.mp e).1
      rw [decide_eq_true (by omega)] at h0
      have h1 := hb i l p w hf e
      show match (match laps A B p w m 0 l with
        | .go l' => partF A B m n (i + 1) l'
        | .out v => some v) with
        | none => _
        | some v => _
      cases e2 : laps A B p w m 0 l with
      | go l' =>
        rw [e2] at h1
        obtain ⟨hf2, hi2, hl2⟩ := laps_fine wA wB hf e e2
        have ih := while_part wA wB G hc hb n (i + 1) l' hf2 (by omega) (by omega)
        show match partF A B m n (i + 1) l' with
          | none => _
          | some v => _
        cases e3 : partF A B m n (i + 1) l' with
        | none =>
          rw [e3] at ih
          obtain ⟨Γ2, ih⟩ := ih
          exact ⟨Γ2, .step h0 h1 ih⟩
        | some v =>
          rw [e3] at ih
          obtain ⟨Γ2, ih⟩ := ih
          exact ⟨Γ2, .step h0 h1 ih⟩
      | out v =>
        rw [e2] at h1
        obtain ⟨Γ2, h1⟩ := h1
        exact ⟨Γ2, .ret h0 h1⟩
theorem path_snoc {bs : List PyData} {w : List Nat} {j : Nat} : PyData.tuple ((w.map fun j => bs.getD j .none) ++ [bs.getD j .none]) = pathD bs (w ++ [j]) := by
  unfold pathD
  rw [List.map_append]
  rfl
end
section
/-! F18 -/
/-! ### parting -/
theorem out_while {T : Tb} {X : Cx} {Γ : Ga} {c : Expr} {pos : Pos} {n : Nat} {body sts : List Stmt} {r : PyData} (hl : ∃ o1, WhileR T X c body n Γ o1 ∧ ∃ o, SeqE T X o1 sts o ∧ OutR o r) (hp : PassesOwn (model X.prog X.w) X.A X.env X.xe := by exact PassesOwn.never) : ∃ o, DSs T X Γ (.While c body [] pos :: sts) o ∧ OutR o r := by
  obtain ⟨o1, h1, o, h2, h3⟩ := hl
  exact ⟨o, dss_seq (ds_while h1 hp) h2, h3⟩
theorem out_part {T : Tb} {X : Cx} {c : Expr} {body rest : List Stmt} {n' k' m : Nat} {A B : List Row} (wA : Wf n' m A) (wB : Wf k' m B) (hA : 1 ≤ A.length) (hB : 1 ≤ B.length) {bs : List PyData} (G : Nat → Found → Ga)
    (hc : ∀ i l, DT T X (G i l) c (G i l) (decide ((i : Int) < ((l.length : Nat) : Int))))
    (hb : ∀ i l p w, Fine A B l → l[i]? = some (p, w) → LapR T X (G i l) body (G (i + 1)) (pathD bs) (laps A B p w m 0 l))
    (hr : ∀ Γ2, ∃ Γ3, DSs T X Γ2 rest (.ret Γ3 .none)) :
    ∃ o1, WhileR T X c body (A.length * B.length + 1) (G 0 [((0, 0), [])]) o1 ∧ ∃ o, SeqE T X o1 rest o ∧ OutR o (match partOf A B m with
      | none => .none
      | some w => pathD bs w) := by
  have h := while_part wA wB G hc hb (A.length * B.length + 1) 0 _ (Fine.begin hA hB) (Nat.zero_le _) (Nat.zero_add _)
  unfold partOf
  cases e : partF A B m (A.length * B.length + 1) 0 [((0, 0), [])] with
  | none =>
    rw [e] at h
    obtain ⟨Γ2, h⟩ := h
    obtain ⟨Γ3, h3⟩ := hr Γ2
    exact ⟨_, h, _, seq_nx h3, rfl⟩
  | some v =>
    rw [e] at h
    obtain ⟨Γ2, h⟩ := h
    exact ⟨_, h, _, seq_ret, rfl⟩
theorem dss_of_loop {T : Tb} {X : Cx} {Γ Γ1 : Ga} {tg iter : Expr} {pos : Pos} {ks : List Nat} {ds : List PyData} {body sts : List Stmt} {s : Step} {g : Found → Ga} {R : List Nat → PyData} (G : Found → Ga) (hi : DI T X tg Γ iter Γ1 ds) (hg : DG T X tg ks)
    (hl : LoopL T X ks body ds Γ1 G R s)
    (hr : ∀ l', DSs T X (G l') sts (.nx (g l')))
    (hc : X.calm = true := by rfl) (hp : PassesOwn (model X.prog X.w) X.A X.env X.xe := by exact PassesOwn.never)
    (hs : ∀ x, foldedSetIterable iter X.env x = pure x := by intro _; rfl) : LapR T X Γ (.For tg iter body [] pos :: sts) g R s := by
  cases s with
  | go l' => exact dss_seq (ds_for hi hg hl hc hp hs) (seq_nx (hr l'))
  | out v =>
    obtain ⟨Γ2, hl⟩ := hl
    exact ⟨Γ2, dss_seq (ds_for hi hg hl hc hp hs) seq_ret⟩
theorem dss_of_cons {T : Tb} {X : Cx} {Γ Γ1 : Ga} {st : Stmt} {sts : List Stmt} {s : Step} {g : Found → Ga} {R : List Nat → PyData} (h : DS T X Γ st (.nx Γ1)) (t : LapR T X Γ1 sts g R s) : LapR T X Γ (st :: sts) g R s := by
  cases s with
  | go l' => exact dss_cons h t
  | out v =>
    obtain ⟨Γ2, t⟩ := t
    exact ⟨Γ2, dss_cons h t⟩
theorem dss_fgtR {T : Tb} {X : Cx} {Γ Γ1 : Ga} {body : List Stmt} {d : PyData} (i : Nat) (h : DSs T X Γ body (.ret Γ1 d)) : DSs T X Γ body (.ret (Γ1.set i .un) d) := fun B =>
  pss_imp (h B) fun D σ H ⟨F, o, q⟩ => ⟨F, o, fun F' σ' H' v o' s' r' => q F' σ' H' v (o'.forget i) s' r'⟩
theorem beats_not_thin {bs : List Bt} {w : List Nat} {j : Nat} : thinD ((w.map fun j => (bs.map beatD).getD j .none) ++ [(bs.map beatD).getD j .none]) = false := by
  have e : ∀ k, thD ((bs.map beatD).getD k .none) = false := fun k => by
    rw [List.getD_eq_getElem?_getD, List.getElem?_map]
    cases bs[k]? <;> rfl
  cases w with
  | nil => exact thin_head (e j)
  | cons a w => exact thin_head (e a)
section
variable {T : Tb} {P : Program} {w : World} {K : PySem.W.Frag} {mg : Str → Option Value} {base : Heap} {f : Addr} {fd : FuncData}
theorem ok_parting (F : Fun K "parting" "parting" s_parting f fd) (ml : mg "len" = none) (me : mg "enumerate" = none) (C1 : Cal P w K mg base 8 "need_two" (SpD T K R_need_two)) (C2 : Cal P w K mg base 10 "watcher_by" (SpD T K R_watcher)) (C3 : Cal P w K mg base 1 "beats_of" (SpD T K R_beats_of)) :
    FnOk P w K mg base CX0 11 f fd ["letters", "sentence", "other"] (SpD T K R_parting) := by
  have nd := sc_parting.nd
  refine fn_pure F sc_parting (fun ds d ⟨i, o, s, t, e, _⟩ => by rw [e] <;> rfl) fun ds d ⟨i, o, s, t, e, h1, h2, er⟩ cdv A outer s' H E hr => ?_
  subst e er
  have hu := hr.units
  have few := words_few h1.wi h1.wo
  obtain ⟨nA, a1, a2, wA⟩ := watcher_wf (i := i) (o := o) (q := 0) h1.hi
  obtain ⟨nB, b1, b2, wB⟩ := watcher_wf (i := i) (o := o) (q := 0) h2.hi
  show ∃ o', DSs _ _ [.dat (lettersD i o), .dat s.d, .dat t.d, .un, .un, .un, .un, .un, .un, .un, .un, .un, .un, .un] _ o' ∧ OutR o' _
  refine out_cons (ds_expr (de_call (d := .none) C1 (hr.mono (by omega)) (da_cons (de_name 0) (da_cons (de_name 1) (da_cons (de_name 2) da_nil))) ⟨i, o, s, t, rfl, h1, h2, rfl⟩)) ?_
  refine out_cons (ds_parO3 3 4 5 (dv_cons (do1_dat (de_call (d := tabT (watcherOf i o s)) C2 hr (da_cons (de_name 0) (da_cons (de_name 1) da_nil)) ⟨i, o, s, rfl, h1, rfl⟩)) (dv_cons (do1_dat (de_call (d := tabT (watcherOf i o t)) C2 hr (da_cons (de_name 0) (da_cons (de_name 2) da_nil)) ⟨i, o, t, rfl, h2, rfl⟩)) (dv_cons (do1_dat (de_call (d := .list ((beatsOf i o).map beatD)) C3 (hr.mono (by omega)) (da_cons (de_name 0) da_nil) ⟨i, o, rfl, h1.wi, h1.wo, rfl⟩)) dv_nil))) rfl nd) ?_
  have hA : (watcherOf i o s).length ≤ 7 := by rw [wA.len]; exact a2
  have hB : (watcherOf i o t).length ≤ 7 := by rw [wB.len]; exact b2
  have hA1 : 1 ≤ (watcherOf i o s).length := by rw [wA.len]; exact a1
  have hB1 : 1 ≤ (watcherOf i o t).length := by rw [wB.len]; exact b1
  generalize watcherOf i o s = A at wA hA hA1
  generalize watcherOf i o t = B at wB hB hB1
  generalize hbs : beatsOf i o = bts at few wA wB
  generalize lettersD i o = L
  generalize s.d = sd
  generalize t.d = td
  show ∃ o', DSs _ _ [.dat L, .dat sd, .dat td, .dat (tabT A), .dat (tabT B), .dat (.list (bts.map beatD)), .un, .un, .un, .un, .un, .un, .un, .un] _ o' ∧ OutR o' _
  refine out_cons (ds_parO3 6 7 8 (dv_cons (do1_lst (ds := [.tuple [.int 0, .int 0]]) (da_cons (de_tup (da_cons de_int (da_cons de_int da_nil)) (Nat.le_of_ble_eq_true rfl)) da_nil) (Nat.le_of_ble_eq_true rfl)) (dv_cons (do1_dict1 true (k := keyP (0, 0)) (d := .tuple []) (by rw [keyP_data]; exact de_tup (da_cons de_int (da_cons de_int da_nil)) (Nat.le_of_ble_eq_true rfl)) (de_tup da_nil (Nat.le_of_ble_eq_true rfl)) (keyP_ok _) hu) (dv_cons (do1_dat (de_int (i := 0))) dv_nil))) rfl nd) ?_
  show ∃ o', DSs _ _ [.dat L, .dat sd, .dat td, .dat (tabT A), .dat (tabT B), .dat (.list (bts.map beatD)), .lst none [.tuple [.int 0, .int 0]], .dct true [(keyP (0, 0), .tuple [])], .dat (.int 0), .un, .un, .un, .un, .un] _ o' ∧ OutR o' _
  refine out_while (out_part wA wB hA1 hB1 (bs := bts.map beatD) (fun i l => [.dat L, .dat sd, .dat td, .dat (tabT A), .dat (tabT B), .dat (.list (bts.map beatD)), .lst none (l.map prD), .dct true (waysD (bts.map beatD) l), .dat (.int (i : Int)), .un, .un, .un, .un, .un]) ?hc ?hb ?hr)
  case hc =>
    intro i l
    refine dt_is (dt_cmp op_lt (nomark _) (de_name 8) (de_lenL (Rn.of 6) rfl ml) (rd_I0 (vd_bl _))) ?_
    rw [List.length_map]
  case hr => exact fun Γ2 => ⟨_, dss_ret (ds_ret de_none)⟩
  case hb =>
    intro i l p w hf hi
    have hp := hf.ok _ (List.mem_of_getElem? hi)
    have hix : atI (l.map prD) (i : Int) = some (prD (p, w)) := by
      refine atI_n ?_
      rw [List.getElem?_map, hi]
      rfl
    refine dss_of_cons (ds_asg (ks := [9, 10]) (ds := [.int (p.1 : Int), .int (p.2 : Int)]) (de_ixL (Rn.of 6) rfl (de_name 8) hix) (dg_two 9 10 rfl nd) (by unfold prD; rw [keyP_data] <;> rfl)) ?_
    show LapR _ _ [.dat L, .dat sd, .dat td, .dat (tabT A), .dat (tabT B), .dat (.list (bts.map beatD)), .lst none (l.map prD), .dct true (waysD (bts.map beatD) l), .dat (.int (i : Int)), .dat (.int (p.1 : Int)), .dat (.int (p.2 : Int)), .un, .un, .un] _ _ _ _
    have ee : enumD (bts.map beatD) = (List.range' 0 bts.length).map fun j => .tuple [.int ((j : Nat) : Int), (bts.map beatD).getD j .none] := by
      rw [enumD_range, List.length_map, List.range_eq_range']
    refine dss_of_loop (fun l => [.dat L, .dat sd, .dat td, .dat (tabT A), .dat (tabT B), .dat (.list (bts.map beatD)), .lst none (l.map prD), .dct true (waysD (bts.map beatD) l), .dat (.int (i : Int)), .dat (.int (p.1 : Int)), .dat (.int (p.2 : Int)), .un, .un, .un]) (di_enum (ds := bts.map beatD) me (de_name 5)) (dg_two 11 12 rfl nd) ?loop ?rest
    case loop =>
      rw [ee]
      refine loop_laps wA wB (fun l => [.dat L, .dat sd, .dat td, .dat (tabT A), .dat (tabT B), .dat (.list (bts.map beatD)), .lst none (l.map prD), .dct true (waysD (bts.map beatD) l), .dat (.int (i : Int)), .dat (.int (p.1 : Int)), .dat (.int (p.2 : Int)), .un, .un, .un]) (fun j l hj hf hi => ?_) bts.length 0 l (Nat.zero_add _) hf hi
      have hix : atI (l.map prD) (i : Int) = some (keyP p).data := by
        refine atI_n ?_
        rw [List.getElem?_map, hi]
        rfl
      have hway := ways_in (bs := bts.map beatD) hf.nd hi
      have hll := hf.len
      have hil := (List.getElem?_eq_some_iff.mp hi).1
      have hwl : w.length ≤ i := hf.ways i _ hi
      have hAB : A.length * B.length ≤ 49 := Nat.mul_le_mul hA hB
      have hnt := beats_not_thin (bs := bts) (w := w) (j := j)
      have hlen : (w.map fun j => (bts.map beatD).getD j .none).length + [(bts.map beatD).getD j .none].length ≤ 100000 := by
        rw [List.length_map]
        show w.length + 1 ≤ 100000
        omega
      have hxa : j < (A.getD p.1 []).length := by
        rw [wA.wid _ (getD_mem hp.1)]
        exact hj
      have hxb : j < (B.getD p.2 []).length := by
        rw [wB.wid _ (getD_mem hp.2)]
        exact hj
      have eA : atI ((A.getD p.1 []).map optD) (j : Int) = some (optD (look A p.1 j)) := row_at hxa
      have eB : atI ((B.getD p.2 []).map optD) (j : Int) = some (optD (look B p.2 j)) := row_at hxb
      unfold lap
      show LapR _ _ [.dat L, .dat sd, .dat td, .dat (tabT A), .dat (tabT B), .dat (.list (bts.map beatD)), .lst none (l.map prD), .dct true (waysD (bts.map beatD) l), .dat (.int (i : Int)), .dat (.int (p.1 : Int)), .dat (.int (p.2 : Int)), .dat (.int (j : Int)), .dat ((bts.map beatD).getD j .none), .un] _ _ _ _
      generalize look A p.1 j = x at eA
      generalize look B p.2 j = y at eB
      cases x with
      | none =>
        cases y with
        | none =>
          show DSs _ _ [.dat L, .dat sd, .dat td, .dat (tabT A), .dat (tabT B), .dat (.list (bts.map beatD)), .lst none (l.map prD), .dct true (waysD (bts.map beatD) l), .dat (.int (i : Int)), .dat (.int (p.1 : Int)), .dat (.int (p.2 : Int)), .dat (.int (j : Int)), .dat ((bts.map beatD).getD j .none), .un] _ (.nx [.dat L, .dat sd, .dat td, .dat (tabT A), .dat (tabT B), .dat (.list (bts.map beatD)), .lst none (l.map prD), .dct true (waysD (bts.map beatD) l), .dat (.int (i : Int)), .dat (.int (p.1 : Int)), .dat (.int (p.2 : Int)), .un, .un, .un])
          refine dss_setK 13 (da_cons (de_ix ix_seq (de_ix ix_seq (de_name 3) (de_name 9) (rd_ix rfl (tabs_at hp.1))) (de_name 11) (rd_ix rfl eA)) (da_cons (de_ix ix_seq (de_ix ix_seq (de_name 4) (de_name 10) (rd_ix rfl (tabs_at hp.2))) (de_name 11) (rd_ix rfl eB)) da_nil)) (Nat.le_of_ble_eq_true rfl) nd fun ad => ?_
          refine dss_is (dss_fgt 11 (dss_fgt 12 (dss_fgt 13 (dss_if (dt_cmp op_eq (nomark _) (de_countK 13 hu rfl rfl rfl de_none) de_int (rd_eq rfl)) (ife_F0 (by rfl) (dss_if (dt_w (dw_and' (dt_cmp op_notIn_seq (by rfl) de_none (de_nameK 13) (rd_notIn rfl rfl rfl)) (andW_F (by rfl)))) (ife_F0 rfl dss_nil))))))) rfl
        | some b => exact ⟨_, dss_setK (o := .ret [.dat L, .dat sd, .dat td, .dat (tabT A), .dat (tabT B), .dat (.list (bts.map beatD)), .lst none (l.map prD), .dct true (waysD (bts.map beatD) l), .dat (.int (i : Int)), .dat (.int (p.1 : Int)), .dat (.int (p.2 : Int)), .dat (.int (j : Int)), .dat ((bts.map beatD).getD j .none), .un] (pathD (bts.map beatD) (w ++ [j]))) 13 (da_cons (de_ix ix_seq (de_ix ix_seq (de_name 3) (de_name 9) (rd_ix rfl (tabs_at hp.1))) (de_name 11) (rd_ix rfl eA)) (da_cons (de_ix ix_seq (de_ix ix_seq (de_name 4) (de_name 10) (rd_ix rfl (tabs_at hp.2))) (de_name 11) (rd_ix rfl eB)) da_nil)) (Nat.le_of_ble_eq_true rfl) nd fun ad => dss_fgtR 13 (dss_if (dt_cmp op_eq (nomark _) (de_countK 13 hu rfl rfl rfl de_none) de_int (rd_eq rfl)) (ife_T (by rfl) (dss_ret (ds_ret (de_is (de_op op_catA (de_dget (Rn.of 7) rfl (k := keyP p) (de_ixL (Rn.of 6) rfl (de_name 8) hix) (keyP_ok p) hway hu) (de_tup (da_cons (de_name 12) da_nil) (Nat.le_of_ble_eq_true rfl)) (rd_cat hlen fun _ _ => hnt)) path_snoc))) seq_ret))⟩
      | some a =>
        cases y with
        | none => exact ⟨_, dss_setK (o := .ret [.dat L, .dat sd, .dat td, .dat (tabT A), .dat (tabT B), .dat (.list (bts.map beatD)), .lst none (l.map prD), .dct true (waysD (bts.map beatD) l), .dat (.int (i : Int)), .dat (.int (p.1 : Int)), .dat (.int (p.2 : Int)), .dat (.int (j : Int)), .dat ((bts.map beatD).getD j .none), .un] (pathD (bts.map beatD) (w ++ [j]))) 13 (da_cons (de_ix ix_seq (de_ix ix_seq (de_name 3) (de_name 9) (rd_ix rfl (tabs_at hp.1))) (de_name 11) (rd_ix rfl eA)) (da_cons (de_ix ix_seq (de_ix ix_seq (de_name 4) (de_name 10) (rd_ix rfl (tabs_at hp.2))) (de_name 11) (rd_ix rfl eB)) da_nil)) (Nat.le_of_ble_eq_true rfl) nd fun ad => dss_fgtR 13 (dss_if (dt_cmp op_eq (nomark _) (de_countK 13 hu rfl rfl rfl de_none) de_int (rd_eq rfl)) (ife_T (by rfl) (dss_ret (ds_ret (de_is (de_op op_catA (de_dget (Rn.of 7) rfl (k := keyP p) (de_ixL (Rn.of 6) rfl (de_name 8) hix) (keyP_ok p) hway hu) (de_tup (da_cons (de_name 12) da_nil) (Nat.le_of_ble_eq_true rfl)) (rd_cat hlen fun _ _ => hnt)) path_snoc))) seq_ret))⟩
        | some b =>
          by_cases hin : (a, b) ∈ l.map (·.1)
          · show LapR _ _ _ _ _ _ (if (a, b) ∈ l.map (·.1) then Step.go l else _)
            rw [if_pos hin]
            show DSs _ _ [.dat L, .dat sd, .dat td, .dat (tabT A), .dat (tabT B), .dat (.list (bts.map beatD)), .lst none (l.map prD), .dct true (waysD (bts.map beatD) l), .dat (.int (i : Int)), .dat (.int (p.1 : Int)), .dat (.int (p.2 : Int)), .dat (.int (j : Int)), .dat ((bts.map beatD).getD j .none), .un] _ (.nx [.dat L, .dat sd, .dat td, .dat (tabT A), .dat (tabT B), .dat (.list (bts.map beatD)), .lst none (l.map prD), .dct true (waysD (bts.map beatD) l), .dat (.int (i : Int)), .dat (.int (p.1 : Int)), .dat (.int (p.2 : Int)), .un, .un, .un])
            obtain ⟨e, he, ep⟩ := List.mem_map.mp hin
            obtain ⟨q, hq, eq⟩ := List.mem_iff_getElem.mp he
            have hget := ways_in (bs := bts.map beatD) (p := (a, b)) (w := e.2) (i := q) hf.nd (by rw [List.getElem?_eq_getElem hq, eq, ← ep])
            refine dss_setK 13 (da_cons (de_ix ix_seq (de_ix ix_seq (de_name 3) (de_name 9) (rd_ix rfl (tabs_at hp.1))) (de_name 11) (rd_ix rfl eA)) (da_cons (de_ix ix_seq (de_ix ix_seq (de_name 4) (de_name 10) (rd_ix rfl (tabs_at hp.2))) (de_name 11) (rd_ix rfl eB)) da_nil)) (Nat.le_of_ble_eq_true rfl) nd fun ad => ?_
            refine dss_is (dss_fgt 11 (dss_fgt 12 (dss_fgt 13 (dss_if (dt_cmp op_eq (nomark _) (de_countK 13 hu rfl rfl rfl de_none) de_int (rd_eq rfl)) (ife_F0 (by rfl) (dss_if (dt_w (dw_and' (dt_cmp op_notIn_seq (by rfl) de_none (de_nameK 13) (rd_notIn rfl rfl rfl)) (andW_T (by rfl) (dw_and1 (dt_dnotIn (bb := false) (Rn.of 7) (k := keyP (a, b)) (by rw [keyP_data]; exact de_nameK 13) rfl (keyP_ok _) hu (by rw [hget] <;> rfl)))))) (ife_F0 rfl dss_nil))))))) rfl
          · show LapR _ _ _ _ _ _ (if (a, b) ∈ l.map (·.1) then _ else Step.go _)
            rw [if_neg hin]
            have hget := ways_out (bs := bts.map beatD) hin
            have hput := ways_put (bs := bts.map beatD) (w := w ++ [j]) hin
            have hprd : (l ++ [((a, b), w ++ [j])]).map prD = l.map prD ++ [.tuple [optD (some a), optD (some b)]] := by
              rw [List.map_append]
              congr 1
            show DSs _ _ [.dat L, .dat sd, .dat td, .dat (tabT A), .dat (tabT B), .dat (.list (bts.map beatD)), .lst none (l.map prD), .dct true (waysD (bts.map beatD) l), .dat (.int (i : Int)), .dat (.int (p.1 : Int)), .dat (.int (p.2 : Int)), .dat (.int (j : Int)), .dat ((bts.map beatD).getD j .none), .un] _ (.nx [.dat L, .dat sd, .dat td, .dat (tabT A), .dat (tabT B), .dat (.list (bts.map beatD)), .lst none ((l ++ [((a, b), w ++ [j])]).map prD), .dct true (waysD (bts.map beatD) (l ++ [((a, b), w ++ [j])])), .dat (.int (i : Int)), .dat (.int (p.1 : Int)), .dat (.int (p.2 : Int)), .un, .un, .un])
            refine dss_setK 13 (da_cons (de_ix ix_seq (de_ix ix_seq (de_name 3) (de_name 9) (rd_ix rfl (tabs_at hp.1))) (de_name 11) (rd_ix rfl eA)) (da_cons (de_ix ix_seq (de_ix ix_seq (de_name 4) (de_name 10) (rd_ix rfl (tabs_at hp.2))) (de_name 11) (rd_ix rfl eB)) da_nil)) (Nat.le_of_ble_eq_true rfl) nd fun ad => ?_
            refine dss_is (dss_fgt 11 (dss_fgt 12 (dss_fgt 13 (dss_if (dt_cmp op_eq (nomark _) (de_countK 13 hu rfl rfl rfl de_none) de_int (rd_eq rfl)) (ife_F0 (by rfl) (dss_if (dt_w (dw_and' (dt_cmp op_notIn_seq (by rfl) de_none (de_nameK 13) (rd_notIn rfl rfl rfl)) (andW_T (by rfl) (dw_and1 (dt_dnotIn (bb := true) (Rn.of 7) (k := keyP (a, b)) (by rw [keyP_data]; exact de_nameK 13) rfl (keyP_ok _) hu (by rw [hget] <;> rfl)))))) (ife_T rfl (dss_cons (ds_dput (Rn.of 7) (k := keyP (a, b)) (de_is (de_op op_catA (de_dget (Rn.of 7) rfl (k := keyP p) (de_ixL (Rn.of 6) rfl (de_name 8) hix) (keyP_ok p) hway hu) (de_tup (da_cons (de_name 12) da_nil) (Nat.le_of_ble_eq_true rfl)) (rd_cat hlen fun _ _ => hnt)) path_snoc) rfl (by rw [keyP_data]; exact de_nameK 13) (keyP_ok _) ?l2 hu) (dss_cons (ds_app (Rn.of 6) rfl (de_nameK 13) rfl ?l3) dss_nil)) (seq_nx dss_nil)))))))) ?e7
            case l2 =>
              unfold waysD
              rw [List.length_map]
              omega
            case l3 =>
              rw [List.length_map]
              omega
            case e7 =>
              rw [hprd, ← hput] <;> rfl
    case rest =>
      intro l'
      exact dss_is (dss_fgt 9 (dss_fgt 10 (dss_cons (ds_set (d := .int ((i : Int) + 1)) 8 (de_op op_add (de_name 8) de_int (rd_I0 (vd_int _))) nd) dss_nil))) rfl
end
end
section
/-! F19 -/
/-! ### the law's own defs: cells, choices -/
def intsD (ns : List Int) : PyData := .list (ns.map .int)
def R_cell : Rl := fun ds r => ∃ (ns : List Int) (k : Nat), ds = [intsD ns, .int (k : Int)] ∧ r = .int (ns.getD k 0)
/-- the state of the choices -/
structure Ls where
  a : Int
  x : Int
  n : Int
def Ls.ds (s : Ls) : List PyData := [.int s.a, .int s.x, .int s.n]
def begun (c : Int) : Ls := ⟨if c - 10 ^ (Int.toNat 18) > 0 then c - 10 ^ (Int.toNat 18) else 0, c % 2147483629 + 1, 0⟩
def R_state (ds es : List PyData) : Prop := ∃ (ns : List Int) (k : Nat), ds = [intsD ns, .int (k : Int)] ∧ es = (begun (ns.getD k 0)).ds
def nextX (s : Ls) : Int := (s.x * 48271 + 29 + (s.n + 1)) % 2147483647
def mixA (x : Int) : Int := (x * x + 39373 * x + 7) % 2147483629
def mixB (y : Int) : Int := (y * y + 50021 * y) % 2147483587
/-- one of m, and the state behind -/
def pick (m : Nat) (s : Ls) : Nat := if 0 < s.a then (s.a % (m : Int)).toNat else (mixB (mixA (nextX s)) / 8 % (m : Int)).toNat
def after (m : Nat) (s : Ls) : Ls := if 0 < s.a then ⟨s.a / (m : Int), s.x, s.n⟩ else ⟨s.a, nextX s, s.n + 1⟩
theorem pick_lt {m : Nat} (hm : 0 < m) (s : Ls) : pick m s < m := by
  unfold pick
  have h : ∀ i : Int, (i % (m : Int)).toNat < m := fun i => by
    have h1 := Int.emod_nonneg i (show (m : Int) ≠ 0 by omega)
    have h2 := Int.emod_lt_of_pos i (show (0 : Int) < m by omega)
    omega
  split
  · exact h _
  · exact h _
def R_choice : Rm := fun st ds st' d => ∃ (s : Ls) (m : Nat), st = s.ds ∧ ds = [.int (m : Int)] ∧ 0 < m ∧ m ≤ 1000 ∧ st' = (after m s).ds ∧ d = .int (pick m s : Int)
section
variable {T : Tb} {P : Program} {w : World} {K : PySem.W.Frag} {mg : Str → Option Value} {base : Heap} {f : Addr} {fd : FuncData}
theorem ok_cell (F : Fun K "_law_cell_at" "_law_cell_at" s__law_cell_at f fd) (ml : mg "len" = none) : FnOk P w K mg base CX0 1 f fd ["_law_script", "_law_k"] (SpD T K R_cell) := by
  have nd := sc__law_cell_at.nd
  refine fn_pure F sc__law_cell_at (fun ds d ⟨i, o, e, _⟩ => by rw [e] <;> rfl) fun ds d ⟨ns, k, e, er⟩ cdv A outer s' H E hr => ?_
  subst e er
  have hl : (ns.map PyData.int).length = ns.length := List.length_map _
  by_cases hk : k < ns.length
  · have g1 : decide ((k : Int) < ((ns.map PyData.int).length : Int)) = true := decide_eq_true (by omega)
    have g2 : atI (ns.map PyData.int) (k : Int) = some (.int (ns.getD k 0)) := by
      refine atI_n ?_
      rw [List.getElem?_map, List.getD_eq_getElem?_getD, List.getElem?_eq_getElem hk]
      rfl
    refine' by_out ?h1 ?h2
    case h1 =>
      show DSs _ _ [.dat (.list (ns.map .int)), .dat _] _ _
      wtm_at "dS"
    case h2 => rfl
  · have g1 : decide ((k : Int) < ((ns.map PyData.int).length : Int)) = false := decide_eq_false (by omega)
    refine' by_out ?h1 ?h2
    case h1 =>
      show DSs _ _ [.dat (.list (ns.map .int)), .dat _] _ _
      wtm_at "dS"
    case h2 =>
      rw [List.getD_eq_getElem?_getD, List.getElem?_eq_none (by omega)] <;> rfl
theorem ok_state (F : Fun K "_law_state" "_law_state" s__law_state f fd) (mx : mg "max" = none) (C : Cal P w K mg base 1 "_law_cell_at" (SpD T K R_cell)) : FnOk P w K mg base CX0 2 f fd ["_law_script", "_law_k"] (SpN T K R_state) := by
  have nd := sc__law_state.nd
  refine fn_new F sc__law_state (fun ds d ⟨i, o, e, _⟩ => by rw [e] <;> rfl) rfl fun ds d ⟨ns, k, e, er⟩ => ?_
  subst e er
  refine ⟨by show (3 : Nat) ≤ 100000; decide, fun cdv A outer s' H E hr => ?_⟩
  refine ⟨[.dat (intsD ns), .dat (.int (k : Int)), .dat (.int (ns.getD k 0))], [.dat (intsD ns), .dat (.int (k : Int)), .dat (.int (ns.getD k 0))], ?_, ?_⟩
  · show DS _ _ [.dat (intsD ns), .dat (.int (k : Int)), .un] _ _
    exact ds_set 2 (de_call C hr (da_cons (de_name 0) (da_cons (de_name 1) da_nil)) ⟨ns, k, rfl, rfl⟩) nd
  · refine' da_cons ?a1 (da_cons ?a2 (da_cons de_int da_nil))
    case a1 => exact de_callB (L2.call_max2 rfl) mx (by decide +kernel) (da_cons de_int (da_cons (de_op op_sub (de_name 2) (de_op op_pow de_int de_int (rd_I (show CPow 10 18 from ⟨by decide, by decide, by decide⟩) (vd_int _))) (rd_I0 (vd_int _))) da_nil)) rc_max
    case a2 => exact de_op op_add (de_op op_mod (de_name 2) de_int (rd_I (by decide) (vd_int _))) de_int (rd_I0 (vd_int _))
theorem ok_choice (F : Fun K "_law_choice" "_law_choice" s__law_choice f fd) : FnOk P w K mg base CX0 1 f fd ["_law_state_here", "_law_many"] (SpM T K R_choice) := by
  have nd := sc__law_choice.nd
  refine fn_mut F sc__law_choice (fun a b c d ⟨s, m, _, e, _⟩ => by rw [e] <;> rfl) fun a b c d ⟨s, m, e1, e2, hm, hM, e3, e4⟩ ad cdv A outer s' H E hr => ?_
  subst e1 e2 e3 e4
  have pm : (0 : Int) < (m : Int) := by omega
  have cd : CDiv s.a (m : Int) := ⟨pm, by omega⟩
  have big : ∀ i j : Int, 0 ≤ i → i < 2147483647 → CMul i j := fun i j h1 h2 => .inl ⟨by omega, by omega⟩
  have bigr : ∀ i j : Int, 0 ≤ j → j < 2147483647 → CMul i j := fun i j h1 h2 => .inr ⟨by omega, by omega⟩
  have x0 := Int.emod_nonneg (s.x * 48271 + 29 + (s.n + 1)) (show (2147483647 : Int) ≠ 0 by decide)
  have x1 := Int.emod_lt_of_pos (s.x * 48271 + 29 + (s.n + 1)) (show (0 : Int) < 2147483647 by decide)
  have y0 : 0 ≤ mixA (nextX s) := Int.emod_nonneg _ (by decide)
  have y1 : mixA (nextX s) < 2147483629 := Int.emod_lt_of_pos _ (by decide)
  unfold pick after
  by_cases h : 0 < s.a
  · have g1 : decide ((0 : Int) < s.a) = true := decide_eq_true h
    rw [if_pos h, if_pos h, Int.toNat_of_nonneg (Int.emod_nonneg _ (by omega))]
    refine' by_outM ?h1 ?h2
    case h1 =>
      show DSs _ _ [.lst (some ad) [.int s.a, .int s.x, .int s.n], .dat (.int (m : Int)), .un, .un] _ _
      refine' dss_if ?a1 (ife_T g1 ?b1 seq_ret)
      case a1 => exact dt_cmp op_gt (nomark _) (de_ixL (Rn.of 0) rfl de_int rfl) de_int (rd_I0 (vd_bl _))
      case b1 =>
        exact dss_cons (ds_set 2 (de_op op_mod (de_ixL (Rn.of 0) rfl de_int rfl) (de_name 1) (rd_I pm (vd_int _))) nd) (dss_cons (ds_setIx (n := 0) (Rn.of 0) (de_op op_fdiv (de_ixL (Rn.of 0) rfl de_int rfl) (de_name 1) (rd_I cd (vd_int _))) rfl de_int rfl) (dss_ret (ds_ret (de_name 2))))
    case h2 => exact ⟨rfl, rfl⟩
  · have g1 : decide ((0 : Int) < s.a) = false := decide_eq_false h
    rw [if_neg h, if_neg h, Int.toNat_of_nonneg (Int.emod_nonneg _ (by omega))]
    refine' by_outM ?h1 ?h2
    case h1 =>
      show DSs _ _ [.lst (some ad) [.int s.a, .int s.x, .int s.n], .dat (.int (m : Int)), .un, .un] _ _
      refine' dss_if ?a1 (ife_F0 g1 ?b1)
      case a1 => exact dt_cmp op_gt (nomark _) (de_ixL (Rn.of 0) rfl de_int rfl) de_int (rd_I0 (vd_bl _))
      case b1 =>
        refine' dss_cons (ds_setIx (n := 2) (Rn.of 0) (de_op op_add (de_ixL (Rn.of 0) rfl de_int rfl) de_int (rd_I0 (vd_int _))) rfl de_int rfl) ?b2
        case b2 =>
          refine' dss_cons (ds_setIx (n := 1) (Rn.of 0) (de_op op_mod (de_op op_add (de_op op_add (de_op op_mul (de_ixL (Rn.of 0) rfl de_int rfl) de_int (rd_I (bigr _ _ (by decide) (by decide)) (vd_int _))) de_int (rd_I0 (vd_int _))) (de_ixL (Rn.of 0) rfl de_int rfl) (rd_I0 (vd_int _))) de_int (rd_I (by decide) (vd_int _))) rfl de_int rfl) ?b3
          case b3 =>
            show DSs _ _ [.lst (some ad) [.int s.a, .int (nextX s), .int (s.n + 1)], .dat (.int (m : Int)), .un, .un] _ _
            refine' dss_cons (ds_set 3 (d := .int (mixA (nextX s))) (de_op op_mod (de_op op_add (de_op op_add (de_op op_mul (de_ixL (Rn.of 0) rfl de_int rfl) (de_ixL (Rn.of 0) rfl de_int rfl) (rd_I (big _ _ x0 x1) (vd_int _))) (de_op op_mul de_int (de_ixL (Rn.of 0) rfl de_int rfl) (rd_I (big _ _ (by decide) (by decide)) (vd_int _))) (rd_I0 (vd_int _))) de_int (rd_I0 (vd_int _))) de_int (rd_I (by decide) (vd_int _))) nd) ?b4
            case b4 =>
              refine' dss_cons (ds_set 3 (d := .int (mixB (mixA (nextX s)))) (de_op op_mod (de_op op_add (de_op op_mul (de_name 3) (de_name 3) (rd_I (big _ _ y0 (by omega)) (vd_int _))) (de_op op_mul de_int (de_name 3) (rd_I (big _ _ (by decide) (by decide)) (vd_int _))) (rd_I0 (vd_int _))) de_int (rd_I (by decide) (vd_int _))) nd) ?b5
              case b5 => exact dss_ret (ds_ret (de_op op_mod (de_op op_fdiv (de_name 3) de_int (rd_I (by constructor <;> decide) (vd_int _))) (de_name 1) (rd_I pm (vd_int _))))
    case h2 => exact ⟨rfl, rfl⟩
end
end
section
/-! F20 -/
/-! ### the law's alphabets, beats, atoms -/
def INS : List (List Str) := [["a", "b"], ["go"], ["a", "b", "cc"], ["up", "down"], ["z", "a"]]
def OUTS : List (List Str) := [["x", "y"], ["yes", "no"], ["x"], ["a", "y"], ["x", "y", "zz"]]
def insOf (s : Ls) : List Str := INS.getD (pick 5 s) []
def outsOf (s : Ls) : List Str := OUTS.getD (pick 5 (after 5 s)) []
def R_letters : Rm := fun st ds st' d => ∃ s : Ls, st = s.ds ∧ ds = [] ∧ st' = (after 5 (after 5 s)).ds ∧ d = lettersD (insOf s) (outsOf s)
theorem lists_at {l : List (List Str)} {i : Nat} (h : i < l.length) : atI (l.map wordsD) (i : Int) = some (wordsD (l.getD i [])) := by
  refine atI_n ?_
  rw [List.getElem?_map, List.getElem?_eq_getElem h, List.getD_eq_getElem?_getD, List.getElem?_eq_getElem h]
  rfl
theorem words_at {l : List Str} {i : Nat} (h : i < l.length) : atI (l.map PyData.str) (i : Int) = some (.str (l.getD i "")) := by
  refine atI_n ?_
  rw [List.getElem?_map, List.getElem?_eq_getElem h, List.getD_eq_getElem?_getD, List.getElem?_eq_getElem h]
  rfl
/-- a saying of one letter -/
def atom (i o : List Str) (s : Ls) : Say := if pick 2 s = 0 then .inn (i.getD (pick i.length (after 2 s)) "") else .out (o.getD (pick o.length (after 2 s)) "")
def atomS (i o : List Str) (s : Ls) : Ls := if pick 2 s = 0 then after i.length (after 2 s) else after o.length (after 2 s)
def R_atom : Rm := fun st ds st' d => ∃ (s : Ls) (i o : List Str), st = s.ds ∧ ds = [lettersD i o, .bool false] ∧ Words i ∧ Words o ∧ st' = (atomS i o s).ds ∧ d = (atom i o s).d
section
variable {T : Tb} {P : Program} {w : World} {K : PySem.W.Frag} {mg : Str → Option Value} {base : Heap} {f : Addr} {fd : FuncData}
theorem ok_letters (F : Fun K "_law_letters" "_law_letters" s__law_letters f fd) (C : Cal P w K mg base 1 "_law_choice" (SpM T K R_choice)) : FnOk P w K mg base CX0 2 f fd ["_law_state_here"] (SpM T K R_letters) := by
  have nd := sc__law_letters.nd
  refine fn_mut F sc__law_letters (fun a b c d ⟨s, _, e, _⟩ => by rw [e] <;> rfl) fun a b c d ⟨s, e1, e2, e3, e4⟩ ad cdv A outer s' H E hr => ?_
  subst e1 e2 e3 e4
  refine' by_outM ?h1 ?h2
  case h1 =>
    show DSs _ _ [.lst (some ad) s.ds, .un, .un] _ _
    refine' dss_cons (ds_set 1 (d := wordsD (insOf s)) (de_ix ix_seq (d1 := .list (INS.map wordsD)) (d2 := .int (pick 5 s : Int)) ?a1 ?c1 (rd_ix rfl (lists_at (pick_lt (by decide) s)))) nd) ?b1
    case a1 =>
      refine' de_is (d := .list [.tuple [.str "a", .str "b"], .tuple [.str "go"], .tuple [.str "a", .str "b", .str "cc"], .tuple [.str "up", .str "down"], .tuple [.str "z", .str "a"]]) ?x1 rfl
      case x1 => exact de_lst (da_cons (de_tup (da_cons de_str (da_cons de_str da_nil)) (Nat.le_of_ble_eq_true rfl)) (da_cons (de_tup (da_cons de_str da_nil) (Nat.le_of_ble_eq_true rfl)) (da_cons (de_tup (da_cons de_str (da_cons de_str (da_cons de_str da_nil))) (Nat.le_of_ble_eq_true rfl)) (da_cons (de_tup (da_cons de_str (da_cons de_str da_nil)) (Nat.le_of_ble_eq_true rfl)) (da_cons (de_tup (da_cons de_str (da_cons de_str da_nil)) (Nat.le_of_ble_eq_true rfl)) da_nil))))) (Nat.le_of_ble_eq_true rfl)
    case c1 => exact de_callM 0 rfl C hr (da_cons de_int da_nil) ⟨s, 5, rfl, rfl, by decide, by decide, rfl, rfl⟩
    case b1 =>
      show DSs _ _ [.lst (some ad) (after 5 s).ds, .dat (wordsD (insOf s)), .un] _ _
      refine' dss_cons (ds_set 2 (d := wordsD (outsOf s)) (de_ix ix_seq (d1 := .list (OUTS.map wordsD)) (d2 := .int (pick 5 (after 5 s) : Int)) ?a2 ?c2 (rd_ix rfl (lists_at (pick_lt (by decide) (after 5 s))))) nd) ?b2
      case a2 =>
        refine' de_is (d := .list [.tuple [.str "x", .str "y"], .tuple [.str "yes", .str "no"], .tuple [.str "x"], .tuple [.str "a", .str "y"], .tuple [.str "x", .str "y", .str "zz"]]) ?x2 rfl
        case x2 => exact de_lst (da_cons (de_tup (da_cons de_str (da_cons de_str da_nil)) (Nat.le_of_ble_eq_true rfl)) (da_cons (de_tup (da_cons de_str (da_cons de_str da_nil)) (Nat.le_of_ble_eq_true rfl)) (da_cons (de_tup (da_cons de_str da_nil) (Nat.le_of_ble_eq_true rfl)) (da_cons (de_tup (da_cons de_str (da_cons de_str da_nil)) (Nat.le_of_ble_eq_true rfl)) (da_cons (de_tup (da_cons de_str (da_cons de_str (da_cons de_str da_nil))) (Nat.le_of_ble_eq_true rfl)) da_nil))))) (Nat.le_of_ble_eq_true rfl)
      case c2 => exact de_callM 0 rfl C hr (da_cons de_int da_nil) ⟨after 5 s, 5, rfl, rfl, by decide, by decide, rfl, rfl⟩
      case b2 =>
        exact dss_ret (ds_ret (de_tup (da_cons (de_name 1) (da_cons (de_name 2) da_nil)) (Nat.le_of_ble_eq_true rfl)))
  case h2 => exact ⟨rfl, rfl⟩
theorem ok_beats (F : Fun K "_law_beats" "_law_beats" s__law_beats f fd) : FnOk P w K mg base CX0 1 f fd ["_law_letters_here"] (SpD T K R_beats_of) := by
  have nd := sc__law_beats.nd
  refine fn_pure F sc__law_beats (fun ds d ⟨i, o, e, _⟩ => by rw [e] <;> rfl) fun ds d ⟨i, o, e, h1, h2, er⟩ cdv A outer s H E hr => ?_
  subst e er
  have few := words_few h1 h2
  have part : ∀ j, (beatsOf (i.take j) o).length ≤ 9 := fun j => by
    unfold beatsOf at few ⊢
    have e : ∀ l : List Str, (l.flatMap fun g => o.map fun t => (g, t)).length = l.length * o.length := fun l => by
      induction l with
      | nil => simp
      | cons x l ih => rw [List.flatMap_cons, List.length_append, ih, List.length_map, List.length_cons, Nat.succ_mul, Nat.add_comm]
    rw [e, List.length_take]
    exact Nat.mul_le_mul (Nat.le_trans (Nat.min_le_right _ _) h1.hi) h2.hi
  refine' by_out ?h1 ?h2
  case h1 =>
    show DSs _ _ [.dat (.tuple [wordsD i, wordsD o]), .un, .un, .un] _ _
    refine' dss_cons (ds_setO 1 (do1_lst (ds := []) da_nil (by decide)) nd) ?b1
    case b1 =>
      show DSs _ _ [.dat (.tuple [wordsD i, wordsD o]), .lst none [], .un, .un] _ _
      refine' dss_cons (ds_for (ks := [2]) (o := .nx [.dat (.tuple [wordsD i, wordsD o]), .lst none ((beatsOf i o).map beatD), .un, .un]) (di_tup (ds := i.map PyData.str) ?a1) (dg_name 2 nd) ?l1) ?b2
      case a1 => wtm_at "dE"
      case l1 =>
        refine' loopR_to (fun j => [.dat (.tuple [wordsD i, wordsD o]), .lst none ((beatsOf (i.take j) o).map beatD), .un, .un]) (fun j => .str (i.getD j "")) i.length ?g1 rfl ?z1 (map_range i "" PyData.str)
        case z1 => rw [List.take_length]
        case g1 =>
          intro j hj
          refine ⟨_, rfl, ?_⟩
          have e1 : (beatsOf (i.take (j + 1)) o).map beatD = (beatsOf (i.take j) o).map beatD ++ o.map fun t => beatD (i.getD j "", t) := by
            unfold beatsOf
            rw [List.take_add_one, List.getD_eq_getElem?_getD, List.getElem?_eq_getElem hj, List.flatMap_append, List.map_append]
            congr 1
            simp
          have hl := part j
          rw [e1]
          generalize beatsOf (i.take j) o = q at hl
          generalize i.getD j "" = g
          refine' dss_is (dss_fgt 2 (dss_cons (ds_ext (Rn.of 1) rfl (zs := o.map fun t => beatD (g, t)) ?c1 ?r1 ?l2) dss_nil)) ?e2
          case c1 =>
            refine' de_comp [("_law_other", 3)] [3] (di_tup (ds := o.map PyData.str) ?a2) (L2.blkOk_by (N := n__law_beats) (sc := defScope s__law_beats) (by decide +kernel)) nd (fun s H C cl fp => dg_name 3 nd) rfl ?c2
            case a2 => wtm_at "dE"
            case c2 => exact compR_mapL PyData.str (fun t => beatD (g, t)) rfl rfl fun x hx => ⟨_, rfl, fun s H C cl fp => de_tup (da_cons (de_name 2) (da_cons (de_name 3) da_nil)) (Nat.le_of_ble_eq_true rfl)⟩
          case r1 => rfl
          case l2 =>
            have := h2.hi
            rw [List.length_map, List.length_map]
            omega
          case e2 => rfl
      case b2 => exact dss_thaw 1 rfl (dss_ret (ds_ret (de_name 1)))
  case h2 => rfl
theorem ok_atom (F : Fun K "_law_atom" "_law_atom" s__law_atom f fd) (ml : mg "len" = none) (C : Cal P w K mg base 1 "_law_choice" (SpM T K R_choice)) : FnOk P w K mg base CX0 2 f fd ["_law_state_here", "_law_letters_here", "_law_plain"] (SpM T K R_atom) := by
  have nd := sc__law_atom.nd
  refine fn_mut F sc__law_atom (fun a b c d ⟨s, i, o, _, e, _⟩ => by rw [e] <;> rfl) fun a b c d ⟨s, i, o, e1, e2, wi, wo, e3, e4⟩ ad cdv A outer s' H E hr => ?_
  subst e1 e2 e3 e4
  have i1 := wi.lo
  have i2 := wi.hi
  have o1 := wo.lo
  have o2 := wo.hi
  have li : (i.map PyData.str).length = i.length := List.length_map _
  have lo : (o.map PyData.str).length = o.length := List.length_map _
  have ci : R_choice (after 2 s).ds [.int ((i.map PyData.str).length : Int)] (after i.length (after 2 s)).ds (.int (pick i.length (after 2 s) : Int)) := ⟨after 2 s, i.length, rfl, by rw [li], by omega, by omega, rfl, rfl⟩
  have co : R_choice (after 2 s).ds [.int ((o.map PyData.str).length : Int)] (after o.length (after 2 s)).ds (.int (pick o.length (after 2 s) : Int)) := ⟨after 2 s, o.length, rfl, by rw [lo], by omega, by omega, rfl, rfl⟩
  have pi := words_at (pick_lt (by omega : 0 < i.length) (after 2 s))
  have po := words_at (pick_lt (by omega : 0 < o.length) (after 2 s))
  unfold atom atomS
  by_cases h : pick 2 s = 0
  · have g1 : PyData.eqv (.int (pick 2 s : Int)) (.int 0) = true := by rw [h] <;> rfl
    rw [if_pos h, if_pos h]
    refine' by_outM ?h1 ?h2
    case h1 =>
      show DSs _ _ [.lst (some ad) s.ds, .dat (.tuple [wordsD i, wordsD o]), .dat (.bool false)] _ _
      refine' dss_if (k := true) ?a1 ?t1
      case a1 =>
        refine' dt_w (dw_or' (dt_val (de_name 2)) ?t2)
        case t2 => exact orW_F rfl (dw_or1 (dt_is (dt_cmp op_eq (nomark _) (de_callM 0 rfl C hr (da_cons de_int da_nil) ⟨s, 2, rfl, rfl, by decide, by decide, rfl, rfl⟩) de_int (rd_eq rfl)) g1))
      case t1 =>
        refine' ife_T rfl ?b1 seq_ret
        case b1 =>
          show DSs _ _ [.lst (some ad) (after 2 s).ds, .dat (.tuple [wordsD i, wordsD o]), .dat (.bool false)] _ _
          refine' dss_ret (ds_ret (de_tup (da_cons de_str (da_cons (de_ix ix_seq (de_ix ix_seq (de_name 1) de_int (rd_ix rfl rfl)) (de_callM 0 rfl C hr (da_cons ?a3 da_nil) ci) (rd_ix rfl pi)) da_nil)) (Nat.le_of_ble_eq_true rfl)))
          case a3 => exact de_callB L2.call_len ml (by decide +kernel) (da_cons (de_ix ix_seq (de_name 1) de_int (rd_ix rfl rfl)) da_nil) (rc_len rfl)
    case h2 => exact ⟨rfl, rfl⟩
  · have g1 : PyData.eqv (.int (pick 2 s : Int)) (.int 0) = false := by
      rw [eqv_int]
      exact beq_eq_false_iff_ne.mpr (by omega)
    rw [if_neg h, if_neg h]
    refine' by_outM ?h1 ?h2
    case h1 =>
      show DSs _ _ [.lst (some ad) s.ds, .dat (.tuple [wordsD i, wordsD o]), .dat (.bool false)] _ _
      refine' dss_if (k := false) ?a1 ?t1
      case a1 =>
        refine' dt_w (dw_or' (dt_val (de_name 2)) ?t2)
        case t2 => exact orW_F rfl (dw_or1 (dt_is (dt_cmp op_eq (nomark _) (de_callM 0 rfl C hr (da_cons de_int da_nil) ⟨s, 2, rfl, rfl, by decide, by decide, rfl, rfl⟩) de_int (rd_eq rfl)) g1))
      case t1 =>
        refine' ife_F0 rfl ?b1
        case b1 =>
          show DSs _ _ [.lst (some ad) (after 2 s).ds, .dat (.tuple [wordsD i, wordsD o]), .dat (.bool false)] _ _
          refine' dss_ret (ds_ret (de_tup (da_cons de_str (da_cons (de_ix ix_seq (de_ix ix_seq (de_name 1) de_int (rd_ix rfl rfl)) (de_callM 0 rfl C hr (da_cons ?a3 da_nil) co) (rd_ix rfl po)) da_nil)) (Nat.le_of_ble_eq_true rfl)))
          case a3 => exact de_callB L2.call_len ml (by decide +kernel) (da_cons (de_ix ix_seq (de_name 1) de_int (rd_ix rfl rfl)) da_nil) (rc_len rfl)
    case h2 => exact ⟨rfl, rfl⟩
end
end
section
/-! F21 -/
/-! ### the law's sayings -/
def LAPS : List Nat := [0, 0, 1, 1, 2, 3]
def joinSay (k c : Nat) (p q : Say) : Say := if k = 1 then (if c = 0 then .and p q else .and q p) else (if c = 0 then .or p q else .or q p)
def lapSay (i o : List Str) (x : Say × Ls) : Say × Ls :=
  if pick 3 x.2 = 0 then (.not x.1, atomS i o (after 3 x.2))
  else (joinSay (pick 3 x.2) (pick 2 (atomS i o (after 3 x.2))) x.1 (atom i o (after 3 x.2)), after 2 (atomS i o (after 3 x.2)))
def lapN (i o : List Str) (x : Say × Ls) : Nat → Say × Ls
  | 0 => x
  | n + 1 => lapSay i o (lapN i o x n)
def sayLaps (i o : List Str) (s : Ls) : Nat := LAPS.getD (pick 6 (atomS i o s)) 0
def saying (i o : List Str) (s : Ls) : Say × Ls := lapN i o (atom i o s, after 6 (atomS i o s)) (sayLaps i o s)
def R_say : Rm := fun st ds st' d => ∃ (s : Ls) (i o : List Str), st = s.ds ∧ ds = [lettersD i o, .bool false] ∧ Words i ∧ Words o ∧ st' = (saying i o s).2.ds ∧ d = (saying i o s).1.d
theorem nats_get {l : List Nat} {i : Nat} (h : i < l.length) : atI (l.map natD) (i : Int) = some (natD (l.getD i 0)) := by
  refine atI_n ?_
  rw [List.getElem?_map, List.getElem?_eq_getElem h, List.getD_eq_getElem?_getD, List.getElem?_eq_getElem h]
  rfl
theorem laps_le {i : Nat} : LAPS.getD i 0 ≤ 3 := by
  rw [List.getD_eq_getElem?_getD]
  cases h : LAPS[i]? with
  | none => exact Nat.zero_le _
  | some x =>
    have hx := List.mem_of_getElem? h
    have q : ∀ x ∈ LAPS, x ≤ 3 := by decide
    exact q x hx
theorem two_at {x y : PyData} {c : Nat} (h : c < 2) : atI [x, y] (c : Int) = some (if c = 0 then x else y) := by
  refine atI_n ?_
  match c, h with
  | 0, _ => rfl
  | 1, _ => rfl
theorem cat_and {T : Tb} {K : PySem.W.Frag} {p q : PyData} (op : Str) (ho : lw.contains op = false) : RD T K (rCatA K) (.tuple [.str op]) (.tuple [p, q]) (.tuple [.str op, p, q]) := rd_cat (Nat.le_of_ble_eq_true rfl) fun _ _ => thin_head ho
theorem ops_at {k : Nat} (h0 : k ≠ 0) (h : k < 3) : atI [PyData.str "and", PyData.str "or"] ((k : Int) - 1) = some (.str (if k = 1 then "and" else "or")) := by
  match k, h0, h with
  | 1, _, _ => exact atI_n (i := 0) rfl
  | 2, _, _ => exact atI_n (i := 1) rfl
theorem ops_thin (k : Nat) : lw.contains (if k = 1 then ("and" : Str) else "or") = false := by
  split <;> decide +kernel
theorem join_d (k c : Nat) (p q : Say) : (joinSay k c p q).d = .tuple [.str (if k = 1 then "and" else "or"), (if c = 0 then p else q).d, (if c = 0 then q else p).d] := by
  unfold joinSay
  by_cases h : k = 1 <;> by_cases h2 : c = 0 <;> simp [h, h2, Say.d]
theorem two_sw {x y : PyData} {c : Nat} : (if c = 0 then PyData.tuple [x, y] else PyData.tuple [y, x]) = .tuple [if c = 0 then x else y, if c = 0 then y else x] := by
  split <;> rfl
section
variable {T : Tb} {P : Program} {w : World} {K : PySem.W.Frag} {mg : Str → Option Value} {base : Heap} {f : Addr} {fd : FuncData}
theorem ok_say (F : Fun K "_law_saying" "_law_saying" s__law_saying f fd) (mr : mg "range" = none) (C : Cal P w K mg base 1 "_law_choice" (SpM T K R_choice)) (C2 : Cal P w K mg base 2 "_law_atom" (SpM T K R_atom)) : FnOk P w K mg base CX0 3 f fd ["_law_state_here", "_law_letters_here", "_law_plain"] (SpM T K R_say) := by
  have nd := sc__law_saying.nd
  refine fn_mut F sc__law_saying (fun a b c d ⟨s, i, o, _, e, _⟩ => by rw [e] <;> rfl) fun a b c d ⟨s, i, o, e1, e2, wi, wo, e3, e4⟩ ad cdv A outer s' H E hr => ?_
  subst e1 e2 e3 e4
  refine' by_outM ?h1 ?h2
  case h1 =>
    show DSs _ _ [.lst (some ad) s.ds, .dat (lettersD i o), .dat (.bool false), .un, .un, .un, .un] _ _
    refine' dss_cons (ds_set 3 (d := (atom i o s).d) ?a1 nd) ?b1
    case a1 => exact de_callM 0 rfl C2 hr (da_cons (de_name 1) (da_cons (de_name 2) da_nil)) ⟨s, i, o, rfl, rfl, wi, wo, rfl, rfl⟩
    case b1 =>
      show DSs _ _ [.lst (some ad) (atomS i o s).ds, .dat (lettersD i o), .dat (.bool false), .dat (atom i o s).d, .un, .un, .un] _ _
      refine' dss_cons (ds_for (ks := [4]) (o := .nx [.lst (some ad) (saying i o s).2.ds, .dat (lettersD i o), .dat (.bool false), .dat (saying i o s).1.d, .un, .un, .un]) (di_range (j := (sayLaps i o s : Int)) mr ?i1 ?i2) (dg_name 4 nd) ?l1) ?b2
      case i1 =>
        refine' de_ix ix_seq (d1 := .list (LAPS.map natD)) (d2 := .int (pick 6 (atomS i o s) : Int)) ?j1 ?j2 (rd_ix rfl (nats_get (pick_lt (by decide) _)))
        case j1 => exact de_lst (da_cons de_int (da_cons de_int (da_cons de_int (da_cons de_int (da_cons de_int (da_cons de_int da_nil)))))) (Nat.le_of_ble_eq_true rfl)
        case j2 => exact de_callM 0 rfl C (hr.mono (by omega)) (da_cons de_int da_nil) ⟨atomS i o s, 6, rfl, rfl, by decide, by decide, rfl, rfl⟩
      case i2 =>
        have := laps_le (i := pick 6 (atomS i o s))
        unfold sayLaps
        omega
      case l1 =>
        refine' loopR_to (fun j => [.lst (some ad) (lapN i o (atom i o s, after 6 (atomS i o s)) j).2.ds, .dat (lettersD i o), .dat (.bool false), .dat (lapN i o (atom i o s, after 6 (atomS i o s)) j).1.d, .un, .un, .un]) (fun j => .int (0 + (j : Int))) (sayLaps i o s) ?g1 rfl rfl rfl
        case g1 =>
          intro j hj
          refine ⟨_, rfl, ?_⟩
          show DSs _ _ _ _ (.nx [.lst (some ad) (lapSay i o (lapN i o (atom i o s, after 6 (atomS i o s)) j)).2.ds, .dat (lettersD i o), .dat (.bool false), .dat (lapSay i o (lapN i o (atom i o s, after 6 (atomS i o s)) j)).1.d, .un, .un, .un])
          generalize lapN i o (atom i o s, after 6 (atomS i o s)) j = x
          obtain ⟨p, s1⟩ := x
          have hk := pick_lt (m := 3) (by decide) s1
          have hc := pick_lt (m := 2) (by decide) (atomS i o (after 3 s1))
          unfold lapSay
          show DSs _ _ [.lst (some ad) s1.ds, .dat (lettersD i o), .dat (.bool false), .dat p.d, .dat (.int (0 + (j : Int))), .un, .un] _ _
          have q1 : R_choice s1.ds [.int 3] (after 3 s1).ds (.int (pick 3 s1 : Int)) := ⟨s1, 3, rfl, rfl, by decide, by decide, rfl, rfl⟩
          have q2 : R_atom (after 3 s1).ds [lettersD i o, .bool false] (atomS i o (after 3 s1)).ds (atom i o (after 3 s1)).d := ⟨after 3 s1, i, o, rfl, rfl, wi, wo, rfl, rfl⟩
          have q3 : R_choice (atomS i o (after 3 s1)).ds [.int 2] (after 2 (atomS i o (after 3 s1))).ds (.int (pick 2 (atomS i o (after 3 s1)) : Int)) := ⟨_, 2, rfl, rfl, by decide, by decide, rfl, rfl⟩
          by_cases h0 : pick 3 s1 = 0
          · have g1 : PyData.eqv (.int (pick 3 s1 : Int)) (.int 0) = true := by rw [h0] <;> rfl
            rw [if_pos h0]
            refine' dss_is (dss_fgt 4 (dss_fgt 5 (dss_fgt 6 (dss_cons (ds_par 5 6 (d1 := .int (pick 3 s1 : Int)) (d2 := (atom i o (after 3 s1)).d) ?p1 rfl nd) ?c1)))) ?e1
            case p1 =>
              refine' da_cons ?q1 (da_cons ?q2 da_nil)
              case q1 => exact de_callM 0 rfl C (hr.mono (by omega)) (da_cons de_int da_nil) q1
              case q2 => exact de_callM 0 rfl C2 hr (da_cons (de_name 1) (da_cons (de_name 2) da_nil)) q2
            case c1 => exact dss_if (dt_cmp op_eq (nomark _) (de_name 5) de_int (rd_eq rfl)) (ife_T g1 (dss_cons (ds_set 3 (de_tup (da_cons de_str (da_cons (de_name 3) da_nil)) (Nat.le_of_ble_eq_true rfl)) nd) dss_nil) (seq_nx dss_nil))
            case e1 => rfl
          · have g1 : PyData.eqv (.int (pick 3 s1 : Int)) (.int 0) = false := by
              rw [eqv_int]
              exact beq_eq_false_iff_ne.mpr (by omega)
            have oa := ops_at h0 hk
            have ot := ops_thin (pick 3 s1)
            have ta := two_at (x := .tuple [p.d, (atom i o (after 3 s1)).d]) (y := .tuple [(atom i o (after 3 s1)).d, p.d]) hc
            rw [two_sw] at ta
            rw [if_neg h0]
            show DSs _ _ _ _ (.nx [.lst (some ad) (after 2 (atomS i o (after 3 s1))).ds, .dat (lettersD i o), .dat (.bool false), .dat (joinSay (pick 3 s1) (pick 2 (atomS i o (after 3 s1))) p (atom i o (after 3 s1))).d, .un, .un, .un])
            have ed : (joinSay (pick 3 s1) (pick 2 (atomS i o (after 3 s1))) p (atom i o (after 3 s1))).d = .tuple [.str (if pick 3 s1 = 1 then "and" else "or"), if pick 2 (atomS i o (after 3 s1)) = 0 then p.d else (atom i o (after 3 s1)).d, if pick 2 (atomS i o (after 3 s1)) = 0 then (atom i o (after 3 s1)).d else p.d] := by
              rw [join_d]
              by_cases hz : pick 2 (atomS i o (after 3 s1)) = 0
              · simp only [if_pos hz]
              · simp only [if_neg hz]
            rw [ed]
            refine' dss_is (dss_fgt 4 (dss_fgt 5 (dss_fgt 6 (dss_cons (ds_par 5 6 (d1 := .int (pick 3 s1 : Int)) (d2 := (atom i o (after 3 s1)).d) ?p1 rfl nd) ?c1)))) ?e1
            case p1 =>
              refine' da_cons ?q1 (da_cons ?q2 da_nil)
              case q1 => exact de_callM 0 rfl C (hr.mono (by omega)) (da_cons de_int da_nil) q1
              case q2 => exact de_callM 0 rfl C2 hr (da_cons (de_name 1) (da_cons (de_name 2) da_nil)) q2
            case c1 =>
              refine' dss_if (dt_cmp op_eq (nomark _) (de_name 5) de_int (rd_eq rfl)) (ife_F g1 (dss_cons (ds_set 3 (de_op op_catA (de_tup (da_cons (de_ix ix_seq (de_lst (da_cons de_str (da_cons de_str da_nil)) (Nat.le_of_ble_eq_true rfl)) (de_op op_sub (de_name 5) de_int (rd_I0 (vd_int _))) (rd_ix rfl oa)) da_nil) (Nat.le_of_ble_eq_true rfl)) ?d1 (cat_and _ ot)) nd) dss_nil) (seq_nx dss_nil))
              case d1 =>
                refine' de_ix ix_seq (d1 := .list [.tuple [p.d, (atom i o (after 3 s1)).d], .tuple [(atom i o (after 3 s1)).d, p.d]]) (d2 := .int (pick 2 (atomS i o (after 3 s1)) : Int)) ?r1 ?r2 (rd_ix rfl ta)
                case r1 => exact de_lst (da_cons (de_tup (da_cons (de_name 3) (da_cons (de_name 6) da_nil)) (Nat.le_of_ble_eq_true rfl)) (da_cons (de_tup (da_cons (de_name 6) (da_cons (de_name 3) da_nil)) (Nat.le_of_ble_eq_true rfl)) da_nil)) (Nat.le_of_ble_eq_true rfl)
                case r2 => exact de_callM 0 rfl C (hr.mono (by omega)) (da_cons de_int da_nil) q3
            case e1 => rfl
      case b2 => exact dss_ret (ds_ret (de_name 3))
  case h2 => exact ⟨rfl, rfl⟩
end
end
section
/-! P1 -/
/-! ### the plain law: other names, exchange -/
/-- the word that stands in j where w stands in i -/
def ren (i j : List Str) (w : Str) : Str := j.getD (i.idxOf w) ""
def Say.ren (i o i' o' : List Str) : Say → Say
  | .inn w => .inn (Kx.ren i i' w)
  | .out w => .out (Kx.ren o o' w)
  | .not s => .not (s.ren i o i' o')
  | .and s t => .and (s.ren i o i' o') (t.ren i o i' o')
  | .or s t => .or (s.ren i o i' o') (t.ren i o i' o')
def Say.swap : Say → Say
  | .inn w => .out w
  | .out w => .inn w
  | .not s => .not s.swap
  | .and s t => .and s.swap t.swap
  | .or s t => .or s.swap t.swap
def Sen.map (f : Say → Say) : Sen → Sen
  | .never p => .never (f p)
  | .after p q => .after (f p) (f q)
  | .untl p q r => .untl (f p) (f q) (f r)
  | .within p q k => .within (f p) (f q) k
  | .first p q => .first (f p) (f q)
  | .most p k => .most (f p) k
  | .apart p k => .apart (f p) k
def renB (i o i' o' : List Str) (b : Bt) : Bt := (ren i i' b.1, ren o o' b.2)
def swapB (b : Bt) : Bt := (b.2, b.1)
theorem ren_mem {i j : List Str} {w : Str} (hl : i.length = j.length) (h : w ∈ i) : ren i j w ∈ j := by
  unfold ren
  exact getD_mem (by rw [← hl]; exact List.idxOf_lt_length_iff.mpr h)
theorem ren_map {i j : List Str} (hn : i.Nodup) (hl : i.length = j.length) : i.map (ren i j) = j := by
  refine List.ext_getElem (by rw [List.length_map, hl]) fun n h1 h2 => ?_
  rw [List.length_map] at h1
  rw [List.getElem_map]
  unfold ren
  rw [List.Nodup.idxOf_getElem hn n h1, List.getD_eq_getElem?_getD, List.getElem?_eq_getElem h2]
  rfl
theorem ren_inj {i j : List Str} {u w : Str} (hj : j.Nodup) (hl : i.length = j.length) (hu : u ∈ i) (hw : w ∈ i) (e : ren i j u = ren i j w) : u = w := by
  have a := List.idxOf_lt_length_iff.mpr hu
  have b := List.idxOf_lt_length_iff.mpr hw
  unfold ren at e
  rw [List.getD_eq_getElem?_getD, List.getD_eq_getElem?_getD, List.getElem?_eq_getElem (by rw [← hl]; exact a), List.getElem?_eq_getElem (by rw [← hl]; exact b)] at e
  have e1 : j[i.idxOf u]'(by rw [← hl]; exact a) = j[i.idxOf w]'(by rw [← hl]; exact b) := e
  have e2 : i.idxOf u = i.idxOf w := by
    rw [← List.Nodup.idxOf_getElem hj (i.idxOf u) (by rw [← hl]; exact a), e1, List.Nodup.idxOf_getElem hj]
  have g1 : i[i.idxOf u]'a = u := List.getElem_idxOf a
  have g2 : i[i.idxOf w]'b = w := List.getElem_idxOf b
  rw [← g1, ← g2]
  simp only [e2]
theorem ren_beq {i j : List Str} {u w : Str} (hj : j.Nodup) (hl : i.length = j.length) (hu : u ∈ i) (hw : w ∈ i) : (ren i j u == ren i j w) = (u == w) := by
  by_cases h : u = w
  · subst h
    rw [beq_self_eq_true, beq_self_eq_true]
  · rw [beq_eq_false_iff_ne.mpr h, beq_eq_false_iff_ne.mpr fun e => h (ren_inj hj hl hu hw e)]
/-- as many words, unlike, there as here -/
structure Alike (i o i' o' : List Str) : Prop where
  wi : Words i
  wo : Words o
  wi' : Words i'
  wo' : Words o'
  li : i.length = i'.length
  lo : o.length = o'.length
theorem so_ren {i o i' o' : List Str} (a : Alike i o i' o') {b : Bt} (hb : BeatIn i o b) : ∀ {p : Say}, SayOk i o p → so (renB i o i' o' b) (p.ren i o i' o') = so b p
  | .inn w, h => ren_beq a.wi'.nd a.li hb.1 h
  | .out w, h => ren_beq a.wo'.nd a.lo hb.2 h
  | .not s, h => by
    unfold Say.ren so
    rw [so_ren (p := s) a hb h]
  | .and s t, h => by
    unfold Say.ren so
    rw [so_ren (p := s) a hb h.1, so_ren (p := t) a hb h.2]
  | .or s t, h => by
    unfold Say.ren so
    rw [so_ren (p := s) a hb h.1, so_ren (p := t) a hb h.2]
theorem so_swap {b : Bt} : ∀ {p : Say}, so (swapB b) p.swap = so b p
  | .inn w => rfl
  | .out w => rfl
  | .not s => by
    unfold Say.swap so
    rw [so_swap (p := s)]
  | .and s t => by
    unfold Say.swap so
    rw [so_swap (p := s), so_swap (p := t)]
  | .or s t => by
    unfold Say.swap so
    rw [so_swap (p := s), so_swap (p := t)]
theorem step_map {f : Say → Say} {b c : Bt} {n : Nat} {s : Sen} (h : ∀ p ∈ s.says, so c (f p) = so b p) : step c n (s.map f) = step b n s := by
  cases s <;> simp only [Sen.says, List.mem_cons, List.not_mem_nil, or_false, forall_eq_or_imp, forall_eq] at h <;> simp only [Sen.map, step, stepWithin, stepMost, stepApart, stepFirst, stepUntil, h]
theorem broken_map {f : Say → Say} {g : Bt → Bt} {s : Sen} : ∀ {bs : List Bt} {n : Nat}, (∀ b ∈ bs, ∀ p ∈ s.says, so (g b) (f p) = so b p) → broken (s.map f) n (bs.map g) = broken s n bs
  | [], n, _ => rfl
  | b :: bs, n, h => by
    rw [List.map_cons]
    unfold broken
    rw [step_map (h b List.mem_cons_self)]
    cases step b n s with
    | none => rfl
    | some m =>
      show Option.map _ (broken (s.map f) m (bs.map g)) = Option.map _ (broken s m bs)
      rw [broken_map (bs := bs) fun c hc => h c (List.mem_cons_of_mem _ hc)]
theorem beats_mem {i o : List Str} {b : Bt} (h : b ∈ beatsOf i o) : BeatIn i o b := by
  unfold beatsOf at h
  obtain ⟨g, hg, h⟩ := List.mem_flatMap.mp h
  obtain ⟨t, ht, rfl⟩ := List.mem_map.mp h
  exact ⟨hg, ht⟩
theorem beats_ren {i o i' o' : List Str} (a : Alike i o i' o') : beatsOf i' o' = (beatsOf i o).map (renB i o i' o') := by
  have e1 := ren_map a.wi.nd a.li
  have e2 := ren_map a.wo.nd a.lo
  unfold beatsOf
  rw [List.map_flatMap]
  conv => lhs; rw [← e1, ← e2]
  rw [List.flatMap_map]
  congr 1
  funext g
  rw [List.map_map, List.map_map]
  rfl
theorem beats_len {i o i' o' : List Str} (a : Alike i o i' o') : (beatsOf i' o').length = (beatsOf i o).length := by rw [beats_ren a, List.length_map]
theorem steps_ren {i o i' o' : List Str} (a : Alike i o i' o') {s : Sen} (h : ∀ p ∈ s.says, SayOk i o p) : stepsOf i' o' (s.map (Say.ren i o i' o')) = stepsOf i o s := by
  funext n
  unfold stepsOf
  rw [beats_ren a, List.map_map]
  exact List.map_congr_left fun b hb => step_map fun p hp => so_ren a (beats_mem hb) (h p hp)
theorem watcher_ren {i o i' o' : List Str} (a : Alike i o i' o') {s : Sen} (h : ∀ p ∈ s.says, SayOk i o p) : watcherOf i' o' (s.map (Say.ren i o i' o')) = watcherOf i o s := by
  unfold watcherOf
  rw [steps_ren a h]
theorem broken_ren {i o i' o' : List Str} (a : Alike i o i' o') {s : Sen} (h : ∀ p ∈ s.says, SayOk i o p) {bs : List Bt} (hb : ∀ b ∈ bs, BeatIn i o b) : broken (s.map (Say.ren i o i' o')) 0 (bs.map (renB i o i' o')) = broken s 0 bs :=
  broken_map fun b h1 p h2 => so_ren a (hb b h1) (h p h2)
theorem broken_swap {s : Sen} {bs : List Bt} : broken (s.map Say.swap) 0 (bs.map swapB) = broken s 0 bs := broken_map fun b h1 p h2 => so_swap
/-! all is well formed -/
theorem says_map {f : Say → Say} (s : Sen) : (s.map f).says = s.says.map f := by cases s <;> rfl
theorem nums_map {f : Say → Say} (s : Sen) : (s.map f).nums = s.nums := by cases s <;> rfl
theorem kind_map {f : Say → Say} (s : Sen) : (s.map f).kind = s.kind := by cases s <;> rfl
theorem ok_ren {i o i' o' : List Str} (a : Alike i o i' o') : ∀ {p : Say}, SayOk i o p → SayOk i' o' (p.ren i o i' o')
  | .inn w, h => ren_mem a.li h
  | .out w, h => ren_mem a.lo h
  | .not s, h => ok_ren (p := s) a h
  | .and s t, h => ⟨ok_ren (p := s) a h.1, ok_ren (p := t) a h.2⟩
  | .or s t, h => ⟨ok_ren (p := s) a h.1, ok_ren (p := t) a h.2⟩
theorem depth_ren {i o i' o' : List Str} : ∀ p : Say, (p.ren i o i' o').depth = p.depth
  | .inn w => rfl
  | .out w => rfl
  | .not s => by
    unfold Say.ren Say.depth
    rw [depth_ren s]
  | .and s t => by
    unfold Say.ren Say.depth
    rw [depth_ren s, depth_ren t]
  | .or s t => by
    unfold Say.ren Say.depth
    rw [depth_ren s, depth_ren t]
theorem ok_swap {i o : List Str} : ∀ {p : Say}, SayOk i o p → SayOk o i p.swap
  | .inn w, h => h
  | .out w, h => h
  | .not s, h => ok_swap (p := s) h
  | .and s t, h => ⟨ok_swap (p := s) h.1, ok_swap (p := t) h.2⟩
  | .or s t, h => ⟨ok_swap (p := s) h.1, ok_swap (p := t) h.2⟩
theorem depth_swap : ∀ p : Say, p.swap.depth = p.depth
  | .inn w => rfl
  | .out w => rfl
  | .not s => by
    unfold Say.swap Say.depth
    rw [depth_swap s]
  | .and s t => by
    unfold Say.swap Say.depth
    rw [depth_swap s, depth_swap t]
  | .or s t => by
    unfold Say.swap Say.depth
    rw [depth_swap s, depth_swap t]
theorem sen_ren {i o i' o' : List Str} (a : Alike i o i' o') {s : Sen} (h : SenOk i o s) : SenOk i' o' (s.map (Say.ren i o i' o')) := by
  refine ⟨a.wi', a.wo', fun p hp => ?_, fun p hp => ?_, fun n hn => ?_, fun n hn => ?_⟩
  · rw [says_map] at hp
    obtain ⟨q, hq, rfl⟩ := List.mem_map.mp hp
    rw [depth_ren]
    exact h.low q hq
  · rw [says_map] at hp
    obtain ⟨q, hq, rfl⟩ := List.mem_map.mp hp
    exact ok_ren a (h.ok q hq)
  · rw [nums_map] at hn
    exact h.lo n hn
  · rw [nums_map] at hn
    exact h.hi n hn
theorem sen_swap {i o : List Str} {s : Sen} (h : SenOk i o s) : SenOk o i (s.map Say.swap) := by
  refine ⟨h.wo, h.wi, fun p hp => ?_, fun p hp => ?_, fun n hn => ?_, fun n hn => ?_⟩
  · rw [says_map] at hp
    obtain ⟨q, hq, rfl⟩ := List.mem_map.mp hp
    rw [depth_swap]
    exact h.low q hq
  · rw [says_map] at hp
    obtain ⟨q, hq, rfl⟩ := List.mem_map.mp hp
    exact ok_swap (h.ok q hq)
  · rw [nums_map] at hn
    exact h.lo n hn
  · rw [nums_map] at hn
    exact h.hi n hn
theorem beat_ren {i o i' o' : List Str} (a : Alike i o i' o') {b : Bt} (h : BeatIn i o b) : BeatIn i' o' (renB i o i' o' b) := ⟨ren_mem a.li h.1, ren_mem a.lo h.2⟩
theorem beat_swap {i o : List Str} {b : Bt} (h : BeatIn i o b) : BeatIn o i (swapB b) := ⟨h.2, h.1⟩
/-! small numbers, small watchers -/
theorem step_le3 {s : Sen} {b : Bt} {n m : Nat} (hk : ∀ k ∈ s.nums, k ≤ 3) (hn : n ≤ 3) (h : step b n s = some m) : m ≤ 3 := by
  cases s with
  | never p =>
    simp only [step] at h
    split at h <;> simp at h
    omega
  | after p q =>
    simp only [step, stepUntil] at h
    repeat' split at h
    all_goals simp at h
    all_goals omega
  | untl p q r =>
    simp only [step, stepUntil] at h
    repeat' split at h
    all_goals simp at h
    all_goals omega
  | within p q k =>
    have := hk k (by simp [Sen.nums])
    simp only [step, stepWithin] at h
    repeat' split at h
    all_goals simp at h
    all_goals omega
  | first p q =>
    simp only [step, stepFirst] at h
    repeat' split at h
    all_goals simp at h
    all_goals omega
  | most p k =>
    have := hk k (by simp [Sen.nums])
    simp only [step, stepMost] at h
    repeat' split at h
    all_goals simp at h
    all_goals omega
  | apart p k =>
    have := hk k (by simp [Sen.nums])
    simp only [step, stepApart] at h
    repeat' split at h
    all_goals simp at h
    all_goals omega
theorem watcher_small {i o : List Str} {s : Sen} (h : ∀ k ∈ s.nums, k ≤ 3) : (watcherOf i o s).length ≤ 4 := by
  have c : Closed (stepsOf i o s) (List.range 4) := ⟨fun n hn m hm => by
    obtain ⟨b, _, e⟩ := List.mem_map.mp hm
    have h1 := List.mem_range.mp hn
    have := step_le3 h (by omega) e
    exact List.mem_range.mpr (by omega)⟩
  obtain ⟨k, k1, k2, wk⟩ := table_wf (f := stepsOf i o s) (S := List.range 4) (n := 7) (m := (beatsOf i o).length) (b := 0) c (by simp) (by simp) (fun n _ => by unfold stepsOf; rw [List.length_map])
  obtain ⟨q, q1, q2, wq⟩ := least_wf wk k1
  rw [List.length_range] at k2
  unfold watcherOf
  rw [wq.len]
  omega
theorem many_small {i o : List Str} {s t : Sen} (h1 : ∀ k ∈ s.nums, k ≤ 3) (h2 : ∀ k ∈ t.nums, k ≤ 3) : manyOf (watchers i o [s, t]) ≤ 60 := by
  have a := watcher_small (i := i) (o := o) h1
  have b := watcher_small (i := i) (o := o) h2
  show (watcherOf i o s).length * ((watcherOf i o t).length * 1) ≤ 60
  rw [Nat.mul_one]
  exact Nat.le_trans (Nat.mul_le_mul a b) (by decide)
theorem watchers_ren {i o i' o' : List Str} (a : Alike i o i' o') {ss : List Sen} (h : ∀ s ∈ ss, ∀ p ∈ s.says, SayOk i o p) : watchers i' o' (ss.map (Sen.map (Say.ren i o i' o'))) = watchers i o ss := by
  unfold watchers
  rw [List.map_map]
  refine List.map_congr_left fun s hs => ?_
  rw [Function.comp_apply]
  exact watcher_ren a (h s hs)
/-! the way to a parting -/
def Low (m : Nat) (l : Found) : Prop := ∀ e ∈ l, ∀ j ∈ e.2, j < m
theorem low_snoc {m j : Nat} {w : List Nat} (hw : ∀ q ∈ w, q < m) (hj : j < m) : ∀ q ∈ w ++ [j], q < m := fun q hq => by
  rcases List.mem_append.mp hq with h | h
  · exact hw q h
  · rw [List.mem_singleton.mp h]
    exact hj
def LowS (m : Nat) : Step → Prop
  | .go l => Low m l
  | .out w => ∀ j ∈ w, j < m
theorem lap_low {m j : Nat} {A B : List Row} {p : Pr} {w : List Nat} {l : Found} (hl : Low m l) (hw : ∀ q ∈ w, q < m) (hj : j < m) : LowS m (lap A B p w l j) := by
  unfold lap
  split
  · exact hl
  · split
    · exact hl
    · intro e he
      rcases List.mem_append.mp he with h | h
      · exact hl e h
      · rw [List.mem_singleton.mp h]
        exact low_snoc hw hj
  · exact low_snoc hw hj
theorem laps_low {m : Nat} {A B : List Row} {p : Pr} {w : List Nat} (hw : ∀ q ∈ w, q < m) : ∀ {n i : Nat} {l : Found}, i + n ≤ m → Low m l → LowS m (laps A B p w n i l)
  | 0, _, _, _, hl => hl
  | n + 1, i, l, hi, hl => by
    have h := lap_low (A := A) (B := B) (p := p) hl hw (show i < m by omega)
    unfold laps
    cases e : lap A B p w l i with
    | go l' =>
      rw [e] at h
      exact laps_low hw (by omega) h
    | out v =>
      rw [e] at h
      exact h
theorem partF_low {m : Nat} {A B : List Row} : ∀ {n i : Nat} {l : Found} {v : List Nat}, Low m l → partF A B m n i l = some v → ∀ j ∈ v, j < m
  | 0, _, _, _, _, h => by cases h
  | n + 1, i, l, v, hl, h => by
    unfold partF at h
    cases e : l[i]? with
    | none =>
      rw [e] at h
      cases h
    | some x =>
      obtain ⟨p, w⟩ := x
      rw [e] at h
      have hs := laps_low (A := A) (B := B) (p := p) (w := w) (m := m) (hl _ (List.mem_of_getElem? e)) (n := m) (i := 0) (l := l) (by omega) hl
      cases q : laps A B p w m 0 l with
      | go l' =>
        rw [q] at hs
        simp only [q] at h
        exact partF_low hs h
      | out u =>
        rw [q] at hs
        simp only [q] at h
        cases h
        exact hs
theorem part_low {m : Nat} {A B : List Row} {v : List Nat} (h : partOf A B m = some v) : ∀ j ∈ v, j < m :=
  partF_low (fun e he j hj => by
    rw [List.mem_singleton.mp he] at hj
    cases hj) h
/-- the run of a way -/
def runOf (bs : List Bt) (w : List Nat) : List Bt := w.map fun j => bs.getD j ("", "")
theorem path_run {bs : List Bt} {w : List Nat} (h : ∀ j ∈ w, j < bs.length) : pathD (bs.map beatD) w = runD (runOf bs w) := by
  unfold pathD runD runOf
  rw [List.map_map]
  congr 1
  refine List.map_congr_left fun j hj => ?_
  have := h j hj
  show (bs.map beatD).getD j .none = beatD (bs.getD j ("", ""))
  rw [List.getD_eq_getElem?_getD, List.getElem?_map, List.getD_eq_getElem?_getD, List.getElem?_eq_getElem this]
  rfl
theorem run_map {bs : List Bt} {g : Bt → Bt} {w : List Nat} (h : ∀ j ∈ w, j < bs.length) : runOf (bs.map g) w = (runOf bs w).map g := by
  unfold runOf
  rw [List.map_map]
  refine List.map_congr_left fun j hj => ?_
  have := h j hj
  show (bs.map g).getD j ("", "") = g (bs.getD j ("", ""))
  rw [List.getD_eq_getElem?_getD, List.getElem?_map, List.getD_eq_getElem?_getD, List.getElem?_eq_getElem this]
  rfl
theorem run_in {i o : List Str} {w : List Nat} (h : ∀ j ∈ w, j < (beatsOf i o).length) : ∀ b ∈ runOf (beatsOf i o) w, BeatIn i o b := fun b hb => by
  obtain ⟨j, hj, rfl⟩ := List.mem_map.mp hb
  exact beats_mem (getD_mem (h j hj))
/-- the run that parts two sentences, perhaps none -/
def partRun (i o : List Str) (s t : Sen) : Option (List Bt) := (partOf (watcherOf i o s) (watcherOf i o t) (beatsOf i o).length).map (runOf (beatsOf i o))
def runO : Option (List Bt) → PyData
  | none => .none
  | some r => runD r
theorem part_data {i o : List Str} {s t : Sen} : (match partOf (watcherOf i o s) (watcherOf i o t) (beatsOf i o).length with
  | none => PyData.none
  | some w => pathD ((beatsOf i o).map beatD) w) = runO (partRun i o s t) := by
  unfold partRun
  cases h : partOf (watcherOf i o s) (watcherOf i o t) (beatsOf i o).length with
  | none => rfl
  | some w => exact path_run (part_low h)
theorem part_in {i o : List Str} {s t : Sen} {r : List Bt} (h : partRun i o s t = some r) : ∀ b ∈ r, BeatIn i o b := by
  unfold partRun at h
  cases e : partOf (watcherOf i o s) (watcherOf i o t) (beatsOf i o).length with
  | none =>
    rw [e] at h
    cases h
  | some w =>
    rw [e] at h
    cases h
    exact run_in (part_low e)
theorem part_ren {i o i' o' : List Str} (a : Alike i o i' o') {s t : Sen} (hs : ∀ p ∈ s.says, SayOk i o p) (ht : ∀ p ∈ t.says, SayOk i o p) : partRun i' o' (s.map (Say.ren i o i' o')) (t.map (Say.ren i o i' o')) = (partRun i o s t).map fun r => r.map (renB i o i' o') := by
  unfold partRun
  rw [watcher_ren a hs, watcher_ren a ht, beats_len a, beats_ren a]
  cases h : partOf (watcherOf i o s) (watcherOf i o t) (beatsOf i o).length with
  | none => rfl
  | some w => exact congrArg some (run_map (part_low h))
end
section
/-! F22 -/
/-! ### a comprehension whose element changes what stands aside -/
theorem compR_go {T : Tb} {X : Cx} {scope : Scope} {vs ks : List Nat} {elt : Expr} (G Gb : Nat → Ga) (g f : Nat → PyData) : ∀ (n i : Nat),
    (∀ j, i ≤ j → j < i + n → ∃ ps, parts ks (g j) = some ps ∧ noOwn vs (G j) = true ∧ BE T X scope (setG (wipeG vs 0 (G j)) ks ps) elt (Gb j) (f j) ∧ restG vs 0 (G j) (Gb j) = G (j + 1)) → CompR T X scope vs ks [] elt ((List.range' i n).map g) (G i) ((List.range' i n).map f) (G (i + n))
  | 0, i, _ => .nil _
  | n + 1, i, h => by
    obtain ⟨ps, h1, h2, h3, h4⟩ := h i (Nat.le_refl _) (by omega)
    have t := compR_go G Gb g f n (i + 1) fun j a b => h j (by omega) (by omega)
    rw [List.range'_succ, List.map_cons, List.map_cons]
    refine .keep h1 h2 bt_nil h3 ?_
    rw [h4, show i + (n + 1) = i + 1 + n by omega]
    exact t
theorem compR_to {T : Tb} {X : Cx} {scope : Scope} {vs ks : List Nat} {elt : Expr} {ds rs : List PyData} {Γ Γ1 : Ga} (G Gb : Nat → Ga) (g f : Nat → PyData) (n : Nat)
    (h : ∀ j, j < n → ∃ ps, parts ks (g j) = some ps ∧ noOwn vs (G j) = true ∧ BE T X scope (setG (wipeG vs 0 (G j)) ks ps) elt (Gb j) (f j) ∧ restG vs 0 (G j) (Gb j) = G (j + 1)) (h0 : G 0 = Γ) (hn : G n = Γ1) (he : ds = (List.range n).map g) (hr : rs = (List.range n).map f) : CompR T X scope vs ks [] elt ds Γ rs Γ1 := by
  subst h0 hn he hr
  have t := compR_go (T := T) (X := X) (scope := scope) (vs := vs) (ks := ks) (elt := elt) G Gb g f n 0 fun j _ b => h j (by omega)
  rw [Nat.zero_add] at t
  rw [List.range_eq_range']
  exact t
/-! ### the law's sentences -/
theorem atom_ok {i o : List Str} {s : Ls} (wi : Words i) (wo : Words o) : SayOk i o (atom i o s) ∧ (atom i o s).depth = 1 := by
  have i1 := wi.lo
  have o1 := wo.lo
  unfold atom
  split
  · exact ⟨getD_mem (pick_lt (by omega) _), rfl⟩
  · exact ⟨getD_mem (pick_lt (by omega) _), rfl⟩
theorem depth_pos : ∀ p : Say, 1 ≤ p.depth
  | .inn _ => Nat.le_refl _
  | .out _ => Nat.le_refl _
  | .not _ => Nat.le_add_left _ _
  | .and _ _ => Nat.le_add_left _ _
  | .or _ _ => Nat.le_add_left _ _
theorem join_ok {i o : List Str} {k c : Nat} {p q : Say} (h1 : SayOk i o p) (h2 : SayOk i o q) : SayOk i o (joinSay k c p q) := by
  unfold joinSay
  split <;> split <;> first | exact ⟨h1, h2⟩ | exact ⟨h2, h1⟩
theorem join_depth {k c : Nat} {p q : Say} (h : q.depth = 1) : (joinSay k c p q).depth ≤ p.depth + 1 := by
  have := depth_pos p
  unfold joinSay
  split <;> split <;> simp only [Say.depth] <;> omega
theorem lapN_ok {i o : List Str} (wi : Words i) (wo : Words o) {x : Say × Ls} (h : SayOk i o x.1) : ∀ n, SayOk i o (lapN i o x n).1 ∧ (lapN i o x n).1.depth ≤ x.1.depth + n
  | 0 => ⟨h, Nat.le_refl _⟩
  | n + 1 => by
    obtain ⟨h1, h2⟩ := lapN_ok wi wo h n
    show SayOk i o (lapSay i o (lapN i o x n)).1 ∧ (lapSay i o (lapN i o x n)).1.depth ≤ _
    generalize lapN i o x n = y at h1 h2
    unfold lapSay
    split
    · refine ⟨h1, ?_⟩
      simp only [Say.depth]
      omega
    · obtain ⟨a1, a2⟩ := atom_ok (i := i) (o := o) (s := after 3 y.2) wi wo
      refine ⟨join_ok h1 a1, ?_⟩
      have := join_depth (k := pick 3 y.2) (c := pick 2 (atomS i o (after 3 y.2))) (p := y.1) a2
      show (joinSay _ _ y.1 (atom i o (after 3 y.2))).depth ≤ _
      omega
theorem saying_ok {i o : List Str} {s : Ls} (wi : Words i) (wo : Words o) : SayOk i o (saying i o s).1 ∧ (saying i o s).1.depth ≤ 4 := by
  obtain ⟨a1, a2⟩ := atom_ok (i := i) (o := o) (s := s) wi wo
  have h := lapN_ok wi wo (x := (atom i o s, after 6 (atomS i o s))) a1 (sayLaps i o s)
  have := laps_le (i := pick 6 (atomS i o s))
  unfold saying
  refine ⟨h.1, ?_⟩
  have h2 := h.2
  unfold sayLaps at h2 ⊢
  rw [show (atom i o s, after 6 (atomS i o s)).1.depth = 1 from a2] at h2
  omega
def KS : List Str := ["never", "after", "until", "within", "first", "most", "apart"]
def NS : List Nat := [1, 2, 3, 2, 2, 1, 1]
/-- n sayings, one behind the other -/
def sayN (i o : List Str) (s : Ls) : Nat → List Say × Ls
  | 0 => ([], s)
  | n + 1 => ((sayN i o s n).1 ++ [(saying i o (sayN i o s n).2).1], (saying i o (sayN i o s n).2).2)
theorem sayN_len {i o : List Str} {s : Ls} : ∀ n, (sayN i o s n).1.length = n
  | 0 => rfl
  | n + 1 => by
    show ((sayN i o s n).1 ++ [_]).length = _
    rw [List.length_append, sayN_len n] <;> rfl
theorem sayN_ok {i o : List Str} {s : Ls} (wi : Words i) (wo : Words o) : ∀ n, ∀ p ∈ (sayN i o s n).1, SayOk i o p ∧ p.depth ≤ 4
  | 0, p, h => by cases h
  | n + 1, p, h => by
    rcases List.mem_append.mp h with h | h
    · exact sayN_ok wi wo n p h
    · rw [List.mem_singleton.mp h]
      exact saying_ok wi wo
theorem sayN_map {i o : List Str} {s : Ls} : ∀ n, (sayN i o s n).1.map Say.d = (List.range n).map fun j => (saying i o (sayN i o s j).2).1.d
  | 0 => rfl
  | n + 1 => by
    show ((sayN i o s n).1 ++ [_]).map Say.d = _
    rw [List.map_append, sayN_map n, List.range_succ, List.map_append] <;> rfl
def mkSen (k : Nat) (ps : List Say) (n : Nat) : Sen := match k with
  | 0 => .never (ps.getD 0 (.inn ""))
  | 1 => .after (ps.getD 0 (.inn "")) (ps.getD 1 (.inn ""))
  | 2 => .untl (ps.getD 0 (.inn "")) (ps.getD 1 (.inn "")) (ps.getD 2 (.inn ""))
  | 3 => .within (ps.getD 0 (.inn "")) (ps.getD 1 (.inn "")) n
  | 4 => .first (ps.getD 0 (.inn "")) (ps.getD 1 (.inn ""))
  | 5 => .most (ps.getD 0 (.inn "")) n
  | _ => .apart (ps.getD 0 (.inn "")) n
def hasNum (z : Str) : Bool := inD (.str z) [.str "within", .str "most", .str "apart"]
theorem hasNum_eq (z : Str) : hasNum z = (("within" : Str) == z || (("most" : Str) == z || (("apart" : Str) == z || false))) := by
  unfold hasNum inD
  simp only [List.any_cons, List.any_nil, eqv_str]
theorem mk_d {k n : Nat} {ps : List Say} (hk : k < 7) (hp : ps.length = NS.getD k 0) : (mkSen k ps n).d = .tuple ((.str (KS.getD k "") :: ps.map Say.d) ++ (if hasNum (KS.getD k "") then [.int (n : Int)] else [])) := by
  have c : ∀ k, k < 7 → hasNum (KS.getD k "") = [false, false, false, true, false, true, true].getD k false := fun k h => by
    rw [hasNum_eq]
    match k, h with
    | 0, _ => decide +kernel
    | 1, _ => decide +kernel
    | 2, _ => decide +kernel
    | 3, _ => decide +kernel
    | 4, _ => decide +kernel
    | 5, _ => decide +kernel
    | 6, _ => decide +kernel
  rw [c k hk]
  match k, hk, ps, hp with
  | 0, _, [a], _ => rfl
  | 1, _, [a, b], _ => rfl
  | 2, _, [a, b, c], _ => rfl
  | 3, _, [a, b], _ => rfl
  | 4, _, [a, b], _ => rfl
  | 5, _, [a], _ => rfl
  | 6, _, [a], _ => rfl
theorem mk_ok {i o : List Str} {k n : Nat} {ps : List Say} (hk : k < 7) (hp : ps.length = NS.getD k 0) (wi : Words i) (wo : Words o) (h : ∀ p ∈ ps, SayOk i o p ∧ p.depth ≤ 4) (h1 : 1 ≤ n) (h2 : n ≤ 3) : SenOk i o (mkSen k ps n) ∧ ∀ q ∈ (mkSen k ps n).nums, q ≤ 3 := by
  have sub : ∀ p ∈ (mkSen k ps n).says, p ∈ ps := by
    match k, hk, ps, hp with
    | 0, _, [a], _ => exact fun p hp => hp
    | 1, _, [a, b], _ => exact fun p hp => hp
    | 2, _, [a, b, c], _ => exact fun p hp => hp
    | 3, _, [a, b], _ => exact fun p hp => hp
    | 4, _, [a, b], _ => exact fun p hp => hp
    | 5, _, [a], _ => exact fun p hp => hp
    | 6, _, [a], _ => exact fun p hp => hp
  have nm : ∀ q ∈ (mkSen k ps n).nums, q = n := by
    match k, hk with
    | 0, _ => exact fun q hq => by cases hq
    | 1, _ => exact fun q hq => by cases hq
    | 2, _ => exact fun q hq => by cases hq
    | 3, _ => exact fun q hq => List.mem_singleton.mp hq
    | 4, _ => exact fun q hq => by cases hq
    | 5, _ => exact fun q hq => List.mem_singleton.mp hq
    | 6, _ => exact fun q hq => List.mem_singleton.mp hq
  refine ⟨⟨wi, wo, fun p hp => (h p (sub p hp)).2, fun p hp => (h p (sub p hp)).1, fun q hq => ?_, fun q hq => ?_⟩, fun q hq => ?_⟩
  · rw [nm q hq]
    exact h1
  · rw [nm q hq]
    omega
  · rw [nm q hq]
    exact h2
/-- a sentence, and the choices left -/
def sen1 (i o : List Str) (s : Ls) : List Say × Ls := sayN i o (after 7 s) (NS.getD (pick 7 s) 0)
def senOf (i o : List Str) (s : Ls) : Sen × Ls := (mkSen (pick 7 s) (sen1 i o s).1 (1 + pick 3 (sen1 i o s).2), after 3 (sen1 i o s).2)
theorem senOf_ok {i o : List Str} {s : Ls} (wi : Words i) (wo : Words o) : SenOk i o (senOf i o s).1 ∧ ∀ q ∈ (senOf i o s).1.nums, q ≤ 3 :=
  mk_ok (pick_lt (by decide) _) (sayN_len _) wi wo (sayN_ok wi wo _) (Nat.le_add_right _ _) (by have := pick_lt (m := 3) (by decide) (sen1 i o s).2; omega)
def R_sen : Rm := fun st ds st' d => ∃ (s : Ls) (i o : List Str), st = s.ds ∧ ds = [lettersD i o, .int 3, .bool false] ∧ Words i ∧ Words o ∧ st' = (senOf i o s).2.ds ∧ d = (senOf i o s).1.d
theorem ks_at {k : Nat} (h : k < 7) : KS.idxOf (KS.getD k "") = k ∧ KS.getD k "" ∈ KS ∧ lw.contains (KS.getD k "") = false := by
  match k, h with
  | 0, _ => decide +kernel
  | 1, _ => decide +kernel
  | 2, _ => decide +kernel
  | 3, _ => decide +kernel
  | 4, _ => decide +kernel
  | 5, _ => decide +kernel
  | 6, _ => decide +kernel
theorem ns_le {k : Nat} : NS.getD k 0 ≤ 3 := by
  rw [List.getD_eq_getElem?_getD]
  cases h : NS[k]? with
  | none => exact Nat.zero_le _
  | some x =>
    have q : ∀ x ∈ NS, x ≤ 3 := by decide
    exact q x (List.mem_of_getElem? h)
section
variable {T : Tb} {P : Program} {w : World} {K : PySem.W.Frag} {mg : Str → Option Value} {base : Heap} {f : Addr} {fd : FuncData}
theorem ok_sen (F : Fun K "_law_sentence" "_law_sentence" s__law_sentence f fd) (mr : mg "range" = none) (mt : mg "tuple" = none) (mi : mg "int" = none) (C : Cal P w K mg base 1 "_law_choice" (SpM T K R_choice)) (C2 : Cal P w K mg base 3 "_law_saying" (SpM T K R_say)) : FnOk P w K mg base CX0 4 f fd ["_law_state_here", "_law_letters_here", "_law_great", "_law_plain"] (SpM T K R_sen) := by
  have nd := sc__law_sentence.nd
  refine fn_mut F sc__law_sentence (fun a b c d ⟨s, i, o, _, e, _⟩ => by rw [e] <;> rfl) fun a b c d ⟨s, i, o, e1, e2, wi, wo, e3, e4⟩ ad cdv A outer s' H E hr => ?_
  subst e1 e2 e3 e4
  have hk := pick_lt (m := 7) (by decide) s
  obtain ⟨k1, k2, k3⟩ := ks_at hk
  have hn := ns_le (k := pick 7 s)
  have hd := mk_d (n := 1 + pick 3 (sen1 i o s).2) hk (sayN_len (i := i) (o := o) (s := after 7 s) (NS.getD (pick 7 s) 0))
  have kat := words_at (l := KS) hk
  have nat_ := nats_get (l := NS) hk
  have q7 : R_choice s.ds [.int 7] (after 7 s).ds (.int (pick 7 s : Int)) := ⟨s, 7, rfl, rfl, by decide, by decide, rfl, rfl⟩
  have q3 : R_choice (sen1 i o s).2.ds [.int 3] (after 3 (sen1 i o s).2).ds (.int (pick 3 (sen1 i o s).2 : Int)) := ⟨_, 3, rfl, rfl, by decide, by decide, rfl, rfl⟩
  have hth : thD (.str (KS.getD (pick 7 s) "")) = false := k3
  have hsl := sayN_len (i := i) (o := o) (s := after 7 s) (NS.getD (pick 7 s) 0)
  refine' by_outM ?h1 ?h2
  case h1 =>
    show DSs _ _ [.lst (some ad) s.ds, .dat (lettersD i o), .dat (.int 3), .dat (.bool false), .un, .un, .un, .un] _ _
    refine' dss_cons (ds_set 4 (d := .str (KS.getD (pick 7 s) "")) (de_ix ix_seq (d1 := .list (KS.map .str)) (d2 := .int (pick 7 s : Int)) ?a1 ?c1 (rd_ix rfl kat)) nd) ?b1
    case a1 => exact de_lst (da_cons de_str (da_cons de_str (da_cons de_str (da_cons de_str (da_cons de_str (da_cons de_str (da_cons de_str da_nil))))))) (Nat.le_of_ble_eq_true rfl)
    case c1 => exact de_callM 0 rfl C (hr.mono (by omega)) (da_cons de_int da_nil) q7
    case b1 =>
      show DSs _ _ [.lst (some ad) (after 7 s).ds, .dat (lettersD i o), .dat (.int 3), .dat (.bool false), .dat (.str (KS.getD (pick 7 s) "")), .un, .un, .un] _ _
      refine' dss_cons (ds_set 5 (d := natD (NS.getD (pick 7 s) 0)) (de_ix ix_seq (d1 := .list (NS.map natD)) (d2 := .int ((KS.idxOf (KS.getD (pick 7 s) "") : Nat) : Int)) ?a2 ?c2 (rd_ix rfl (by rw [k1]; exact nat_))) nd) ?b2
      case a2 => exact de_lst (da_cons de_int (da_cons de_int (da_cons de_int (da_cons de_int (da_cons de_int (da_cons de_int (da_cons de_int da_nil))))))) (Nat.le_of_ble_eq_true rfl)
      case c2 => exact de_listIx (ks := KS) k2 (de_lst (da_cons de_str (da_cons de_str (da_cons de_str (da_cons de_str (da_cons de_str (da_cons de_str (da_cons de_str da_nil))))))) (Nat.le_of_ble_eq_true rfl)) (de_name 4)
      case b2 =>
        show DSs _ _ [.lst (some ad) (after 7 s).ds, .dat (lettersD i o), .dat (.int 3), .dat (.bool false), .dat (.str (KS.getD (pick 7 s) "")), .dat (.int (NS.getD (pick 7 s) 0 : Int)), .un, .un] _ _
        refine' dss_cons (ds_set 6 (d := .tuple (.str (KS.getD (pick 7 s) "") :: (sen1 i o s).1.map Say.d)) (de_op op_catA (de_tup (da_cons (de_name 4) da_nil) (Nat.le_of_ble_eq_true rfl)) (de_callTy cr_tupF mt (by decide +kernel) (da_cons (d := .list ((sen1 i o s).1.map Say.d)) (Γ1 := [.lst (some ad) (sen1 i o s).2.ds, .dat (lettersD i o), .dat (.int 3), .dat (.bool false), .dat (.str (KS.getD (pick 7 s) "")), .dat (.int (NS.getD (pick 7 s) 0 : Int)), .un, .un]) ?c3 da_nil) (rc_tuple rfl)) (rd_cat ?l3 fun _ _ => thin_head hth)) nd) ?b3
        case c3 =>
          refine' de_comp [("_law_lap", 7)] [7] (di_range (j := (NS.getD (pick 7 s) 0 : Int)) mr (de_name 5) (by omega)) (L2.blkOk_by (N := n__law_sentence) (sc := defScope s__law_sentence) (by decide +kernel)) nd (fun s H C cl fp => dg_name 7 nd) rfl ?c4
          case c4 =>
            refine' compR_to (fun j => [.lst (some ad) (sayN i o (after 7 s) j).2.ds, .dat (lettersD i o), .dat (.int 3), .dat (.bool false), .dat (.str (KS.getD (pick 7 s) "")), .dat (.int (NS.getD (pick 7 s) 0 : Int)), .un, .un])
              (fun j => [.lst (some ad) (saying i o (sayN i o (after 7 s) j).2).2.ds, .dat (lettersD i o), .dat (.int 3), .dat (.bool false), .dat (.str (KS.getD (pick 7 s) "")), .dat (.int (NS.getD (pick 7 s) 0 : Int)), .un, .dat (.int (0 + (j : Int)))])
              (fun j => .int (0 + (j : Int))) (fun j => (saying i o (sayN i o (after 7 s) j).2).1.d) (NS.getD (pick 7 s) 0) (fun j hj => ⟨_, rfl, rfl, fun s2 H C cl fp => ?_, rfl⟩) rfl rfl rfl (sayN_map _)
            exact de_callM 0 rfl C2 (hr.mono (by omega)) (da_cons (de_name 1) (da_cons (de_name 3) da_nil)) ⟨_, i, o, rfl, rfl, wi, wo, rfl, rfl⟩
        case l3 =>
          rw [List.length_map]
          show 1 + (sen1 i o s).1.length ≤ 100000
          unfold sen1
          omega
        case b3 =>
          show DSs _ _ [.lst (some ad) (sen1 i o s).2.ds, .dat (lettersD i o), .dat (.int 3), .dat (.bool false), .dat (.str (KS.getD (pick 7 s) "")), .dat (.int (NS.getD (pick 7 s) 0 : Int)), .dat (.tuple (.str (KS.getD (pick 7 s) "") :: (sen1 i o s).1.map Say.d)), .un] _ _
          refine' dss_ret (ds_ret (de_is (d' := (senOf i o s).1.d) (de_op op_catA (de_name 6) (de_mul1 (k := hasNum (KS.getD (pick 7 s) "")) (de_tup (da_cons (de_op op_add de_int ?d1 (rd_I0 (vd_int _))) da_nil) (Nat.le_of_ble_eq_true rfl)) ?d2) (rd_cat ?l4 fun _ _ => thin_head hth)) ?e4))
          case d1 => exact de_callM 0 rfl C (hr.mono (by omega)) (da_cons (de_name 2) da_nil) q3
          case d2 => exact de_callTy L2.call_int1 mi (by decide +kernel) (da_cons (de_cmp op_in_seq (by rfl) (de_name 4) (de_lst (da_cons de_str (da_cons de_str (da_cons de_str da_nil))) (Nat.le_of_ble_eq_true rfl)) (rd_in rfl rfl rfl)) da_nil) rc_intB
          case l4 =>
            rw [List.length_cons, List.length_map]
            have : (sen1 i o s).1.length ≤ 3 := by
              unfold sen1
              omega
            split
            · show _ + 1 + 1 ≤ 100000
              omega
            · show _ + 1 + 0 ≤ 100000
              omega
          case e4 =>
            show _ = (mkSen (pick 7 s) (sen1 i o s).1 (1 + pick 3 (sen1 i o s).2)).d
            rw [show (mkSen (pick 7 s) (sen1 i o s).1 (1 + pick 3 (sen1 i o s).2)).d = _ from hd, Int.natCast_add] <;> rfl
  case h2 => exact ⟨rfl, rfl⟩
end
end
section
/-! F23 -/
/-! ### the law's runs, other names, exchange -/
def runN (i o : List Str) (s : Ls) : Nat → List Bt × Ls
  | 0 => ([], s)
  | n + 1 => ((runN i o s n).1 ++ [(beatsOf i o).getD (pick (beatsOf i o).length (runN i o s n).2) ("", "")], after (beatsOf i o).length (runN i o s n).2)
def lawRun (i o : List Str) (s : Ls) : List Bt × Ls := runN i o (after 25 s) (pick 25 s)
theorem beats_pos {i o : List Str} (wi : Words i) (wo : Words o) : 0 < (beatsOf i o).length := by
  have i1 := wi.lo
  have o1 := wo.lo
  unfold beatsOf
  match i, o, i1, o1 with
  | a :: i, b :: o, _, _ => rw [List.flatMap_cons, List.map_cons, List.cons_append, List.length_cons]; omega
theorem runN_in {i o : List Str} {s : Ls} (wi : Words i) (wo : Words o) : ∀ n, ∀ b ∈ (runN i o s n).1, BeatIn i o b
  | 0, b, h => by cases h
  | n + 1, b, h => by
    rcases List.mem_append.mp h with h | h
    · exact runN_in wi wo n b h
    · rw [List.mem_singleton.mp h]
      exact beats_mem (getD_mem (pick_lt (beats_pos wi wo) _))
theorem runN_map {i o : List Str} {s : Ls} : ∀ n, (runN i o s n).1.map beatD = (List.range n).map fun j => beatD ((beatsOf i o).getD (pick (beatsOf i o).length (runN i o s j).2) ("", ""))
  | 0 => rfl
  | n + 1 => by
    show ((runN i o s n).1 ++ [_]).map beatD = _
    rw [List.map_append, runN_map n, List.range_succ, List.map_append] <;> rfl
theorem runN_len {i o : List Str} {s : Ls} : ∀ n, (runN i o s n).1.length = n
  | 0 => rfl
  | n + 1 => by
    show ((runN i o s n).1 ++ [_]).length = _
    rw [List.length_append, runN_len n] <;> rfl
theorem bts_at {l : List Bt} {i : Nat} (h : i < l.length) : atI (l.map beatD) (i : Int) = some (beatD (l.getD i ("", ""))) := by
  refine atI_n ?_
  rw [List.getElem?_map, List.getElem?_eq_getElem h, List.getD_eq_getElem?_getD, List.getElem?_eq_getElem h]
  rfl
def R_run : Rm := fun st ds st' d => ∃ (s : Ls) (i o : List Str), st = s.ds ∧ ds = [lettersD i o, .int 24] ∧ Words i ∧ Words o ∧ st' = (lawRun i o s).2.ds ∧ d = runD (lawRun i o s).1
/-- known to the object -/
def Thin (ws : List Str) : Prop := thinD (ws.map PyData.str) = true
def R_ren (n : Nat) : Rl := fun ds r => ∃ (i o i' o' : List Str) (s : Say), ds = [lettersD i o, lettersD i' o', s.d] ∧ Alike i o i' o' ∧ Thin i ∧ Thin o ∧ SayOk i o s ∧ s.depth ≤ n ∧ r = (s.ren i o i' o').d
def R_exch (n : Nat) : Rl := fun ds r => ∃ s : Say, ds = [s.d] ∧ s.depth ≤ n ∧ r = s.swap.d
def R_run_ren : Rl := fun ds r => ∃ (i o i' o' : List Str) (bs : List Bt), ds = [lettersD i o, lettersD i' o', runD bs] ∧ Alike i o i' o' ∧ Thin i ∧ Thin o ∧ (∀ b ∈ bs, BeatIn i o b) ∧ bs.length ≤ 1000 ∧ r = runD (bs.map (renB i o i' o'))
/-- tuples of the top have no dict -/
def TupK (K : PySem.W.Frag) : Prop := ∀ a o, K.lookup a = some o → o.cls = .type "tuple" → o.dict = none
theorem ren_at {i j : List Str} {w : Str} (hl : i.length = j.length) (h : w ∈ i) : atI (j.map PyData.str) ((i.idxOf w : Nat) : Int) = some (.str (ren i j w)) := words_at (by rw [← hl]; exact List.idxOf_lt_length_iff.mpr h)
section
variable {T : Tb} {P : Program} {w : World} {K : PySem.W.Frag} {mg : Str → Option Value} {base : Heap} {f : Addr} {fd : FuncData}
theorem ok_run (F : Fun K "_law_run" "_law_run" s__law_run f fd) (mr : mg "range" = none) (mt : mg "tuple" = none) (ml : mg "len" = none) (C : Cal P w K mg base 1 "_law_choice" (SpM T K R_choice)) (C2 : Cal P w K mg base 1 "_law_beats" (SpD T K R_beats_of)) : FnOk P w K mg base CX0 2 f fd ["_law_state_here", "_law_letters_here", "_law_many"] (SpM T K R_run) := by
  have nd := sc__law_run.nd
  refine fn_mut F sc__law_run (fun a b c d ⟨s, i, o, _, e, _⟩ => by rw [e] <;> rfl) fun a b c d ⟨s, i, o, e1, e2, wi, wo, e3, e4⟩ ad cdv A outer s' H E hr => ?_
  subst e1 e2 e3 e4
  have few := words_few wi wo
  have pos := beats_pos wi wo
  have hn := pick_lt (m := 25) (by decide) s
  have hl : ((beatsOf i o).map beatD).length = (beatsOf i o).length := List.length_map _
  have q25 : R_choice s.ds [.int (24 + 1)] (after 25 s).ds (.int (pick 25 s : Int)) := ⟨s, 25, rfl, rfl, by decide, by decide, rfl, rfl⟩
  refine' by_outM ?h1 ?h2
  case h1 =>
    show DSs _ _ [.lst (some ad) s.ds, .dat (lettersD i o), .dat (.int 24), .un, .un] _ _
    refine' dss_cons (ds_set 3 (d := .list ((beatsOf i o).map beatD)) (de_call C2 hr (da_cons (de_name 1) da_nil) ⟨i, o, rfl, wi, wo, rfl⟩) nd) ?b1
    case b1 =>
      refine' dss_ret (ds_ret (de_callTy cr_tupF mt (by decide +kernel) (da_cons (d := .list ((lawRun i o s).1.map beatD)) (Γ1 := [.lst (some ad) (lawRun i o s).2.ds, .dat (lettersD i o), .dat (.int 24), .dat (.list ((beatsOf i o).map beatD)), .un]) ?c3 da_nil) (rc_tuple rfl)))
      case c3 =>
        refine' de_comp (Γ1 := [.lst (some ad) (after 25 s).ds, .dat (lettersD i o), .dat (.int 24), .dat (.list ((beatsOf i o).map beatD)), .un]) [("_law_lap", 4)] [4] (di_range (j := (pick 25 s : Int)) mr (de_callM 0 rfl C hr (da_cons (de_op op_add (de_name 2) de_int (rd_I0 (vd_int _))) da_nil) q25) (by omega)) (L2.blkOk_by (N := n__law_run) (sc := defScope s__law_run) (by decide +kernel)) nd (fun s H C cl fp => dg_name 4 nd) rfl ?c4
        case c4 =>
          refine' compR_to (fun j => [.lst (some ad) (runN i o (after 25 s) j).2.ds, .dat (lettersD i o), .dat (.int 24), .dat (.list ((beatsOf i o).map beatD)), .un])
            (fun j => [.lst (some ad) (after (beatsOf i o).length (runN i o (after 25 s) j).2).ds, .dat (lettersD i o), .dat (.int 24), .dat (.list ((beatsOf i o).map beatD)), .dat (.int (0 + (j : Int)))])
            (fun j => .int (0 + (j : Int))) (fun j => beatD ((beatsOf i o).getD (pick (beatsOf i o).length (runN i o (after 25 s) j).2) ("", ""))) (pick 25 s) (fun j hj => ⟨_, rfl, rfl, fun s2 H C' cl fp => ?_, rfl⟩) rfl rfl rfl (runN_map _)
          exact de_ix ix_seq (de_name 3) (de_callM 0 rfl C hr (da_cons (de_callB L2.call_len ml (by decide +kernel) (da_cons (de_name 3) da_nil) (rc_len rfl)) da_nil) ⟨_, (beatsOf i o).length, rfl, by rw [hl], pos, by omega, rfl, rfl⟩) (rd_ix rfl (bts_at (pick_lt pos _)))
  case h2 => exact ⟨rfl, rfl⟩
theorem ok_ren_def (F : Fun K "_law_renamed" "_law_renamed" s__law_renamed f fd) (gm : mg "_law_renamed" = some (.ref f)) (hK : TupK K) (mi : mg "int" = none) (mt : mg "tuple" = none) (n : Nat) :
    FnOk P w K mg base CX0 (n + 1) f fd ["_law_letters_here", "_law_other", "_law_saying_here"] (SpD T K (R_ren n)) := by
  have nd := sc__law_renamed.nd
  induction n with
  | zero =>
    refine fn_pure F sc__law_renamed (fun ds d ⟨i, o, i', o', s, e, _⟩ => by rw [e] <;> rfl) fun ds d ⟨i, o, i', o', s, e, al, t1, t2, h1, h2, er⟩ cdv A outer s' H E hr => ?_
    cases s <;> simp only [Say.depth] at h2 <;> omega
  | succ n ih =>
    have C : Cal P w K mg base (n + 1) "_law_renamed" (SpD T K (R_ren n)) := ⟨f, fd, _, gm, F.kp, F.binds fun _ _ _ _ _ _ us hl => match us, hl with | [_, _, _], _ => rfl, ih⟩
    refine fn_pure F sc__law_renamed (fun ds d ⟨i, o, i', o', s, e, _⟩ => by rw [e] <;> rfl) fun ds d ⟨i, o, i', o', s, e, al, t1, t2, h1, h2, er⟩ cdv A outer s' H E hr => ?_
    subst e er
    cases s with
    | inn w =>
      refine' by_out ?h1 ?h2
      case h1 =>
        show DSs _ _ [.dat (.tuple [wordsD i, wordsD o]), .dat (.tuple [wordsD i', wordsD o']), .dat (.tuple [.str "in", .str w]), .un, .un] _ _
        refine' dss_if (k := true) ?a1 (ife_T rfl ?b1 seq_ret)
        case a1 => exact dt_is (dt_cmp op_in_seq (by rfl) (de_ix ix_seq (de_name 2) de_int (rd_ix rfl rfl)) (de_lst (da_cons de_str (da_cons de_str da_nil)) (Nat.le_of_ble_eq_true rfl)) (rd_in rfl rfl rfl)) (by unfold inD; simp only [List.any_cons, eqv_str]; rfl)
        case b1 =>
          refine' dss_cons (ds_set 3 (d := .int 0) (de_is (de_callTy L2.call_int1 mi (by decide +kernel) (da_cons (de_cmp L2.op_eq (nomark _) (de_ix ix_seq (de_name 2) de_int (rd_ix rfl rfl)) de_str (rd_eq rfl)) da_nil) rc_intB) (by rw [eqv_str] <;> rfl)) nd) ?b2
          case b2 => exact dss_ret (ds_ret (de_tup (da_cons (de_ix ix_seq (de_name 2) de_int (rd_ix rfl rfl)) (da_cons (de_ix ix_seq (de_ix ix_seq (de_name 1) (de_name 3) (rd_ix rfl rfl)) (de_tupIx hK t1 h1 (de_ix ix_seq (de_name 0) (de_name 3) (rd_ix rfl rfl)) (de_ix ix_seq (de_name 2) de_int (rd_ix rfl rfl))) (rd_ix rfl (ren_at al.li h1))) da_nil)) (Nat.le_of_ble_eq_true rfl)))
      case h2 => rfl
    | out w =>
      refine' by_out ?h1 ?h2
      case h1 =>
        show DSs _ _ [.dat (.tuple [wordsD i, wordsD o]), .dat (.tuple [wordsD i', wordsD o']), .dat (.tuple [.str "out", .str w]), .un, .un] _ _
        refine' dss_if (k := true) ?a1 (ife_T rfl ?b1 seq_ret)
        case a1 => exact dt_is (dt_cmp op_in_seq (by rfl) (de_ix ix_seq (de_name 2) de_int (rd_ix rfl rfl)) (de_lst (da_cons de_str (da_cons de_str da_nil)) (Nat.le_of_ble_eq_true rfl)) (rd_in rfl rfl rfl)) (by unfold inD; simp only [List.any_cons, eqv_str]; rfl)
        case b1 =>
          refine' dss_cons (ds_set 3 (d := .int 1) (de_is (de_callTy L2.call_int1 mi (by decide +kernel) (da_cons (de_cmp L2.op_eq (nomark _) (de_ix ix_seq (de_name 2) de_int (rd_ix rfl rfl)) de_str (rd_eq rfl)) da_nil) rc_intB) (by rw [eqv_str] <;> rfl)) nd) ?b2
          case b2 => exact dss_ret (ds_ret (de_tup (da_cons (de_ix ix_seq (de_name 2) de_int (rd_ix rfl rfl)) (da_cons (de_ix ix_seq (de_ix ix_seq (de_name 1) (de_name 3) (rd_ix rfl rfl)) (de_tupIx hK t2 h1 (de_ix ix_seq (de_name 0) (de_name 3) (rd_ix rfl rfl)) (de_ix ix_seq (de_name 2) de_int (rd_ix rfl rfl))) (rd_ix rfl (ren_at al.lo h1))) da_nil)) (Nat.le_of_ble_eq_true rfl)))
      case h2 => rfl
    | not s =>
      have d1 : s.depth ≤ n := by
        simp only [Say.depth] at h2
        omega
      have r1 : R_ren n [lettersD i o, lettersD i' o', s.d] (s.ren i o i' o').d := ⟨_, _, _, _, s, rfl, al, t1, t2, h1, d1, rfl⟩
      refine' by_out ?h1 ?h2
      case h1 =>
        show DSs _ _ [.dat (lettersD i o), .dat (lettersD i' o'), .dat (.tuple [.str "not", s.d]), .un, .un] _ _
        refine' dss_if (k := false) ?a1 (ife_F0 rfl ?b1)
        case a1 => exact dt_is (dt_cmp op_in_seq (by rfl) (de_ix ix_seq (de_name 2) de_int (rd_ix rfl rfl)) (de_lst (da_cons de_str (da_cons de_str da_nil)) (Nat.le_of_ble_eq_true rfl)) (rd_in rfl rfl rfl)) (by unfold inD; simp only [List.any_cons, eqv_str]; rfl)
        case b1 =>
          refine' dss_ret (ds_ret (de_op op_catA (de_tup (da_cons (de_ix ix_seq (de_name 2) de_int (rd_ix rfl rfl)) da_nil) (Nat.le_of_ble_eq_true rfl)) (de_callTy cr_tupF mt (by decide +kernel) (da_cons (d := .list [(s.ren i o i' o').d]) ?c1 da_nil) (rc_tuple rfl)) (rd_cat (es := [(s.ren i o i' o').d]) (Nat.le_of_ble_eq_true rfl) fun _ _ => thin_head (by decide +kernel))))
          case c1 =>
            refine' de_comp [("_law_one", 4)] [4] (di_tup (ds := [s.d]) (de_is (de_slice (de_name 2) (do_some de_int) do_none (by rw [show cutD [PyData.str "not", s.d] (some 1) none = [s.d] from rfl]; exact thin_head (Say.notThin s))) rfl)) (L2.blkOk_by (N := n__law_renamed) (sc := defScope s__law_renamed) (by decide +kernel)) nd (fun s H C cl fp => dg_name 4 nd) rfl ?c2
            case c2 => exact .keep rfl rfl bt_nil (fun s2 H C' cl fp => de_call C (hr.mono (by omega)) (da_cons (de_name 0) (da_cons (de_name 1) (da_cons (de_name 4) da_nil))) r1) (.nil _)
      case h2 => rfl
    | and s t =>
      have d1 : s.depth ≤ n ∧ t.depth ≤ n := by
        simp only [Say.depth] at h2
        omega
      have r1 : R_ren n [lettersD i o, lettersD i' o', s.d] (s.ren i o i' o').d := ⟨_, _, _, _, s, rfl, al, t1, t2, h1.1, d1.1, rfl⟩
      have r2 : R_ren n [lettersD i o, lettersD i' o', t.d] (t.ren i o i' o').d := ⟨_, _, _, _, t, rfl, al, t1, t2, h1.2, d1.2, rfl⟩
      refine' by_out ?h1 ?h2
      case h1 =>
        show DSs _ _ [.dat (lettersD i o), .dat (lettersD i' o'), .dat (.tuple [.str "and", s.d, t.d]), .un, .un] _ _
        refine' dss_if (k := false) ?a1 (ife_F0 rfl ?b1)
        case a1 => exact dt_is (dt_cmp op_in_seq (by rfl) (de_ix ix_seq (de_name 2) de_int (rd_ix rfl rfl)) (de_lst (da_cons de_str (da_cons de_str da_nil)) (Nat.le_of_ble_eq_true rfl)) (rd_in rfl rfl rfl)) (by unfold inD; simp only [List.any_cons, eqv_str]; rfl)
        case b1 =>
          refine' dss_ret (ds_ret (de_op op_catA (de_tup (da_cons (de_ix ix_seq (de_name 2) de_int (rd_ix rfl rfl)) da_nil) (Nat.le_of_ble_eq_true rfl)) (de_callTy cr_tupF mt (by decide +kernel) (da_cons (d := .list [(s.ren i o i' o').d, (t.ren i o i' o').d]) ?c1 da_nil) (rc_tuple rfl)) (rd_cat (es := [(s.ren i o i' o').d, (t.ren i o i' o').d]) (Nat.le_of_ble_eq_true rfl) fun _ _ => thin_head (by decide +kernel))))
          case c1 =>
            refine' de_comp [("_law_one", 4)] [4] (di_tup (ds := [s.d, t.d]) (de_is (de_slice (de_name 2) (do_some de_int) do_none (by rw [show cutD [PyData.str "and", s.d, t.d] (some 1) none = [s.d, t.d] from rfl]; exact thin_head (Say.notThin s))) rfl)) (L2.blkOk_by (N := n__law_renamed) (sc := defScope s__law_renamed) (by decide +kernel)) nd (fun s H C cl fp => dg_name 4 nd) rfl ?c2
            case c2 => exact .keep rfl rfl bt_nil (fun s2 H C' cl fp => de_call C (hr.mono (by omega)) (da_cons (de_name 0) (da_cons (de_name 1) (da_cons (de_name 4) da_nil))) r1) (.keep rfl rfl bt_nil (fun s2 H C' cl fp => de_call C (hr.mono (by omega)) (da_cons (de_name 0) (da_cons (de_name 1) (da_cons (de_name 4) da_nil))) r2) (.nil _))
      case h2 => rfl
    | or s t =>
      have d1 : s.depth ≤ n ∧ t.depth ≤ n := by
        simp only [Say.depth] at h2
        omega
      have r1 : R_ren n [lettersD i o, lettersD i' o', s.d] (s.ren i o i' o').d := ⟨_, _, _, _, s, rfl, al, t1, t2, h1.1, d1.1, rfl⟩
      have r2 : R_ren n [lettersD i o, lettersD i' o', t.d] (t.ren i o i' o').d := ⟨_, _, _, _, t, rfl, al, t1, t2, h1.2, d1.2, rfl⟩
      refine' by_out ?h1 ?h2
      case h1 =>
        show DSs _ _ [.dat (lettersD i o), .dat (lettersD i' o'), .dat (.tuple [.str "or", s.d, t.d]), .un, .un] _ _
        refine' dss_if (k := false) ?a1 (ife_F0 rfl ?b1)
        case a1 => exact dt_is (dt_cmp op_in_seq (by rfl) (de_ix ix_seq (de_name 2) de_int (rd_ix rfl rfl)) (de_lst (da_cons de_str (da_cons de_str da_nil)) (Nat.le_of_ble_eq_true rfl)) (rd_in rfl rfl rfl)) (by unfold inD; simp only [List.any_cons, eqv_str]; rfl)
        case b1 =>
          refine' dss_ret (ds_ret (de_op op_catA (de_tup (da_cons (de_ix ix_seq (de_name 2) de_int (rd_ix rfl rfl)) da_nil) (Nat.le_of_ble_eq_true rfl)) (de_callTy cr_tupF mt (by decide +kernel) (da_cons (d := .list [(s.ren i o i' o').d, (t.ren i o i' o').d]) ?c1 da_nil) (rc_tuple rfl)) (rd_cat (es := [(s.ren i o i' o').d, (t.ren i o i' o').d]) (Nat.le_of_ble_eq_true rfl) fun _ _ => thin_head (by decide +kernel))))
          case c1 =>
            refine' de_comp [("_law_one", 4)] [4] (di_tup (ds := [s.d, t.d]) (de_is (de_slice (de_name 2) (do_some de_int) do_none (by rw [show cutD [PyData.str "or", s.d, t.d] (some 1) none = [s.d, t.d] from rfl]; exact thin_head (Say.notThin s))) rfl)) (L2.blkOk_by (N := n__law_renamed) (sc := defScope s__law_renamed) (by decide +kernel)) nd (fun s H C cl fp => dg_name 4 nd) rfl ?c2
            case c2 => exact .keep rfl rfl bt_nil (fun s2 H C' cl fp => de_call C (hr.mono (by omega)) (da_cons (de_name 0) (da_cons (de_name 1) (da_cons (de_name 4) da_nil))) r1) (.keep rfl rfl bt_nil (fun s2 H C' cl fp => de_call C (hr.mono (by omega)) (da_cons (de_name 0) (da_cons (de_name 1) (da_cons (de_name 4) da_nil))) r2) (.nil _))
      case h2 => rfl
end
end
section
/-! F24 -/
/-! ### exchange; a run by other names -/
theorem take_snoc {α β : Type} {l : List α} {z : α} (g : α → β) {j : Nat} (h : j < l.length) : (l.take (j + 1)).map g = (l.take j).map g ++ [g (l.getD j z)] := by
  rw [List.take_add_one, List.getD_eq_getElem?_getD, List.getElem?_eq_getElem h, List.map_append] <;> rfl
section
variable {T : Tb} {P : Program} {w : World} {K : PySem.W.Frag} {mg : Str → Option Value} {base : Heap} {f : Addr} {fd : FuncData}
theorem ok_exch (F : Fun K "_law_exchanged" "_law_exchanged" s__law_exchanged f fd) (gm : mg "_law_exchanged" = some (.ref f)) (mi : mg "int" = none) (mt : mg "tuple" = none) (n : Nat) :
    FnOk P w K mg base CX0 (n + 1) f fd ["_law_saying_here"] (SpD T K (R_exch n)) := by
  have nd := sc__law_exchanged.nd
  induction n with
  | zero =>
    refine fn_pure F sc__law_exchanged (fun ds d ⟨s, e, _⟩ => by rw [e] <;> rfl) fun ds d ⟨s, e, h2, er⟩ cdv A outer s' H E hr => ?_
    cases s <;> simp only [Say.depth] at h2 <;> omega
  | succ n ih =>
    have C : Cal P w K mg base (n + 1) "_law_exchanged" (SpD T K (R_exch n)) := ⟨f, fd, _, gm, F.kp, F.binds fun _ _ _ _ _ _ us hl => match us, hl with | [_], _ => rfl, ih⟩
    refine fn_pure F sc__law_exchanged (fun ds d ⟨s, e, _⟩ => by rw [e] <;> rfl) fun ds d ⟨s, e, h2, er⟩ cdv A outer s' H E hr => ?_
    subst e er
    cases s with
    | inn w =>
      refine' by_out ?h1 ?h2
      case h1 =>
        show DSs _ _ [.dat (.tuple [.str "in", .str w]), .un] _ _
        refine' dss_if (k := true) ?a1 (ife_T rfl ?b1 seq_ret)
        case a1 => exact dt_is (dt_cmp op_in_seq (by rfl) (de_ix ix_seq (de_name 0) de_int (rd_ix rfl rfl)) (de_lst (da_cons de_str (da_cons de_str da_nil)) (Nat.le_of_ble_eq_true rfl)) (rd_in rfl rfl rfl)) (by unfold inD; simp only [List.any_cons, eqv_str]; rfl)
        case b1 => exact dss_ret (ds_ret (de_tup (da_cons (de_ix ix_seq (d2 := .int 1) (de_lst (da_cons de_str (da_cons de_str da_nil)) (Nat.le_of_ble_eq_true rfl)) (de_is (de_callTy L2.call_int1 mi (by decide +kernel) (da_cons (de_cmp L2.op_eq (nomark _) (de_ix ix_seq (de_name 0) de_int (rd_ix rfl rfl)) de_str (rd_eq rfl)) da_nil) rc_intB) (by rw [eqv_str] <;> rfl)) (rd_ix rfl rfl)) (da_cons (de_ix ix_seq (de_name 0) de_int (rd_ix rfl rfl)) da_nil)) (Nat.le_of_ble_eq_true rfl)))
      case h2 => rfl
    | out w =>
      refine' by_out ?h1 ?h2
      case h1 =>
        show DSs _ _ [.dat (.tuple [.str "out", .str w]), .un] _ _
        refine' dss_if (k := true) ?a1 (ife_T rfl ?b1 seq_ret)
        case a1 => exact dt_is (dt_cmp op_in_seq (by rfl) (de_ix ix_seq (de_name 0) de_int (rd_ix rfl rfl)) (de_lst (da_cons de_str (da_cons de_str da_nil)) (Nat.le_of_ble_eq_true rfl)) (rd_in rfl rfl rfl)) (by unfold inD; simp only [List.any_cons, eqv_str]; rfl)
        case b1 => exact dss_ret (ds_ret (de_tup (da_cons (de_ix ix_seq (d2 := .int 0) (de_lst (da_cons de_str (da_cons de_str da_nil)) (Nat.le_of_ble_eq_true rfl)) (de_is (de_callTy L2.call_int1 mi (by decide +kernel) (da_cons (de_cmp L2.op_eq (nomark _) (de_ix ix_seq (de_name 0) de_int (rd_ix rfl rfl)) de_str (rd_eq rfl)) da_nil) rc_intB) (by rw [eqv_str] <;> rfl)) (rd_ix rfl rfl)) (da_cons (de_ix ix_seq (de_name 0) de_int (rd_ix rfl rfl)) da_nil)) (Nat.le_of_ble_eq_true rfl)))
      case h2 => rfl
    | not s =>
      have d1 : s.depth ≤ n := by
        simp only [Say.depth] at h2
        omega
      have r1 : R_exch n [s.d] s.swap.d := ⟨s, rfl, d1, rfl⟩
      refine' by_out ?h1 ?h2
      case h1 =>
        show DSs _ _ [.dat (.tuple [.str "not", s.d]), .un] _ _
        refine' dss_if (k := false) ?a1 (ife_F0 rfl ?b1)
        case a1 => exact dt_is (dt_cmp op_in_seq (by rfl) (de_ix ix_seq (de_name 0) de_int (rd_ix rfl rfl)) (de_lst (da_cons de_str (da_cons de_str da_nil)) (Nat.le_of_ble_eq_true rfl)) (rd_in rfl rfl rfl)) (by unfold inD; simp only [List.any_cons, eqv_str]; rfl)
        case b1 =>
          refine' dss_ret (ds_ret (de_op op_catA (de_tup (da_cons (de_ix ix_seq (de_name 0) de_int (rd_ix rfl rfl)) da_nil) (Nat.le_of_ble_eq_true rfl)) (de_callTy cr_tupF mt (by decide +kernel) (da_cons (d := .list [s.swap.d]) ?c1 da_nil) (rc_tuple rfl)) (rd_cat (es := [s.swap.d]) (Nat.le_of_ble_eq_true rfl) fun _ _ => thin_head (by decide +kernel))))
          case c1 =>
            refine' de_comp [("_law_one", 1)] [1] (di_tup (ds := [s.d]) (de_is (de_slice (de_name 0) (do_some de_int) do_none (by rw [show cutD [PyData.str "not", s.d] (some 1) none = [s.d] from rfl]; exact thin_head (Say.notThin s))) rfl)) (L2.blkOk_by (N := n__law_exchanged) (sc := defScope s__law_exchanged) (by decide +kernel)) nd (fun s H C cl fp => dg_name 1 nd) rfl ?c2
            case c2 => exact .keep rfl rfl bt_nil (fun s2 H C' cl fp => de_call C (hr.mono (by omega)) (da_cons (de_name 1) da_nil) r1) (.nil _)
      case h2 => rfl
    | and s t =>
      have d1 : s.depth ≤ n ∧ t.depth ≤ n := by
        simp only [Say.depth] at h2
        omega
      have r1 : R_exch n [s.d] s.swap.d := ⟨s, rfl, d1.1, rfl⟩
      have r2 : R_exch n [t.d] t.swap.d := ⟨t, rfl, d1.2, rfl⟩
      refine' by_out ?h1 ?h2
      case h1 =>
        show DSs _ _ [.dat (.tuple [.str "and", s.d, t.d]), .un] _ _
        refine' dss_if (k := false) ?a1 (ife_F0 rfl ?b1)
        case a1 => exact dt_is (dt_cmp op_in_seq (by rfl) (de_ix ix_seq (de_name 0) de_int (rd_ix rfl rfl)) (de_lst (da_cons de_str (da_cons de_str da_nil)) (Nat.le_of_ble_eq_true rfl)) (rd_in rfl rfl rfl)) (by unfold inD; simp only [List.any_cons, eqv_str]; rfl)
        case b1 =>
          refine' dss_ret (ds_ret (de_op op_catA (de_tup (da_cons (de_ix ix_seq (de_name 0) de_int (rd_ix rfl rfl)) da_nil) (Nat.le_of_ble_eq_true rfl)) (de_callTy cr_tupF mt (by decide +kernel) (da_cons (d := .list [s.swap.d, t.swap.d]) ?c1 da_nil) (rc_tuple rfl)) (rd_cat (es := [s.swap.d, t.swap.d]) (Nat.le_of_ble_eq_true rfl) fun _ _ => thin_head (by decide +kernel))))
          case c1 =>
            refine' de_comp [("_law_one", 1)] [1] (di_tup (ds := [s.d, t.d]) (de_is (de_slice (de_name 0) (do_some de_int) do_none (by rw [show cutD [PyData.str "and", s.d, t.d] (some 1) none = [s.d, t.d] from rfl]; exact thin_head (Say.notThin s))) rfl)) (L2.blkOk_by (N := n__law_exchanged) (sc := defScope s__law_exchanged) (by decide +kernel)) nd (fun s H C cl fp => dg_name 1 nd) rfl ?c2
            case c2 => exact .keep rfl rfl bt_nil (fun s2 H C' cl fp => de_call C (hr.mono (by omega)) (da_cons (de_name 1) da_nil) r1) (.keep rfl rfl bt_nil (fun s2 H C' cl fp => de_call C (hr.mono (by omega)) (da_cons (de_name 1) da_nil) r2) (.nil _))
      case h2 => rfl
    | or s t =>
      have d1 : s.depth ≤ n ∧ t.depth ≤ n := by
        simp only [Say.depth] at h2
        omega
      have r1 : R_exch n [s.d] s.swap.d := ⟨s, rfl, d1.1, rfl⟩
      have r2 : R_exch n [t.d] t.swap.d := ⟨t, rfl, d1.2, rfl⟩
      refine' by_out ?h1 ?h2
      case h1 =>
        show DSs _ _ [.dat (.tuple [.str "or", s.d, t.d]), .un] _ _
        refine' dss_if (k := false) ?a1 (ife_F0 rfl ?b1)
        case a1 => exact dt_is (dt_cmp op_in_seq (by rfl) (de_ix ix_seq (de_name 0) de_int (rd_ix rfl rfl)) (de_lst (da_cons de_str (da_cons de_str da_nil)) (Nat.le_of_ble_eq_true rfl)) (rd_in rfl rfl rfl)) (by unfold inD; simp only [List.any_cons, eqv_str]; rfl)
        case b1 =>
          refine' dss_ret (ds_ret (de_op op_catA (de_tup (da_cons (de_ix ix_seq (de_name 0) de_int (rd_ix rfl rfl)) da_nil) (Nat.le_of_ble_eq_true rfl)) (de_callTy cr_tupF mt (by decide +kernel) (da_cons (d := .list [s.swap.d, t.swap.d]) ?c1 da_nil) (rc_tuple rfl)) (rd_cat (es := [s.swap.d, t.swap.d]) (Nat.le_of_ble_eq_true rfl) fun _ _ => thin_head (by decide +kernel))))
          case c1 =>
            refine' de_comp [("_law_one", 1)] [1] (di_tup (ds := [s.d, t.d]) (de_is (de_slice (de_name 0) (do_some de_int) do_none (by rw [show cutD [PyData.str "or", s.d, t.d] (some 1) none = [s.d, t.d] from rfl]; exact thin_head (Say.notThin s))) rfl)) (L2.blkOk_by (N := n__law_exchanged) (sc := defScope s__law_exchanged) (by decide +kernel)) nd (fun s H C cl fp => dg_name 1 nd) rfl ?c2
            case c2 => exact .keep rfl rfl bt_nil (fun s2 H C' cl fp => de_call C (hr.mono (by omega)) (da_cons (de_name 1) da_nil) r1) (.keep rfl rfl bt_nil (fun s2 H C' cl fp => de_call C (hr.mono (by omega)) (da_cons (de_name 1) da_nil) r2) (.nil _))
      case h2 => rfl
theorem ok_run_ren (F : Fun K "_law_run_renamed" "_law_run_renamed" s__law_run_renamed f fd) (hK : TupK K) (mt : mg "tuple" = none) : FnOk P w K mg base CX0 1 f fd ["_law_letters_here", "_law_other", "_law_run_here"] (SpD T K R_run_ren) := by
  have nd := sc__law_run_renamed.nd
  refine fn_pure F sc__law_run_renamed (fun ds d ⟨i, o, i', o', bs, e, _⟩ => by rw [e] <;> rfl) fun ds d ⟨i, o, i', o', bs, e, al, t1, t2, h1, h2, er⟩ cdv A outer s' H E hr => ?_
  subst e er
  refine' by_out ?h1 ?h2
  case h1 =>
    show DSs _ _ [.dat (.tuple [wordsD i, wordsD o]), .dat (.tuple [wordsD i', wordsD o']), .dat (.tuple (bs.map beatD)), .un, .un, .un] _ _
    refine' dss_cons (ds_setO 3 (do1_lst (ds := []) da_nil (by decide)) nd) ?b1
    case b1 =>
      show DSs _ _ [.dat (.tuple [wordsD i, wordsD o]), .dat (.tuple [wordsD i', wordsD o']), .dat (.tuple (bs.map beatD)), .lst none [], .un, .un] _ _
      refine' dss_cons (ds_for (ks := [4]) (o := .nx [.dat (.tuple [wordsD i, wordsD o]), .dat (.tuple [wordsD i', wordsD o']), .dat (.tuple (bs.map beatD)), .lst none (bs.map fun b => beatD (renB i o i' o' b)), .un, .un]) (di_tup (ds := bs.map beatD) (de_name 2)) (dg_name 4 nd) ?l1) ?b2
      case l1 =>
        refine' loopR_to (fun j => [.dat (.tuple [wordsD i, wordsD o]), .dat (.tuple [wordsD i', wordsD o']), .dat (.tuple (bs.map beatD)), .lst none ((bs.take j).map fun b => beatD (renB i o i' o' b)), .un, .un]) (fun j => beatD (bs.getD j ("", ""))) bs.length ?g1 rfl ?z1 (map_range bs ("", "") beatD)
        case z1 => rw [List.take_length]
        case g1 =>
          intro j hj
          refine ⟨_, rfl, ?_⟩
          have hb : BeatIn i o (bs.getD j ("", "")) := h1 _ (getD_mem hj)
          have hl : (bs.take j).length ≤ bs.length := by
            rw [List.length_take]
            exact Nat.min_le_right _ _
          rw [take_snoc (z := (("", "") : Bt)) (fun b => beatD (renB i o i' o' b)) hj]
          generalize bs.getD j ("", "") = b at hb
          generalize bs.take j = q at hl
          obtain ⟨b1, b2⟩ := b
          show DSs _ _ [.dat (.tuple [wordsD i, wordsD o]), .dat (.tuple [wordsD i', wordsD o']), .dat (.tuple (bs.map beatD)), .lst none (q.map fun b => beatD (renB i o i' o' b)), .dat (.tuple [.str b1, .str b2]), .un] _ _
          refine' dss_is (dss_fgt 4 (dss_cons (ds_app (Rn.of 3) rfl (d := beatD (renB i o i' o' (b1, b2))) ?c1 ?r1 ?l2) dss_nil)) ?e2
          case c1 =>
            refine' de_callTy cr_tupF mt (by decide +kernel) (da_cons (d := .list [.str (ren i i' b1), .str (ren o o' b2)]) ?c2 da_nil) (rc_tuple rfl)
            case c2 =>
              refine' de_comp [("_law_side", 5)] [5] (di_tup (ds := [.int 0, .int 1]) (de_tup (da_cons de_int (da_cons de_int da_nil)) (Nat.le_of_ble_eq_true rfl))) (L2.blkOk_by (N := n__law_run_renamed) (sc := defScope s__law_run_renamed) (by decide +kernel)) nd (fun s H C cl fp => dg_name 5 nd) rfl ?c3
              case c3 =>
                refine' .keep rfl rfl bt_nil (fun s2 H C' cl fp => de_ix ix_seq (de_ix ix_seq (de_name 1) (de_name 5) (rd_ix rfl rfl)) (de_tupIx hK t1 hb.1 (de_ix ix_seq (de_name 0) (de_name 5) (rd_ix rfl rfl)) (de_ix ix_seq (de_name 4) (de_name 5) (rd_ix rfl rfl))) (rd_ix rfl (ren_at al.li hb.1))) (.keep rfl rfl bt_nil (fun s2 H C' cl fp => de_ix ix_seq (de_ix ix_seq (de_name 1) (de_name 5) (rd_ix rfl rfl)) (de_tupIx hK t2 hb.2 (de_ix ix_seq (de_name 0) (de_name 5) (rd_ix rfl rfl)) (de_ix ix_seq (de_name 4) (de_name 5) (rd_ix rfl rfl))) (rd_ix rfl (ren_at al.lo hb.2))) (.nil _))
          case r1 => rfl
          case l2 =>
            rw [List.length_map]
            omega
          case e2 => rfl
      case b2 =>
        exact dss_thaw 3 rfl (dss_ret (ds_ret (de_callTy cr_tupF mt (by decide +kernel) (da_cons (de_name 3) da_nil) (rc_tuple rfl))))
  case h2 =>
    show _ = PyData.tuple ((bs.map (renB i o i' o')).map beatD)
    rw [List.map_map] <;> rfl
end
end
section
/-! P2 -/
/-! ### the law's alphabets and the other names -/
def wordB (w : Str) : Bool := decide (1 ≤ w.length) && (decide (w.length ≤ 8) && w.cps.toList.all fun c => small.cps.toList.contains c)
theorem word_of {w : Str} (h : wordB w = true) : Word w := by
  unfold wordB at h
  rw [Bool.and_eq_true, Bool.and_eq_true] at h
  refine ⟨of_decide_eq_true h.1, of_decide_eq_true h.2.1, fun c hc => ?_⟩
  have := List.all_eq_true.mp h.2.2 c hc
  exact List.contains_iff_mem.mp this
def wordsB (ws : List Str) : Bool := decide (1 ≤ ws.length) && (decide (ws.length ≤ 3) && (decide ws.Nodup && ws.all wordB))
theorem words_of {ws : List Str} (h : wordsB ws = true) : Words ws := by
  unfold wordsB at h
  rw [Bool.and_eq_true, Bool.and_eq_true, Bool.and_eq_true] at h
  exact ⟨of_decide_eq_true h.1, of_decide_eq_true h.2.1, of_decide_eq_true h.2.2.1, fun w hw => word_of (List.all_eq_true.mp h.2.2.2 w hw)⟩
def thinB (ws : List Str) : Bool := thinD (ws.map PyData.str)
def NEW : List Str := ["i", "j", "kk"]
def NEW2 : List Str := ["j", "o", "pp"]
theorem five {l : List (List Str)} {q : List Str → Bool} (hl : l.length = 5) (h : l.all q = true) {k : Nat} (hk : k < 5) : q (l.getD k []) = true :=
  List.all_eq_true.mp h _ (getD_mem (by omega))
theorem ins_words (s : Ls) : Words (insOf s) := words_of (five (q := wordsB) rfl (by decide +kernel) (pick_lt (by decide) s))
theorem ins_thin (s : Ls) : Thin (insOf s) := five (q := thinB) rfl (by decide +kernel) (pick_lt (by decide) s)
theorem outs_words (s : Ls) : Words (outsOf s) := words_of (five (q := wordsB) rfl (by decide +kernel) (pick_lt (by decide) _))
theorem outs_thin (s : Ls) : Thin (outsOf s) := five (q := thinB) rfl (by decide +kernel) (pick_lt (by decide) _)
theorem three {q : Nat → Bool} (h1 : q 1 = true) (h2 : q 2 = true) (h3 : q 3 = true) {n : Nat} (a : 1 ≤ n) (b : n ≤ 3) : q n = true := by
  match n, a, b with
  | 1, _, _ => exact h1
  | 2, _, _ => exact h2
  | 3, _, _ => exact h3
theorem new_words {n : Nat} (a : 1 ≤ n) (b : n ≤ 3) : Words (NEW.take n) := words_of (three (q := fun n => wordsB (NEW.take n)) (by decide +kernel) (by decide +kernel) (by decide +kernel) a b)
theorem new2_words {n : Nat} (a : 1 ≤ n) (b : n ≤ 3) : Words (NEW2.take n) := words_of (three (q := fun n => wordsB (NEW2.take n)) (by decide +kernel) (by decide +kernel) (by decide +kernel) a b)
theorem new_alike {i o : List Str} (wi : Words i) (wo : Words o) : Alike i o (NEW.take i.length) (NEW2.take o.length) := by
  have i2 := wi.hi
  have o2 := wo.hi
  refine ⟨wi, wo, new_words wi.lo wi.hi, new2_words wo.lo wo.hi, ?_, ?_⟩
  · rw [List.length_take]
    exact (Nat.min_eq_left i2).symm
  · rw [List.length_take]
    exact (Nat.min_eq_left o2).symm
theorem cut_new {n : Nat} (a : 1 ≤ n) (b : n ≤ 3) : cutD (NEW.map PyData.str) none (some (n : Int)) = (NEW.take n).map PyData.str ∧ thinD (cutD (NEW.map PyData.str) none (some (n : Int))) = false := by
  match n, a, b with
  | 1, _, _ => exact ⟨rfl, by decide +kernel⟩
  | 2, _, _ => exact ⟨rfl, by decide +kernel⟩
  | 3, _, _ => exact ⟨rfl, by decide +kernel⟩
theorem cut_new2 {n : Nat} (a : 1 ≤ n) (b : n ≤ 3) : cutD (NEW2.map PyData.str) none (some (n : Int)) = (NEW2.take n).map PyData.str ∧ thinD (cutD (NEW2.map PyData.str) none (some (n : Int))) = false := by
  match n, a, b with
  | 1, _, _ => exact ⟨rfl, by decide +kernel⟩
  | 2, _, _ => exact ⟨rfl, by decide +kernel⟩
  | 3, _, _ => exact ⟨rfl, by decide +kernel⟩
/-! ### data that is told -/
theorem lay_all {α : Type} (g : α → PyData) : ∀ {l : List α}, (∀ x ∈ l, (g x).canLay0 = true) → PyData.canLayAll0 (l.map g) = true
  | [], _ => by simp [PyData.canLayAll0]
  | x :: l, h => by
    rw [List.map_cons]
    simp only [PyData.canLayAll0, h x List.mem_cons_self, lay_all g (l := l) (fun y hy => h y (List.mem_cons_of_mem _ hy)), Bool.and_self]
theorem deep_all {α : Type} (g : α → PyData) (n : Nat) : ∀ {l : List α}, (∀ x ∈ l, (g x).depth + 1 ≤ n) → PyData.depthAll (l.map g) ≤ n
  | [], _ => by simp [PyData.depthAll]
  | x :: l, h => by
    have h1 := h x List.mem_cons_self
    have h2 := deep_all g n (l := l) fun y hy => h y (List.mem_cons_of_mem _ hy)
    rw [List.map_cons]
    simp only [PyData.depthAll]
    omega
theorem opt_lay (b : Option Nat) : (optD b).canLay0 = true := by cases b <;> simp [optD, PyData.canLay0]
theorem opt_deep (b : Option Nat) : (optD b).depth = 0 := by cases b <;> simp [optD, PyData.depth]
theorem tab_lay (rs : List Row) : (tabT rs).canLay0 = true := by
  unfold tabT
  simp only [PyData.canLay0]
  exact lay_all _ fun r _ => by
    unfold rowT
    simp only [PyData.canLay0]
    exact lay_all _ fun b _ => opt_lay b
theorem tab_deep (rs : List Row) : (tabT rs).depth ≤ 4 := by
  unfold tabT
  have h : ∀ r ∈ rs, (rowT r).depth + 1 ≤ 3 := fun r _ => by
    unfold rowT
    have := deep_all optD 1 (l := r) fun b _ => by rw [opt_deep b]; exact Nat.le_refl _
    simp only [PyData.depth]
    omega
  have := deep_all rowT 3 (l := rs) h
  simp only [PyData.depth]
  omega
theorem tab_shaped (rs : List Row) : SeqAt.shaped (tabT rs) = true := by
  unfold SeqAt.shaped
  rw [tab_lay, Bool.true_and]
  exact decide_eq_true (Nat.le_trans (tab_deep rs) (by decide))
theorem tabs_shaped (ws : List (List Row)) : SeqAt.shaped (.list (ws.map tabT)) = true := by
  unfold SeqAt.shaped
  rw [Bool.and_eq_true]
  refine ⟨?_, decide_eq_true ?_⟩
  · simp only [PyData.canLay0]
    exact lay_all _ fun r _ => tab_lay r
  · have := deep_all tabT 5 (l := ws) fun r _ => by have := tab_deep r; omega
    simp only [PyData.depth]
    omega
theorem beat_lay {i o : List Str} (wi : Words i) (wo : Words o) {b : Bt} (h : BeatIn i o b) : (beatD b).canLay0 = true := by
  unfold beatD
  simp only [PyData.canLay0, PyData.canLayAll0, (wi.ok _ h.1).strOk, (wo.ok _ h.2).strOk, Bool.and_self]
theorem beat_deep (b : Bt) : (beatD b).depth ≤ 1 := by
  unfold beatD
  simp [PyData.depth, PyData.depthAll]
theorem run_shaped {i o : List Str} (wi : Words i) (wo : Words o) {bs : List Bt} (h : ∀ b ∈ bs, BeatIn i o b) : SeqAt.shaped (runD bs) = true := by
  unfold SeqAt.shaped runD
  rw [Bool.and_eq_true]
  refine ⟨?_, decide_eq_true ?_⟩
  · simp only [PyData.canLay0]
    exact lay_all _ fun b hb => beat_lay wi wo (h b hb)
  · have := deep_all beatD 2 (l := bs) fun b _ => by have := beat_deep b; omega
    simp only [PyData.depth]
    omega
theorem same_eqv {d : PyData} (h : SeqAt.shaped d = true) : PyData.eqv d d = true := SeqAt.eqv_refl d (SeqAt.canLay_of_shaped h)
/-! ### the way is short -/
theorem lap_len {A B : List Row} {p : Pr} {w v : List Nat} {l : Found} {j : Nat} (e : lap A B p w l j = .out v) : v.length = w.length + 1 := by
  unfold lap at e
  split at e
  · cases e
  · split at e <;> cases e
  · cases e
    rw [List.length_append] <;> rfl
theorem laps_len {A B : List Row} {p : Pr} {w v : List Nat} : ∀ {n i : Nat} {l : Found}, laps A B p w n i l = .out v → v.length = w.length + 1
  | 0, _, _, h => by cases h
  | n + 1, i, l, h => by
    unfold laps at h
    cases e : lap A B p w l i with
    | go l' =>
      rw [e] at h
      exact laps_len h
    | out u =>
      rw [e] at h
      cases h
      exact lap_len e
theorem partF_len {m a b : Nat} {A B : List Row} (wA : Wf a m A) (wB : Wf b m B) : ∀ {n i : Nat} {l : Found} {v : List Nat}, Fine A B l → partF A B m n i l = some v → v.length ≤ A.length * B.length
  | 0, _, _, _, _, h => by cases h
  | n + 1, i, l, v, hf, h => by
    unfold partF at h
    cases e : l[i]? with
    | none =>
      rw [e] at h
      cases h
    | some x =>
      obtain ⟨p, w⟩ := x
      rw [e] at h
      cases q : laps A B p w m 0 l with
      | go l' =>
        simp only [q] at h
        exact partF_len wA wB (laps_fine wA wB hf e q).1 h
      | out u =>
        simp only [q] at h
        cases h
        have h1 := laps_len q
        have h2 : w.length ≤ i := hf.ways i (p, w) e
        have h3 := (List.getElem?_eq_some_iff.mp e).1
        have h4 := hf.len
        omega
theorem partRun_len {i o : List Str} {s t : Sen} (hs : SenOk i o s) (ht : SenOk i o t) {r : List Bt} (h : partRun i o s t = some r) : r.length ≤ 49 := by
  obtain ⟨nA, a1, a2, wA⟩ := watcher_wf (i := i) (o := o) (q := 0) hs.hi
  obtain ⟨nB, b1, b2, wB⟩ := watcher_wf (i := i) (o := o) (q := 0) ht.hi
  unfold partRun at h
  cases e : partOf (watcherOf i o s) (watcherOf i o t) (beatsOf i o).length with
  | none =>
    rw [e] at h
    cases h
  | some w =>
    rw [e] at h
    cases h
    have h1 : w.length ≤ (watcherOf i o s).length * (watcherOf i o t).length := partF_len wA wB (Fine.begin (by rw [wA.len]; exact a1) (by rw [wB.len]; exact b1)) e
    rw [wA.len, wB.len] at h1
    unfold runOf
    rw [List.length_map]
    exact Nat.le_trans h1 (Nat.mul_le_mul a2 b2)
end
section
/-! F25 -/
/-! ### the law: the parts of a lap -/
theorem dss_fgts {T : Tb} {X : Cx} {Γ Γ1 : Ga} {body : List Stmt} : ∀ (ks : List Nat) {Γ1 : Ga}, DSs T X Γ body (.nx Γ1) → DSs T X Γ body (.nx (ks.foldl (fun G k => G.set k .un) Γ1))
  | [], _, h => h
  | k :: ks, _, h => dss_fgts (Γ1 := Γ1) ks (dss_fgt k h)
theorem compR_filt {T : Tb} {X : Cx} {scope : Scope} {vs : List Nat} {k1 : Nat} {ifs : List Expr} {elt : Expr} {Γ : Ga} (hk : [k1].all vs.contains = true) (ho : noOwn vs Γ = true) : ∀ {as bs : List PyData},
    (∀ d ∈ as, BT T X scope (setG (wipeG vs 0 Γ) [k1] [d]) ifs true ∧ BE T X scope (setG (wipeG vs 0 Γ) [k1] [d]) elt (setG (wipeG vs 0 Γ) [k1] [d]) d) → (∀ d ∈ bs, BT T X scope (setG (wipeG vs 0 Γ) [k1] [d]) ifs false) → CompR T X scope vs [k1] ifs elt (as ++ bs) Γ as Γ
  | [], [], _, _ => .nil Γ
  | [], b :: bs, h1, h2 => .skip rfl ho (h2 b List.mem_cons_self) (compR_filt hk ho (as := []) (bs := bs) h1 fun d hd => h2 d (List.mem_cons_of_mem _ hd))
  | a :: as, bs, h1, h2 => by
    refine .keep rfl ho (h1 a List.mem_cons_self).1 (h1 a List.mem_cons_self).2 ?_
    rw [restG_self vs [k1] hk]
    exact compR_filt hk ho (fun d hd => h1 d (List.mem_cons_of_mem _ hd)) h2
def forB : Stmt → List Stmt
  | .For _ _ b _ _ => b
  | _ => []
abbrev lawLap : List Stmt := forB ((defBody s_law).getD 0 (.Pass ⟨0, 0, 0, 0⟩))
abbrev lawOne : List Stmt := forB (lawLap.getD 5 (.Pass ⟨0, 0, 0, 0⟩))
abbrev lawSix : List Stmt := forB (lawLap.getD 11 (.Pass ⟨0, 0, 0, 0⟩))
abbrev lawZip : List Stmt := forB (lawSix.getD 2 (.Pass ⟨0, 0, 0, 0⟩))
/-- what the law calls -/
structure Cals (T : Tb) (P : Program) (w : World) (K : PySem.W.Frag) (mg : Str → Option Value) (base : Heap) : Prop where
  state : Cal P w K mg base 3 "_law_state" (SpN T K R_state)
  letters : Cal P w K mg base 3 "_law_letters" (SpM T K R_letters)
  sen : Cal P w K mg base 5 "_law_sentence" (SpM T K R_sen)
  ren : Cal P w K mg base 5 "_law_renamed" (SpD T K (R_ren 4))
  exch : Cal P w K mg base 5 "_law_exchanged" (SpD T K (R_exch 4))
  run : Cal P w K mg base 3 "_law_run" (SpM T K R_run)
  runren : Cal P w K mg base 2 "_law_run_renamed" (SpD T K R_run_ren)
  watcher : Cal P w K mg base 12 "watcher" (SpD T K R_watcher)
  together : Cal P w K mg base 12 "together" (SpD T K R_together)
  parting : Cal P w K mg base 12 "parting" (SpD T K R_parting)
  broken : Cal P w K mg base 10 "broken_at" (SpD T K R_broken)
  ml : mg "len" = none
  mr : mg "range" = none
  mx : mg "max" = none
  mn : mg "min" = none
  mI : mg "isinstance" = none
  mt : mg "tuple" = none
  mz : mg "zip" = none
abbrev LX (P : Program) (w : World) (K : PySem.W.Frag) (mg : Str → Option Value) (base : Heap) (f : Addr) (cdv : Value) (A : Around) (outer : List Env) (s : Shared) (H : Hp) (E : XK) : Cx := (cxOf CX0 P w K mg base n_law "law" (defScope s_law) f cdv A outer s H E).nox
theorem kinds_thin : ∀ k ∈ ["never", "after", "until", "within", "first", "most", "apart"], lw.contains (Str.ofString k) = false := by decide +kernel
theorem Sen.kindThin (s : Sen) : lw.contains s.kind = false := by
  cases s <;> exact kinds_thin _ (by simp)
theorem Sen.few (s : Sen) : s.says.length ≤ 3 ∧ s.nums.length ≤ 1 := by
  cases s <;> simp [Sen.says, Sen.nums]
theorem thin_tl (s : Sen) : thinD s.tl = false := by
  cases s <;> exact thin_head (Say.notThin _)
theorem cut_tl (s : Sen) : cutD (.str s.kind :: s.tl) (some 1) none = s.tl := by
  cases s <;> rfl
theorem cut_kind (s : Sen) : cutD (.str s.kind :: s.tl) none (some 1) = [.str s.kind] := by
  cases s <;> rfl
theorem map_d (f : Say → Say) (s : Sen) : (s.map f).d = .tuple (([.str s.kind] ++ s.says.map fun p => (f p).d) ++ natsD s.nums) := by
  cases s <;> rfl
theorem isTup : ∀ p : Say, kitB (tyD p.d) "tuple" = some true
  | .inn _ => (by decide +kernel : kitB "tuple" "tuple" = some true)
  | .out _ => (by decide +kernel : kitB "tuple" "tuple" = some true)
  | .not _ => (by decide +kernel : kitB "tuple" "tuple" = some true)
  | .and _ _ => (by decide +kernel : kitB "tuple" "tuple" = some true)
  | .or _ _ => (by decide +kernel : kitB "tuple" "tuple" = some true)
section
variable {T : Tb} {P : Program} {w : World} {K : PySem.W.Frag} {mg : Str → Option Value} {base : Heap} {f : Addr} {fd : FuncData} {cdv : Value} {A : Around} {outer : List Env} {s' : Shared} {H : Hp} {E : XK}
theorem one_lap (c : Cals T P w K mg base) (hr : Room 12 (LX P w K mg base f cdv A outer s' H E).A) {i o i' o' : List Str} {a0 a1 a2 a5 : Sl} {nm sw : List PyData} {x : Sen} (al : Alike i o i' o') (t1 : Thin i) (t2 : Thin o) (hx : SenOk i o x) (hn : nm.length ≤ 9) (hs : sw.length ≤ 9) :
    DSs T (LX P w K mg base f cdv A outer s' H E) [a0, a1, a2, .dat (lettersD i o), .dat (lettersD i' o'), a5, .lst none nm, .lst none sw, .dat (x.d), .un, .un, .un, .un, .un, .un, .un, .un, .un, .un, .un, .un] lawOne (.nx [a0, a1, a2, .dat (lettersD i o), .dat (lettersD i' o'), a5, .lst none (nm ++ [(x.map (Say.ren i o i' o')).d]), .lst none (sw ++ [(x.map Say.swap).d]), .un, .un, .un, .un, .un, .un, .un, .un, .un, .un, .un, .un, .un]) := by
  have nd := sc_law.nd
  have fw := x.few
  have kt : thD (.str x.kind) = false := x.kindThin
  rw [Sen.d_eq x, map_d, map_d]
  refine' dss_is (dss_fgts (Γ1 := []) [8, 9, 10] ?m) ?e
  case m =>
    refine' dss_cons (ds_setLc (ds := x.tl) (rs := x.says.map Say.d) 9 [("_law_part", 19)] [19] (di_tup (de_is (de_slice (de_name 8) (do_some de_int) do_none (by rw [cut_tl]; exact thin_tl x)) (by rw [cut_tl]))) (L2.blkOk_by (N := n_law) (sc := defScope s_law) (by decide +kernel)) nd (fun s H C cl fp => dg_name 19 nd) rfl ?c1 rfl) ?b1
    case c1 =>
      refine' compR_filt rfl rfl (fun d hd => ?_) fun d hd => ?_
      · obtain ⟨p, hp, rfl⟩ := List.mem_map.mp hd
        refine ⟨bt_one fun s H C cl fp => dt_val (de_isi_tuple c.mI c.mt (de_name 19) (isTup p)), fun s H C cl fp => de_name 19⟩
      · obtain ⟨n, hn, rfl⟩ := List.mem_map.mp hd
        exact bt_one fun s H C cl fp => dt_val (de_isi_tuple (d := .int (n : Int)) c.mI c.mt (de_name 19) (by decide +kernel : kitB "int" "tuple" = some false))
    case b1 =>
      show DSs _ _ [a0, a1, a2, .dat (lettersD i o), .dat (lettersD i' o'), a5, .lst none nm, .lst none sw, .dat (.tuple (.str x.kind :: x.tl)), .dat (.list (x.says.map Say.d)), .un, .un, .un, .un, .un, .un, .un, .un, .un, .un, .un] _ _
      refine' dss_cons (ds_set 10 (d := .tuple (natsD x.nums)) (de_is (de_slice (de_name 8) (do_some (de_is (d' := .int (1 + (x.says.length : Int))) (de_op op_add de_int (de_callB L2.call_len c.ml (by decide +kernel) (da_cons (de_name 9) da_nil) (rc_len rfl)) (rd_I0 (vd_int _))) (by rw [List.length_map]))) do_none (by rw [cut_nums]; exact thin_nums x)) (by rw [cut_nums])) nd) ?b2
      case b2 =>
        show DSs _ _ [a0, a1, a2, .dat (lettersD i o), .dat (lettersD i' o'), a5, .lst none nm, .lst none sw, .dat (.tuple (.str x.kind :: x.tl)), .dat (.list (x.says.map Say.d)), .dat (.tuple (natsD x.nums)), .un, .un, .un, .un, .un, .un, .un, .un, .un, .un] _ _
        refine' dss_cons (ds_app (Rn.of 6) rfl (de_op op_catA (de_op op_catA (de_is (d' := .tuple [.str x.kind]) (de_slice (de_name 8) do_none (do_some de_int) (by rw [cut_kind]; exact thin_head kt)) (by rw [cut_kind])) (de_callTy cr_tupF c.mt (by decide +kernel) (da_cons (d := .list (x.says.map fun p => (p.ren i o i' o').d)) (Γ1 := [a0, a1, a2, .dat (lettersD i o), .dat (lettersD i' o'), a5, .lst none nm, .lst none sw, .dat (.tuple (.str x.kind :: x.tl)), .dat (.list (x.says.map Say.d)), .dat (.tuple (natsD x.nums)), .un, .un, .un, .un, .un, .un, .un, .un, .un, .un]) ?c3 da_nil) (rc_tuple rfl)) (rd_cat ?l1 fun _ _ => thin_head kt)) (de_name 10) (rd_cat ?l2 fun _ _ => thin_head kt)) rfl (by omega)) ?b3
        case c3 =>
          refine' de_comp [("_law_part", 19)] [19] (di_list (ds := x.says.map Say.d) (de_name 9)) (L2.blkOk_by (N := n_law) (sc := defScope s_law) (by decide +kernel)) nd (fun s H C cl fp => dg_name 19 nd) rfl ?c4
          case c4 => exact compR_mapL Say.d (fun p => (p.ren i o i' o').d) rfl rfl fun p hp => ⟨_, rfl, fun s H C cl fp => de_call c.ren (hr.mono (by omega)) (da_cons (de_name 3) (da_cons (de_name 4) (da_cons (de_name 19) da_nil))) ⟨_, _, _, _, p, rfl, al, t1, t2, hx.ok p hp, hx.low p hp, rfl⟩⟩
        case l1 =>
          rw [List.length_map]
          show 1 + x.says.length ≤ 100000
          omega
        case l2 =>
          unfold natsD
          rw [List.length_append, List.length_map, List.length_map]
          show 1 + x.says.length + x.nums.length ≤ 100000
          omega
        case b3 =>
          show DSs _ _ [a0, a1, a2, .dat (lettersD i o), .dat (lettersD i' o'), a5, .lst none (nm ++ [.tuple (([.str x.kind] ++ x.says.map fun p => (p.ren i o i' o').d) ++ natsD x.nums)]), .lst none sw, .dat (.tuple (.str x.kind :: x.tl)), .dat (.list (x.says.map Say.d)), .dat (.tuple (natsD x.nums)), .un, .un, .un, .un, .un, .un, .un, .un, .un, .un] _ _
          refine' dss_cons (ds_app (Rn.of 7) rfl (de_op op_catA (de_op op_catA (de_is (d' := .tuple [.str x.kind]) (de_slice (de_name 8) do_none (do_some de_int) (by rw [cut_kind]; exact thin_head kt)) (by rw [cut_kind])) (de_callTy cr_tupF c.mt (by decide +kernel) (da_cons (d := .list (x.says.map fun p => p.swap.d)) (Γ1 := [a0, a1, a2, .dat (lettersD i o), .dat (lettersD i' o'), a5, .lst none (nm ++ [.tuple (([.str x.kind] ++ x.says.map fun p => (p.ren i o i' o').d) ++ natsD x.nums)]), .lst none sw, .dat (.tuple (.str x.kind :: x.tl)), .dat (.list (x.says.map Say.d)), .dat (.tuple (natsD x.nums)), .un, .un, .un, .un, .un, .un, .un, .un, .un, .un]) ?c5 da_nil) (rc_tuple rfl)) (rd_cat ?l3 fun _ _ => thin_head kt)) (de_name 10) (rd_cat ?l4 fun _ _ => thin_head kt)) rfl (by omega)) dss_nil
          case c5 =>
            refine' de_comp [("_law_part", 19)] [19] (di_list (ds := x.says.map Say.d) (de_name 9)) (L2.blkOk_by (N := n_law) (sc := defScope s_law) (by decide +kernel)) nd (fun s H C cl fp => dg_name 19 nd) rfl ?c6
            case c6 => exact compR_mapL Say.d (fun p => p.swap.d) rfl rfl fun p hp => ⟨_, rfl, fun s H C cl fp => de_call c.exch (hr.mono (by omega)) (da_cons (de_name 19) da_nil) ⟨p, rfl, hx.low p hp, rfl⟩⟩
          case l3 =>
            rw [List.length_map]
            show 1 + x.says.length ≤ 100000
            omega
          case l4 =>
            unfold natsD
            rw [List.length_append, List.length_map, List.length_map]
            show 1 + x.says.length + x.nums.length ≤ 100000
            omega
  case e => rfl
theorem zip_lap (c : Cals T P w K mg base) (hr : Room 12 (LX P w K mg base f cdv A outer s' H E).A) {i o i' o' : List Str} {a0 a1 a2 a5 a6 a7 a11 a12 a13 : Sl} {bs : List Bt} {x : Sen} (al : Alike i o i' o') (hx : SenOk i o x) (hb : ∀ b ∈ bs, BeatIn i o b) :
    DSs T (LX P w K mg base f cdv A outer s' H E) [a0, a1, a2, .dat (.tuple [wordsD i, wordsD o]), .dat (lettersD i' o'), a5, a6, a7, .dat (x.d), .un, .un, a11, a12, a13, .dat (.tuple (bs.map beatD)), .dat (runD (bs.map (renB i o i' o'))), .dat ((x.map (Say.ren i o i' o')).d), .dat ((x.map Say.swap).d), .un, .un, .un] lawZip (.nx [a0, a1, a2, .dat (.tuple [wordsD i, wordsD o]), .dat (lettersD i' o'), a5, a6, a7, .un, .un, .un, a11, a12, a13, .dat (.tuple (bs.map beatD)), .dat (runD (bs.map (renB i o i' o'))), .un, .un, .un, .un, .un]) := by
  have nd := sc_law.nd
  have e1 := broken_ren al hx.ok hb
  have e2 := broken_swap (s := x) (bs := bs)
  have r1 : R_broken [lettersD i o, x.d, runD bs] (optD (broken x 0 bs)) := ⟨i, o, x, bs, rfl, hx, hb, rfl⟩
  have r2 : R_broken [lettersD i' o', (x.map (Say.ren i o i' o')).d, runD (bs.map (renB i o i' o'))] (optD (broken x 0 bs)) := ⟨i', o', _, _, rfl, sen_ren al hx, fun b h => by
    obtain ⟨b2, h2, rfl⟩ := List.mem_map.mp h
    exact beat_ren al (hb b2 h2), by rw [e1]⟩
  have r3 : R_broken [lettersD o i, (x.map Say.swap).d, runD (bs.map swapB)] (optD (broken x 0 bs)) := ⟨o, i, _, _, rfl, sen_swap hx, fun b h => by
    obtain ⟨b2, h2, rfl⟩ := List.mem_map.mp h
    exact beat_swap (hb b2 h2), by rw [e2]⟩
  have sc : scalD (optD (broken x 0 bs)) (optD (broken x 0 bs)) = true := by
    cases broken x 0 bs <;> rfl
  have eq : (!PyData.eqv (optD (broken x 0 bs)) (optD (broken x 0 bs))) = false := by
    rw [SeqAt.eqv_refl _ (opt_lay _)] <;> rfl
  generalize (x.map (Say.ren i o i' o')).d = xr at r2
  generalize (x.map Say.swap).d = xs at r3
  generalize runD (bs.map (renB i o i' o')) = br at r2
  generalize optD (broken x 0 bs) = at_ at r1 r2 r3 sc eq
  refine' dss_is (dss_fgts (Γ1 := []) [8, 16, 17, 18] ?m) ?e
  case m =>
    refine' dss_cons (ds_set 18 (d := at_) (de_call c.broken (hr.mono (by omega)) (da_cons (de_name 3) (da_cons (de_name 8) (da_cons (de_name 14) da_nil))) r1) nd) ?b1
    case b1 =>
      refine' dss_if (k := false) (dt_is (dt_cmp L2.op_ne (nomark _) (de_name 18) (de_call c.broken (hr.mono (by omega)) (da_cons (de_name 4) (da_cons (de_name 16) (da_cons (de_name 15) da_nil))) r2) (rd_ne sc)) eq) (ife_F0 rfl ?b2)
      case b2 =>
        refine' dss_if (k := false) (dt_is (dt_cmp L2.op_ne (nomark _) (de_name 18) (de_call c.broken (hr.mono (by omega)) (da_cons (de_rev (de_name 3)) (da_cons (de_name 17) (da_cons (de_callTy cr_tupF c.mt (by decide +kernel) (da_cons (d := .list ((bs.map swapB).map beatD)) ?c1 da_nil) (rc_tuple rfl)) da_nil))) r3) (rd_ne sc)) eq) (ife_F0 rfl dss_nil)
        case c1 =>
          refine' de_comp [("_law_beat", 20)] [20] (di_tup (ds := bs.map beatD) (de_name 14)) (L2.blkOk_by (N := n_law) (sc := defScope s_law) (by decide +kernel)) nd (fun s H C cl fp => dg_name 20 nd) rfl ?c2
          case c2 =>
            rw [List.map_map]
            exact compR_mapL beatD (fun b => beatD (swapB b)) rfl rfl fun b hb => ⟨_, rfl, fun s H C cl fp => de_rev (d1 := .str b.1) (d2 := .str b.2) (de_name 20)⟩
  case e => rfl
end
end
section
/-! F26 -/
/-! ### the law: a lap, all -/
def runsN (i o : List Str) (s : Ls) : Nat → Ls
  | 0 => s
  | n + 1 => (lawRun i o (runsN i o s n)).2
theorem eqv_bool (a b : Bool) : PyData.eqv (.bool a) (.bool b) = (a == b) := by simp [PyData.eqv]
section
variable {T : Tb} {P : Program} {w : World} {K : PySem.W.Frag} {mg : Str → Option Value} {base : Heap} {f : Addr} {fd : FuncData} {cdv : Value} {A : Around} {outer : List Env} {s' : Shared} {H : Hp} {E : XK}
theorem Say.notThinS (s : Sen) : thD s.d = false := by cases s <;> rfl
theorem six_lap (c : Cals T P w K mg base) (hr : Room 12 (LX P w K mg base f cdv A outer s' H E).A) {i o i' o' : List Str} {a0 a1 a11 a12 : Sl} {x y : Sen} {s : Ls} {jj : Int} (al : Alike i o i' o') (t1 : Thin i) (t2 : Thin o) (hx : SenOk i o x) (hy : SenOk i o y) :
    DSs T (LX P w K mg base f cdv A outer s' H E) [a0, a1, .lst none s.ds, .dat (lettersD i o), .dat (lettersD i' o'), .dat (.list [x.d, y.d]), .dat (.list [(x.map (Say.ren i o i' o')).d, (y.map (Say.ren i o i' o')).d]), .dat (.list [(x.map Say.swap).d, (y.map Say.swap).d]), .un, .un, .un, a11, a12, .dat (.int jj), .un, .un, .un, .un, .un, .un, .un] lawSix (.nx [a0, a1, .lst none (lawRun i o s).2.ds, .dat (lettersD i o), .dat (lettersD i' o'), .dat (.list [x.d, y.d]), .dat (.list [(x.map (Say.ren i o i' o')).d, (y.map (Say.ren i o i' o')).d]), .dat (.list [(x.map Say.swap).d, (y.map Say.swap).d]), .un, .un, .un, a11, a12, .un, .un, .un, .un, .un, .un, .un, .un]) := by
  have nd := sc_law.nd
  have q1 : R_run s.ds [lettersD i o, .int 24] (lawRun i o s).2.ds (runD (lawRun i o s).1) := ⟨s, i, o, rfl, rfl, al.wi, al.wo, rfl, rfl⟩
  have hb : ∀ b ∈ (lawRun i o s).1, BeatIn i o b := runN_in al.wi al.wo _
  have hl : (lawRun i o s).1.length ≤ 1000 := by
    unfold lawRun
    rw [runN_len]
    have := pick_lt (m := 25) (by decide) s
    omega
  generalize (lawRun i o s).1 = bs at q1 hb hl
  generalize (lawRun i o s).2.ds = st at q1
  have q2 : R_run_ren [lettersD i o, lettersD i' o', runD bs] (runD (bs.map (renB i o i' o'))) := ⟨i, o, i', o', bs, rfl, al, t1, t2, hb, hl, rfl⟩
  refine' dss_is (dss_fgts (Γ1 := []) [13, 14, 15] ?m) ?e
  case m =>
    refine' dss_cons (ds_set 14 (d := runD bs) (de_callM 2 rfl c.run (hr.mono (by omega)) (da_cons (de_name 3) (da_cons de_int da_nil)) q1) nd) ?b1
    case b1 =>
      show DSs _ _ [a0, a1, .lst none st, .dat (lettersD i o), .dat (lettersD i' o'), .dat (.list [x.d, y.d]), .dat (.list [(x.map (Say.ren i o i' o')).d, (y.map (Say.ren i o i' o')).d]), .dat (.list [(x.map Say.swap).d, (y.map Say.swap).d]), .un, .un, .un, a11, a12, .dat (.int jj), .dat (runD bs), .un, .un, .un, .un, .un, .un] _ _
      refine' dss_cons (ds_set 15 (d := runD (bs.map (renB i o i' o'))) (de_call c.runren (hr.mono (by omega)) (da_cons (de_name 3) (da_cons (de_name 4) (da_cons (de_name 14) da_nil))) q2) nd) ?b2
      case b2 =>
        show DSs _ _ [a0, a1, .lst none st, .dat (lettersD i o), .dat (lettersD i' o'), .dat (.list [x.d, y.d]), .dat (.list [(x.map (Say.ren i o i' o')).d, (y.map (Say.ren i o i' o')).d]), .dat (.list [(x.map Say.swap).d, (y.map Say.swap).d]), .un, .un, .un, a11, a12, .dat (.int jj), .dat (runD bs), .dat (runD (bs.map (renB i o i' o'))), .un, .un, .un, .un, .un] _ _
        refine' dss_cons (ds_for (ks := [8, 16, 17]) (o := .nx [a0, a1, .lst none st, .dat (lettersD i o), .dat (lettersD i' o'), .dat (.list [x.d, y.d]), .dat (.list [(x.map (Say.ren i o i' o')).d, (y.map (Say.ren i o i' o')).d]), .dat (.list [(x.map Say.swap).d, (y.map Say.swap).d]), .un, .un, .un, a11, a12, .dat (.int jj), .dat (runD bs), .dat (runD (bs.map (renB i o i' o'))), .un, .un, .un, .un, .un]) (di_zip3 (ds := [x.d, y.d]) (es := [(x.map (Say.ren i o i' o')).d, (y.map (Say.ren i o i' o')).d]) (fs := [(x.map Say.swap).d, (y.map Say.swap).d]) c.mz (de_name 5) (de_name 6) (de_name 7) rfl rfl ?n1) (dg_three 8 16 17 rfl nd) (.next rfl (zip_lap c hr al hx hb) (.next rfl (zip_lap c hr al hy hb) (.nil _)))) dss_nil
        case n1 =>
          intro d hd
          rcases List.mem_cons.mp hd with rfl | hd
          · exact Say.notThinS x
          · rcases List.mem_cons.mp hd with rfl | hd
            · exact Say.notThinS y
            · cases hd
  case e => rfl
theorem law_lap (c : Cals T P w K mg base) (hr : Room 12 (LX P w K mg base f cdv A outer s' H E).A) (hu : (LX P w K mg base f cdv A outer s' H E).A.units + 64 < cLine) {ns : List Int} {j : Nat} :
    DSs T (LX P w K mg base f cdv A outer s' H E) [.dat (intsD ns), .dat (.int (j : Int)), .un, .un, .un, .un, .un, .un, .un, .un, .un, .un, .un, .un, .un, .un, .un, .un, .un, .un, .un] lawLap (.nx [.dat (intsD ns), .un, .un, .un, .un, .un, .un, .un, .un, .un, .un, .un, .un, .un, .un, .un, .un, .un, .un, .un, .un]) := by
  have nd := sc_law.nd
  have qS : R_state [intsD ns, .int (j : Int)] (begun (ns.getD j 0)).ds := ⟨ns, j, rfl, rfl⟩
  generalize begun (ns.getD j 0) = s0 at qS
  have qL : R_letters s0.ds [] (after 5 (after 5 s0)).ds (lettersD (insOf s0) (outsOf s0)) := ⟨s0, rfl, rfl, rfl, rfl⟩
  have wi := ins_words s0
  have wo := outs_words s0
  have t1 := ins_thin s0
  have t2 := outs_thin s0
  generalize insOf s0 = i at qL wi t1
  generalize outsOf s0 = o at qL wo t2
  generalize after 5 (after 5 s0) = s1 at qL
  have al := new_alike wi wo
  have ci := cut_new wi.lo wi.hi
  have co := cut_new2 wo.lo wo.hi
  have li : (i.map PyData.str).length = i.length := List.length_map _
  have lo : (o.map PyData.str).length = o.length := List.length_map _
  rw [← li] at ci
  rw [← lo] at co
  generalize hi' : NEW.take i.length = i' at al
  generalize ho' : NEW2.take o.length = o' at al
  rw [← li] at hi'
  rw [← lo] at ho'
  rw [hi'] at ci
  rw [ho'] at co
  have qA : R_sen s1.ds [lettersD i o, .int 3, .bool false] (senOf i o s1).2.ds (senOf i o s1).1.d := ⟨s1, i, o, rfl, rfl, wi, wo, rfl, rfl⟩
  obtain ⟨hx, nx⟩ := senOf_ok (s := s1) wi wo
  generalize senOf i o s1 = q at qA hx nx
  obtain ⟨x, s2⟩ := q
  have qB : R_sen s2.ds [lettersD i o, .int 3, .bool false] (senOf i o s2).2.ds (senOf i o s2).1.d := ⟨s2, i, o, rfl, rfl, wi, wo, rfl, rfl⟩
  obtain ⟨hy, ny⟩ := senOf_ok (s := s2) wi wo
  generalize senOf i o s2 = q at qB hy ny
  obtain ⟨y, s3⟩ := q
  have hxr := sen_ren al hx
  have hyr := sen_ren al hy
  have wx : R_watcher [lettersD i o, x.d] (tabT (watcherOf i o x)) := ⟨i, o, x, rfl, hx, rfl⟩
  have wy : R_watcher [lettersD i o, y.d] (tabT (watcherOf i o y)) := ⟨i, o, y, rfl, hy, rfl⟩
  have wx' : R_watcher [lettersD i' o', (x.map (Say.ren i o i' o')).d] (tabT (watcherOf i o x)) := ⟨i', o', _, rfl, hxr, by rw [watcher_ren al hx.ok]⟩
  have wy' : R_watcher [lettersD i' o', (y.map (Say.ren i o i' o')).d] (tabT (watcherOf i o y)) := ⟨i', o', _, rfl, hyr, by rw [watcher_ren al hy.ok]⟩
  have hz : ∀ s ∈ [x, y], SenOk i o s := fun s hs => by
    rcases List.mem_cons.mp hs with rfl | hs
    · exact hx
    · rw [List.mem_singleton.mp hs]
      exact hy
  have hzr : ∀ s ∈ [x.map (Say.ren i o i' o'), y.map (Say.ren i o i' o')], SenOk i' o' s := fun s hs => by
    rcases List.mem_cons.mp hs with rfl | hs
    · exact hxr
    · rw [List.mem_singleton.mp hs]
      exact hyr
  have qT : R_together [lettersD i o, .tuple [x.d, y.d]] (tabT (joinedOf (beatsOf i o).length (watchers i o [x, y]))) := ⟨i, o, [x, y], rfl, wi, wo, hz, (by decide : 2 ≤ 8), many_small nx ny, rfl⟩
  have er := watchers_ren (ss := [x, y]) al fun s hs => (hz s hs).ok
  have qT' : R_together [lettersD i' o', .tuple [(x.map (Say.ren i o i' o')).d, (y.map (Say.ren i o i' o')).d]] (tabT (joinedOf (beatsOf i o).length (watchers i o [x, y]))) := ⟨i', o', [x.map (Say.ren i o i' o'), y.map (Say.ren i o i' o')], rfl, al.wi', al.wo', hzr, (by decide : 2 ≤ 8), many_small (by rw [nums_map]; exact nx) (by rw [nums_map]; exact ny), by
    rw [← er, ← beats_len al] <;> rfl⟩
  have qP : R_parting [lettersD i o, x.d, y.d] (runO (partRun i o x y)) := ⟨i, o, x, y, rfl, hx, hy, part_data.symm⟩
  have qP' : R_parting [lettersD i' o', (x.map (Say.ren i o i' o')).d, (y.map (Say.ren i o i' o')).d] (runO ((partRun i o x y).map fun r => r.map (renB i o i' o'))) := ⟨i', o', _, _, rfl, hxr, hyr, by
    rw [← part_ren al hx.ok hy.ok]
    exact part_data.symm⟩
  have pf : ∀ r, partRun i o x y = some r → (∀ b ∈ r, BeatIn i o b) ∧ r.length ≤ 49 := fun r h => ⟨part_in h, partRun_len hx hy h⟩
  generalize partRun i o x y = pr at qP qP' pf
  have sh1 : SeqAt.shaped (.list [tabT (watcherOf i o x), tabT (watcherOf i o y)]) = true := tabs_shaped [watcherOf i o x, watcherOf i o y]
  generalize tabT (watcherOf i o x) = tA at wx wx' sh1
  generalize tabT (watcherOf i o y) = tB at wy wy' sh1
  have sh2 := tab_shaped (joinedOf (beatsOf i o).length (watchers i o [x, y]))
  generalize tabT (joinedOf (beatsOf i o).length (watchers i o [x, y])) = tJ at qT qT' sh2
  have ne1 : (!PyData.eqv (.list [tA, tB]) (.list [tA, tB])) = false := by
    rw [same_eqv sh1] <;> rfl
  have ne2 : (!PyData.eqv tJ tJ) = false := by
    rw [same_eqv sh2] <;> rfl
  have ne3 : (!PyData.eqv (.bool (isNoneD (runO pr))) (.bool (isNoneD (runO (pr.map fun r => r.map (renB i o i' o')))))) = false := by
    rw [eqv_bool]
    cases pr <;> rfl
  refine' dss_is (dss_fgts (Γ1 := []) [1, 2, 3, 4, 5, 6, 7, 8, 9, 10, 11, 12, 13, 14, 15, 16, 17, 18, 19, 20] ?m) ?e
  case m =>
    refine' dss_cons (ds_setO 2 (do1_callN c.state (hr.mono (by omega)) (da_cons (de_name 0) (da_cons (de_name 1) da_nil)) qS) nd) ?b1
    case b1 =>
      show DSs _ _ [.dat (intsD ns), .dat (.int (j : Int)), .lst none s0.ds, .un, .un, .un, .un, .un, .un, .un, .un, .un, .un, .un, .un, .un, .un, .un, .un, .un, .un] _ _
      refine' dss_cons (ds_set 3 (d := lettersD i o) (de_callM 2 rfl c.letters (hr.mono (by omega)) da_nil qL) nd) ?b2
      case b2 =>
        show DSs _ _ [.dat (intsD ns), .dat (.int (j : Int)), .lst none s1.ds, .dat (.tuple [wordsD i, wordsD o]), .un, .un, .un, .un, .un, .un, .un, .un, .un, .un, .un, .un, .un, .un, .un, .un, .un] _ _
        refine' dss_cons (ds_set 4 (d := lettersD i' o') (de_tup (da_cons (de_is (d' := .tuple (i'.map PyData.str)) (de_slice (ds := NEW.map PyData.str) (i := none) (j := some ((i.map PyData.str).length : Int)) (de_tup (da_cons de_str (da_cons de_str (da_cons de_str da_nil))) (Nat.le_of_ble_eq_true rfl)) do_none (do_some (de_callB L2.call_len c.ml (by decide +kernel) (da_cons (de_ix ix_seq (de_name 3) de_int (rd_ix rfl rfl)) da_nil) (rc_len rfl))) ci.2) (by rw [ci.1])) (da_cons (de_is (d' := .tuple (o'.map PyData.str)) (de_slice (ds := NEW2.map PyData.str) (i := none) (j := some ((o.map PyData.str).length : Int)) (de_tup (da_cons de_str (da_cons de_str (da_cons de_str da_nil))) (Nat.le_of_ble_eq_true rfl)) do_none (do_some (de_callB L2.call_len c.ml (by decide +kernel) (da_cons (de_ix ix_seq (de_name 3) de_int (rd_ix rfl rfl)) da_nil) (rc_len rfl))) co.2) (by rw [co.1])) da_nil)) (Nat.le_of_ble_eq_true rfl)) nd) ?b3
        case b3 =>
          show DSs _ _ [.dat (intsD ns), .dat (.int (j : Int)), .lst none s1.ds, .dat (lettersD i o), .dat (lettersD i' o'), .un, .un, .un, .un, .un, .un, .un, .un, .un, .un, .un, .un, .un, .un, .un, .un] _ _
          refine' dss_cons (ds_setLc (rs := [x.d, y.d]) 5 [("_law_lap", 13)] [13] (di_range (j := 2) c.mr de_int (by decide)) (L2.blkOk_by (N := n_law) (sc := defScope s_law) (by decide +kernel)) nd (fun s H C cl fp => dg_name 13 nd) rfl (.keep rfl rfl bt_nil (fun s H C cl fp => de_callM 2 rfl c.sen (hr.mono (by omega)) (da_cons (de_name 3) (da_cons de_int (da_cons de_bool da_nil))) qA) (.keep rfl rfl bt_nil (fun s H C cl fp => de_callM 2 rfl c.sen (hr.mono (by omega)) (da_cons (de_name 3) (da_cons de_int (da_cons de_bool da_nil))) qB) (.nil _))) rfl) ?b4
          case b4 =>
            show DSs _ _ [.dat (intsD ns), .dat (.int (j : Int)), .lst none s3.ds, .dat (lettersD i o), .dat (lettersD i' o'), .dat (.list [x.d, y.d]), .un, .un, .un, .un, .un, .un, .un, .un, .un, .un, .un, .un, .un, .un, .un] _ _
            refine' dss_cons (ds_parO 6 7 (dv_cons (do1_lst (ds := []) da_nil (by decide)) (dv_cons (do1_lst (ds := []) da_nil (by decide)) dv_nil)) rfl nd) ?b5
            case b5 =>
              show DSs _ _ [.dat (intsD ns), .dat (.int (j : Int)), .lst none s3.ds, .dat (lettersD i o), .dat (lettersD i' o'), .dat (.list [x.d, y.d]), .lst none [], .lst none [], .un, .un, .un, .un, .un, .un, .un, .un, .un, .un, .un, .un, .un] _ _
              refine' dss_cons (ds_for (ks := [8]) (o := .nx [.dat (intsD ns), .dat (.int (j : Int)), .lst none s3.ds, .dat (lettersD i o), .dat (lettersD i' o'), .dat (.list [x.d, y.d]), .lst none [(x.map (Say.ren i o i' o')).d, (y.map (Say.ren i o i' o')).d], .lst none [(x.map Say.swap).d, (y.map Say.swap).d], .un, .un, .un, .un, .un, .un, .un, .un, .un, .un, .un, .un, .un]) (di_list (ds := [x.d, y.d]) (de_name 5)) (dg_name 8 nd) (.next rfl (one_lap c hr al t1 t2 hx (Nat.le_of_ble_eq_true rfl) (Nat.le_of_ble_eq_true rfl)) (.next rfl (one_lap c hr al t1 t2 hy (Nat.le_of_ble_eq_true rfl) (Nat.le_of_ble_eq_true rfl)) (.nil _)))) (dss_thaw 6 rfl (dss_thaw 7 rfl ?b6))
              case b6 =>
                show DSs _ _ [.dat (intsD ns), .dat (.int (j : Int)), .lst none s3.ds, .dat (lettersD i o), .dat (lettersD i' o'), .dat (.list [x.d, y.d]), .dat (.list [(x.map (Say.ren i o i' o')).d, (y.map (Say.ren i o i' o')).d]), .dat (.list [(x.map Say.swap).d, (y.map Say.swap).d]), .un, .un, .un, .un, .un, .un, .un, .un, .un, .un, .un, .un, .un] _ _
                refine' dss_if (k := false) (Γ1 := [.dat (intsD ns), .dat (.int (j : Int)), .lst none s3.ds, .dat (lettersD i o), .dat (lettersD i' o'), .dat (.list [x.d, y.d]), .dat (.list [(x.map (Say.ren i o i' o')).d, (y.map (Say.ren i o i' o')).d]), .dat (.list [(x.map Say.swap).d, (y.map Say.swap).d]), .un, .un, .un, .un, .un, .un, .un, .un, .un, .un, .un, .un, .un]) (dt_is (dt_cmp (L2.op_neD hu) (nomark _) (d1 := .list [tA, tB]) (d2 := .list [tA, tB]) ?w1 ?w2 (rd_neD sh1 sh1)) ne1) (ife_F0 rfl ?b7)
                case w1 => exact (de_comp [("_law_one", 8)] [8] (di_list (ds := [x.d, y.d]) (de_name 5)) (L2.blkOk_by (N := n_law) (sc := defScope s_law) (by decide +kernel)) nd (fun s H C cl fp => dg_name 8 nd) rfl (.keep rfl rfl bt_nil (fun s H C cl fp => de_call c.watcher hr (da_cons (de_name 3) (da_cons (de_name 8) da_nil)) wx) (.keep rfl rfl bt_nil (fun s H C cl fp => de_call c.watcher hr (da_cons (de_name 3) (da_cons (de_name 8) da_nil)) wy) (.nil _))))
                case w2 => exact (de_comp [("_law_one", 8)] [8] (di_list (ds := [(x.map (Say.ren i o i' o')).d, (y.map (Say.ren i o i' o')).d]) (de_name 6)) (L2.blkOk_by (N := n_law) (sc := defScope s_law) (by decide +kernel)) nd (fun s H C cl fp => dg_name 8 nd) rfl (.keep rfl rfl bt_nil (fun s H C cl fp => de_call c.watcher hr (da_cons (de_name 4) (da_cons (de_name 8) da_nil)) wx') (.keep rfl rfl bt_nil (fun s H C cl fp => de_call c.watcher hr (da_cons (de_name 4) (da_cons (de_name 8) da_nil)) wy') (.nil _))))
                case b7 =>
                  show DSs _ _ [.dat (intsD ns), .dat (.int (j : Int)), .lst none s3.ds, .dat (lettersD i o), .dat (lettersD i' o'), .dat (.list [x.d, y.d]), .dat (.list [(x.map (Say.ren i o i' o')).d, (y.map (Say.ren i o i' o')).d]), .dat (.list [(x.map Say.swap).d, (y.map Say.swap).d]), .un, .un, .un, .un, .un, .un, .un, .un, .un, .un, .un, .un, .un] _ _
                  refine' dss_if (k := false) (Γ1 := [.dat (intsD ns), .dat (.int (j : Int)), .lst none s3.ds, .dat (lettersD i o), .dat (lettersD i' o'), .dat (.list [x.d, y.d]), .dat (.list [(x.map (Say.ren i o i' o')).d, (y.map (Say.ren i o i' o')).d]), .dat (.list [(x.map Say.swap).d, (y.map Say.swap).d]), .un, .un, .un, .un, .un, .un, .un, .un, .un, .un, .un, .un, .un]) (dt_is (dt_cmp (L2.op_neD hu) (nomark _) (d1 := tJ) (d2 := tJ) (de_call c.together hr (da_cons (de_name 3) (da_cons (de_callTy cr_tupF c.mt (by decide +kernel) (da_cons (de_name 5) da_nil) (rc_tuple (ds := [x.d, y.d]) rfl)) da_nil)) qT) (de_call c.together hr (da_cons (de_name 4) (da_cons (de_callTy cr_tupF c.mt (by decide +kernel) (da_cons (de_name 6) da_nil) (rc_tuple (ds := [(x.map (Say.ren i o i' o')).d, (y.map (Say.ren i o i' o')).d]) rfl)) da_nil)) qT') (rd_neD sh2 sh2)) ne2) (ife_F0 rfl ?b8)
                  case b8 =>
                    show DSs _ _ [.dat (intsD ns), .dat (.int (j : Int)), .lst none s3.ds, .dat (lettersD i o), .dat (lettersD i' o'), .dat (.list [x.d, y.d]), .dat (.list [(x.map (Say.ren i o i' o')).d, (y.map (Say.ren i o i' o')).d]), .dat (.list [(x.map Say.swap).d, (y.map Say.swap).d]), .un, .un, .un, .un, .un, .un, .un, .un, .un, .un, .un, .un, .un] _ _
                    refine' dss_cons (ds_par 11 12 (d1 := runO pr) (d2 := runO (pr.map fun r => r.map (renB i o i' o'))) (da_cons (de_call c.parting hr (da_cons (de_name 3) (da_cons (de_ix ix_seq (de_name 5) de_int (rd_ix rfl rfl)) (da_cons (de_ix ix_seq (de_name 5) de_int (rd_ix rfl rfl)) da_nil))) qP) (da_cons (de_call c.parting hr (da_cons (de_name 4) (da_cons (de_ix ix_seq (de_name 6) de_int (rd_ix rfl rfl)) (da_cons (de_ix ix_seq (de_name 6) de_int (rd_ix rfl rfl)) da_nil))) qP') da_nil)) rfl nd) ?b9
                    case b9 =>
                      show DSs _ _ [.dat (intsD ns), .dat (.int (j : Int)), .lst none s3.ds, .dat (lettersD i o), .dat (lettersD i' o'), .dat (.list [x.d, y.d]), .dat (.list [(x.map (Say.ren i o i' o')).d, (y.map (Say.ren i o i' o')).d]), .dat (.list [(x.map Say.swap).d, (y.map Say.swap).d]), .un, .un, .un, .dat (runO pr), .dat (runO (pr.map fun r => r.map (renB i o i' o'))), .un, .un, .un, .un, .un, .un, .un, .un] _ _
                      refine' dss_if (k := false) (Γ1 := [.dat (intsD ns), .dat (.int (j : Int)), .lst none s3.ds, .dat (lettersD i o), .dat (lettersD i' o'), .dat (.list [x.d, y.d]), .dat (.list [(x.map (Say.ren i o i' o')).d, (y.map (Say.ren i o i' o')).d]), .dat (.list [(x.map Say.swap).d, (y.map Say.swap).d]), .un, .un, .un, .dat (runO pr), .dat (runO (pr.map fun r => r.map (renB i o i' o'))), .un, .un, .un, .un, .un, .un, .un, .un]) (dt_is (dt_cmp L2.op_ne (nomark _) (de_cmp L2.op_isN (nomark _) (de_name 11) de_none rd_isN) (de_cmp L2.op_isN (nomark _) (de_name 12) de_none rd_isN) (rd_ne rfl)) ne3) (ife_F0 rfl ?b10)
                      case b10 =>
                        show DSs _ _ [.dat (intsD ns), .dat (.int (j : Int)), .lst none s3.ds, .dat (lettersD i o), .dat (lettersD i' o'), .dat (.list [x.d, y.d]), .dat (.list [(x.map (Say.ren i o i' o')).d, (y.map (Say.ren i o i' o')).d]), .dat (.list [(x.map Say.swap).d, (y.map Say.swap).d]), .un, .un, .un, .dat (runO pr), .dat (runO (pr.map fun r => r.map (renB i o i' o'))), .un, .un, .un, .un, .un, .un, .un, .un] _ _
                        refine' dss_if (k := false) (Γ1 := [.dat (intsD ns), .dat (.int (j : Int)), .lst none s3.ds, .dat (lettersD i o), .dat (lettersD i' o'), .dat (.list [x.d, y.d]), .dat (.list [(x.map (Say.ren i o i' o')).d, (y.map (Say.ren i o i' o')).d]), .dat (.list [(x.map Say.swap).d, (y.map Say.swap).d]), .un, .un, .un, .dat (runO pr), .dat (runO (pr.map fun r => r.map (renB i o i' o'))), .un, .un, .un, .un, .un, .un, .un, .un]) ?t1 (ife_F0 rfl ?b11)
                        case t1 =>
                          cases pr with
                          | none => exact dt_w (dw_and' (dt_cmp L2.op_notN (nomark _) (de_name 11) de_none rd_notN) (andW_F rfl))
                          | some r =>
                            obtain ⟨hb, hl⟩ := pf r rfl
                            have sh3 := run_shaped al.wi' al.wo' (bs := r.map (renB i o i' o')) fun b h => by
                              obtain ⟨b2, h2, rfl⟩ := List.mem_map.mp h
                              exact beat_ren al (hb b2 h2)
                            have ne4 : (!PyData.eqv (runD (r.map (renB i o i' o'))) (runD (r.map (renB i o i' o')))) = false := by
                              rw [same_eqv sh3] <;> rfl
                            exact dt_w (dw_and' (dt_cmp L2.op_notN (nomark _) (de_name 11) de_none rd_notN) (andW_T rfl (dw_and1 (dt_is (dt_cmp (L2.op_neD hu) (nomark _) (de_call c.runren (hr.mono (by omega)) (da_cons (de_name 3) (da_cons (de_name 4) (da_cons (de_name 11) da_nil))) ⟨i, o, i', o', r, rfl, al, t1, t2, hb, by omega, rfl⟩) (de_name 12) (rd_neD sh3 sh3)) ne4))))
                        case b11 =>
                          show DSs _ _ [.dat (intsD ns), .dat (.int (j : Int)), .lst none s3.ds, .dat (lettersD i o), .dat (lettersD i' o'), .dat (.list [x.d, y.d]), .dat (.list [(x.map (Say.ren i o i' o')).d, (y.map (Say.ren i o i' o')).d]), .dat (.list [(x.map Say.swap).d, (y.map Say.swap).d]), .un, .un, .un, .dat (runO pr), .dat (runO (pr.map fun r => r.map (renB i o i' o'))), .un, .un, .un, .un, .un, .un, .un, .un] _ _
                          refine' dss_cons (ds_for (ks := [13]) (o := .nx [.dat (intsD ns), .dat (.int (j : Int)), .lst none (runsN i o s3 6).ds, .dat (lettersD i o), .dat (lettersD i' o'), .dat (.list [x.d, y.d]), .dat (.list [(x.map (Say.ren i o i' o')).d, (y.map (Say.ren i o i' o')).d]), .dat (.list [(x.map Say.swap).d, (y.map Say.swap).d]), .un, .un, .un, .dat (runO pr), .dat (runO (pr.map fun r => r.map (renB i o i' o'))), .un, .un, .un, .un, .un, .un, .un, .un]) (di_range (j := 6) c.mr de_int (by decide)) (dg_name 13 nd) (loopR_to (fun n => [.dat (intsD ns), .dat (.int (j : Int)), .lst none (runsN i o s3 n).ds, .dat (lettersD i o), .dat (lettersD i' o'), .dat (.list [x.d, y.d]), .dat (.list [(x.map (Say.ren i o i' o')).d, (y.map (Say.ren i o i' o')).d]), .dat (.list [(x.map Say.swap).d, (y.map Say.swap).d]), .un, .un, .un, .dat (runO pr), .dat (runO (pr.map fun r => r.map (renB i o i' o'))), .un, .un, .un, .un, .un, .un, .un, .un]) (fun n => .int (0 + (n : Int))) 6 (fun n hn => ⟨_, rfl, six_lap c hr al t1 t2 hx hy⟩) rfl rfl rfl)) dss_nil
  case e => rfl
end
end
section
/-! F27 -/
/-! ### the law -/
def R_law : Rl := fun ds r => ∃ ns : List Int, ds = [intsD ns] ∧ ns.length ≤ 63 ∧ r = .bool true
section
variable {T : Tb} {P : Program} {w : World} {K : PySem.W.Frag} {mg : Str → Option Value} {base : Heap} {f : Addr} {fd : FuncData}
theorem range0 (n : Nat) : rangeD 0 n = (List.range n).map fun j : Nat => PyData.int (j : Int) := by
  unfold rangeD
  exact List.map_congr_left fun j _ => by rw [Int.zero_add]
theorem ok_law (F : Fun K "law" "law" s_law f fd) (c : Cals T P w K mg base) : FnOk P w K mg base CX0 13 f fd ["_law_script"] (SpD T K R_law) := by
  have nd := sc_law.nd
  refine fn_pure F sc_law (fun ds d ⟨ns, e, _⟩ => by rw [e] <;> rfl) fun ds d ⟨ns, e, h63, er⟩ cdv A outer s' H E hr => ?_
  subst e er
  have hu := hr.units
  have hl : (ns.map PyData.int).length = ns.length := List.length_map _
  generalize hm : (if (if (3 : Int) < (((ns.map PyData.int).length : Nat) : Int) then (3 : Int) else (((ns.map PyData.int).length : Nat) : Int)) > 1 then (if (3 : Int) < (((ns.map PyData.int).length : Nat) : Int) then (3 : Int) else (((ns.map PyData.int).length : Nat) : Int)) else 1) = m
  have hb : -1000000 ≤ m ∧ m ≤ 1000000 := by
    rw [← hm]
    split <;> (try split) <;> omega
  refine' by_out ?h1 ?h2
  case h1 =>
    show DSs _ _ [.dat (intsD ns), .un, .un, .un, .un, .un, .un, .un, .un, .un, .un, .un, .un, .un, .un, .un, .un, .un, .un, .un, .un] _ _
    refine' dss_cons (ds_for (ks := [1]) (o := .nx [.dat (intsD ns), .un, .un, .un, .un, .un, .un, .un, .un, .un, .un, .un, .un, .un, .un, .un, .un, .un, .un, .un, .un]) (di_range (j := m) c.mr ?a1 hb) (dg_name 1 nd) ?l1) (dss_ret (ds_ret de_bool))
    case a1 => exact de_is (de_callB (L2.call_max2 rfl) c.mx (by decide +kernel) (da_cons de_int (da_cons (de_callB (L2.call_min2 rfl) c.mn (by decide +kernel) (da_cons (de_callB L2.call_len c.ml (by decide +kernel) (da_cons (de_name 0) da_nil) (rc_len rfl)) (da_cons de_int da_nil)) rc_min) da_nil)) rc_max) (congrArg PyData.int hm)
    case l1 =>
      exact loopR_to (fun _ => [.dat (intsD ns), .un, .un, .un, .un, .un, .un, .un, .un, .un, .un, .un, .un, .un, .un, .un, .un, .un, .un, .un, .un]) (fun j => .int (j : Int)) m.toNat (fun j hj => ⟨_, rfl, law_lap c hr hu⟩) rfl rfl (range0 _)
  case h2 => rfl
end
end
section
/-! F28 -/
/-! ### all defs of the top together -/
theorem cal_up {P : Program} {w : World} {K : PySem.W.Frag} {mg : Str → Option Value} {base : Heap} {j k : Nat} {x : Str} {sp : Sp} (c : Cal P w K mg base j x sp) (h : j ≤ k) : Cal P w K mg base k x sp := by
  obtain ⟨f, fd, ps, h1, h2, h3, h4⟩ := c
  exact ⟨f, fd, ps, h1, h2, h3, h4.mono h⟩
abbrev At (K : PySem.W.Frag) (mg : Str → Option Value) (x : Str) (st : Stmt) : Prop := ∃ f fd, Fun K x x st f fd ∧ mg x = some (.ref f)
abbrev AtC (K : PySem.W.Frag) (mg : Str → Option Value) (x : Str) (st : Stmt) (c : Addr) : Prop := ∃ f fd, FunC K x st f fd c ∧ mg x = some (.ref f)
/-- what stands at the top -/
structure Facts (K : PySem.W.Frag) (w : World) (mg : Str → Option Value) (c1 c2 fa : Addr) : Prop where
  h_is_whole : At K mg "is_whole" s_is_whole
  h_is_within : At K mg "is_within" s_is_within
  h_is_word : At K mg "is_word" s_is_word
  h_are_words : At K mg "are_words" s_are_words
  h_is_letters : At K mg "is_letters" s_is_letters
  h_need_letters : At K mg "need_letters" s_need_letters
  h_beats_of : At K mg "beats_of" s_beats_of
  h_is_beat : At K mg "is_beat" s_is_beat
  h_is_saying_by : At K mg "is_saying_by" s_is_saying_by
  h_is_so_by : At K mg "is_so_by" s_is_so_by
  h_is_sentence_by : At K mg "is_sentence_by" s_is_sentence_by
  h_need_sentence : At K mg "need_sentence" s_need_sentence
  h_is_run : At K mg "is_run" s_is_run
  h_need_run : At K mg "need_run" s_need_run
  h_step_within : At K mg "step_within" s_step_within
  h_step_counted : At K mg "step_counted" s_step_counted
  h_step_marked : At K mg "step_marked" s_step_marked
  h_step_by : At K mg "step_by" s_step_by
  h_broken_at_by : At K mg "broken_at_by" s_broken_at_by
  h_broken_at : At K mg "broken_at" s_broken_at
  h_step_rows : At K mg "step_rows" s_step_rows
  h_renumbered : At K mg "renumbered" s_renumbered
  h_classes_of : At K mg "classes_of" s_classes_of
  h_least_rows : At K mg "least_rows" s_least_rows
  h_watcher_by : AtC K mg "watcher_by" s_watcher_by c1
  h_joined_rows : AtC K mg "joined_rows" s_joined_rows c2
  h_watcher : At K mg "watcher" s_watcher
  h_many_of : At K mg "many_of" s_many_of
  h_together : At K mg "together" s_together
  h_need_two : At K mg "need_two" s_need_two
  h_parting : At K mg "parting" s_parting
  h__law_cell_at : At K mg "_law_cell_at" s__law_cell_at
  h__law_state : At K mg "_law_state" s__law_state
  h__law_choice : At K mg "_law_choice" s__law_choice
  h__law_letters : At K mg "_law_letters" s__law_letters
  h__law_beats : At K mg "_law_beats" s__law_beats
  h__law_atom : At K mg "_law_atom" s__law_atom
  h__law_saying : At K mg "_law_saying" s__law_saying
  h__law_sentence : At K mg "_law_sentence" s__law_sentence
  h__law_run : At K mg "_law_run" s__law_run
  h__law_renamed : At K mg "_law_renamed" s__law_renamed
  h__law_exchanged : At K mg "_law_exchanged" s__law_exchanged
  h__law_run_renamed : At K mg "_law_run_renamed" s__law_run_renamed
  h_machine_by : At K mg "machine_by" s_machine_by
  h_law : ∃ fd, Fun K "law" "law" s_law fa fd
  ml : mg "len" = none
  mr : mg "range" = none
  mx : mg "max" = none
  mn : mg "min" = none
  mI : mg "isinstance" = none
  mt : mg "tuple" = none
  mz : mg "zip" = none
  mi : mg "int" = none
  ms : mg "str" = none
  ma : mg "all" = none
  me : mg "enumerate" = none
  mb : mg "bool" = none
  mS : ∃ t : Tok, mg "SMALL" = some (.str small t)
  mML : ∃ t : Tok, mg "MOST_LETTERS" = some (.int 3 t)
  mMD : ∃ t : Tok, mg "MOST_DEPTH" = some (.int 4 t)
  mMN : ∃ t : Tok, mg "MOST_NUMBER" = some (.int 6 t)
  mMS : ∃ t : Tok, mg "MOST_SENTENCES" = some (.int 8 t)
  mMT : ∃ t : Tok, mg "MOST_STANDINGS" = some (.int 60 t)
  kd : KdAt K w mg "KINDS" kindsD
  tup : TupK K
def lamW : Str := Str.ofString "watcher_by.<locals>.<lambda>"
def lamJ : Str := Str.ofString "joined_rows.<locals>.<lambda>"
def T0 (P1 P2 : Addr) : Tb := ⟨[(P1, lamW), (P2, lamJ)], [], fun _ => True, fun _ _ _ h => h⟩
section
variable {P : Program} {w : World} {K : PySem.W.Frag} {mg : Str → Option Value} {c1 c2 fa P1 P2 : Addr} {base : Heap}
theorem cal_is_whole {T : Tb} (X : Facts K w mg c1 c2 fa) : Cal P w K mg base 1 "is_whole" (SpD T K R_is_whole) := by
  obtain ⟨f, fd, F, gm⟩ := X.h_is_whole
  exact ⟨f, fd, _, gm, F.kp, F.binds fun _ _ _ _ _ _ us hl => match us, hl with | [_], _ => rfl, ok_is_whole F X.mI X.mi X.mb⟩
theorem cal_is_within {T : Tb} (X : Facts K w mg c1 c2 fa) : Cal P w K mg base 2 "is_within" (SpD T K R_is_within) := by
  obtain ⟨f, fd, F, gm⟩ := X.h_is_within
  exact ⟨f, fd, _, gm, F.kp, F.binds fun _ _ _ _ _ _ us hl => match us, hl with | [_, _, _], _ => rfl, ok_is_within F (cal_is_whole X)⟩
theorem cal_is_word {T : Tb} (X : Facts K w mg c1 c2 fa) : Cal P w K mg base 1 "is_word" (SpD T K R_is_word) := by
  obtain ⟨f, fd, F, gm⟩ := X.h_is_word
  obtain ⟨t_mS, mS⟩ := X.mS
  exact ⟨f, fd, _, gm, F.kp, F.binds fun _ _ _ _ _ _ us hl => match us, hl with | [_], _ => rfl, ok_is_word F X.mI X.ms X.ml X.ma mS⟩
theorem cal_are_words {T : Tb} (X : Facts K w mg c1 c2 fa) : Cal P w K mg base 2 "are_words" (SpD T K R_are_words) := by
  obtain ⟨f, fd, F, gm⟩ := X.h_are_words
  obtain ⟨t_mML, mML⟩ := X.mML
  exact ⟨f, fd, _, gm, F.kp, F.binds fun _ _ _ _ _ _ us hl => match us, hl with | [_], _ => rfl, ok_are_words F X.mI X.mt X.ml X.ma mML (cal_is_word X)⟩
theorem cal_is_letters {T : Tb} (X : Facts K w mg c1 c2 fa) : Cal P w K mg base 3 "is_letters" (SpD T K R_is_letters) := by
  obtain ⟨f, fd, F, gm⟩ := X.h_is_letters
  exact ⟨f, fd, _, gm, F.kp, F.binds fun _ _ _ _ _ _ us hl => match us, hl with | [_], _ => rfl, ok_is_letters F X.mI X.mt X.ml (cal_are_words X)⟩
theorem cal_need_letters {T : Tb} (X : Facts K w mg c1 c2 fa) : Cal P w K mg base 4 "need_letters" (SpD T K R_need_letters) := by
  obtain ⟨f, fd, F, gm⟩ := X.h_need_letters
  exact ⟨f, fd, _, gm, F.kp, F.binds fun _ _ _ _ _ _ us hl => match us, hl with | [_], _ => rfl, ok_need_letters F (cal_is_letters X)⟩
theorem cal_beats_of {T : Tb} (X : Facts K w mg c1 c2 fa) : Cal P w K mg base 1 "beats_of" (SpD T K R_beats_of) := by
  obtain ⟨f, fd, F, gm⟩ := X.h_beats_of
  exact ⟨f, fd, _, gm, F.kp, F.binds fun _ _ _ _ _ _ us hl => match us, hl with | [_], _ => rfl, ok_beats_of F⟩
theorem cal_is_beat {T : Tb} (X : Facts K w mg c1 c2 fa) : Cal P w K mg base 1 "is_beat" (SpD T K R_is_beat) := by
  obtain ⟨f, fd, F, gm⟩ := X.h_is_beat
  exact ⟨f, fd, _, gm, F.kp, F.binds fun _ _ _ _ _ _ us hl => match us, hl with | [_, _], _ => rfl, ok_is_beat F X.mI X.mt X.ms X.ml X.ma⟩
theorem cal_is_saying_by {T : Tb} (X : Facts K w mg c1 c2 fa) : Cal P w K mg base 5 "is_saying_by" (SpD T K (R_saying 4)) := by
  obtain ⟨f, fd, F, gm⟩ := X.h_is_saying_by
  exact ⟨f, fd, _, gm, F.kp, F.binds fun _ _ _ _ _ _ us hl => match us, hl with | [_, _, _], _ => rfl, ok_is_saying_by F gm X.mI X.mt X.ms X.ml 4⟩
theorem cal_is_so_by {T : Tb} (X : Facts K w mg c1 c2 fa) : Cal P w K mg base 5 "is_so_by" (SpD T K (R_so 4)) := by
  obtain ⟨f, fd, F, gm⟩ := X.h_is_so_by
  exact ⟨f, fd, _, gm, F.kp, F.binds fun _ _ _ _ _ _ us hl => match us, hl with | [_, _], _ => rfl, ok_is_so_by F gm X.mi 4⟩
theorem cal_is_sentence_by {T : Tb} (X : Facts K w mg c1 c2 fa) : Cal P w K mg base 6 "is_sentence_by" (SpD T K R_is_sentence) := by
  obtain ⟨f, fd, F, gm⟩ := X.h_is_sentence_by
  obtain ⟨t_mMD, mMD⟩ := X.mMD
  obtain ⟨t_mMN, mMN⟩ := X.mMN
  exact ⟨f, fd, _, gm, F.kp, F.binds fun _ _ _ _ _ _ us hl => match us, hl with | [_, _], _ => rfl, ok_is_sentence_by F X.kd X.mI X.mt X.ms X.ml X.ma mMD mMN (cal_is_saying_by X) (cal_is_within X)⟩
theorem cal_need_sentence {T : Tb} (X : Facts K w mg c1 c2 fa) : Cal P w K mg base 7 "need_sentence" (SpD T K R_need_sentence) := by
  obtain ⟨f, fd, F, gm⟩ := X.h_need_sentence
  exact ⟨f, fd, _, gm, F.kp, F.binds fun _ _ _ _ _ _ us hl => match us, hl with | [_, _], _ => rfl, ok_need_sentence F (cal_need_letters X) (cal_is_sentence_by X)⟩
theorem cal_is_run {T : Tb} (X : Facts K w mg c1 c2 fa) : Cal P w K mg base 2 "is_run" (SpD T K R_is_run) := by
  obtain ⟨f, fd, F, gm⟩ := X.h_is_run
  exact ⟨f, fd, _, gm, F.kp, F.binds fun _ _ _ _ _ _ us hl => match us, hl with | [_, _], _ => rfl, ok_is_run F X.mI X.mt X.ma (cal_is_beat X)⟩
theorem cal_need_run {T : Tb} (X : Facts K w mg c1 c2 fa) : Cal P w K mg base 3 "need_run" (SpD T K R_need_run) := by
  obtain ⟨f, fd, F, gm⟩ := X.h_need_run
  exact ⟨f, fd, _, gm, F.kp, F.binds fun _ _ _ _ _ _ us hl => match us, hl with | [_, _], _ => rfl, ok_need_run F (cal_is_run X)⟩
theorem cal_step_within {T : Tb} (X : Facts K w mg c1 c2 fa) : Cal P w K mg base 6 "step_within" (SpD T K (R_step isWithin)) := by
  obtain ⟨f, fd, F, gm⟩ := X.h_step_within
  exact ⟨f, fd, _, gm, F.kp, F.binds fun _ _ _ _ _ _ us hl => match us, hl with | [_, _, _], _ => rfl, ok_step_within F (cal_is_so_by X)⟩
theorem cal_step_counted {T : Tb} (X : Facts K w mg c1 c2 fa) : Cal P w K mg base 6 "step_counted" (SpD T K (R_step isCounted)) := by
  obtain ⟨f, fd, F, gm⟩ := X.h_step_counted
  exact ⟨f, fd, _, gm, F.kp, F.binds fun _ _ _ _ _ _ us hl => match us, hl with | [_, _, _], _ => rfl, ok_step_counted F X.mi X.mx (cal_is_so_by X)⟩
theorem cal_step_marked {T : Tb} (X : Facts K w mg c1 c2 fa) : Cal P w K mg base 6 "step_marked" (SpD T K (R_step isMarked)) := by
  obtain ⟨f, fd, F, gm⟩ := X.h_step_marked
  exact ⟨f, fd, _, gm, F.kp, F.binds fun _ _ _ _ _ _ us hl => match us, hl with | [_, _, _], _ => rfl, ok_step_marked F X.mi (cal_is_so_by X)⟩
theorem cal_step_by {T : Tb} (X : Facts K w mg c1 c2 fa) : Cal P w K mg base 7 "step_by" (SpD T K (R_step fun _ => True)) := by
  obtain ⟨f, fd, F, gm⟩ := X.h_step_by
  exact ⟨f, fd, _, gm, F.kp, F.binds fun _ _ _ _ _ _ us hl => match us, hl with | [_, _, _], _ => rfl, ok_step_by F (cal_is_so_by X) (cal_step_within X) (cal_step_counted X) (cal_step_marked X)⟩
theorem cal_broken_at_by {T : Tb} (X : Facts K w mg c1 c2 fa) : Cal P w K mg base 8 "broken_at_by" (SpD T K R_broken_by) := by
  obtain ⟨f, fd, F, gm⟩ := X.h_broken_at_by
  exact ⟨f, fd, _, gm, F.kp, F.binds fun _ _ _ _ _ _ us hl => match us, hl with | [_, _], _ => rfl, ok_broken_at_by F X.me (cal_step_by X)⟩
theorem cal_broken_at {T : Tb} (X : Facts K w mg c1 c2 fa) : Cal P w K mg base 9 "broken_at" (SpD T K R_broken) := by
  obtain ⟨f, fd, F, gm⟩ := X.h_broken_at
  exact ⟨f, fd, _, gm, F.kp, F.binds fun _ _ _ _ _ _ us hl => match us, hl with | [_, _, _], _ => rfl, ok_broken_at F (cal_need_sentence X) (cal_need_run X) (cal_broken_at_by X)⟩
theorem cal_step_rows {T : Tb} (X : Facts K w mg c1 c2 fa) : Cal P w K mg base 1 "step_rows" (SpD T K R_step_rows) := by
  obtain ⟨f, fd, F, gm⟩ := X.h_step_rows
  exact ⟨f, fd, _, gm, F.kp, F.binds fun _ _ _ _ _ _ us hl => match us, hl with | [_, _, _], _ => rfl, ok_step_rows F X.mz X.mt⟩
theorem cal_renumbered {T : Tb} (X : Facts K w mg c1 c2 fa) : Cal P w K mg base 1 "renumbered" (SpD T K R_renumbered) := by
  obtain ⟨f, fd, F, gm⟩ := X.h_renumbered
  exact ⟨f, fd, _, gm, F.kp, F.binds fun _ _ _ _ _ _ us hl => match us, hl with | [_], _ => rfl, ok_renumbered F X.ml X.mt⟩
theorem cal_classes_of {T : Tb} (X : Facts K w mg c1 c2 fa) : Cal P w K mg base 1 "classes_of" (SpD T K R_classes) := by
  obtain ⟨f, fd, F, gm⟩ := X.h_classes_of
  exact ⟨f, fd, _, gm, F.kp, F.binds fun _ _ _ _ _ _ us hl => match us, hl with | [_], _ => rfl, ok_classes_of F X.ml X.mt X.me⟩
theorem cal_least_rows {T : Tb} (X : Facts K w mg c1 c2 fa) : Cal P w K mg base 2 "least_rows" (SpD T K R_least) := by
  obtain ⟨f, fd, F, gm⟩ := X.h_least_rows
  exact ⟨f, fd, _, gm, F.kp, F.binds fun _ _ _ _ _ _ us hl => match us, hl with | [_], _ => rfl, ok_least_rows F X.ml X.mr X.me (cal_classes_of X) (cal_renumbered X)⟩
theorem cal_watcher_by (X : Facts K w mg c1 c2 fa) (ne : P1 ≠ P2) (TB1 : LamX.TabB base mg c1 P1) (TB2 : LamX.TabB base mg c2 P2) : Cal P w K mg base 10 "watcher_by" (SpD (T0 P1 P2) K R_watcher) := by
  obtain ⟨f, fd, F, gm⟩ := X.h_watcher_by
  obtain ⟨fm, fdm, fmb, gmb⟩ := X.h_machine_by
  have hm1 : (P1, Str.ofString "watcher_by.<locals>.<lambda>") ∈ (T0 P1 P2).tabs := List.mem_cons_self
  have hu1 : ∀ p ∈ (T0 P1 P2).tabs, p.1 = P1 → p.2 = Str.ofString "watcher_by.<locals>.<lambda>" := fun p hp e => by
    rcases List.mem_cons.mp hp with rfl | hp
    · rfl
    · rw [List.mem_singleton.mp hp] at e
      exact absurd e.symm ne
  exact ⟨f, fd, _, gm, F.fn.kp, F.fn.binds fun _ _ _ _ _ _ us hl => match us, hl with | [_, _], _ => rfl, ok_watcher_by F fmb gmb TB1 hm1 hu1 X.ml X.me (cal_beats_of X) (fun _ => cal_least_rows X) (fun _ => cal_step_by X)⟩
theorem cal_joined_rows (X : Facts K w mg c1 c2 fa) (ne : P1 ≠ P2) (TB1 : LamX.TabB base mg c1 P1) (TB2 : LamX.TabB base mg c2 P2) : Cal P w K mg base 4 "joined_rows" (SpD (T0 P1 P2) K R_joined) := by
  obtain ⟨f, fd, F, gm⟩ := X.h_joined_rows
  obtain ⟨fm, fdm, fmb, gmb⟩ := X.h_machine_by
  have hm2 : (P2, Str.ofString "joined_rows.<locals>.<lambda>") ∈ (T0 P1 P2).tabs := List.mem_cons_of_mem _ List.mem_cons_self
  have hu2 : ∀ p ∈ (T0 P1 P2).tabs, p.1 = P2 → p.2 = Str.ofString "joined_rows.<locals>.<lambda>" := fun p hp e => by
    rcases List.mem_cons.mp hp with rfl | hp
    · exact absurd e ne
    · rw [List.mem_singleton.mp hp] <;> rfl
  exact ⟨f, fd, _, gm, F.fn.kp, F.fn.binds fun _ _ _ _ _ _ us hl => match us, hl with | [_, _], _ => rfl, ok_joined_rows F fmb gmb TB2 hm2 hu2 X.ml X.me X.mt (cal_beats_of X) (fun _ => cal_least_rows X) (fun _ => cal_step_rows X)⟩
theorem cal_watcher (X : Facts K w mg c1 c2 fa) (ne : P1 ≠ P2) (TB1 : LamX.TabB base mg c1 P1) (TB2 : LamX.TabB base mg c2 P2) : Cal P w K mg base 11 "watcher" (SpD (T0 P1 P2) K R_watcher) := by
  obtain ⟨f, fd, F, gm⟩ := X.h_watcher
  exact ⟨f, fd, _, gm, F.kp, F.binds fun _ _ _ _ _ _ us hl => match us, hl with | [_, _], _ => rfl, ok_watcher F (cal_need_sentence X) (cal_watcher_by X ne TB1 TB2)⟩
theorem cal_many_of {T : Tb} (X : Facts K w mg c1 c2 fa) : Cal P w K mg base 1 "many_of" (SpD T K R_many) := by
  obtain ⟨f, fd, F, gm⟩ := X.h_many_of
  exact ⟨f, fd, _, gm, F.kp, F.binds fun _ _ _ _ _ _ us hl => match us, hl with | [_], _ => rfl, ok_many_of F X.ml⟩
theorem cal_together (X : Facts K w mg c1 c2 fa) (ne : P1 ≠ P2) (TB1 : LamX.TabB base mg c1 P1) (TB2 : LamX.TabB base mg c2 P2) : Cal P w K mg base 11 "together" (SpD (T0 P1 P2) K R_together) := by
  obtain ⟨f, fd, F, gm⟩ := X.h_together
  obtain ⟨t_mMS, mMS⟩ := X.mMS
  obtain ⟨t_mMT, mMT⟩ := X.mMT
  exact ⟨f, fd, _, gm, F.kp, F.binds fun _ _ _ _ _ _ us hl => match us, hl with | [_, _], _ => rfl, ok_together F X.mI X.mt X.ml X.ma mMS mMT (cal_need_letters X) (cal_is_sentence_by X) (cal_watcher_by X ne TB1 TB2) (cal_many_of X) (cal_joined_rows X ne TB1 TB2)⟩
theorem cal_need_two {T : Tb} (X : Facts K w mg c1 c2 fa) : Cal P w K mg base 8 "need_two" (SpD T K R_need_two) := by
  obtain ⟨f, fd, F, gm⟩ := X.h_need_two
  exact ⟨f, fd, _, gm, F.kp, F.binds fun _ _ _ _ _ _ us hl => match us, hl with | [_, _, _], _ => rfl, ok_need_two F (cal_need_sentence X)⟩
theorem cal_parting (X : Facts K w mg c1 c2 fa) (ne : P1 ≠ P2) (TB1 : LamX.TabB base mg c1 P1) (TB2 : LamX.TabB base mg c2 P2) : Cal P w K mg base 11 "parting" (SpD (T0 P1 P2) K R_parting) := by
  obtain ⟨f, fd, F, gm⟩ := X.h_parting
  exact ⟨f, fd, _, gm, F.kp, F.binds fun _ _ _ _ _ _ us hl => match us, hl with | [_, _, _], _ => rfl, ok_parting F X.ml X.me (cal_need_two X) (cal_watcher_by X ne TB1 TB2) (cal_beats_of X)⟩
theorem cal__law_cell_at {T : Tb} (X : Facts K w mg c1 c2 fa) : Cal P w K mg base 1 "_law_cell_at" (SpD T K R_cell) := by
  obtain ⟨f, fd, F, gm⟩ := X.h__law_cell_at
  exact ⟨f, fd, _, gm, F.kp, F.binds fun _ _ _ _ _ _ us hl => match us, hl with | [_, _], _ => rfl, ok_cell F X.ml⟩
theorem cal__law_state {T : Tb} (X : Facts K w mg c1 c2 fa) : Cal P w K mg base 2 "_law_state" (SpN T K R_state) := by
  obtain ⟨f, fd, F, gm⟩ := X.h__law_state
  exact ⟨f, fd, _, gm, F.kp, F.binds fun _ _ _ _ _ _ us hl => match us, hl with | [_, _], _ => rfl, ok_state F X.mx (cal__law_cell_at X)⟩
theorem cal__law_choice {T : Tb} (X : Facts K w mg c1 c2 fa) : Cal P w K mg base 1 "_law_choice" (SpM T K R_choice) := by
  obtain ⟨f, fd, F, gm⟩ := X.h__law_choice
  exact ⟨f, fd, _, gm, F.kp, F.binds fun _ _ _ _ _ _ us hl => match us, hl with | [_, _], _ => rfl, ok_choice F⟩
theorem cal__law_letters {T : Tb} (X : Facts K w mg c1 c2 fa) : Cal P w K mg base 2 "_law_letters" (SpM T K R_letters) := by
  obtain ⟨f, fd, F, gm⟩ := X.h__law_letters
  exact ⟨f, fd, _, gm, F.kp, F.binds fun _ _ _ _ _ _ us hl => match us, hl with | [_], _ => rfl, ok_letters F (cal__law_choice X)⟩
theorem cal__law_beats {T : Tb} (X : Facts K w mg c1 c2 fa) : Cal P w K mg base 1 "_law_beats" (SpD T K R_beats_of) := by
  obtain ⟨f, fd, F, gm⟩ := X.h__law_beats
  exact ⟨f, fd, _, gm, F.kp, F.binds fun _ _ _ _ _ _ us hl => match us, hl with | [_], _ => rfl, ok_beats F⟩
theorem cal__law_atom {T : Tb} (X : Facts K w mg c1 c2 fa) : Cal P w K mg base 2 "_law_atom" (SpM T K R_atom) := by
  obtain ⟨f, fd, F, gm⟩ := X.h__law_atom
  exact ⟨f, fd, _, gm, F.kp, F.binds fun _ _ _ _ _ _ us hl => match us, hl with | [_, _, _], _ => rfl, ok_atom F X.ml (cal__law_choice X)⟩
theorem cal__law_saying {T : Tb} (X : Facts K w mg c1 c2 fa) : Cal P w K mg base 3 "_law_saying" (SpM T K R_say) := by
  obtain ⟨f, fd, F, gm⟩ := X.h__law_saying
  exact ⟨f, fd, _, gm, F.kp, F.binds fun _ _ _ _ _ _ us hl => match us, hl with | [_, _, _], _ => rfl, ok_say F X.mr (cal__law_choice X) (cal__law_atom X)⟩
theorem cal__law_sentence {T : Tb} (X : Facts K w mg c1 c2 fa) : Cal P w K mg base 4 "_law_sentence" (SpM T K R_sen) := by
  obtain ⟨f, fd, F, gm⟩ := X.h__law_sentence
  exact ⟨f, fd, _, gm, F.kp, F.binds fun _ _ _ _ _ _ us hl => match us, hl with | [_, _, _, _], _ => rfl, ok_sen F X.mr X.mt X.mi (cal__law_choice X) (cal__law_saying X)⟩
theorem cal__law_run {T : Tb} (X : Facts K w mg c1 c2 fa) : Cal P w K mg base 2 "_law_run" (SpM T K R_run) := by
  obtain ⟨f, fd, F, gm⟩ := X.h__law_run
  exact ⟨f, fd, _, gm, F.kp, F.binds fun _ _ _ _ _ _ us hl => match us, hl with | [_, _, _], _ => rfl, ok_run F X.mr X.mt X.ml (cal__law_choice X) (cal__law_beats X)⟩
theorem cal__law_renamed {T : Tb} (X : Facts K w mg c1 c2 fa) : Cal P w K mg base 5 "_law_renamed" (SpD T K (R_ren 4)) := by
  obtain ⟨f, fd, F, gm⟩ := X.h__law_renamed
  exact ⟨f, fd, _, gm, F.kp, F.binds fun _ _ _ _ _ _ us hl => match us, hl with | [_, _, _], _ => rfl, ok_ren_def F gm X.tup X.mi X.mt 4⟩
theorem cal__law_exchanged {T : Tb} (X : Facts K w mg c1 c2 fa) : Cal P w K mg base 5 "_law_exchanged" (SpD T K (R_exch 4)) := by
  obtain ⟨f, fd, F, gm⟩ := X.h__law_exchanged
  exact ⟨f, fd, _, gm, F.kp, F.binds fun _ _ _ _ _ _ us hl => match us, hl with | [_], _ => rfl, ok_exch F gm X.mi X.mt 4⟩
theorem cal__law_run_renamed {T : Tb} (X : Facts K w mg c1 c2 fa) : Cal P w K mg base 1 "_law_run_renamed" (SpD T K R_run_ren) := by
  obtain ⟨f, fd, F, gm⟩ := X.h__law_run_renamed
  exact ⟨f, fd, _, gm, F.kp, F.binds fun _ _ _ _ _ _ us hl => match us, hl with | [_, _, _], _ => rfl, ok_run_ren F X.tup X.mt⟩
theorem cals_all (X : Facts K w mg c1 c2 fa) (ne : P1 ≠ P2) (TB1 : LamX.TabB base mg c1 P1) (TB2 : LamX.TabB base mg c2 P2) : Cals (T0 P1 P2) P w K mg base where
  state := cal_up (cal__law_state X) (by decide)
  letters := cal_up (cal__law_letters X) (by decide)
  sen := cal_up (cal__law_sentence X) (by decide)
  ren := cal_up (cal__law_renamed X) (by decide)
  exch := cal_up (cal__law_exchanged X) (by decide)
  run := cal_up (cal__law_run X) (by decide)
  runren := cal_up (cal__law_run_renamed X) (by decide)
  watcher := cal_up (cal_watcher X ne TB1 TB2) (by decide)
  together := cal_up (cal_together X ne TB1 TB2) (by decide)
  parting := cal_up (cal_parting X ne TB1 TB2) (by decide)
  broken := cal_up (cal_broken_at X) (by decide)
  ml := X.ml
  mr := X.mr
  mx := X.mx
  mn := X.mn
  mI := X.mI
  mt := X.mt
  mz := X.mz
/-! ### from the end's heap -/
/-- what stands for good at first: the script -/
def F0 (a : Addr) (H : Hp) : Hp := fun b => if b = a then (match H a with
  | some (.lst xs) => some (.lst xs)
  | some (.frz o (.lst xs)) => some (.frz o (.lst xs))
  | _ => none) else none
theorem F0_same (a : Addr) (H : Hp) : Same (F0 a H) H := fun b o e => by
  unfold F0 at e
  split at e
  · rename_i hb
    subst hb
    split at e
    · rename_i h
      rw [← e]
      exact h
    · rename_i h
      rw [← e]
      exact h
    · cases e
  · cases e
theorem F0_lst {a b : Addr} {H : Hp} {o : HO} (e : F0 a H b = some o) : (∃ xs, o = .lst xs) ∨ ∃ ob xs, o = .frz ob (.lst xs) := by
  unfold F0 at e
  split at e
  · split at e
    · cases e
      exact .inl ⟨_, rfl⟩
    · cases e
      exact .inr ⟨_, _, rfl⟩
    · cases e
  · cases e
theorem F0_sql {a : Addr} {H : Hp} {xs : List V} (h : SqL K H a xs) : SqL K (F0 a H) a xs := by
  rcases h with (h | ⟨o, h⟩) | h
  · refine .inl (.inl ?_)
    unfold F0
    rw [if_pos rfl, h]
  · refine .inl (.inr ⟨o, ?_⟩)
    unfold F0
    rw [if_pos rfl, h]
  · exact .inr h
theorem F0_gd {a : Addr} {H : Hp} {h : Heap} (hok : HOk P w H h) (h1 : H P1 = some (.tbl #[])) (h2 : H P2 = some (.tbl #[])) : Gd (T0 P1 P2) (F0 a H) H where
  fh := F0_same a H
  nt := fun b ps e => by
    rcases F0_lst e with ⟨xs, z⟩ | ⟨ob, xs, z⟩ <;> cases z
  tb := fun p hp => by
    rcases List.mem_cons.mp hp with rfl | hp
    · exact LamX.TabS.nil h1
    · rw [List.mem_singleton.mp hp]
      exact LamX.TabS.nil h2
  sz := fun b xs e => by
    rcases e with e | e
    · exact (e.ok hok).1
    · exact (e.ok hok).1
  th := fun b xs e => by
    rcases F0_lst e with ⟨xs, z⟩ | ⟨ob, xs, z⟩ <;> cases z
  fz := fun b o xs e => by
    rcases F0_lst e with ⟨xs, z⟩ | ⟨ob, xs, z⟩ <;> cases z
  cd := fun c hc => by cases hc
  cp := trivial
theorem ints_dpa (F : Hp) : ∀ ns : List Int, DpAll K F (ns.map V.int) (ns.map PyData.int)
  | [] => .nil
  | n :: ns => .cons (.int n) (ints_dpa F ns)
/-- the end's promise -/
def spEnd (K : PySem.W.Frag) (P1 P2 : Addr) : Sp := fun vs H Q _ => ∃ (a : Addr) (ns : List Int), vs = [.ref a] ∧ ns.length ≤ 63 ∧ SqL K H a (ns.map V.int) ∧ H P1 = some (.tbl #[]) ∧ H P2 = some (.tbl #[]) ∧ ∀ H', Q (.bl true) H'
theorem end_ok {f : Addr} {fd : FuncData} {x : Str} {k : Nat} (F : FnOk P w K mg base CX0 k f fd [x] (SpD (T0 P1 P2) K R_law)) : FnOk P w K mg base CX0 k f fd [x] (spEnd K P1 P2) :=
  ⟨fun vs H Q E ⟨a, ns, e, _⟩ => by rw [e] <;> rfl, fun A outer s H args us vs Q E hr he hb hv ⟨a, ns, e, hl, hs, h1, h2, q⟩ => F.run A outer s H args us vs Q E hr he hb hv (by
    subst e
    exact ⟨F0 a H, [intsD ns], .bool true, F0_gd he.hok h1 h2, .cons (.lst (F0_sql hs) (ints_dpa _ ns)) .nil, ⟨ns, rfl, hl, rfl⟩, fun F' H' v n r => by
      cases r
      exact q H'⟩)⟩
theorem law_at {l : PySem.W.OpenLaw} {h : Heap} (X : Facts K w mg c1 c2 fa) (ne : P1 ≠ P2) (t1 : h.get? P1 = some { cls := .none, data := .fields #[] }) (t2 : h.get? P2 = some { cls := .none, data := .fields #[] }) (n1 : K.lookup P1 = none) (n2 : K.lookup P2 = none) (k1 : PySem.W.CodeHd h c1 P1) (k2 : PySem.W.CodeHd h c2 P2) :
    LamX.LawAtS l w K CX0 13 63 "_law_script" mg fa h := by
  obtain ⟨fd, F⟩ := X.h_law
  have two : ∀ {φ : Addr × Addr → Prop}, φ (c1, P1) → φ (c2, P2) → ∀ p ∈ [(c1, P1), (c2, P2)], φ p := fun a b p hp => by
    rcases List.mem_cons.mp hp with rfl | hp
    · exact a
    · rw [List.mem_singleton.mp hp]
      exact b
  refine ⟨fd, [(c1, P1), (c2, P2)], spEnd K P1 P2, two t1 t2, two n1 n2, two k1 k2, ?_, fun H a ns hl _ ht hs => ⟨a, ns, rfl, hl, hs, ht _ List.mem_cons_self, ht _ (List.mem_cons_of_mem _ List.mem_cons_self), fun _ => rfl⟩, fun base _ _ TB => ?_⟩
  · obtain ⟨oc, od, kV, doc, pm, an, cdv, ct, osl, e, _⟩ := F.ex
    subst e
    exact fun s u => .of_eq rfl
  · exact end_ok (ok_law F (cals_all X ne (TB _ List.mem_cons_self) (TB _ (List.mem_cons_of_mem _ List.mem_cons_self))))
theorem kind_tup {a t : Addr} {z : Str} {od : Option Addr} {n : Nat} {sl : Array (Option Value)} {x y : Int} {tx ty : Tok} (h1 : PySem.W.nsIn K a z = some (some (.ref t))) (h2 : K.lookup t = some ⟨.type "tuple", od, .seq #[.int x tx, .int y ty] n, sl⟩) : ∃ v u, PySem.W.nsIn K a z = some (some u) ∧ RelV v u ∧ VD K v (.tuple [.int x, .int y]) :=
  ⟨.ref t, .ref t, h1, rfl, fun F => .tup (xs := [.int x, .int y]) (.inr ⟨_, _, _, h2, rfl, rfl, by show (2 : Nat) ≤ sizeLine; decide, .cons ⟨tx, rfl⟩ (.cons ⟨ty, rfl⟩ .nil)⟩) (.cons (.int x) (.cons (.int y) .nil))⟩
theorem at_mk {x : Str} {st : Stmt} {f : Addr} {oc : Value} {od an : Option Addr} {osl : Array (Option Value)} {kV doc pm cdv ct : Value} (l : K.lookup f = some ⟨oc, od, .func (PySem.W.fnOf x x (defArgs st) (defBody st) (defScope st) .none kV doc pm an cdv ct), osl⟩)
    (c : PySem.W.codeIn K cdv x = true) (k : PySem.W.keepIn K (.ref f) = true) (h : mg x = some (.ref f)) : At K mg x st := ⟨_, _, fun_mk l c k, h⟩
theorem atC_mk {x : Str} {st : Stmt} {f co : Addr} {oc : Value} {od an : Option Addr} {osl : Array (Option Value)} {kV doc pm ct : Value} (l : K.lookup f = some ⟨oc, od, .func (PySem.W.fnOf x x (defArgs st) (defBody st) (defScope st) .none kV doc pm an (.ref co) ct), osl⟩)
    (c : PySem.W.codeIn K (.ref co) x = true) (k : PySem.W.keepIn K (.ref f) = true) (h : mg x = some (.ref f)) : AtC K mg x st co := ⟨_, _, ⟨⟨_, _, _, _, _, _, _, _, rfl, l, c⟩, k⟩, h⟩
theorem tok_i {x : Str} {z : Int} {t : Tok} (h : mg x = some (.int z t)) : ∃ t : Tok, mg x = some (.int z t) := ⟨t, h⟩
theorem tok_s {x z : Str} {t : Tok} (h : mg x = some (.str z t)) : ∃ t : Tok, mg x = some (.str z t) := ⟨t, h⟩
theorem law_of {f : Addr} (h : mg "law" = some (.ref fa)) (h2 : mg "law" = some (.ref f)) (F : ∃ fd, Fun K "law" "law" s_law f fd) : ∃ fd, Fun K "law" "law" s_law fa fd := by
  have e := h.symm.trans h2
  cases e
  exact F
theorem kd_of {a : Addr} {es : Array DictEntry} {n : Nat} (hm : mg "KINDS" = some (.ref a)) (kd : KDict K w a es n)
    (h1 : ∃ v u, PySem.W.nsIn K a "never" = some (some u) ∧ RelV v u ∧ VD K v (.tuple [.int 1, .int 0])) (h2 : ∃ v u, PySem.W.nsIn K a "after" = some (some u) ∧ RelV v u ∧ VD K v (.tuple [.int 2, .int 0]))
    (h3 : ∃ v u, PySem.W.nsIn K a "until" = some (some u) ∧ RelV v u ∧ VD K v (.tuple [.int 3, .int 0])) (h4 : ∃ v u, PySem.W.nsIn K a "within" = some (some u) ∧ RelV v u ∧ VD K v (.tuple [.int 2, .int 1]))
    (h5 : ∃ v u, PySem.W.nsIn K a "first" = some (some u) ∧ RelV v u ∧ VD K v (.tuple [.int 2, .int 0])) (h6 : ∃ v u, PySem.W.nsIn K a "most" = some (some u) ∧ RelV v u ∧ VD K v (.tuple [.int 1, .int 1]))
    (h7 : ∃ v u, PySem.W.nsIn K a "apart" = some (some u) ∧ RelV v u ∧ VD K v (.tuple [.int 1, .int 1])) : KdAt K w mg "KINDS" kindsD :=
  ⟨a, es, n, hm, kd, fun q hq => by
    rcases List.mem_cons.mp hq with rfl | hq
    · exact h1
    rcases List.mem_cons.mp hq with rfl | hq
    · exact h2
    rcases List.mem_cons.mp hq with rfl | hq
    · exact h3
    rcases List.mem_cons.mp hq with rfl | hq
    · exact h4
    rcases List.mem_cons.mp hq with rfl | hq
    · exact h5
    rcases List.mem_cons.mp hq with rfl | hq
    · exact h6
    rcases List.mem_cons.mp hq with rfl | hq
    · exact h7
    · cases hq⟩
def tupB (p : Addr × Obj) : Bool := match p.2.cls, p.2.dict with
  | .type "tuple", some _ => false
  | _, _ => true
theorem tupK_of (h : K.all tupB = true) : TupK K := fun a o e hc => by
  have hm : (a, o) ∈ K := by
    clear h hc
    induction K with
    | nil => cases e
    | cons p r ih =>
      obtain ⟨b, x⟩ := p
      simp only [List.lookup] at e
      split at e
      · rename_i q
        cases e
        rw [beq_iff_eq.mp q]
        exact List.mem_cons_self
      · exact List.mem_cons_of_mem _ (ih e)
  have q := List.all_eq_true.mp h _ hm
  unfold tupB at q
  rw [show (a, o).2.cls = o.cls from rfl, hc] at q
  cases z : o.dict with
  | none => rfl
  | some d =>
    rw [show (a, o).2.dict = o.dict from rfl, z] at q
    cases q
end
end
end Kx
open PySem PySem.W PyProof.Rows
set_option maxRecDepth 100000 in
set_option maxHeartbeats 0 in
theorem PySem.Challenge.cw_madetorule_k12_whole_letters_by_other_na_holds : PySem.Challenge.rw_madetorule_k12_whole_letters_by_other_na.Holds := by
  w_on; o_law; k_head; (case hw => w_witness2)
  k_fill
  refine LamX.walk_ofTs (l := PySem.Challenge.rw_madetorule_k12_whole_letters_by_other_na) (n := 63) (k := 13) (x := "_law_script") (CX := fun _ => L2.CX0) rfl (by decide) rfl ⟨rfl, by decide, by decide⟩ (fun w h Y => PySem.W.km_in_of Y) ?F fun _ _ _ _ _ z => z
  case F =>
    intro w mg fa h Y KX G hmg
    have hT := PySem.W.km_tabs_of Y
    refine' Kx.law_at (P1 := 252) (P2 := 273) (c1 := _) (c2 := _) ?X (by decide) (hT 252 (by simp)) (hT 273 (by simp)) ?n1 ?n2 ?k1 ?k2
    case X =>
      refine' ⟨Kx.at_mk ?l_is_whole ?c_is_whole ?k_is_whole (PySem.W.mg_of KX G ?a_is_whole),
        Kx.at_mk ?l_is_within ?c_is_within ?k_is_within (PySem.W.mg_of KX G ?a_is_within),
        Kx.at_mk ?l_is_word ?c_is_word ?k_is_word (PySem.W.mg_of KX G ?a_is_word),
        Kx.at_mk ?l_are_words ?c_are_words ?k_are_words (PySem.W.mg_of KX G ?a_are_words),
        Kx.at_mk ?l_is_letters ?c_is_letters ?k_is_letters (PySem.W.mg_of KX G ?a_is_letters),
        Kx.at_mk ?l_need_letters ?c_need_letters ?k_need_letters (PySem.W.mg_of KX G ?a_need_letters),
        Kx.at_mk ?l_beats_of ?c_beats_of ?k_beats_of (PySem.W.mg_of KX G ?a_beats_of),
        Kx.at_mk ?l_is_beat ?c_is_beat ?k_is_beat (PySem.W.mg_of KX G ?a_is_beat),
        Kx.at_mk ?l_is_saying_by ?c_is_saying_by ?k_is_saying_by (PySem.W.mg_of KX G ?a_is_saying_by),
        Kx.at_mk ?l_is_so_by ?c_is_so_by ?k_is_so_by (PySem.W.mg_of KX G ?a_is_so_by),
        Kx.at_mk ?l_is_sentence_by ?c_is_sentence_by ?k_is_sentence_by (PySem.W.mg_of KX G ?a_is_sentence_by),
        Kx.at_mk ?l_need_sentence ?c_need_sentence ?k_need_sentence (PySem.W.mg_of KX G ?a_need_sentence),
        Kx.at_mk ?l_is_run ?c_is_run ?k_is_run (PySem.W.mg_of KX G ?a_is_run),
        Kx.at_mk ?l_need_run ?c_need_run ?k_need_run (PySem.W.mg_of KX G ?a_need_run),
        Kx.at_mk ?l_step_within ?c_step_within ?k_step_within (PySem.W.mg_of KX G ?a_step_within),
        Kx.at_mk ?l_step_counted ?c_step_counted ?k_step_counted (PySem.W.mg_of KX G ?a_step_counted),
        Kx.at_mk ?l_step_marked ?c_step_marked ?k_step_marked (PySem.W.mg_of KX G ?a_step_marked),
        Kx.at_mk ?l_step_by ?c_step_by ?k_step_by (PySem.W.mg_of KX G ?a_step_by),
        Kx.at_mk ?l_broken_at_by ?c_broken_at_by ?k_broken_at_by (PySem.W.mg_of KX G ?a_broken_at_by),
        Kx.at_mk ?l_broken_at ?c_broken_at ?k_broken_at (PySem.W.mg_of KX G ?a_broken_at),
        Kx.at_mk ?l_step_rows ?c_step_rows ?k_step_rows (PySem.W.mg_of KX G ?a_step_rows),
        Kx.at_mk ?l_renumbered ?c_renumbered ?k_renumbered (PySem.W.mg_of KX G ?a_renumbered),
        Kx.at_mk ?l_classes_of ?c_classes_of ?k_classes_of (PySem.W.mg_of KX G ?a_classes_of),
        Kx.at_mk ?l_least_rows ?c_least_rows ?k_least_rows (PySem.W.mg_of KX G ?a_least_rows),
        Kx.atC_mk ?l_watcher_by ?c_watcher_by ?k_watcher_by (PySem.W.mg_of KX G ?a_watcher_by),
        Kx.atC_mk ?l_joined_rows ?c_joined_rows ?k_joined_rows (PySem.W.mg_of KX G ?a_joined_rows),
        Kx.at_mk ?l_watcher ?c_watcher ?k_watcher (PySem.W.mg_of KX G ?a_watcher),
        Kx.at_mk ?l_many_of ?c_many_of ?k_many_of (PySem.W.mg_of KX G ?a_many_of),
        Kx.at_mk ?l_together ?c_together ?k_together (PySem.W.mg_of KX G ?a_together),
        Kx.at_mk ?l_need_two ?c_need_two ?k_need_two (PySem.W.mg_of KX G ?a_need_two),
        Kx.at_mk ?l_parting ?c_parting ?k_parting (PySem.W.mg_of KX G ?a_parting),
        Kx.at_mk ?l__law_cell_at ?c__law_cell_at ?k__law_cell_at (PySem.W.mg_of KX G ?a__law_cell_at),
        Kx.at_mk ?l__law_state ?c__law_state ?k__law_state (PySem.W.mg_of KX G ?a__law_state),
        Kx.at_mk ?l__law_choice ?c__law_choice ?k__law_choice (PySem.W.mg_of KX G ?a__law_choice),
        Kx.at_mk ?l__law_letters ?c__law_letters ?k__law_letters (PySem.W.mg_of KX G ?a__law_letters),
        Kx.at_mk ?l__law_beats ?c__law_beats ?k__law_beats (PySem.W.mg_of KX G ?a__law_beats),
        Kx.at_mk ?l__law_atom ?c__law_atom ?k__law_atom (PySem.W.mg_of KX G ?a__law_atom),
        Kx.at_mk ?l__law_saying ?c__law_saying ?k__law_saying (PySem.W.mg_of KX G ?a__law_saying),
        Kx.at_mk ?l__law_sentence ?c__law_sentence ?k__law_sentence (PySem.W.mg_of KX G ?a__law_sentence),
        Kx.at_mk ?l__law_run ?c__law_run ?k__law_run (PySem.W.mg_of KX G ?a__law_run),
        Kx.at_mk ?l__law_renamed ?c__law_renamed ?k__law_renamed (PySem.W.mg_of KX G ?a__law_renamed),
        Kx.at_mk ?l__law_exchanged ?c__law_exchanged ?k__law_exchanged (PySem.W.mg_of KX G ?a__law_exchanged),
        Kx.at_mk ?l__law_run_renamed ?c__law_run_renamed ?k__law_run_renamed (PySem.W.mg_of KX G ?a__law_run_renamed),
        Kx.at_mk ?l_machine_by ?c_machine_by ?k_machine_by (PySem.W.mg_of KX G ?a_machine_by),
        Kx.law_of hmg (PySem.W.mg_of KX G ?a_law) ⟨_, L2.fun_mk ?l_law ?c_law ?k_law⟩,
        PySem.W.mg_none_of KX G ?z_ml,
        PySem.W.mg_none_of KX G ?z_mr,
        PySem.W.mg_none_of KX G ?z_mx,
        PySem.W.mg_none_of KX G ?z_mn,
        PySem.W.mg_none_of KX G ?z_mI,
        PySem.W.mg_none_of KX G ?z_mt,
        PySem.W.mg_none_of KX G ?z_mz,
        PySem.W.mg_none_of KX G ?z_mi,
        PySem.W.mg_none_of KX G ?z_ms,
        PySem.W.mg_none_of KX G ?z_ma,
        PySem.W.mg_none_of KX G ?z_me,
        PySem.W.mg_none_of KX G ?z_mb,
        Kx.tok_s (PySem.W.mg_of KX G ?z_mS),
        Kx.tok_i (PySem.W.mg_of KX G ?z_mML),
        Kx.tok_i (PySem.W.mg_of KX G ?z_mMD),
        Kx.tok_i (PySem.W.mg_of KX G ?z_mMN),
        Kx.tok_i (PySem.W.mg_of KX G ?z_mMS),
        Kx.tok_i (PySem.W.mg_of KX G ?z_mMT),
        Kx.kd_of (PySem.W.mg_of KX G ?kd_a) ⟨?kd_t, ?kd_l, ?kd_w⟩ (Kx.kind_tup ?kh_0 ?kg_0) (Kx.kind_tup ?kh_1 ?kg_1) (Kx.kind_tup ?kh_2 ?kg_2) (Kx.kind_tup ?kh_3 ?kg_3) (Kx.kind_tup ?kh_4 ?kg_4) (Kx.kind_tup ?kh_5 ?kg_5) (Kx.kind_tup ?kh_6 ?kg_6),
        Kx.tupK_of (by kernel_rfl)⟩
      (case a_is_whole => k_is)
      (case l_is_whole => k_is)
      (case c_is_whole => k_is)
      (case k_is_whole => k_is)
      (case a_is_within => k_is)
      (case l_is_within => k_is)
      (case c_is_within => k_is)
      (case k_is_within => k_is)
      (case a_is_word => k_is)
      (case l_is_word => k_is)
      (case c_is_word => k_is)
      (case k_is_word => k_is)
      (case a_are_words => k_is)
      (case l_are_words => k_is)
      (case c_are_words => k_is)
      (case k_are_words => k_is)
      (case a_is_letters => k_is)
      (case l_is_letters => k_is)
      (case c_is_letters => k_is)
      (case k_is_letters => k_is)
      (case a_need_letters => k_is)
      (case l_need_letters => k_is)
      (case c_need_letters => k_is)
      (case k_need_letters => k_is)
      (case a_beats_of => k_is)
      (case l_beats_of => k_is)
      (case c_beats_of => k_is)
      (case k_beats_of => k_is)
      (case a_is_beat => k_is)
      (case l_is_beat => k_is)
      (case c_is_beat => k_is)
      (case k_is_beat => k_is)
      (case a_is_saying_by => k_is)
      (case l_is_saying_by => k_is)
      (case c_is_saying_by => k_is)
      (case k_is_saying_by => k_is)
      (case a_is_so_by => k_is)
      (case l_is_so_by => k_is)
      (case c_is_so_by => k_is)
      (case k_is_so_by => k_is)
      (case a_is_sentence_by => k_is)
      (case l_is_sentence_by => k_is)
      (case c_is_sentence_by => k_is)
      (case k_is_sentence_by => k_is)
      (case a_need_sentence => k_is)
      (case l_need_sentence => k_is)
      (case c_need_sentence => k_is)
      (case k_need_sentence => k_is)
      (case a_is_run => k_is)
      (case l_is_run => k_is)
      (case c_is_run => k_is)
      (case k_is_run => k_is)
      (case a_need_run => k_is)
      (case l_need_run => k_is)
      (case c_need_run => k_is)
      (case k_need_run => k_is)
      (case a_step_within => k_is)
      (case l_step_within => k_is)
      (case c_step_within => k_is)
      (case k_step_within => k_is)
      (case a_step_counted => k_is)
      (case l_step_counted => k_is)
      (case c_step_counted => k_is)
      (case k_step_counted => k_is)
      (case a_step_marked => k_is)
      (case l_step_marked => k_is)
      (case c_step_marked => k_is)
      (case k_step_marked => k_is)
      (case a_step_by => k_is)
      (case l_step_by => k_is)
      (case c_step_by => k_is)
      (case k_step_by => k_is)
      (case a_broken_at_by => k_is)
      (case l_broken_at_by => k_is)
      (case c_broken_at_by => k_is)
      (case k_broken_at_by => k_is)
      (case a_broken_at => k_is)
      (case l_broken_at => k_is)
      (case c_broken_at => k_is)
      (case k_broken_at => k_is)
      (case a_step_rows => k_is)
      (case l_step_rows => k_is)
      (case c_step_rows => k_is)
      (case k_step_rows => k_is)
      (case a_renumbered => k_is)
      (case l_renumbered => k_is)
      (case c_renumbered => k_is)
      (case k_renumbered => k_is)
      (case a_classes_of => k_is)
      (case l_classes_of => k_is)
      (case c_classes_of => k_is)
      (case k_classes_of => k_is)
      (case a_least_rows => k_is)
      (case l_least_rows => k_is)
      (case c_least_rows => k_is)
      (case k_least_rows => k_is)
      (case a_watcher_by => k_is)
      (case l_watcher_by => k_is)
      (case c_watcher_by => k_is)
      (case k_watcher_by => k_is)
      (case a_joined_rows => k_is)
      (case l_joined_rows => k_is)
      (case c_joined_rows => k_is)
      (case k_joined_rows => k_is)
      (case a_watcher => k_is)
      (case l_watcher => k_is)
      (case c_watcher => k_is)
      (case k_watcher => k_is)
      (case a_many_of => k_is)
      (case l_many_of => k_is)
      (case c_many_of => k_is)
      (case k_many_of => k_is)
      (case a_together => k_is)
      (case l_together => k_is)
      (case c_together => k_is)
      (case k_together => k_is)
      (case a_need_two => k_is)
      (case l_need_two => k_is)
      (case c_need_two => k_is)
      (case k_need_two => k_is)
      (case a_parting => k_is)
      (case l_parting => k_is)
      (case c_parting => k_is)
      (case k_parting => k_is)
      (case a__law_cell_at => k_is)
      (case l__law_cell_at => k_is)
      (case c__law_cell_at => k_is)
      (case k__law_cell_at => k_is)
      (case a__law_state => k_is)
      (case l__law_state => k_is)
      (case c__law_state => k_is)
      (case k__law_state => k_is)
      (case a__law_choice => k_is)
      (case l__law_choice => k_is)
      (case c__law_choice => k_is)
      (case k__law_choice => k_is)
      (case a__law_letters => k_is)
      (case l__law_letters => k_is)
      (case c__law_letters => k_is)
      (case k__law_letters => k_is)
      (case a__law_beats => k_is)
      (case l__law_beats => k_is)
      (case c__law_beats => k_is)
      (case k__law_beats => k_is)
      (case a__law_atom => k_is)
      (case l__law_atom => k_is)
      (case c__law_atom => k_is)
      (case k__law_atom => k_is)
      (case a__law_saying => k_is)
      (case l__law_saying => k_is)
      (case c__law_saying => k_is)
      (case k__law_saying => k_is)
      (case a__law_sentence => k_is)
      (case l__law_sentence => k_is)
      (case c__law_sentence => k_is)
      (case k__law_sentence => k_is)
      (case a__law_run => k_is)
      (case l__law_run => k_is)
      (case c__law_run => k_is)
      (case k__law_run => k_is)
      (case a__law_renamed => k_is)
      (case l__law_renamed => k_is)
      (case c__law_renamed => k_is)
      (case k__law_renamed => k_is)
      (case a__law_exchanged => k_is)
      (case l__law_exchanged => k_is)
      (case c__law_exchanged => k_is)
      (case k__law_exchanged => k_is)
      (case a__law_run_renamed => k_is)
      (case l__law_run_renamed => k_is)
      (case c__law_run_renamed => k_is)
      (case k__law_run_renamed => k_is)
      (case a_machine_by => k_is)
      (case l_machine_by => k_is)
      (case c_machine_by => k_is)
      (case k_machine_by => k_is)
      (case a_law => k_is)
      (case l_law => k_is)
      (case c_law => k_is)
      (case k_law => k_is)
      (case z_ml => k_is)
      (case z_mr => k_is)
      (case z_mx => k_is)
      (case z_mn => k_is)
      (case z_mI => k_is)
      (case z_mt => k_is)
      (case z_mz => k_is)
      (case z_mi => k_is)
      (case z_ms => k_is)
      (case z_ma => k_is)
      (case z_me => k_is)
      (case z_mb => k_is)
      (case z_mS => k_is)
      (case z_mML => k_is)
      (case z_mMD => k_is)
      (case z_mMN => k_is)
      (case z_mMS => k_is)
      (case z_mMT => k_is)
      (case kd_a => k_is)
      (case kd_t => k_is)
      (case kd_w => exact rfl)
      (case kd_l => exact ⟨⟨_, _, rfl, rfl⟩, ⟨_, _, rfl, rfl⟩, ⟨_, _, rfl, rfl⟩, ⟨_, _, rfl, rfl⟩, ⟨_, _, rfl, rfl⟩, ⟨_, _, rfl, rfl⟩, ⟨_, _, rfl, rfl⟩, trivial⟩)
      (case kh_0 => k_is)
      (case kg_0 => k_is)
      (case kh_1 => k_is)
      (case kg_1 => k_is)
      (case kh_2 => k_is)
      (case kg_2 => k_is)
      (case kh_3 => k_is)
      (case kg_3 => k_is)
      (case kh_4 => k_is)
      (case kg_4 => k_is)
      (case kh_5 => k_is)
      (case kg_5 => k_is)
      (case kh_6 => k_is)
      (case kg_6 => k_is)
    case n1 => kernel_rfl
    case n2 => kernel_rfl
    case k1 => exact PySem.W.codeHd_of_K KX (by kernel_rfl)
    case k2 => exact PySem.W.codeHd_of_K KX (by kernel_rfl)
