import PyProof.Rows.All
import HandS.ForMost
import HandS.Flow
import HandS.Style
import HandS.Wide
import HandS.Deep
import HandS.Star
import HandS.IsInst
import HandS.Conv
import HandS.Zip
import HandS.DictComp
import HandS.MakeKwOnly
import HandS.Defaults
import KE.SortData
import KE.SortKeyHeap
import HandS.TupAny
import HandS.ListItems
import PySem.Challenge.RW_huebill_k11_whole_excesses
import KE.GoesEnum
import KE.GoesMore
import HandS.TupSets
import KE.KDictZip
import KE.KDictList
import OpenK.KMeth
import KE.KCallOwn
import HandS.WordsDict
import HandS.FStr
import PyProof.SliceList
import PyProof.Rows.RuleB_pow
import HandS.SortKw
import PyProof.CallFns
import HandS.Nested
import HandS.AnyAll
import HandS.GenOver
import HandS.GenList
import KE.KDictIter
import HandS.HeadHook4
import HandS.HeadWalk
import HandS.Head0
import HandS.Head1
import HandS.Head2
import HandS.HeadEnd
set_option Elab.async false
set_option linter.all false
set_option maxRecDepth 100000
set_option maxHeartbeats 0
namespace HB
open PySem L2 PyProof.Rows PySem.Spec

abbrev Ads := Addr → Prop
def soft : HO → Bool
  | .dK _ => true
  | .dT _ => true
  | _ => false
mutual
inductive Rp (ex : Ads) (H : Hp) : V → PyData → Prop
  | non : Rp ex H .non .none
  | bl (b : Bool) : Rp ex H (.bl b) (.bool b)
  | int (i : Int) : Rp ex H (.int i) (.int i)
  | str (x : Str) : Rp ex H (.str x) (.str x)
  | lst {a : Addr} {xs : List V} {ds : List PyData} : H a = some (.lst xs) → ¬ ex a → RpAll ex H xs ds → Rp ex H (.ref a) (.list ds)
  | tup {a : Addr} {xs : List V} {ds : List PyData} : H a = some (.tup xs) → ¬ ex a → RpAll ex H xs ds → Rp ex H (.ref a) (.tuple ds)
inductive RpAll (ex : Ads) (H : Hp) : List V → List PyData → Prop
  | nil : RpAll ex H [] []
  | cons {v : V} {vs : List V} {d : PyData} {ds : List PyData} : Rp ex H v d → RpAll ex H vs ds → RpAll ex H (v :: vs) (d :: ds)
end
/-- what stood apart from ex stands apart from ex' -/
structure Kp (ex ex' : Ads) (H H' : Hp) : Prop where
  hard : ∀ a u, H a = some u → ¬ ex a → soft u = false → (∀ o w, u ≠ .frz o w) → H' a = some u ∧ ¬ ex' a
  soft : ∀ a u, soft u = true → Rd H a u → ¬ ex a → Rd H' a u ∧ ¬ ex' a
  frz : ∀ a o xs, H a = some (.frz o (.lst xs)) → ¬ ex a → H' a = some (.frz o (.lst xs)) ∧ ¬ ex' a
theorem Kp.refl (ex : Ads) (H : Hp) : Kp ex ex H H := ⟨fun _ _ e n _ _ => ⟨e, n⟩, fun _ _ _ e n => ⟨e, n⟩, fun _ _ _ e n => ⟨e, n⟩⟩
theorem Kp.trans {e1 e2 e3 : Ads} {H1 H2 H3 : Hp} (a : Kp e1 e2 H1 H2) (b : Kp e2 e3 H2 H3) : Kp e1 e3 H1 H3 :=
  ⟨fun x u e n s f => let ⟨e', n'⟩ := a.hard x u e n s f; b.hard x u e' n' s f, fun x u s e n => let ⟨e', n'⟩ := a.soft x u s e n; b.soft x u s e' n', fun x o xs e n => let ⟨e', n'⟩ := a.frz x o xs e n; b.frz x o xs e' n'⟩
/-- objects are kept -/
theorem Kp.of {ex ex' : Ads} {H H' : Hp} (h : ∀ a o, H a = some o → ¬ ex a → H' a = some o ∧ ¬ ex' a) : Kp ex ex' H H' := by
  refine ⟨fun a u e n _ _ => h a u e n, fun a u _ e n => ?_, fun a o xs e n => h a _ e n⟩
  rcases e with e | ⟨o, e⟩
  · exact ⟨.inl (h a _ e n).1, (h a _ e n).2⟩
  · exact ⟨.inr ⟨o, (h a _ e n).1⟩, (h a _ e n).2⟩
theorem Rp.fr {ex ex' : Ads} {H H' : Hp} (k : Kp ex ex' H H') {v : V} {d : PyData} (h : Rp ex H v d) : Rp ex' H' v d := by
  refine Rp.rec (motive_1 := fun v d _ => Rp ex' H' v d) (motive_2 := fun vs ds _ => RpAll ex' H' vs ds) .non (fun b => .bl b) (fun i => .int i) (fun x => .str x) (fun e n _ ih => ?_) (fun e n _ ih => ?_) .nil (fun _ _ a b => .cons a b) h
  · obtain ⟨e', n'⟩ := k.hard _ _ e n rfl (fun _ _ z => by cases z)
    exact .lst e' n' ih
  · obtain ⟨e', n'⟩ := k.hard _ _ e n rfl (fun _ _ z => by cases z)
    exact .tup e' n' ih
theorem RpAll.fr {ex ex' : Ads} {H H' : Hp} (k : Kp ex ex' H H') : ∀ {vs : List V} {ds : List PyData}, RpAll ex H vs ds → RpAll ex' H' vs ds
  | _, _, .nil => .nil
  | _, _, .cons a b => .cons (a.fr k) (b.fr k)
theorem Rp.dp {K : PySem.W.Frag} {ex : Ads} {H : Hp} {v : V} {d : PyData} (h : Rp ex H v d) : Dp K H v d := by
  refine Rp.rec (motive_1 := fun v d _ => Dp K H v d) (motive_2 := fun vs ds _ => DpAll K H vs ds) .non (fun b => .bl b) (fun i => .int i) (fun x => .str x) (fun e n _ ih => .lst (.inl (.inl e)) ih) (fun e n _ ih => .tup (.inl (.inl e)) ih) .nil (fun _ _ a b => .cons a b) h
theorem RpAll.dp {K : PySem.W.Frag} {ex : Ads} {H : Hp} : ∀ {vs : List V} {ds : List PyData}, RpAll ex H vs ds → DpAll K H vs ds
  | _, _, .nil => .nil
  | _, _, .cons a b => .cons a.dp b.dp
section
variable {ex : Ads} {H : Hp}
theorem RpAll.length : ∀ {vs : List V} {ds : List PyData}, RpAll ex H vs ds → vs.length = ds.length
  | _, _, .nil => rfl
  | _, _, .cons _ b => congrArg Nat.succ b.length
theorem RpAll.get : ∀ {vs : List V} {ds : List PyData} {i : Nat} {d : PyData}, RpAll ex H vs ds → ds[i]? = some d → ∃ v, vs[i]? = some v ∧ Rp ex H v d
  | _, _, _, _, .nil, z => by simp at z
  | _, _, 0, _, .cons a _, e => ⟨_, rfl, by simp at e; exact e ▸ a⟩
  | _, _, i + 1, _, .cons _ b, e => by
    obtain ⟨v, e', r⟩ := RpAll.get (i := i) b (by simpa using e)
    exact ⟨v, by simpa using e', r⟩
theorem RpAll.get' : ∀ {vs : List V} {ds : List PyData} {i : Nat} {v : V}, RpAll ex H vs ds → vs[i]? = some v → ∃ d, ds[i]? = some d ∧ Rp ex H v d
  | _, _, _, _, .nil, z => by simp at z
  | _, _, 0, _, .cons a _, e => ⟨_, rfl, by simp at e; exact e ▸ a⟩
  | _, _, i + 1, _, .cons _ b, e => by
    obtain ⟨d, e', r⟩ := RpAll.get' (i := i) b (by simpa using e)
    exact ⟨d, by simpa using e', r⟩
theorem RpAll.append : ∀ {vs ws : List V} {ds es : List PyData}, RpAll ex H vs ds → RpAll ex H ws es → RpAll ex H (vs ++ ws) (ds ++ es)
  | _, _, _, _, .nil, b => b
  | _, _, _, _, .cons x a, b => .cons x (a.append b)
theorem RpAll.one {v : V} {d : PyData} (h : Rp ex H v d) : RpAll ex H [v] [d] := .cons h .nil
theorem RpAll.take : ∀ {vs : List V} {ds : List PyData} (n : Nat), RpAll ex H vs ds → RpAll ex H (vs.take n) (ds.take n)
  | _, _, 0, _ => .nil
  | _, _, _ + 1, .nil => .nil
  | _, _, n + 1, .cons x a => .cons x (a.take n)
theorem RpAll.drop : ∀ {vs : List V} {ds : List PyData} (n : Nat), RpAll ex H vs ds → RpAll ex H (vs.drop n) (ds.drop n)
  | _, _, 0, a => a
  | _, _, _ + 1, .nil => .nil
  | _, _, n + 1, .cons _ a => a.drop n
theorem RpAll.eraseIdx : ∀ {vs : List V} {ds : List PyData} (n : Nat), RpAll ex H vs ds → RpAll ex H (vs.eraseIdx n) (ds.eraseIdx n)
  | _, _, _, .nil => by simpa using RpAll.nil
  | _, _, 0, .cons _ a => by simpa using a
  | _, _, n + 1, .cons x a => by
    rw [List.eraseIdx_cons_succ, List.eraseIdx_cons_succ]
    exact .cons x (a.eraseIdx n)
theorem RpAll.reverse : ∀ {vs : List V} {ds : List PyData}, RpAll ex H vs ds → RpAll ex H vs.reverse ds.reverse
  | _, _, .nil => .nil
  | _, _, .cons x a => by
    (rw [List.reverse_cons, List.reverse_cons])
    exact a.reverse.append (.one x)
theorem RpAll.strs : ∀ {vs : List V} {xs : List Str}, RpAll ex H vs (xs.map .str) → vs = xs.map V.str
  | _, [], h => by cases h; rfl
  | _, x :: xs, h => by
    cases h with
    | cons a b =>
      cases a
      rw [b.strs]
      rfl
theorem RpAll.of_strs : ∀ (xs : List Str), RpAll ex H (xs.map V.str) (xs.map .str)
  | [] => .nil
  | x :: xs => .cons (.str x) (RpAll.of_strs xs)
theorem RpAll.ints : ∀ {vs : List V} {xs : List Int}, RpAll ex H vs (xs.map .int) → vs = xs.map V.int
  | _, [], h => by cases h; rfl
  | _, x :: xs, h => by
    cases h with
    | cons a b =>
      cases a
      rw [b.ints]
      rfl
theorem RpAll.bools : ∀ {vs : List V} {xs : List Bool}, RpAll ex H vs (xs.map .bool) → vs = xs.map V.bl
  | _, [], h => by cases h; rfl
  | _, x :: xs, h => by
    cases h with
    | cons a b =>
      cases a
      rw [b.bools]
      rfl
end

structure Ty where
  P : Ads → V → Hp → Prop
  fr : ∀ {ex ex' : Ads} {v : V} {H H' : Hp}, Kp ex ex' H H' → P ex v H → P ex' v H'
def D (d : PyData) : Ty := ⟨fun ex v H => Rp ex H v d, fun k h => h.fr k⟩
/-- a property of the value alone -/
def Ty.pure (p : V → Prop) : Ty := ⟨fun _ v _ => p v, fun _ h => h⟩
def Ty.is (x : V) : Ty := Ty.pure (· = x)
/-- some a, of which S -/
def Ty.some {α : Sort _} (S : α → Prop) (T : α → Ty) : Ty := ⟨fun ex v H => ∃ a, S a ∧ (T a).P ex v H, fun k ⟨a, s, h⟩ => ⟨a, s, (T a).fr k h⟩⟩
def Ty.any : Ty := Ty.pure fun _ => True
abbrev I (i : Int) : Ty := D (.int i)
abbrev Bo (b : Bool) : Ty := D (.bool b)
abbrev S_ (x : Str) : Ty := D (.str x)
abbrev L (ds : List PyData) : Ty := D (.list ds)
abbrev U (ds : List PyData) : Ty := D (.tuple ds)
/-- a tuple of typed things -/
def tupT (Ts : List Ty) : Ty := ⟨fun ex v H => ∃ a xs, v = .ref a ∧ H a = Option.some (.tup xs) ∧ ¬ ex a ∧ Paired (fun (T : Ty) x => T.P ex x H) Ts xs, fun k ⟨a, xs, e, h, n, p⟩ =>
  let ⟨h', n'⟩ := k.hard _ _ h n rfl (fun _ _ z => by cases z)
  ⟨a, xs, e, h', n', Paired.mapP p fun T x q => T.fr k q⟩⟩
/-- a list of typed things -/
def listT (Ts : List Ty) : Ty := ⟨fun ex v H => ∃ a xs, v = .ref a ∧ H a = Option.some (.lst xs) ∧ ¬ ex a ∧ Paired (fun (T : Ty) x => T.P ex x H) Ts xs, fun k ⟨a, xs, e, h, n, p⟩ =>
  let ⟨h', n'⟩ := k.hard _ _ h n rfl (fun _ _ z => by cases z)
  ⟨a, xs, e, h', n', Paired.mapP p fun T x q => T.fr k q⟩⟩
/-- a dict with text keys and typed values -/
def dictT (kts : List (Key × Ty)) : Ty := ⟨fun ex v H => ∃ a kvs, v = .ref a ∧ Rd H a (.dK kvs) ∧ ¬ ex a ∧ Paired (fun (p : Key × Ty) (q : Key × V) => p.1 = q.1 ∧ p.2.P ex q.2 H) kts kvs, fun k ⟨a, xs, e, h, n, p⟩ =>
  let ⟨h', n'⟩ := k.soft _ _ rfl h n
  ⟨a, xs, e, h', n', Paired.mapP p fun T x q => ⟨q.1, T.2.fr k q.2⟩⟩⟩
/-- a dict with tuple keys and scalar values -/
def tabT (kvs : List (List Key × V)) : Ty := ⟨fun ex v H => ∃ a, v = .ref a ∧ Rd H a (.dT kvs) ∧ ¬ ex a, fun k ⟨a, e, h, n⟩ =>
  let ⟨h', n'⟩ := k.soft _ _ rfl h n
  ⟨a, e, h', n'⟩⟩

/-- an instance of the class at C with typed fields -/
def insT (C : Addr) (fts : List (Str × Ty)) : Ty := ⟨fun ex v H => ∃ a dx fs, v = .ref a ∧ H a = Option.some (.ins C dx fs) ∧ ¬ ex a ∧ Paired (fun (p : Str × Ty) (q : Str × V) => p.1 = q.1 ∧ p.2.P ex q.2 H) fts fs, fun k ⟨a, dx, fs, e, h, n, p⟩ =>
  let ⟨h', n'⟩ := k.hard _ _ h n rfl (fun _ _ z => by cases z)
  ⟨a, dx, fs, e, h', n', Paired.mapP p fun T x q => ⟨q.1, T.2.fr k q.2⟩⟩⟩
/-- no tuple -/
def NoT (o : HO) : Prop := ∀ xs, o ≠ .tup xs
/-- the contents of an object of one's own -/
structure Cn where
  P : Ads → Hp → HO → Prop
  nt : ∀ {ex : Ads} {H : Hp} {o : HO}, P ex H o → NoT o
  fr : ∀ {ex ex' : Ads} {H H' : Hp} {o : HO}, Kp ex ex' H H' → P ex H o → P ex' H' o
def cnL (ds : List PyData) : Cn := ⟨fun ex H o => ∃ xs, o = .lst xs ∧ RpAll ex H xs ds, fun ⟨_, e, _⟩ _ z => (by rw [e] at z; cases z), fun k ⟨xs, e, h⟩ => ⟨xs, e, h.fr k⟩⟩
def cnK (kts : List (Key × Ty)) : Cn := ⟨fun ex H o => ∃ kvs, o = .dK kvs ∧ Paired (fun (p : Key × Ty) (q : Key × V) => p.1 = q.1 ∧ p.2.P ex q.2 H) kts kvs, fun ⟨_, e, _⟩ _ z => (by rw [e] at z; cases z), fun k ⟨xs, e, h⟩ => ⟨xs, e, Paired.mapP h fun T x q => ⟨q.1, T.2.fr k q.2⟩⟩⟩
def cnT (kvs : List (List Key × V)) : Cn := ⟨fun _ _ o => o = .dT kvs, fun e _ z => (by rw [e] at z; cases z), fun _ e => e⟩
def cnI (C dx : Addr) (fts : List (Str × Ty)) : Cn := ⟨fun ex H o => ∃ fs, o = .ins C dx fs ∧ Paired (fun (p : Str × Ty) (q : Str × V) => p.1 = q.1 ∧ p.2.P ex q.2 H) fts fs, fun ⟨_, e, _⟩ _ z => (by rw [e] at z; cases z), fun k ⟨xs, e, h⟩ => ⟨xs, e, Paired.mapP h fun T x q => ⟨q.1, T.2.fr k q.2⟩⟩⟩

/-- a shared cell with what stays true of it -/
abbrev Ph := List (Addr × Cn)
/-- ex: addresses that no typed value leans on; ph: shared cells with what stays true of them; own: cells of one's own with their contents; H0: the heap at the def's entry; bs: heaps at loops' entries -/
structure Mx where
  ex : Ads
  ph : Ph
  own : List (Addr × Cn)
  H0 : Hp
  bs : List Hp
  lk : List Addr
def NoF (o : HO) : Prop := ∀ o' u, o ≠ .frz o' u
def Nx (ex ex' : Ads) (H H' : Hp) : Prop := ∀ a o, H a = some o → ¬ ex a → H' a = some o ∧ ¬ ex' a
theorem Nx.kp {ex ex' : Ads} {H H' : Hp} (h : Nx ex ex' H H') : Kp ex ex' H H' := .of h
structure Hw (M : Mx) (H : Hp) : Prop where
  exin : ∀ a, M.ex a → ∃ o, H a = some o ∧ NoT o
  fn : ∀ p ∈ M.ph, ∀ q ∈ M.ph, p.1 = q.1 → p = q
  ph : ∀ p ∈ M.ph, M.ex p.1 ∧ ∃ o, H p.1 = some o ∧ p.2.P M.ex H o
  own : ∀ p ∈ M.own, M.ex p.1 ∧ M.H0 p.1 = none ∧ (∀ q ∈ M.ph, q.1 ≠ p.1) ∧ ∃ o, H p.1 = some o ∧ p.2.P M.ex H o
  nd : (M.own.map (·.1)).Nodup
  frm : ∀ a o, M.H0 a = some o → (∀ q ∈ M.ph, q.1 ≠ a) → H a = some o
  frb : ∀ b ∈ M.bs, ∀ a o, b a = some o → (∀ q ∈ M.ph, q.1 ≠ a) → (∀ q ∈ M.own, q.1 ≠ a) → H a = some o
  nf : ∀ a o u, H a = some (.frz o u) → M.H0 a = some (.frz o u)
  nk : ∀ a o u, M.H0 a = some (.frz o u) → HB.soft u = true → a ∈ M.lk
/-- what an expression may do -/
structure St (M : Mx) (H H' : Hp) : Prop where
  keep : ∀ a o, H a = some o → (∀ q ∈ M.ph, q.1 ≠ a) → H' a = some o
  ph : ∀ p ∈ M.ph, ∃ o, H' p.1 = some o ∧ p.2.P M.ex H' o
  nf : ∀ a o u, H' a = some (.frz o u) → H a = some (.frz o u)
abbrev Gm := List (Option Ty)
def Vr (M : Mx) (Γ : Gm) (σ : L2.St) (H : Hp) : Prop := ∀ (i : Nat) (T : Ty), Γ[i]? = some (some T) → ∃ v, σ[i]? = some (some v) ∧ T.P M.ex v H
structure Loc (M : Mx) (Γ : Gm) (σ : L2.St) (H : Hp) : Prop where
  hw : Hw M H
  len : Γ.length = σ.length
  var : Vr M Γ σ H
section
variable {M : Mx} {H H1 H2 H' : Hp} {Γ : Gm} {σ : L2.St} {v : V} {T : Ty}
theorem St.nx (w : Hw M H) (s : St M H H') : Nx M.ex M.ex H H' := fun a o e n => ⟨s.keep a o e fun q hq z => n (z ▸ (w.ph q hq).1), n⟩
theorem St.kp (w : Hw M H) (s : St M H H') : Kp M.ex M.ex H H' := (s.nx w).kp
theorem St.refl (w : Hw M H) : St M H H := ⟨fun _ _ e _ => e, fun p hp => (w.ph p hp).2, fun _ _ _ e => e⟩
theorem St.trans (a : St M H H1) (b : St M H1 H2) : St M H H2 := ⟨fun x o e n => b.keep x o (a.keep x o e n) n, b.ph, fun x o u e => a.nf x o u (b.nf x o u e)⟩
/-- the same cells, other things apart -/
theorem St.of {M' : Mx} (e : M'.ph = M.ph) (k : Kp M.ex M'.ex H' H') (s : St M H H') : St M' H H' := ⟨fun a o h n => s.keep a o h (e ▸ n), fun p hp => let ⟨o, e1, f⟩ := s.ph p (e ▸ hp); ⟨o, e1, p.2.fr k f⟩, s.nf⟩
theorem Hw.st (w : Hw M H) (s : St M H H') : Hw M H' := by
  refine ⟨fun a h => ?_, w.fn, fun p hp => ⟨(w.ph p hp).1, s.ph p hp⟩, fun p hp => ?_, w.nd, fun a o e n => s.keep a o (w.frm a o e n) n, fun b hb a o e n m => s.keep a o (w.frb b hb a o e n m) n, fun a o u e => w.nf a o u (s.nf a o u e), w.nk⟩
  · obtain ⟨o, e, n⟩ := w.exin a h
    by_cases q : ∃ q ∈ M.ph, q.1 = a
    · obtain ⟨q, hq, rfl⟩ := q
      obtain ⟨o', e', f⟩ := s.ph q hq
      exact ⟨o', e', q.2.nt f⟩
    · exact ⟨o, s.keep a o e fun r hr z => q ⟨r, hr, z⟩, n⟩
  · obtain ⟨a, b, c, o, e, h⟩ := w.own p hp
    exact ⟨a, b, c, o, s.keep _ _ e c, p.2.fr (s.kp w) h⟩
theorem Loc.st (l : Loc M Γ σ H) (s : St M H H') : Loc M Γ σ H' := ⟨l.hw.st s, l.len, fun i T e => let ⟨v, e', h⟩ := l.var i T e; ⟨v, e', T.fr (s.kp l.hw) h⟩⟩
theorem Hw.fresh (w : Hw M H) {p : Addr} (h : H p = none) : ¬ M.ex p := fun z => by
  obtain ⟨u, e, _⟩ := w.exin p z
  rw [h] at e
  cases e
theorem nf_upd {p : Addr} {o : HO} (no : NoF o) {a : Addr} {o' : Obj} {u : HO} (e : upd H p o a = some (.frz o' u)) : H a = some (.frz o' u) := by
  by_cases h : a = p
  · rw [h, upd_same] at e
    exact absurd (Option.some.inj e) (no o' u)
  · rwa [upd_ne h] at e
theorem Hw.new (w : Hw M H) {p : Addr} {o : HO} (h : H p = none) (no : NoF o := by intro _ _ z; cases z) : St M H (upd H p o) ∧ ¬ M.ex p := by
  refine ⟨⟨fun a u e _ => by rw [upd_ne (ne_of_none e h)]; exact e, fun q hq => ?_, fun a o' u e => nf_upd no e⟩, w.fresh h⟩
  obtain ⟨u, e, f⟩ := (w.ph q hq).2
  exact ⟨u, by rw [upd_ne (ne_of_none e h)]; exact e, q.2.fr (.of fun a u' e' n => ⟨by rw [upd_ne (ne_of_none e' h)]; exact e', n⟩) f⟩
/-- a slot set -/
theorem Loc.set (l : Loc M Γ σ H) {i : Nat} (h : T.P M.ex v H) : Loc M (Γ.set i (some T)) (σ.set i (some v)) H := by
  refine ⟨l.hw, by rw [List.length_set, List.length_set]; exact l.len, fun j T' e => ?_⟩
  by_cases hj : i = j
  · subst hj
    by_cases hi : i < Γ.length
    · rw [List.getElem?_set_self hi] at e
      cases e
      exact ⟨v, List.getElem?_set_self (by rw [← l.len]; exact hi), h⟩
    · rw [List.getElem?_eq_none (by rw [List.length_set]; omega)] at e
      cases e
  · rw [List.getElem?_set_ne hj] at e
    obtain ⟨v', e', h'⟩ := l.var j T' e
    exact ⟨v', by rw [List.getElem?_set_ne hj]; exact e', h'⟩
/-- fewer types, weaker types -/
theorem Loc.weak {Γ' : Gm} (l : Loc M Γ σ H) (hl : Γ'.length = Γ.length) (h : ∀ (i : Nat) (T : Ty), Γ'[i]? = some (some T) → ∃ T', Γ[i]? = some (some T') ∧ ∀ v, T'.P M.ex v H → T.P M.ex v H) : Loc M Γ' σ H :=
  ⟨l.hw, hl.trans l.len, fun i T e => let ⟨T', e', q⟩ := h i T e; let ⟨v, e2, r⟩ := l.var i T' e'; ⟨v, e2, q v r⟩⟩
/-- slots forgotten -/
def wipeG (Γ : Gm) : List Nat → Gm
  | [] => Γ
  | i :: is => (wipeG Γ is).set i none
theorem wipeG_length (Γ : Gm) : ∀ is : List Nat, (wipeG Γ is).length = Γ.length
  | [] => rfl
  | i :: is => by unfold wipeG; rw [List.length_set, wipeG_length Γ is]
theorem Loc.wipe (l : Loc M Γ σ H) : ∀ is : List Nat, Loc M (wipeG Γ is) (wipe σ is) H
  | [] => l
  | i :: is => by
    have q := l.wipe is
    refine ⟨q.hw, by unfold wipeG L2.wipe; rw [List.length_set, List.length_set]; exact q.len, fun j T e => ?_⟩
    unfold wipeG at e
    by_cases hj : i = j
    · subst hj
      by_cases hi : i < (wipeG Γ is).length
      · rw [List.getElem?_set_self hi] at e
        cases e
      · rw [List.getElem?_eq_none (by rw [List.length_set]; omega)] at e
        cases e
    · rw [List.getElem?_set_ne hj] at e
      obtain ⟨v, e', h⟩ := q.var j T e
      exact ⟨v, by unfold L2.wipe; rw [List.getElem?_set_ne hj]; exact e', h⟩

theorem Hw.exact (w : Hw M H) (hl : M.lk = []) {a : Addr} {u : HO} (su : HB.soft u = true) (h : Rd H a u) : H a = some u := by
  rcases h with h | ⟨o, h⟩
  · exact h
  · have q := w.nk a o u (w.nf a o u h) su
    rw [hl] at q
    cases q
def Mx.add (M : Mx) (p : Addr) (c : Cn) : Mx := { M with ex := fun a => M.ex a ∨ a = p, own := (p, c) :: M.own }
def setO : List (Addr × Cn) → Addr → Cn → List (Addr × Cn)
  | [], _, _ => []
  | (q, d) :: r, p, c => if q = p then (p, c) :: r else (q, d) :: setO r p c
theorem setO_keys (p : Addr) (c : Cn) : ∀ l : List (Addr × Cn), (setO l p c).map (·.1) = l.map (·.1)
  | [] => rfl
  | (q, d) :: r => by
    unfold setO
    split
    · rename_i h; rw [h]; rfl
    · rw [List.map_cons, setO_keys p c r, List.map_cons]
theorem setO_mem {p : Addr} {c : Cn} : ∀ {l : List (Addr × Cn)} {x : Addr × Cn}, (l.map (·.1)).Nodup → x ∈ setO l p c → (x = (p, c) ∧ p ∈ l.map (·.1)) ∨ (x ∈ l ∧ x.1 ≠ p)
  | [], _, _, h => by cases h
  | (q, d) :: r, x, nd, h => by
    (rw [List.map_cons, List.nodup_cons] at nd)
    unfold setO at h
    split at h
    · rename_i e
      rcases List.mem_cons.mp h with h | h
      · exact .inl ⟨h, by rw [e]; simp⟩
      · refine .inr ⟨List.mem_cons_of_mem _ h, fun z => nd.1 ?_⟩
        rw [e, ← z]
        exact List.mem_map.mpr ⟨x, h, rfl⟩
    · rename_i e
      rcases List.mem_cons.mp h with h | h
      · exact .inr ⟨h ▸ List.mem_cons_self, by rw [h]; exact e⟩
      · rcases setO_mem nd.2 h with ⟨a, b⟩ | ⟨a, b⟩
        · exact .inl ⟨a, List.mem_cons_of_mem _ b⟩
        · exact .inr ⟨List.mem_cons_of_mem _ a, b⟩
theorem Hw.frm0 (w : Hw M H) {p : Addr} (h : H p = none) : M.H0 p = none := by
  cases e : M.H0 p with
  | none => rfl
  | some o =>
    by_cases q : ∃ q ∈ M.ph, q.1 = p
    · obtain ⟨q, hq, rfl⟩ := q
      obtain ⟨_, o', e', _⟩ := w.ph q hq
      rw [h] at e'
      cases e'
    · have := w.frm p o e fun r hr z => q ⟨r, hr, z⟩
      rw [h] at this
      cases this
theorem kp_add (h : H v' = none) {c : Cn} {o : HO} : Kp M.ex (M.add v' c).ex H (upd H v' o) := .of fun a u e n => by
  have ne := ne_of_none e h
  exact ⟨by rw [upd_ne ne]; exact e, fun z => z.elim n ne⟩
theorem Loc.own_new (l : Loc M Γ σ H) {p : Addr} {c : Cn} {o : HO} (h : H p = none) (no : NoF o) (hc : c.P (M.add p c).ex (upd H p o) o) : Loc (M.add p c) Γ σ (upd H p o) := by
  have w := l.hw
  have k : Kp M.ex (M.add p c).ex H (upd H p o) := kp_add h
  have nph : ∀ q ∈ M.ph, q.1 ≠ p := fun q hq z => by
    obtain ⟨_, u, e, _⟩ := w.ph q hq
    rw [z, h] at e
    cases e
  have kp1 : ∀ a u, H a = some u → upd H p o a = some u := fun a u e => by rw [upd_ne (ne_of_none e h)]; exact e
  refine ⟨⟨fun a z => ?_, w.fn, fun q hq => ?_, fun q hq => ?_, ?_, fun a u e n => kp1 a u (w.frm a u e n), fun b hb a u e n m => kp1 a u (w.frb b hb a u e n fun q hq => m q (List.mem_cons_of_mem _ hq)), fun a o' u e => w.nf a o' u (nf_upd no e), w.nk⟩, l.len, fun i T e => ?_⟩
  · rcases z with z | z
    · obtain ⟨u, e, n⟩ := w.exin a z
      exact ⟨u, kp1 a u e, n⟩
    · rw [z]
      exact ⟨o, upd_same, c.nt hc⟩
  · obtain ⟨a, u, e, f⟩ := w.ph q hq
    exact ⟨.inl a, u, kp1 _ u e, q.2.fr k f⟩
  · (rcases List.mem_cons.mp hq with rfl | hq)
    · exact ⟨.inr rfl, w.frm0 h, nph, o, upd_same, hc⟩
    · obtain ⟨a, b, c', u, e, f⟩ := w.own q hq
      exact ⟨.inl a, b, c', u, kp1 _ u e, q.2.fr k f⟩
  · show ((p, c) :: M.own |>.map (·.1)).Nodup
    (rw [List.map_cons, List.nodup_cons])
    refine ⟨fun z => ?_, w.nd⟩
    obtain ⟨q, hq, e⟩ := List.mem_map.mp z
    obtain ⟨_, _, _, u, e', _⟩ := w.own q hq
    rw [show q.1 = p from e, h] at e'
    cases e'
  · obtain ⟨v, e', f⟩ := l.var i T e
    exact ⟨v, e', T.fr k f⟩
theorem kp_upd (n : M.ex v') {o : HO} : Kp M.ex M.ex H (upd H v' o) := .of fun a u e m => ⟨by rw [upd_ne (fun z : a = v' => m (by rw [z]; exact n))]; exact e, m⟩
/-- an own cell is written -/
theorem Loc.own_set (l : Loc M Γ σ H) {p : Addr} {c c' : Cn} {o : HO} (hp : (p, c) ∈ M.own) (no : NoF o) (hc : c'.P M.ex (upd H p o) o) : Loc { M with own := setO M.own p c' } Γ σ (upd H p o) := by
  have w := l.hw
  obtain ⟨n, h0, hn, _⟩ := w.own _ hp
  have k : Kp M.ex M.ex H (upd H p o) := kp_upd n
  have kp1 : ∀ a u, a ≠ p → H a = some u → upd H p o a = some u := fun a u ne e => by rw [upd_ne ne]; exact e
  refine ⟨⟨fun a z => ?_, w.fn, fun q hq => ?_, fun q hq => ?_, by rw [setO_keys]; exact w.nd, fun a u e m => ?_, fun b hb a u e m m2 => ?_, fun a o' u e => w.nf a o' u (nf_upd no e), w.nk⟩, l.len, fun i T e => ?_⟩
  · by_cases e : a = p
    · rw [e]
      exact ⟨o, upd_same, c'.nt hc⟩
    · obtain ⟨u, e', nn⟩ := w.exin a z
      exact ⟨u, kp1 a u e e', nn⟩
  · obtain ⟨a, u, e, f⟩ := w.ph q hq
    exact ⟨a, u, kp1 _ u (hn q hq) e, q.2.fr k f⟩
  · rcases setO_mem w.nd hq with ⟨rfl, _⟩ | ⟨hq, ne⟩
    · exact ⟨n, h0, hn, o, upd_same, hc⟩
    · obtain ⟨a, b, c', u, e, f⟩ := w.own q hq
      exact ⟨a, b, c', u, kp1 _ u ne e, q.2.fr k f⟩
  · refine kp1 a u (fun z => ?_) (w.frm a u e m)
    rw [z, h0] at e
    cases e
  · have keys : ∀ q ∈ M.own, q.1 ≠ a := fun q hq z => by
      have hk : q.1 ∈ (setO M.own p c').map (·.1) := by
        rw [setO_keys]
        exact List.mem_map.mpr ⟨q, hq, rfl⟩
      obtain ⟨r, hr, er⟩ := List.mem_map.mp hk
      exact m2 r hr (er.trans z)
    exact kp1 a u (fun z => keys _ hp z.symm) (w.frb b hb a u e m keys)
  · obtain ⟨v, e', f⟩ := l.var i T e
    exact ⟨v, e', T.fr k f⟩
/-- an own cell becomes a value like any other -/
theorem kp_drop {p : Addr} {c : Cn} : Kp (M.add p c).ex M.ex H H := .of fun _ _ e n => ⟨e, fun z => n (.inl z)⟩
theorem Loc.own_drop {p : Addr} {c : Cn} (l : Loc (M.add p c) Γ σ H) (hx : ¬ M.ex p) (hb : ∀ b ∈ M.bs, b p = none) : Loc M Γ σ H := by
  have w := l.hw
  have k : Kp (M.add p c).ex M.ex H H := kp_drop
  have nd := w.nd
  have nd : (p :: M.own.map (·.1)).Nodup := nd
  have phx : ∀ q ∈ M.ph, q.1 ≠ p := (w.own (p, c) List.mem_cons_self).2.2.1
  have unl : ∀ {a : Addr}, a ≠ p → (M.add p c).ex a → M.ex a := fun ne z => z.elim id fun z => absurd z ne
  refine ⟨⟨fun a z => w.exin a (.inl z), w.fn, fun q hq => let ⟨_, u, e, f⟩ := w.ph q hq; ⟨unl (phx q hq) (w.ph q hq).1, u, e, q.2.fr k f⟩, fun q hq => ?_, (List.nodup_cons.mp nd).2, w.frm, fun b hb' a u e n m => ?_, w.nf, w.nk⟩, l.len, fun i T e => ?_⟩
  · obtain ⟨a, b, c', u, e, f⟩ := w.own q (List.mem_cons_of_mem _ hq)
    exact ⟨unl (fun z => (List.nodup_cons.mp nd).1 (z ▸ List.mem_map.mpr ⟨q, hq, rfl⟩)) a, b, c', u, e, q.2.fr k f⟩
  · refine w.frb b hb' a u e n fun q hq => ?_
    (rcases List.mem_cons.mp hq with rfl | hq)
    · intro z
      have z : p = a := z
      rw [← z, hb b hb'] at e
      cases e
    · exact m q hq
  · obtain ⟨v, e', f⟩ := l.var i T e
    exact ⟨v, e', T.fr k f⟩
/-- what an own cell holds -/
theorem Loc.own_at {p : Addr} {c : Cn} (l : Loc M Γ σ H) (h : (p, c) ∈ M.own) : ∃ o, H p = some o ∧ c.P M.ex H o := let ⟨_, _, _, x⟩ := l.hw.own _ h; x
end

section
variable (X : Cx)
def wE (e : Expr) : TE := fun σ H Q => ∀ pins s, Inv X pins σ H s → wpAny (model X.prog X.w) X.A (eval e X.env) (EP X pins σ Q) X.xe s
def wT (e : Expr) : TT := fun σ H Q => ∀ pins s, Inv X pins σ H s → wpAny (model X.prog X.w) X.A (isTrue e X.env (eval e X.env)) (TP X pins σ Q) X.xe s
def wA (es : List Expr) : TA := fun σ H Q => ∀ pos pins s, Inv X pins σ H s → wpAny (model X.prog X.w) X.A (spliced (backTo pos (starEach es X.env))) (L2.AP X pins σ Q) X.xe s
def wB (st : List Stmt) : TS := fun D σ H => ∀ pins s, Inv X pins σ H s → wpAny (model X.prog X.w) X.A (execs st X.env) (SP X pins D) X.xe s
end
section
variable {X : Cx} {e : Expr} {es : List Expr} {ss : List Stmt} {σ : L2.St} {H : Hp}
theorem pe_w : PE X e (wE X e) := ⟨fun pins s _ _ _ I h => h pins s I⟩
theorem pt_w : PT X e (wT X e) := ⟨fun pins s _ _ _ I h => h pins s I⟩
theorem pa_w : PA X es (wA X es) := ⟨fun pos pins s _ _ _ I h => h pos pins s I⟩
theorem pb_w : PSs X ss (wB X ss) := ⟨fun pins s _ _ _ I h => h pins s I⟩
theorem wE.of {te : TE} {Q : VK} (h : PE X e te) (q : te σ H Q) : wE X e σ H Q := fun pins s I => h.run pins s σ H Q I q
theorem wT.of {tt : TT} {Q : Bool → Hp → Prop} (h : PT X e tt) (q : tt σ H Q) : wT X e σ H Q := fun pins s I => h.run pins s σ H Q I q
theorem wA.of {ta : TA} {Q : List V → Hp → Prop} (h : PA X es ta) (q : ta σ H Q) : wA X es σ H Q := fun pos pins s I => h.run pos pins s σ H Q I q
theorem wB.of {ts : TS} {D : Ends} (h : PSs X ss ts) (q : ts D σ H) : wB X ss D σ H := fun pins s I => h.run pins s σ H D I q
theorem wE.mono {Q Q' : VK} (h : wE X e σ H Q) (k : ∀ v H', Q v H' → Q' v H') : wE X e σ H Q' := fun pins s I => thn (h pins s I) fun u s' ⟨v, H', I', r, q⟩ => ⟨v, H', I', r, k v H' q⟩
theorem wT.mono {Q Q' : Bool → Hp → Prop} (h : wT X e σ H Q) (k : ∀ v H', Q v H' → Q' v H') : wT X e σ H Q' := fun pins s I => thn (h pins s I) fun u s' ⟨H', I', q⟩ => ⟨H', I', k _ H' q⟩
theorem wA.mono {Q Q' : List V → Hp → Prop} (h : wA X es σ H Q) (k : ∀ v H', Q v H' → Q' v H') : wA X es σ H Q' := fun pos pins s I => thn (h pos pins s I) fun u s' ⟨v, H', I', r, q⟩ => ⟨v, H', I', r, k v H' q⟩
end

/-- e has the type T -/
def E (X : Cx) (M : Mx) (Γ : Gm) (e : Expr) (T : Ty) : Prop := ∀ σ H, Loc M Γ σ H → wE X e σ H fun v H' => St M H H' ∧ T.P M.ex v H'
/-- the test e answers something of which S -/
def C (X : Cx) (M : Mx) (Γ : Gm) (e : Expr) (S : Bool → Prop) : Prop := ∀ σ H, Loc M Γ σ H → wT X e σ H fun b H' => St M H H' ∧ S b
/-- the arguments have the types Ts -/
def A (X : Cx) (M : Mx) (Γ : Gm) (es : List Expr) (Ts : List Ty) : Prop := ∀ σ H, Loc M Γ σ H → wA X es σ H fun vs H' => St M H H' ∧ Paired (fun (T : Ty) v => T.P M.ex v H') Ts vs
/-- the block leads to D -/
def B (X : Cx) (M : Mx) (Γ : Gm) (ss : List Stmt) (D : Ends) : Prop := ∀ σ H, Loc M Γ σ H → wB X ss D σ H

section
variable {X : Cx} {M : Mx} {Γ : Gm} {e a b : Expr} {T Ta Tb Tc : Ty} {pos : Pos}
theorem E.imp {T' : Ty} (h : E X M Γ e T) (k : ∀ v H, Hw M H → T.P M.ex v H → T'.P M.ex v H) : E X M Γ e T' := fun σ H l => (h σ H l).mono fun v H' ⟨s, q⟩ => ⟨s, k v H' (l.hw.st s) q⟩
theorem E.cast {d d' : PyData} (h : E X M Γ e (D d)) (k : d = d') : E X M Γ e (D d') := k ▸ h
theorem C.imp {S S' : Bool → Prop} (h : C X M Γ e S) (k : ∀ b, S b → S' b) : C X M Γ e S' := fun σ H l => (h σ H l).mono fun v H' ⟨s, q⟩ => ⟨s, k v q⟩
/-- names -/
theorem E.var (i : Nat) {x : Str} (hΓ : Γ[i]? = some (some T) := by rfl) (hN : X.N[i]? = some x := by rfl) (hv : Vis X.env.scope x := by first | exact Or.inl rfl | exact Or.inr (Or.inl rfl) | exact Or.inr (Or.inr rfl))
    (hd : (x == ("__debug__" : Str)) = false := by decide) (hcd : (x == ("__classdict__" : Str)) = false := by decide) : E X M Γ (.Name x pos) T := fun σ H l => by
  obtain ⟨v, e, h⟩ := l.var i T hΓ
  exact wE.of (pe_var hN hv hd hcd) ⟨v, e, St.refl l.hw, h⟩
theorem E.int {i : Int} {j : Nat} : E X M Γ (.Constant (.int i) j pos) (I i) := fun σ H l => wE.of pe_int ⟨St.refl l.hw, .int i⟩
theorem E.bl {i : Bool} {j : Nat} : E X M Γ (.Constant (.bool i) j pos) (Bo i) := fun σ H l => wE.of pe_bl ⟨St.refl l.hw, .bl i⟩
theorem E.str {i : Str} {j : Nat} : E X M Γ (.Constant (.str i) j pos) (S_ i) := fun σ H l => wE.of pe_str ⟨St.refl l.hw, .str i⟩
theorem E.non {j : Nat} : E X M Γ (.Constant .none j pos) (D .none) := fun σ H l => wE.of pe_non ⟨St.refl l.hw, .non⟩
/-- a module's constant -/
theorem E.glob {x : Str} {v : V} {u : Value} (hg : Gl X x) (hm : X.mg x = some u) (r : RelV v u) (h : ∀ ex H, T.P ex v H) (hd : (x == ("__debug__" : Str)) = false := by decide) : E X M Γ (.Name x pos) T :=
  fun σ H l => wE.of (pe_glob hg hm r hd) ⟨St.refl l.hw, h _ _⟩

/-- two expressions, then by values -/
theorem two {Q : VK} {σ : L2.St} {H : Hp} (ha : E X M Γ a Ta) (hb : E X M Γ b Tb) (l : Loc M Γ σ H) {r : R2} (k : ∀ x y H', Hw M H' → St M H H' → Ta.P M.ex x H' → Tb.P M.ex y H' → r x y H' Q) : tOp r (wE X a) (wE X b) σ H Q :=
  (ha σ H l).mono fun x H1 ⟨s1, h1⟩ => (hb σ H1 (l.st s1)).mono fun y H2 ⟨s2, h2⟩ => k x y H2 ((l.hw.st s1).st s2) (s1.trans s2) (Ta.fr (s2.kp (l.hw.st s1)) h1) h2
theorem E.bin {op : Operator} {r : R2} (ho : OpR X (binaryOp op) r) (ha : E X M Γ a Ta) (hb : E X M Γ b Tb) (k : ∀ x y H Q, Hw M H → Ta.P M.ex x H → Tb.P M.ex y H → (∀ z H', St M H H' → Tc.P M.ex z H' → Q z H') → r x y H Q) : E X M Γ (.BinOp a op b pos) Tc :=
  fun σ H l => wE.of (pe_op ho pe_w pe_w) (two ha hb l fun x y H2 w s h1 h2 => k x y H2 _ w h1 h2 fun z H3 s3 h3 => ⟨s.trans s3, h3⟩)
theorem E.cmp {op : CmpOp} {r : R2} (ho : OpR X (compareOp op) r) (hm : behindInMarks op b = false) (ha : E X M Γ a Ta) (hb : E X M Γ b Tb) (k : ∀ x y H Q, Hw M H → Ta.P M.ex x H → Tb.P M.ex y H → (∀ z H', St M H H' → Tc.P M.ex z H' → Q z H') → r x y H Q) :
    E X M Γ (.Compare a [op] [b] pos) Tc :=
  fun σ H l => wE.of (pe_cmpR ho pe_w pe_w hm) (two ha hb l fun x y H2 w s h1 h2 => k x y H2 _ w h1 h2 fun z H3 s3 h3 => ⟨s.trans s3, h3⟩)
theorem C.cmp {op : CmpOp} {r : R2} {S : Bool → Prop} (ho : OpR X (compareOp op) r) (hm : behindInMarks op b = false) (ha : E X M Γ a Ta) (hb : E X M Γ b Tb) (k : ∀ x y H Q, Hw M H → Ta.P M.ex x H → Tb.P M.ex y H → (∀ z H', St M H H' → S z → Q (.bl z) H') → r x y H Q) :
    C X M Γ (.Compare a [op] [b] pos) S :=
  fun σ H l => wT.of (pt_cmpR ho pe_w pe_w hm) (two ha hb l fun x y H2 w s h1 h2 => k x y H2 _ w h1 h2 fun z H3 s3 h3 => ⟨z, rfl, s.trans s3, h3⟩)
/-- a value that is a truth value, as a test -/
theorem C.val {S : Bool → Prop} (h : E X M Γ e (Ty.pure fun v => ∃ b, v = .bl b ∧ S b)) (he : ∀ whole, isTrue e X.env whole = (do let v ← whole; standAt e.pos; holding [v] (truthy v)) := by intro _; rfl) : C X M Γ e S :=
  fun σ H l => wT.of (pt_val pe_w he) ((h σ H l).mono fun v H' ⟨s, b, e, q⟩ => ⟨b, e, s, q⟩)
theorem C.valB {c : Bool} (h : E X M Γ e (Bo c)) (he : ∀ whole, isTrue e X.env whole = (do let v ← whole; standAt e.pos; holding [v] (truthy v)) := by intro _; rfl) : C X M Γ e (· = c) :=
  C.val (h.imp fun v H _ q => by cases q; exact ⟨c, rfl, rfl⟩) he
end
end HB


namespace HB
open PySem L2 PyProof.Rows PySem.Spec

/-- the operation r takes Ta, Tb to Tc -/
def Op2 (M : Mx) (r : R2) (Ta Tb Tc : Ty) : Prop := ∀ x y H Q, Hw M H → Ta.P M.ex x H → Tb.P M.ex y H → (∀ z H', St M H H' → Tc.P M.ex z H' → Q z H') → r x y H Q
/-- the call r takes the arguments Ts to T -/
def Op3 (M : Mx) (r : List V → Hp → VK → Prop) (Ts : List Ty) (T : Ty) : Prop := ∀ xs H Q, Hw M H → Paired (fun (T : Ty) v => T.P M.ex v H) Ts xs → (∀ z H', St M H H' → T.P M.ex z H' → Q z H') → r xs H Q
section
variable {M : Mx} {r : R2} {q : List V → Hp → VK → Prop} {Ta Tb Tc T : Ty} {Ts : List Ty}
theorem Op2.ll {α : Sort _} {S : α → Prop} {Tf : α → Ty} (h : ∀ a, S a → Op2 M r (Tf a) Tb Tc) : Op2 M r (.some S Tf) Tb Tc := fun x y H Q w ⟨a, s, hx⟩ hy k => h a s x y H Q w hx hy k
theorem Op2.rr {α : Sort _} {S : α → Prop} {Tf : α → Ty} (h : ∀ a, S a → Op2 M r Ta (Tf a) Tc) : Op2 M r Ta (.some S Tf) Tc := fun x y H Q w hx ⟨a, s, hy⟩ k => h a s x y H Q w hx hy k
theorem Op2.out {α : Sort _} {S : α → Prop} {Tf : α → Ty} (a : α) (s : S a) (h : Op2 M r Ta Tb (Tf a)) : Op2 M r Ta Tb (.some S Tf) := fun x y H Q w hx hy k => h x y H Q w hx hy fun z H' s' hz => k z H' s' ⟨a, s, hz⟩
theorem Op3.out {α : Sort _} {S : α → Prop} {Tf : α → Ty} (a : α) (s : S a) (h : Op3 M q Ts (Tf a)) : Op3 M q Ts (.some S Tf) := fun xs H Q w hx k => h xs H Q w hx fun z H' s' hz => k z H' s' ⟨a, s, hz⟩
theorem Op2.i0 {g : Int → Int → V} {i j : Int} (h : ∀ ex H, T.P ex (g i j) H) : Op2 M (rI0 g) (I i) (I j) T := fun x y H Q w hx hy k => by
  cases hx
  cases hy
  exact ⟨i, j, rfl, rfl, k _ H (St.refl w) (h _ _)⟩
theorem Op2.i1 {C : Int → Int → Prop} {g : Int → Int → V} {i j : Int} (c : C i j) (h : ∀ ex H, T.P ex (g i j) H) : Op2 M (rI C g) (I i) (I j) T := fun x y H Q w hx hy k => by
  cases hx
  cases hy
  exact ⟨i, j, rfl, rfl, c, k _ H (St.refl w) (h _ _)⟩
theorem Op2.add {i j : Int} : Op2 M (rI0 fun i j => .int (i + j)) (I i) (I j) (I (i + j)) := Op2.i0 fun _ _ => .int _
theorem Op2.sub {i j : Int} : Op2 M (rI0 fun i j => .int (i - j)) (I i) (I j) (I (i - j)) := Op2.i0 fun _ _ => .int _
theorem Op2.mul {i j : Int} (c : CMul i j) : Op2 M (rI CMul fun i j => .int (i * j)) (I i) (I j) (I (i * j)) := Op2.i1 c fun _ _ => .int _
theorem Op2.mulW {i j : Int} (c : CMulW i j) : Op2 M (rI CMulW fun i j => .int (i * j)) (I i) (I j) (I (i * j)) := Op2.i1 c fun _ _ => .int _
theorem Op2.mod {i j : Int} (c : 0 < j) : Op2 M (rI (fun _ j => 0 < j) fun i j => .int (i % j)) (I i) (I j) (I (i % j)) := Op2.i1 c fun _ _ => .int _
theorem Op2.div {i j : Int} (c : CDiv i j) : Op2 M (rI CDiv fun i j => .int (i / j)) (I i) (I j) (I (i / j)) := Op2.i1 c fun _ _ => .int _
theorem Op2.divW {i j : Int} (c : CDivW i j) : Op2 M (rI CDivW fun i j => .int (i / j)) (I i) (I j) (I (i / j)) := Op2.i1 c fun _ _ => .int _
theorem Op2.pow {i j : Int} (c : CPow i j) : Op2 M (rI CPow fun i j => .int (i ^ j.toNat)) (I i) (I j) (I (i ^ j.toNat)) := Op2.i1 c fun _ _ => .int _
theorem Op2.cmp {g : Int → Int → Bool} {i j : Int} : Op2 M (rI0 fun i j => .bl (g i j)) (I i) (I j) (Bo (g i j)) := Op2.i0 fun _ _ => .bl _
theorem Op2.eqI {i j : Int} : Op2 M rEq (I i) (I j) (Bo (decide (i = j))) := fun x y H Q w hx hy k => by
  cases hx
  cases hy
  refine ⟨rfl, ?_⟩
  have e : decide (V.int i = V.int j) = decide (i = j) := by by_cases h : i = j <;> simp [h]
  rw [e]
  exact k _ H (St.refl w) (.bl _)
theorem Op2.neI {i j : Int} : Op2 M rNe (I i) (I j) (Bo (!decide (i = j))) := fun x y H Q w hx hy k => by
  cases hx
  cases hy
  refine ⟨rfl, ?_⟩
  have e : decide (V.int i = V.int j) = decide (i = j) := by by_cases h : i = j <;> simp [h]
  rw [e]
  exact k _ H (St.refl w) (.bl _)
theorem Op2.eqS {i j : Str} : Op2 M rEq (S_ i) (S_ j) (Bo (decide (i = j))) := fun x y H Q w hx hy k => by
  cases hx
  cases hy
  refine ⟨rfl, ?_⟩
  have e : decide (V.str i = V.str j) = decide (i = j) := by by_cases h : i = j <;> simp [h]
  rw [e]
  exact k _ H (St.refl w) (.bl _)
theorem Op2.neS {i j : Str} : Op2 M rNe (S_ i) (S_ j) (Bo (!decide (i = j))) := fun x y H Q w hx hy k => by
  cases hx
  cases hy
  refine ⟨rfl, ?_⟩
  have e : decide (V.str i = V.str j) = decide (i = j) := by by_cases h : i = j <;> simp [h]
  rw [e]
  exact k _ H (St.refl w) (.bl _)
theorem Op2.neB {i j : Bool} : Op2 M rNe (Bo i) (Bo j) (Bo (i != j)) := fun x y H Q w hx hy k => by
  cases hx
  cases hy
  refine ⟨rfl, ?_⟩
  have e : (!decide (V.bl i = V.bl j)) = (i != j) := by cases i <;> cases j <;> rfl
  rw [e]
  exact k _ H (St.refl w) (.bl _)
theorem Op2.eqD {K : PySem.W.Frag} {d e : PyData} (hd : SeqAt.shaped d = true) (he : SeqAt.shaped e = true) : Op2 M (rEqD K) (D d) (D e) (Bo (PyData.eqv d e)) := fun x y H Q w hx hy k => ⟨d, e, hx.dp, hy.dp, hd, he, k _ H (St.refl w) (.bl _)⟩
theorem Op2.neD {K : PySem.W.Frag} {d e : PyData} (hd : SeqAt.shaped d = true) (he : SeqAt.shaped e = true) : Op2 M (rNeD K) (D d) (D e) (Bo (!PyData.eqv d e)) := fun x y H Q w hx hy k => ⟨d, e, hx.dp, hy.dp, hd, he, k _ H (St.refl w) (.bl _)⟩
theorem Op2.inD {K : PySem.W.Frag} {d : PyData} {ds : List PyData} (hd : SeqAt.shaped d = true) (he : SeqAt.shaped (.list ds) = true) : Op2 M (rInD K) (D d) (L ds) (Bo (ds.any fun z => PyData.eqv z d)) := fun x y H Q w hx hy k => ⟨d, ds, hx.dp, hy.dp, hd, he, k _ H (St.refl w) (.bl _)⟩
theorem Op2.ninD {K : PySem.W.Frag} {d : PyData} {ds : List PyData} (hd : SeqAt.shaped d = true) (he : SeqAt.shaped (.list ds) = true) : Op2 M (rNotInD K) (D d) (L ds) (Bo (!ds.any fun z => PyData.eqv z d)) := fun x y H Q w hx hy k => ⟨d, ds, hx.dp, hy.dp, hd, he, k _ H (St.refl w) (.bl _)⟩
theorem flat_strs : ∀ xs : List Str, (xs.map V.str).all flatV = true
  | [] => rfl
  | _ :: xs => by rw [List.map_cons, List.all_cons, flat_strs xs]; rfl
theorem inV_strs (x : Str) : ∀ xs : List Str, inV (.str x) (xs.map V.str) = decide (x ∈ xs)
  | [] => by simp [inV]
  | y :: xs => by
    have ih := inV_strs x xs
    unfold inV at ih ⊢
    rw [List.map_cons, List.any_cons, ih]
    have e : eqV (V.str y) (V.str x) = decide (y = x) := by
      first | rfl | (unfold eqV; by_cases h : y = x <;> simp [h])
    rw [e]
    by_cases h : y = x
    · subst h; simp
    · have h' : ¬ x = y := fun z => h z.symm
      simp [h, h']
/-- a text in a tuple, in a list of texts -/
theorem Op2.inS {K : PySem.W.Frag} {neg : Bool} {x : Str} {xs : List Str} : Op2 M (rIn K neg) (S_ x) (U (xs.map .str)) (Bo (if neg then !decide (x ∈ xs) else decide (x ∈ xs))) := fun v y H Q w hx hy k => by
  cases hx
  cases hy with
  | tup e n h =>
    obtain rfl := h.strs
    refine ⟨_, _, rfl, .inr (SqT.of e), rfl, flat_strs xs, ?_⟩
    rw [inV_strs]
    exact k _ H (St.refl w) (.bl _)
theorem Op2.inSL {K : PySem.W.Frag} {neg : Bool} {x : Str} {xs : List Str} : Op2 M (rIn K neg) (S_ x) (L (xs.map .str)) (Bo (if neg then !decide (x ∈ xs) else decide (x ∈ xs))) := fun v y H Q w hx hy k => by
  cases hx
  cases hy with
  | lst e n h =>
    obtain rfl := h.strs
    refine ⟨_, _, rfl, .inl (SqL.of e), rfl, flat_strs xs, ?_⟩
    rw [inV_strs]
    exact k _ H (St.refl w) (.bl _)
theorem Op2.ltS {i j : Str} : Op2 M (fun x y H Q => ∃ i j, x = .str i ∧ y = .str j ∧ Q (.bl (decide (i.cps.toList < j.cps.toList))) H) (S_ i) (S_ j) (Bo (decide (i.cps.toList < j.cps.toList))) := fun x y H Q w hx hy k => by
  cases hx
  cases hy
  exact ⟨i, j, rfl, rfl, k _ H (St.refl w) (.bl _)⟩
/-- concatenations -/
theorem Op2.catU {K : PySem.W.Frag} {ds es : List PyData} (hz : ds.length + es.length ≤ 100000) : Op2 M (rCatA K) (U ds) (U es) (U (ds ++ es)) := fun x y H Q w hx hy k => by
  cases hx with
  | @tup a xs _ e n h =>
    cases hy with
    | @tup b ys _ e' n' h' =>
      refine ⟨a, b, xs, ys, rfl, rfl, SqT.of e, SqT.of e', Nat.le_trans (by rw [h.length, h'.length]; exact hz) (by decide), fun z => ?_, fun _ z => ?_, fun _ _ p hp => ?_⟩
      · subst z
        cases h
        exact k _ H (St.refl w) (.tup e' n' h')
      · subst z
        cases h'
        refine k _ H (St.refl w) ?_
        rw [List.append_nil]
        exact .tup e n h
      · obtain ⟨s, np⟩ := w.new (o := .tup (xs ++ ys)) hp
        exact k _ _ s (.tup upd_same np ((h.append h').fr (s.kp w)))
theorem Op2.catL {ds es : List PyData} (hz : ds.length + es.length ≤ 100000) : Op2 M rCat (L ds) (L es) (L (ds ++ es)) := fun x y H Q w hx hy k => by
  cases hx with
  | @lst a xs _ e n h =>
    cases hy with
    | @lst b ys _ e' n' h' =>
      refine ⟨a, b, xs, ys, rfl, rfl, e, e', Nat.le_trans (by rw [h.length, h'.length]; exact hz) (by decide), fun p hp => ?_⟩
      obtain ⟨s, np⟩ := w.new (o := .lst (xs ++ ys)) hp
      exact k _ _ s (.lst upd_same np ((h.append h').fr (s.kp w)))
end
end HB


namespace HB
open PySem L2 PyProof.Rows PySem.Spec

section
variable {ex : Ads} {H : Hp}
theorem prd_map : ∀ {ds : List PyData} {vs : List V}, Paired (fun (T : Ty) v => T.P ex v H) (ds.map D) vs → RpAll ex H vs ds
  | [], _, h => by cases h; exact .nil
  | d :: ds, _, h => by
    cases h with
    | cons a b => exact .cons a (prd_map b)
theorem map_prd : ∀ {ds : List PyData} {vs : List V}, RpAll ex H vs ds → Paired (fun (T : Ty) v => T.P ex v H) (ds.map D) vs
  | _, _, .nil => .nil
  | _, _, .cons a b => .cons a (map_prd b)
theorem prd_app {α β : Type} {F : α → β → Prop} : ∀ {xs xs' : List α} {ys ys' : List β}, Paired F xs ys → Paired F xs' ys' → Paired F (xs ++ xs') (ys ++ ys')
  | _, _, _, _, .nil, b => b
  | _, _, _, _, .cons x a, b => .cons x (prd_app a b)
theorem prd_get {α β : Type} {F : α → β → Prop} : ∀ {xs : List α} {ys : List β} {i : Nat} {x : α}, Paired F xs ys → xs[i]? = some x → ∃ y, ys[i]? = some y ∧ F x y
  | _, _, _, _, .nil, z => by simp at z
  | _, _, 0, _, .cons a _, e => ⟨_, rfl, by simp at e; exact e ▸ a⟩
  | _, _, i + 1, _, .cons _ b, e => by
    obtain ⟨y, e', r⟩ := prd_get (i := i) b (by simpa using e)
    exact ⟨y, by simpa using e', r⟩
theorem prd_len {α β : Type} {F : α → β → Prop} : ∀ {xs : List α} {ys : List β}, Paired F xs ys → xs.length = ys.length
  | _, _, .nil => rfl
  | _, _, .cons _ b => congrArg Nat.succ (prd_len b)
end

section
variable {X : Cx} {M : Mx} {Γ : Gm} {e o a b : Expr} {es rest : List Expr} {T Ta Tb Tc : Ty} {Ts : List Ty} {pos p sp_ : Pos} {ds : List PyData}
theorem A.nil : A X M Γ [] [] := fun σ H l => wA.of pa_nil ⟨St.refl l.hw, .nil⟩
theorem A.cons (h : E X M Γ e T) (r : A X M Γ es Ts) (hs : starEach (e :: es) X.env = (false, eval e X.env) :: starEach es X.env := by rfl) : A X M Γ (e :: es) (T :: Ts) := fun σ H l =>
  wA.of (pa_cons pe_w pa_w hs) ((h σ H l).mono fun v H1 ⟨s1, h1⟩ => (r σ H1 (l.st s1)).mono fun vs H2 ⟨s2, h2⟩ => ⟨s1.trans s2, .cons (T.fr (s2.kp (l.hw.st s1)) h1) h2⟩)
theorem A.star (h : E X M Γ e (U ds)) (r : A X M Γ es Ts) (hs : starEach (.Starred e sp_ :: es) X.env = (true, eval e X.env) :: starEach es X.env := by rfl) : A X M Γ (.Starred e sp_ :: es) (ds.map D ++ Ts) := fun σ H l =>
  wA.of (StX.pa_star pe_w pa_w hs) ((h σ H l).mono fun v H1 ⟨s1, h1⟩ => by
    cases h1 with
    | tup e1 n1 r1 =>
      exact ⟨_, _, rfl, .inl (SqT.of e1), (r σ H1 (l.st s1)).mono fun vs H2 ⟨s2, h2⟩ => ⟨s1.trans s2, prd_app (map_prd (r1.fr (s2.kp (l.hw.st s1)))) h2⟩⟩)
theorem A.imp {Ts' : List Ty} (h : A X M Γ es Ts) (k : ∀ vs H, Hw M H → Paired (fun (T : Ty) v => T.P M.ex v H) Ts vs → Paired (fun (T : Ty) v => T.P M.ex v H) Ts' vs) : A X M Γ es Ts' := fun σ H l => (h σ H l).mono fun v H' ⟨s, q⟩ => ⟨s, k v H' (l.hw.st s) q⟩

theorem E.tup {j : Nat} (h : A X M Γ es Ts) (hz : Ts.length ≤ 100000 := by simp) : E X M Γ (.Tuple es j pos) (tupT Ts) := fun σ H l =>
  wE.of (pe_tup pa_w) ((h σ H l).mono fun vs H1 ⟨s1, h1⟩ => ⟨Nat.le_trans (by rw [← prd_len h1]; exact hz) (by decide), fun q hq =>
    let w := l.hw.st s1
    let z := w.new (o := .tup vs) hq
    ⟨s1.trans z.1, q, vs, rfl, upd_same, z.2, Paired.mapP h1 fun T x h => T.fr (z.1.kp w) h⟩⟩)
theorem tupT_D {ex : Ads} {H : Hp} {v : V} (h : (tupT (ds.map D)).P ex v H) : (U ds).P ex v H := by
  obtain ⟨a, xs, rfl, e, n, r⟩ := h
  exact .tup e n (prd_map r)
theorem D_tupT {ex : Ads} {H : Hp} {v : V} (h : (U ds).P ex v H) : (tupT (ds.map D)).P ex v H := by
  cases h with
  | tup e n r => exact ⟨_, _, rfl, e, n, map_prd r⟩
theorem E.tupD {j : Nat} (h : A X M Γ es (ds.map D)) (hz : ds.length ≤ 100000 := by simp) : E X M Γ (.Tuple es j pos) (U ds) := (E.tup h (by rw [List.length_map]; exact hz)).imp fun _ _ _ q => tupT_D q
theorem E.lst (h : A X M Γ es Ts) (hz : Ts.length ≤ 100000 := by simp) : E X M Γ (.List es pos) (listT Ts) := fun σ H l =>
  wE.of (pe_lst pa_w) ((h σ H l).mono fun vs H1 ⟨s1, h1⟩ => ⟨Nat.le_trans (by rw [← prd_len h1]; exact hz) (by decide), fun q hq =>
    let w := l.hw.st s1
    let z := w.new (o := .lst vs) hq
    ⟨s1.trans z.1, q, vs, rfl, upd_same, z.2, Paired.mapP h1 fun T x h => T.fr (z.1.kp w) h⟩⟩)
theorem listT_D {ex : Ads} {H : Hp} {v : V} (h : (listT (ds.map D)).P ex v H) : (L ds).P ex v H := by
  obtain ⟨a, xs, rfl, e, n, r⟩ := h
  exact .lst e n (prd_map r)
theorem E.lstD (h : A X M Γ es (ds.map D)) (hz : ds.length ≤ 100000 := by simp) : E X M Γ (.List es pos) (L ds) := (E.lst h (by rw [List.length_map]; exact hz)).imp fun _ _ _ q => listT_D q

theorem atI_D {ex : Ads} {H : Hp} {xs : List V} {i : Nat} {d : PyData} (h : RpAll ex H xs ds) (e : ds[i]? = some d) : ∃ v, atI xs (i : Int) = some v ∧ Rp ex H v d := by
  obtain ⟨v, e', r⟩ := h.get e
  exact ⟨v, atI_nat e', r⟩
/-- t[i] -/
theorem E.ixU {i : Nat} {d : PyData} (ha : E X M Γ a (U ds)) (hb : E X M Γ b (I (i : Int))) (hd : ds[i]? = some d) (hp : PlainIx b := by intro _ _; rfl) : E X M Γ (.Subscript a b pos) (D d) := fun σ H l =>
  wE.of (pe_ix ix_tup pe_w pe_w hp) (two ha hb l fun x y H2 w s h1 h2 => by
    cases h2
    cases h1 with
    | tup e n r =>
      obtain ⟨v, e', r'⟩ := atI_D r hd
      exact ⟨_, _, _, v, rfl, rfl, SqT.of e, e', s, r'⟩)
theorem E.ixL {i : Nat} {d : PyData} (ha : E X M Γ a (L ds)) (hb : E X M Γ b (I (i : Int))) (hd : ds[i]? = some d) (hp : PlainIx b := by intro _ _; rfl) : E X M Γ (.Subscript a b pos) (D d) := fun σ H l =>
  wE.of (pe_ix ix_list pe_w pe_w hp) (two ha hb l fun x y H2 w s h1 h2 => by
    cases h2
    cases h1 with
    | lst e n r =>
      obtain ⟨v, e', r'⟩ := atI_D r hd
      exact ⟨_, _, _, v, rfl, rfl, SqL.of e, e', s, r'⟩)
theorem E.ixT {i : Nat} (ha : E X M Γ a (tupT Ts)) (hb : E X M Γ b (I (i : Int))) (hd : Ts[i]? = some T) (hp : PlainIx b := by intro _ _; rfl) : E X M Γ (.Subscript a b pos) T := fun σ H l =>
  wE.of (pe_ix ix_tup pe_w pe_w hp) (two ha hb l fun x y H2 w s h1 h2 => by
    cases h2
    obtain ⟨q, xs, rfl, e, n, r⟩ := h1
    obtain ⟨v, e', r'⟩ := prd_get r hd
    exact ⟨_, _, _, v, rfl, rfl, SqT.of e, atI_nat e', s, r'⟩)
/-- an item at a place that is not known -/
theorem E.ixLs {S : Int → Prop} (ha : E X M Γ a (L ds)) (hb : E X M Γ b (.some S I)) (hd : ∀ i, S i → ∃ j : Nat, i = (j : Int) ∧ j < ds.length) (hp : PlainIx b := by intro _ _; rfl) : E X M Γ (.Subscript a b pos) (.some (· ∈ ds) D) := fun σ H l =>
  wE.of (pe_ix ix_list pe_w pe_w hp) (two ha hb l fun x y H2 w s h1 h2 => by
    obtain ⟨i, si, h2⟩ := h2
    obtain ⟨j, rfl, hj⟩ := hd i si
    cases h2
    cases h1 with
    | lst e n r =>
      obtain ⟨v, e', r'⟩ := atI_D r (List.getElem?_eq_getElem hj)
      exact ⟨_, _, _, v, rfl, rfl, SqL.of e, e', s, _, List.getElem_mem hj, r'⟩)
theorem E.ixUs {S : Int → Prop} (ha : E X M Γ a (U ds)) (hb : E X M Γ b (.some S I)) (hd : ∀ i, S i → ∃ j : Nat, i = (j : Int) ∧ j < ds.length) (hp : PlainIx b := by intro _ _; rfl) : E X M Γ (.Subscript a b pos) (.some (· ∈ ds) D) := fun σ H l =>
  wE.of (pe_ix ix_tup pe_w pe_w hp) (two ha hb l fun x y H2 w s h1 h2 => by
    obtain ⟨i, si, h2⟩ := h2
    obtain ⟨j, rfl, hj⟩ := hd i si
    cases h2
    cases h1 with
    | tup e n r =>
      obtain ⟨v, e', r'⟩ := atI_D r (List.getElem?_eq_getElem hj)
      exact ⟨_, _, _, v, rfl, rfl, SqT.of e, e', s, _, List.getElem_mem hj, r'⟩)
/-- slices -/
def cutD (ds : List PyData) (lo hi : Option Int) : List PyData := (ds.drop (HT.sIx ds.length 0 lo)).take (HT.sIx ds.length ds.length hi - HT.sIx ds.length 0 lo)
theorem cutV_D {ex : Ads} {H : Hp} {xs : List V} {lo hi : Option Int} (h : RpAll ex H xs ds) : RpAll ex H (cutV xs lo hi) (cutD ds lo hi) := by
  unfold cutV cutD
  rw [h.length]
  exact (h.drop _).take _
theorem cutD_whole {lo hi : Option Int} (h : HT.sIx ds.length 0 lo = 0 ∧ HT.sIx ds.length ds.length hi = ds.length) : cutD ds lo hi = ds := by
  unfold cutD
  rw [h.1, h.2]
  simp
theorem cutD_from (k : Nat) : cutD ds (some (k : Int)) none = ds.drop k := by
  unfold cutD
  rw [HT.sIx_nat, HT.sIx_none]
  rcases Nat.le_total k ds.length with h | h
  · rw [Nat.min_eq_left h, List.take_of_length_le (by rw [List.length_drop]; omega)]
  · rw [Nat.min_eq_right h, List.drop_eq_nil_of_le (Nat.le_refl _), List.drop_eq_nil_of_le h]
    simp
theorem cutD_to (k : Nat) : cutD ds none (some (k : Int)) = ds.take k := by
  unfold cutD
  rw [HT.sIx_nat, HT.sIx_none, List.drop_zero, Nat.sub_zero]
  rcases Nat.le_total k ds.length with h | h
  · rw [Nat.min_eq_left h]
  · rw [Nat.min_eq_right h, List.take_of_length_le (Nat.le_refl _), List.take_of_length_le h]
section
variable {lo hi : Option Expr} {p2 : Pos}
/-- a slice's bound -/
def Pt (X : Cx) (M : Mx) (Γ : Gm) (x : Option Expr) (S : Option Int → Prop) : Prop := ∃ t : TO, PO X x t ∧ ∀ σ H, Loc M Γ σ H → ∀ Q : Option Int → Hp → Prop, (∀ o H', St M H H' → S o → Q o H') → t σ H Q
theorem Pt.none : Pt X M Γ Option.none (· = Option.none) := ⟨_, po_none, fun σ H l Q k => k _ H (St.refl l.hw) rfl⟩
theorem Pt.some {S : Int → Prop} (h : E X M Γ e (.some S I)) : Pt X M Γ (Option.some e) (fun o => ∃ i, S i ∧ o = Option.some i) := ⟨_, po_some pe_w, fun σ H l Q k => (h σ H l).mono fun v H1 ⟨s, i, si, q⟩ => by
  cases q
  exact ⟨i, rfl, k _ H1 s ⟨i, si, rfl⟩⟩⟩
theorem Pt.int {i : Int} (h : E X M Γ e (I i)) : Pt X M Γ (Option.some e) (· = Option.some i) := ⟨_, po_some pe_w, fun σ H l Q k => (h σ H l).mono fun v H1 ⟨s, q⟩ => by
  cases q
  exact ⟨i, rfl, k _ H1 s rfl⟩⟩
theorem E.slU {S1 S2 : Option Int → Prop} (he : E X M Γ e (U ds)) (hl : Pt X M Γ lo S1) (hh : Pt X M Γ hi S2) : E X M Γ (.Subscript e (.Slice lo hi none p2) pos) (.some (fun q : Option Int × Option Int => S1 q.1 ∧ S2 q.2) fun q => U (cutD ds q.1 q.2)) := fun σ H l => by
  obtain ⟨t1, p1, k1⟩ := hl
  obtain ⟨t2, p2, k2⟩ := hh
  refine wE.of (pe_slice sl_tupA pe_w p1 p2) ((he σ H l).mono fun x H1 ⟨s1, h1⟩ => k1 σ H1 (l.st s1) _ fun lo H2 s2 q1 => k2 σ H2 ((l.st s1).st s2) _ fun hi H3 s3 q2 => ?_)
  have w := ((l.hw.st s1).st s2).st s3
  have h3 := (U ds).fr ((s2.trans s3).kp (l.hw.st s1)) h1
  cases h3 with
  | @tup a xs _ e n r =>
    refine ⟨a, xs, rfl, SqT.of e, fun z => ⟨(s1.trans s2).trans s3, (lo, hi), ⟨q1, q2⟩, ?_⟩, fun z p hp => ?_⟩
    · show Rp M.ex H3 _ (.tuple (cutD ds lo hi))
      rw [r.length] at z
      rw [cutD_whole z]
      exact .tup e n r
    · obtain ⟨s4, np⟩ := w.new (o := .tup (cutV xs lo hi)) hp
      exact ⟨((s1.trans s2).trans s3).trans s4, (lo, hi), ⟨q1, q2⟩, .tup upd_same np ((cutV_D r).fr (s4.kp w))⟩
theorem E.slL {S1 S2 : Option Int → Prop} (he : E X M Γ e (L ds)) (hl : Pt X M Γ lo S1) (hh : Pt X M Γ hi S2) : E X M Γ (.Subscript e (.Slice lo hi none p2) pos) (.some (fun q : Option Int × Option Int => S1 q.1 ∧ S2 q.2) fun q => L (cutD ds q.1 q.2)) := fun σ H l => by
  obtain ⟨t1, p1, k1⟩ := hl
  obtain ⟨t2, p2, k2⟩ := hh
  refine wE.of (pe_slice sl_list pe_w p1 p2) ((he σ H l).mono fun x H1 ⟨s1, h1⟩ => k1 σ H1 (l.st s1) _ fun lo H2 s2 q1 => k2 σ H2 ((l.st s1).st s2) _ fun hi H3 s3 q2 => ?_)
  have w := ((l.hw.st s1).st s2).st s3
  have h3 := (L ds).fr ((s2.trans s3).kp (l.hw.st s1)) h1
  cases h3 with
  | @lst a xs _ e n r =>
    refine ⟨a, xs, rfl, SqL.of e, fun p hp => ?_⟩
    obtain ⟨s4, np⟩ := w.new (o := .lst (cutV xs lo hi)) hp
    exact ⟨((s1.trans s2).trans s3).trans s4, (lo, hi), ⟨q1, q2⟩, .lst upd_same np ((cutV_D r).fr (s4.kp w))⟩
/-- t[k:], t[:k] -/
theorem E.fromU {k : Nat} (he : E X M Γ e (U ds)) (hk : E X M Γ a (I (k : Int))) : E X M Γ (.Subscript e (.Slice (some a) none none p2) pos) (U (ds.drop k)) := (E.slU he (.int hk) .none).imp fun v H w ⟨⟨lo, hi⟩, ⟨h1, h2⟩, h⟩ => by
  cases h1
  cases h2
  rw [← cutD_from]
  exact h
theorem E.toU {k : Nat} (he : E X M Γ e (U ds)) (hk : E X M Γ a (I (k : Int))) : E X M Γ (.Subscript e (.Slice none (some a) none p2) pos) (U (ds.take k)) := (E.slU he .none (.int hk)).imp fun v H w ⟨⟨lo, hi⟩, ⟨h1, h2⟩, h⟩ => by
  cases h1
  cases h2
  rw [← cutD_to]
  exact h
theorem E.fromL {k : Nat} (he : E X M Γ e (L ds)) (hk : E X M Γ a (I (k : Int))) : E X M Γ (.Subscript e (.Slice (some a) none none p2) pos) (L (ds.drop k)) := (E.slL he (.int hk) .none).imp fun v H w ⟨⟨lo, hi⟩, ⟨h1, h2⟩, h⟩ => by
  cases h1
  cases h2
  rw [← cutD_from]
  exact h
theorem E.toL {k : Nat} (he : E X M Γ e (L ds)) (hk : E X M Γ a (I (k : Int))) : E X M Γ (.Subscript e (.Slice none (some a) none p2) pos) (L (ds.take k)) := (E.slL he .none (.int hk)).imp fun v H w ⟨⟨lo, hi⟩, ⟨h1, h2⟩, h⟩ => by
  cases h1
  cases h2
  rw [← cutD_to]
  exact h
/-- a bound that is some natural number -/
theorem E.toLs {S : Nat → Prop} (he : E X M Γ e (L ds)) (hk : E X M Γ a (.some S fun k => I (k : Int))) : E X M Γ (.Subscript e (.Slice none (some a) none p2) pos) (.some S fun k => L (ds.take k)) :=
  (E.slL he .none (.some (S := fun i => ∃ k : Nat, S k ∧ i = (k : Int)) (hk.imp fun v H w ⟨k, s, h⟩ => ⟨_, ⟨k, s, rfl⟩, h⟩))).imp fun v H w ⟨⟨lo, hi⟩, ⟨h1, i, ⟨k, s, h3⟩, h2⟩, h⟩ => by
  cases h1
  cases h2
  cases h3
  refine ⟨k, s, ?_⟩
  show Rp M.ex H v (.list (ds.take k))
  rw [← cutD_to]
  exact h
theorem E.fromLs {S : Nat → Prop} (he : E X M Γ e (L ds)) (hk : E X M Γ a (.some S fun k => I (k : Int))) : E X M Γ (.Subscript e (.Slice (some a) none none p2) pos) (.some S fun k => L (ds.drop k)) :=
  (E.slL he (.some (S := fun i => ∃ k : Nat, S k ∧ i = (k : Int)) (hk.imp fun v H w ⟨k, s, h⟩ => ⟨_, ⟨k, s, rfl⟩, h⟩)) .none).imp fun v H w ⟨⟨lo, hi⟩, ⟨⟨i, ⟨k, s, h3⟩, h1⟩, h2⟩, h⟩ => by
  cases h1
  cases h2
  cases h3
  refine ⟨k, s, ?_⟩
  show Rp M.ex H v (.list (ds.drop k))
  rw [← cutD_from]
  exact h
end

theorem prd_val {ex : Ads} {H : Hp} {k : Key} : ∀ {kts : List (Key × Ty)} {kvs : List (Key × V)}, Paired (fun (p : Key × Ty) (q : Key × V) => p.1 = q.1 ∧ p.2.P ex q.2 H) kts kvs → (kts.find? fun q => decide (q.1 = k)).map (·.2) = some T → ∃ v, valV kvs k = some v ∧ T.P ex v H
  | _, _, .nil, e => by simp at e
  | (k1, T1) :: kts, (k2, v2) :: kvs, .cons ⟨h1, h2⟩ r, e => by
    have h1 : k1 = k2 := h1
    subst h1
    by_cases hk : k1 = k
    · subst hk
      simp [List.find?_cons] at e
      subst e
      exact ⟨v2, by simp [valV], h2⟩
    · simp [List.find?_cons, hk] at e
      obtain ⟨v, e', h⟩ := prd_val (k := k) r (by simpa using e)
      exact ⟨v, by rw [← e']; simp [valV, List.find?_cons, hk], h⟩
/-- d['k'] of a dict with text keys -/
theorem E.dget {x : Str} {kts : List (Key × Ty)} (hu : X.A.units + 1 < cLine) (ha : E X M Γ a (dictT kts)) (hb : E X M Γ b (S_ x)) (hd : (kts.find? fun q => decide (q.1 = .inr x)).map (·.2) = some T) (hs : NoSl b := by exact fun _ _ => rfl) : E X M Γ (.Subscript a b pos) T := fun σ H l =>
  wE.of (pe_dget hu pe_w pe_w hs) ((ha σ H l).mono fun x H1 ⟨s1, h1⟩ => (hb σ H1 (l.st s1)).mono fun y H2 ⟨s2, h2⟩ => by
    obtain ⟨q, kvs, rfl, e, n, r⟩ := (dictT kts).fr (s2.kp (l.hw.st s1)) h1
    cases h2
    obtain ⟨v, e', h⟩ := prd_val r hd
    exact ⟨q, v, rfl, .inl ⟨kvs, .inr _, e, rfl, e'.symm⟩, s1.trans s2, h⟩)
theorem prd_lookup {ex : Ads} {H : Hp} {f : Str} : ∀ {fts : List (Str × Ty)} {fs : List (Str × V)}, Paired (fun (p : Str × Ty) (q : Str × V) => p.1 = q.1 ∧ p.2.P ex q.2 H) fts fs → fts.lookup f = some T → ∃ v, fs.lookup f = some v ∧ T.P ex v H
  | _, _, .nil, e => by simp at e
  | (k1, T1) :: kts, (k2, v2) :: kvs, .cons ⟨h1, h2⟩ r, e => by
    have h1 : k1 = k2 := h1
    subst h1
    rw [List.lookup_cons] at e ⊢
    cases hk : f == k1 with
    | true =>
      rw [hk] at e
      cases e
      exact ⟨v2, rfl, h2⟩
    | false =>
      rw [hk] at e
      exact prd_lookup r e
/-- o.f -/
theorem E.fld {C : Addr} {fts : List (Str × Ty)} {f : Str} (ho : E X M Γ o (insT C fts)) (c : Cls X.K C) (n : NoAttr X.K C f) (hf : fts.lookup f = some T := by rfl) (hb : attributeBase o f X.env (eval o X.env) = eval o X.env := by rfl) : E X M Γ (.Attribute o f pos) T := fun σ H l =>
  wE.of (pe_fld pe_w hb) ((ho σ H l).mono fun x H1 ⟨s1, h1⟩ => by
    obtain ⟨q, dx, fs, rfl, e, n1, r⟩ := h1
    obtain ⟨v, e', h⟩ := prd_lookup r hf
    exact ⟨q, C, dx, fs, v, rfl, e, c, n, e', s1, h⟩)
end
end HB


namespace HB
open PySem L2 PyProof.Rows PySem.Spec

section
variable {X : Cx} {M : Mx} {Γ : Gm} {e o a b cnd : Expr} {es rest : List Expr} {T Ta Tb Tc : Ty} {Ts : List Ty} {pos p : Pos} {ds : List PyData} {x : Str} {id ty : String} {r : List V → Hp → VK → Prop}
theorem E.callB (hc : CallR X (.builtin id) r) (hv : bootBuiltins x = some (.builtin id)) (hm : X.mg x = none) (ha : A X M Γ (e :: es) Ts) (k : Op3 M r Ts T) (hg : Gl X x := by rfl) (hn : x ≠ "__name__" := by decide) (hdb : (x == ("__debug__" : Str)) = false := by decide)
    (he : starEach (e :: es) X.env = (false, eval e X.env) :: starEach es X.env := by rfl) (hpl : (backTo pos (starEach es X.env)).any (·.1) = false := by rfl) : E X M Γ (.Call (.Name x p) (e :: es) [] pos) T := fun σ H l =>
  wE.of (pe_callB hc hg hm hv pa_w hn hdb he hpl) ((ha σ H l).mono fun vs H1 ⟨s1, h1⟩ => k vs H1 _ (l.hw.st s1) h1 fun z H2 s2 h2 => ⟨s1.trans s2, h2⟩)
theorem E.callT (hc : CallR X (.type ty) r) (hv : bootBuiltins x = some (.type ty)) (hm : X.mg x = none) (ha : A X M Γ (e :: es) Ts) (k : Op3 M r Ts T) (hg : Gl X x := by rfl) (hn : x ≠ "__name__" := by decide) (hdb : (x == ("__debug__" : Str)) = false := by decide)
    (he : starEach (e :: es) X.env = (false, eval e X.env) :: starEach es X.env := by rfl) (hpl : (backTo pos (starEach es X.env)).any (·.1) = false := by rfl) : E X M Γ (.Call (.Name x p) (e :: es) [] pos) T := fun σ H l =>
  wE.of (pe_callTy hc hg hm hv pa_w hn hdb he hpl) ((ha σ H l).mono fun vs H1 ⟨s1, h1⟩ => k vs H1 _ (l.hw.st s1) h1 fun z H2 s2 h2 => ⟨s1.trans s2, h2⟩)
theorem Op3.one {q : Ty} (h : ∀ v H Q, Hw M H → T.P M.ex v H → (∀ z H', St M H H' → q.P M.ex z H' → Q z H') → r [v] H Q) : Op3 M r [T] q := fun xs H Q w hp k => by
  cases hp with
  | cons h1 t =>
    cases t
    exact h _ H Q w h1 k
theorem Op3.two {q : Ty} (h : ∀ v u H Q, Hw M H → Ta.P M.ex v H → Tb.P M.ex u H → (∀ z H', St M H H' → q.P M.ex z H' → Q z H') → r [v, u] H Q) : Op3 M r [Ta, Tb] q := fun xs H Q w hp k => by
  cases hp with
  | cons h1 t =>
    cases t with
    | cons h2 t =>
      cases t
      exact h _ _ H Q w h1 h2 k
/-- an argument of which something is known -/
theorem Op3.one_some {α : Sort _} {S : α → Prop} {Tf : α → Ty} {q : Ty} (h : ∀ a, S a → Op3 M r [Tf a] q) : Op3 M r [.some S Tf] q := fun xs H Q w hp k => by
  cases hp with
  | cons h1 t =>
    cases t
    obtain ⟨a, s, h1⟩ := h1
    exact h a s _ H Q w (.cons h1 .nil) k
theorem lenU_ {K : PySem.W.Frag} : Op3 M (fun xs H Q => ∃ p ys, xs = [.ref p] ∧ (SqL K H p ys ∨ SqT K H p ys) ∧ Q (.int ys.length) H) [U ds] (I (ds.length : Int)) := .one fun v H Q w h k => by
  cases h with
  | tup e n r => exact ⟨_, _, rfl, .inr (SqT.of e), k _ H (St.refl w) (by rw [r.length]; exact .int _)⟩
theorem lenL_ {K : PySem.W.Frag} : Op3 M (fun xs H Q => ∃ p ys, xs = [.ref p] ∧ (SqL K H p ys ∨ SqT K H p ys) ∧ Q (.int ys.length) H) [L ds] (I (ds.length : Int)) := .one fun v H Q w h k => by
  cases h with
  | lst e n r => exact ⟨_, _, rfl, .inl (SqL.of e), k _ H (St.refl w) (by rw [r.length]; exact .int _)⟩
theorem E.lenU (hm : X.mg "len" = none) (h : E X M Γ e (U ds)) (hg : Gl X "len" := by rfl) (he : starEach [e] X.env = (false, eval e X.env) :: starEach [] X.env := by rfl) : E X M Γ (.Call (.Name "len" p) [e] [] pos) (I (ds.length : Int)) :=
  E.callB call_len_seq PySem.boot_len hm (.cons h .nil he) lenU_ hg (he := he)
theorem E.lenL (hm : X.mg "len" = none) (h : E X M Γ e (L ds)) (hg : Gl X "len" := by rfl) (he : starEach [e] X.env = (false, eval e X.env) :: starEach [] X.env := by rfl) : E X M Γ (.Call (.Name "len" p) [e] [] pos) (I (ds.length : Int)) :=
  E.callB call_len_seq PySem.boot_len hm (.cons h .nil he) lenL_ hg (he := he)
theorem E.lenS {x : Str} (hm : X.mg "len" = none) (h : E X M Γ e (S_ x)) (hz : x.length ≤ 100000) (hg : Gl X "len" := by rfl) (he : starEach [e] X.env = (false, eval e X.env) :: starEach [] X.env := by rfl) : E X M Γ (.Call (.Name "len" p) [e] [] pos) (I (x.length : Int)) :=
  E.callB call_len_str PySem.boot_len hm (.cons h .nil he) (.one fun v H Q w h k => by
    cases h
    exact ⟨x, rfl, Nat.le_trans hz (by decide), k _ H (St.refl w) (.int _)⟩) hg (he := he)
theorem E.sum {ns : List Int} (hm : X.mg "sum" = none) (h : E X M Γ e (L (ns.map .int))) (hc : X.calm = true := by rfl) (hg : Gl X "sum" := by rfl) (he : starEach [e] X.env = (false, eval e X.env) :: starEach [] X.env := by rfl) : E X M Γ (.Call (.Name "sum" p) [e] [] pos) (I ns.sum) :=
  E.callB (cr_sum hc) (by decide +kernel) hm (.cons h .nil he) (.one fun v H Q w h k => by
    cases h with
    | lst e n r =>
      obtain rfl := r.ints
      exact ⟨_, ns, rfl, SqL.of e, k _ H (St.refl w) (.int _)⟩) hg (he := he)
theorem E.all {bs : List Bool} (hm : X.mg "all" = none) (h : E X M Γ e (L (bs.map .bool))) (hc : X.calm = true := by rfl) (hg : Gl X "all" := by rfl) (he : starEach [e] X.env = (false, eval e X.env) :: starEach [] X.env := by rfl) : E X M Γ (.Call (.Name "all" p) [e] [] pos) (Bo (bs.all _root_.id)) :=
  E.callB (cr_all hc) (by decide +kernel) hm (.cons h .nil he) (.one fun v H Q w h k => by
    cases h with
    | lst e n r =>
      obtain rfl := r.bools
      exact ⟨_, bs, rfl, SqL.of e, k _ H (St.refl w) (.bl _)⟩) hg (he := he)
theorem E.any {bs : List Bool} (hm : X.mg "any" = none) (h : E X M Γ e (L (bs.map .bool))) (hc : X.calm = true := by rfl) (hg : Gl X "any" := by rfl) (he : starEach [e] X.env = (false, eval e X.env) :: starEach [] X.env := by rfl) : E X M Γ (.Call (.Name "any" p) [e] [] pos) (Bo (bs.any _root_.id)) :=
  E.callB (cr_any hc) (by decide +kernel) hm (.cons h .nil he) (.one fun v H Q w h k => by
    cases h with
    | lst e n r =>
      obtain rfl := r.bools
      exact ⟨_, bs, rfl, SqL.of e, k _ H (St.refl w) (.bl _)⟩) hg (he := he)
theorem E.max {ns : List Int} (hm : X.mg "max" = none) (h : E X M Γ e (L (ns.map .int))) (hz : 0 < ns.length) (hc : X.calm = true := by rfl) (hg : Gl X "max" := by rfl) (he : starEach [e] X.env = (false, eval e X.env) :: starEach [] X.env := by rfl) :
    E X M Γ (.Call (.Name "max" p) [e] [] pos) (.some (fun m => m ∈ ns ∧ ∀ k ∈ ns, k ≤ m) I) :=
  E.callB (cr_max hc) (by decide +kernel) hm (.cons h .nil he) (.one fun v H Q w h k => by
    cases h with
    | lst e n r =>
      obtain rfl := r.ints
      exact ⟨_, ns, rfl, SqL.of e, hz, fun m h1 h2 => k _ H (St.refl w) ⟨m, ⟨h1, h2⟩, .int _⟩⟩) hg (he := he)
theorem E.min {ns : List Int} (hm : X.mg "min" = none) (h : E X M Γ e (L (ns.map .int))) (hz : 0 < ns.length) (hc : X.calm = true := by rfl) (hg : Gl X "min" := by rfl) (he : starEach [e] X.env = (false, eval e X.env) :: starEach [] X.env := by rfl) :
    E X M Γ (.Call (.Name "min" p) [e] [] pos) (.some (fun m => m ∈ ns ∧ ∀ k ∈ ns, m ≤ k) I) :=
  E.callB (cr_min hc) (by decide +kernel) hm (.cons h .nil he) (.one fun v H Q w h k => by
    cases h with
    | lst e n r =>
      obtain rfl := r.ints
      exact ⟨_, ns, rfl, SqL.of e, hz, fun m h1 h2 => k _ H (St.refl w) ⟨m, ⟨h1, h2⟩, .int _⟩⟩) hg (he := he)
theorem E.listL (hm : X.mg "list" = none) (h : E X M Γ e (L ds)) (hg : Gl X "list" := by rfl) (he : starEach [e] X.env = (false, eval e X.env) :: starEach [] X.env := by rfl) : E X M Γ (.Call (.Name "list" p) [e] [] pos) (L ds) :=
  E.callT call_list_of (by decide +kernel) hm (.cons h .nil he) (.one fun v H Q w h k => by
    cases h with
    | lst e n r =>
      refine ⟨_, _, rfl, .inl (SqL.of e), fun q hq => ?_⟩
      obtain ⟨s, np⟩ := w.new (o := .lst _) hq
      exact k _ _ s (.lst upd_same np (r.fr (s.kp w)))) hg (he := he)
theorem E.listU (hm : X.mg "list" = none) (h : E X M Γ e (U ds)) (hg : Gl X "list" := by rfl) (he : starEach [e] X.env = (false, eval e X.env) :: starEach [] X.env := by rfl) : E X M Γ (.Call (.Name "list" p) [e] [] pos) (L ds) :=
  E.callT call_list_of (by decide +kernel) hm (.cons h .nil he) (.one fun v H Q w h k => by
    cases h with
    | tup e n r =>
      refine ⟨_, _, rfl, .inr (SqT.of e), fun q hq => ?_⟩
      obtain ⟨s, np⟩ := w.new (o := .lst _) hq
      exact k _ _ s (.lst upd_same np (r.fr (s.kp w)))) hg (he := he)
theorem E.tupleL (hm : X.mg "tuple" = none) (h : E X M Γ e (L ds)) (hg : Gl X "tuple" := by rfl) (he : starEach [e] X.env = (false, eval e X.env) :: starEach [] X.env := by rfl) : E X M Γ (.Call (.Name "tuple" p) [e] [] pos) (U ds) :=
  E.callT call_tuple_of (by decide +kernel) hm (.cons h .nil he) (.one fun v H Q w h k => by
    cases h with
    | lst e n r =>
      refine ⟨_, _, rfl, .inl ⟨SqL.of e, fun q hq => ?_⟩⟩
      obtain ⟨s, np⟩ := w.new (o := .tup _) hq
      exact k _ _ s (.tup upd_same np (r.fr (s.kp w)))) hg (he := he)
theorem C.not {S : Bool → Prop} (h : C X M Γ e S) : C X M Γ (.UnaryOp .Not e pos) (fun b => S (!b)) := fun σ H l => wT.of (pt_not pt_w) ((h σ H l).mono fun b H1 ⟨s, q⟩ => ⟨s, by simpa using q⟩)
theorem C.notD {v : Bool} (h : C X M Γ e (· = v)) : C X M Γ (.UnaryOp .Not e pos) (· = !v) := h.not.imp fun b q => by rw [← q]; simp
theorem E.not {v : Bool} (h : E X M Γ e (Bo v)) : E X M Γ (.UnaryOp .Not e pos) (Bo (!v)) := fun σ H l => wE.of (pe_not pe_w) ((h σ H l).mono fun x H1 ⟨s, q⟩ => by
  cases q
  exact ⟨v, rfl, s, .bl _⟩)
theorem E.and {v u : Bool} (h : E X M Γ a (Bo v)) (g : v = true → E X M Γ (.BoolOp .And (b :: rest) pos) (Bo u)) : E X M Γ (.BoolOp .And (a :: b :: rest) pos) (Bo (v && u)) := fun σ H l => wE.of (pe_and pe_w pe_w) ((h σ H l).mono fun x H1 ⟨s, q⟩ => by
  cases q
  refine ⟨v, rfl, ?_⟩
  cases v with
  | true => exact (g rfl σ H1 (l.st s)).mono fun y H2 ⟨s2, q2⟩ => ⟨s.trans s2, q2⟩
  | false => exact ⟨s, .bl _⟩)
theorem E.or {v u : Bool} (h : E X M Γ a (Bo v)) (g : v = false → E X M Γ (.BoolOp .Or (b :: rest) pos) (Bo u)) : E X M Γ (.BoolOp .Or (a :: b :: rest) pos) (Bo (v || u)) := fun σ H l => wE.of (pe_or pe_w pe_w) ((h σ H l).mono fun x H1 ⟨s, q⟩ => by
  cases q
  refine ⟨v, rfl, ?_⟩
  cases v with
  | false => exact (g rfl σ H1 (l.st s)).mono fun y H2 ⟨s2, q2⟩ => ⟨s.trans s2, q2⟩
  | true => exact ⟨s, .bl _⟩)
theorem E.op1 {op : BoolOp} (h : E X M Γ a T) : E X M Γ (.BoolOp op [a] pos) T := fun σ H l => wE.of (pe_one pe_w) (h σ H l)
/-- a test, whatever its whole is -/
def CW (X : Cx) (M : Mx) (Γ : Gm) (e : Expr) (S : Bool → Prop) : Prop := ∃ t : TT, PW X e t ∧ ∀ σ H, Loc M Γ σ H → ∀ Q : Bool → Hp → Prop, (∀ b H', St M H H' → S b → Q b H') → t σ H Q
theorem CW.c {S : Bool → Prop} (h : CW X M Γ e S) : C X M Γ e S := fun σ H l => by
  obtain ⟨t, p, k⟩ := h
  exact wT.of p.pt (k σ H l _ fun b H' s q => ⟨s, q⟩)
theorem CW.and1 {S : Bool → Prop} (h : C X M Γ a S) : CW X M Γ (.BoolOp .And [a] pos) S := ⟨_, pw_and1 pt_w, fun σ H l Q k => (h σ H l).mono fun b H' ⟨s, q⟩ => k b H' s q⟩
theorem CW.or1 {S : Bool → Prop} (h : C X M Γ a S) : CW X M Γ (.BoolOp .Or [a] pos) S := ⟨_, pw_or1 pt_w, fun σ H l Q k => (h σ H l).mono fun b H' ⟨s, q⟩ => k b H' s q⟩
theorem CW.and {v u : Bool} (h : C X M Γ a (· = v)) (g : v = true → CW X M Γ (.BoolOp .And (b :: rest) pos) (· = u)) : CW X M Γ (.BoolOp .And (a :: b :: rest) pos) (· = (v && u)) := by
  cases v with
  | true =>
    obtain ⟨t, p, k⟩ := g rfl
    refine ⟨_, pw_and pt_w p, fun σ H l Q k2 => (h σ H l).mono fun b H1 ⟨s, q⟩ => ?_⟩
    rw [q, if_pos rfl]
    exact k σ H1 (l.st s) Q fun c H2 s2 q2 => k2 c H2 (s.trans s2) (by rw [q2]; rfl)
  | false =>
    refine ⟨_, pw_and pt_w (tB' := fun _ _ _ => False) ⟨fun _ _ _ _ _ _ _ z => False.elim z⟩, fun σ H l Q k2 => (h σ H l).mono fun b H1 ⟨s, q⟩ => ?_⟩
    rw [q, if_neg Bool.false_ne_true]
    exact k2 _ H1 s rfl
theorem CW.or {v u : Bool} (h : C X M Γ a (· = v)) (g : v = false → CW X M Γ (.BoolOp .Or (b :: rest) pos) (· = u)) : CW X M Γ (.BoolOp .Or (a :: b :: rest) pos) (· = (v || u)) := by
  cases v with
  | false =>
    obtain ⟨t, p, k⟩ := g rfl
    refine ⟨_, pw_or pt_w p, fun σ H l Q k2 => (h σ H l).mono fun b H1 ⟨s, q⟩ => ?_⟩
    rw [q, if_neg Bool.false_ne_true]
    exact k σ H1 (l.st s) Q fun c H2 s2 q2 => k2 c H2 (s.trans s2) (by rw [q2]; rfl)
  | true =>
    refine ⟨_, pw_or pt_w (tB' := fun _ _ _ => False) ⟨fun _ _ _ _ _ _ _ z => False.elim z⟩, fun σ H l Q k2 => (h σ H l).mono fun b H1 ⟨s, q⟩ => ?_⟩
    rw [q, if_pos rfl]
    exact k2 _ H1 s rfl
theorem E.ifExp {v : Bool} (hc : C X M Γ cnd (· = v)) (h1 : v = true → E X M Γ a T) (h2 : v = false → E X M Γ b T) : E X M Γ (.IfExp cnd a b pos) T := fun σ H l => wE.of (pe_ifExp pt_w pe_w pe_w) ((hc σ H l).mono fun d H1 ⟨s, q⟩ => by
  subst q
  cases d with
  | true => exact (h1 rfl σ H1 (l.st s)).mono fun y H2 ⟨s2, q2⟩ => ⟨s.trans s2, q2⟩
  | false => exact (h2 rfl σ H1 (l.st s)).mono fun y H2 ⟨s2, q2⟩ => ⟨s.trans s2, q2⟩)
theorem E.ifExpS {S : Bool → Prop} (hc : C X M Γ cnd S) (h1 : S true → E X M Γ a T) (h2 : S false → E X M Γ b T) : E X M Γ (.IfExp cnd a b pos) T := fun σ H l => wE.of (pe_ifExp pt_w pe_w pe_w) ((hc σ H l).mono fun d H1 ⟨s, q⟩ => by
  cases d with
  | true => exact (h1 q σ H1 (l.st s)).mono fun y H2 ⟨s2, q2⟩ => ⟨s.trans s2, q2⟩
  | false => exact (h2 q σ H1 (l.st s)).mono fun y H2 ⟨s2, q2⟩ => ⟨s.trans s2, q2⟩)
end

abbrev Mf (ex : Ads) (ph : Ph) (lk : List Addr) (H : Hp) : Mx := ⟨ex, ph, [], H, [], lk⟩
structure Pm (α : Type) where
  pre : α → Prop := fun _ => True
  req : α → Ph := fun _ => []
  args : α → List Ty
  res : α → Ty
  nolk : Bool := false
def Pm.sp {α : Type} (p : Pm α) : Sp := fun vs H Q _ => ∃ (a : α) (ex : Ads) (lk : List Addr), p.pre a ∧ Hw (Mf ex (p.req a) lk H) H ∧ (p.nolk = true → lk = []) ∧ Paired (fun (T : Ty) v => T.P ex v H) (p.args a) vs ∧
  ∀ v H', St (Mf ex (p.req a) lk H) H H' → (p.res a).P ex v H' → Q v H'
section
variable {M : Mx} {H H' : Hp}
theorem Hw.callee (w : Hw M H) {ph : Ph} (h : ∀ q ∈ ph, q ∈ M.ph) : Hw (Mf M.ex ph M.lk H) H :=
  ⟨w.exin, fun p hp q hq => w.fn p (h p hp) q (h q hq), fun p hp => w.ph p (h p hp), fun p hp => (by cases hp), List.Pairwise.nil, fun a o e _ => e, fun b hb => (by cases hb), fun a o u e => e, fun a o u e s => w.nk a o u (w.nf a o u e) s⟩
theorem St.caller (w : Hw M H) {ph : Ph} {lk : List Addr} (h : ∀ q ∈ ph, q ∈ M.ph) (s : St (Mf M.ex ph lk H) H H') : St M H H' := by
  refine ⟨fun a o e n => s.keep a o e fun q hq => n q (h q hq), fun p hp => ?_, s.nf⟩
  by_cases z : ∃ q ∈ ph, q.1 = p.1
  · obtain ⟨q, hq, e⟩ := z
    obtain ⟨o, e1, e2⟩ := s.ph q hq
    obtain rfl := w.fn q (h q hq) p hp e
    exact ⟨o, e1, e2⟩
  · obtain ⟨_, o, e1, e2⟩ := w.ph p hp
    refine ⟨o, s.keep _ _ e1 fun q hq e => z ⟨q, hq, e⟩, p.2.fr (.of fun a u e n => ⟨s.keep a u e fun q hq z => n (z ▸ (w.ph q (h q hq)).1), n⟩) e2⟩
end
/-- what comes back to the def's own entry -/
structure Le (M0 M : Mx) : Prop where
  H0 : M.H0 = M0.H0
  ph : ∀ q ∈ M0.ph, q ∈ M.ph
  pn : ∀ q ∈ M.ph, q ∈ M0.ph ∨ M0.H0 q.1 = none
  ex : ∀ a, M0.ex a → M.ex a
  lk : M.lk = M0.lk
theorem Le.refl (M : Mx) : Le M M := ⟨rfl, fun _ h => h, fun _ h => .inl h, fun _ h => h, rfl⟩
theorem Le.add {M0 M : Mx} (l : Le M0 M) {p : Addr} {c : Cn} : Le M0 (M.add p c) := ⟨l.H0, l.ph, l.pn, fun a h => .inl (l.ex a h), l.lk⟩
theorem Le.own {M0 M : Mx} (l : Le M0 M) {o : List (Addr × Cn)} : Le M0 { M with own := o } := ⟨l.H0, l.ph, l.pn, l.ex, l.lk⟩
theorem Le.push {M0 M : Mx} (l : Le M0 M) {b : List Hp} : Le M0 { M with bs := b } := ⟨l.H0, l.ph, l.pn, l.ex, l.lk⟩
def Ret (M0 : Mx) (R : Ty) (rt : VK) : Prop := ∀ M v H, Le M0 M → Hw M H → R.P M.ex v H → rt v H
theorem Le.kp {M0 M : Mx} (l : Le M0 M) (H : Hp) : Kp M.ex M0.ex H H := .of fun a o e n => ⟨e, fun z => n (l.ex a z)⟩
theorem Hw.back {M0 M : Mx} {H : Hp} (l : Le M0 M) (w : Hw M H) : St M0 M0.H0 H := ⟨fun a o e n => w.frm a o (l.H0 ▸ e) fun q hq z => (l.pn q hq).elim (fun h => n q h z) fun h => (by
    rw [z, e] at h
    cases h), fun p hp => let ⟨_, o, e1, f⟩ := w.ph p (l.ph p hp); ⟨o, e1, p.2.fr (l.kp H) f⟩, fun a o u e => l.H0 ▸ w.nf a o u e⟩
def startG (N : List Str) (Ts : List Ty) : Gm := Ts.map some ++ List.replicate (N.length - Ts.length) none
theorem start_vr {ex : Ads} {H : Hp} : ∀ {Ts : List Ty} {vs : List V} (n : Nat), Paired (fun (T : Ty) v => T.P ex v H) Ts vs → ∀ (i : Nat) (T : Ty), (Ts.map some ++ List.replicate n none)[i]? = some (some T) → ∃ v, (vs.map some ++ List.replicate n none)[i]? = some (some v) ∧ T.P ex v H
  | _, _, n, .nil, i, T, e => by
    rw [List.map_nil, List.nil_append, List.getElem?_replicate] at e
    split at e <;> cases e
  | _, _, n, .cons h r, 0, T, e => by
    simp at e
    exact ⟨_, rfl, e ▸ h⟩
  | _, _, n, .cons h r, i + 1, T, e => by
    obtain ⟨v, e', q⟩ := start_vr n r i T (by simpa using e)
    exact ⟨v, by simpa using e', q⟩
section
variable {w : World} {P : Program} {K : PySem.W.Frag} {mg : Str → Option Value} {base : Heap} {x qual : Str} {params : Arguments} {body : List Stmt} {scope : Scope} {dvs : List V} {kws : List (Str × V)} {f : Addr} {fd : FuncData}
/-- a def keeps its promise, by its body -/
theorem fn_pm {α : Type} {p : Pm α} {N ps : List Str} {k : Nat} (F : FunD K x qual params body scope dvs kws f fd) (S : FnScope N ps scope) (hl : ∀ a, (p.args a).length = ps.length)
    (hb : ∀ (a : α) (cdv : Value) (A : Around) (outer : List Env) (s : Shared) (H : Hp) (Ex : XK) (ex : Ads) (lk : List Addr) (D : Ends), p.pre a → (p.nolk = true → lk = []) → Room k (A.deeper (envOfC qual scope s.heap.objs.size f cdv)) →
      Ret (Mf ex (p.req a) lk H) (p.res a) D.rt → (∀ σ H', D.nx σ H' = D.rt .non H') → B (cxOf CX0 P w K mg base N qual scope f cdv A outer s H Ex).nox (Mf ex (p.req a) lk H) (startG N (p.args a)) body D) :
    FnOk P w K mg base CX0 (k + 1) f fd ps p.sp := by
  refine F.ok S (fun vs H Q Ex ⟨a, ex, lk, _, _, _, hp, _⟩ => by rw [← prd_len hp]; exact hl a) fun cdv A outer s H vs Q Ex hr ⟨a, ex, lk, hpre, hw, hlk, hp, hQ⟩ => ?_
  refine ⟨_, PSs.nox pb_w, ?_⟩
  refine hb a cdv A outer s H Ex ex lk { nx := fun _ H' => Q .non H', rt := Q } hpre hlk hr (fun M v H' l w' h => ?_) (fun _ _ => rfl) (L2.start N vs) H ?_
  · exact hQ v H' (w'.back l) ((p.res a).fr (l.kp H') h)
  · refine ⟨hw, ?_, ?_⟩
    · unfold startG L2.start
      rw [List.length_append, List.length_append, List.length_map, List.length_map, List.length_replicate, List.length_replicate, prd_len hp]
    · unfold startG L2.start
      rw [← prd_len hp]
      exact start_vr _ hp
end
section
variable {X : Cx} {M : Mx} {Γ : Gm} {e : Expr} {es : List Expr} {T : Ty} {Ts : List Ty} {pos pn : Pos} {x : Str} {f : Addr} {fd : FuncData} {ps : List Str} {k : Nat} {α : Type} {p : Pm α}
/-- a call of a def, the promise's letter chosen behind the arguments -/
theorem E.callG (F : FnOk X.prog X.w X.K X.mg X.base CX0 k f fd ps p.sp) (hr : Room k X.A) (hm : X.mg x = some (.ref f)) (hk : PySem.W.keepIn X.K (.ref f) = true) (hb : Binds X.K fd ps []) (hlk : p.nolk = true → M.lk = []) (ha : A X M Γ (e :: es) Ts)
    (hs : ∀ vs H, Hw M H → Paired (fun (T : Ty) v => T.P M.ex v H) Ts vs → ∃ a, p.pre a ∧ (∀ q ∈ p.req a, q ∈ M.ph) ∧ Paired (fun (T : Ty) v => T.P M.ex v H) (p.args a) vs ∧ ∀ v H', (p.res a).P M.ex v H' → T.P M.ex v H')
    (hg : Gl X x := by rfl) (hdb : (x == ("__debug__" : Str)) = false := by decide) (he : starEach (e :: es) X.env = (false, eval e X.env) :: starEach es X.env := by rfl) (hpl : (backTo pos (starEach es X.env)).any (·.1) = false := by rfl) : E X M Γ (.Call (.Name x pn) (e :: es) [] pos) T := fun σ H l =>
  wE.of (pe_call F hr hg hm hk hb .nil pass0 pa_w hdb he hpl) ((ha σ H l).mono fun vs H1 ⟨s1, h1⟩ => by
    have w := l.hw.st s1
    obtain ⟨a, h2, h3, h4, h5⟩ := hs vs H1 w h1
    rw [List.append_nil]
    exact ⟨a, M.ex, M.lk, h2, w.callee h3, hlk, h4, fun v H' s h => ⟨s1.trans (s.caller w h3), h5 v H' h⟩⟩)
theorem E.call (a : α) (F : FnOk X.prog X.w X.K X.mg X.base CX0 k f fd ps p.sp) (hr : Room k X.A) (hm : X.mg x = some (.ref f)) (hk : PySem.W.keepIn X.K (.ref f) = true) (hb : Binds X.K fd ps []) (hp : p.pre a) (ha : A X M Γ (e :: es) (p.args a)) (hq : ∀ q ∈ p.req a, q ∈ M.ph) (hlk : p.nolk = true → M.lk = [])
    (hg : Gl X x := by rfl) (hdb : (x == ("__debug__" : Str)) = false := by decide) (he : starEach (e :: es) X.env = (false, eval e X.env) :: starEach es X.env := by rfl) (hpl : (backTo pos (starEach es X.env)).any (·.1) = false := by rfl) : E X M Γ (.Call (.Name x pn) (e :: es) [] pos) (p.res a) :=
  E.callG F hr hm hk hb hlk ha (fun vs H _ h => ⟨a, hp, hq, h, fun _ _ z => z⟩) hg hdb he hpl
end
end HB


namespace HB
open PySem L2 PyProof.Rows PySem.Spec

/-- J yields things of the types Ts, one by one, wherever the heap H0 stands as it was -/
structure Src (M : Mx) (ow : Bool) (J : It) (H0 : Hp) (Ts : List Ty) : Prop where
  item : ∀ (i : Nat) (T : Ty), Ts[i]? = some T → ∀ (H : Hp) (ex' : Ads), Nx M.ex ex' H0 H → (ow = true → ∀ q ∈ M.own, ∀ o, H0 q.1 = some o → H q.1 = some o) → (∀ a, ex' a → ∃ o, H a = some o ∧ NoT o) → J.go i H ∧
    ∀ x H', J.yld i H x H' → (∀ a o, H a = some o → H' a = some o) ∧ (∀ a o u, H' a = some (.frz o u) → H a = some (.frz o u)) ∧ T.P ex' x H'
  done : ∀ (H : Hp) (ex' : Ads), Nx M.ex ex' H0 H → (ow = true → ∀ q ∈ M.own, ∀ o, H0 q.1 = some o → H q.1 = some o) → J.stop Ts.length H
/-- iter is walked: of types Ts with S Ts -/
def W (X : Cx) (M : Mx) (Γ : Gm) (ow : Bool) (tg iter : Expr) (S : List Ty → Prop) : Prop := ∃ wi : TI, PI X tg iter wi ∧ ∀ σ H, Loc M Γ σ H → ∀ R : It → Hp → Prop, (∀ J H1 Ts, St M H H1 → S Ts → Src M ow J H1 Ts → R J H1) → wi σ H R
section
variable {X : Cx} {M : Mx} {Γ : Gm} {ow : Bool} {e tg iter : Expr} {T : Ty} {Ts : List Ty} {ds : List PyData} {pos pn : Pos}
theorem get_D {ds : List PyData} {i : Nat} {T : Ty} (h : (ds.map D)[i]? = some T) : ∃ d, ds[i]? = some d ∧ T = D d := by
  rw [List.getElem?_map] at h
  cases e : ds[i]? with
  | none => (rw [e] at h; cases h)
  | some d => rw [e] at h; exact ⟨d, rfl, (Option.some.inj h).symm⟩
theorem W.exL {α : Sort _} {S : α → Prop} {f : α → List PyData} (h : E X M Γ e (.some S fun a => L (f a))) : W X M Γ ow tg e (fun Ts => ∃ a, S a ∧ Ts = (f a).map D) := ⟨_, pi_list pe_w, fun σ H l R k => (h σ H l).mono fun v H1 ⟨s1, a, sa, h1⟩ => by
  cases h1 with
  | @lst b xs _ e n r =>
    refine ⟨b, rfl, ⟨xs, SqL.of e⟩, k _ H1 _ s1 ⟨a, sa, rfl⟩ ⟨fun i T hT H ex' nx _ _ => ?_, fun H ex' nx _ => ⟨xs, SqL.of (nx b _ e n).1, by rw [r.length, List.length_map]; exact Nat.le_refl _⟩⟩⟩
    obtain ⟨d, hd, rfl⟩ := get_D hT
    obtain ⟨x, hx, rx⟩ := (r.fr nx.kp).get hd
    refine ⟨⟨xs, x, SqL.of (nx b _ e n).1, hx⟩, fun y H' ⟨hH, hy⟩ => ?_⟩
    subst hH
    have := hy xs (SqL.of (nx b _ e n).1)
    rw [hx] at this
    cases this
    exact ⟨fun _ _ z => z, fun _ _ _ z => z, rx⟩⟩
theorem W.exU {α : Sort _} {S : α → Prop} {f : α → List PyData} (h : E X M Γ e (.some S fun a => U (f a))) : W X M Γ ow tg e (fun Ts => ∃ a, S a ∧ Ts = (f a).map D) := ⟨_, pi_tup pe_w, fun σ H l R k => (h σ H l).mono fun v H1 ⟨s1, a, sa, h1⟩ => by
  cases h1 with
  | @tup b xs _ e n r =>
    refine ⟨b, rfl, ⟨xs, SqT.of e⟩, k _ H1 _ s1 ⟨a, sa, rfl⟩ ⟨fun i T hT H ex' nx _ _ => ?_, fun H ex' nx _ => ⟨xs, SqT.of (nx b _ e n).1, by rw [r.length, List.length_map]; exact Nat.le_refl _⟩⟩⟩
    obtain ⟨d, hd, rfl⟩ := get_D hT
    obtain ⟨x, hx, rx⟩ := (r.fr nx.kp).get hd
    refine ⟨⟨xs, x, SqT.of (nx b _ e n).1, hx⟩, fun y H' ⟨hH, hy⟩ => ?_⟩
    subst hH
    have := hy xs (SqT.of (nx b _ e n).1)
    rw [hx] at this
    cases this
    exact ⟨fun _ _ z => z, fun _ _ _ z => z, rx⟩⟩
theorem W.list (h : E X M Γ e (L ds)) : W X M Γ ow tg e (· = ds.map D) := by
  obtain ⟨wi, p, k⟩ := W.exL (tg := tg) (S := fun a : List PyData => a = ds) (f := _root_.id) (h.imp fun v H w q => ⟨ds, rfl, q⟩)
  exact ⟨wi, p, fun σ H l R q => k σ H l R fun J H1 Ts s ⟨a, e, e2⟩ => q J H1 Ts s (by rw [e2, e]; rfl)⟩
theorem W.tup (h : E X M Γ e (U ds)) : W X M Γ ow tg e (· = ds.map D) := by
  obtain ⟨wi, p, k⟩ := W.exU (tg := tg) (S := fun a : List PyData => a = ds) (f := _root_.id) (h.imp fun v H w q => ⟨ds, rfl, q⟩)
  exact ⟨wi, p, fun σ H l R q => k σ H l R fun J H1 Ts s ⟨a, e, e2⟩ => q J H1 Ts s (by rw [e2, e]; rfl)⟩
theorem W.listT (h : E X M Γ e (listT Ts)) : W X M Γ ow tg e (· = Ts) := ⟨_, pi_list pe_w, fun σ H l R k => (h σ H l).mono fun v H1 ⟨s1, h1⟩ => by
  obtain ⟨b, xs, rfl, e, n, r⟩ := h1
  refine ⟨b, rfl, ⟨xs, SqL.of e⟩, k _ H1 _ s1 rfl ⟨fun i T hT H ex' nx _ _ => ?_, fun H ex' nx _ => ⟨xs, SqL.of (nx b _ e n).1, by rw [prd_len r]; exact Nat.le_refl _⟩⟩⟩
  obtain ⟨x, hx, rx⟩ := prd_get r hT
  refine ⟨⟨xs, x, SqL.of (nx b _ e n).1, hx⟩, fun y H' ⟨hH, hy⟩ => ?_⟩
  subst hH
  have := hy xs (SqL.of (nx b _ e n).1)
  rw [hx] at this
  cases this
  exact ⟨fun _ _ z => z, fun _ _ _ z => z, T.fr nx.kp rx⟩⟩
/-- a list of one's own, walked where it stays -/
theorem W.own {p : Addr} (h : E X M Γ e (Ty.is (.ref p))) (hp : (p, cnL ds) ∈ M.own) : W X M Γ true tg e (· = ds.map D) := ⟨_, pi_list pe_w, fun σ H l R k => (h σ H l).mono fun v H1 ⟨s1, h1⟩ => by
  cases h1
  obtain ⟨o, e, xs, rfl, r⟩ := (l.st s1).own_at hp
  have at_ : ∀ {H : Hp}, (true = true → ∀ q ∈ M.own, ∀ o, H1 q.1 = some o → H q.1 = some o) → H p = some (.lst xs) := fun h => h rfl (p, cnL ds) hp _ e
  refine ⟨p, rfl, ⟨xs, SqL.of e⟩, k _ H1 _ s1 rfl ⟨fun i T hT H ex' nx ho _ => ?_, fun H ex' nx ho => ⟨xs, SqL.of (at_ ho), by rw [r.length, List.length_map]; exact Nat.le_refl _⟩⟩⟩
  obtain ⟨d, hd, rfl⟩ := get_D hT
  obtain ⟨x, hx, rx⟩ := (r.fr nx.kp).get hd
  refine ⟨⟨xs, x, SqL.of (at_ ho), hx⟩, fun y H' ⟨hH, hy⟩ => ?_⟩
  subst hH
  have := hy xs (SqL.of (at_ ho))
  rw [hx] at this
  cases this
  exact ⟨fun _ _ z => z, fun _ _ _ z => z, rx⟩⟩
/-- range(n) -/
def rgT (lo : Int) (n : Nat) : List Ty := (List.range n).map fun i : Nat => I (lo + (i : Int))
theorem rgT_get {lo : Int} {n i : Nat} {T : Ty} (h : (rgT lo n)[i]? = some T) : T = I (lo + (i : Int)) ∧ i < n := by
  unfold rgT at h
  rw [List.getElem?_map] at h
  by_cases hi : i < n
  · rw [List.getElem?_range hi] at h
    exact ⟨(Option.some.inj h).symm, hi⟩
  · rw [List.getElem?_eq_none (by simpa using hi)] at h
    cases h
theorem W.range1 {S : Nat → Prop} (hm : X.mg "range" = none) (h : E X M Γ e (.some S fun n => I (n : Int))) (hz : ∀ n, S n → n ≤ 100000) (hg : Gl X "range" := by rfl) (hs : starEach [e] X.env = [(false, eval e X.env)] := by rfl) (he : starEach [e] X.env = (false, eval e X.env) :: starEach [] X.env := by rfl) : W X M Γ ow tg (.Call (.Name "range" pn) [e] [] pos) (fun Ts => ∃ n, S n ∧ Ts = rgT 0 n) :=
  ⟨_, pi_range1 hg hm (pa_cons pe_w pa_nil he) hs, fun σ H l R k => (h σ H l).mono fun v H1 ⟨s1, n, sn, h1⟩ => by
    cases h1
    have := hz n sn
    refine ⟨(n : Int), rfl, by omega, by omega, ?_⟩
    rw [Int.toNat_natCast]
    refine k _ H1 _ s1 ⟨n, sn, rfl⟩ ⟨fun i T hT H ex' nx _ _ => ?_, fun H ex' nx _ => ?_⟩
    · obtain ⟨rfl, hi⟩ := rgT_get hT
      refine ⟨hi, fun x H' ⟨hH, hx⟩ => ?_⟩
      subst hH
      subst hx
      exact ⟨fun _ _ z => z, fun _ _ _ z => z, .int _⟩
    · show n ≤ (rgT 0 n).length
      unfold rgT
      (rw [List.length_map, List.length_range])
      exact Nat.le_refl _⟩
/-- a text, sign by sign -/
theorem W.str {x : Str} (h : E X M Γ e (S_ x)) : W X M Γ ow tg e (· = x.cps.toList.map fun c => S_ ⟨#[c]⟩) := ⟨_, pi_str pe_w, fun σ H l R k => (h σ H l).mono fun v H1 ⟨s1, h1⟩ => by
  cases h1
  refine ⟨x, rfl, k _ H1 _ s1 rfl ⟨fun i T hT H ex' nx _ _ => ?_, fun H ex' nx _ => ?_⟩⟩
  · rw [List.getElem?_map, Array.getElem?_toList] at hT
    cases hc : x.cps[i]? with
    | none => rw [hc] at hT; cases hT
    | some c =>
      rw [hc] at hT
      cases hT
      have hi : i < x.cps.size := (Array.getElem?_eq_some_iff.mp hc).1
      refine ⟨hi, fun y H' ⟨hH, c', hc', hy⟩ => ?_⟩
      subst hH
      rw [hc] at hc'
      cases hc'
      subst hy
      exact ⟨fun _ _ z => z, fun _ _ _ z => z, .str _⟩
  · show x.cps.size ≤ _
    (rw [List.length_map, Array.length_toList])
    exact Nat.le_refl _⟩
end

/-- what a value of type T makes of the slots -/
def Tg (g : TG) (T : Ty) (Γ Γ' : Gm) (vs : List Nat) : Prop := ∀ (M : Mx) (σ : L2.St) (H : Hp) (v : V) (Q : L2.St → Hp → Prop), Loc M Γ σ H → T.P M.ex v H → (∀ σ', Loc M Γ' σ' H → wipe σ' vs = wipe σ vs → Q σ' H) → g v σ H Q
theorem wipe_set {j : Nat} {x : Option V} : ∀ {vs : List Nat} {σ : L2.St}, j ∈ vs → wipe (σ.set j x) vs = wipe σ vs
  | [], _, h => by cases h
  | v :: vs, σ, h => by
    unfold wipe
    by_cases hj : j ∈ vs
    · rw [wipe_set hj]
    · have e : j = v := by
        rcases List.mem_cons.mp h with h | h
        · exact h
        · exact absurd h hj
      subst e
      have key : ∀ {ws : List Nat} {τ : L2.St}, j ∉ ws → wipe (τ.set j x) ws = (wipe τ ws).set j x := by
        intro ws
        induction ws with
        | nil => intro τ _; rfl
        | cons u ws ih =>
          intro τ hn
          (rw [List.mem_cons, not_or] at hn)
          unfold wipe
          rw [ih hn.2, List.set_comm _ _ hn.1]
      rw [key hj, List.set_set]
theorem wipe_wipe (σ : L2.St) : ∀ vs : List Nat, wipe (wipe σ vs) vs = wipe σ vs := by
  intro vs
  have key : ∀ ws : List Nat, (∀ j ∈ ws, j ∈ vs) → wipe (wipe σ ws) vs = wipe σ vs := by
    intro ws
    induction ws with
    | nil => intro _; rfl
    | cons u ws ih =>
      intro h
      show wipe ((wipe σ ws).set u none) vs = _
      rw [wipe_set (h u List.mem_cons_self)]
      exact ih fun j hj => h j (List.mem_cons_of_mem _ hj)
  exact key vs fun _ h => h
theorem Tg.name {j : Nat} {T : Ty} {Γ : Gm} {vs : List Nat} (h : j ∈ vs) : Tg (gName j) T Γ (Γ.set j (some T)) vs := fun M σ H v Q l hv k => k _ (l.set hv) (wipe_set h)
theorem Tg.pairT {K : PySem.W.Frag} {i j : Nat} {T1 T2 : Ty} {Γ : Gm} {vs : List Nat} (h1 : i ∈ vs) (h2 : j ∈ vs) : Tg (gTup K 2 (gCons (gName i) (gCons (gName j) gNil))) (tupT [T1, T2]) Γ ((Γ.set i (some T1)).set j (some T2)) vs := fun M σ H v Q l hv k => by
  obtain ⟨a, xs, rfl, e, n, r⟩ := hv
  cases r with
  | cons r1 r =>
    cases r with
    | cons r2 r =>
      cases r
      exact ⟨a, _, rfl, SqT.of e, rfl, _, _, rfl, _, _, rfl, rfl, k _ ((l.set r1).set r2) (by rw [wipe_set h2, wipe_set h1])⟩
theorem Tg.pair {K : PySem.W.Frag} {i j : Nat} {d1 d2 : PyData} {Γ : Gm} {vs : List Nat} (h1 : i ∈ vs) (h2 : j ∈ vs) : Tg (gTup K 2 (gCons (gName i) (gCons (gName j) gNil))) (U [d1, d2]) Γ ((Γ.set i (some (D d1))).set j (some (D d2))) vs := fun M σ H v Q l hv k =>
  Tg.pairT h1 h2 M σ H v Q l (D_tupT (ds := [d1, d2]) hv) k

/-- the element (the test) in any block of the comprehension -/
def wEb (X : Cx) (scope : Scope) (e : Expr) : TE := fun σ H Q => ∀ (s : Shared) (H0 : Hp) (C : Addr) (cl : List (Str × Addr)) (fp : List Addr), wE (X.blk s H0 scope (compEnvC scope cl C X.env) fp) e σ H Q
def wTb (X : Cx) (scope : Scope) (e : Expr) : TT := fun σ H Q => ∀ (s : Shared) (H0 : Hp) (C : Addr) (cl : List (Str × Addr)) (fp : List Addr), wT (X.blk s H0 scope (compEnvC scope cl C X.env) fp) e σ H Q
def Eb (X : Cx) (scope : Scope) (M : Mx) (Γ : Gm) (e : Expr) (T : Ty) : Prop := ∀ (s : Shared) (H0 : Hp) (C : Addr) (cl : List (Str × Addr)) (fp : List Addr), E (X.blk s H0 scope (compEnvC scope cl C X.env) fp) M Γ e T
def Cb (X : Cx) (scope : Scope) (M : Mx) (Γ : Gm) (e : Expr) (S : Bool → Prop) : Prop := ∀ (s : Shared) (H0 : Hp) (A : Addr) (cl : List (Str × Addr)) (fp : List Addr), C (X.blk s H0 scope (compEnvC scope cl A X.env) fp) M Γ e S
theorem setO_head {p : Addr} {c c' : Cn} {r : List (Addr × Cn)} : setO ((p, c) :: r) p c' = (p, c') :: r := by
  unfold setO
  rw [if_pos rfl]
theorem prd_get' {α β : Type} {F : α → β → Prop} : ∀ {xs : List α} {ys : List β} {i : Nat}, Paired F xs ys → i < xs.length → ∃ x y, xs[i]? = some x ∧ ys[i]? = some y ∧ F x y
  | _, _, i, .nil, e => by simp at e
  | _, _, 0, .cons a _, e => ⟨_, _, rfl, rfl, a⟩
  | _, _, i + 1, .cons _ b, e => by
    obtain ⟨x, y, h1, h2, r⟩ := prd_get' (i := i) b (by simpa using e)
    exact ⟨x, y, by simpa using h1, by simpa using h2, r⟩
/-- the reading of a comprehension -/
theorem lc_read {M : Mx} {Γ : Gm} {ow : Bool} {σ : L2.St} {H : Hp} {wi : TI} {g : TG} {tt : TT} {te : TE} {vs : List Nat} {S : List Ty → Prop} {Iv : List Ty → Nat → List PyData → Prop} {Q : VK} (l : Loc M Γ σ H)
    (mt : ∀ σ H (Q Q' : Bool → Hp → Prop), (∀ b H', Q b H' → Q' b H') → tt σ H Q → tt σ H Q') (me : ∀ σ H (Q Q' : VK), (∀ v H', Q v H' → Q' v H') → te σ H Q → te σ H Q')
    (hit : ∀ R : It → Hp → Prop, (∀ J H1 Ts, St M H H1 → S Ts → Src M ow J H1 Ts → R J H1) → wi σ H R) (h0 : ∀ Ts, S Ts → Iv Ts 0 []) (hz : ∀ Ts, S Ts → Ts.length ≤ 100000)
    (turn : ∀ Ts, S Ts → ∀ i T acc, Ts[i]? = some T → Iv Ts i acc → ∃ Γ', Tg g T (wipeG Γ vs) Γ' vs ∧ ∀ p σ' H', Loc (M.add p (cnL acc)) Γ' σ' H' → tt σ' H' fun b H3 => if b = true then te σ' H3 fun y H4 => St (M.add p (cnL acc)) H' H4 ∧ ∃ d, Iv Ts (i + 1) (acc ++ [d]) ∧ Rp (M.add p (cnL acc)).ex H4 y d
      else St (M.add p (cnL acc)) H' H3 ∧ Iv Ts (i + 1) acc)
    (hd : ∀ Ts acc p H', S Ts → Iv Ts Ts.length acc → St M H H' → Rp M.ex H' (.ref p) (.list acc) → Q (.ref p) H') : tLc wi g tt te vs σ H Q := by
  refine hit _ fun J H1 Ts s1 hS src D hD => ?_
  have w1 := l.hw.st s1
  have nexD : ¬ M.ex D := w1.fresh hD
  refine ⟨fun i m H' => ∃ acc, m = Ts.length - i ∧ i ≤ Ts.length ∧ acc.length ≤ i ∧ Iv Ts i acc ∧ Loc (M.add D (cnL acc)) (wipeG Γ vs) (wipe σ vs) H' ∧ Nx M.ex (M.add D (cnL acc)).ex H1 H' ∧ St M H1 H', ⟨_, [], rfl, Nat.zero_le _, Nat.le_refl _, h0 Ts hS, ?_, ?_, ?_⟩, ?_⟩
  · exact ((l.st s1).wipe vs).own_new hD (fun _ _ z => by cases z) ⟨[], rfl, .nil⟩
  · intro a o e n
    have ne := ne_of_none e hD
    exact ⟨by rw [upd_ne ne]; exact e, fun z => z.elim n ne⟩
  · exact (w1.new (o := .lst []) hD).1
  · rintro i m H' ⟨acc, rfl, hi, hal, iv, loc, nx, sH⟩
    by_cases hlt : i < Ts.length
    · have hT : Ts[i]? = some Ts[i] := List.getElem?_eq_getElem hlt
      have kow : ow = true → ∀ q ∈ M.own, ∀ o, H1 q.1 = some o → H' q.1 = some o := fun _ q hq o e => sH.keep _ o e (w1.own q hq).2.2.1
      obtain ⟨go, yl⟩ := src.item i _ hT H' _ nx kow loc.hw.exin
      obtain ⟨Γ', tg, tn⟩ := turn Ts hS i _ acc hT iv
      refine .inr ⟨go, fun H'' => ∃ acc', acc'.length ≤ i + 1 ∧ Iv Ts (i + 1) acc' ∧ Loc (M.add D (cnL acc')) (wipeG Γ vs) (wipe σ vs) H'' ∧ Nx M.ex (M.add D (cnL acc')).ex H1 H'' ∧ St M H1 H'', fun H'' ⟨acc', a1, a2, a3, a4, a5⟩ => ⟨Ts.length - (i + 1), by omega, acc', rfl, hlt, a1, a2, a3, a4, a5⟩, fun x H2 hy => ?_⟩
      obtain ⟨k2, nf2, hx⟩ := yl x H2 hy
      have st2 : St (M.add D (cnL acc)) H' H2 := ⟨fun a o e _ => k2 a o e, fun p hp => by
        obtain ⟨_, o, e, f⟩ := loc.hw.ph p hp
        exact ⟨o, k2 _ o e, p.2.fr (.of fun a o e n => ⟨k2 a o e, n⟩) f⟩, nf2⟩
      have loc2 := loc.st st2
      refine tg (M.add D (cnL acc)) _ H2 x _ loc2 hx fun σ' loc3 hw => ⟨by rw [hw]; exact wipe_wipe σ vs, ?_⟩
      have fin : ∀ {H3 : Hp}, St (M.add D (cnL acc)) H2 H3 → Nx M.ex (M.add D (cnL acc)).ex H1 H3 ∧ St M H1 H3 := fun {H3} s3 => by
        refine ⟨fun a o e n => ?_, ?_⟩
        · obtain ⟨e', n'⟩ := nx a o e n
          exact s3.nx loc2.hw a o (k2 a o e') n'
        · exact sH.trans (St.of (M := M.add D (cnL acc)) rfl kp_drop (st2.trans s3))
      refine mt _ _ _ _ (fun b H3 hb => ?_) (tn D σ' H2 loc3)
      cases b with
      | false =>
        rw [if_neg Bool.false_ne_true] at hb ⊢
        obtain ⟨s3, iv'⟩ := hb
        exact ⟨acc, Nat.le_succ_of_le hal, iv', loc2.st s3, (fin s3).1, (fin s3).2⟩
      | true =>
        rw [if_pos rfl] at hb ⊢
        refine me _ _ _ _ (fun y H4 ⟨s4, d, iv', hd'⟩ => ?_) hb
        have loc4 := loc2.st s4
        obtain ⟨o, e, xs, rfl, rx⟩ := loc4.own_at (p := D) (c := cnL acc) List.mem_cons_self
        have hzz := hz Ts hS
        have lx := rx.length
        have up := kp_upd (M := M.add D (cnL acc)) (H := H4) (v' := D) (.inr rfl) (o := .lst (xs ++ [y]))
        have loc5 := loc4.own_set (p := D) (c := cnL acc) (c' := cnL (acc ++ [d])) (o := .lst (xs ++ [y])) List.mem_cons_self (fun _ _ z => by cases z) ⟨_, rfl, (rx.append (.one hd')).fr up⟩
        refine ⟨xs, e, Nat.lt_of_le_of_lt (show xs.length ≤ 100000 by omega) (by decide), acc ++ [d], by rw [List.length_append]; show acc.length + 1 ≤ i + 1; omega, iv', ?_, fun a o e n => ?_, ?_⟩
        · have eo : setO (M.add D (cnL acc)).own D (cnL (acc ++ [d])) = (M.add D (cnL (acc ++ [d]))).own := setO_head
          have := loc5
          rw [eo] at this
          exact this
        · obtain ⟨e', n'⟩ := (fin s4).1 a o e n
          have ne : a ≠ D := fun z => n' (.inr z)
          exact ⟨by rw [upd_ne ne]; exact e', n'⟩
        · have s5 := (fin s4).2
          refine ⟨fun a o e n => ?_, fun p hp => ?_, fun a o u e => s5.nf a o u (nf_upd (fun _ _ z => by cases z) e)⟩
          · rw [upd_ne (ne_of_none e hD)]
            exact s5.keep a o e n
          · obtain ⟨o, e, f⟩ := s4.ph p hp
            refine ⟨o, ?_, p.2.fr (up.trans kp_drop) f⟩
            rw [upd_ne (fun z : p.1 = D => nexD (by rw [← z]; exact (l.hw.ph p hp).1))]
            exact e
    · have hn : i = Ts.length := by omega
      subst hn
      refine .inl ⟨src.done H' _ nx fun _ q hq o e => sH.keep _ o e (w1.own q hq).2.2.1, ?_⟩
      obtain ⟨o, e, xs, rfl, rx⟩ := loc.own_at (p := D) (c := cnL acc) List.mem_cons_self
      exact hd Ts acc D H' hS iv (s1.trans sH) (.lst e nexD (rx.fr kp_drop))
section
variable {X : Cx} {M : Mx} {Γ : Gm} {ow : Bool} {elt tg iter cnd : Expr} {scope : Scope} {pos spos : Pos} {g : TG} {own : List (Str × Nat)} {S : List Ty → Prop} {Iv : List Ty → Nat → List PyData → Prop}
theorem Eb.mono {e : Expr} : ∀ σ H (Q Q' : VK), (∀ v H', Q v H' → Q' v H') → wEb X scope e σ H Q → wEb X scope e σ H Q' := fun σ H Q Q' k h s H0 A cl fp => (h s H0 A cl fp).mono k
theorem Cb.mono {e : Expr} : ∀ σ H (Q Q' : Bool → Hp → Prop), (∀ v H', Q v H' → Q' v H') → wTb X scope e σ H Q → wTb X scope e σ H Q' := fun σ H Q Q' k h s H0 A cl fp => (h s H0 A cl fp).mono k
theorem pts_wb : ∀ (s : Shared) (H : Hp) (A : Addr) (cl : List (Str × Addr)) (fp : List Addr), PTs (X.blk s H scope (compEnvC scope cl A X.env) fp) [cnd] (wTb X scope cnd) := fun s H A cl fp => pts_one ⟨fun pins s' _ _ _ I h => h s H A cl fp pins s' I⟩
theorem pe_wb : ∀ (s : Shared) (H : Hp) (A : Addr) (cl : List (Str × Addr)) (fp : List Addr), PE (X.blk s H scope (compEnvC scope cl A X.env) fp) elt (wEb X scope elt) := fun s H A cl fp => ⟨fun pins s' _ _ _ I h => h s H A cl fp pins s' I⟩
/-- what a comprehension's turn asks, with a test -/
def Turn1 (X : Cx) (scope : Scope) (M : Mx) (Γ : Gm) (g : TG) (vs : List Nat) (cnd elt : Expr) (Iv : List Ty → Nat → List PyData → Prop) (Ts : List Ty) : Prop := ∀ i T acc, Ts[i]? = some T → Iv Ts i acc → ∃ Γ', Tg g T (wipeG Γ vs) Γ' vs ∧ ∃ S' : Bool → Prop, ∀ p,
  Cb X scope (M.add p (cnL acc)) Γ' cnd S' ∧ (S' true → Eb X scope (M.add p (cnL acc)) Γ' elt (.some (fun d => Iv Ts (i + 1) (acc ++ [d])) D)) ∧ (S' false → Iv Ts (i + 1) acc)
def Turn0 (X : Cx) (scope : Scope) (M : Mx) (Γ : Gm) (g : TG) (vs : List Nat) (elt : Expr) (Iv : List Ty → Nat → List PyData → Prop) (Ts : List Ty) : Prop := ∀ i T acc, Ts[i]? = some T → Iv Ts i acc → ∃ Γ', Tg g T (wipeG Γ vs) Γ' vs ∧ ∀ p,
  Eb X scope (M.add p (cnL acc)) Γ' elt (.some (fun d => Iv Ts (i + 1) (acc ++ [d])) D)
theorem read1 {σ : L2.St} {H : Hp} {wi : TI} {vs : List Nat} {Q : VK} (l : Loc M Γ σ H) (hit : ∀ R : It → Hp → Prop, (∀ J H1 Ts, St M H H1 → S Ts → Src M ow J H1 Ts → R J H1) → wi σ H R) (h0 : ∀ Ts, S Ts → Iv Ts 0 []) (hz : ∀ Ts, S Ts → Ts.length ≤ 100000)
    (turn : ∀ Ts, S Ts → Turn1 X scope M Γ g vs cnd elt Iv Ts) (hd : ∀ Ts acc p H', S Ts → Iv Ts Ts.length acc → St M H H' → Rp M.ex H' (.ref p) (.list acc) → Q (.ref p) H') : tLc wi g (wTb X scope cnd) (wEb X scope elt) vs σ H Q := by
  refine lc_read (S := S) (Iv := Iv) l Cb.mono Eb.mono hit h0 hz (fun Ts hS i T acc hT iv => ?_) hd
  obtain ⟨Γ', tg, S', k⟩ := turn Ts hS i T acc hT iv
  refine ⟨Γ', tg, fun p σ' H' loc s H0 A cl fp => ?_⟩
  obtain ⟨k1, k2, k3⟩ := k p
  refine (k1 s H0 A cl fp σ' H' loc).mono fun b H3 ⟨s3, hb⟩ => ?_
  cases b with
  | true =>
    rw [if_pos rfl]
    intro s' H0' A' cl' fp'
    exact (k2 hb s' H0' A' cl' fp' σ' H3 (loc.st s3)).mono fun y H4 ⟨s4, d, iv', hd'⟩ => ⟨s3.trans s4, d, iv', hd'⟩
  | false =>
    (rw [if_neg Bool.false_ne_true])
    exact ⟨s3, k3 hb⟩
theorem read0 {σ : L2.St} {H : Hp} {wi : TI} {vs : List Nat} {Q : VK} (l : Loc M Γ σ H) (hit : ∀ R : It → Hp → Prop, (∀ J H1 Ts, St M H H1 → S Ts → Src M ow J H1 Ts → R J H1) → wi σ H R) (h0 : ∀ Ts, S Ts → Iv Ts 0 []) (hz : ∀ Ts, S Ts → Ts.length ≤ 100000)
    (turn : ∀ Ts, S Ts → Turn0 X scope M Γ g vs elt Iv Ts) (hd : ∀ Ts acc p H', S Ts → Iv Ts Ts.length acc → St M H H' → Rp M.ex H' (.ref p) (.list acc) → Q (.ref p) H') : tLc wi g tYes (wEb X scope elt) vs σ H Q := by
  refine lc_read (S := S) (Iv := Iv) l (fun σ H Q Q' k h => k _ _ h) Eb.mono hit h0 hz (fun Ts hS i T acc hT iv => ?_) hd
  obtain ⟨Γ', tg, k⟩ := turn Ts hS i T acc hT iv
  refine ⟨Γ', tg, fun p σ' H' loc => ?_⟩
  unfold tYes
  dsimp only
  rw [if_pos rfl]
  intro s' H0' A' cl' fp'
  exact (k p s' H0' A' cl' fp' σ' H' loc).mono fun y H4 ⟨s4, d, iv', hd'⟩ => ⟨s4, d, iv', hd'⟩
/-- [elt for tg in iter if cnd] -/
theorem E.lc1 (Iv : List Ty → Nat → List PyData → Prop) (hw : W X M Γ ow tg iter S) (hg : ∀ (s : Shared) (H : Hp) (A : Addr) (cl : List (Str × Addr)) (fp : List Addr), PG (X.blk s H scope (compEnvC scope cl A X.env) fp) tg g) (h0 : ∀ Ts, S Ts → Iv Ts 0 []) (hz : ∀ Ts, S Ts → Ts.length ≤ 100000)
    (turn : ∀ Ts, S Ts → Turn1 X scope M Γ g (own.map (·.2)) cnd elt Iv Ts) (ok : BlkOk X.N X.env.scope scope own) (hN : X.N.Nodup) (hc : X.calm = true := by rfl) (hs : ∀ x, foldedSetIterable iter X.env x = pure x := by intro _; rfl) :
    E X M Γ (.ListComp elt [⟨tg, iter, [cnd], 0⟩] scope pos) (.some (fun acc => ∃ Ts, S Ts ∧ Iv Ts Ts.length acc) L) := fun σ H l => by
  obtain ⟨wi, p, k⟩ := hw
  exact wE.of (pe_lc hc hN p ok hg pts_wb pe_wb hs) (read1 (Iv := Iv) l (k σ H l) h0 hz turn fun Ts acc q H' hS iv s r => ⟨s, acc, ⟨Ts, hS, iv⟩, r⟩)
theorem E.lc0 (Iv : List Ty → Nat → List PyData → Prop) (hw : W X M Γ ow tg iter S) (hg : ∀ (s : Shared) (H : Hp) (A : Addr) (cl : List (Str × Addr)) (fp : List Addr), PG (X.blk s H scope (compEnvC scope cl A X.env) fp) tg g) (h0 : ∀ Ts, S Ts → Iv Ts 0 []) (hz : ∀ Ts, S Ts → Ts.length ≤ 100000)
    (turn : ∀ Ts, S Ts → Turn0 X scope M Γ g (own.map (·.2)) elt Iv Ts) (ok : BlkOk X.N X.env.scope scope own) (hN : X.N.Nodup) (hc : X.calm = true := by rfl) (hs : ∀ x, foldedSetIterable iter X.env x = pure x := by intro _; rfl) :
    E X M Γ (.ListComp elt [⟨tg, iter, [], 0⟩] scope pos) (.some (fun acc => ∃ Ts, S Ts ∧ Iv Ts Ts.length acc) L) := fun σ H l => by
  obtain ⟨wi, p, k⟩ := hw
  exact wE.of (pe_lc hc hN p ok hg (fun _ _ _ _ _ => pts_nil) pe_wb hs) (read0 (Iv := Iv) l (k σ H l) h0 hz turn fun Ts acc q H' hS iv s r => ⟨s, acc, ⟨Ts, hS, iv⟩, r⟩)
end
end HB


namespace HB
open PySem L2 PyProof.Rows PySem.Spec

section
variable {X : Cx} {M M0 : Mx} {H : Hp} {ow : Bool} {Γ Γ' : Gm} {e cnd tg iter : Expr} {rest : List Stmt} {st : Stmt} {T : Ty} {pos pn : Pos} {D : Ends} {x : Str}
theorem B.nil (h : ∀ σ H, Loc M Γ σ H → D.nx σ H) : B X M Γ [] D := fun σ H l => wB.of pss_nil (h σ H l)
/-- a statement whose tree is known -/
theorem B.ps {t : TS} (h : PS X st t) (k : ∀ σ H, Loc M Γ σ H → t { D with nx := wB X rest D } σ H) : B X M Γ (st :: rest) D := fun σ H l => wB.of (pss_cons h pb_w) (k σ H l)
/-- weaker slots -/
theorem B.weak (h : B X M Γ' rest D) (k : ∀ σ H, Loc M Γ σ H → Loc M Γ' σ H) : B X M Γ rest D := fun σ H l => h σ H (k σ H l)
/-- some letter in a slot's type -/
theorem Loc.some {α : Sort _} {S : α → Prop} {f : α → Ty} {σ : L2.St} {H : Hp} {i : Nat} (l : Loc M (Γ.set i (.some (.some S f))) σ H) (hi : i < Γ.length) : ∃ a, S a ∧ Loc M (Γ.set i (.some (f a))) σ H := by
  obtain ⟨v, e, a, s, h⟩ := l.var i _ (List.getElem?_set_self hi)
  refine ⟨a, s, l.hw, by rw [List.length_set]; rw [← l.len, List.length_set], fun j T' e' => ?_⟩
  by_cases hj : i = j
  · subst hj
    rw [List.getElem?_set_self hi] at e'
    cases e'
    exact ⟨v, e, h⟩
  · rw [List.getElem?_set_ne hj] at e'
    exact l.var j T' (by rw [List.getElem?_set_ne hj]; exact e')
/-- x = e -/
theorem B.asg (i : Nat) (he : E X M Γ e T) (h : B X M (Γ.set i (some T)) rest D) (hN : X.N.Nodup) (hi : X.N[i]? = some x := by rfl) (hx : L2.Loc X.env.scope x := by first | exact Or.inl rfl | exact Or.inr rfl) (hs : swapsWith e (some (.Name x pn)) pos.line X.env = pure false := by rfl)
    (hf : X.fn x = true ∨ X.env.scope.names.lookup x = some .local := by first | exact .inl rfl | exact .inr rfl) : B X M Γ (.Assign [.Name x pn] e pos :: rest) D :=
  .ps (ps_set hN hi hx pe_w hs hf) fun σ H l => (he σ H l).mono fun v H1 ⟨s, q⟩ => h _ H1 ((l.st s).set q)
/-- x = e, e of some type -/
theorem B.asgS {α : Sort _} {S : α → Prop} {f : α → Ty} (i : Nat) (he : E X M Γ e (.some S f)) (h : ∀ a, S a → B X M (Γ.set i (some (f a))) rest D) (hN : X.N.Nodup) (hi : X.N[i]? = some x := by rfl) (hx : L2.Loc X.env.scope x := by first | exact Or.inl rfl | exact Or.inr rfl)
    (hs : swapsWith e (some (.Name x pn)) pos.line X.env = pure false := by rfl) (hf : X.fn x = true ∨ X.env.scope.names.lookup x = some .local := by first | exact .inl rfl | exact .inr rfl) : B X M Γ (.Assign [.Name x pn] e pos :: rest) D :=
  .ps (ps_set hN hi hx pe_w hs hf) fun σ H l => (he σ H l).mono fun v H1 ⟨s, a, sa, q⟩ => h a sa _ H1 ((l.st s).set q)
/-- x = [..] on one line -/
theorem B.asgLc1 {elt : Expr} {scope : Scope} {lpos : Pos} {g : TG} {own : List (Str × Nat)} {S : List Ty → Prop} (i : Nat) (Iv : List Ty → Nat → List PyData → Prop) (hw : W X M Γ ow tg iter S) (hg : ∀ (s : Shared) (H : Hp) (A : Addr) (cl : List (Str × Addr)) (fp : List Addr), PG (X.blk s H scope (compEnvC scope cl A X.env) fp) tg g)
    (h0 : ∀ Ts, S Ts → Iv Ts 0 []) (hz : ∀ Ts, S Ts → Ts.length ≤ 100000) (turn : ∀ Ts, S Ts → Turn1 X scope M Γ g (own.map (·.2)) cnd elt Iv Ts) (h : ∀ acc Ts, S Ts → Iv Ts Ts.length acc → B X M (Γ.set i (some (L acc))) rest D)
    (ok : BlkOk X.N X.env.scope scope own) (hN : X.N.Nodup) (hsw : swapsWith (.ListComp elt [⟨tg, iter, [cnd], 0⟩] scope lpos) (some (.Name x pn)) pos.line X.env = pure true) (hi : X.N[i]? = some x := by rfl) (hyl : X.env.scope.names.lookup x = some .local := by rfl)
    (hc : X.calm = true := by rfl) (hs : ∀ x, foldedSetIterable iter X.env x = pure x := by intro _; rfl) : B X M Γ (.Assign [.Name x pn] (.ListComp elt [⟨tg, iter, [cnd], 0⟩] scope lpos) pos :: rest) D := by
  obtain ⟨wi, p, k⟩ := hw
  exact .ps (ps_setLc hc hN hi hyl hsw p ok hg pts_wb pe_wb hs) fun σ H l => read1 (Iv := Iv) (Q := fun v H1 => wB X rest D (σ.set i (some v)) H1) l (k σ H l) h0 hz turn fun Ts acc q H' hS iv s r => h acc Ts hS iv _ H' ((l.st s).set r)
theorem B.asgLc0 {elt : Expr} {scope : Scope} {lpos : Pos} {g : TG} {own : List (Str × Nat)} {S : List Ty → Prop} (i : Nat) (Iv : List Ty → Nat → List PyData → Prop) (hw : W X M Γ ow tg iter S) (hg : ∀ (s : Shared) (H : Hp) (A : Addr) (cl : List (Str × Addr)) (fp : List Addr), PG (X.blk s H scope (compEnvC scope cl A X.env) fp) tg g)
    (h0 : ∀ Ts, S Ts → Iv Ts 0 []) (hz : ∀ Ts, S Ts → Ts.length ≤ 100000) (turn : ∀ Ts, S Ts → Turn0 X scope M Γ g (own.map (·.2)) elt Iv Ts) (h : ∀ acc Ts, S Ts → Iv Ts Ts.length acc → B X M (Γ.set i (some (L acc))) rest D)
    (ok : BlkOk X.N X.env.scope scope own) (hN : X.N.Nodup) (hsw : swapsWith (.ListComp elt [⟨tg, iter, [], 0⟩] scope lpos) (some (.Name x pn)) pos.line X.env = pure true) (hi : X.N[i]? = some x := by rfl) (hyl : X.env.scope.names.lookup x = some .local := by rfl)
    (hc : X.calm = true := by rfl) (hs : ∀ x, foldedSetIterable iter X.env x = pure x := by intro _; rfl) : B X M Γ (.Assign [.Name x pn] (.ListComp elt [⟨tg, iter, [], 0⟩] scope lpos) pos :: rest) D := by
  obtain ⟨wi, p, k⟩ := hw
  exact .ps (ps_setLc hc hN hi hyl hsw p ok hg (fun _ _ _ _ _ => pts_nil) pe_wb hs) fun σ H l => read0 (Iv := Iv) (Q := fun v H1 => wB X rest D (σ.set i (some v)) H1) l (k σ H l) h0 hz turn fun Ts acc q H' hS iv s r => h acc Ts hS iv _ H' ((l.st s).set r)
/-- an expression's value dropped -/
theorem B.expr (he : E X M Γ e T) (h : B X M Γ rest D) (hs : swapsWith e none pos.line X.env = pure false := by rfl) : B X M Γ (.Expr e pos :: rest) D := .ps (ps_expr pe_w hs) fun σ H l => (he σ H l).mono fun v H1 ⟨s, q⟩ => h _ H1 (l.st s)
/-- return e -/
theorem B.ret {R : Ty} (hR : Ret M0 R D.rt) (hl : Le M0 M) (he : E X M Γ e R) : B X M Γ (.Return (some e) pos :: rest) D := .ps (ps_ret pe_w) fun σ H l => (he σ H l).mono fun v H1 ⟨s, q⟩ => hR M v H1 hl (l.hw.st s) q
theorem B.retN {R : Ty} (hR : Ret M0 R D.rt) (hl : Le M0 M) (h : ∀ ex H, R.P ex .non H) : B X M Γ (.Return none pos :: rest) D := .ps ps_retN fun σ H l => hR M .non H hl l.hw (h _ _)
/-- if -/
theorem B.ite {S : Bool → Prop} {p q : List Stmt} (hc : C X M Γ cnd S) (h1 : S true → B X M Γ p { D with nx := wB X rest D }) (h2 : S false → B X M Γ q { D with nx := wB X rest D }) : B X M Γ (.If cnd p q pos :: rest) D :=
  .ps (ps_if pt_w pb_w pb_w) fun σ H l => (hc σ H l).mono fun b H1 ⟨s, hb⟩ => by
    cases b with
    | true => exact h1 hb σ H1 (l.st s)
    | false => exact h2 hb σ H1 (l.st s)
/-- an if whose answer is known -/
theorem B.iteD {v : Bool} {p q : List Stmt} (hc : C X M Γ cnd (· = v)) (h1 : v = true → B X M Γ p { D with nx := wB X rest D }) (h2 : v = false → B X M Γ q { D with nx := wB X rest D }) : B X M Γ (.If cnd p q pos :: rest) D := .ite hc (fun z => h1 z.symm) fun z => h2 z.symm
theorem B.skip (h : B X M Γ rest D) : B X M Γ [] { D with nx := wB X rest D } := .nil fun σ H l => h σ H l
/-- a, b = e1, e2, two locals -/
theorem B.par {Ta Tb : Ty} {a b : Expr} {y : Str} {px py pt pt2 : Pos} {kt k2 : Nat} (i j : Nat) (ha : E X M Γ a Ta) (hb : E X M Γ b Tb) (h : B X M ((Γ.set i (some Ta)).set j (some Tb)) rest D) (hN : X.N.Nodup) (hi : X.N[i]? = some x := by rfl) (hj : X.N[j]? = some y := by rfl) (hij : i ≠ j := by decide)
    (hx : X.env.scope.names.lookup x = some .local := by rfl) (hy : X.env.scope.names.lookup y = some .local := by rfl) (hw : swappedStores [.Tuple [.Name x px, .Name y py] kt pt] (.Tuple [a, b] k2 pt2) X.env = pure (some [x, y]) := by rfl)
    (hs : swapsWithSole [.Tuple [.Name x px, .Name y py] kt pt] (.Tuple [a, b] k2 pt2) pos.line X.env = pure false := by rfl) (s1 : starEach [a, b] X.env = (false, eval a X.env) :: starEach [b] X.env := by rfl) (s2 : starEach [b] X.env = (false, eval b X.env) :: starEach [] X.env := by rfl) (hc : X.calm = true := by rfl) :
    B X M Γ (.Assign [.Tuple [.Name x px, .Name y py] kt pt] (.Tuple [a, b] k2 pt2) pos :: rest) D :=
  .ps (ps_par hc hN hi hj hij hx hy (pa_cons pe_w (pa_cons pe_w pa_nil s2) s1) hw hs) fun σ H l => (ha σ H l).mono fun v H1 ⟨q1, t1⟩ => (hb σ H1 (l.st q1)).mono fun u H2 ⟨q2, t2⟩ =>
    ⟨v, u, rfl, h _ H2 ((((l.st q1).st q2).set (Ta.fr (q2.kp (l.hw.st q1)) t1)).set t2)⟩
theorem B.parS {α β : Sort _} {Sa : α → Prop} {Sb : β → Prop} {Ta : α → Ty} {Tb : β → Ty} {a b : Expr} {y : Str} {px py pt pt2 : Pos} {kt k2 : Nat} (i j : Nat) (ha : E X M Γ a (.some Sa Ta)) (hb : E X M Γ b (.some Sb Tb)) (h : ∀ p, Sa p → ∀ q, Sb q → B X M ((Γ.set i (some (Ta p))).set j (some (Tb q))) rest D) (hN : X.N.Nodup)
    (hi : X.N[i]? = some x := by rfl) (hj : X.N[j]? = some y := by rfl) (hij : i ≠ j := by decide) (hx : X.env.scope.names.lookup x = some .local := by rfl) (hy : X.env.scope.names.lookup y = some .local := by rfl)
    (hw : swappedStores [.Tuple [.Name x px, .Name y py] kt pt] (.Tuple [a, b] k2 pt2) X.env = pure (some [x, y]) := by rfl) (hs : swapsWithSole [.Tuple [.Name x px, .Name y py] kt pt] (.Tuple [a, b] k2 pt2) pos.line X.env = pure false := by rfl)
    (s1 : starEach [a, b] X.env = (false, eval a X.env) :: starEach [b] X.env := by rfl) (s2 : starEach [b] X.env = (false, eval b X.env) :: starEach [] X.env := by rfl) (hc : X.calm = true := by rfl) :
    B X M Γ (.Assign [.Tuple [.Name x px, .Name y py] kt pt] (.Tuple [a, b] k2 pt2) pos :: rest) D :=
  .ps (ps_par hc hN hi hj hij hx hy (pa_cons pe_w (pa_cons pe_w pa_nil s2) s1) hw hs) fun σ H l => (ha σ H l).mono fun v H1 ⟨q1, p, sp, t1⟩ => (hb σ H1 (l.st q1)).mono fun u H2 ⟨q2, q, sq, t2⟩ =>
    ⟨v, u, rfl, h p sp q sq _ H2 ((((l.st q1).st q2).set ((Ta p).fr (q2.kp (l.hw.st q1)) t1)).set t2)⟩
/-- a, b = e, e a pair -/
theorem B.unp {Ta Tb : Ty} {y : Str} {px py pt : Pos} {kt : Nat} (i j : Nat) (he : E X M Γ e (tupT [Ta, Tb])) (h : B X M ((Γ.set i (some Ta)).set j (some Tb)) rest D) (hN : X.N.Nodup) (hi : X.N[i]? = some x := by rfl) (hj : X.N[j]? = some y := by rfl)
    (hx : L2.Loc X.env.scope x := by first | exact Or.inl rfl | exact Or.inr rfl) (hy : L2.Loc X.env.scope y := by first | exact Or.inl rfl | exact Or.inr rfl) (hs : swapsWithSole [.Tuple [.Name x px, .Name y py] kt pt] e pos.line X.env = pure false := by rfl)
    (hw : swappedStores [.Tuple [.Name x px, .Name y py] kt pt] e X.env = pure none := by rfl) (h1 : (assignEach [.Tuple [.Name x px, .Name y py] kt pt] X.env).map (·.2) = [assign (.Tuple [.Name x px, .Name y py] kt pt) X.env] := by rfl)
    (f1 : X.fn x = true ∨ X.env.scope.names.lookup x = some .local := by first | exact .inl rfl | exact .inr rfl) (f2 : X.fn y = true ∨ X.env.scope.names.lookup y = some .local := by first | exact .inl rfl | exact .inr rfl)
    (n1 : (assignEach [.Name x px, .Name y py] X.env).length = 2 := by rfl) (n2 : (assignEach [.Name x px, .Name y py] X.env).findIdx? (·.1) = none := by rfl)
    (m1 : (assignEach [.Name x px, .Name y py] X.env).map (·.2) = assign (.Name x px) X.env :: (assignEach [.Name y py] X.env).map (·.2) := by rfl) (m2 : (assignEach [.Name y py] X.env).map (·.2) = assign (.Name y py) X.env :: (assignEach [] X.env).map (·.2) := by rfl) (hc : X.calm = true := by rfl) :
    B X M Γ (.Assign [.Tuple [.Name x px, .Name y py] kt pt] e pos :: rest) D :=
  .ps (ps_asg pe_w (pg_tup hc (pgs_cons (pg_name hN hi hx f1) (pgs_cons (pg_name hN hj hy f2) pgs_nil m2) m1) n1 n2) hs hw h1) fun σ H l => (he σ H l).mono fun v H1 ⟨s, q⟩ =>
    Tg.pairT (vs := [i, j]) (by simp) (by simp) M σ H1 v _ (l.st s) q fun σ' l' _ => h σ' H1 l'
theorem fresh_bs (w : Hw M H) {p : Addr} (h : H p = none) : ∀ b ∈ M.bs, b p = none := fun b hb => by
  cases e : b p with
  | none => rfl
  | some o =>
    by_cases q : ∃ q ∈ M.ph, q.1 = p
    · obtain ⟨q, hq, rfl⟩ := q
      obtain ⟨_, o', e', _⟩ := w.ph q hq
      rw [h] at e'
      cases e'
    · by_cases r : ∃ q ∈ M.own, q.1 = p
      · obtain ⟨u, hu, rfl⟩ := r
        obtain ⟨_, _, _, o', e', _⟩ := w.own u hu
        rw [h] at e'
        cases e'
      · have := w.frb b hb p o e (fun u hu z => q ⟨u, hu, z⟩) fun u hu z => r ⟨u, hu, z⟩
        rw [h] at this
        cases this

/-- e makes a new object with the contents c -/
def EF (X : Cx) (M : Mx) (Γ : Gm) (e : Expr) (c : Cn) : Prop := ∀ σ H, Loc M Γ σ H → wE X e σ H fun v H' => ∃ (p : Addr) (H1 : Hp) (o : HO), v = .ref p ∧ St M H H1 ∧ H1 p = none ∧ NoF o ∧ H' = upd H1 p o ∧ c.P (M.add p c).ex H' o
theorem EF.loc {σ : L2.St} {c : Cn} {p : Addr} {H1 H' : Hp} {o : HO} (l : Loc M Γ σ H) (s : St M H H1) (h : H1 p = none) (no : NoF o) (e : H' = upd H1 p o) (hc : c.P (M.add p c).ex H' o) : Loc (M.add p c) Γ σ H' ∧ ¬ M.ex p ∧ ∀ b ∈ M.bs, b p = none := by
  subst e
  exact ⟨(l.st s).own_new h no hc, (l.hw.st s).fresh h, fresh_bs (l.hw.st s) h⟩
theorem kp_add' {H : Hp} {p : Addr} {o : HO} {c : Cn} (h : H p = none) : Kp M.ex (M.add p c).ex H (upd H p o) := kp_add h
theorem EF.lst {es : List Expr} {ds : List PyData} (h : A X M Γ es (ds.map HB.D)) (hz : ds.length ≤ 100000 := by simp) : EF X M Γ (.List es pos) (cnL ds) := fun σ H l =>
  wE.of (pe_lst pa_w) ((h σ H l).mono fun vs H1 ⟨s1, h1⟩ => ⟨Nat.le_trans (by rw [← prd_len h1, List.length_map]; exact hz) (by decide), fun q hq =>
    ⟨q, H1, _, rfl, s1, hq, fun _ _ z => (by cases z), rfl, vs, rfl, (prd_map h1).fr (kp_add hq)⟩⟩)
theorem EF.newT : EF X M Γ (.Dict [] [] pos) (cnT []) := fun σ H l => wE.of pe_dnewT fun q hq => ⟨q, H, _, rfl, St.refl l.hw, hq, fun _ _ z => (by cases z), rfl, rfl⟩
theorem EF.cat {a b : Expr} {ds es : List PyData} (ha : E X M Γ a (L ds)) (hb : E X M Γ b (L es)) (hz : ds.length + es.length ≤ 100000) : EF X M Γ (.BinOp a .Add b pos) (cnL (ds ++ es)) := fun σ H l =>
  wE.of (pe_op op_cat pe_w pe_w) (two ha hb l fun x y H2 w s h1 h2 => by
    cases h1 with
    | @lst a xs _ e n h =>
      cases h2 with
      | @lst b ys _ e' n' h' =>
        exact ⟨a, b, xs, ys, rfl, rfl, e, e', Nat.le_trans (by rw [h.length, h'.length]; exact hz) (by decide), fun q hq => ⟨q, H2, _, rfl, s, hq, fun _ _ z => (by cases z), rfl, _, rfl, (h.append h').fr (kp_add hq)⟩⟩)
/-- x = e, e a new object of one's own -/
theorem B.new {c : Cn} (i : Nat) (he : EF X M Γ e c) (h : ∀ p, ¬ M.ex p → (∀ b ∈ M.bs, b p = none) → B X (M.add p c) (Γ.set i (some (Ty.is (.ref p)))) rest D) (hN : X.N.Nodup) (hi : X.N[i]? = some x := by rfl) (hx : L2.Loc X.env.scope x := by first | exact Or.inl rfl | exact Or.inr rfl)
    (hs : swapsWith e (some (.Name x pn)) pos.line X.env = pure false := by rfl) (hf : X.fn x = true ∨ X.env.scope.names.lookup x = some .local := by first | exact .inl rfl | exact .inr rfl) : B X M Γ (.Assign [.Name x pn] e pos :: rest) D :=
  .ps (ps_set hN hi hx pe_w hs hf) fun σ H l => (he σ H l).mono fun v H1 ⟨p, H2, o, ev, s, hp, no, eH, hc⟩ => by
    subst ev
    obtain ⟨l1, n1, n2⟩ := EF.loc l s hp no eH hc
    exact h p n1 n2 _ H1 (l1.set rfl)
/-- a, b = new, e -/
theorem B.parF {c : Cn} {α : Sort _} {S : α → Prop} {f : α → Ty} {a b : Expr} {y : Str} {px py pt pt2 : Pos} {kt k2 : Nat} (i j : Nat) (ha : EF X M Γ a c) (hb : ∀ p, E X (M.add p c) Γ b (.some S f)) (h : ∀ p, ¬ M.ex p → (∀ b ∈ M.bs, b p = none) → ∀ q, S q → B X (M.add p c) ((Γ.set i (some (Ty.is (.ref p)))).set j (some (f q))) rest D)
    (hN : X.N.Nodup) (hi : X.N[i]? = some x := by rfl) (hj : X.N[j]? = some y := by rfl) (hij : i ≠ j := by decide) (hx : X.env.scope.names.lookup x = some .local := by rfl) (hy : X.env.scope.names.lookup y = some .local := by rfl)
    (hw : swappedStores [.Tuple [.Name x px, .Name y py] kt pt] (.Tuple [a, b] k2 pt2) X.env = pure (some [x, y]) := by rfl) (hs : swapsWithSole [.Tuple [.Name x px, .Name y py] kt pt] (.Tuple [a, b] k2 pt2) pos.line X.env = pure false := by rfl)
    (s1 : starEach [a, b] X.env = (false, eval a X.env) :: starEach [b] X.env := by rfl) (s2 : starEach [b] X.env = (false, eval b X.env) :: starEach [] X.env := by rfl) (hc : X.calm = true := by rfl) :
    B X M Γ (.Assign [.Tuple [.Name x px, .Name y py] kt pt] (.Tuple [a, b] k2 pt2) pos :: rest) D :=
  .ps (ps_par hc hN hi hj hij hx hy (pa_cons pe_w (pa_cons pe_w pa_nil s2) s1) hw hs) fun σ H l => (ha σ H l).mono fun v H1 ⟨p, H2, o, ev, s, hp, no, eH, hcc⟩ => by
    subst ev
    obtain ⟨l1, n1, n2⟩ := EF.loc l s hp no eH hcc
    exact (hb p σ H1 l1).mono fun u H3 ⟨q2, q, sq, t2⟩ => ⟨_, u, rfl, h p n1 n2 q sq _ H3 (((l1.st q2).set rfl).set t2)⟩
/-- a, b = new, new -/
theorem B.parFF {c d : Cn} {a b : Expr} {y : Str} {px py pt pt2 : Pos} {kt k2 : Nat} (i j : Nat) (ha : EF X M Γ a c) (hb : ∀ p, EF X (M.add p c) Γ b d) (h : ∀ p, ¬ M.ex p → (∀ b ∈ M.bs, b p = none) → ∀ q, ¬ (M.add p c).ex q → (∀ b ∈ M.bs, b q = none) → B X ((M.add p c).add q d) ((Γ.set i (some (Ty.is (.ref p)))).set j (some (Ty.is (.ref q)))) rest D)
    (hN : X.N.Nodup) (hi : X.N[i]? = some x := by rfl) (hj : X.N[j]? = some y := by rfl) (hij : i ≠ j := by decide) (hx : X.env.scope.names.lookup x = some .local := by rfl) (hy : X.env.scope.names.lookup y = some .local := by rfl)
    (hw : swappedStores [.Tuple [.Name x px, .Name y py] kt pt] (.Tuple [a, b] k2 pt2) X.env = pure (some [x, y]) := by rfl) (hs : swapsWithSole [.Tuple [.Name x px, .Name y py] kt pt] (.Tuple [a, b] k2 pt2) pos.line X.env = pure false := by rfl)
    (s1 : starEach [a, b] X.env = (false, eval a X.env) :: starEach [b] X.env := by rfl) (s2 : starEach [b] X.env = (false, eval b X.env) :: starEach [] X.env := by rfl) (hc : X.calm = true := by rfl) :
    B X M Γ (.Assign [.Tuple [.Name x px, .Name y py] kt pt] (.Tuple [a, b] k2 pt2) pos :: rest) D :=
  .ps (ps_par hc hN hi hj hij hx hy (pa_cons pe_w (pa_cons pe_w pa_nil s2) s1) hw hs) fun σ H l => (ha σ H l).mono fun v H1 ⟨p, H2, o, ev, s, hp, no, eH, hcc⟩ => by
    subst ev
    obtain ⟨l1, n1, n2⟩ := EF.loc l s hp no eH hcc
    exact (hb p σ H1 l1).mono fun v H3 ⟨q, H4, o', ev, s', hq, no', eH', hcd⟩ => by
      subst ev
      obtain ⟨l2, m1, m2⟩ := EF.loc l1 s' hq no' eH' hcd
      exact ⟨_, _, rfl, h p n1 n2 q m1 m2 _ H3 ((l2.set rfl).set rfl)⟩
/-- an own list becomes a value like any other -/
theorem B.drop {p : Addr} {ds : List PyData} (i : Nat) (hx : ¬ M.ex p) (hb : ∀ b ∈ M.bs, b p = none) (hi : Γ[i]? = some (some (Ty.is (.ref p)))) (h : B X M (Γ.set i (some (L ds))) rest D) : B X (M.add p (cnL ds)) Γ rest D := fun σ H l => by
  obtain ⟨o, e, xs, rfl, r⟩ := l.own_at (p := p) (c := cnL ds) List.mem_cons_self
  obtain ⟨v, ev, hv⟩ := l.var i _ hi
  have hv : v = .ref p := hv
  subst hv
  have l1 := (l.own_drop hx hb).set (i := i) (T := L ds) (v := .ref p) (.lst e hx (r.fr kp_drop))
  have es : σ.set i (some (.ref p)) = σ := by
    apply List.ext_getElem?
    intro j
    by_cases hj : i = j
    · subst hj
      obtain ⟨hl, _⟩ := List.getElem?_eq_some_iff.mp ev
      rw [List.getElem?_set_self hl, ev]
    · rw [List.getElem?_set_ne hj]
  rw [es] at l1
  exact h σ H l1
/-- l.append(e) -/
theorem B.append {p : Addr} {ds : List PyData} {d : PyData} {o : Expr} {apos : Pos} (ho : E X M Γ o (Ty.is (.ref p))) (hp : (p, cnL ds) ∈ M.own) (he : E X M Γ e (HB.D d)) (hz : ds.length < 100000) (h : B X { M with own := setO M.own p (cnL (ds ++ [d])) } Γ rest D)
    (hbase : attributeBase o "append" X.env (eval o X.env) = eval o X.env := by rfl) (hfew : ((backTo pn (starEach [e] X.env)).all (fun x => !x.1) && (backToKw pn (keywordEach [] X.env)).all (fun x => x.1.isSome) && decide (([e] : List Expr).length + ([] : List Keyword).length + (if ([] : List Keyword).isEmpty then 0 else 1) < 30)) = true := by rfl)
    (hline : (apos.endLine == pn.line) = true := by rfl) (hs : starEach [e] X.env = (false, eval e X.env) :: starEach [] X.env := by rfl) (hpl : (backTo pn (starEach [] X.env)).any (·.1) = false := by rfl) (hsw : swapsWith (.Call (.Attribute o "append" apos) [e] [] pn) none pos.line X.env = pure false := by rfl) :
    B X M Γ (.Expr (.Call (.Attribute o "append" apos) [e] [] pn) pos :: rest) D :=
  .ps (ps_expr (pe_bm PySem.F.plainAttrs_list PySem.F.slot_list_append PySem.F.type_list_append mt_append pe_w (pa_cons pe_w pa_nil hs) hbase hfew hline hs hpl) hsw) fun σ H l => (ho σ H l).mono fun v H1 ⟨s1, h1⟩ => by
    cases h1
    obtain ⟨o1, e1, xs1, rfl, r1⟩ := (l.st s1).own_at hp
    refine ⟨.inl ⟨rfl, _, SqL.of e1⟩, (he σ H1 (l.st s1)).mono fun y H2 ⟨s2, h2⟩ => ?_⟩
    have l2 := (l.st s1).st s2
    obtain ⟨o2, e2, xs, rfl, r⟩ := l2.own_at hp
    refine ⟨p, xs, y, rfl, rfl, e2, Nat.lt_of_lt_of_le (by rw [r.length]; exact hz) (by decide), ?_⟩
    exact h σ _ (l2.own_set hp (fun _ _ z => by cases z) ⟨_, rfl, (r.append (.one h2)).fr (kp_upd (l2.hw.own _ hp).1)⟩)
/-- l.extend(e), e a new list -/
theorem B.extend {p : Addr} {ds es : List PyData} {o : Expr} {apos : Pos} (ho : E X M Γ o (Ty.is (.ref p))) (hp : (p, cnL ds) ∈ M.own) (he : E X M Γ e (L es)) (hz : ds.length + es.length ≤ 100000) (h : B X { M with own := setO M.own p (cnL (ds ++ es)) } Γ rest D)
    (hbase : attributeBase o "extend" X.env (eval o X.env) = eval o X.env := by rfl) (hfew : ((backTo pn (starEach [e] X.env)).all (fun x => !x.1) && (backToKw pn (keywordEach [] X.env)).all (fun x => x.1.isSome) && decide (([e] : List Expr).length + ([] : List Keyword).length + (if ([] : List Keyword).isEmpty then 0 else 1) < 30)) = true := by rfl)
    (hline : (apos.endLine == pn.line) = true := by rfl) (hs : starEach [e] X.env = (false, eval e X.env) :: starEach [] X.env := by rfl) (hpl : (backTo pn (starEach [] X.env)).any (·.1) = false := by rfl) (hsw : swapsWith (.Call (.Attribute o "extend" apos) [e] [] pn) none pos.line X.env = pure false := by rfl) :
    B X M Γ (.Expr (.Call (.Attribute o "extend" apos) [e] [] pn) pos :: rest) D :=
  .ps (ps_expr (pe_bm PySem.F.plainAttrs_list PySem.F.slot_list_extend PySem.F.type_list_extend mt_extend pe_w (pa_cons pe_w pa_nil hs) hbase hfew hline hs hpl) hsw) fun σ H l => (ho σ H l).mono fun v H1 ⟨s1, h1⟩ => by
    cases h1
    obtain ⟨o1, e1, xs1, rfl, r1⟩ := (l.st s1).own_at hp
    refine ⟨.inl ⟨rfl, _, SqL.of e1⟩, (he σ H1 (l.st s1)).mono fun y H2 ⟨s2, h2⟩ => ?_⟩
    have l2 := (l.st s1).st s2
    obtain ⟨o2, e2, xs, rfl, r⟩ := l2.own_at hp
    cases h2 with
    | @lst b zs _ e3 n3 r3 =>
      refine ⟨p, b, xs, zs, rfl, rfl, e2, e3, Nat.le_trans (by rw [r.length, r3.length]; exact hz) (by decide), ?_⟩
      exact h σ _ (l2.own_set hp (fun _ _ z => by cases z) ⟨_, rfl, (r.append r3).fr (kp_upd (l2.hw.own _ hp).1)⟩)

theorem Loc.push {σ : L2.St} (l : Loc M Γ σ H) : Loc { M with bs := H :: M.bs } Γ σ H := ⟨⟨l.hw.exin, l.hw.fn, l.hw.ph, l.hw.own, l.hw.nd, l.hw.frm, fun b hb a o e n m => (List.mem_cons.mp hb).elim (fun z => z ▸ e) fun z => l.hw.frb b z a o e n m, l.hw.nf, l.hw.nk⟩, l.len, l.var⟩
theorem Loc.pop {σ : L2.St} {b : Hp} (l : Loc { M with bs := b :: M.bs } Γ σ H) : Loc M Γ σ H := ⟨⟨l.hw.exin, l.hw.fn, l.hw.ph, l.hw.own, l.hw.nd, l.hw.frm, fun c hc => l.hw.frb c (List.mem_cons_of_mem _ hc), l.hw.nf, l.hw.nk⟩, l.len, l.var⟩
/-- for tg in iter: body -/
theorem B.forA {α : Sort _} {body : List Stmt} {g : TG} {S : List Ty → Prop} (Of : α → List (Addr × Cn)) (Γf : α → Gm) (Iv : List Ty → Nat → α → Prop) (hw : W X M Γ false tg iter S) (hg : PG X tg g)
    (h0 : ∀ Ts, S Ts → ∃ a, Iv Ts 0 a ∧ ∀ σ H, Loc M Γ σ H → Loc { M with own := Of a } (Γf a) σ H)
    (turn : ∀ Ts, S Ts → ∀ i T a, Ts[i]? = some T → Iv Ts i a → ∃ vs Γ', Tg g T (Γf a) Γ' vs ∧ ∀ b, B X { M with own := Of a, bs := b :: M.bs } Γ' body { D with
      nx := fun σ' H' => ∃ a', Iv Ts (i + 1) a' ∧ Loc { M with own := Of a', bs := b :: M.bs } (Γf a') σ' H', ct := fun σ' H' => ∃ a', Iv Ts (i + 1) a' ∧ Loc { M with own := Of a', bs := b :: M.bs } (Γf a') σ' H', bk := wB X rest D })
    (hd : ∀ Ts, S Ts → ∀ a, Iv Ts Ts.length a → B X { M with own := Of a } (Γf a) rest D) (hp : PassesOwn (model X.prog X.w) X.A X.env X.xe := by exact PassesOwn.never) (hc : X.calm = true := by rfl) (hs : ∀ x, foldedSetIterable iter X.env x = pure x := by intro _; rfl) :
    B X M Γ (.For tg iter body [] pos :: rest) D := by
  obtain ⟨wi, p, k⟩ := hw
  refine .ps (ps_for hp hc p hg pb_w hs) fun σ H l => k σ H l _ fun J H1 Ts s1 hS src => ?_
  obtain ⟨a0, iv0, l0⟩ := h0 Ts hS
  refine ⟨fun i m σ' H' => ∃ a, m = Ts.length - i ∧ i ≤ Ts.length ∧ Iv Ts i a ∧ Loc { M with own := Of a, bs := H1 :: M.bs } (Γf a) σ' H', ⟨_, a0, rfl, Nat.zero_le _, iv0, (l0 σ H1 (l.st s1)).push⟩, ?_⟩
  rintro i m σ' H' ⟨a, rfl, hi, iv, loc⟩
  have nx : Nx M.ex M.ex H1 H' := fun a o e n => ⟨loc.hw.frb H1 List.mem_cons_self a o e (fun q hq z => n (z ▸ (loc.hw.ph q hq).1)) fun q hq z => n (z ▸ (loc.hw.own q hq).1), n⟩
  by_cases hlt : i < Ts.length
  · have hT : Ts[i]? = some Ts[i] := List.getElem?_eq_getElem hlt
    obtain ⟨go, yl⟩ := src.item i _ hT H' M.ex nx (fun z => by cases z) loc.hw.exin
    obtain ⟨vs, Γ', tg, tn⟩ := turn Ts hS i _ a hT iv
    refine .inr ⟨go, fun σ' H' => ∃ a', Iv Ts (i + 1) a' ∧ Loc { M with own := Of a', bs := H1 :: M.bs } (Γf a') σ' H', fun σ2 H2 ⟨a', iv', l'⟩ => ⟨Ts.length - (i + 1), by omega, a', rfl, hlt, iv', l'⟩, fun x H2 hy => ?_⟩
    obtain ⟨k2, nf2, hx⟩ := yl x H2 hy
    have st2 : St { M with own := Of a, bs := H1 :: M.bs } H' H2 := ⟨fun a o e _ => k2 a o e, fun p hp => by
      obtain ⟨_, o, e, f⟩ := loc.hw.ph p hp
      exact ⟨o, k2 _ o e, p.2.fr (.of fun a o e n => ⟨k2 a o e, n⟩) f⟩, nf2⟩
    exact tg _ _ H2 x _ (loc.st st2) hx fun σ2 l2 _ => tn H1 σ2 H2 l2
  · have hn : i = Ts.length := by omega
    subst hn
    exact .inl ⟨src.done H' M.ex nx (fun z => by cases z), hd Ts hS a iv _ _ loc.pop⟩
/-- while cnd: body -/
theorem B.whl {α : Sort _} {body : List Stmt} (Γf : α → Gm) (Iv : α → Prop) (μ : α → Nat) (a0 : α) (h0 : Iv a0) (hΓ : Γ = Γf a0)
    (turn : ∀ a, Iv a → ∃ v : Bool, C X M (Γf a) cnd (· = v) ∧ (v = true → B X M (Γf a) body { D with nx := fun σ' H' => ∃ a', Iv a' ∧ μ a' < μ a ∧ Loc M (Γf a') σ' H', ct := fun σ' H' => ∃ a', Iv a' ∧ μ a' < μ a ∧ Loc M (Γf a') σ' H', bk := wB X rest D }) ∧ (v = false → B X M (Γf a) rest D))
    (hp : PassesOwn (model X.prog X.w) X.A X.env X.xe := by exact PassesOwn.never) : B X M Γ (.While cnd body [] pos :: rest) D := by
  subst hΓ
  refine .ps (ps_while hp pt_w pb_w) fun σ H l => ⟨fun m σ' H' => ∃ a, Iv a ∧ m = μ a ∧ Loc M (Γf a) σ' H', ⟨_, a0, h0, rfl, l⟩, ?_⟩
  rintro m σ' H' ⟨a, iv, rfl, loc⟩
  obtain ⟨v, hc, h1, h2⟩ := turn a iv
  refine (hc σ' H' loc).mono fun b H2 ⟨s, q⟩ => ?_
  subst q
  cases b with
  | true =>
    rw [if_pos rfl]
    exact ⟨_, fun σ2 H3 ⟨a', iv', hl, l'⟩ => ⟨μ a', hl, a', iv', rfl, l'⟩, h1 rfl σ' H2 (loc.st s)⟩
  | false =>
    (rw [if_neg Bool.false_ne_true])
    exact h2 rfl σ' H2 (loc.st s)
end
end HB


namespace HB
open PySem L2 PyProof.Rows PySem.Spec

section
variable {X : Cx} {M : Mx} {Γ : Gm} {ow : Bool} {e elt iter cnd : Expr} {scope : Scope} {pos tp : Pos} {own : List (Str × Nat)} {α β : Type} {enc : α → PyData} {xs : List α} {x : Str}
theorem take_snoc {l : List α} {i : Nat} {a : α} (h : l[i]? = some a) : l.take (i + 1) = l.take i ++ [a] := by
  rw [List.take_add_one, h]
  rfl
theorem get_enc {T : Ty} {i : Nat} (h : ((xs.map enc).map D)[i]? = some T) : ∃ a, xs[i]? = some a ∧ T = D (enc a) := by
  rw [List.map_map, List.getElem?_map] at h
  cases e : xs[i]? with
  | none => (rw [e] at h; cases h)
  | some a => rw [e] at h; exact ⟨a, rfl, (Option.some.inj h).symm⟩
/-- [h x for x in xs if f x] -/
theorem E.lcF (f : α → Bool) (h : α → PyData) (j : Nat) (hw : W X M Γ true (.Name x tp) iter (· = (xs.map enc).map D)) (own : List (Str × Nat))
    (ht : ∀ a ∈ xs, ∀ p acc, Cb X scope (M.add p (cnL acc)) ((wipeG Γ (own.map (·.2))).set j (some (D (enc a)))) cnd (· = f a)) (he : ∀ a ∈ xs, f a = true → ∀ p acc, Eb X scope (M.add p (cnL acc)) ((wipeG Γ (own.map (·.2))).set j (some (D (enc a)))) elt (D (h a)))
    (hz : xs.length ≤ 100000) (ok : BlkOk X.N X.env.scope scope own) (hN : X.N.Nodup) (hi : X.N[j]? = some x := by rfl) (hj : j ∈ own.map (·.2) := by decide) (hl : ∀ (A : Addr) (cl : List (Str × Addr)), (compEnvC scope cl A X.env).scope.names.lookup x = some .local := by intro _ _; rfl) (hc : X.calm = true := by rfl) (hs : ∀ x, foldedSetIterable iter X.env x = pure x := by intro _; rfl) :
    E X M Γ (.ListComp elt [⟨.Name x tp, iter, [cnd], 0⟩] scope pos) (L ((xs.filter f).map h)) := by
  refine (E.lc1 (g := gName j) (own := own) (fun _ i acc => acc = ((xs.take i).filter f).map h) hw (fun s H A cl fp => pg_name hN hi (.inl (hl A cl)) (.inr (hl A cl))) (fun _ _ => rfl) (fun Ts e => by rw [e]; simpa using hz) (fun Ts e i T acc hT iv => ?_) ok hN hc hs).imp fun v H w ⟨acc, ⟨Ts, e, iv⟩, q⟩ => ?_
  · subst e
    obtain ⟨a, ha, rfl⟩ := get_enc hT
    refine ⟨_, Tg.name hj, (· = f a), fun p => ⟨ht a (List.mem_of_getElem? ha) p acc, fun z s H0 A cl fp => (he a (List.mem_of_getElem? ha) z.symm p acc s H0 A cl fp).imp fun v H w q => ⟨h a, ?_, q⟩, fun z => ?_⟩⟩
    · show acc ++ [h a] = ((xs.take (i + 1)).filter f).map h
      rw [iv, take_snoc ha, List.filter_append, List.map_append, List.filter_cons, if_pos z.symm]
      rfl
    · show acc = ((xs.take (i + 1)).filter f).map h
      rw [iv, take_snoc ha, List.filter_append, List.map_append, List.filter_cons, if_neg (by rw [← z]; exact Bool.false_ne_true)]
      simp
  · subst e
    rw [iv, List.length_map, List.length_map, List.take_length] at q
    exact q
/-- [h x for x in xs] -/
theorem E.lcM (h : α → PyData) (j : Nat) (hw : W X M Γ true (.Name x tp) iter (· = (xs.map enc).map D)) (own : List (Str × Nat))
    (he : ∀ a ∈ xs, ∀ p acc, Eb X scope (M.add p (cnL acc)) ((wipeG Γ (own.map (·.2))).set j (some (D (enc a)))) elt (D (h a)))
    (hz : xs.length ≤ 100000) (ok : BlkOk X.N X.env.scope scope own) (hN : X.N.Nodup) (hi : X.N[j]? = some x := by rfl) (hj : j ∈ own.map (·.2) := by decide) (hl : ∀ (A : Addr) (cl : List (Str × Addr)), (compEnvC scope cl A X.env).scope.names.lookup x = some .local := by intro _ _; rfl) (hc : X.calm = true := by rfl) (hs : ∀ x, foldedSetIterable iter X.env x = pure x := by intro _; rfl) :
    E X M Γ (.ListComp elt [⟨.Name x tp, iter, [], 0⟩] scope pos) (L (xs.map h)) := by
  refine (E.lc0 (g := gName j) (own := own) (fun _ i acc => acc = (xs.take i).map h) hw (fun s H A cl fp => pg_name hN hi (.inl (hl A cl)) (.inr (hl A cl))) (fun _ _ => rfl) (fun Ts e => by rw [e]; simpa using hz) (fun Ts e i T acc hT iv => ?_) ok hN hc hs).imp fun v H w ⟨acc, ⟨Ts, e, iv⟩, q⟩ => ?_
  · subst e
    obtain ⟨a, ha, rfl⟩ := get_enc hT
    refine ⟨_, Tg.name hj, fun p s H0 A cl fp => (he a (List.mem_of_getElem? ha) p acc s H0 A cl fp).imp fun v H w q => ⟨h a, ?_, q⟩⟩
    show acc ++ [h a] = (xs.take (i + 1)).map h
    rw [iv, take_snoc ha, List.map_append]
    rfl
  · subst e
    rw [iv, List.length_map, List.length_map, List.take_length] at q
    exact q
end
end HB


namespace HB
open PySem L2 PyProof.Rows PySem.Spec

section
variable {X : Cx} {M : Mx} {Γ : Gm} {e a b c : Expr} {T Ta Tb : Ty} {pos p : Pos} {i j : Int} {x y : Str} {ds es : List PyData} {u v : Bool}
theorem E.add (ha : E X M Γ a (I i)) (hb : E X M Γ b (I j)) : E X M Γ (.BinOp a .Add b pos) (I (i + j)) := E.bin op_add ha hb Op2.add
theorem E.sub (ha : E X M Γ a (I i)) (hb : E X M Γ b (I j)) : E X M Γ (.BinOp a .Sub b pos) (I (i - j)) := E.bin op_sub ha hb Op2.sub
theorem E.mul (ha : E X M Γ a (I i)) (hb : E X M Γ b (I j)) (h : CMul i j) : E X M Γ (.BinOp a .Mult b pos) (I (i * j)) := E.bin op_mul ha hb (Op2.mul h)
theorem E.mulW (ha : E X M Γ a (I i)) (hb : E X M Γ b (I j)) (h : CMulW i j) : E X M Γ (.BinOp a .Mult b pos) (I (i * j)) := E.bin op_mulW ha hb (Op2.mulW h)
theorem E.mod (ha : E X M Γ a (I i)) (hb : E X M Γ b (I j)) (h : 0 < j) : E X M Γ (.BinOp a .Mod b pos) (I (i % j)) := E.bin op_mod ha hb (Op2.mod h)
theorem E.modN (ha : E X M Γ a (I i)) (hb : E X M Γ b (I j)) (h : j ≠ 0) : E X M Γ (.BinOp a .Mod b pos) (I (i.fmod j)) := E.bin op_modN ha hb (Op2.i1 h fun _ _ => .int _)
theorem E.div (ha : E X M Γ a (I i)) (hb : E X M Γ b (I j)) (h : CDiv i j) : E X M Γ (.BinOp a .FloorDiv b pos) (I (i / j)) := E.bin op_fdiv ha hb (Op2.div h)
theorem E.divW (ha : E X M Γ a (I i)) (hb : E X M Γ b (I j)) (h : CDivW i j) : E X M Γ (.BinOp a .FloorDiv b pos) (I (i / j)) := E.bin op_fdivW ha hb (Op2.divW h)
theorem E.pow (ha : E X M Γ a (I i)) (hb : E X M Γ b (I j)) (h : CPow i j) : E X M Γ (.BinOp a .Pow b pos) (I (i ^ j.toNat)) := E.bin op_pow ha hb (Op2.pow h)
theorem E.catU (ha : E X M Γ a (U ds)) (hb : E X M Γ b (U es)) (hz : ds.length + es.length ≤ 100000) : E X M Γ (.BinOp a .Add b pos) (U (ds ++ es)) := E.bin op_catA ha hb (Op2.catU hz)
theorem E.catL (ha : E X M Γ a (L ds)) (hb : E X M Γ b (L es)) (hz : ds.length + es.length ≤ 100000) : E X M Γ (.BinOp a .Add b pos) (L (ds ++ es)) := E.bin op_cat ha hb (Op2.catL hz)
theorem E.neg (ha : E X M Γ a (I i)) : E X M Γ (.UnaryOp .USub a pos) (I (-i)) := fun σ H l => wE.of (pe_un un_neg pe_w) ((ha σ H l).mono fun v H1 ⟨s, q⟩ => by
  cases q
  exact ⟨i, rfl, s, .int _⟩)
theorem E.abs (hm : X.mg "abs" = none) (h : E X M Γ e (I i)) (hg : Gl X "abs" := by rfl) (he : starEach [e] X.env = (false, eval e X.env) :: starEach [] X.env := by rfl) : E X M Γ (.Call (.Name "abs" p) [e] [] pos) (I (if i < 0 then -i else i)) :=
  E.callB call_abs (by decide +kernel) hm (.cons h .nil he) (.one fun v H Q w h k => by
    cases h
    exact ⟨i, rfl, k _ H (St.refl w) (.int _)⟩) hg (he := he)
theorem E.max2 (hm : X.mg "max" = none) (ha : E X M Γ a (I i)) (hb : E X M Γ b (I j)) (hc : X.calm = true := by rfl) (hg : Gl X "max" := by rfl) (s1 : starEach [a, b] X.env = (false, eval a X.env) :: starEach [b] X.env := by rfl) (s2 : starEach [b] X.env = (false, eval b X.env) :: starEach [] X.env := by rfl)
    (hpl : (backTo pos (starEach [b] X.env)).any (·.1) = false := by rfl) : E X M Γ (.Call (.Name "max" p) [a, b] [] pos) (I (if j > i then j else i)) :=
  E.callB (call_max2 hc) (by decide +kernel) hm (.cons ha (.cons hb .nil s2) s1) (.two fun v u H Q w h1 h2 k => by
    cases h1
    cases h2
    exact ⟨i, j, rfl, k _ H (St.refl w) (.int _)⟩) hg (he := s1) (hpl := hpl)
theorem E.min2 (hm : X.mg "min" = none) (ha : E X M Γ a (I i)) (hb : E X M Γ b (I j)) (hc : X.calm = true := by rfl) (hg : Gl X "min" := by rfl) (s1 : starEach [a, b] X.env = (false, eval a X.env) :: starEach [b] X.env := by rfl) (s2 : starEach [b] X.env = (false, eval b X.env) :: starEach [] X.env := by rfl)
    (hpl : (backTo pos (starEach [b] X.env)).any (·.1) = false := by rfl) : E X M Γ (.Call (.Name "min" p) [a, b] [] pos) (I (if j < i then j else i)) :=
  E.callB (call_min2 hc) (by decide +kernel) hm (.cons ha (.cons hb .nil s2) s1) (.two fun v u H Q w h1 h2 k => by
    cases h1
    cases h2
    exact ⟨i, j, rfl, k _ H (St.refl w) (.int _)⟩) hg (he := s1) (hpl := hpl)
theorem E.intI (hm : X.mg "int" = none) (h : E X M Γ e (I i)) (hg : Gl X "int" := by rfl) (he : starEach [e] X.env = (false, eval e X.env) :: starEach [] X.env := by rfl) : E X M Γ (.Call (.Name "int" p) [e] [] pos) (I i) :=
  E.callT call_int1 (by decide +kernel) hm (.cons h .nil he) (.one fun v H Q w h k => by
    cases h
    exact .inl ⟨i, rfl, k _ H (St.refl w) (.int _)⟩) hg (he := he)
theorem E.intB (hm : X.mg "int" = none) (h : E X M Γ e (Bo v)) (hg : Gl X "int" := by rfl) (he : starEach [e] X.env = (false, eval e X.env) :: starEach [] X.env := by rfl) : E X M Γ (.Call (.Name "int" p) [e] [] pos) (I (if v then 1 else 0)) :=
  E.callT call_int1 (by decide +kernel) hm (.cons h .nil he) (.one fun v H Q w h k => by
    cases h
    exact .inr ⟨_, rfl, k _ H (St.refl w) (.int _)⟩) hg (he := he)
theorem C.op {op : CmpOp} {r : R2} {S : Bool → Prop} (ho : OpR X (compareOp op) r) (ha : E X M Γ a Ta) (hb : E X M Γ b Tb) (k : Op2 M r Ta Tb (.some S Bo)) (hm : behindInMarks op b = false) : C X M Γ (.Compare a [op] [b] pos) S :=
  C.cmp ho hm ha hb fun x y H Q w h1 h2 q => k x y H _ w h1 h2 fun z H' s ⟨d, sd, hz⟩ => by
    cases hz
    exact q _ H' s sd
theorem C.opD {op : CmpOp} {r : R2} (ho : OpR X (compareOp op) r) (ha : E X M Γ a Ta) (hb : E X M Γ b Tb) (k : Op2 M r Ta Tb (Bo v)) (hm : behindInMarks op b = false) : C X M Γ (.Compare a [op] [b] pos) (· = v) := C.op ho ha hb (Op2.out v rfl k) hm
theorem C.eqI (ha : E X M Γ a (I i)) (hb : E X M Γ b (I j)) : C X M Γ (.Compare a [.Eq] [b] pos) (· = decide (i = j)) := C.opD op_eq ha hb Op2.eqI (nomark _)
theorem C.neI (ha : E X M Γ a (I i)) (hb : E X M Γ b (I j)) : C X M Γ (.Compare a [.NotEq] [b] pos) (· = !decide (i = j)) := C.opD op_ne ha hb Op2.neI (nomark _)
theorem C.ltI (ha : E X M Γ a (I i)) (hb : E X M Γ b (I j)) : C X M Γ (.Compare a [.Lt] [b] pos) (· = decide (i < j)) := C.opD op_lt ha hb Op2.cmp (nomark _)
theorem C.leI (ha : E X M Γ a (I i)) (hb : E X M Γ b (I j)) : C X M Γ (.Compare a [.LtE] [b] pos) (· = decide (i ≤ j)) := C.opD op_le ha hb Op2.cmp (nomark _)
theorem C.gtI (ha : E X M Γ a (I i)) (hb : E X M Γ b (I j)) : C X M Γ (.Compare a [.Gt] [b] pos) (· = decide (j < i)) := C.opD op_gt ha hb Op2.cmp (nomark _)
theorem C.geI (ha : E X M Γ a (I i)) (hb : E X M Γ b (I j)) : C X M Γ (.Compare a [.GtE] [b] pos) (· = decide (j ≤ i)) := C.opD op_ge ha hb Op2.cmp (nomark _)
theorem E.eqI (ha : E X M Γ a (I i)) (hb : E X M Γ b (I j)) : E X M Γ (.Compare a [.Eq] [b] pos) (Bo (decide (i = j))) := E.cmp op_eq (nomark _) ha hb Op2.eqI
theorem E.neI (ha : E X M Γ a (I i)) (hb : E X M Γ b (I j)) : E X M Γ (.Compare a [.NotEq] [b] pos) (Bo (!decide (i = j))) := E.cmp op_ne (nomark _) ha hb Op2.neI
theorem E.ltI (ha : E X M Γ a (I i)) (hb : E X M Γ b (I j)) : E X M Γ (.Compare a [.Lt] [b] pos) (Bo (decide (i < j))) := E.cmp op_lt (nomark _) ha hb (Op2.cmp (g := fun i j => decide (i < j)))
theorem E.gtI (ha : E X M Γ a (I i)) (hb : E X M Γ b (I j)) : E X M Γ (.Compare a [.Gt] [b] pos) (Bo (decide (j < i))) := E.cmp op_gt (nomark _) ha hb (Op2.cmp (g := fun i j => decide (j < i)))
theorem E.geI (ha : E X M Γ a (I i)) (hb : E X M Γ b (I j)) : E X M Γ (.Compare a [.GtE] [b] pos) (Bo (decide (j ≤ i))) := E.cmp op_ge (nomark _) ha hb (Op2.cmp (g := fun i j => decide (j ≤ i)))
theorem E.leI (ha : E X M Γ a (I i)) (hb : E X M Γ b (I j)) : E X M Γ (.Compare a [.LtE] [b] pos) (Bo (decide (i ≤ j))) := E.cmp op_le (nomark _) ha hb (Op2.cmp (g := fun i j => decide (i ≤ j)))
theorem E.eqS (ha : E X M Γ a (S_ x)) (hb : E X M Γ b (S_ y)) : E X M Γ (.Compare a [.Eq] [b] pos) (Bo (decide (x = y))) := E.cmp op_eq (nomark _) ha hb Op2.eqS
theorem E.neS (ha : E X M Γ a (S_ x)) (hb : E X M Γ b (S_ y)) : E X M Γ (.Compare a [.NotEq] [b] pos) (Bo (!decide (x = y))) := E.cmp op_ne (nomark _) ha hb Op2.neS
theorem C.neS (ha : E X M Γ a (S_ x)) (hb : E X M Γ b (S_ y)) : C X M Γ (.Compare a [.NotEq] [b] pos) (· = !decide (x = y)) := C.opD op_ne ha hb Op2.neS (nomark _)
theorem E.ltS (ha : E X M Γ a (S_ x)) (hb : E X M Γ b (S_ y)) : E X M Γ (.Compare a [.Lt] [b] pos) (Bo (decide (x.cps.toList < y.cps.toList))) := E.cmp op_lt_str (nomark _) ha hb Op2.ltS
theorem E.neB (ha : E X M Γ a (Bo u)) (hb : E X M Γ b (Bo v)) : E X M Γ (.Compare a [.NotEq] [b] pos) (Bo (u != v)) := E.cmp op_ne (nomark _) ha hb Op2.neB
theorem C.neB (ha : E X M Γ a (Bo u)) (hb : E X M Γ b (Bo v)) : C X M Γ (.Compare a [.NotEq] [b] pos) (· = (u != v)) := C.opD op_ne ha hb Op2.neB (nomark _)
theorem E.eqB (ha : E X M Γ a (Bo u)) (hb : E X M Γ b (Bo v)) : E X M Γ (.Compare a [.Eq] [b] pos) (Bo (u == v)) := E.cmp op_eq (nomark _) ha hb fun x y H Q w h1 h2 k => by
  cases h1
  cases h2
  refine ⟨rfl, ?_⟩
  have e : decide (V.bl u = V.bl v) = (u == v) := by cases u <;> cases v <;> rfl
  rw [e]
  exact k _ H (St.refl w) (.bl _)
theorem E.inU {xs : List Str} (ha : E X M Γ a (S_ x)) (hb : E X M Γ b (U (xs.map .str))) (hm : behindInMarks .In b = false := by rfl) : E X M Γ (.Compare a [.In] [b] pos) (Bo (decide (x ∈ xs))) := E.cmp op_in_seq hm ha hb (show Op2 M _ _ _ (Bo (decide (x ∈ xs))) from Op2.inS (neg := false))
theorem E.ninU {xs : List Str} (ha : E X M Γ a (S_ x)) (hb : E X M Γ b (U (xs.map .str))) (hm : behindInMarks .NotIn b = false := by rfl) : E X M Γ (.Compare a [.NotIn] [b] pos) (Bo (!decide (x ∈ xs))) := E.cmp op_notIn_seq hm ha hb (show Op2 M _ _ _ (Bo (!decide (x ∈ xs))) from Op2.inS (neg := true))
theorem C.inU {xs : List Str} (ha : E X M Γ a (S_ x)) (hb : E X M Γ b (U (xs.map .str))) (hm : behindInMarks .In b = false := by rfl) : C X M Γ (.Compare a [.In] [b] pos) (· = decide (x ∈ xs)) := C.opD op_in_seq ha hb Op2.inS hm
theorem C.ninU {xs : List Str} (ha : E X M Γ a (S_ x)) (hb : E X M Γ b (U (xs.map .str))) (hm : behindInMarks .NotIn b = false := by rfl) : C X M Γ (.Compare a [.NotIn] [b] pos) (· = !decide (x ∈ xs)) := C.opD op_notIn_seq ha hb Op2.inS hm
theorem E.eqD {d e' : PyData} {k : Nat} (hr : Room k X.A) (ha : E X M Γ a (D d)) (hb : E X M Γ b (D e')) (h1 : SeqAt.shaped d = true) (h2 : SeqAt.shaped e' = true) : E X M Γ (.Compare a [.Eq] [b] pos) (Bo (PyData.eqv d e')) := E.cmp (op_eqD hr.units) (nomark _) ha hb (Op2.eqD h1 h2)
theorem C.eqD {d e' : PyData} {k : Nat} (hr : Room k X.A) (ha : E X M Γ a (D d)) (hb : E X M Γ b (D e')) (h1 : SeqAt.shaped d = true) (h2 : SeqAt.shaped e' = true) : C X M Γ (.Compare a [.Eq] [b] pos) (· = PyData.eqv d e') := C.opD (op_eqD hr.units) ha hb (Op2.eqD h1 h2) (nomark _)
theorem C.neD {d e' : PyData} {k : Nat} (hr : Room k X.A) (ha : E X M Γ a (D d)) (hb : E X M Γ b (D e')) (h1 : SeqAt.shaped d = true) (h2 : SeqAt.shaped e' = true) : C X M Γ (.Compare a [.NotEq] [b] pos) (· = !PyData.eqv d e') := C.opD (op_neD hr.units) ha hb (Op2.neD h1 h2) (nomark _)
theorem E.neD {d e' : PyData} {k : Nat} (hr : Room k X.A) (ha : E X M Γ a (D d)) (hb : E X M Γ b (D e')) (h1 : SeqAt.shaped d = true) (h2 : SeqAt.shaped e' = true) : E X M Γ (.Compare a [.NotEq] [b] pos) (Bo (!PyData.eqv d e')) := E.cmp (op_neD hr.units) (nomark _) ha hb (Op2.neD h1 h2)
theorem C.inD {d : PyData} {k : Nat} (hr : Room k X.A) (ha : E X M Γ a (D d)) (hb : E X M Γ b (L ds)) (h1 : SeqAt.shaped d = true) (h2 : SeqAt.shaped (.list ds) = true) (hm : behindInMarks .In b = false := by rfl) : C X M Γ (.Compare a [.In] [b] pos) (· = ds.any fun z => PyData.eqv z d) := C.opD (op_inD (by have := hr.un; omega)) ha hb (Op2.inD h1 h2) hm
theorem E.inD {d : PyData} {k : Nat} (hr : Room k X.A) (ha : E X M Γ a (D d)) (hb : E X M Γ b (L ds)) (h1 : SeqAt.shaped d = true) (h2 : SeqAt.shaped (.list ds) = true) (hm : behindInMarks .In b = false := by rfl) : E X M Γ (.Compare a [.In] [b] pos) (Bo (ds.any fun z => PyData.eqv z d)) := E.cmp (op_inD (by have := hr.un; omega)) hm ha hb (Op2.inD h1 h2)
theorem E.ninD {d : PyData} {k : Nat} (hr : Room k X.A) (ha : E X M Γ a (D d)) (hb : E X M Γ b (L ds)) (h1 : SeqAt.shaped d = true) (h2 : SeqAt.shaped (.list ds) = true) (hm : behindInMarks .NotIn b = false := by rfl) : E X M Γ (.Compare a [.NotIn] [b] pos) (Bo (!ds.any fun z => PyData.eqv z d)) := E.cmp (op_notInD (by have := hr.un; omega)) hm ha hb (Op2.ninD h1 h2)
theorem C.ninD {d : PyData} {k : Nat} (hr : Room k X.A) (ha : E X M Γ a (D d)) (hb : E X M Γ b (L ds)) (h1 : SeqAt.shaped d = true) (h2 : SeqAt.shaped (.list ds) = true) (hm : behindInMarks .NotIn b = false := by rfl) : C X M Γ (.Compare a [.NotIn] [b] pos) (· = !ds.any fun z => PyData.eqv z d) := C.opD (op_notInD (by have := hr.un; omega)) ha hb (Op2.ninD h1 h2) hm
theorem E.chain {op op' : CmpOp} {r r' : R2} {Tc : Ty} (ho : OpR X (compareOp op) r) (ho' : OpR X (compareOp op') r') (ha : E X M Γ a Ta) (hb : E X M Γ b Tb) (hc : u = true → E X M Γ c Tc) (k1 : Op2 M r Ta Tb (Bo u)) (k2 : u = true → Op2 M r' Tb Tc (Bo v))
    (h1 : behindInMarks op b = false := by exact nomark _) (h2 : behindInMarks op' c = false := by exact nomark _) (hpe : PE X (.Compare a [op, op'] [b, c] pos) (tChain r r' (wE X a) (wE X b) (wE X c)) := by exact pe_chain (by assumption) (by assumption) pe_w pe_w pe_w) : E X M Γ (.Compare a [op, op'] [b, c] pos) (Bo (u && v)) := fun σ H l =>
  wE.of hpe ((ha σ H l).mono fun x H1 ⟨s1, t1⟩ => (hb σ H1 (l.st s1)).mono fun y H2 ⟨s2, t2⟩ => by
    have w1 := l.hw.st s1
    refine k1 x y H2 _ (w1.st s2) (Ta.fr (s2.kp w1) t1) t2 fun z H3 s3 t3 => ?_
    cases t3
    refine ⟨u, rfl, ?_⟩
    cases u with
    | true =>
      rw [if_pos rfl]
      have l3 := ((l.st s1).st s2).st s3
      exact (hc rfl σ H3 l3).mono fun q H4 ⟨s4, t4⟩ => k2 rfl y q H4 _ (l3.hw.st s4) (Tb.fr ((s3.trans s4).kp (w1.st s2)) t2) t4 fun z H5 s5 t5 => ⟨(((s1.trans s2).trans s3).trans s4).trans s5, t5⟩
    | false =>
      (rw [if_neg Bool.false_ne_true])
      exact ⟨(s1.trans s2).trans s3, .bl _⟩)
theorem E.ty {n : String} (hm : X.mg x = none) (hv : bootBuiltins x = some (.type n)) (hg : Gl X x := by rfl) (hn : x ≠ "__name__" := by decide) (hd : (x == ("__debug__" : Str)) = false := by decide) : E X M Γ (.Name x pos) (Ty.is (.ty n)) := fun σ H l => wE.of (pe_bltn (v := .ty n) hg hm hv rfl hn hd) ⟨St.refl l.hw, rfl⟩
theorem E.cls {C : Addr} (hm : X.mg x = some (.ref C)) (hg : Gl X x := by rfl) (hd : (x == ("__debug__" : Str)) = false := by decide) : E X M Γ (.Name x pos) (Ty.is (.ref C)) := E.glob (v := .ref C) hg hm rfl (fun _ _ => rfl) hd
/-- the type of a value of type T, as isinstance takes it -/
def TyA (K : PySem.W.Frag) (M : Mx) (T : Ty) (t : Value) : Prop := ∀ v H, Hw M H → T.P M.ex v H → TyX K H v t
theorem E.isi {t : Value} (hm : X.mg "isinstance" = none) (ha : E X M Γ a T) (hb : E X M Γ b (Ty.is (.ty y'))) (ht : TyA X.K M T t) (hk : PySem.W.kitOne X.K t (.type y') = some v) (hg : Gl X "isinstance" := by rfl) (s1 : starEach [a, b] X.env = (false, eval a X.env) :: starEach [b] X.env := by rfl)
    (s2 : starEach [b] X.env = (false, eval b X.env) :: starEach [] X.env := by rfl) (hpl : (backTo pos (starEach [b] X.env)).any (·.1) = false := by rfl) : E X M Γ (.Call (.Name "isinstance" p) [a, b] [] pos) (Bo v) :=
  E.callB call_isi (by decide +kernel) hm (.cons ha (.cons hb .nil s2) s1) (.two fun z q H Q w h1 h2 k => by
    cases h2
    exact ⟨z, _, t, _, v, rfl, .ty y', ht z H w h1, hk, k _ H (St.refl w) (.bl _)⟩) hg (he := s1) (hpl := hpl)
theorem E.isiC {t : Value} {C : Addr} (hm : X.mg "isinstance" = none) (ha : E X M Γ a T) (hb : E X M Γ b (Ty.is (.ref C))) (ht : TyA X.K M T t) (hk : PySem.W.kitOne X.K t (.ref C) = some v) (hg : Gl X "isinstance" := by rfl) (s1 : starEach [a, b] X.env = (false, eval a X.env) :: starEach [b] X.env := by rfl)
    (s2 : starEach [b] X.env = (false, eval b X.env) :: starEach [] X.env := by rfl) (hpl : (backTo pos (starEach [b] X.env)).any (·.1) = false := by rfl) : E X M Γ (.Call (.Name "isinstance" p) [a, b] [] pos) (Bo v) :=
  E.callB call_isi (by decide +kernel) hm (.cons ha (.cons hb .nil s2) s1) (.two fun z q H Q w h1 h2 k => by
    cases h2
    exact ⟨z, _, t, _, v, rfl, .own C, ht z H w h1, hk, k _ H (St.refl w) (.bl _)⟩) hg (he := s1) (hpl := hpl)
theorem TyA.int {K : PySem.W.Frag} : TyA K M (I i) (.type "int") := fun v H w h => by cases h; exact .base (.int i)
theorem TyA.str {K : PySem.W.Frag} : TyA K M (S_ x) (.type "str") := fun v H w h => by cases h; exact .base (.str x)
theorem TyA.non {K : PySem.W.Frag} : TyA K M (D .none) (.type "NoneType") := fun v H w h => by cases h; exact .base .non
theorem TyA.tup {K : PySem.W.Frag} : TyA K M (U ds) (.type "tuple") := fun v H w h => by
  cases h with
  | tup e n r => exact .base (.tup e)
theorem TyA.tupT {K : PySem.W.Frag} {Ts : List Ty} : TyA K M (tupT Ts) (.type "tuple") := fun v H w ⟨_, _, e, h, _⟩ => by subst e; exact .base (.tup h)
theorem TyA.lst {K : PySem.W.Frag} : TyA K M (L ds) (.type "list") := fun v H w h => by
  cases h with
  | lst e n r => exact .base (.lst e)
theorem TyA.lstT {K : PySem.W.Frag} {Ts : List Ty} : TyA K M (listT Ts) (.type "list") := fun v H w ⟨_, _, e, h, _⟩ => by subst e; exact .base (.lst h)
theorem TyA.dict {K : PySem.W.Frag} {kts : List (Key × Ty)} : TyA K M (dictT kts) (.type "dict") := fun v H w ⟨_, _, e, h, _⟩ => by
  subst e
  rcases h with h | ⟨o, h⟩
  · exact .base (.dK h)
  · exact .fDict h
/-- what is asked of an own class for isinstance -/
structure IsC (K : PySem.W.Frag) (C : Addr) : Prop where
  cl : Cls K C
  ha : PySem.W.findIn K (Value.ref C) "__class__" = some (some (.builtin "object.__class__"))
  hn : PySem.W.specialIn K (Value.builtin "object.__class__") "__get__" = some (some (.builtin "getset_descriptor.__get__"))
  htk : PySem.W.takesIn K (Value.builtin "object.__class__") = some true
  hm : PySem.W.mroIn K C (Value.type "object") = some true
theorem TyA.ins {K : PySem.W.Frag} {C : Addr} {fts : List (Str × Ty)} (h : IsC K C) : TyA K M (insT C fts) (.ref C) := fun v H w ⟨_, _, _, e, q, _⟩ => by subst e; exact .base (.ins q h.cl h.ha h.hn h.htk h.hm)
/-- is None, is not None -/
theorem E.isN (h : E X M Γ e T) (k : ∀ v H, T.P M.ex v H → decide (v = .non) = u) {j : Nat} {p' : Pos} : E X M Γ (.Compare e [.Is] [.Constant .none j p'] pos) (Bo u) := E.cmp op_isN (nomark _) h E.non fun x y H Q w h1 h2 q => by
  cases h2
  exact ⟨rfl, by rw [k x H h1]; exact q _ H (St.refl w) (.bl _)⟩
theorem C.notN (h : E X M Γ e T) (k : ∀ v H, T.P M.ex v H → decide (v = .non) = u) {j : Nat} {p' : Pos} : C X M Γ (.Compare e [.IsNot] [.Constant .none j p'] pos) (· = !u) := C.opD op_notN h E.non (fun x y H Q w h1 h2 q => by
  cases h2
  exact ⟨rfl, by rw [k x H h1]; exact q _ H (St.refl w) (.bl _)⟩) (nomark _)
end
end HB


namespace HB
open PySem L2 PyProof.Rows PySem.Spec
def top (i : Nat) : Stmt := PySem.Challenge.pw_huebill_k11_whole_excesses.main.body.getD i (.Pass ⟨0, 0, 0, 0⟩)
abbrev s_is_integer : Stmt := top 13
abbrev N_is_integer : List Str := ["value"]
theorem sc_is_integer : FnScope N_is_integer ["value"] (defScope s_is_integer) := ⟨rfl, rfl, rfl, by decide +kernel, rfl, by decide +kernel, by decide +kernel⟩
abbrev s_is_name : Stmt := top 14
abbrev N_is_name : List Str := ["value", "sign"]
theorem sc_is_name : FnScope N_is_name ["value"] (defScope s_is_name) := ⟨rfl, rfl, rfl, by decide +kernel, rfl, by decide +kernel, by decide +kernel⟩
abbrev s_divisor_of : Stmt := top 15
abbrev N_divisor_of : List Str := ["one", "other"]
theorem sc_divisor_of : FnScope N_divisor_of ["one", "other"] (defScope s_divisor_of) := ⟨rfl, rfl, rfl, by decide +kernel, rfl, by decide +kernel, by decide +kernel⟩
abbrev s_lowest_of : Stmt := top 16
abbrev N_lowest_of : List Str := ["top", "bottom", "shared"]
theorem sc_lowest_of : FnScope N_lowest_of ["top", "bottom"] (defScope s_lowest_of) := ⟨rfl, rfl, rfl, by decide +kernel, rfl, by decide +kernel, by decide +kernel⟩
abbrev s_text_of : Stmt := top 17
abbrev N_text_of : List Str := ["fraction", "top", "bottom"]
theorem sc_text_of : FnScope N_text_of ["fraction"] (defScope s_text_of) := ⟨rfl, rfl, rfl, by decide +kernel, rfl, by decide +kernel, by decide +kernel⟩
abbrev s_are_names : Stmt := top 19
abbrev N_are_names : List Str := ["value", "one"]
theorem sc_are_names : FnScope N_are_names ["value"] (defScope s_are_names) := ⟨rfl, rfl, rfl, by decide +kernel, rfl, by decide +kernel, by decide +kernel⟩
abbrev s_is_conflict : Stmt := top 20
abbrev N_is_conflict : List Str := ["things", "value", "one"]
theorem sc_is_conflict : FnScope N_is_conflict ["things", "value"] (defScope s_is_conflict) := ⟨rfl, rfl, rfl, by decide +kernel, rfl, by decide +kernel, by decide +kernel⟩
abbrev s_are_conflicts : Stmt := top 21
abbrev N_are_conflicts : List Str := ["things", "value", "pair"]
theorem sc_are_conflicts : FnScope N_are_conflicts ["things", "value"] (defScope s_are_conflicts) := ⟨rfl, rfl, rfl, by decide +kernel, rfl, by decide +kernel, by decide +kernel⟩
abbrev s_partners_of : Stmt := top 23
abbrev N_partners_of : List Str := ["things", "conflicts", "one", "other"]
theorem sc_partners_of : FnScope N_partners_of ["things", "conflicts", "one"] (defScope s_partners_of) := ⟨rfl, rfl, rfl, by decide +kernel, rfl, by decide +kernel, by decide +kernel⟩
abbrev s_is_group_of : Stmt := top 25
abbrev N_is_group_of : List Str := ["web", "value", "one", "other"]
theorem sc_is_group_of : FnScope N_is_group_of ["web", "value"] (defScope s_is_group_of) := ⟨rfl, rfl, rfl, by decide +kernel, rfl, by decide +kernel, by decide +kernel⟩
abbrev s_require_web : Stmt := top 26
abbrev N_require_web : List Str := ["value"]
theorem sc_require_web : FnScope N_require_web ["value"] (defScope s_require_web) := ⟨rfl, rfl, rfl, by decide +kernel, rfl, by decide +kernel, by decide +kernel⟩
abbrev s_require_group : Stmt := top 28
abbrev N_require_group : List Str := ["web", "value"]
theorem sc_require_group : FnScope N_require_group ["web", "value"] (defScope s_require_group) := ⟨rfl, rfl, rfl, by decide +kernel, rfl, by decide +kernel, by decide +kernel⟩
abbrev s_are_pays : Stmt := top 30
abbrev N_are_pays : List Str := ["value", "thing"]
theorem sc_are_pays : FnScope N_are_pays ["value"] (defScope s_are_pays) := ⟨rfl, rfl, rfl, by decide +kernel, rfl, by decide +kernel, by decide +kernel⟩
abbrev s_greatest_common : Stmt := top 31
abbrev N_greatest_common : List Str := ["one", "other"]
theorem sc_greatest_common : FnScope N_greatest_common ["one", "other"] (defScope s_greatest_common) := ⟨rfl, rfl, rfl, by decide +kernel, rfl, by decide +kernel, by decide +kernel⟩
abbrev s_checked_pays : Stmt := top 33
abbrev N_checked_pays : List Str := ["pays", "unit"]
theorem sc_checked_pays : FnScope N_checked_pays ["pays", "unit"] (defScope s_checked_pays) := ⟨rfl, rfl, rfl, by decide +kernel, rfl, by decide +kernel, by decide +kernel⟩
abbrev s_sum_of : Stmt := top 37
abbrev N_sum_of : List Str := ["charge", "group", "thing"]
theorem sc_sum_of : FnScope N_sum_of ["charge", "group"] (defScope s_sum_of) := ⟨rfl, rfl, rfl, by decide +kernel, rfl, by decide +kernel, by decide +kernel⟩
abbrev s_is_charge_of : Stmt := top 40
abbrev N_is_charge_of : List Str := ["web", "value"]
theorem sc_is_charge_of : FnScope N_is_charge_of ["web", "value"] (defScope s_is_charge_of) := ⟨rfl, rfl, rfl, by decide +kernel, rfl, by decide +kernel, by decide +kernel⟩
abbrev s_require_charge_of : Stmt := top 41
abbrev N_require_charge_of : List Str := ["web", "value"]
theorem sc_require_charge_of : FnScope N_require_charge_of ["web", "value"] (defScope s_require_charge_of) := ⟨rfl, rfl, rfl, by decide +kernel, rfl, by decide +kernel, by decide +kernel⟩
abbrev s_all_groups : Stmt := top 43
abbrev N_all_groups : List Str := ["things", "found", "one", "group"]
theorem sc_all_groups : FnScope N_all_groups ["things"] (defScope s_all_groups) := ⟨rfl, rfl, rfl, by decide +kernel, rfl, by decide +kernel, by decide +kernel⟩
abbrev s_groups_in : Stmt := top 44
abbrev N_groups_in : List Str := ["web"]
theorem sc_groups_in : FnScope N_groups_in ["web"] (defScope s_groups_in) := ⟨rfl, rfl, rfl, by decide +kernel, rfl, by decide +kernel, by decide +kernel⟩
abbrev s_grown_from : Stmt := top 45
abbrev N_grown_from : List Str := ["things", "does_go", "found", "one", "group", "other"]
theorem sc_grown_from : FnScope N_grown_from ["things", "does_go"] (defScope s_grown_from) := ⟨rfl, rfl, rfl, by decide +kernel, rfl, by decide +kernel, by decide +kernel⟩
abbrev s_loose_in : Stmt := top 46
abbrev N_loose_in : List Str := ["web"]
theorem sc_loose_in : FnScope N_loose_in ["web"] (defScope s_loose_in) := ⟨rfl, rfl, rfl, by decide +kernel, rfl, by decide +kernel, by decide +kernel⟩
abbrev s_can_grow : Stmt := top 47
abbrev N_can_grow : List Str := ["web", "group", "things", "is_knot_wanted", "one", "other"]
theorem sc_can_grow : FnScope N_can_grow ["web", "group", "things", "is_knot_wanted"] (defScope s_can_grow) := ⟨rfl, rfl, rfl, by decide +kernel, rfl, by decide +kernel, by decide +kernel⟩
abbrev s_first_rooms : Stmt := top 48
abbrev N_first_rooms : List Str := ["web", "group", "rooms", "one", "room", "other"]
theorem sc_first_rooms : FnScope N_first_rooms ["web", "group"] (defScope s_first_rooms) := ⟨rfl, rfl, rfl, by decide +kernel, rfl, by decide +kernel, by decide +kernel⟩
abbrev s_left_of : Stmt := top 49
abbrev N_left_of : List Str := ["group", "room", "one"]
theorem sc_left_of : FnScope N_left_of ["group", "room"] (defScope s_left_of) := ⟨rfl, rfl, rfl, by decide +kernel, rfl, by decide +kernel, by decide +kernel⟩
abbrev s_colours_of : Stmt := top 50
abbrev N_colours_of : List Str := ["web", "group", "fewest", "room"]
theorem sc_colours_of : FnScope N_colours_of ["web", "group"] (defScope s_colours_of) := ⟨rfl, rfl, rfl, by decide +kernel, rfl, by decide +kernel, by decide +kernel⟩
abbrev s_pays_over : Stmt := top 52
abbrev N_pays_over : List Str := ["charge", "group", "most", "top", "bottom"]
theorem sc_pays_over : FnScope N_pays_over ["charge", "group", "most"] (defScope s_pays_over) := ⟨rfl, rfl, rfl, by decide +kernel, rfl, by decide +kernel, by decide +kernel⟩
abbrev s_over_group : Stmt := top 53
abbrev N_over_group : List Str := ["web", "charge", "group"]
theorem sc_over_group : FnScope N_over_group ["web", "charge"] (defScope s_over_group) := ⟨rfl, rfl, rfl, by decide +kernel, rfl, by decide +kernel, by decide +kernel⟩
abbrev s_excess_of : Stmt := top 54
abbrev N_excess_of : List Str := ["web", "charge", "group", "top", "bottom"]
theorem sc_excess_of : FnScope N_excess_of ["web", "charge", "group"] (defScope s_excess_of) := ⟨rfl, rfl, rfl, by decide +kernel, rfl, by decide +kernel, by decide +kernel⟩
abbrev s_excess : Stmt := top 55
abbrev N_excess : List Str := ["web", "charge", "group"]
theorem sc_excess : FnScope N_excess ["web", "charge", "group"] (defScope s_excess) := ⟨rfl, rfl, rfl, by decide +kernel, rfl, by decide +kernel, by decide +kernel⟩
abbrev s_is_within : Stmt := top 56
abbrev N_is_within : List Str := ["web", "value"]
theorem sc_is_within : FnScope N_is_within ["web", "value"] (defScope s_is_within) := ⟨rfl, rfl, rfl, by decide +kernel, rfl, by decide +kernel, by decide +kernel⟩
abbrev s_objection : Stmt := top 57
abbrev N_objection : List Str := ["web", "charge"]
theorem sc_objection : FnScope N_objection ["web", "charge"] (defScope s_objection) := ⟨rfl, rfl, rfl, by decide +kernel, rfl, by decide +kernel, by decide +kernel⟩
abbrev s_objections : Stmt := top 58
abbrev N_objections : List Str := ["web", "charge", "group"]
theorem sc_objections : FnScope N_objections ["web", "charge"] (defScope s_objections) := ⟨rfl, rfl, rfl, by decide +kernel, rfl, by decide +kernel, by decide +kernel⟩
abbrev s_worst : Stmt := top 59
abbrev N_worst : List Str := ["web", "charge", "found", "best", "group", "top", "bottom", "over"]
theorem sc_worst : FnScope N_worst ["web", "charge"] (defScope s_worst) := ⟨rfl, rfl, rfl, by decide +kernel, rfl, by decide +kernel, by decide +kernel⟩
abbrev s_pot : Stmt := top 61
abbrev N_pot : List Str := ["_law_script", "_law_at", "_law_cell", "_law_great", "_law_mixed"]
theorem sc_pot : FnScope N_pot ["_law_script", "_law_at"] (defScope s_pot) := ⟨rfl, rfl, rfl, by decide +kernel, rfl, by decide +kernel, by decide +kernel⟩
abbrev s_stir : Stmt := top 62
abbrev N_stir : List Str := ["_law_pot_here", "_law_total", "_law_found", "_law_one", "_law_two"]
theorem sc_stir : FnScope N_stir ["_law_pot_here", "_law_total"] (defScope s_stir) := ⟨rfl, rfl, rfl, by decide +kernel, rfl, by decide +kernel, by decide +kernel⟩
abbrev s_one_of : Stmt := top 63
abbrev N_one_of : List Str := ["_law_pot_here", "_law_items"]
theorem sc_one_of : FnScope N_one_of ["_law_pot_here", "_law_items"] (defScope s_one_of) := ⟨rfl, rfl, rfl, by decide +kernel, rfl, by decide +kernel, by decide +kernel⟩
abbrev s_shuffled : Stmt := top 64
abbrev N_shuffled : List Str := ["_law_pot_here", "_law_items", "_law_waits", "_law_turn"]
theorem sc_shuffled : FnScope N_shuffled ["_law_pot_here", "_law_items"] (defScope s_shuffled) := ⟨rfl, rfl, rfl, by decide +kernel, rfl, by decide +kernel, by decide +kernel⟩
abbrev s_some_of : Stmt := top 65
abbrev N_some_of : List Str := ["_law_pot_here", "_law_items", "_law_one"]
theorem sc_some_of : FnScope N_some_of ["_law_pot_here", "_law_items"] (defScope s_some_of) := ⟨rfl, rfl, rfl, by decide +kernel, rfl, by decide +kernel, by decide +kernel⟩
abbrev s_words : Stmt := top 66
abbrev N_words : List Str := ["_law_pot_here", "_law_size", "_law_some"]
theorem sc_words : FnScope N_words ["_law_pot_here", "_law_size"] (defScope s_words) := ⟨rfl, rfl, rfl, by decide +kernel, rfl, by decide +kernel, by decide +kernel⟩
abbrev s_all_pairs : Stmt := top 67
abbrev N_all_pairs : List Str := ["_law_things", "_law_found", "_law_at", "_law_one", "_law_other"]
theorem sc_all_pairs : FnScope N_all_pairs ["_law_things"] (defScope s_all_pairs) := ⟨rfl, rfl, rfl, by decide +kernel, rfl, by decide +kernel, by decide +kernel⟩
abbrev s_plain : Stmt := top 68
abbrev N_plain : List Str := ["_law_things", "_law_ties", "_law_pair"]
theorem sc_plain : FnScope N_plain ["_law_things", "_law_ties"] (defScope s_plain) := ⟨rfl, rfl, rfl, by decide +kernel, rfl, by decide +kernel, by decide +kernel⟩
abbrev s_by_chance : Stmt := top 69
abbrev N_by_chance : List Str := ["_law_pot_here", "_law_things", "_law_often", "_law_pair"]
theorem sc_by_chance : FnScope N_by_chance ["_law_pot_here", "_law_things"] (defScope s_by_chance) := ⟨rfl, rfl, rfl, by decide +kernel, rfl, by decide +kernel, by decide +kernel⟩
abbrev s_with_sides : Stmt := top 70
abbrev N_with_sides : List Str := ["_law_pot_here", "_law_things", "_law_sides", "_law_one", "_law_pair"]
theorem sc_with_sides : FnScope N_with_sides ["_law_pot_here", "_law_things"] (defScope s_with_sides) := ⟨rfl, rfl, rfl, by decide +kernel, rfl, by decide +kernel, by decide +kernel⟩
abbrev s_grown_web : Stmt := top 71
abbrev N_grown_web : List Str := ["_law_pot_here", "_law_things", "_law_ties", "_law_here", "_law_at", "_law_one", "_law_other"]
theorem sc_grown_web : FnScope N_grown_web ["_law_pot_here", "_law_things"] (defScope s_grown_web) := ⟨rfl, rfl, rfl, by decide +kernel, rfl, by decide +kernel, by decide +kernel⟩
abbrev s_around : Stmt := top 72
abbrev N_around : List Str := ["_law_pot_here", "_law_things", "_law_here", "_law_size", "_law_ring", "_law_ties", "_law_inside", "_law_more", "_law_pair"]
theorem sc_around : FnScope N_around ["_law_pot_here", "_law_things"] (defScope s_around) := ⟨rfl, rfl, rfl, by decide +kernel, rfl, by decide +kernel, by decide +kernel⟩
abbrev s_knotty : Stmt := top 73
abbrev N_knotty : List Str := ["_law_pot_here", "_law_things", "_law_here", "_law_size", "_law_low_here", "_law_ties", "_law_pair"]
theorem sc_knotty : FnScope N_knotty ["_law_pot_here", "_law_things"] (defScope s_knotty) := ⟨rfl, rfl, rfl, by decide +kernel, rfl, by decide +kernel, by decide +kernel⟩
abbrev s_two_webs : Stmt := top 74
abbrev N_two_webs : List Str := ["_law_pot_here", "_law_things", "_law_size", "_law_is_over", "_law_here", "_law_ties", "_law_one", "_law_other"]
theorem sc_two_webs : FnScope N_two_webs ["_law_pot_here", "_law_things"] (defScope s_two_webs) := ⟨rfl, rfl, rfl, by decide +kernel, rfl, by decide +kernel, by decide +kernel⟩
abbrev s_nearly : Stmt := top 75
abbrev N_nearly : List Str := ["_law_pot_here", "_law_plain_here", "_law_pairs", "_law_pair", "_law_ties", "_law_one"]
theorem sc_nearly : FnScope N_nearly ["_law_pot_here", "_law_plain_here"] (defScope s_nearly) := ⟨rfl, rfl, rfl, by decide +kernel, rfl, by decide +kernel, by decide +kernel⟩
abbrev s_web : Stmt := top 76
abbrev N_web : List Str := ["_law_pot_here", "_law_most", "_law_things", "_law_way", "_law_found"]
theorem sc_web : FnScope N_web ["_law_pot_here", "_law_most"] (defScope s_web) := ⟨rfl, rfl, rfl, by decide +kernel, rfl, by decide +kernel, by decide +kernel⟩
abbrev s_told_web : Stmt := top 77
abbrev N_told_web : List Str := ["_law_pot_here", "_law_plain_here", "_law_pairs", "_law_pair"]
theorem sc_told_web : FnScope N_told_web ["_law_pot_here", "_law_plain_here"] (defScope s_told_web) := ⟨rfl, rfl, rfl, by decide +kernel, rfl, by decide +kernel, by decide +kernel⟩
abbrev s_number : Stmt := top 78
abbrev N_number : List Str := ["_law_pot_here", "_law_way", "_law_great"]
theorem sc_number : FnScope N_number ["_law_pot_here"] (defScope s_number) := ⟨rfl, rfl, rfl, by decide +kernel, rfl, by decide +kernel, by decide +kernel⟩
abbrev s_sums : Stmt := top 79
abbrev N_sums : List Str := ["_law_pot_here", "_law_things", "_law_way", "_law_one"]
theorem sc_sums : FnScope N_sums ["_law_pot_here", "_law_things"] (defScope s_sums) := ⟨rfl, rfl, rfl, by decide +kernel, rfl, by decide +kernel, by decide +kernel⟩
abbrev s_made_charge : Stmt := top 80
abbrev N_made_charge : List Str := ["_law_some"]
theorem sc_made_charge : FnScope N_made_charge ["_law_some"] (defScope s_made_charge) := ⟨rfl, rfl, rfl, by decide +kernel, rfl, by decide +kernel, by decide +kernel⟩
abbrev s_top_knots : Stmt := top 81
abbrev N_top_knots : List Str := ["_law_plain_here", "_law_knots", "_law_most", "_law_crowd"]
theorem sc_top_knots : FnScope N_top_knots ["_law_plain_here"] (defScope s_top_knots) := ⟨rfl, rfl, rfl, by decide +kernel, rfl, by decide +kernel, by decide +kernel⟩
abbrev s_knot_shares : Stmt := top 82
abbrev N_knot_shares : List Str := ["_law_pot_here", "_law_plain_here", "_law_knots", "_law_some", "_law_sums_here", "_law_crowd", "_law_one", "_law_share"]
theorem sc_knot_shares : FnScope N_knot_shares ["_law_pot_here", "_law_plain_here", "_law_knots"] (defScope s_knot_shares) := ⟨rfl, rfl, rfl, by decide +kernel, rfl, by decide +kernel, by decide +kernel⟩
abbrev s_bill_near : Stmt := top 83
abbrev N_bill_near : List Str := ["_law_pot_here", "_law_some", "_law_sums_here", "_law_things", "_law_turn", "_law_one", "_law_other", "_law_much"]
theorem sc_bill_near : FnScope N_bill_near ["_law_pot_here", "_law_some"] (defScope s_bill_near) := ⟨rfl, rfl, rfl, by decide +kernel, rfl, by decide +kernel, by decide +kernel⟩
abbrev s_are_tied : Stmt := top 84
abbrev N_are_tied : List Str := ["_law_plain_here", "_law_one", "_law_other"]
theorem sc_are_tied : FnScope N_are_tied ["_law_plain_here", "_law_one", "_law_other"] (defScope s_are_tied) := ⟨rfl, rfl, rfl, by decide +kernel, rfl, by decide +kernel, by decide +kernel⟩
abbrev s_l_all_groups : Stmt := top 85
abbrev N_l_all_groups : List Str := ["_law_things", "_law_found", "_law_one", "_law_some"]
theorem sc_l_all_groups : FnScope N_l_all_groups ["_law_things"] (defScope s_l_all_groups) := ⟨rfl, rfl, rfl, by decide +kernel, rfl, by decide +kernel, by decide +kernel⟩
abbrev s_is_loose : Stmt := top 86
abbrev N_is_loose : List Str := ["_law_plain_here", "_law_some", "_law_pair"]
theorem sc_is_loose : FnScope N_is_loose ["_law_plain_here", "_law_some"] (defScope s_is_loose) := ⟨rfl, rfl, rfl, by decide +kernel, rfl, by decide +kernel, by decide +kernel⟩
abbrev s_is_knot : Stmt := top 87
abbrev N_is_knot : List Str := ["_law_plain_here", "_law_some", "_law_pair"]
theorem sc_is_knot : FnScope N_is_knot ["_law_plain_here", "_law_some"] (defScope s_is_knot) := ⟨rfl, rfl, rfl, by decide +kernel, rfl, by decide +kernel, by decide +kernel⟩
abbrev s_colour_table : Stmt := top 88
abbrev N_colour_table : List Str := ["_law_plain_here", "_law_found", "_law_loose", "_law_some", "_law_fewest", "_law_rest", "_law_left", "_law_one"]
theorem sc_colour_table : FnScope N_colour_table ["_law_plain_here"] (defScope s_colour_table) := ⟨rfl, rfl, rfl, by decide +kernel, rfl, by decide +kernel, by decide +kernel⟩
abbrev s_low : Stmt := top 89
abbrev N_low : List Str := ["_law_top", "_law_bottom", "_law_first", "_law_second", "_law_sign"]
theorem sc_low : FnScope N_low ["_law_top", "_law_bottom"] (defScope s_low) := ⟨rfl, rfl, rfl, by decide +kernel, rfl, by decide +kernel, by decide +kernel⟩
abbrev s_loose_of : Stmt := top 90
abbrev N_loose_of : List Str := ["_law_plain_here", "_law_group"]
theorem sc_loose_of : FnScope N_loose_of ["_law_plain_here"] (defScope s_loose_of) := ⟨rfl, rfl, rfl, by decide +kernel, rfl, by decide +kernel, by decide +kernel⟩
abbrev s_paid : Stmt := top 91
abbrev N_paid : List Str := ["_law_pays", "_law_group", "_law_one"]
theorem sc_paid : FnScope N_paid ["_law_pays", "_law_group"] (defScope s_paid) := ⟨rfl, rfl, rfl, by decide +kernel, rfl, by decide +kernel, by decide +kernel⟩
abbrev s_case : Stmt := top 92
abbrev N_case : List Str := ["_law_pot_here", "_law_plain_here", "_law_way", "_law_some"]
theorem sc_case : FnScope N_case ["_law_pot_here"] (defScope s_case) := ⟨rfl, rfl, rfl, by decide +kernel, rfl, by decide +kernel, by decide +kernel⟩
abbrev s_l_worst : Stmt := top 93
abbrev N_l_worst : List Str := ["_law_table", "_law_some", "_law_most", "_law_found", "_law_crowd"]
theorem sc_l_worst : FnScope N_l_worst ["_law_table", "_law_some"] (defScope s_l_worst) := ⟨rfl, rfl, rfl, by decide +kernel, rfl, by decide +kernel, by decide +kernel⟩
abbrev s_right : Stmt := top 94
abbrev N_right : List Str := ["_law_pot_here", "_law_plain_here", "_law_some", "_law_web_here", "_law_charge", "_law_table", "_law_turn", "_law_crowd", "_law_due", "_law_over", "_law_loose", "_law_told", "_law_most", "_law_first", "_law_odd", "_law_one"]
theorem sc_right : FnScope N_right ["_law_pot_here"] (defScope s_right) := ⟨rfl, rfl, rfl, by decide +kernel, rfl, by decide +kernel, by decide +kernel⟩
abbrev s_law : Stmt := top 95
abbrev N_law : List Str := ["_law_script", "_law_at", "_law_pot_here", "_law_bond", "_law_half", "_law_told", "_law_less"]
theorem sc_law : FnScope N_law ["_law_script"] (defScope s_law) := ⟨rfl, rfl, rfl, by decide +kernel, rfl, by decide +kernel, by decide +kernel⟩
abbrev s_web_init : Stmt := L2.inClass (top 22) 0
abbrev N_web_init : List Str := ["self", "things", "conflicts", "one"]
theorem sc_web_init : FnScope N_web_init ["self", "things", "conflicts"] (defScope s_web_init) := ⟨rfl, rfl, rfl, by decide +kernel, rfl, by decide +kernel, by decide +kernel⟩
abbrev s_web_contains : Stmt := L2.inClass (top 22) 13
abbrev N_web_contains : List Str := ["self", "value"]
theorem sc_web_contains : FnScope N_web_contains ["self", "value"] (defScope s_web_contains) := ⟨rfl, rfl, rfl, by decide +kernel, rfl, by decide +kernel, by decide +kernel⟩
abbrev s_pays_init : Stmt := L2.inClass (top 32) 0
abbrev N_pays_init : List Str := ["self", "pays", "unit", "common", "number", "thing"]
theorem sc_pays_init : FnScope N_pays_init ["self", "pays", "unit"] (defScope s_pays_init) := ⟨rfl, rfl, rfl, by decide +kernel, rfl, by decide +kernel, by decide +kernel⟩
abbrev s_charge_init : Stmt := L2.inClass (top 34) 0
abbrev N_charge_init : List Str := ["self", "pays", "unit", "told"]
theorem sc_charge_init : FnScope N_charge_init ["self", "pays", "unit"] (defScope s_charge_init) := ⟨rfl, rfl, rfl, by decide +kernel, rfl, by decide +kernel, by decide +kernel⟩
abbrev s_charge_getitem : Stmt := L2.inClass (top 34) 11
abbrev N_charge_getitem : List Str := ["self", "thing"]
theorem sc_charge_getitem : FnScope N_charge_getitem ["self", "thing"] (defScope s_charge_getitem) := ⟨rfl, rfl, rfl, by decide +kernel, rfl, by decide +kernel, by decide +kernel⟩
abbrev s_charge_contains : Stmt := L2.inClass (top 34) 14
abbrev N_charge_contains : List Str := ["self", "value"]
theorem sc_charge_contains : FnScope N_charge_contains ["self", "value"] (defScope s_charge_contains) := ⟨rfl, rfl, rfl, by decide +kernel, rfl, by decide +kernel, by decide +kernel⟩
abbrev s_charge_str : Stmt := L2.inClass (top 34) 18
abbrev N_charge_str : List Str := ["self", "one"]
theorem sc_charge_str : FnScope N_charge_str ["self"] (defScope s_charge_str) := ⟨rfl, rfl, rfl, by decide +kernel, rfl, by decide +kernel, by decide +kernel⟩
/-- the defs by name -/
def fnTab : List (Str × Nat) := [(("is_integer", 13) : Str × Nat), (("is_name", 14) : Str × Nat), (("divisor_of", 15) : Str × Nat), (("lowest_of", 16) : Str × Nat), (("text_of", 17) : Str × Nat), (("are_names", 19) : Str × Nat), (("is_conflict", 20) : Str × Nat), (("are_conflicts", 21) : Str × Nat), (("partners_of", 23) : Str × Nat), (("is_group_of", 25) : Str × Nat), (("require_web", 26) : Str × Nat), (("require_group", 28) : Str × Nat), (("are_pays", 30) : Str × Nat), (("greatest_common", 31) : Str × Nat), (("checked_pays", 33) : Str × Nat), (("sum_of", 37) : Str × Nat), (("is_charge_of", 40) : Str × Nat), (("require_charge_of", 41) : Str × Nat), (("all_groups", 43) : Str × Nat), (("groups_in", 44) : Str × Nat), (("grown_from", 45) : Str × Nat), (("loose_in", 46) : Str × Nat), (("can_grow", 47) : Str × Nat), (("first_rooms", 48) : Str × Nat), (("left_of", 49) : Str × Nat), (("colours_of", 50) : Str × Nat), (("pays_over", 52) : Str × Nat), (("over_group", 53) : Str × Nat), (("excess_of", 54) : Str × Nat), (("excess", 55) : Str × Nat), (("is_within", 56) : Str × Nat), (("objection", 57) : Str × Nat), (("objections", 58) : Str × Nat), (("worst", 59) : Str × Nat), (("_law_pot", 61) : Str × Nat), (("_law_stir", 62) : Str × Nat), (("_law_one_of", 63) : Str × Nat), (("_law_shuffled", 64) : Str × Nat), (("_law_some_of", 65) : Str × Nat), (("_law_words", 66) : Str × Nat), (("_law_all_pairs", 67) : Str × Nat), (("_law_plain", 68) : Str × Nat), (("_law_by_chance", 69) : Str × Nat), (("_law_with_sides", 70) : Str × Nat), (("_law_grown_web", 71) : Str × Nat), (("_law_around", 72) : Str × Nat), (("_law_knotty", 73) : Str × Nat), (("_law_two_webs", 74) : Str × Nat), (("_law_nearly", 75) : Str × Nat), (("_law_web", 76) : Str × Nat), (("_law_told_web", 77) : Str × Nat), (("_law_number", 78) : Str × Nat), (("_law_sums", 79) : Str × Nat), (("_law_made_charge", 80) : Str × Nat), (("_law_top_knots", 81) : Str × Nat), (("_law_knot_shares", 82) : Str × Nat), (("_law_bill_near", 83) : Str × Nat), (("_law_are_tied", 84) : Str × Nat), (("_law_all_groups", 85) : Str × Nat), (("_law_is_loose", 86) : Str × Nat), (("_law_is_knot", 87) : Str × Nat), (("_law_colour_table", 88) : Str × Nat), (("_law_low", 89) : Str × Nat), (("_law_loose_of", 90) : Str × Nat), (("_law_paid", 91) : Str × Nat), (("_law_case", 92) : Str × Nat), (("_law_worst", 93) : Str × Nat), (("_law_right", 94) : Str × Nat), (("law", 95) : Str × Nat)]
end HB


namespace HB
open PySem L2 PyProof.Rows PySem.Spec

structure Df (K : PySem.W.Frag) (mg : Str → Option Value) (x : Str) (st : Stmt) : Prop where
  ex : ∃ f fd, mg x = some (.ref f) ∧ FunD K x x (defArgs st) (defBody st) (defScope st) [] [] f fd
structure Ok (P : Program) (w : World) (K : PySem.W.Frag) (mg : Str → Option Value) (base : Heap) (n : Nat) (x : Str) (ps : List Str) {α : Type} (p : Pm α) : Prop where
  ex : ∃ f fd, mg x = some (.ref f) ∧ PySem.W.keepIn K (.ref f) = true ∧ Binds K fd ps [] ∧ FnOk P w K mg base CX0 n f fd ps p.sp
section
variable {P : Program} {w : World} {K : PySem.W.Frag} {mg : Str → Option Value} {base : Heap} {x : Str} {st : Stmt} {α : Type} {p : Pm α} {N ps : List Str} {k : Nat}
theorem Ok.of (d : Df K mg x st) (S : FnScope N ps (defScope st)) (hl : ∀ a, (p.args a).length = ps.length)
    (bn : ∀ (kV doc pm : Value) (an : Option Addr) (cdv ct : Value) (us : List Value), us.length = ps.length → bindArgs (PySem.W.fnOf x x (defArgs st) (defBody st) (defScope st) .none kV doc pm an cdv ct) ⟨us, []⟩ = pure (ps.zip us))
    (hb : ∀ (a : α) (f : Addr) (cdv : Value) (A : Around) (outer : List Env) (s : Shared) (H : Hp) (Ex : XK) (ex : Ads) (lk : List Addr) (D : Ends), p.pre a → (p.nolk = true → lk = []) → Room k (A.deeper (envOfC x (defScope st) s.heap.objs.size f cdv)) →
      Ret (Mf ex (p.req a) lk H) (p.res a) D.rt → (∀ σ H', D.nx σ H' = D.rt .non H') → B (cxOf CX0 P w K mg base N x (defScope st) f cdv A outer s H Ex).nox (Mf ex (p.req a) lk H) (startG N (p.args a)) (defBody st) D) : Ok P w K mg base (k + 1) x ps p := by
  obtain ⟨f, fd, e, F⟩ := d.ex
  exact ⟨f, fd, e, F.kp, F.bindsN bn, fn_pm F S hl fun a cdv A outer s H Ex ex lk D => hb a f cdv A outer s H Ex ex lk D⟩
theorem Ok.mono {n m : Nat} (F : Ok P w K mg base n x ps p) (h : n ≤ m) : Ok P w K mg base m x ps p := by
  obtain ⟨f, fd, e1, e2, e3, e4⟩ := F.ex
  exact ⟨f, fd, e1, e2, e3, e4.mono h⟩
end
section
variable {X : Cx} {M : Mx} {Γ : Gm} {e : Expr} {es : List Expr} {T : Ty} {Ts : List Ty} {pos pn : Pos} {x : Str} {ps : List Str} {n m : Nat} {α : Type} {p : Pm α}
theorem E.ok (F : Ok X.prog X.w X.K X.mg X.base n x ps p) (hr : Room m X.A) (a : α) (hp : p.pre a) (ha : A X M Γ (e :: es) (p.args a)) (hnm : n ≤ m := by decide) (hq : ∀ q ∈ p.req a, q ∈ M.ph := by intro q z; first | exact z | cases z) (hlk : p.nolk = true → M.lk = [] := by intro z; cases z)
    (hg : Gl X x := by rfl) (hdb : (x == ("__debug__" : Str)) = false := by decide) (he : starEach (e :: es) X.env = (false, eval e X.env) :: starEach es X.env := by rfl) (hpl : (backTo pos (starEach es X.env)).any (·.1) = false := by rfl) : E X M Γ (.Call (.Name x pn) (e :: es) [] pos) (p.res a) := by
  obtain ⟨f, fd, e1, e2, e3, e4⟩ := F.ex
  exact E.call a (e4.mono hnm) hr e1 e2 e3 hp ha hq hlk hg hdb he hpl
theorem E.okG (F : Ok X.prog X.w X.K X.mg X.base n x ps p) (hr : Room m X.A) (ha : A X M Γ (e :: es) Ts)
    (hs : ∀ vs H, Hw M H → Paired (fun (T : Ty) v => T.P M.ex v H) Ts vs → ∃ a, p.pre a ∧ (∀ q ∈ p.req a, q ∈ M.ph) ∧ Paired (fun (T : Ty) v => T.P M.ex v H) (p.args a) vs ∧ ∀ v H', (p.res a).P M.ex v H' → T.P M.ex v H') (hnm : n ≤ m := by decide) (hlk : p.nolk = true → M.lk = [] := by intro z; cases z)
    (hg : Gl X x := by rfl) (hdb : (x == ("__debug__" : Str)) = false := by decide) (he : starEach (e :: es) X.env = (false, eval e X.env) :: starEach es X.env := by rfl) (hpl : (backTo pos (starEach es X.env)).any (·.1) = false := by rfl) : E X M Γ (.Call (.Name x pn) (e :: es) [] pos) T := by
  obtain ⟨f, fd, e1, e2, e3, e4⟩ := F.ex
  exact E.callG (e4.mono hnm) hr e1 e2 e3 hlk ha hs hg hdb he hpl
/-- the second argument is known by a letter -/
theorem E.ok2 {β : Sort _} {S : β → Prop} {Tf : β → Ty} {T1 : Ty} {e2 : Expr} (F : Ok X.prog X.w X.K X.mg X.base n x ps p) (hr : Room m X.A) (h1 : E X M Γ e T1) (h2 : E X M Γ e2 (.some S Tf)) (f : β → α) (hf : ∀ b, p.args (f b) = [T1, Tf b]) (hp : ∀ b, S b → p.pre (f b)) (hres : ∀ b, S b → ∀ ex v H, (p.res (f b)).P ex v H → T.P ex v H)
    (hq : ∀ b, ∀ q ∈ p.req (f b), q ∈ M.ph := by intro b q z; first | exact z | cases z) (hnm : n ≤ m := by decide) (hlk : p.nolk = true → M.lk = [] := by intro z; cases z)
    (hg : Gl X x := by rfl) (hdb : (x == ("__debug__" : Str)) = false := by decide) (he : starEach [e, e2] X.env = (false, eval e X.env) :: starEach [e2] X.env := by rfl) (he2 : starEach [e2] X.env = (false, eval e2 X.env) :: starEach [] X.env := by rfl) (hpl : (backTo pos (starEach [e2] X.env)).any (·.1) = false := by rfl) : E X M Γ (.Call (.Name x pn) [e, e2] [] pos) T :=
  E.okG F hr (.cons h1 (.cons h2 .nil he2) he) (fun vs H w h => by
    cases h with
    | cons a1 t =>
      cases t with
      | cons a2 t =>
        cases t
        obtain ⟨b, sb, hb⟩ := a2
        exact ⟨f b, hp b sb, hq b, by rw [hf]; exact .cons a1 (.cons hb .nil), fun v H' => hres b sb _ v H'⟩) hnm hlk hg hdb he hpl
end

abbrev Is (S : Int → Prop) : Ty := .some S I
abbrev Ns (S : Nat → Prop) : Ty := .some S fun k => I (k : Int)
section
variable {X : Cx} {M : Mx} {Γ : Gm} {e a b : Expr} {T : Ty} {pos p : Pos} {S R : Int → Prop}
theorem E.ex {α : Sort _} {f : α → Ty} (x : α) (h : E X M Γ e (f x)) : E X M Γ e (.some (· = x) f) := h.imp fun _ _ _ q => ⟨x, rfl, q⟩
theorem E.wk {α : Sort _} {f : α → Ty} {S S' : α → Prop} (h : E X M Γ e (.some S f)) (k : ∀ a, S a → S' a) : E X M Γ e (.some S' f) := h.imp fun _ _ _ ⟨a, s, q⟩ => ⟨a, k a s, q⟩
theorem E.out {α : Sort _} {f : α → Ty} {S : α → Prop} (x : α) (h : E X M Γ e (f x)) (s : S x) : E X M Γ e (.some S f) := h.imp fun _ _ _ q => ⟨x, s, q⟩
theorem E.nI (h : E X M Γ e (Ns fun _ => True)) : E X M Γ e (Is fun k => 0 ≤ k) := h.imp fun _ _ _ ⟨a, _, q⟩ => ⟨_, Int.natCast_nonneg a, q⟩
theorem E.Nn {S : Nat → Prop} (h : E X M Γ e (Ns S)) : E X M Γ e (Is fun k => ∃ n : Nat, S n ∧ k = n) := h.imp fun _ _ _ ⟨a, s, q⟩ => ⟨_, ⟨a, s, rfl⟩, q⟩
theorem E.nN {S : Nat → Prop} {R : Int → Prop} (h : E X M Γ e (Is R)) (k : ∀ i, R i → ∃ n : Nat, S n ∧ i = n) : E X M Γ e (Ns S) := h.imp fun _ _ _ ⟨a, s, q⟩ => by obtain ⟨n, sn, rfl⟩ := k a s; exact ⟨n, sn, q⟩
theorem E.adds (ha : E X M Γ a (Is S)) (hb : E X M Γ b (Is R)) : E X M Γ (.BinOp a .Add b pos) (Is fun k => ∃ i, S i ∧ ∃ j, R j ∧ k = i + j) := E.bin op_add ha hb (Op2.ll fun i si => Op2.rr fun j sj => Op2.out _ ⟨i, si, j, sj, rfl⟩ Op2.add)
theorem E.subs (ha : E X M Γ a (Is S)) (hb : E X M Γ b (Is R)) : E X M Γ (.BinOp a .Sub b pos) (Is fun k => ∃ i, S i ∧ ∃ j, R j ∧ k = i - j) := E.bin op_sub ha hb (Op2.ll fun i si => Op2.rr fun j sj => Op2.out _ ⟨i, si, j, sj, rfl⟩ Op2.sub)
theorem E.muls (ha : E X M Γ a (Is S)) (hb : E X M Γ b (Is R)) (c : ∀ i, S i → ∀ j, R j → CMul i j) : E X M Γ (.BinOp a .Mult b pos) (Is fun k => ∃ i, S i ∧ ∃ j, R j ∧ k = i * j) := E.bin op_mul ha hb (Op2.ll fun i si => Op2.rr fun j sj => Op2.out _ ⟨i, si, j, sj, rfl⟩ (Op2.mul (c i si j sj)))
theorem E.mods (ha : E X M Γ a (Is S)) (hb : E X M Γ b (Is R)) (c : ∀ j, R j → 0 < j) : E X M Γ (.BinOp a .Mod b pos) (Is fun k => ∃ i, S i ∧ ∃ j, R j ∧ k = i % j) := E.bin op_mod ha hb (Op2.ll fun i si => Op2.rr fun j sj => Op2.out _ ⟨i, si, j, sj, rfl⟩ (Op2.mod (c j sj)))
theorem E.divs (ha : E X M Γ a (Is S)) (hb : E X M Γ b (Is R)) (c : ∀ i, S i → ∀ j, R j → CDivW i j) : E X M Γ (.BinOp a .FloorDiv b pos) (Is fun k => ∃ i, S i ∧ ∃ j, R j ∧ k = i / j) := E.bin op_fdivW ha hb (Op2.ll fun i si => Op2.rr fun j sj => Op2.out _ ⟨i, si, j, sj, rfl⟩ (Op2.divW (c i si j sj)))
theorem E.ints (hm : X.mg "int" = none) (h : E X M Γ e (Is S)) (hg : Gl X "int" := by rfl) (he : starEach [e] X.env = (false, eval e X.env) :: starEach [] X.env := by rfl) : E X M Γ (.Call (.Name "int" p) [e] [] pos) (Is S) :=
  E.callT call_int1 (by decide +kernel) hm (.cons h .nil he) (.one_some fun i si => .out i si (.one fun v H Q w h k => by
    cases h
    exact .inl ⟨i, rfl, k _ H (St.refl w) (.int _)⟩)) hg (he := he)
theorem C.cmps {op : CmpOp} {g : Int → Int → Bool} (ho : OpR X (compareOp op) (rI0 fun i j => .bl (g i j))) (ha : E X M Γ a (Is S)) (hb : E X M Γ b (Is R)) (hm : behindInMarks op b = false := by exact nomark _) : C X M Γ (.Compare a [op] [b] pos) (fun v => ∃ i, S i ∧ ∃ j, R j ∧ v = g i j) :=
  C.op ho ha hb (Op2.ll fun i si => Op2.rr fun j sj => Op2.out (g i j) ⟨i, si, j, sj, rfl⟩ Op2.cmp) hm
theorem C.eqs (ha : E X M Γ a (Is S)) (hb : E X M Γ b (Is R)) : C X M Γ (.Compare a [.Eq] [b] pos) (fun v => ∃ i, S i ∧ ∃ j, R j ∧ v = decide (i = j)) :=
  C.op op_eq ha hb (Op2.ll fun i si => Op2.rr fun j sj => Op2.out (decide (i = j)) ⟨i, si, j, sj, rfl⟩ Op2.eqI) (nomark _)
end

def PotP (o : HO) : Prop := ∃ a b c : Int, o = .lst [.int a, .int b, .int c]
/-- a cell's contents alone -/
def Cn.only (p : HO → Prop) (h : ∀ o, p o → NoT o) : Cn := ⟨fun _ _ o => p o, fun q => h _ q, fun _ h => h⟩
def PotOk : Cn := Cn.only PotP fun o ⟨_, _, _, e⟩ _ z => by rw [e] at z; cases z
section
variable {X : Cx} {M M0 : Mx} {Γ : Gm} {e a b : Expr} {T : Ty} {pos ps : Pos} {S : Int → Prop} {q : Addr} {D : Ends} {rest : List Stmt}
theorem pot_get {o : HO} (h : PotP o) {i : Nat} (hi : i < 3) : ∃ xs k, o = .lst xs ∧ xs.length = 3 ∧ atI xs (i : Int) = some (.int k) := by
  obtain ⟨a, b, c, rfl⟩ := h
  match i, hi with
  | 0, _ => exact ⟨_, a, rfl, rfl, atI_nat rfl⟩
  | 1, _ => exact ⟨_, b, rfl, rfl, atI_nat rfl⟩
  | 2, _ => exact ⟨_, c, rfl, rfl, atI_nat rfl⟩
theorem E.pot {i : Nat} (ha : E X M Γ a (Ty.is (.ref q))) (hb : E X M Γ b (I (i : Int))) (hi : i < 3 := by decide) (hq : (q, PotOk) ∈ M.ph := by exact List.mem_cons_self) (hp : PlainIx b := by intro _ _; rfl) : E X M Γ (.Subscript a b pos) (Is fun _ => True) := fun σ H l =>
  wE.of (pe_ix ix_list pe_w pe_w hp) (two ha hb l fun x y H2 w s h1 h2 => by
    cases h1
    cases h2
    obtain ⟨_, o, e, po⟩ := w.ph _ hq
    obtain ⟨xs, k, rfl, _, ek⟩ := pot_get po hi
    exact ⟨q, xs, _, _, rfl, rfl, SqL.of e, ek, s, k, trivial, .int k⟩)
theorem Hw.ph_set {H : Hp} (w : Hw M H) {p : Addr} {I : Cn} (hp : (p, I) ∈ M.ph) {o : HO} (no : NoF o) (ho : I.P M.ex (upd H p o) o) : St M H (upd H p o) := by
  have hx := (w.ph _ hp).1
  refine ⟨fun a u e n => ?_, fun r hr => ?_, fun a o' u e => nf_upd no e⟩
  · rw [upd_ne (fun z : a = p => n _ hp z.symm)]
    exact e
  · by_cases z : r.1 = p
    · obtain rfl := w.fn r hr (p, I) hp z
      exact ⟨o, upd_same, ho⟩
    · obtain ⟨_, u, e, f⟩ := w.ph r hr
      exact ⟨u, by rw [upd_ne z]; exact e, r.2.fr (kp_upd hx) f⟩
/-- pot[i] = e -/
theorem B.pot {i : Nat} (ha : E X M Γ a (Ty.is (.ref q))) (hb : E X M Γ b (I (i : Int))) (he : E X M Γ e (Is S)) (h : B X M Γ rest D) (hi : i < 3 := by decide) (hq : (q, PotOk) ∈ M.ph := by exact List.mem_cons_self)
    (hs : swapsWithSole [.Subscript a b ps] e pos.line X.env = pure false := by rfl) (hw : swappedStores [.Subscript a b ps] e X.env = pure none := by rfl) (h1 : (assignEach [.Subscript a b ps] X.env).map (·.2) = [assign (.Subscript a b ps) X.env] := by rfl)
    (h2 : ∀ v, assign (.Subscript a b ps) X.env v = (do
      let ov ← holding [v] (eval a X.env)
      let iv ← holding [v, ov] (eval b X.env)
      standAt ps
      holding [v, ov, iv] (setItem ov iv v); release [v, ov, iv] []) := by intro _; rfl) : B X M Γ (.Assign [.Subscript a b ps] e pos :: rest) D :=
  .ps (ps_asg pe_w (pg_sub pe_w pe_w set_list h2) hs hw h1) fun σ H l => (he σ H l).mono fun v H1 ⟨s1, k, sk, hv⟩ => (ha σ H1 (l.st s1)).mono fun x H2 ⟨s2, hx⟩ => (hb σ H2 ((l.st s1).st s2)).mono fun y H3 ⟨s3, hy⟩ => by
    cases hv
    cases hx
    cases hy
    have l3 := ((l.st s1).st s2).st s3
    obtain ⟨_, o, e, po⟩ := l3.hw.ph _ hq
    obtain ⟨xs, _, rfl, len, _⟩ := pot_get po hi
    refine ⟨q, xs, _, i, rfl, rfl, e, ?_, ?_⟩
    · rw [len]
      unfold ixN
      rw [if_pos (Int.natCast_nonneg i), if_pos (by omega), Int.toNat_natCast]
    · refine h σ _ (l3.st (l3.hw.ph_set hq (fun _ _ z => by cases z) ?_))
      obtain ⟨a, b, c, e⟩ := po
      cases e
      match i, hi with
      | 0, _ => exact ⟨k, b, c, rfl⟩
      | 1, _ => exact ⟨a, k, c, rfl⟩
      | 2, _ => exact ⟨a, b, k, rfl⟩
end
end HB


namespace HB
open PySem L2 PyProof.Rows PySem.Spec

abbrev Mx.wo (M : Mx) (o : List (Addr × Cn)) : Mx := { M with own := o }
theorem lc_readO {α : Sort _} {M : Mx} {Γ : Gm} {σ : L2.St} {H : Hp} {wi : TI} {g : TG} {te : TE} {vs : List Nat} {S : List Ty → Prop} (Of : α → List (Addr × Cn)) (Iv : List Ty → Nat → α → List PyData → Prop) {Q : VK} (l : Loc M Γ σ H)
    (me : ∀ σ H (Q Q' : VK), (∀ v H', Q v H' → Q' v H') → te σ H Q → te σ H Q')
    (hit : ∀ R : It → Hp → Prop, (∀ J H1 Ts, St M H H1 → S Ts → Src M false J H1 Ts → R J H1) → wi σ H R) (h0 : ∀ Ts, S Ts → ∃ a, Iv Ts 0 a [] ∧ Of a = M.own) (hz : ∀ Ts, S Ts → Ts.length ≤ 100000)
    (turn : ∀ Ts, S Ts → ∀ i T a acc, Ts[i]? = some T → Iv Ts i a acc → ∃ Γ', Tg g T (wipeG Γ vs) Γ' vs ∧ ∀ p b σ' H', Loc ({ M.wo (Of a) with bs := b :: M.bs }.add p (cnL acc)) Γ' σ' H' →
      te σ' H' fun y H4 => ∃ a' d, Iv Ts (i + 1) a' (acc ++ [d]) ∧ Hw ({ M.wo (Of a') with bs := b :: M.bs }.add p (cnL acc)) H4 ∧ Rp (M.add p (cnL acc)).ex H4 y d)
    (hd : ∀ Ts a acc p H', S Ts → Iv Ts Ts.length a acc → Loc (M.wo (Of a)) Γ σ H' → Rp M.ex H' (.ref p) (.list acc) → Q (.ref p) H') : tLc wi g tYes te vs σ H Q := by
  refine hit _ fun J H1 Ts s1 hS src D hD => ?_
  have l1 := l.st s1
  have w1 := l1.hw
  have nexD : ¬ M.ex D := w1.fresh hD
  obtain ⟨a0, iv0, ho0⟩ := h0 Ts hS
  have eM : M.wo (Of a0) = M := by rw [ho0]
  refine ⟨fun i m H' => ∃ a acc, m = Ts.length - i ∧ i ≤ Ts.length ∧ acc.length ≤ i ∧ Iv Ts i a acc ∧ Hw ({ M.wo (Of a) with bs := H1 :: M.bs }.add D (cnL acc)) H', ⟨_, a0, [], rfl, Nat.zero_le _, Nat.le_refl _, iv0, ?_⟩, ?_⟩
  · have lp : Loc { M.wo (Of a0) with bs := H1 :: M.bs } Γ σ H1 := by
      rw [show ({ M.wo (Of a0) with bs := H1 :: M.bs } : Mx) = { M with bs := H1 :: M.bs } by rw [ho0]]
      exact ⟨⟨w1.exin, w1.fn, w1.ph, w1.own, w1.nd, w1.frm, fun b hb a o e n m => (List.mem_cons.mp hb).elim (fun z => z ▸ e) fun z => w1.frb b z a o e n m, w1.nf, w1.nk⟩, l1.len, l1.var⟩
    exact (lp.own_new (c := cnL []) (o := .lst []) hD (fun _ _ z => by cases z) ⟨[], rfl, .nil⟩).hw
  · rintro i m H' ⟨a, acc, rfl, hi, hal, iv, hw⟩
    have nx : Nx M.ex (M.add D (cnL acc)).ex H1 H' := fun x o e n => by
      have hx : x ≠ D := ne_of_none e hD
      refine ⟨hw.frb H1 List.mem_cons_self x o e (fun q hq z => n (z ▸ ((w1.ph q hq).1))) fun q hq z => ?_, fun z => z.elim n hx⟩
      rcases (hw.own q hq).1 with h | h
      · exact n (z ▸ h)
      · exact hx (z ▸ h)
    have vr : ∀ (j : Nat) (T : Ty), (wipeG Γ vs)[j]? = some (some T) → ∃ v, (wipe σ vs)[j]? = some (some v) ∧ T.P (M.add D (cnL acc)).ex v H' := fun j T e => by
      obtain ⟨v, e', h⟩ := (l1.wipe vs).var j T e
      exact ⟨v, e', T.fr nx.kp h⟩
    have loc : Loc ({ M.wo (Of a) with bs := H1 :: M.bs }.add D (cnL acc)) (wipeG Γ vs) (wipe σ vs) H' := ⟨hw, (l1.wipe vs).len, vr⟩
    by_cases hlt : i < Ts.length
    · have hT : Ts[i]? = some Ts[i] := List.getElem?_eq_getElem hlt
      obtain ⟨go, yl⟩ := src.item i _ hT H' _ nx (fun z => by cases z) hw.exin
      obtain ⟨Γ', tg, tn⟩ := turn Ts hS i _ a acc hT iv
      refine .inr ⟨go, fun H'' => ∃ a' acc', acc'.length ≤ i + 1 ∧ Iv Ts (i + 1) a' acc' ∧ Hw ({ M.wo (Of a') with bs := H1 :: M.bs }.add D (cnL acc')) H'', fun H'' ⟨a', acc', q1, q2, q3⟩ => ⟨Ts.length - (i + 1), by omega, a', acc', rfl, hlt, q1, q2, q3⟩, fun x H2 hy => ?_⟩
      obtain ⟨k2, nf2, hx⟩ := yl x H2 hy
      have st2 : St ({ M.wo (Of a) with bs := H1 :: M.bs }.add D (cnL acc)) H' H2 := ⟨fun a o e _ => k2 a o e, fun p hp => by
        obtain ⟨_, o, e, f⟩ := hw.ph p hp
        exact ⟨o, k2 _ o e, p.2.fr (.of fun a o e n => ⟨k2 a o e, n⟩) f⟩, nf2⟩
      have loc2 := loc.st st2
      refine tg _ _ H2 x _ loc2 hx fun σ' loc3 hwp => ⟨by rw [hwp]; exact wipe_wipe σ vs, ?_⟩
      unfold tYes
      dsimp only
      rw [if_pos rfl]
      refine me _ _ _ _ (fun y H4 ⟨a', d, iv', hw4, hd'⟩ => ?_) (tn D H1 σ' H2 loc3)
      have loc4 : Loc ({ M.wo (Of a') with bs := H1 :: M.bs }.add D (cnL acc)) [] [] H4 := ⟨hw4, rfl, fun i T e => by simp at e⟩
      obtain ⟨o, e, xs, rfl, rx⟩ := loc4.own_at (p := D) (c := cnL acc) List.mem_cons_self
      have hzz := hz Ts hS
      have lx := rx.length
      have up := kp_upd (M := { M.wo (Of a') with bs := H1 :: M.bs }.add D (cnL acc)) (H := H4) (v' := D) (show M.ex D ∨ D = D from .inr rfl) (o := .lst (xs ++ [y]))
      have loc5 := loc4.own_set (p := D) (c := cnL acc) (c' := cnL (acc ++ [d])) (o := .lst (xs ++ [y])) List.mem_cons_self (fun _ _ z => by cases z) ⟨_, rfl, (rx.append (.one hd')).fr up⟩
      refine ⟨xs, e, Nat.lt_of_le_of_lt (show xs.length ≤ 100000 by omega) (by decide), a', acc ++ [d], by rw [List.length_append]; show acc.length + 1 ≤ i + 1; omega, iv', ?_⟩
      have eo : setO ({ M.wo (Of a') with bs := H1 :: M.bs }.add D (cnL acc)).own D (cnL (acc ++ [d])) = ({ M.wo (Of a') with bs := H1 :: M.bs }.add D (cnL (acc ++ [d]))).own := setO_head
      have := loc5.hw
      rw [eo] at this
      exact this
    · have hn : i = Ts.length := by omega
      subst hn
      have lf : Loc ({ M.wo (Of a) with bs := H1 :: M.bs }.add D (cnL acc)) Γ σ H' := ⟨hw, l1.len, fun j T e => by
        obtain ⟨v, e', h⟩ := l1.var j T e
        exact ⟨v, e', T.fr nx.kp h⟩⟩
      refine .inl ⟨src.done H' _ nx (fun z => by cases z), ?_⟩
      obtain ⟨o, e, xs, rfl, rx⟩ := lf.own_at (p := D) (c := cnL acc) List.mem_cons_self
      have ld := lf.own_drop (M := { M.wo (Of a) with bs := H1 :: M.bs }) (p := D) nexD fun b hb => by
        (rcases List.mem_cons.mp hb with rfl | hb)
        · exact hD
        · exact fresh_bs w1 hD b hb
      exact hd Ts a acc D H' hS iv ld.pop (.lst e nexD (rx.fr kp_drop))
section
variable {X : Cx} {M : Mx} {Γ : Gm} {ow : Bool} {e o elt iter tg cnd : Expr} {scope : Scope} {pos tp pn apos : Pos} {own : List (Str × Nat)} {g : TG} {S : List Ty → Prop} {α β : Type} {enc : α → PyData} {xs : List α} {x : Str}
/-- [elt for tg in iter], elt writes cells of one's own -/
theorem wE.lcO {α : Sort _} {σ : L2.St} {H : Hp} {Q : VK} (Of : α → List (Addr × Cn)) (Iv : List Ty → Nat → α → List PyData → Prop) (l : Loc M Γ σ H) (hw : W X M Γ false tg iter S) (hg : ∀ (s : Shared) (H : Hp) (A : Addr) (cl : List (Str × Addr)) (fp : List Addr), PG (X.blk s H scope (compEnvC scope cl A X.env) fp) tg g)
    (h0 : ∀ Ts, S Ts → ∃ a, Iv Ts 0 a [] ∧ Of a = M.own) (hz : ∀ Ts, S Ts → Ts.length ≤ 100000)
    (turn : ∀ Ts, S Ts → ∀ i T a acc, Ts[i]? = some T → Iv Ts i a acc → ∃ Γ', Tg g T (wipeG Γ (own.map (·.2))) Γ' (own.map (·.2)) ∧ ∀ p b σ' H' s H0 A cl fp, Loc ({ M.wo (Of a) with bs := b :: M.bs }.add p (cnL acc)) Γ' σ' H' →
      wE (X.blk s H0 scope (compEnvC scope cl A X.env) fp) elt σ' H' fun y H4 => ∃ a' d, Iv Ts (i + 1) a' (acc ++ [d]) ∧ Hw ({ M.wo (Of a') with bs := b :: M.bs }.add p (cnL acc)) H4 ∧ Rp (M.add p (cnL acc)).ex H4 y d)
    (hd : ∀ Ts a acc p H', S Ts → Iv Ts Ts.length a acc → Loc (M.wo (Of a)) Γ σ H' → Rp M.ex H' (.ref p) (.list acc) → Q (.ref p) H')
    (ok : BlkOk X.N X.env.scope scope own) (hN : X.N.Nodup) (hc : X.calm = true := by rfl) (hs : ∀ x, foldedSetIterable iter X.env x = pure x := by intro _; rfl) : wE X (.ListComp elt [⟨tg, iter, [], 0⟩] scope pos) σ H Q := by
  obtain ⟨wi, p, k⟩ := hw
  refine wE.of (pe_lc hc hN p ok hg (fun _ _ _ _ _ => pts_nil) pe_wb hs) (lc_readO Of Iv l Eb.mono (k σ H l) h0 hz (fun Ts hS i T a acc hT iv => ?_) hd)
  obtain ⟨Γ', tg', k'⟩ := turn Ts hS i T a acc hT iv
  exact ⟨Γ', tg', fun p b σ' H' loc s H0 A cl fp => k' p b σ' H' s H0 A cl fp loc⟩
/-- len(l), l one's own -/
theorem E.lenOwn {q : Addr} {ws : List PyData} {e : Expr} {p : Pos} (hm : X.mg "len" = none) (h : E X M Γ e (Ty.is (.ref q))) (hq : (q, cnL ws) ∈ M.own) (hg : Gl X "len" := by rfl) (he : starEach [e] X.env = (false, eval e X.env) :: starEach [] X.env := by rfl) : E X M Γ (.Call (.Name "len" p) [e] [] pos) (I (ws.length : Int)) := fun σ H l =>
  wE.of (pe_callB call_len_seq hg hm PySem.boot_len (pa_cons pe_w pa_nil he) (by decide) (by decide) he rfl) ((h σ H l).mono fun v H1 ⟨s1, h1⟩ => by
    cases h1
    obtain ⟨o, e, xs, rfl, r⟩ := (l.st s1).own_at hq
    exact ⟨q, xs, rfl, .inl (SqL.of e), s1, by rw [r.length]; exact .int _⟩)
/-- l.pop(k) -/
theorem wE.pop {σ : L2.St} {H : Hp} {p : Addr} {ds : List PyData} {e : Expr} (l : Loc M Γ σ H) (ho : E X M Γ o (Ty.is (.ref p))) (hp : (p, cnL ds) ∈ M.own) (he : E X M Γ e (Ns (· < ds.length))) (hz : ds.length ≤ 100000)
    (hbase : attributeBase o "pop" X.env (eval o X.env) = eval o X.env := by rfl) (hfew : ((backTo pn (starEach [e] X.env)).all (fun x => !x.1) && (backToKw pn (keywordEach [] X.env)).all (fun x => x.1.isSome) && decide (([e] : List Expr).length + ([] : List Keyword).length + (if ([] : List Keyword).isEmpty then 0 else 1) < 30)) = true := by rfl)
    (hline : (apos.endLine == pn.line) = true := by rfl) (hs : starEach [e] X.env = (false, eval e X.env) :: starEach [] X.env := by rfl) (hpl : (backTo pn (starEach [] X.env)).any (·.1) = false := by rfl) :
    wE X (.Call (.Attribute o "pop" apos) [e] [] pn) σ H fun y H4 => ∃ k d, ds[k]? = some d ∧ Loc (M.wo (setO M.own p (cnL (ds.eraseIdx k)))) Γ σ H4 ∧ Rp M.ex H4 y d :=
  wE.of (pe_bm PySem.F.plainAttrs_list PySem.F.slot_list_pop PySem.F.type_list_pop mt_popAt pe_w (pa_cons pe_w pa_nil hs) hbase hfew hline hs hpl) ((ho σ H l).mono fun v H1 ⟨s1, h1⟩ => by
    cases h1
    obtain ⟨o1, e1, xs1, rfl, r1⟩ := (l.st s1).own_at hp
    refine ⟨.inl ⟨rfl, _, SqL.of e1⟩, (he σ H1 (l.st s1)).mono fun y H2 ⟨s2, k, hk, h2⟩ => ?_⟩
    cases h2
    have l2 := (l.st s1).st s2
    obtain ⟨o2, e2, xs, rfl, r⟩ := l2.own_at hp
    have hk' : k < xs.length := by rw [r.length]; exact hk
    obtain ⟨v, ev, hv⟩ := r.get (List.getElem?_eq_getElem hk)
    have up := kp_upd (H := H2) (l2.hw.own _ hp).1 (o := .lst (xs.eraseIdx k))
    refine ⟨p, xs, _, k, v, rfl, rfl, e2, by omega, by have := r.length; omega, ?_, ev, k, _, List.getElem?_eq_getElem hk, l2.own_set hp (fun _ _ z => by cases z) ⟨_, rfl, (r.eraseIdx k).fr up⟩, hv.fr up⟩
    have n0 : ¬ ((k : Int) < 0) := by omega
    unfold seqIndex?
    simp [n0, hk'])
theorem sub_snoc {l : List α} {i : Nat} {a : α} {ys : List α} (h : l[i]? = some a) (s : ys.Sublist (l.take i)) : (ys ++ [a]).Sublist (l.take (i + 1)) ∧ ys.Sublist (l.take (i + 1)) := by
  rw [take_snoc h]
  exact ⟨s.append (List.Sublist.refl _), s.trans (List.sublist_append_left _ _)⟩
/-- [h x for x in xs if ..], chosen somehow -/
theorem E.lcS (S : α → Bool → Prop) (h : α → PyData) (j : Nat) (hw : W X M Γ true (.Name x tp) iter (· = (xs.map enc).map D)) (own : List (Str × Nat))
    (ht : ∀ a ∈ xs, ∀ p acc, Cb X scope (M.add p (cnL acc)) ((wipeG Γ (own.map (·.2))).set j (some (D (enc a)))) cnd (S a)) (he : ∀ a ∈ xs, S a true → ∀ p acc, Eb X scope (M.add p (cnL acc)) ((wipeG Γ (own.map (·.2))).set j (some (D (enc a)))) elt (D (h a)))
    (hz : xs.length ≤ 100000) (ok : BlkOk X.N X.env.scope scope own) (hN : X.N.Nodup) (hi : X.N[j]? = some x := by rfl) (hj : j ∈ own.map (·.2) := by decide) (hl : ∀ (A : Addr) (cl : List (Str × Addr)), (compEnvC scope cl A X.env).scope.names.lookup x = some .local := by intro _ _; rfl) (hc : X.calm = true := by rfl) (hs : ∀ x, foldedSetIterable iter X.env x = pure x := by intro _; rfl) :
    E X M Γ (.ListComp elt [⟨.Name x tp, iter, [cnd], 0⟩] scope pos) (.some (fun ys : List α => ys.Sublist xs ∧ (∀ y ∈ ys, S y true) ∧ ∀ y ∈ xs, y ∈ ys ∨ S y false) fun ys => L (ys.map h)) := by
  refine (E.lc1 (g := gName j) (own := own) (fun _ i acc => ∃ ys : List α, ys.Sublist (xs.take i) ∧ (∀ y ∈ ys, S y true) ∧ (∀ y ∈ xs.take i, y ∈ ys ∨ S y false) ∧ acc = ys.map h) hw (fun s H A cl fp => pg_name hN hi (.inl (hl A cl)) (.inr (hl A cl))) (fun _ _ => ⟨[], by simp, by simp, by simp, rfl⟩) (fun Ts e => by rw [e]; simpa using hz) (fun Ts e i T acc hT iv => ?_) ok hN hc hs).imp fun v H w ⟨acc, ⟨Ts, e, iv⟩, q⟩ => ?_
  · subst e
    obtain ⟨a, ha, rfl⟩ := get_enc hT
    obtain ⟨ys, y1, y2, y3, y4⟩ := iv
    refine ⟨_, Tg.name hj, S a, fun p => ⟨ht a (List.mem_of_getElem? ha) p acc, fun z s H0 A cl fp => (he a (List.mem_of_getElem? ha) z p acc s H0 A cl fp).imp fun v H w q => ⟨h a, ⟨ys ++ [a], (sub_snoc ha y1).1, ?_, ?_, ?_⟩, q⟩, fun z => ⟨ys, (sub_snoc ha y1).2, y2, ?_, y4⟩⟩⟩
    · intro y hy
      (rcases List.mem_append.mp hy with hy | hy)
      · exact y2 y hy
      · rw [List.mem_singleton.mp hy]
        exact z
    · intro y hy
      rw [take_snoc ha] at hy
      (rcases List.mem_append.mp hy with hy | hy)
      · exact (y3 y hy).imp (fun z => List.mem_append_left _ z) fun z => z
      · exact .inl (List.mem_append_right _ hy)
    · rw [y4, List.map_append]
      rfl
    · intro y hy
      rw [take_snoc ha] at hy
      (rcases List.mem_append.mp hy with hy | hy)
      · exact y3 y hy
      · rw [List.mem_singleton.mp hy]
        exact .inr z
  · subst e
    obtain ⟨ys, y1, y2, y3, rfl⟩ := iv
    rw [List.length_map, List.length_map, List.take_length] at y1 y3
    exact ⟨ys, ⟨y1, y2, y3⟩, q⟩
/-- the i-th element is of a type that is known by letters -/
theorem E.lcA {R : α → β → Prop} (h : β → PyData) (j : Nat) (hw : W X M Γ true (.Name x tp) iter (· = (xs.map enc).map D)) (own : List (Str × Nat))
    (he : ∀ a ∈ xs, ∀ p acc, Eb X scope (M.add p (cnL acc)) ((wipeG Γ (own.map (·.2))).set j (some (D (enc a)))) elt (.some (R a) fun b => D (h b)))
    (hz : xs.length ≤ 100000) (ok : BlkOk X.N X.env.scope scope own) (hN : X.N.Nodup) (hi : X.N[j]? = some x := by rfl) (hj : j ∈ own.map (·.2) := by decide) (hl : ∀ (A : Addr) (cl : List (Str × Addr)), (compEnvC scope cl A X.env).scope.names.lookup x = some .local := by intro _ _; rfl) (hc : X.calm = true := by rfl) (hs : ∀ x, foldedSetIterable iter X.env x = pure x := by intro _; rfl) :
    E X M Γ (.ListComp elt [⟨.Name x tp, iter, [], 0⟩] scope pos) (.some (fun ys : List β => Paired R xs ys) fun ys => L (ys.map h)) := by
  refine (E.lc0 (g := gName j) (own := own) (fun _ i acc => ∃ ys : List β, Paired R (xs.take i) ys ∧ acc = ys.map h) hw (fun s H A cl fp => pg_name hN hi (.inl (hl A cl)) (.inr (hl A cl))) (fun _ _ => ⟨[], .nil, rfl⟩) (fun Ts e => by rw [e]; simpa using hz) (fun Ts e i T acc hT iv => ?_) ok hN hc hs).imp fun v H w ⟨acc, ⟨Ts, e, iv⟩, q⟩ => ?_
  · subst e
    obtain ⟨a, ha, rfl⟩ := get_enc hT
    obtain ⟨ys, y1, y2⟩ := iv
    refine ⟨_, Tg.name hj, fun p s H0 A cl fp => (he a (List.mem_of_getElem? ha) p acc s H0 A cl fp).imp fun v H w ⟨b, rb, q⟩ => ⟨h b, ⟨ys ++ [b], ?_, ?_⟩, q⟩⟩
    · rw [take_snoc ha]
      exact prd_app y1 (.cons rb .nil)
    · rw [y2, List.map_append]
      rfl
  · subst e
    obtain ⟨ys, y1, rfl⟩ := iv
    rw [List.length_map, List.length_map, List.take_length] at y1
    exact ⟨ys, y1, q⟩
end
end HB


namespace HB
open PySem PySem.Spec PyProof.Rows L2 PySem.Calls PySem.W PySem.SeqAt
/-- the empty tuple first, tuples behind it -/
def SortOk (ds : List PyData) : Prop := Sortable ds ∨ ∃ r : List PyData, ds = .tuple [] :: r ∧ ∀ d ∈ r, ∃ xs, d = .tuple xs
section
variable {w : World} {prog : Program} {A : Around} {E : Value → Shared → Prop} {s : Shared}
theorem tupLt1 {xs ys : List PyData} {a b : Value} {as bs : List Addr} {Q : Bool → Shared → Prop} (ra : Reads s.heap a (.tuple xs) as) (rb : Reads s.heap b (.tuple ys) bs) (h : alikeAll xs ys = true) (hu : A.units + min (PyData.tuple xs).depth (PyData.tuple ys).depth < cLine)
    (hq : Q (dataLt (.tuple xs) (.tuple ys)) s) : wpAny (model prog w) A (oneLt' true a b) Q E s := by
  cases ra with
  | @tuple pa oa va na _ ia h1 h2 h3 h4 =>
    cases rb with
    | @tuple pb ob vb nb _ ib k1 k2 k3 k4 =>
      have n1 : va.size = xs.length := by
        have := ReadsAll.length _ _ _ h4
        rwa [Array.length_toList] at this
      have n2 : vb.size = ys.length := by
        have := ReadsAll.length _ _ _ k4
        rwa [Array.length_toList] at this
      rw [dataLt_tuple, ← firstLt_toks xs ys h, ← n1, ← n2] at hq
      rw [oneLt'_eq, if_pos rfl]
      have un := room_here hu
      have ui := room_in hu
      refine wpAny_bind (wpAny_cRoomFor un (wpAny_bind (wpAny_callSpecialIfBound?_slot (T := "tuple") ⟨_, h1, h2⟩ F.slot_tuple_lt ?_)))
      obtain ⟨cl, dd, dat, sl⟩ := oa
      obtain ⟨cl', dd', dat', sl'⟩ := ob
      simp only at h2 h3 k2 k3
      subst h2 h3 k2 k3
      refine call_meets F.slot_tuple_lt ⟨_, h1, rfl⟩ F.entry_tuple_lt (F.args_tuple_lt_2 _ _) (tuple_ltAt pa pb va vb na nb dd dd' sl sl' (pairEq xs ys) fun j => dataLt (xs.getD j .none) (ys.getD j .none)) ⟨h1, k1, fun j j1 j2 => ?_, fun j j1 j2 hj => ?_, ?_⟩
      · have q := eqAt_alikeAll xs ys A.in1 s va.toList vb.toList _ _ h4 k4 h ui j (by simpa using j1) (by simpa using j2)
        rwa [Array.getElem_toList, Array.getElem_toList] at q
      · have q := rcLt_alikeAll xs ys A.in1 s va.toList vb.toList _ _ h4 k4 h ui j (by simpa using j1) (by simpa using j2) hj
        rwa [Array.getElem_toList, Array.getElem_toList] at q
      · exact wpAny_truthy_bool hq
theorem mapM_some {α β : Type} {f : α → Sem β} : ∀ (l : List α) {Q : List β → Shared → Prop}, (∀ v ∈ l, ∀ Q' : β → Shared → Prop, (∀ r, Q' r s) → wpAny (model prog w) A (f v) Q' E s) → (∀ rs, rs.length = l.length → Q rs s) → wpAny (model prog w) A (l.mapM f) Q E s
  | [], Q, _, h => by
    rw [List.mapM_nil]
    exact wpAny_pure (h [] rfl)
  | x :: l, Q, hf, h => by
    rw [List.mapM_cons]
    refine wpAny_bind (hf x List.mem_cons_self _ fun r => wpAny_bind (mapM_some l (fun v hv => hf v (List.mem_cons_of_mem _ hv)) fun rs e => wpAny_pure (h (r :: rs) ?_)))
    rw [List.length_cons, List.length_cons, e]
theorem nilKind {v₀ : Value} {vs : List Value} {as₀ : List Addr} {Q : SortKind → Shared → Prop} (h0 : Reads s.heap v₀ (.tuple []) as₀) (hr : ∀ v ∈ vs, ∃ xs as, Reads s.heap v (.tuple xs) as) (fin : Q oneType' s) : wpAny (model prog w) A (keyKind' (v₀ :: vs).toArray) Q E s := by
  have ty : ∀ v ∈ v₀ :: vs, ∀ Q' : Value → Shared → Prop, Q' (.type "tuple") s → wpAny (model prog w) A (typeOf v) Q' E s := fun v hv Q' q => by
    (rcases List.mem_cons.mp hv with rfl | hv)
    · exact (looks_reads h0).here q
    · obtain ⟨xs, as, rd⟩ := hr v hv
      exact (looks_reads rd).here q
  have items : ∀ {v : Value} {xs : List PyData} {as : List Addr}, Reads s.heap v (.tuple xs) as → ∀ Q' : Option Value → Shared → Prop, (∀ r, (xs = [] → r = none) → Q' r s) → wpAny (model prog w) A (firstOfTuple' v) Q' E s := fun {v xs as} rd Q' q => by
    rw [kas_first_eq]
    refine wpAny_bind ((looks_reads rd).here ?_)
    have ne : ¬ (dataType (PyData.tuple xs) != Value.type "tuple") = true := show ¬ ((Value.type "tuple" != Value.type "tuple") = true) from by decide
    rw [if_neg ne]
    cases rd with
    | @tuple l o ws n _ _ h1 h2 h3 h4 =>
      refine wpAny_bind (listItems_at h1 h3 (wpAny_pure (q _ fun e => ?_)))
      subst e
      have := ReadsAll.length _ _ _ h4
      (rw [Array.length_toList] at this)
      rw [Array.getElem?_eq_none (by rw [this]; exact Nat.le_refl _)]
  rw [keyKind'_eq, List.mapM_toArray, map_eq_pure_bind, List.mapM_cons]
  refine wpAny_bind (wpAny_bind (wpAny_bind (items h0 _ fun r0 e0 => ?_)))
  obtain rfl := e0 rfl
  refine wpAny_bind (mapM_some vs (fun v hv Q' q => ?_) fun rs er => wpAny_pure (wpAny_pure ?_))
  · obtain ⟨xs, as, rd⟩ := hr v hv
    exact items rd Q' fun r _ => q r
  · rw [if_neg (by simp), if_neg (by simp), oneTypeOnly'_eq, List.mapM_toArray, map_eq_pure_bind]
    refine wpAny_bind (wpAny_bind (wpAny_bind (kas_mapM (r := Value.type "tuple") _ (fun v hv Q' hq => ty v hv Q' hq) (wpAny_pure ?_))))
    have ha : ((List.map (fun _ => Value.type "tuple") (v₀ :: vs)).toArray.all fun x => x == Value.type "tuple") = true := by
      (simp only [List.all_toArray, List.all_map, List.all_eq_true])
      intro _ _
      show (Value.type "tuple" == Value.type "tuple") = true
      decide
    have hz : (List.map (fun _ => Value.type "tuple") (v₀ :: vs)).toArray[0]? = some (Value.type "tuple") := by simp
    rw [hz]
    simp only [ha, if_true]
    exact wpAny_pure (wpAny_pure fin)
theorem sorts_ok {vs : List Value} {ds : List PyData} (e : EachIs (fun v d => ∃ as, Reads s.heap v d as) vs ds) (hal : AllAlike ds) (hk : SortOk ds) (hu : ∀ d, d ∈ ds → A.units + d.depth < cLine) : SortsAt prog w A s (dataKind s.heap ds) vs := by
  rcases hk with hk | ⟨r, rfl, hr⟩
  · exact SortsAt.data e hal hk hu
  · have isT : ∀ d, d ∈ PyData.tuple [] :: r → ∃ xs, d = .tuple xs := fun d hd => (List.mem_cons.mp hd).elim (fun z => ⟨[], z⟩) (hr d)
    refine ⟨fun v hv => ?_, oneType', fun E x y a b Q ha hb hq => ?_, fun h2 E Q hq => ?_⟩
    · obtain ⟨d, hd, as, rd⟩ := e.left v hv
      exact ⟨_, dataKind_some hal hd rd⟩
    · obtain ⟨d, as, hd, ra, rfl⟩ := dataKind_inv ha
      obtain ⟨c, cs, hc, rb, rfl⟩ := dataKind_inv hb
      have al := hal d hd c hc
      have uu := hu d hd
      obtain ⟨xs, rfl⟩ := isT d hd
      obtain ⟨ys, rfl⟩ := isT c hc
      rw [keyLt'_oneType]
      exact tupLt1 ra rb (by simpa [alike] using al) (Nat.lt_of_le_of_lt (Nat.add_le_add_left (Nat.min_le_left _ _) _) uu) hq
    · cases e with
      | cons h0 t =>
        obtain ⟨as, h0⟩ := h0
        refine nilKind h0 (fun v hv => ?_) hq
        obtain ⟨d, hd, as, rd⟩ := t.left v hv
        obtain ⟨xs, rfl⟩ := hr d hd
        exact ⟨xs, as, rd⟩
/-- sorted of a list, of a tuple -/
theorem sorted_sq {β : Type} {bs : List β} {enc : β → PyData} {R : Value → β → Prop} {it : Addr} {T : String} {o : Obj} {n : Nat} {vs : List Value} {Q : Value → Shared → Prop} (hT : T = "list" ∨ T = "tuple") (ho : s.heap.get? it = some o) (hc : o.cls = .type T) (hd : o.data = .seq vs.toArray n) (few : vs.length ≤ sizeLine)
    (e : EachIs R vs bs) (er : EachIs (fun v b => ∃ as, Reads s.heap v (enc b) as) vs bs) (hal : AllAlike (bs.map enc)) (hk : SortOk (bs.map enc)) (hu : ∀ b, b ∈ bs → A.units + 2 + (enc b).depth < cLine)
    (h : ∀ (h1 h' : Heap) (ep : Nat) (out : List Value), (∀ b u, s.heap.get? b = some u → h1.get? b = some u) → (∀ b u, h1.get? b = some u → h'.get? b = some u) → h'.get? h1.objs.size = some (seqObj "list" (List.toArray out) ep) → EachIs R out (bs.mergeSort (dataLe false enc)) → Q (.ref h1.objs.size) { s with heap := h' }) :
    wpAny (model prog w) A (call (.builtin "sorted") [.ref it]) Q E s := by
  refine call_function_entry kind_sorted plain_sorted entry_sorted (args_sorted1 (.ref it)) ?_
  unfold Builtin.«sorted»
  refine wpAny_bind (m := checkCount "sorted" 1 1 _) (wpAny_pure (wpAny_bind (wpAny_collect_seq (hsz := ?_) it hT ho hc hd fun h1 k1 => ?_)))
  rotate_left
  · rw [List.size_toArray]
    exact few
  · rw [show vs.toArray.toList = vs by simp]
    refine wpAny_bind (wpAny_newList ?_ few)
    have hoL : (h1.push (seqObj "list" vs.toArray 0)).get? h1.objs.size = some (seqObj "list" vs.toArray 0) := Heap.get?_push_size _ rfl
    show wpAny _ _ _ _ _ { s with heap := h1.push (seqObj "list" vs.toArray 0) }
    have old : ∀ b u, s.heap.get? b = some u → b ≠ h1.objs.size ∧ (h1.push (seqObj "list" vs.toArray 0)).get? b = some u := fun b u e => ⟨Nat.ne_of_lt (Heap.lt_size (k1 b u e)), Heap.get?_push_of_some _ (k1 b u e)⟩
    have er' : EachIs (fun v b => ∃ as, Reads (sortingHeap (h1.push (seqObj "list" vs.toArray 0)) h1.objs.size vs) v (enc b) as) vs bs := er.mono fun _ _ ⟨as, r⟩ => ⟨as, PyProof.Rows.Reads.keeps (fun b u e => sortingHeap_old (old b u e).1 (old b u e).2) r⟩
    refine wpAny_bind (wpAny_holding (wpAny_call_entry slot_list_sort ⟨_, hoL, rfl⟩ entry_list_sort (list_sort_vals (s := { s with heap := h1.push (seqObj "list" vs.toArray 0) }) hoL
      (sorts_ok (s := { s with heap := sortingHeap (h1.push (seqObj "list" vs.toArray 0)) h1.objs.size vs }) (each_map (R := fun v d => ∃ as, Reads (sortingHeap (h1.push (seqObj "list" vs.toArray 0)) h1.objs.size vs) v d as) enc er') hal hk (bound_map hu)) few ⟨_, rfl, wpAny_pure ⟨_, rfl, ?_⟩⟩) (args_list_sort _)))
    obtain ⟨ep, at_⟩ := sortedHeap_at (vs := vs) (out := (sortVals (dataKind (sortingHeap (h1.push (seqObj "list" vs.toArray 0)) h1.objs.size vs) (bs.map enc)) false vs vs).toArray) hoL
    refine h h1 _ ep _ k1 (fun b u eu => ?_) at_ (sortVals_data false e er' hal)
    have hb : b < h1.objs.size := Heap.lt_size eu
    rw [sortedHeap_old (Nat.ne_of_lt hb) (by rw [size_push']; exact Nat.lt_succ_of_lt hb)]
    exact Heap.get?_push_of_some _ eu
theorem each_zip {h : Heap} : ∀ {xs : List V} {us : List Value} {ds : List PyData}, Vals xs us → EachIs (fun v d => ∃ as, Reads h v d as) us ds → EachIs (fun v (b : V × PyData) => RelV b.1 v) us (xs.zip ds) ∧ EachIs (fun v (b : V × PyData) => ∃ as, Reads h v b.2 as) us (xs.zip ds)
  | _, _, _, .nil, e => by
    cases e
    exact ⟨.nil, .nil⟩
  | _, _, _, .cons r rs, e => by
    cases e with
    | cons a b =>
      obtain ⟨q1, q2⟩ := each_zip rs b
      exact ⟨.cons r q1, .cons a q2⟩
theorem vals_of_each {bs : List (V × PyData)} : ∀ {out : List Value} , EachIs (fun v (b : V × PyData) => RelV b.1 v) out bs → Vals (bs.map (·.1)) out := by
  induction bs with
  | nil =>
    intro out e
    cases e
    exact .nil
  | cons b bs ih =>
    intro out e
    cases e with
    | cons a r => exact .cons a (ih r)
def rSortQ (K : PySem.W.Frag) : List V → Hp → VK → Prop := fun vs H Q => ∃ (a : Addr) (xs : List V) (ds : List PyData), vs = [.ref a] ∧ (SqL K H a xs ∨ SqT K H a xs) ∧ DpAll K H xs ds ∧ AllAlike ds ∧ SortOk ds ∧ xs.length ≤ 100000 ∧ (∀ d ∈ ds, d.depth ≤ 20) ∧
  ∀ p, H p = none → Q (.ref p) (upd H p (.lst (((xs.zip ds).mergeSort (dataLe false (·.2))).map (·.1))))
end
theorem cr_sortQ {X : Cx} (hu : X.A.units + 64 < cLine) : CallR X (.builtin "sorted") (rSortQ X.K) := by
  rintro pins s σ H vs us Q I r ⟨a, xs, ds, ev, hs, hd, hal, hk, hz, hdp, q⟩
  subst ev
  rw [Vals.ref1 r]
  have main : ∀ (its : List Value) (T : String) (o : Obj) (n : Nat), Vals xs its → (T = "list" ∨ T = "tuple") → s.heap.get? a = some o → o.cls = .type T → o.data = .seq its.toArray n → wpAny (model X.prog X.w) X.A (call (.builtin "sorted") [.ref a]) (EP X pins σ Q) X.xe s := fun its T o n rv hT ho hc hdd => by
    obtain ⟨as, hr⟩ := Dp.readsAll I ds xs its hd rv
    have l1 : its.length = xs.length := rv.length.symm
    have l2 := ReadsAll.length _ _ _ hr
    obtain ⟨e1, e2⟩ := each_zip rv (readsAll_each _root_.id (by rw [List.map_id]; exact hr))
    have em : (xs.zip ds).map (·.2) = ds := List.map_snd_zip (by omega)
    have sz : its.length ≤ sizeLine := Nat.le_trans (show its.length ≤ 100000 by omega) (by decide)
    refine sorted_sq (enc := fun b : V × PyData => b.2) hT ho hc hdd sz e1 e2 (by rw [em]; exact hal) (by rw [em]; exact hk) (fun b hb => ?_) fun h1 h' ep out k1 k2 at_ eo => ?_
    · have := hdp b.2 (by rw [← em]; exact List.mem_map.mpr ⟨b, hb, rfl⟩)
      omega
    · have I1 : Inv X pins σ H { s with heap := h1, toks := s.toks } := I.kept k1
      have rv' := vals_of_each eo
      refine ⟨.ref h1.objs.size, _, I1.laid (t' := s.toks) (o := .lst (((xs.zip ds).mergeSort (dataLe false (·.2))).map (·.1))) k2 (Nat.le_refl _) ⟨?_, out, ep, rv', at_⟩, rfl, q _ (I1.hok.fresh (Nat.le_refl _))⟩
      rw [List.length_map, List.length_mergeSort, List.length_zip]
      exact Nat.le_trans (Nat.min_le_left _ _) (Nat.le_trans hz (by decide))
  rcases hs with hs | hs
  · obtain ⟨its, rv, ⟨o, n, ho, hc, _, hdd⟩, _⟩ := I.list hs
    exact main its "list" o n rv (.inl rfl) ho hc hdd
  · obtain ⟨its, rv, ⟨o, ho, hc, n, hdd⟩, _⟩ := I.tuple hs
    exact main its "tuple" o n rv (.inr rfl) ho hc hdd
def srt (ds : List PyData) : List PyData := ds.mergeSort (dataLe false _root_.id)
theorem srt_zip {xs : List V} {ds : List PyData} (h : xs.length = ds.length) : ((xs.zip ds).mergeSort (dataLe false (·.2))).map (·.2) = srt ds := by
  unfold srt
  rw [List.map_mergeSort (r := dataLe false fun b : V × PyData => b.2) (s := dataLe false _root_.id) (f := fun b : V × PyData => b.2) (fun a _ b _ => rfl), List.map_snd_zip (by omega)]
theorem RpAll.unzip {ex : Ads} {H : Hp} : ∀ {bs : List (V × PyData)}, (∀ b ∈ bs, Rp ex H b.1 b.2) → RpAll ex H (bs.map (·.1)) (bs.map (·.2))
  | [], _ => .nil
  | b :: bs, h => .cons (h b List.mem_cons_self) (RpAll.unzip fun c hc => h c (List.mem_cons_of_mem _ hc))
theorem RpAll.zip {ex : Ads} {H : Hp} : ∀ {xs : List V} {ds : List PyData}, RpAll ex H xs ds → ∀ b ∈ xs.zip ds, Rp ex H b.1 b.2
  | _, _, .nil => fun b hb => by simp at hb
  | _, _, .cons a r => fun b hb => by
    rw [List.zip_cons_cons] at hb
    (rcases List.mem_cons.mp hb with rfl | hb)
    · exact a
    · exact r.zip b hb
section
variable {X : Cx} {M : Mx} {Γ : Gm} {e : Expr} {pos p : Pos} {ds : List PyData} {k : Nat}
theorem sortQ_of {xs : List V} {H : Hp} {Q : VK} {K : PySem.W.Frag} {a : Addr} (w : Hw M H) (hs : SqL K H a xs ∨ SqT K H a xs) (r : RpAll M.ex H xs ds) (h1 : AllAlike ds) (h2 : SortOk ds) (h3 : ds.length ≤ 100000) (h4 : ∀ d ∈ ds, d.depth ≤ 20) (q : ∀ z H', St M H H' → (L (srt ds)).P M.ex z H' → Q z H') : rSortQ K [.ref a] H Q :=
  ⟨a, xs, ds, rfl, hs, r.dp, h1, h2, by rw [r.length]; exact h3, h4, fun p hp => by
    have z := w.new (o := .lst (((xs.zip ds).mergeSort (dataLe false (·.2))).map (·.1))) hp
    refine q _ _ z.1 (.lst upd_same z.2 ?_)
    have u := RpAll.unzip (bs := (xs.zip ds).mergeSort (dataLe false (·.2))) fun b hb => (r.zip b (List.mem_mergeSort.mp hb)).fr (z.1.kp w)
    rw [srt_zip r.length] at u
    exact u⟩
theorem E.sortL (hr : Room k X.A) (hm : X.mg "sorted" = none) (h : E X M Γ e (L ds)) (h1 : AllAlike ds) (h2 : SortOk ds) (h3 : ds.length ≤ 100000) (h4 : ∀ d ∈ ds, d.depth ≤ 20) (hg : Gl X "sorted" := by rfl) (he : starEach [e] X.env = (false, eval e X.env) :: starEach [] X.env := by rfl) : E X M Γ (.Call (.Name "sorted" p) [e] [] pos) (L (srt ds)) :=
  E.callB (cr_sortQ hr.units) (by decide +kernel) hm (.cons h .nil he) (.one fun v H Q w h k => by
    cases h with
    | lst e n r => exact sortQ_of w (.inl (SqL.of e)) r h1 h2 h3 h4 k) hg (he := he)
theorem E.sortU (hr : Room k X.A) (hm : X.mg "sorted" = none) (h : E X M Γ e (U ds)) (h1 : AllAlike ds) (h2 : SortOk ds) (h3 : ds.length ≤ 100000) (h4 : ∀ d ∈ ds, d.depth ≤ 20) (hg : Gl X "sorted" := by rfl) (he : starEach [e] X.env = (false, eval e X.env) :: starEach [] X.env := by rfl) : E X M Γ (.Call (.Name "sorted" p) [e] [] pos) (L (srt ds)) :=
  E.callB (cr_sortQ hr.units) (by decide +kernel) hm (.cons h .nil he) (.one fun v H Q w h k => by
    cases h with
    | tup e n r => exact sortQ_of w (.inr (SqT.of e)) r h1 h2 h3 h4 k) hg (he := he)
end
def leS (a b : Str) : Bool := decide (a.cps.toList ≤ b.cps.toList)
def sortS (xs : List Str) : List Str := xs.mergeSort leS
theorem srt_strs (xs : List Str) : srt (xs.map .str) = (sortS xs).map .str := by
  unfold srt sortS
  rw [List.map_mergeSort (r := leS) (s := dataLe false _root_.id) (f := PyData.str) fun a _ b _ => ?_]
  have := dataLe_str (_root_.id : Str → Str)
  exact (congrFun (congrFun this a) b).symm
theorem strs_alike (xs : List Str) : AllAlike (xs.map .str) := AllAlike.of fun _ _ => by simp [alike]
theorem strs_sortOk (xs : List Str) : SortOk (xs.map .str) := .inl (.others fun _ => ⟨by simp, by simp⟩)
theorem strs_depth (xs : List Str) : ∀ d ∈ xs.map PyData.str, d.depth ≤ 20 := fun d hd => by
  obtain ⟨x, _, rfl⟩ := List.mem_map.mp hd
  simp [PyData.depth]
section
variable {X : Cx} {M : Mx} {Γ : Gm} {e : Expr} {pos p : Pos} {xs : List Str} {k : Nat}
theorem E.sortLs (hr : Room k X.A) (hm : X.mg "sorted" = none) (h : E X M Γ e (L (xs.map .str))) (h3 : xs.length ≤ 100000) (hg : Gl X "sorted" := by rfl) (he : starEach [e] X.env = (false, eval e X.env) :: starEach [] X.env := by rfl) : E X M Γ (.Call (.Name "sorted" p) [e] [] pos) (L ((sortS xs).map .str)) := by
  rw [← srt_strs]
  exact E.sortL hr hm h (strs_alike xs) (strs_sortOk xs) (by rw [List.length_map]; exact h3) (strs_depth xs) hg he
theorem E.sortUs (hr : Room k X.A) (hm : X.mg "sorted" = none) (h : E X M Γ e (U (xs.map .str))) (h3 : xs.length ≤ 100000) (hg : Gl X "sorted" := by rfl) (he : starEach [e] X.env = (false, eval e X.env) :: starEach [] X.env := by rfl) : E X M Γ (.Call (.Name "sorted" p) [e] [] pos) (L ((sortS xs).map .str)) := by
  rw [← srt_strs]
  exact E.sortU hr hm h (strs_alike xs) (strs_sortOk xs) (by rw [List.length_map]; exact h3) (strs_depth xs) hg he
end
end HB


namespace HB
open PySem L2 PyProof.Rows PySem.Spec

theorem enumNew {v : Value} {o : Obj} {H : Heap → Prop} (B : Begins v o H) :
    Meets (Builtin.«enumerate.__new__» ⟨[.type "enumerate", v], []⟩) (fun _ R s => H s.heap ∧ R (.ok (.ret (.ref (s.heap.push o).objs.size))) { s with heap := (s.heap.push o).push { cls := .type "enumerate", data := .fields #[.none, .bool false, .ref s.heap.objs.size, rawInt 0, .none, .none] } }) :=
  .of_wp fun P' w' A R s h => by
    obtain ⟨hp0, gs, dr, tk0, os0⟩ := s
    obtain ⟨h1, h⟩ := h
    have sub := sub_enumerate
    have it0 : ∀ {A' : Around} {E : Value → Shared → Prop} {Q : Value → Shared → Prop}, Q (.ref hp0.objs.size) ⟨hp0.push o, gs, dr, tk0, os0⟩ → wpAny (model P' w') A' (pyIter v) Q E ⟨hp0, gs, dr, tk0, os0⟩ := fun q => B.iter P' w' _ _ ⟨hp0, gs, dr, tk0, os0⟩ _ h1 q
    wp_walk using it0
    refine wpAny_stack_any fun _ => wpAny_pure ?_
    split
    · rename_i c _ _ _ _ _
      cases c == Value.type "enumerate"
      all_goals (wp_walk using it0; exact ⟨_, rfl, h⟩)
    · wp_walk using it0
      exact ⟨_, rfl, h⟩
section
variable {P' : Program} {w' : World} {A : Around} {E : Value → Shared → Prop} {s : Shared}
theorem enum1 {v : Value} {o : Obj} {H : Heap → Prop} {Q : Value → Shared → Prop} (B : Begins v o H) (h1 : H s.heap)
    (h : ∀ h', IsEnum h' (s.heap.objs.size + 1) s.heap.objs.size 0 .none → h'.get? s.heap.objs.size = some o → (∀ b o, s.heap.get? b = some o → h'.get? b = some o) → Q (.ref (s.heap.objs.size + 1)) { s with heap := h' }) :
    wpAny (model prog w) A (call (.type "enumerate") [v]) Q E s := by
  refine callType_new F.called_enumerate (by decide) (F.typeCall_enumerate_1 _) (F.newCall_enumerate_1 _) (fun obj => F.args_object_init_2 obj _) F.entry_enumerate_new (enumNew B) ⟨h1, ?_⟩
  have sz : (s.heap.push o).objs.size = s.heap.objs.size + 1 := Heap.size_push ..
  have en : IsEnum ((s.heap.push o).push { cls := .type "enumerate", data := .fields #[.none, .bool false, .ref s.heap.objs.size, rawInt 0, .none, .none] }) (s.heap.objs.size + 1) s.heap.objs.size 0 .none := by
    have e := Heap.get?_push_size (s.heap.push o) (o := { cls := .type "enumerate", data := .fields #[.none, .bool false, .ref s.heap.objs.size, rawInt 0, .none, .none] }) rfl
    rw [sz] at e
    exact e
  show _ ∧ _
  rw [sz]
  exact ⟨⟨_, en, rfl⟩, h _ en (Heap.get?_push_of_some _ (Heap.get?_push_size _ B.free)) fun b o x => Heap.get?_push_of_some _ (Heap.get?_push_of_some _ x)⟩
end
/-- the tuple at a, each item in a new pair -/
def IteT (K : PySem.W.Frag) (a : Addr) : It :=
  ⟨fun i H => ∃ (xs : List V) (x : V), SqT K H a xs ∧ xs[i]? = some x, fun i H v H' => ∃ T x, v = .ref T ∧ H T = none ∧ H' = upd H T (.tup [.int (i : Nat), x]) ∧ ∀ xs, SqT K H a xs → xs[i]? = some x, fun i H => ∃ xs : List V, SqT K H a xs ∧ xs.length ≤ i⟩
theorem turn_enumT {P : Program} {w : World} {K : PySem.W.Frag} {elts : List Expr} {kk : Nat} {tpos : Pos} (a e it : Addr) :
    Turn P w K (.Tuple elts kk tpos) (IteT K a) [e, it] e (fun i h => (∃ old, IsEnum h e it ((i : Nat) : Int) old) ∧ h.IsTupleIter it a i ∧ e ≠ it ∧ a ≠ it ∧ e ≠ a) where
  mem := by simp
  obj := fun i h st b hb => by
    obtain ⟨⟨old, enu⟩, ⟨o, ho, _, hd⟩, _⟩ := st
    have which : b = e ∨ b = it := by simpa using hb
    rcases which with rfl | rfl
    · exact ⟨_, enu, fun v q => nomatch q⟩
    · exact ⟨o, ho, fun v q => by rw [hd] at q; cases q⟩
  keep := fun i h h' st k => let ⟨⟨old, enu⟩, hi, apart1⟩ := st; ⟨⟨old, k e (by simp) _ enu⟩, hi.at fun o q => k it (by simp) o q, apart1⟩
  item := by
    rintro X rfl rfl rfl hc i pins s σ H E I hf st hg
    obtain ⟨⟨old, enu⟩, tup, apart1, apart2, apart3⟩ := st
    obtain ⟨xs, x, hq, hx⟩ := hg
    obtain ⟨its, rv, p, _⟩ := I.tuple hq
    obtain ⟨u, atU, relU⟩ := rv.get hx
    have hui : its.toArray[i]? = some u := by simpa using atU
    have hlt : i < its.toArray.size := (Array.getElem?_eq_some_iff.mp hui).1
    have lowE : e < s.heap.objs.size := Heap.lt_size enu
    have lowI : it < s.heap.objs.size := by obtain ⟨_, q, _⟩ := tup; exact Heap.lt_size q
    refine wpAny_pyNext_enum_itemD (Draws.tuple (A := X.A.in1) (I.ok.hd hc) it a apart2 its.toArray) enu ⟨tup, p⟩ hlt apart1 (by simp [apart1, apart3]) fun y h' tk hy ho hst tyE hsz hk => ?_
    have hy : its.toArray[i]? = some y := hy
    rw [hui] at hy
    cases hy
    refine ⟨_, rfl, wpAny_letOwnedTupleGo_enum (s := { s with heap := h', toks := tk + 1 }) ho fun h'' he' sb => ?_⟩
    have hT2 : h''.get? s.heap.objs.size = some { cls := .type "tuple", data := .seq #[.int i tk, u] } := (sb.2 _ (Nat.ne_of_gt lowE)).trans tyE
    have new : ObjOk X.prog X.w (upd H s.heap.objs.size (.tup [.int (i : Nat), x])) h'' s.heap.objs.size (.tup [.int (i : Nat), x]) := ⟨(by decide : 2 ≤ sizeLine), [.int i tk, u], .cons ⟨_, rfl⟩ (.cons relU .nil), ⟨_, hT2, rfl, _, rfl⟩⟩
    have I1 : Inv X pins σ (upd H s.heap.objs.size (.tup [.int (i : Nat), x])) { s with heap := h'', toks := tk + 1 } :=
      I.turnedNew (ch := [e, it]) (fun b ob hb q => (sb.2 b fun z => hb (by simp [z])).trans (hk b ob (fun z => hb (by simp [z])) (fun z => hb (by simp [z])) q)) hf (Nat.le_refl _) new
    refine ⟨.ref s.heap.objs.size, _, I1, rfl, ⟨_, x, rfl, I.hok.fresh (Nat.le_refl _), rfl, fun ys hy => by rw [I.tuple_inj hy hq]; exact hx⟩, ⟨⟨u, ?_⟩, hst.1.at fun o q => (sb.2 it (Ne.symm apart1)).trans q, apart1, apart2, apart3⟩, fun b hb => ?_⟩
    · rw [show ((i + 1 : Nat) : Int) = (i : Int) + 1 by omega]
      exact he'
    · have lowB : b < s.heap.objs.size := by
        have which : b = e ∨ b = it := by simpa using hb
        rcases which with rfl | rfl
        · exact lowE
        · exact lowI
      rw [upd_ne (Nat.ne_of_lt lowB)]
      exact (hf b hb).1
  done := by
    rintro X rfl rfl rfl hc i pins s σ H E I hf st hg
    obtain ⟨⟨old, enu⟩, tup, apart1, apart2, apart3⟩ := st
    obtain ⟨xs, hq, hx⟩ := hg
    obtain ⟨its, rv, p, _⟩ := I.tuple hq
    obtain ⟨q0, q1, q2, q3, q4, q5⟩ := hf it (by simp)
    have hl := rv.length
    have hend : its.toArray[i]? = none := by simp; omega
    have tyE : s.TypeIs (.ref e) "enumerate" := ⟨_, enu, rfl⟩
    unfold pyNext
    refine wpAny_bind (wpAny_attempt (wpAny_callSpecial?_slot (name := Str.ofString "__next__") tyE F.slot_enumerate_next (wpAny_call_entry F.slot_enumerate_next tyE F.entry_enumerate_next ?_ (F.args_enumerate_next_1 _))))
    show wpAny (model _ _) _ (field (.ref e) 2 >>= _) _ _ _
    refine wpAny_bind (wpAny_field enu rfl (x := .ref it) rfl (wpAny_bind (wpAny_nextOf_tuple_end (A := X.A.in1) (I.ok.hd hc) tup p hend fun h' x he' hx' => ?_)))
    obtain ⟨o, ho, hcl⟩ := hx'
    exact wpAny_bind (wpAny_isInstance (T := "StopIteration") (b := true) ⟨o, ho, hcl⟩ isSubtype_stop (wpAny_pure ⟨rfl, I.turned (t' := s.toks) (fun b o hb q => he' b o hb q) q0 q1 q3 q4 q5⟩))
  self := fun A i s Q E st h => let ⟨⟨_, enu⟩, _⟩ := st; wpAny_pyIter_enum enu h
def iEnumT (K : PySem.W.Frag) (ta : TA) : TI := fun σ H R => ta σ H fun vs H1 => ∃ a xs, vs = [.ref a] ∧ SqT K H1 a xs ∧ R (IteT K a) H1
theorem pi_enumT {X : Cx} {e : Expr} {ta : TA} {p pos tpos : Pos} {elts : List Expr} {kk : Nat} (hg : Gl X "enumerate") (hm : X.mg "enumerate" = none) (ha : PA X [e] ta) (hs : starEach [e] X.env = [(false, eval e X.env)] := by rfl) :
    PI X (.Tuple elts kk tpos) (.Call (.Name "enumerate" p) [e] [] pos) (iEnumT X.K ta) := by
  refine ⟨fun pins s σ H R I h => Call_ (ld_blt I hg hm boot_enumerate (PyProof.Rows.callWith_type1 (thn (ha.run pos pins s σ H _ I h) fun us s1 ⟨vs, H1, I1, r1, q1⟩ => ?_) hs rfl))⟩
  obtain ⟨a, xs, rfl, hq, q⟩ := q1
  obtain rfl := Vals.ref1 r1
  obtain ⟨its, rv, p', _⟩ := I1.tuple hq
  have al : a < s1.heap.objs.size := by
    obtain ⟨o, ho, _⟩ := p'
    exact Heap.lt_size ho
  refine enum1 (begins_tuple a its.toArray) p' fun h' he hit hk => wpAny_pyIter_enum he ?_
  refine ⟨s1.heap.objs.size + 1, [s1.heap.objs.size + 1, s1.heap.objs.size], _, _, H1, rfl, I1.kept (t' := s1.toks) hk, turn_enumT a (s1.heap.objs.size + 1) s1.heap.objs.size, ⟨⟨.none, he⟩, ⟨_, hit, rfl, rfl⟩, Nat.succ_ne_self _, Nat.ne_of_lt al, Nat.ne_of_gt (Nat.lt_succ_of_lt al)⟩, fun b hb => ?_, q⟩
  have above : s1.heap.objs.size ≤ b := by
    have which : b = s1.heap.objs.size + 1 ∨ b = s1.heap.objs.size := by simpa using hb
    rcases which with rfl | rfl
    · exact Nat.le_succ _
    · exact Nat.le_refl _
  exact I1.fpOk above (I1.hok.fresh above)

section
variable {X : Cx} {M : Mx} {Γ : Gm} {ow : Bool} {e e2 tg : Expr} {ds es : List PyData} {pos pn tpos : Pos} {elts : List Expr} {kk : Nat}
theorem new_pair {ex' : Ads} {H : Hp} {T : Addr} {x y : V} {T1 T2 : Ty} (hT : H T = none) (hx : ∀ a, ex' a → ∃ o, H a = some o ∧ NoT o) (h1 : T1.P ex' x H) (h2 : T2.P ex' y H) :
    (∀ a o, H a = some o → upd H T (.tup [x, y]) a = some o) ∧ (∀ a o u, upd H T (.tup [x, y]) a = some (.frz o u) → H a = some (.frz o u)) ∧ (tupT [T1, T2]).P ex' (.ref T) (upd H T (.tup [x, y])) := by
  have nT : ¬ ex' T := fun z => by
    obtain ⟨o, e, _⟩ := hx T z
    rw [hT] at e
    cases e
  have kp : Kp ex' ex' H (upd H T (.tup [x, y])) := .of fun a o e n => ⟨by rw [upd_ne (ne_of_none e hT)]; exact e, n⟩
  exact ⟨fun a o e => by rw [upd_ne (ne_of_none e hT)]; exact e, fun a o u e => nf_upd (fun _ _ z => by cases z) e, T, _, rfl, upd_same, nT, .cons (T1.fr kp h1) (.cons (T2.fr kp h2) .nil)⟩
theorem enumD_get {i : Nat} {T : Ty} (h : (ds.mapIdx fun i d => tupT [I (i : Int), D d])[i]? = some T) : ∃ d, ds[i]? = some d ∧ T = tupT [I (i : Int), D d] := by
  rw [List.getElem?_mapIdx] at h
  cases e : ds[i]? with
  | none => (rw [e] at h; cases h)
  | some d => rw [e] at h; exact ⟨d, rfl, (Option.some.inj h).symm⟩
theorem W.enumU (hm : X.mg "enumerate" = none) (h : E X M Γ e (U ds)) (hg : Gl X "enumerate" := by rfl) (hs : starEach [e] X.env = [(false, eval e X.env)] := by rfl) (he : starEach [e] X.env = (false, eval e X.env) :: starEach [] X.env := by rfl) :
    W X M Γ ow (.Tuple elts kk tpos) (.Call (.Name "enumerate" pn) [e] [] pos) (· = ds.mapIdx fun i d => tupT [I (i : Int), D d]) :=
  ⟨_, pi_enumT hg hm (pa_cons pe_w pa_nil he) hs, fun σ H l R k => (h σ H l).mono fun v H1 ⟨s1, h1⟩ => by
    cases h1 with
    | @tup b xs _ e n r =>
      refine ⟨b, xs, rfl, SqT.of e, k _ H1 _ s1 rfl ⟨fun i T hT H ex' nx _ hx => ?_, fun H ex' nx _ => ⟨xs, SqT.of (nx b _ e n).1, by rw [r.length, List.length_mapIdx]; exact Nat.le_refl _⟩⟩⟩
      obtain ⟨d, hd, rfl⟩ := enumD_get hT
      obtain ⟨x, hx', rx⟩ := (r.fr nx.kp).get hd
      refine ⟨⟨xs, x, SqT.of (nx b _ e n).1, hx'⟩, fun y H' ⟨T, x', ey, hT, eH, hy⟩ => ?_⟩
      subst ey; subst eH
      have := hy xs (SqT.of (nx b _ e n).1)
      rw [hx'] at this
      cases this
      exact new_pair hT hx (.int _) rx⟩
theorem W.enumL (hm : X.mg "enumerate" = none) (h : E X M Γ e (L ds)) (hg : Gl X "enumerate" := by rfl) (hs : starEach [e] X.env = [(false, eval e X.env)] := by rfl) (he : starEach [e] X.env = (false, eval e X.env) :: starEach [] X.env := by rfl) :
    W X M Γ ow (.Tuple elts kk tpos) (.Call (.Name "enumerate" pn) [e] [] pos) (· = ds.mapIdx fun i d => tupT [I (i : Int), D d]) :=
  ⟨_, pi_enum hg hm (pa_cons pe_w pa_nil he) hs, fun σ H l R k => (h σ H l).mono fun v H1 ⟨s1, h1⟩ => by
    cases h1 with
    | @lst b xs _ e n r =>
      refine ⟨b, xs, rfl, SqL.of e, k _ H1 _ s1 rfl ⟨fun i T hT H ex' nx _ hx => ?_, fun H ex' nx _ => ⟨xs, SqL.of (nx b _ e n).1, by rw [r.length, List.length_mapIdx]; exact Nat.le_refl _⟩⟩⟩
      obtain ⟨d, hd, rfl⟩ := enumD_get hT
      obtain ⟨x, hx', rx⟩ := (r.fr nx.kp).get hd
      refine ⟨⟨xs, x, SqL.of (nx b _ e n).1, hx'⟩, fun y H' ⟨T, x', ey, hT, eH, hy⟩ => ?_⟩
      subst ey; subst eH
      have := hy xs (SqL.of (nx b _ e n).1)
      rw [hx'] at this
      cases this
      exact new_pair hT hx (.int _) rx⟩
end
end HB


namespace HB
open PySem L2 PyProof.Rows PySem.Spec
def minS (x y : Str) : Str := if y.cps.toList < x.cps.toList then y else x
def maxS (x y : Str) : Str := if x.cps.toList < y.cps.toList then y else x
section
variable {w : World} {prog : Program} {A : Around} {E : Value → Shared → Prop} {s : Shared}
def nthS (x y : Str) (i : Nat) : Str := if i = 0 then x else y
theorem pairAt {x y : Str} {t u : Tok} {i : Nat} {v : Value} (h : (#[Value.str x t, .str y u] : Array Value)[i]? = some v) : ∃ k, v = .str (nthS x y i) k := by
  match i, h with
  | 0, h => exact ⟨t, by simpa [nthS] using h.symm⟩
  | 1, h => exact ⟨u, by simpa [nthS] using h.symm⟩
  | i + 2, h => simp at h
theorem ltPair {x y : Str} {t u : Tok} : CmpOf prog w A .Lt (fun i v => (#[Value.str x t, .str y u] : Array Value)[i]? = some v) fun i j => decide ((nthS x y i).cps.toList < (nthS x y j).cps.toList) := fun i j vi vj s Q E hi hj h => by
  obtain ⟨k, rfl⟩ := pairAt hi
  obtain ⟨k', rfl⟩ := pairAt hj
  exact richCompare_gives (op := .Lt) (typeIs_str s _ k) (typeIs_str s _ k') F.slot_str_lt F.entry_str_lt (F.args_str_lt_2 _ _) (gives_str_lt _ _ k k') (fun x => nomatch x) h
theorem gtPair {x y : Str} {t u : Tok} : CmpOf prog w A .Gt (fun i v => (#[Value.str x t, .str y u] : Array Value)[i]? = some v) fun i j => decide ((nthS x y j).cps.toList < (nthS x y i).cps.toList) := fun i j vi vj s Q E hi hj h => by
  obtain ⟨k, rfl⟩ := pairAt hi
  obtain ⟨k', rfl⟩ := pairAt hj
  exact richCompare_gives (op := .Gt) (typeIs_str s _ k) (typeIs_str s _ k') F.slot_str_gt F.entry_str_gt (F.args_str_gt_2 _ _) (gives_str_gt _ _ k k') (fun x => nomatch x) h
theorem least2 {x y : Str} {t u : Tok} {v : Value} (h : (#[Value.str x t, .str y u] : Array Value)[argBest (fun i j => decide ((nthS x y i).cps.toList < (nthS x y j).cps.toList)) 1]? = some v) : ∃ k, v = .str (minS x y) k := by
  obtain ⟨k, e⟩ := pairAt h
  refine ⟨k, e.trans ?_⟩
  by_cases c : y.cps.toList < x.cps.toList <;> simp [argBest, nthS, minS, c]
theorem most2 {x y : Str} {t u : Tok} {v : Value} (h : (#[Value.str x t, .str y u] : Array Value)[argBest (fun i j => decide ((nthS x y j).cps.toList < (nthS x y i).cps.toList)) 1]? = some v) : ∃ k, v = .str (maxS x y) k := by
  obtain ⟨k, e⟩ := pairAt h
  refine ⟨k, e.trans ?_⟩
  by_cases c : x.cps.toList < y.cps.toList <;> simp [argBest, nthS, maxS, c]
theorem lst_old {h h' : Heap} {o : Obj} (k : ∀ b u, b ∉ [h.objs.size] → (h.push o).get? b = some u → h'.get? b = some u) : ∀ c u, h.get? c = some u → h'.get? c = some u := fun c u e => k c u (fun z => Nat.ne_of_lt (Heap.lt_size e) (List.mem_singleton.mp z)) (Heap.get?_push_of_some _ e)
theorem minTup {x y : Str} {t u : Tok} {l : Addr} {Q : Value → Shared → Prop} (hh : A.handled = none) (hl : s.heap.IsTuple l #[.str x t, .str y u]) (h : ∀ h' tk k, (∀ c o, s.heap.get? c = some o → h'.get? c = some o) → Q (.str (minS x y) k) { s with heap := h', toks := tk }) : wpAny (model prog w) A (call (.builtin "min") [.ref l]) Q E s := by
  have ll : l < s.heap.objs.size := by
    obtain ⟨o, ho, _⟩ := hl
    exact Heap.lt_size ho
  refine call_min_walk (wpAny_pyIter_tuple hl ⟨_, [_, l], [_], _, _, _, _, rfl, Walks.tuple (A := A.in1) hh _ l (Nat.ne_of_lt ll) _, ⟨⟨_, Heap.get?_push_size _ rfl, rfl, rfl⟩, hl.push _⟩, fun c hc => ?_, by simp, ltPair, fun v h' tk hP hk => ?_⟩)
  · show c < (s.heap.push _).objs.size
    rw [Heap.size_push]
    simp at hc
    rcases hc with rfl | rfl
    · exact Nat.lt_succ_self _
    · exact Nat.lt_succ_of_lt ll
  · obtain ⟨k, rfl⟩ := least2 hP
    exact h h' tk k (lst_old hk)
theorem maxTup {x y : Str} {t u : Tok} {l : Addr} {Q : Value → Shared → Prop} (hh : A.handled = none) (hl : s.heap.IsTuple l #[.str x t, .str y u]) (h : ∀ h' tk k, (∀ c o, s.heap.get? c = some o → h'.get? c = some o) → Q (.str (maxS x y) k) { s with heap := h', toks := tk }) : wpAny (model prog w) A (call (.builtin "max") [.ref l]) Q E s := by
  have ll : l < s.heap.objs.size := by
    obtain ⟨o, ho, _⟩ := hl
    exact Heap.lt_size ho
  refine call_max_walk (wpAny_pyIter_tuple hl ⟨_, [_, l], [_], _, _, _, _, rfl, Walks.tuple (A := A.in1) hh _ l (Nat.ne_of_lt ll) _, ⟨⟨_, Heap.get?_push_size _ rfl, rfl, rfl⟩, hl.push _⟩, fun c hc => ?_, by simp, gtPair, fun v h' tk hP hk => ?_⟩)
  · show c < (s.heap.push _).objs.size
    rw [Heap.size_push]
    simp at hc
    rcases hc with rfl | rfl
    · exact Nat.lt_succ_self _
    · exact Nat.lt_succ_of_lt ll
  · obtain ⟨k, rfl⟩ := most2 hP
    exact h h' tk k (lst_old hk)
theorem min2S {x y : Str} {t u : Tok} {Q : Value → Shared → Prop} (hh : A.handled = none) (h : ∀ h' tk k, (∀ c o, s.heap.get? c = some o → h'.get? c = some o) → Q (.str (minS x y) k) { s with heap := h', toks := tk }) :
    wpAny (model prog w) A (call (.builtin "min") [.str x t, .str y u]) Q E s := by
  have hT : (s.heap.push { cls := .type "tuple", data := .seq #[.str x t, .str y u] }).IsTuple s.heap.objs.size #[.str x t, .str y u] := ⟨_, Heap.get?_push_size _ rfl, rfl, 0, rfl⟩
  have sz : (s.heap.push { cls := .type "tuple", data := .seq #[.str x t, .str y u] }).objs.size = s.heap.objs.size + 1 := Heap.size_push ..
  refine call_min_two (wpAny_pyIter_tuple hT ⟨_, [_, s.heap.objs.size], [_], _, _, _, _, rfl, Walks.tuple (A := A.in1) hh _ s.heap.objs.size (by rw [sz]; exact Nat.ne_of_lt (Nat.lt_succ_self _)) _, ⟨⟨_, Heap.get?_push_size _ rfl, rfl, rfl⟩, hT.push _⟩, fun b hb => ?_, by simp, ltPair, fun v h' tk hP hk => ?_⟩)
  · show b < ((s.heap.push _).push _).objs.size
    rw [Heap.size_push, sz]
    simp at hb
    rcases hb with rfl | rfl
    · exact Nat.lt_succ_self _
    · (exact Nat.lt_succ_of_lt (Nat.lt_succ_self _))
  · obtain ⟨k, rfl⟩ := least2 hP
    refine h h' tk k fun c o e => lst_old (o := _) hk c o (Heap.get?_push_of_some _ e)
theorem max2S {x y : Str} {t u : Tok} {Q : Value → Shared → Prop} (hh : A.handled = none) (h : ∀ h' tk k, (∀ c o, s.heap.get? c = some o → h'.get? c = some o) → Q (.str (maxS x y) k) { s with heap := h', toks := tk }) :
    wpAny (model prog w) A (call (.builtin "max") [.str x t, .str y u]) Q E s := by
  have hT : (s.heap.push { cls := .type "tuple", data := .seq #[.str x t, .str y u] }).IsTuple s.heap.objs.size #[.str x t, .str y u] := ⟨_, Heap.get?_push_size _ rfl, rfl, 0, rfl⟩
  have sz : (s.heap.push { cls := .type "tuple", data := .seq #[.str x t, .str y u] }).objs.size = s.heap.objs.size + 1 := Heap.size_push ..
  refine call_max_two (wpAny_pyIter_tuple hT ⟨_, [_, s.heap.objs.size], [_], _, _, _, _, rfl, Walks.tuple (A := A.in1) hh _ s.heap.objs.size (by rw [sz]; exact Nat.ne_of_lt (Nat.lt_succ_self _)) _, ⟨⟨_, Heap.get?_push_size _ rfl, rfl, rfl⟩, hT.push _⟩, fun b hb => ?_, by simp, gtPair, fun v h' tk hP hk => ?_⟩)
  · show b < ((s.heap.push _).push _).objs.size
    rw [Heap.size_push, sz]
    simp at hb
    rcases hb with rfl | rfl
    · exact Nat.lt_succ_self _
    · (exact Nat.lt_succ_of_lt (Nat.lt_succ_self _))
  · obtain ⟨k, rfl⟩ := most2 hP
    refine h h' tk k fun c o e => lst_old (o := _) hk c o (Heap.get?_push_of_some _ e)
end
section
variable {X : Cx}
def rPairS (K : PySem.W.Frag) (f : Str → Str → Str) : List V → Hp → VK → Prop := fun vs H Q => ∃ (a : Addr) (x y : Str), vs = [.ref a] ∧ SqT K H a [.str x, .str y] ∧ Q (.str (f x y)) H
theorem cr_minP (hc : X.calm = true) : CallR X (.builtin "min") (rPairS X.K minS) := by
  rintro pins s σ H vs us Q I r ⟨a, x, y, rfl, hs, q⟩
  obtain ⟨its, rv, p, _⟩ := I.tuple hs
  rw [Vals.ref1 r]
  obtain ⟨u, w', rfl, ⟨t, rfl⟩, ⟨t', rfl⟩⟩ := vals2 rv
  exact minTup (I.ok.hd hc) p fun h' tk k e => ⟨.str _, H, I.kept e, ⟨_, rfl⟩, q⟩
theorem cr_maxP (hc : X.calm = true) : CallR X (.builtin "max") (rPairS X.K maxS) := by
  rintro pins s σ H vs us Q I r ⟨a, x, y, rfl, hs, q⟩
  obtain ⟨its, rv, p, _⟩ := I.tuple hs
  rw [Vals.ref1 r]
  obtain ⟨u, w', rfl, ⟨t, rfl⟩, ⟨t', rfl⟩⟩ := vals2 rv
  exact maxTup (I.ok.hd hc) p fun h' tk k e => ⟨.str _, H, I.kept e, ⟨_, rfl⟩, q⟩
def rTwoS (f : Str → Str → Str) : List V → Hp → VK → Prop := fun vs H Q => ∃ x y : Str, vs = [.str x, .str y] ∧ Q (.str (f x y)) H
theorem cr_min2S (hc : X.calm = true) : CallR X (.builtin "min") (rTwoS minS) := by
  rintro pins s σ H vs us Q I r ⟨x, y, rfl, q⟩
  obtain ⟨_, _, rfl, ⟨tx, rfl⟩, ⟨ty, rfl⟩⟩ := vals2 r
  exact min2S (I.ok.hd hc) fun h' tk k e => ⟨.str _, H, I.kept e, ⟨_, rfl⟩, q⟩
theorem cr_max2S (hc : X.calm = true) : CallR X (.builtin "max") (rTwoS maxS) := by
  rintro pins s σ H vs us Q I r ⟨x, y, rfl, q⟩
  obtain ⟨_, _, rfl, ⟨tx, rfl⟩, ⟨ty, rfl⟩⟩ := vals2 r
  exact max2S (I.ok.hd hc) fun h' tk k e => ⟨.str _, H, I.kept e, ⟨_, rfl⟩, q⟩
variable {M : Mx} {Γ : Gm} {e a b tg : Expr} {pos p tpos : Pos} {x y : Str} {ds es : List PyData} {elts : List Expr} {kk : Nat} {ow : Bool}
theorem E.minP (hm : X.mg "min" = none) (h : E X M Γ e (U [.str x, .str y])) (hc : X.calm = true := by rfl) (hg : Gl X "min" := by rfl) (he : starEach [e] X.env = (false, eval e X.env) :: starEach [] X.env := by rfl) : E X M Γ (.Call (.Name "min" p) [e] [] pos) (S_ (minS x y)) :=
  E.callB (cr_minP hc) (by decide +kernel) hm (.cons h .nil he) (.one fun v H Q w h k => by
    cases h with
    | tup e n r =>
      obtain rfl := RpAll.strs (xs := [x, y]) r
      exact ⟨_, x, y, rfl, SqT.of e, k _ H (St.refl w) (.str _)⟩) hg (he := he)
theorem E.maxP (hm : X.mg "max" = none) (h : E X M Γ e (U [.str x, .str y])) (hc : X.calm = true := by rfl) (hg : Gl X "max" := by rfl) (he : starEach [e] X.env = (false, eval e X.env) :: starEach [] X.env := by rfl) : E X M Γ (.Call (.Name "max" p) [e] [] pos) (S_ (maxS x y)) :=
  E.callB (cr_maxP hc) (by decide +kernel) hm (.cons h .nil he) (.one fun v H Q w h k => by
    cases h with
    | tup e n r =>
      obtain rfl := RpAll.strs (xs := [x, y]) r
      exact ⟨_, x, y, rfl, SqT.of e, k _ H (St.refl w) (.str _)⟩) hg (he := he)
theorem E.min2S (hm : X.mg "min" = none) (ha : E X M Γ a (S_ x)) (hb : E X M Γ b (S_ y)) (hc : X.calm = true := by rfl) (hg : Gl X "min" := by rfl) (s1 : starEach [a, b] X.env = (false, eval a X.env) :: starEach [b] X.env := by rfl) (s2 : starEach [b] X.env = (false, eval b X.env) :: starEach [] X.env := by rfl)
    (hpl : (backTo pos (starEach [b] X.env)).any (·.1) = false := by rfl) : E X M Γ (.Call (.Name "min" p) [a, b] [] pos) (S_ (minS x y)) :=
  E.callB (cr_min2S hc) (by decide +kernel) hm (.cons ha (.cons hb .nil s2) s1) (.two fun v u H Q w h1 h2 k => by
    cases h1
    cases h2
    exact ⟨x, y, rfl, k _ H (St.refl w) (.str _)⟩) hg (he := s1) (hpl := hpl)
theorem E.max2S (hm : X.mg "max" = none) (ha : E X M Γ a (S_ x)) (hb : E X M Γ b (S_ y)) (hc : X.calm = true := by rfl) (hg : Gl X "max" := by rfl) (s1 : starEach [a, b] X.env = (false, eval a X.env) :: starEach [b] X.env := by rfl) (s2 : starEach [b] X.env = (false, eval b X.env) :: starEach [] X.env := by rfl)
    (hpl : (backTo pos (starEach [b] X.env)).any (·.1) = false := by rfl) : E X M Γ (.Call (.Name "max" p) [a, b] [] pos) (S_ (maxS x y)) :=
  E.callB (cr_max2S hc) (by decide +kernel) hm (.cons ha (.cons hb .nil s2) s1) (.two fun v u H Q w h1 h2 k => by
    cases h1
    cases h2
    exact ⟨x, y, rfl, k _ H (St.refl w) (.str _)⟩) hg (he := s1) (hpl := hpl)
def zipTs (ds es : List PyData) : List Ty := (ds.zip es).map fun q => tupT [HB.D q.1, HB.D q.2]
theorem zip_get {i : Nat} {T : Ty} (h : (zipTs ds es)[i]? = some T) : ∃ d e, ds[i]? = some d ∧ es[i]? = some e ∧ T = tupT [HB.D d, HB.D e] := by
  unfold zipTs at h
  rw [List.getElem?_map] at h
  cases e : (ds.zip es)[i]? with
  | none => (rw [e] at h; cases h)
  | some q =>
    rw [e] at h
    obtain ⟨h1, h2⟩ := List.getElem?_zip_eq_some.mp e
    exact ⟨q.1, q.2, h1, h2, (Option.some.inj h).symm⟩
theorem W.zipL (hm : X.mg "zip" = none) (ha : E X M Γ a (L ds)) (hb : E X M Γ b (L es)) (hg : Gl X "zip" := by rfl) (s1 : starEach [a, b] X.env = (false, eval a X.env) :: starEach [b] X.env := by rfl) (s2 : starEach [b] X.env = (false, eval b X.env) :: starEach [] X.env := by rfl) (hpl : (backTo pos (starEach [b] X.env)).any (·.1) = false := by rfl) :
    W X M Γ ow (.Tuple elts kk tpos) (.Call (.Name "zip" p) [a, b] [] pos) (· = zipTs ds es) :=
  ⟨_, RZ.pi_zipA hg hm (pa_cons pe_w (pa_cons pe_w pa_nil s2) s1) s1 hpl, fun σ H l R k => (ha σ H l).mono fun v H1 ⟨q1, h1⟩ => (hb σ H1 (l.st q1)).mono fun u H2 ⟨q2, h2⟩ => by
    have h1 := (L ds).fr (q2.kp (l.st q1).hw) h1
    cases h1 with
    | @lst c xs _ e n r =>
      cases h2 with
      | @lst d ys _ e' n' r' =>
        refine ⟨c, d, xs, ys, rfl, .inl ⟨SqL.of e, SqL.of e', k _ H2 _ (q1.trans q2) rfl ⟨fun i T hT H ex' nx _ hx => ?_, fun H ex' nx _ => ⟨xs, ys, SqL.of (nx c _ e n).1, SqL.of (nx d _ e' n').1, ?_⟩⟩⟩⟩
        · obtain ⟨p, q, hp, hq, rfl⟩ := zip_get hT
          obtain ⟨x, hx1, rx⟩ := (r.fr nx.kp).get hp
          obtain ⟨y, hy1, ry⟩ := (r'.fr nx.kp).get hq
          refine ⟨⟨xs, ys, x, y, SqL.of (nx c _ e n).1, SqL.of (nx d _ e' n').1, hx1, hy1⟩, fun z H' ⟨T, x', y', ez, hT, eH, hx', hy'⟩ => ?_⟩
          subst ez; subst eH
          have e1 := hx' xs (SqL.of (nx c _ e n).1)
          have e2 := hy' ys (SqL.of (nx d _ e' n').1)
          rw [hx1] at e1
          rw [hy1] at e2
          cases e1; cases e2
          exact new_pair hT hx rx ry
        · rw [r.length, r'.length, zipTs, List.length_map, List.length_zip]
          omega⟩
theorem W.zipU (hm : X.mg "zip" = none) (ha : E X M Γ a (U ds)) (hb : E X M Γ b (U es)) (hg : Gl X "zip" := by rfl) (s1 : starEach [a, b] X.env = (false, eval a X.env) :: starEach [b] X.env := by rfl) (s2 : starEach [b] X.env = (false, eval b X.env) :: starEach [] X.env := by rfl) (hpl : (backTo pos (starEach [b] X.env)).any (·.1) = false := by rfl) :
    W X M Γ ow (.Tuple elts kk tpos) (.Call (.Name "zip" p) [a, b] [] pos) (· = zipTs ds es) :=
  ⟨_, RZ.pi_zipA hg hm (pa_cons pe_w (pa_cons pe_w pa_nil s2) s1) s1 hpl, fun σ H l R k => (ha σ H l).mono fun v H1 ⟨q1, h1⟩ => (hb σ H1 (l.st q1)).mono fun u H2 ⟨q2, h2⟩ => by
    have h1 := (U ds).fr (q2.kp (l.st q1).hw) h1
    cases h1 with
    | @tup c xs _ e n r =>
      cases h2 with
      | @tup d ys _ e' n' r' =>
        refine ⟨c, d, xs, ys, rfl, .inr ⟨SqT.of e, SqT.of e', k _ H2 _ (q1.trans q2) rfl ⟨fun i T hT H ex' nx _ hx => ?_, fun H ex' nx _ => ⟨xs, ys, SqT.of (nx c _ e n).1, SqT.of (nx d _ e' n').1, ?_⟩⟩⟩⟩
        · obtain ⟨p, q, hp, hq, rfl⟩ := zip_get hT
          obtain ⟨x, hx1, rx⟩ := (r.fr nx.kp).get hp
          obtain ⟨y, hy1, ry⟩ := (r'.fr nx.kp).get hq
          refine ⟨⟨xs, ys, x, y, SqT.of (nx c _ e n).1, SqT.of (nx d _ e' n').1, hx1, hy1⟩, fun z H' ⟨T, x', y', ez, hT, eH, hx', hy'⟩ => ?_⟩
          subst ez; subst eH
          have e1 := hx' xs (SqT.of (nx c _ e n).1)
          have e2 := hy' ys (SqT.of (nx d _ e' n').1)
          rw [hx1] at e1
          rw [hy1] at e2
          cases e1; cases e2
          exact new_pair hT hx rx ry
        · rw [r.length, r'.length, zipTs, List.length_map, List.length_zip]
          omega⟩
end
end HB


namespace HB
open PySem L2 PyProof.Rows PySem.Spec
inductive Weak : Gm → Gm → Prop
  | nil : Weak [] []
  | keep {t : Option Ty} {Γ Γ' : Gm} : Weak Γ Γ' → Weak (t :: Γ) (t :: Γ')
  | drop {t : Option Ty} {Γ Γ' : Gm} : Weak Γ Γ' → Weak (t :: Γ) (none :: Γ')
theorem Weak.len : ∀ {Γ Γ' : Gm}, Weak Γ Γ' → Γ'.length = Γ.length
  | _, _, .nil => rfl
  | _, _, .keep h => congrArg Nat.succ h.len
  | _, _, .drop h => congrArg Nat.succ h.len
theorem Weak.get : ∀ {Γ Γ' : Gm}, Weak Γ Γ' → ∀ (i : Nat) (T : Ty), Γ'[i]? = some (some T) → Γ[i]? = some (some T)
  | _, _, .nil, i, T, e => by simp at e
  | _, _, .keep h, 0, T, e => by simpa using e
  | _, _, .keep h, i + 1, T, e => by simpa using h.get i T (by simpa using e)
  | _, _, .drop h, 0, T, e => by simp at e
  | _, _, .drop h, i + 1, T, e => by simpa using h.get i T (by simpa using e)
theorem Loc.wk {M : Mx} {Γ Γ' : Gm} {σ : L2.St} {H : Hp} (l : Loc M Γ σ H) (w : Weak Γ Γ') : Loc M Γ' σ H := l.weak w.len fun i T e => ⟨T, w.get i T e, fun _ h => h⟩
section
variable {X : Cx} {M : Mx} {Γ : Gm} {e a b : Expr} {T : Ty} {pos p p2 : Pos} {ds es : List PyData} {d : PyData} {k : Nat}
theorem pg_pair {i j : Nat} {x y : Str} {px py pt : Pos} {kt : Nat} (hN : X.N.Nodup) (hi : X.N[i]? = some x := by rfl) (hj : X.N[j]? = some y := by rfl) (hx : L2.Loc X.env.scope x := by first | exact Or.inl rfl | exact Or.inr rfl) (hy : L2.Loc X.env.scope y := by first | exact Or.inl rfl | exact Or.inr rfl)
    (f1 : X.fn x = true ∨ X.env.scope.names.lookup x = some .local := by first | exact .inl rfl | exact .inr rfl) (f2 : X.fn y = true ∨ X.env.scope.names.lookup y = some .local := by first | exact .inl rfl | exact .inr rfl) (hc : X.calm = true := by rfl)
    (n1 : (assignEach [.Name x px, .Name y py] X.env).length = 2 := by rfl) (n2 : (assignEach [.Name x px, .Name y py] X.env).findIdx? (·.1) = none := by rfl)
    (m1 : (assignEach [.Name x px, .Name y py] X.env).map (·.2) = assign (.Name x px) X.env :: (assignEach [.Name y py] X.env).map (·.2) := by rfl) (m2 : (assignEach [.Name y py] X.env).map (·.2) = assign (.Name y py) X.env :: (assignEach [] X.env).map (·.2) := by rfl) :
    PG X (.Tuple [.Name x px, .Name y py] kt pt) (gTup X.K 2 (gCons (gName i) (gCons (gName j) gNil))) := pg_tup hc (pgs_cons (pg_name hN hi hx f1) (pgs_cons (pg_name hN hj hy f2) pgs_nil m2) m1) n1 n2
abbrev sq (b : Bool) (ds : List PyData) : Ty := if b then L ds else U ds
theorem E.fromQ {c : Bool} (he : E X M Γ e (sq c ds)) (hk : E X M Γ a (I (k : Int))) : E X M Γ (.Subscript e (.Slice (some a) none none p2) pos) (sq c (ds.drop k)) := by
  cases c with
  | true => exact E.fromL he hk
  | false => exact E.fromU he hk
theorem W.seq {ow : Bool} {tg : Expr} {c : Bool} (h : E X M Γ e (sq c ds)) : W X M Γ ow tg e (· = ds.map D) := by
  cases c with
  | true => exact W.list h
  | false => exact W.tup h
theorem W.enumQ {ow : Bool} {c : Bool} {elts : List Expr} {kk : Nat} {tpos pn : Pos} (hm : X.mg "enumerate" = none) (h : E X M Γ e (sq c ds)) (hg : Gl X "enumerate" := by rfl) (hs : starEach [e] X.env = [(false, eval e X.env)] := by rfl) (he : starEach [e] X.env = (false, eval e X.env) :: starEach [] X.env := by rfl) :
    W X M Γ ow (.Tuple elts kk tpos) (.Call (.Name "enumerate" pn) [e] [] pos) (· = ds.mapIdx fun i d => tupT [I (i : Int), D d]) := by
  cases c with
  | true => exact W.enumL hm h hg hs he
  | false => exact W.enumU hm h hg hs he
theorem E.nat {i : Int} {n : Nat} (h : E X M Γ e (I i)) (k : i = n) : E X M Γ e (I (n : Int)) := k ▸ h
theorem E.castL {ds' : List PyData} (h : E X M Γ e (L ds)) (k : ds = ds') : E X M Γ e (L ds') := k ▸ h
theorem E.castU {ds' : List PyData} (h : E X M Γ e (U ds)) (k : ds = ds') : E X M Γ e (U ds') := k ▸ h
theorem E.lst0 : E X M Γ (.List [] pos) (L []) := E.lstD .nil
theorem E.tup0 {j : Nat} : E X M Γ (.Tuple [] j pos) (U []) := E.tupD .nil
/-- a for whose target is a pair of typed things -/
theorem B.forP {α : Type} {body rest : List Stmt} {x y : Str} {px py pt : Pos} {kt : Nat} {iter : Expr} {S : List Ty → Prop} {D' : Ends} (i j : Nat) (Of : α → List (Addr × Cn)) (Γf : α → Gm) (Iv : List Ty → Nat → α → Prop) (hw : W X M Γ false (.Tuple [.Name x px, .Name y py] kt pt) iter S)
    (h0 : ∀ Ts, S Ts → ∃ a, Iv Ts 0 a ∧ ∀ σ H, Loc M Γ σ H → Loc { M with own := Of a } (Γf a) σ H)
    (turn : ∀ Ts, S Ts → ∀ n T a, Ts[n]? = some T → Iv Ts n a → ∃ T1 T2, T = tupT [T1, T2] ∧ ∀ b, B X { M with own := Of a, bs := b :: M.bs } (((Γf a).set i (some T1)).set j (some T2)) body { D' with
      nx := fun σ' H' => ∃ a', Iv Ts (n + 1) a' ∧ Loc { M with own := Of a', bs := b :: M.bs } (Γf a') σ' H', ct := fun σ' H' => ∃ a', Iv Ts (n + 1) a' ∧ Loc { M with own := Of a', bs := b :: M.bs } (Γf a') σ' H', bk := wB X rest D' })
    (hd : ∀ Ts, S Ts → ∀ a, Iv Ts Ts.length a → B X { M with own := Of a } (Γf a) rest D') (hN : X.N.Nodup) (hi : X.N[i]? = some x := by rfl) (hj : X.N[j]? = some y := by rfl)
    (hp : PassesOwn (model X.prog X.w) X.A X.env X.xe := by exact PassesOwn.never) (hc : X.calm = true := by rfl) (hs : ∀ x, foldedSetIterable iter X.env x = pure x := by intro _; rfl) (hg : PG X (.Tuple [.Name x px, .Name y py] kt pt) (gTup X.K 2 (gCons (gName i) (gCons (gName j) gNil))) := by exact pg_pair (by assumption) (by rfl) (by rfl)) :
    B X M Γ (.For (.Tuple [.Name x px, .Name y py] kt pt) iter body [] pos :: rest) D' :=
  B.forA Of Γf Iv hw hg h0 (fun Ts hS n T a hT iv => by
    obtain ⟨T1, T2, rfl, k⟩ := turn Ts hS n T a hT iv
    exact ⟨[i, j], _, Tg.pairT (by simp) (by simp), k⟩) hd hp hc hs
/-- a for over data -/
theorem B.forN {α : Type} {body rest : List Stmt} {x : Str} {px : Pos} {iter : Expr} {D' : Ends} (i : Nat) (Of : α → List (Addr × Cn)) (Γf : α → Gm) (Iv : Nat → α → Prop) (hw : W X M Γ false (.Name x px) iter (· = ds.map D))
    (h0 : ∃ a, Iv 0 a ∧ ∀ σ H, Loc M Γ σ H → Loc { M with own := Of a } (Γf a) σ H)
    (turn : ∀ n d a, ds[n]? = some d → Iv n a → ∀ b, B X { M with own := Of a, bs := b :: M.bs } ((Γf a).set i (some (D d))) body { D' with
      nx := fun σ' H' => ∃ a', Iv (n + 1) a' ∧ Loc { M with own := Of a', bs := b :: M.bs } (Γf a') σ' H', ct := fun σ' H' => ∃ a', Iv (n + 1) a' ∧ Loc { M with own := Of a', bs := b :: M.bs } (Γf a') σ' H', bk := wB X rest D' })
    (hd : ∀ a, Iv ds.length a → B X { M with own := Of a } (Γf a) rest D') (hN : X.N.Nodup) (hi : X.N[i]? = some x := by rfl) (hx : L2.Loc X.env.scope x := by first | exact Or.inl rfl | exact Or.inr rfl) (hf : X.fn x = true ∨ X.env.scope.names.lookup x = some .local := by first | exact .inl rfl | exact .inr rfl)
    (hp : PassesOwn (model X.prog X.w) X.A X.env X.xe := by exact PassesOwn.never) (hc : X.calm = true := by rfl) (hs : ∀ x, foldedSetIterable iter X.env x = pure x := by intro _; rfl) :
    B X M Γ (.For (.Name x px) iter body [] pos :: rest) D' :=
  B.forA Of Γf (fun _ => Iv) hw (pg_name hN hi hx hf) (fun _ _ => h0) (fun Ts hS n T a hT iv => by
    subst hS
    obtain ⟨d, hd, rfl⟩ := get_D hT
    exact ⟨[i], _, Tg.name (by simp), turn n d a hd iv⟩) (fun Ts hS a iv => by
    subst hS
    rw [List.length_map] at iv
    exact hd a iv) hp hc hs
end
end HB


namespace HB
open PySem L2 PyProof.Rows PySem.Spec

def rItems : V → Hp → VK → Prop := fun x H Q => ∃ (d : Addr) (kvs : List (Key × V)), x = .ref d ∧ H d = some (.dK kvs) ∧
  ∀ (H' : Hp) (p : Addr) (ts : List Addr), (∀ b o, H b = some o → H' b = some o) → (∀ b o u, H' b = some (.frz o u) → H b = some (.frz o u)) → H p = none → (∀ t ∈ ts, H t = none) → H' p = some (.lst (ts.map V.ref)) → Paired (fun (t : Addr) (q : Key × V) => H' t = some (.tup [kV q.1, q.2])) ts kvs → Q (.ref p) H'
section
variable {e : Expr} {X : Cx} {te : TE} {p apos cpos pos : Pos}
theorem pairs_new {pins : List (Addr × Obj)} {σ : L2.St} {H : Hp} {s : Shared} {h' : Heap} {tk c : Nat} {kvs : List (Key × V)} {vs : List (Key × Value)} {acc : Array Value} {as : List Addr} (I : Inv X pins σ H s) (small : kvs.length ≤ sizeLine) (kv : KV kvs vs) (old : ∀ b o, s.heap.get? b = some o → h'.get? b = some o)
    (lst : h'.get? s.heap.objs.size = some { cls := .type "list", dict := none, data := .seq acc c, slots := #[] }) (len : as.length = vs.length) (G : PySem.W.KdxG (mixKind X.prog X.w) vs s.heap.objs.size h' as) (eacc : acc.toList = as.map Value.ref) :
    ∃ H' : Hp, ((∀ b o, H b = some o → H' b = some o) ∧ ∀ b o u, H' b = some (.frz o u) → H b = some (.frz o u)) ∧ (H s.heap.objs.size = none ∧ ∀ t ∈ as, H t = none) ∧ H' s.heap.objs.size = some (.lst (as.map V.ref)) ∧ Paired (fun (t : Addr) (q : Key × V) => H' t = some (.tup [kV q.1, q.2])) as kvs ∧ Inv X pins σ H' { s with heap := h', toks := tk } := by
  let N := s.heap.objs.size
  have out : N ∉ as := fun z => Nat.lt_irrefl _ (G.above _ z)
  have fr : ∀ t ∈ as, H t = none := fun t ht => I.hok.fresh (Nat.le_of_lt (G.above t ht))
  have fN : H N = none := I.hok.fresh (Nat.le_refl _)
  let H1 : Hp := LiI.putT (upd H N (.lst (as.map V.ref))) as kvs
  have cells := LiI.putT_at as kvs (upd H N (.lst (as.map V.ref))) (len.trans (Paired.length kv).symm) (List.Pairwise.imp (fun {a b} (h : a < b) => Nat.ne_of_lt h) G.rise)
  have else_ : ∀ b, b ∉ as → b ≠ N → H1 b = H b := fun b h1 h2 => (LiI.putT_off as kvs _ h1).trans (upd_ne h2)
  have atN : H1 N = some (.lst (as.map V.ref)) := (LiI.putT_off as kvs _ out).trans upd_same
  have apart : ∀ b u, H b = some u → b ∉ as ∧ b ≠ N := fun b u e => by
    (refine ⟨fun z => ?_, fun z => ?_⟩)
    · rw [fr b z] at e
      cases e
    · rw [z, fN] at e
      cases e
  have stays : ∀ b u, H b = some u → H1 b = some u := fun b u e => (else_ b (apart b u e).1 (apart b u e).2).trans e
  refine ⟨H1, ⟨stays, fun b o u e => ?_⟩, ⟨fN, fr⟩, atN, cells, ?_⟩
  · by_cases h1 : b ∈ as
    · obtain ⟨_, _, _, _, e3⟩ := LiI.paired_ix cells h1
      rw [show H1 b = _ from e3] at e
      cases e
    · by_cases h2 : b = N
      · rw [h2, atN] at e
        cases e
      · rwa [else_ b h1 h2] at e
  · refine I.call' (ch := []) rfl ⟨fun b o q _ _ _ => old b o q, fun b o q _ _ _ => ⟨o.slots, old b o q⟩, fun b o q n _ => ?_, fun b o q _ => ⟨o, old b o q⟩, fun b xs q => stays b _ q, fun b o u q => stays b _ q, fun b ps q => ⟨#[], by rw [stays b _ q]; simp⟩⟩ (fun b u q => ?_) I.bare fun b z => by simp at z
    · have hl := Heap.lt_size q
      exact (else_ b (fun z => absurd hl (Nat.not_lt.mpr (Nat.le_of_lt (G.above b z)))) (Nat.ne_of_lt hl)).trans n
    · by_cases h1 : b ∈ as
      · obtain ⟨j, pk, e1, e2, e3⟩ := LiI.paired_ix cells h1
        rw [show H1 b = _ from e3] at q
        cases q
        obtain ⟨key, k, x, f1, f2, f3⟩ := G.pairs j b e1
        obtain ⟨qv, g1, g2, g3⟩ := LiI.paired_get kv e2
        rw [f1] at g1
        cases g1
        exact ⟨(by decide : 2 ≤ sizeLine), [key, x], .cons (by rw [g2]; exact relV_key (show keyIs k key = true from f2)) (.cons g3 .nil), _, f3, rfl, _, rfl⟩
      · by_cases h2 : b = N
        · rw [h2, atN] at q
          cases q
          subst h2
          refine ⟨by rw [List.length_map, len, ← Paired.length kv]; exact small, acc.toList, c, by rw [eacc]; exact LiI.vals_refs as, ?_⟩
          rw [Array.toArray_toList]
          exact lst
        · rw [else_ b h1 h2] at q
          exact (I.hok b u q).stay (fun d v _ y => old d v y) (fun d y => stays d _ y) fun d xs y => stays d _ y
theorem pe_items2 (hc : X.calm = true) (he : PE X e te) (hg : Gl X "list") (hm : X.mg "list" = none) (hbase : attributeBase e "items" X.env (eval e X.env) = eval e X.env := by rfl) (hline : (ap.endLine == cp.line) = true := by rfl)
    (star1 : starEach [.Call (.Attribute e "items" ap) [] [] cp] X.env = (false, eval (.Call (.Attribute e "items" ap) [] [] cp) X.env) :: starEach [] X.env := by rfl) :
    PE X (.Call (.Name "list" p) [.Call (.Attribute e "items" ap) [] [] cp] [] pos) (fun σ H Q => te σ H fun x H1 => rItems x H1 Q) := by
  refine ⟨fun pins s σ H Q I hq => wpAny_Call_Name_kw (ld_blt I hg hm (show bootBuiltins "list" = some (.type "list") by decide +kernel) (PyProof.Rows.callWith_type1 ?_ star1 rfl))⟩
  rw [star1]
  show wpAny _ _ (spliced ((false, eval (.Call (.Attribute e "items" ap) [] [] cp) X.env) :: backTo pos (starEach [] X.env))) _ _ s
  refine Calls.spliced_cons (wpAny_Call_method (T := "dict") (id := "dict.items") hbase rfl hline F.plainAttrs_dict F.slot_dict_items F.type_dict_items (thn (he.run pins s σ H _ I hq) fun u s1 ⟨x, H1, I1, rel, d, kvs, ex, hd, q⟩ => ?_))
  subst ex
  obtain rfl : u = Value.ref d := rel
  obtain ⟨small, noMod, vs, pairs, dOf⟩ := I1.hok d _ hd
  obtain ⟨ep, dAt⟩ := dOf.dictAt
  have J2 : Inv X pins σ H1 { s1 with heap := s1.heap.push { cls := .type "dict_items", data := .fields #[.ref d] } } := I1.kept (t' := s1.toks) fun b ob q => Heap.get?_push_of_some _ q
  refine ⟨dOf.typeIs, dOf.mapOf.noDict, (?_)⟩
  show wpAny _ _ (callWith cp (Value.builtin "dict.items") [Value.ref d] [] []) _ X.xe s1
  refine method_meetsIn F.slot_dict_items F.entry_dict_items rfl (PySem.evalArgs_none ⟨rfl, dOf.typeIs, F.args_dict_items_1 _, _, meets_dict_items (mixKind X.prog X.w) d noMod, ⟨vs, dOf⟩, Calls.spliced_nil ?_⟩)
  refine PySem.W.kdx_call (knd := mixKind X.prog X.w) (kvs := vs) (ep := ep) (I1.ok.hd hc) ⟨_, Heap.get?_push_size _ rfl, rfl, rfl⟩ (dAt.push _) (by rw [← Paired.length pairs]; exact small) fun h' tk acc c as hk hS hl hG hacc => ?_
  obtain ⟨H', ⟨k1, k2⟩, ⟨k3, k4⟩, k5, k6, J⟩ := pairs_new (tk := tk) J2 small pairs hk hS hl hG hacc
  exact ⟨.ref _, H', J, Eq.refl _, q H' _ as k1 k2 k3 k4 k5 k6⟩
end
def itm (q : Str × Int) : PyData := .tuple [.str q.1, .int q.2]
abbrev Py := List (Str × Int)
def pyk (ps : Py) : List (Key × Ty) := ps.map fun q => (.inr q.1, I q.2)
abbrev payT (ps : Py) : Ty := dictT (pyk ps)
theorem pyk_vals {ex : Ads} {H : Hp} : ∀ {ps : Py} {kvs : List (Key × V)}, Paired (fun (p : Key × Ty) (q : Key × V) => p.1 = q.1 ∧ p.2.P ex q.2 H) (pyk ps) kvs → kvs = ps.map fun q => (.inr q.1, .int q.2)
  | [], _, h => by cases h; rfl
  | q :: ps, _, h => by
    cases h with
    | @cons _ y _ ys a b =>
      obtain ⟨a1, a2⟩ := a
      obtain ⟨k, v⟩ := y
      have a1 : Sum.inr q.1 = k := a1
      subst a1
      cases a2
      rw [pyk_vals b, List.map_cons]
theorem vals_pyk {ex : Ads} {H : Hp} : ∀ ps : Py, Paired (fun (p : Key × Ty) (q : Key × V) => p.1 = q.1 ∧ p.2.P ex q.2 H) (pyk ps) (ps.map fun q => ((.inr q.1, .int q.2) : Key × V))
  | [] => .nil
  | q :: ps => .cons ⟨rfl, .int _⟩ (vals_pyk ps)
theorem putK_new {kvs : List (Key × V)} {k : Key} {v : V} (h : k ∉ kvs.map (·.1)) : putK kvs k v = kvs ++ [(k, v)] := by
  unfold putK
  rw [if_neg]
  intro z
  obtain ⟨q, hq, e⟩ := List.any_eq_true.mp z
  exact h (List.mem_map.mpr ⟨q, hq, by simpa using e⟩)
theorem mergeK_nd : ∀ (more kvs : List (Key × V)), ((kvs ++ more).map (·.1)).Nodup → mergeK kvs more = kvs ++ more
  | [], kvs, _ => by rw [List.append_nil]; rfl
  | q :: more, kvs, h => by
    show mergeK (putK kvs q.1 q.2) more = _
    have nin : q.1 ∉ kvs.map (·.1) := fun z => by
      rw [List.map_append, List.map_cons] at h
      have := (List.nodup_append.mp h).2.2
      exact this _ z _ List.mem_cons_self rfl
    rw [putK_new nin, mergeK_nd more _ (by rw [List.append_assoc]; exact h), List.append_assoc]
    rfl
section
variable {X : Cx} {M : Mx} {Γ : Gm} {e a b : Expr} {T : Ty} {pos p apos cpos : Pos} {ps : Py} {m : Nat}
theorem new_lst {ex : Ads} {H' : Hp} {ts : List Addr} : ∀ {ps : Py}, Paired (fun (t : Addr) (q : Key × V) => H' t = some (.tup [kV q.1, q.2])) ts (ps.map fun q => ((.inr q.1, .int q.2) : Key × V)) → (∀ t ∈ ts, ¬ ex t) → RpAll ex H' (ts.map V.ref) (ps.map itm) := by
  induction ts with
  | nil =>
    intro ps h _
    cases ps with
    | nil => exact .nil
    | cons q ps => cases h
  | cons t ts ih =>
    intro ps h n
    cases ps with
    | nil => cases h
    | cons q ps =>
      cases h with
      | cons h1 h2 => exact .cons (.tup h1 (n t List.mem_cons_self) (.cons (.str _) (.cons (.int _) .nil))) (ih h2 fun t ht => n t (List.mem_cons_of_mem _ ht))
theorem E.items (hm : X.mg "list" = none) (hl : M.lk = []) (h : E X M Γ e (payT ps)) (hc : X.calm = true := by rfl) (hg : Gl X "list" := by rfl) (hbase : attributeBase e "items" X.env (eval e X.env) = eval e X.env := by rfl) (hline : (apos.endLine == cpos.line) = true := by rfl)
    (hs : starEach [.Call (.Attribute e "items" apos) [] [] cpos] X.env = (false, eval (.Call (.Attribute e "items" apos) [] [] cpos) X.env) :: starEach [] X.env := by rfl) : E X M Γ (.Call (.Name "list" p) [.Call (.Attribute e "items" apos) [] [] cpos] [] pos) (L (ps.map itm)) := fun σ H l =>
  wE.of (pe_items2 hc pe_w hg hm hbase hline hs) ((h σ H l).mono fun v H1 ⟨s1, h1⟩ => by
    obtain ⟨d, kvs, rfl, rd, nd, r⟩ := h1
    have w := l.hw.st s1
    obtain rfl := pyk_vals r
    refine ⟨d, _, rfl, w.exact hl rfl rd, fun H' p ts k1 k2 k3 k4 k5 k6 => ?_⟩
    have s2 : St M H1 H' := ⟨fun a o e _ => k1 a o e, fun q hq => by
      obtain ⟨_, o, e, f⟩ := w.ph q hq
      exact ⟨o, k1 _ o e, q.2.fr (.of fun a o e n => ⟨k1 a o e, n⟩) f⟩, k2⟩
    exact ⟨s1.trans s2, .lst k5 (w.fresh k3) (new_lst k6 fun t ht => w.fresh (k4 t ht))⟩)
theorem pairs_refs {X : Cx} {ex : Ads} {H : Hp} : ∀ {ps : Py} {xs : List V}, RpAll ex H xs (ps.map itm) → ∃ ts : List Addr, xs = ts.map V.ref ∧ Paired (fun p kv => SqT X.K H p [kV kv.1, kv.2]) ts (ps.map fun q => ((.inr q.1, .int q.2) : Key × V)) := by
  intro ps
  induction ps with
  | nil => intro xs r; cases r; exact ⟨[], rfl, .nil⟩
  | cons q ps ih =>
    intro xs r
    cases r with
    | cons a b =>
      obtain ⟨ts, e1, e2⟩ := ih b
      have a : Rp ex H _ (.tuple [.str q.1, .int q.2]) := a
      cases a with
      | @tup t ys _ e3 n3 r3 =>
        cases r3 with
        | cons x1 r3 =>
          cases r3 with
          | cons x2 r3 =>
            cases r3
            cases x1
            cases x2
            exact ⟨t :: ts, by rw [e1]; rfl, .cons (SqT.of e3) e2⟩
theorem mergeK_py {ps : Py} (nd : (ps.map (·.1)).Nodup) : mergeK [] (ps.map fun q => ((.inr q.1, .int q.2) : Key × V)) = ps.map fun q => (.inr q.1, .int q.2) := by
  rw [mergeK_nd _ _ ?_, List.nil_append]
  rw [List.nil_append, List.map_map]
  have : ((fun x : Key × V => x.1) ∘ fun q : Str × Int => ((.inr q.1, .int q.2) : Key × V)) = (fun x : Str => (Sum.inr x : Key)) ∘ fun q : Str × Int => q.1 := rfl
  rw [this, ← List.map_map]
  exact List.Pairwise.map _ (fun a b (h : a ≠ b) z => h (Sum.inr.inj z)) nd
/-- dict(pairs) -/
theorem E.dictL (hm : X.mg "dict" = none) (h : E X M Γ e (L (ps.map itm))) (nd : (ps.map (·.1)).Nodup) (hc : X.calm = true := by rfl) (hg : Gl X "dict" := by rfl) (he : starEach [e] X.env = (false, eval e X.env) :: starEach [] X.env := by rfl) : E X M Γ (.Call (.Name "dict" p) [e] [] pos) (payT ps) :=
  E.callT (call_dictP hc) (by decide +kernel) hm (.cons h .nil he) (.one fun v H Q w h k => by
    cases h with
    | @lst c xs _ e n r =>
      obtain ⟨ts, rfl, e2⟩ := pairs_refs (X := X) r
      refine ⟨c, ts, _, rfl, SqL.of e, e2, fun p hp => ?_⟩
      rw [mergeK_py nd]
      have z := w.new (o := .dK (ps.map fun q => ((.inr q.1, .int q.2) : Key × V))) hp
      exact k _ _ z.1 ⟨p, _, rfl, .inl upd_same, z.2, vals_pyk ps⟩) hg (he := he)
end
end HB


namespace HB
open PySem L2 PyProof.Rows PySem.Spec
abbrev KT (ex : Ads) (H : Hp) : (Key × Ty) → (Key × V) → Prop := fun p q => p.1 = q.1 ∧ p.2.P ex q.2 H
section
variable {X : Cx} {M M0 : Mx} {Γ : Gm} {e a b : Expr} {T : Ty} {pos p apos cpos : Pos} {ps : Py} {m : Nat} {kts : List (Key × Ty)} {keys : List (Option Expr)} {vals : List Expr} {rest : List Stmt} {D : Ends} {x : Str}
def trsOf (X : Cx) : List (Option Expr) → List Expr → List (TE × TE)
  | some k :: ks, v :: vs => (wE X k, wE X v) :: trsOf X ks vs
  | _, _ => []
/-- the pairs of a display -/
def PD (X : Cx) (M : Mx) (Γ : Gm) (pos : Pos) (keys : List (Option Expr)) (vals : List Expr) (kts : List (Key × Ty)) : Prop := PPs X pos keys vals (trsOf X keys vals) ∧ ∀ σ H Q, Loc M Γ σ H → (∀ kvs H', St M H H' → Paired (KT M.ex H') kts kvs → Q (kvs.map fun kv => (kV kv.1, kv.2)) H') → tPairs (trsOf X keys vals) σ H Q
theorem PD.nil : PD X M Γ pos [] [] [] := ⟨pps_nil, fun σ H Q l k => k [] H (St.refl l.hw) .nil⟩
theorem KT.mono {ex ex' : Ads} {H H' : Hp} (k : Kp ex ex' H H') {kvs : List (Key × V)} (h : Paired (KT ex H) kts kvs) : Paired (KT ex' H') kts kvs := Paired.mapP h fun T x q => ⟨q.1, T.2.fr k q.2⟩
theorem PD.cons {j : Nat} {p2 : Pos} (h : E X M Γ e T) (r : PD X M Γ pos keys vals kts) : PD X M Γ pos (some (.Constant (.str x) j p2) :: keys) (e :: vals) ((.inr x, T) :: kts) := by
  obtain ⟨q1, q2⟩ := r
  refine ⟨pps_cons (tk := wE X (.Constant (.str x) j p2)) pe_w pe_w q1, fun σ H Q l k => ?_⟩
  refine (E.str (M := M) (Γ := Γ) σ H l).mono fun v H1 ⟨s1, h1⟩ => ?_
  cases h1
  refine (h σ H1 (l.st s1)).mono fun u H2 ⟨s2, h2⟩ => ?_
  refine q2 σ H2 _ ((l.st s1).st s2) fun kvs H3 s3 h3 => ?_
  exact k ((.inr x, u) :: kvs) H3 ((s1.trans s2).trans s3) (.cons ⟨rfl, T.fr (s3.kp ((l.hw.st s1).st s2)) h2⟩ h3)
theorem kts_keys {ex : Ads} {H : Hp} : ∀ {kts : List (Key × Ty)} {kvs : List (Key × V)}, Paired (KT ex H) kts kvs → kvs.map (·.1) = kts.map (·.1)
  | _, _, .nil => rfl
  | _, _, .cons a b => by rw [List.map_cons, List.map_cons, kts_keys b, a.1]
/-- a display, as a new dict -/
theorem E.disp (h : ∀ q, PD X (M.add q (cnK [])) Γ pos keys vals kts) (nd : (kts.map (·.1)).Nodup) (hall : keys.all (·.isSome) = true := by rfl) (hl : keys.length = vals.length := by rfl) (h0 : keys ≠ [] := by simp) (h15 : keys.length ≤ 15 := by decide) (hz : kts.length ≤ 15 := by simp) : E X M Γ (.Dict keys vals pos) (dictT kts) := fun σ H l => by
  refine wE.of (pe_disp (h 0).1 hall hl h0 h15) fun q hq => ?_
  obtain ⟨s0, nq⟩ := l.hw.new (o := .dK []) hq
  refine (h q).2 σ _ _ (l.own_new (c := cnK []) hq (fun _ _ z => by cases z) ⟨[], rfl, .nil⟩) fun kvs H2 s2 hk => ?_
  have l2 := (l.own_new (c := cnK []) (o := .dK []) hq (fun _ _ z => by cases z) ⟨[], rfl, .nil⟩).st s2
  obtain ⟨o, e, kv0, eo, hn⟩ := l2.own_at (p := q) (c := cnK []) List.mem_cons_self
  cases hn
  subst eo
  refine ⟨e, kvs, rfl, by rw [← prd_len hk]; exact hz, ?_⟩
  have ek := kts_keys hk
  rw [mergeK_nd _ _ (by rw [List.nil_append, ek]; exact nd), List.nil_append]
  have s1 : St M H H2 := s0.trans (St.of (M := M.add q (cnK [])) rfl kp_drop s2)
  have phq : ∀ r ∈ M.ph, r.1 ≠ q := fun r hr z => nq (z ▸ (l.hw.ph r hr).1)
  refine ⟨⟨fun c o e n => ?_, fun r hr => ?_, fun c o u e => s1.nf c o u (nf_upd (fun _ _ z => by cases z) e)⟩, q, kvs, rfl, .inl upd_same, nq, KT.mono (.of fun c o e n => ?_) hk⟩
  · rw [upd_ne (ne_of_none e hq)]
    exact s1.keep c o e n
  · obtain ⟨o, e, f⟩ := s2.ph r hr
    exact ⟨o, by rw [upd_ne (phq r hr)]; exact e, r.2.fr ((kp_upd (M := M.add q (cnK [])) (v' := q) (show M.ex q ∨ q = q from .inr rfl)).trans kp_drop) f⟩
  · have n1 : c ≠ q := fun z => n (.inr z)
    exact ⟨by rw [upd_ne n1]; exact e, fun z => n (.inl z)⟩
/-- dict(pairs), as a dict of one's own -/
theorem EF.dictL (hm : X.mg "dict" = none) (h : E X M Γ e (L (ps.map itm))) (nd : (ps.map (·.1)).Nodup) (hc : X.calm = true := by rfl) (hg : Gl X "dict" := by rfl) (he : starEach [e] X.env = (false, eval e X.env) :: starEach [] X.env := by rfl) : EF X M Γ (.Call (.Name "dict" p) [e] [] pos) (cnK (pyk ps)) := fun σ H l =>
  wE.of (pe_callTy (call_dictP hc) hg hm (by decide +kernel) (pa_cons pe_w pa_nil he) (by decide) (by decide) he rfl) ((h σ H l).mono fun v H1 ⟨s1, h1⟩ => by
    cases h1 with
    | @lst c xs _ e n r =>
      obtain ⟨ts, rfl, e2⟩ := pairs_refs (X := X) r
      refine ⟨c, ts, _, rfl, SqL.of e, e2, fun p hp => ?_⟩
      rw [mergeK_py nd]
      exact ⟨p, H1, _, rfl, s1, hp, fun _ _ z => (by cases z), rfl, _, rfl, vals_pyk ps⟩)
theorem valV_py {ps : Py} {x : Str} (h : x ∈ ps.map (·.1)) : valV (ps.map fun q => ((.inr q.1, .int q.2) : Key × V)) (.inr x) = some (.int ((ps.lookup x).getD 0)) := by
  induction ps with
  | nil => cases h
  | cons q ps ih =>
    rw [List.lookup_cons]
    by_cases e : q.1 = x
    · subst e
      simp [valV]
    · have e1 : (x == q.1) = false := by simpa using fun z : x = q.1 => e z.symm
      rw [e1]
      rw [List.map_cons] at h
      (rcases List.mem_cons.mp h with z | z)
      · exact absurd z.symm e
      · rw [← ih z]
        have e2 : ¬ ((Sum.inr q.1 : Key) = .inr x) := fun z => e (Sum.inr.inj z)
        simp [valV, List.find?_cons, e2]
def setP (ps : Py) (x : Str) (i : Int) : Py := ps.map fun q => if q.1 = x then (q.1, i) else q
theorem setP_keys (ps : Py) (x : Str) (i : Int) : (setP ps x i).map (·.1) = ps.map (·.1) := by
  unfold setP
  rw [List.map_map]
  apply List.map_congr_left
  intro q _
  show (if q.1 = x then (q.1, i) else q).1 = q.1
  split <;> rfl
theorem putK_py {ps : Py} {x : Str} {i : Int} (h : x ∈ ps.map (·.1)) : putK (ps.map fun q => ((.inr q.1, .int q.2) : Key × V)) (.inr x) (.int i) = (setP ps x i).map fun q => (.inr q.1, .int q.2) := by
  unfold putK
  rw [if_pos]
  · unfold setP
    (rw [List.map_map, List.map_map])
    apply List.map_congr_left
    intro q _
    by_cases e : q.1 = x
    · simp [e]
    · have e2 : ¬ ((Sum.inr q.1 : Key) = .inr x) := fun z => e (Sum.inr.inj z)
      simp [e, e2]
  · (obtain ⟨q, hq, e⟩ := List.mem_map.mp h)
    exact List.any_eq_true.mpr ⟨(.inr q.1, .int q.2), List.mem_map.mpr ⟨q, hq, rfl⟩, by simp [e]⟩
theorem E.payOwn {q : Addr} {y : Str} (hu : X.A.units + 1 < cLine) (ha : E X M Γ a (Ty.is (.ref q))) (hq : (q, cnK (pyk ps)) ∈ M.own) (hb : E X M Γ b (S_ y)) (hy : y ∈ ps.map (·.1)) (hs : NoSl b := by exact fun _ _ => rfl) : E X M Γ (.Subscript a b pos) (I ((ps.lookup y).getD 0)) := fun σ H l =>
  wE.of (pe_dget hu pe_w pe_w hs) ((ha σ H l).mono fun v H1 ⟨s1, h1⟩ => (hb σ H1 (l.st s1)).mono fun u H2 ⟨s2, h2⟩ => by
    cases h1
    cases h2
    obtain ⟨o, e, kvs, rfl, r⟩ := ((l.st s1).st s2).own_at hq
    obtain rfl := pyk_vals r
    refine ⟨q, _, rfl, ?_, s1.trans s2, .int _⟩
    have := DGet.k (k := .inr y) e
    rw [valV_py hy] at this
    exact this)
/-- d[x] = i, x a key -/
theorem B.payPut {q : Addr} {y : Str} {i : Int} {tp : Pos} (hu : X.A.units + 1 < cLine) (ha : E X M Γ a (Ty.is (.ref q))) (hq : (q, cnK (pyk ps)) ∈ M.own) (hb : E X M Γ b (S_ y)) (hy : y ∈ ps.map (·.1)) (hz : ps.length ≤ 1000) (he : E X M Γ e (I i)) (h : B X { M with own := setO M.own q (cnK (pyk (setP ps y i))) } Γ rest D)
    (hs : swapsWith e (some (.Subscript a b tp)) pos.line X.env = pure false := by rfl) : B X M Γ (.Assign [.Subscript a b tp] e pos :: rest) D :=
  .ps (ps_dput hu pe_w pe_w pe_w hs) fun σ H l => (he σ H l).mono fun v H1 ⟨s1, h1⟩ => (ha σ H1 (l.st s1)).mono fun u H2 ⟨s2, h2⟩ => (hb σ H2 ((l.st s1).st s2)).mono fun z H3 ⟨s3, h3⟩ => by
    cases h1
    cases h2
    cases h3
    have l3 := ((l.st s1).st s2).st s3
    obtain ⟨o, e, kvs, rfl, r⟩ := l3.own_at hq
    obtain rfl := pyk_vals r
    have pt := DPut.k (k := .inr y) (v := .int i) e (by rw [List.length_map]; exact Nat.lt_of_le_of_lt hz (by decide))
    rw [putK_py hy] at pt
    exact ⟨q, _, rfl, pt, h σ _ (l3.own_set hq (fun _ _ z => by cases z) ⟨_, rfl, vals_pyk _⟩)⟩
/-- a dict of one's own becomes a value like any other -/
theorem B.dropK {q : Addr} (i : Nat) (hx : ¬ M.ex q) (hb : ∀ b ∈ M.bs, b q = none) (hi : Γ[i]? = some (some (Ty.is (.ref q)))) (h : B X M (Γ.set i (some (dictT kts))) rest D) : B X (M.add q (cnK kts)) Γ rest D := fun σ H l => by
  obtain ⟨o, e, kvs, rfl, r⟩ := l.own_at (p := q) (c := cnK kts) List.mem_cons_self
  obtain ⟨v, ev, hv⟩ := l.var i _ hi
  have hv : v = .ref q := hv
  subst hv
  have l1 := (l.own_drop hx hb).set (i := i) (T := dictT kts) (v := .ref q) ⟨q, kvs, rfl, .inl e, hx, KT.mono kp_drop r⟩
  have es : σ.set i (some (.ref q)) = σ := by
    apply List.ext_getElem?
    intro j
    by_cases hj : i = j
    · subst hj
      obtain ⟨hl, _⟩ := List.getElem?_eq_some_iff.mp ev
      rw [List.getElem?_set_self hl, ev]
    · rw [List.getElem?_set_ne hj]
  rw [es] at l1
  exact h σ H l1
theorem valV_find {ex : Ads} {H : Hp} {k : Key} {kts : List (Key × Ty)} {kvs : List (Key × V)} (h : Paired (KT ex H) kts kvs) : (valV kvs k).isSome = kts.any fun q => decide (q.1 = k) := by
  have ek := kts_keys h
  have ea : (kts.any fun q => decide (q.1 = k)) = (kts.map (·.1)).any fun q => decide (q = k) := by rw [List.any_map]; rfl
  rw [ea, ← ek]
  clear h ek ea
  induction kvs with
  | nil => simp [valV]
  | cons q kvs ih =>
    by_cases e : q.1 = k
    · simp [valV, List.find?_cons, e]
    · have : valV (q :: kvs) k = valV kvs k := by simp [valV, List.find?_cons, e]
      rw [this, ih]
      simp [e]
theorem E.inK (hu : X.A.units + 1 < cLine) (ha : E X M Γ a (S_ x)) (hb : E X M Γ b (dictT kts)) (hm : behindInMarks .In b = false := by rfl) : E X M Γ (.Compare a [.In] [b] pos) (Bo (kts.any fun q => decide (q.1 = .inr x))) := fun σ H l =>
  wE.of (pe_cmp (pc_din hu pe_w pe_w) hm) ((ha σ H l).mono fun v H1 ⟨s1, h1⟩ => (hb σ H1 (l.st s1)).mono fun u H2 ⟨s2, h2⟩ => by
    cases h1
    obtain ⟨q, kvs, rfl, rd, n, r⟩ := h2
    refine ⟨q, valV kvs (.inr x), rfl, .inl ⟨kvs, .inr x, rd, rfl, rfl⟩, s1.trans s2, ?_⟩
    rw [valV_find r]
    exact .bl _)
end
end HB


namespace HB
open PySem L2 PyProof.Rows PySem.Spec
def biTab : List Str := ["abs", "all", "any", "dict", "enumerate", "int", "isinstance", "len", "list", "max", "min", "next", "range", "repr", "set", "sorted", "str", "sum", "tuple", "zip", "bool"]
structure Gs (K : PySem.W.Frag) (mg : Str → Option Value) : Prop where
  bi' : ∀ x ∈ biTab, mg x = none
  df' : ∀ q ∈ fnTab, Df K mg q.1 (top q.2)
theorem Gs.bi {K : PySem.W.Frag} {mg : Str → Option Value} (g : Gs K mg) (x : Str) (h : x ∈ biTab := by decide +kernel) : mg x = none := g.bi' x h
theorem Gs.df {K : PySem.W.Frag} {mg : Str → Option Value} (g : Gs K mg) (x : Str) (i : Nat) (h : (x, i) ∈ fnTab := by decide +kernel) : Df K mg x (top i) := g.df' (x, i) h
abbrev G (g : List Str) : Ty := U (g.map .str)
section
variable {w : World} {P : Program} {K : PySem.W.Frag} {mg : Str → Option Value} {base : Heap}

def pm_stir : Pm (Addr × Nat) where
  pre := fun q => 0 < q.2 ∧ q.2 ≤ 10 ^ 18
  req := fun q => [(q.1, PotOk)]
  args := fun q => [Ty.is (.ref q.1), I (q.2 : Int)]
  res := fun q => Ns (· < q.2)
theorem divW_of {n : Nat} (h : 0 < n) (h2 : n ≤ 10 ^ 18) (i : Int) : CDivW i (n : Int) := by
  refine ⟨by omega, ?_⟩
  rw [Int.natAbs_natCast]
  refine Nat.lt_of_lt_of_le ((Nat.log2_lt (by omega)).mpr (Nat.lt_of_le_of_lt h2 (show 10 ^ 18 < 2 ^ 60 by decide))) (by decide)
theorem cmul_l {i j : Int} (h : -(2 ^ 64) < i ∧ i < 2 ^ 64) : CMul i j := .inl h
theorem cmul_r {i j : Int} (h : -(2 ^ 64) < j ∧ j < 2 ^ 64) : CMul i j := .inr h
theorem mod_in {i m : Int} (h : 0 < m) (h2 : m ≤ 2 ^ 62) : -(2 ^ 64) < i % m ∧ i % m < 2 ^ 64 := by
  have h1 := Int.emod_nonneg i (show m ≠ 0 by omega)
  have h3 := Int.emod_lt_of_pos i h
  omega
theorem ok_stir (g : Gs K mg) : Ok P w K mg base 1 "_law_stir" ["_law_pot_here", "_law_total"] pm_stir := by
  refine Ok.of (k := 0) (g.df _ 62) sc_stir (fun _ => rfl) (fun _ _ _ _ _ _ us hl => match us, hl with | [_, _], _ => rfl) fun ⟨q, n⟩ f cdv A outer s H Ex ex lk D hp hlk hr hR hn => ?_
  obtain ⟨hp1, hp2⟩ := hp
  have hp1 : 0 < n := hp1
  have hp2 : n ≤ 10 ^ 18 := hp2
  have pos_ : ∀ j : Int, j = (n : Int) → 0 < j := fun j e => by omega
  have out : ∀ i : Int, (∃ i', True ∧ ∃ j, j = (n : Int) ∧ i = i' % j) → ∃ m : Nat, m < n ∧ i = m := fun i ⟨i', _, j, e, e2⟩ => by
    subst e
    have h1 := Int.emod_nonneg i' (show (n : Int) ≠ 0 by omega)
    have h3 := Int.emod_lt_of_pos i' (show 0 < (n : Int) by omega)
    exact ⟨i.toNat, by omega, by omega⟩
  refine B.ite (C.cmps op_gt (E.pot (i := 0) (E.var 0) E.int) (E.ex 0 E.int)) (fun _ => ?_) fun _ => B.skip ?_
  · refine B.asgS 2 ((E.mods (E.ints (g.bi "int") (E.pot (i := 0) (E.var 0) E.int)) (E.ex (n : Int) (E.var 1)) pos_).nN out) (fun k hk => ?_) sc_stir.nd
    refine B.pot (i := 0) (E.var 0) E.int (E.divs (E.pot (i := 0) (E.var 0) E.int) (E.ex (n : Int) (E.var 1)) fun i _ j e => e ▸ divW_of hp1 hp2 i) ?_
    exact B.ret hR (Le.refl _) ((E.var (T := I (k : Int)) 2).imp fun _ _ _ z => ⟨k, hk, z⟩)
  · refine B.pot (i := 2) (E.var 0) E.int (E.adds (E.pot (i := 2) (E.var 0) E.int) (E.ex 1 E.int)) ?_
    refine B.asgS 3 (E.mods (E.ints (g.bi "int") (E.adds (E.pot (i := 1) (E.var 0) E.int) (E.muls (E.ex _ E.int) (E.pot (i := 2) (E.var 0) E.int) fun i e j _ => cmul_l (by subst e; decide)))) (E.ex _ E.int) fun j e => by subst e; decide) (fun one h1 => ?_) sc_stir.nd
    have h1 : -(2 ^ 64) < one ∧ one < 2 ^ 64 := by
      obtain ⟨i, _, j, e, e2⟩ := h1
      subst e; subst e2
      exact mod_in (by decide) (by decide)
    refine B.asgS 4 (E.adds (E.muls (E.mods (E.ints (g.bi "int") (E.muls (E.ex one (E.var 3)) (E.ex one (E.var 3)) fun i e j _ => cmul_l (by subst e; exact h1))) (E.ex _ E.int) fun j e => by subst e; decide) (E.ex one (E.var 3)) fun i _ j e => cmul_r (by subst e; exact h1)) (E.muls (E.ex _ E.int) (E.pot (i := 2) (E.var 0) E.int) fun i e j _ => cmul_l (by subst e; decide))) (fun two h2 => ?_) sc_stir.nd
    refine B.ret hR (Le.refl _) (((E.mods (S := fun _ => True) ((E.ints (g.bi "int") (E.divs (E.mods (E.ints (g.bi "int") (E.ex two (E.var 4))) (E.ex _ E.int) fun j e => by subst e; decide) (E.ex _ E.int) fun i _ j e => by subst e; exact divW_of (n := 16384) (by decide) (by decide) i)).wk fun _ _ => trivial) (E.ex (n : Int) (E.var 1)) pos_).nN out))
end
end HB


namespace HB
open PySem L2 PyProof.Rows PySem.Spec
section
variable {w : World} {P : Program} {K : PySem.W.Frag} {mg : Str → Option Value} {base : Heap}
theorem E.lenQ {X : Cx} {M : Mx} {Γ : Gm} {e : Expr} {pos p : Pos} {b : Bool} {ds : List PyData} (hm : X.mg "len" = none) (h : E X M Γ e (sq b ds)) (hg : Gl X "len" := by rfl) (he : starEach [e] X.env = (false, eval e X.env) :: starEach [] X.env := by rfl) : E X M Γ (.Call (.Name "len" p) [e] [] pos) (I (ds.length : Int)) := by
  cases b with
  | true => exact E.lenL hm h hg he
  | false => exact E.lenU hm h hg he
theorem E.listQ {X : Cx} {M : Mx} {Γ : Gm} {e : Expr} {pos p : Pos} {b : Bool} {ds : List PyData} (hm : X.mg "list" = none) (h : E X M Γ e (sq b ds)) (hg : Gl X "list" := by rfl) (he : starEach [e] X.env = (false, eval e X.env) :: starEach [] X.env := by rfl) : E X M Γ (.Call (.Name "list" p) [e] [] pos) (L ds) := by
  cases b with
  | true => exact E.listL hm h hg he
  | false => exact E.listU hm h hg he
theorem E.stir {X : Cx} {M : Mx} {Γ : Gm} {e1 e2 : Expr} {pos pn : Pos} {q : Addr} {m : Nat} (g : Gs X.K X.mg) (hr : Room m X.A) (n : Nat) (h1 : E X M Γ e1 (Ty.is (.ref q))) (h2 : E X M Γ e2 (I (n : Int))) (hp1 : 0 < n := by decide) (hp2 : n ≤ 10 ^ 18 := by decide) (hnm : 1 ≤ m := by decide) (hq : ∀ z ∈ [(q, PotOk)], z ∈ M.ph := by intro _ z; exact z)
    (hg : Gl X "_law_stir" := by rfl) (s1 : starEach [e1, e2] X.env = (false, eval e1 X.env) :: starEach [e2] X.env := by rfl) (s2 : starEach [e2] X.env = (false, eval e2 X.env) :: starEach [] X.env := by rfl) (hpl : (backTo pos (starEach [e2] X.env)).any (·.1) = false := by rfl) :
    E X M Γ (.Call (.Name "_law_stir" pn) [e1, e2] [] pos) (Ns (· < n)) := E.ok (ok_stir g) hr (q, n) ⟨hp1, hp2⟩ (.cons h1 (.cons h2 .nil s2) s1) hnm hq (hg := hg) (he := s1) (hpl := hpl)
def pm_one_of : Pm (Addr × List PyData) where
  pre := fun q => 0 < q.2.length ∧ q.2.length ≤ 100000
  req := fun q => [(q.1, PotOk)]
  args := fun q => [Ty.is (.ref q.1), L q.2]
  res := fun q => .some (· ∈ q.2) D
theorem ok_one_of (g : Gs K mg) : Ok P w K mg base 2 "_law_one_of" ["_law_pot_here", "_law_items"] pm_one_of := by
  refine Ok.of (k := 1) (g.df _ 63) sc_one_of (fun _ => rfl) (fun _ _ _ _ _ _ us hl => match us, hl with | [_, _], _ => rfl) fun ⟨q, ds⟩ f cdv A outer s H Ex ex lk D hp hlk hr hR hn => ?_
  obtain ⟨hp1, hp2⟩ := hp
  exact B.ret hR (Le.refl _) (E.ixLs (E.var 1) (E.stir g hr ds.length (E.var 0) (E.lenL (g.bi "len") (E.var 1)) hp1 (Nat.le_trans hp2 (by decide))).Nn fun i ⟨j, hj, e⟩ => ⟨j, e, hj⟩)
def pm_some_of : Pm (Addr × Bool × List PyData) where
  pre := fun q => q.2.2.length ≤ 100000
  req := fun q => [(q.1, PotOk)]
  args := fun q => [Ty.is (.ref q.1), sq q.2.1 q.2.2]
  res := fun q => .some (·.Sublist q.2.2) U
theorem ok_some_of (g : Gs K mg) : Ok P w K mg base 2 "_law_some_of" ["_law_pot_here", "_law_items"] pm_some_of := by
  refine Ok.of (k := 1) (g.df _ 65) sc_some_of (fun _ => rfl) (fun _ _ _ _ _ _ us hl => match us, hl with | [_, _], _ => rfl) fun ⟨q, b, ds⟩ f cdv A outer s H Ex ex lk D hp hlk hr hR hn => ?_
  refine B.ret hR (Le.refl _) ?_
  have e1 : (ds.map _root_.id) = ds := List.map_id ds
  refine E.callT call_tuple_of (by decide +kernel) (g.bi "tuple") (.cons ((E.lcS (enc := _root_.id) (S := fun _ _ => True) _root_.id 2 (by rw [List.map_id]; exact W.seq (E.var 1)) [("_law_one", 2)] (fun a ha p acc s H0 A cl fp => ?_) (fun a ha z p acc s H0 A cl fp => E.var 2) hp (blkOk_by (N := N_some_of) (sc := defScope s_some_of) (by decide +kernel)) sc_some_of.nd)) .nil) (.one_some fun ys hys => .out ys hys.1 (.one fun v H Q w h k => ?_))
  · refine (C.eqs (S := fun _ => True) ((E.stir g hr 2 (E.var 0) E.int).Nn.wk fun _ _ => trivial) (E.ex 0 E.int)).imp fun _ _ => trivial
  · rw [List.map_id] at h
    cases h with
    | lst e n r =>
      refine ⟨_, _, rfl, .inl ⟨SqL.of e, fun q hq => ?_⟩⟩
      obtain ⟨s, np⟩ := w.new (o := .tup _) hq
      exact k _ _ s (.tup upd_same np (r.fr (s.kp w)))
def pm_shuffled : Pm (Addr × Bool × List PyData) where
  pre := fun q => q.2.2.length ≤ 100000
  req := fun q => [(q.1, PotOk)]
  args := fun q => [Ty.is (.ref q.1), sq q.2.1 q.2.2]
  res := fun q => .some (·.Perm q.2.2) L
theorem EF.listQ {X : Cx} {M : Mx} {Γ : Gm} {e : Expr} {pos p : Pos} {b : Bool} {ds : List PyData} (hm : X.mg "list" = none) (h : E X M Γ e (sq b ds)) (hg : Gl X "list" := by rfl) (he : starEach [e] X.env = (false, eval e X.env) :: starEach [] X.env := by rfl) : EF X M Γ (.Call (.Name "list" p) [e] [] pos) (cnL ds) := fun σ H l =>
  wE.of (pe_callTy call_list_of hg hm (by decide +kernel) (pa_cons pe_w pa_nil he) (by decide) (by decide) he rfl) ((h σ H l).mono fun v H1 ⟨s1, h1⟩ => by
    cases b with
    | true =>
      cases h1 with
      | lst e n r => exact ⟨_, _, rfl, .inl (SqL.of e), fun q hq => ⟨q, H1, _, rfl, s1, hq, fun _ _ z => (by cases z), rfl, _, rfl, r.fr (kp_add hq)⟩⟩
    | false =>
      cases h1 with
      | tup e n r => exact ⟨_, _, rfl, .inr (SqT.of e), fun q hq => ⟨q, H1, _, rfl, s1, hq, fun _ _ z => (by cases z), rfl, _, rfl, r.fr (kp_add hq)⟩⟩)
theorem perm_pick {α : Type} {xs : List α} {k : Nat} {d : α} (h : xs[k]? = some d) : (d :: xs.eraseIdx k).Perm xs := by
  induction xs generalizing k with
  | nil => simp at h
  | cons x xs ih =>
    cases k with
    | zero => simp at h; subst h; simp
    | succ k =>
      rw [List.eraseIdx_cons_succ]
      exact (List.Perm.swap _ _ _).trans (List.Perm.cons x (ih (by simpa using h)))
theorem setO_one {p : Addr} {c c' : Cn} : setO [(p, c)] p c' = [(p, c')] := by
  unfold setO
  rw [if_pos rfl]
theorem setO_skip {p q : Addr} {c d : Cn} {r : List (Addr × Cn)} (h : q ≠ p) : setO ((q, d) :: r) p c = (q, d) :: setO r p c := by
  conv => lhs; unfold setO
  rw [if_neg h]
theorem ok_shuffled (g : Gs K mg) : Ok P w K mg base 2 "_law_shuffled" ["_law_pot_here", "_law_items"] pm_shuffled := by
  refine Ok.of (k := 1) (g.df _ 64) sc_shuffled (fun _ => rfl) (fun _ _ _ _ _ _ us hl => match us, hl with | [_, _], _ => rfl) fun ⟨q, b, ds⟩ f cdv A outer s H Ex ex lk D hp hlk hr hR hn => ?_
  have hp : ds.length ≤ 100000 := hp
  refine B.new 2 (EF.listQ (ds := ds) (b := b) (g.bi "list") (E.var 1)) (fun p np nb => ?_) sc_shuffled.nd
  refine .ps (ps_ret pe_w) fun σ H1 l => ?_
  refine wE.lcO (g := gName 3) (own := [("_law_turn", 3)]) (fun ws : List PyData => [(p, cnL ws)]) (fun _ i ws acc => (acc ++ ws).Perm ds ∧ acc.length = i) l (W.range1 (S := (· = ds.length)) (g.bi "range") (E.ex ds.length (E.lenQ (b := b) (g.bi "len") (E.var 1))) (fun n e => e ▸ hp)) (fun s H A cl fp => pg_name sc_shuffled.nd rfl (.inl rfl) (.inr rfl))
    (fun Ts _ => ⟨ds, ⟨List.Perm.refl _, rfl⟩, rfl⟩) (fun Ts ⟨n, e, e2⟩ => by rw [e2, e]; simpa [rgT] using hp) (fun Ts ⟨n, e, e2⟩ i T ws acc hT ⟨iv1, iv2⟩ => ?_) (fun Ts ws acc p' H' ⟨n, e, e2⟩ ⟨iv1, iv2⟩ loc r => ?_) (blkOk_by (N := N_shuffled) (sc := defScope s_shuffled) (by decide +kernel)) sc_shuffled.nd
  · subst e; subst e2
    obtain ⟨rfl, hi⟩ := rgT_get hT
    refine ⟨_, Tg.name (by decide), fun D b' σ' H' s H0 A' cl fp loc => ?_⟩
    have len := iv1.length_eq
    rw [List.length_append] at len
    have hne : D ≠ p := fun z => by
      have nd := loc.hw.nd
      have nd : (D :: p :: []).Nodup := nd
      rw [z] at nd
      simp at nd
    refine (wE.pop (p := p) (ds := ws) loc (E.var 2) (List.mem_cons_of_mem _ List.mem_cons_self) ?_ (by omega)).mono fun y H4 ⟨k, d, hk, loc4, hd⟩ => ?_
    · exact E.stir g hr ws.length (E.var 0) (E.lenOwn (ws := ws) (g.bi "len") (E.var 2) (List.mem_cons_of_mem _ List.mem_cons_self)) (by omega) (by omega)
    · refine ⟨ws.eraseIdx k, d, ⟨?_, by rw [List.length_append, iv2]; rfl⟩, ?_, hd⟩
      · rw [List.append_assoc]
        exact (List.Perm.append_left acc (perm_pick hk)).trans iv1
      · have e : setO ((D, cnL acc) :: [(p, cnL ws)]) p (cnL (ws.eraseIdx k)) = (D, cnL acc) :: [(p, cnL (ws.eraseIdx k))] := by rw [setO_skip hne, setO_one]
        have l5 := loc4
        simp only [Mx.wo, Mx.add] at l5 ⊢
        rw [e] at l5
        exact l5.hw
  · subst e; subst e2
    have len := iv1.length_eq
    rw [List.length_append, iv2] at len
    have e0 : ws = [] := by
      (apply List.eq_nil_of_length_eq_zero)
      have e3 : (rgT 0 ds.length).length = ds.length := by simp [rgT]
      rw [e3] at len
      omega
    subst e0
    rw [List.append_nil] at iv1
    exact hR ((Mf ex [(q, PotOk)] lk H).add p (cnL ds) |>.wo [(p, cnL [])]) (.ref p') H' (Le.own (Le.add (Le.refl _))) loc.hw ⟨acc, iv1, r⟩
end
end HB


namespace HB
open PySem L2 PyProof.Rows PySem.Spec
abbrev Pr := Str × Str
abbrev Wb := List Str × List Pr
def pr (p : Pr) : PyData := .tuple [.str p.1, .str p.2]
abbrev plT (w : Wb) : Ty := dictT [(.inr "things", G w.1), (.inr "ties", L (w.2.map pr))]
def gr (g : List Str) : PyData := .tuple (g.map .str)
def pairsOf : List Str → List Pr
  | [] => []
  | x :: xs => xs.map (fun y => (x, y)) ++ pairsOf xs
def lawGroups (xs : List Str) : List (List Str) := xs.foldl (fun f x => f ++ f.map fun g => g ++ [x]) [[]]
section
variable {w : World} {P : Program} {K : PySem.W.Frag} {mg : Str → Option Value} {base : Heap}
section
variable {X : Cx} {M : Mx} {Γ : Gm} {e : Expr} {pos p2 : Pos} {j m : Nat} {wb : Wb}
theorem E.things (hr : Room m X.A) (h : E X M Γ e (plT wb)) : E X M Γ (.Subscript e (.Constant (.str "things") j p2) pos) (G wb.1) := E.dget (by have := hr.un; omega) h E.str (by rfl)
theorem E.ties (hr : Room m X.A) (h : E X M Γ e (plT wb)) : E X M Γ (.Subscript e (.Constant (.str "ties") j p2) pos) (L (wb.2.map pr)) := E.dget (by have := hr.un; omega) h E.str (by rfl)
end
theorem pairs_len : ∀ xs : List Str, (pairsOf xs).length ≤ xs.length * xs.length
  | [] => Nat.le_refl _
  | x :: xs => by
    have := pairs_len xs
    unfold pairsOf
    rw [List.length_append, List.length_map, List.length_cons, Nat.succ_mul, Nat.mul_succ]
    omega
def pm_all_pairs : Pm (Bool × List Str) where
  pre := fun q => q.2.length ≤ 100
  args := fun q => [sq q.1 (q.2.map .str)]
  res := fun q => L ((pairsOf q.2).map pr)
theorem drop_cons {α : Type} {xs : List α} {n : Nat} {x : α} (h : xs[n]? = some x) : xs.drop n = x :: xs.drop (n + 1) := by
  (obtain ⟨hl, e⟩ := List.getElem?_eq_some_iff.mp h)
  (rw [List.drop_eq_getElem_cons hl, e])
theorem ok_all_pairs (g : Gs K mg) : Ok P w K mg base 1 "_law_all_pairs" ["_law_things"] pm_all_pairs := by
  refine Ok.of (k := 0) (g.df _ 67) sc_all_pairs (fun _ => rfl) (fun _ _ _ _ _ _ us hl => match us, hl with | [_], _ => rfl) fun ⟨b, xs⟩ f cdv A outer s H Ex ex lk D hp hlk hr hR hn => ?_
  have hp : xs.length ≤ 100 := hp
  have hN := sc_all_pairs.nd
  refine B.asg 1 (T := L (([] : List Pr).map pr)) E.lst0 ?_ hN
  refine B.forP 2 3 (fun _ : List Pr => []) (fun a => (startG N_all_pairs (pm_all_pairs.args (b, xs))).set 1 (some (L (a.map pr)))) (fun _ n a => a ++ pairsOf (xs.drop n) = pairsOf xs) (W.enumQ (c := b) (g.bi "enumerate") (E.var 0)) (fun _ _ => ⟨[], rfl, fun _ _ l => l⟩) (fun Ts hS n T a hT iv => ?_) (fun Ts hS a iv => ?_) hN
  · subst hS
    obtain ⟨d, hd, rfl⟩ := enumD_get hT
    rw [List.getElem?_map] at hd
    cases hx : xs[n]? with
    | none => rw [hx] at hd; cases hd
    | some x =>
      rw [hx] at hd
      cases hd
      rw [drop_cons hx] at iv
      have hl2 : (a ++ (xs.drop (n + 1)).map fun y => (x, y)).length ≤ 10000 := by
        have h1 := pairs_len xs
        rw [← iv] at h1
        unfold pairsOf at h1
        simp only [List.length_append] at h1 ⊢
        have h2 : xs.length * xs.length ≤ 100 * 100 := Nat.mul_le_mul hp hp
        omega
      refine ⟨_, _, rfl, fun c => ?_⟩
      refine B.asg 1 (T := L ((a ++ (xs.drop (n + 1)).map fun y => (x, y)).map pr)) ?_ (.nil fun σ H l => ⟨a ++ (xs.drop (n + 1)).map fun y => (x, y), ?_, l.wk ?_⟩) hN
      · refine (E.catL (E.var (T := L (a.map pr)) 1) (E.lcM (enc := PyData.str) (xs := xs.drop (n + 1)) (fun y => pr (x, y)) 4 ?_ [("_law_other", 4)] (fun y hy p acc s H0 A' cl fp => ?_) ?_ (blkOk_by (N := N_all_pairs) (sc := defScope s_all_pairs) (by decide +kernel)) hN) ?_).castL ?_
        · rw [List.map_drop]
          exact W.seq (c := b) (E.fromQ (c := b) (E.var 0) ((E.add (E.var (T := I (n : Int)) 2) E.int).nat rfl))
        · exact E.tupD (ds := [.str x, .str y]) (.cons (E.var (T := S_ x) 3) (.cons (E.var 4) .nil))
        · rw [List.length_drop]; omega
        · simp only [List.length_map, List.length_append] at hl2 ⊢; omega
        · rw [List.map_append, List.map_map]; rfl
      · rw [List.append_assoc]
        exact iv
      · exact .keep (.keep (.drop (.drop (.keep .nil))))
  · subst hS
    rw [List.length_mapIdx, List.length_map, List.drop_length, pairsOf, List.append_nil] at iv
    subst iv
    exact B.ret hR (Le.refl _) (E.var 1)
end
end HB


namespace HB
open PySem L2 PyProof.Rows PySem.Spec
def Sok (x : Str) : Prop := PyData.strOk x = true
def Gok (g : List Str) : Prop := ∀ x ∈ g, Sok x
def Pok (p : Pr) : Prop := Sok p.1 ∧ Sok p.2
theorem eqv_s (x y : Str) : PyData.eqv (.str x) (.str y) = decide (x = y) := by
  rw [PyData.eqv]
  by_cases h : x = y <;> simp [h]
theorem eqvAll_s : ∀ xs ys : List Str, PyData.eqvAll (xs.map .str) (ys.map .str) = decide (xs = ys)
  | [], [] => (by simp [PyData.eqvAll])
  | [], y :: ys => by simp [PyData.eqvAll]
  | x :: xs, [] => by simp [PyData.eqvAll]
  | x :: xs, y :: ys => by
    show PyData.eqvAll (.str x :: xs.map .str) (.str y :: ys.map .str) = _
    rw [PyData.eqvAll, eqv_s, eqvAll_s xs ys]
    by_cases h : x = y <;> simp [h]
theorem eqv_gr (g h : List Str) : PyData.eqv (gr g) (gr h) = decide (g = h) := by
  unfold gr
  rw [PyData.eqv, eqvAll_s]
theorem eqv_pr (p q : Pr) : PyData.eqv (pr p) (pr q) = decide (p = q) := by
  have e : ∀ p : Pr, pr p = gr [p.1, p.2] := fun _ => rfl
  rw [e, e, eqv_gr]
  by_cases h : p = q
  · simp [h]
  · have : ¬ ([p.1, p.2] = [q.1, q.2]) := fun z => h (by simp at z; exact Prod.ext z.1 z.2)
    simp [h, this]
theorem strs_lay : ∀ {g : List Str}, Gok g → PyData.canLayAll0 (g.map .str) = true
  | [], _ => by simp [PyData.canLayAll0]
  | x :: g, h => by
    show PyData.canLayAll0 (.str x :: g.map .str) = true
    rw [PyData.canLayAll0, strs_lay fun y hy => h y (List.mem_cons_of_mem _ hy)]
    have := h x List.mem_cons_self
    simp [PyData.canLay0]
    exact this
theorem strs_dep : ∀ g : List Str, PyData.depthAll (g.map .str) = 0
  | [] => (by simp [PyData.depthAll])
  | x :: g => by
    show PyData.depthAll (.str x :: g.map .str) = 0
    rw [PyData.depthAll, strs_dep g]
    simp [PyData.depth]
theorem gr_dep (g : List Str) : (gr g).depth = 1 := by
  unfold gr
  rw [PyData.depth, strs_dep]
theorem gr_lay {g : List Str} (h : Gok g) : (gr g).canLay0 = true := by
  unfold gr
  rw [PyData.canLay0, strs_lay h]
theorem gr_shaped {g : List Str} (h : Gok g) : SeqAt.shaped (gr g) = true := by
  unfold SeqAt.shaped
  rw [gr_lay h, gr_dep]
  rfl
theorem all_lay {α : Type} {enc : α → PyData} : ∀ {xs : List α}, (∀ x ∈ xs, (enc x).canLay0 = true) → PyData.canLayAll0 (xs.map enc) = true
  | [], _ => by simp [PyData.canLayAll0]
  | x :: xs, h => by
    rw [List.map_cons, PyData.canLayAll0, all_lay fun y hy => h y (List.mem_cons_of_mem _ hy), h x List.mem_cons_self]
    rfl
theorem all_dep {α : Type} {enc : α → PyData} {n : Nat} : ∀ {xs : List α}, (∀ x ∈ xs, (enc x).depth ≤ n) → PyData.depthAll (xs.map enc) ≤ n
  | [], _ => by simp [PyData.depthAll]
  | x :: xs, h => by
    (rw [List.map_cons, PyData.depthAll])
    exact Nat.max_le.mpr ⟨h x List.mem_cons_self, all_dep fun y hy => h y (List.mem_cons_of_mem _ hy)⟩
theorem list_shaped {α : Type} {enc : α → PyData} {xs : List α} (h : ∀ x ∈ xs, (enc x).canLay0 = true) (d : ∀ x ∈ xs, (enc x).depth ≤ 50) : SeqAt.shaped (.list (xs.map enc)) = true := by
  unfold SeqAt.shaped
  rw [PyData.canLay0, all_lay h, PyData.depth]
  have := all_dep d
  simp
  omega
theorem tuple_shaped {α : Type} {enc : α → PyData} {xs : List α} (h : ∀ x ∈ xs, (enc x).canLay0 = true) (d : ∀ x ∈ xs, (enc x).depth ≤ 50) : SeqAt.shaped (.tuple (xs.map enc)) = true := by
  unfold SeqAt.shaped
  rw [PyData.canLay0, all_lay h, PyData.depth]
  have := all_dep d
  simp
  omega
theorem pr_gr (p : Pr) : pr p = gr [p.1, p.2] := rfl
theorem pok_g {p : Pr} (h : Pok p) : Gok [p.1, p.2] := fun x hx => by
  simp at hx
  rcases hx with rfl | rfl
  · exact h.1
  · exact h.2
theorem pr_shaped {p : Pr} (h : Pok p) : SeqAt.shaped (pr p) = true := gr_shaped (pok_g h)
theorem prs_shaped {ps : List Pr} (h : ∀ p ∈ ps, Pok p) : SeqAt.shaped (.list (ps.map pr)) = true := list_shaped (fun p hp => gr_lay (pok_g (h p hp))) fun p _ => by rw [pr_gr, gr_dep]; decide
theorem nil_shaped : SeqAt.shaped (.list []) = true := by decide +kernel
theorem any_enc {α : Type} [DecidableEq α] {enc : α → PyData} (h : ∀ x y, PyData.eqv (enc x) (enc y) = decide (x = y)) (y : α) : ∀ xs : List α, (xs.map enc).any (fun z => PyData.eqv z (enc y)) = decide (y ∈ xs)
  | [] => by simp
  | x :: xs => by
    rw [List.map_cons, List.any_cons, any_enc h y xs, h]
    by_cases e : x = y
    · subst e; simp
    · have e' : ¬ y = x := fun z => e z.symm
      simp [e, e']
theorem eqv_nil {α : Type} {enc : α → PyData} (xs : List α) : PyData.eqv (.list (xs.map enc)) (.list []) = xs.isEmpty := by
  cases xs <;> simp [PyData.eqv, PyData.eqvAll]
theorem min_ok {x y : Str} (h : Sok x) (h' : Sok y) : Sok (minS x y) := by unfold minS; split <;> assumption
theorem max_ok {x y : Str} (h : Sok x) (h' : Sok y) : Sok (maxS x y) := by unfold maxS; split <;> assumption
theorem pairs_mem : ∀ {xs : List Str} {p : Pr}, p ∈ pairsOf xs → p.1 ∈ xs ∧ p.2 ∈ xs
  | [], p, h => by cases h
  | x :: xs, p, h => by
    unfold pairsOf at h
    (rcases List.mem_append.mp h with h | h)
    · (obtain ⟨y, hy, rfl⟩ := List.mem_map.mp h)
      exact ⟨List.mem_cons_self, List.mem_cons_of_mem _ hy⟩
    · exact ⟨List.mem_cons_of_mem _ (pairs_mem h).1, List.mem_cons_of_mem _ (pairs_mem h).2⟩
theorem pairs_ok {xs : List Str} (h : Gok xs) : ∀ p ∈ pairsOf xs, Pok p := fun p hp => ⟨h _ (pairs_mem hp).1, h _ (pairs_mem hp).2⟩
def tied (w : Wb) (x y : Str) : Bool := decide ((minS x y, maxS x y) ∈ w.2)
def looseP (w : Wb) (g : List Str) : Bool := ((pairsOf g).filter fun p => tied w p.1 p.2).isEmpty
def knotP (w : Wb) (g : List Str) : Bool := ((pairsOf g).filter fun p => !tied w p.1 p.2).isEmpty
structure WOk (w : Wb) : Prop where
  len : w.1.length ≤ 5
  ok : Gok w.1
  tlen : w.2.length ≤ 2000
  tok : ∀ p ∈ w.2, Pok p
section
variable {w : World} {P : Program} {K : PySem.W.Frag} {mg : Str → Option Value} {base : Heap}
def pm_are_tied : Pm (Wb × Str × Str) where
  pre := fun q => WOk q.1 ∧ Sok q.2.1 ∧ Sok q.2.2
  args := fun q => [plT q.1, S_ q.2.1, S_ q.2.2]
  res := fun q => Bo (tied q.1 q.2.1 q.2.2)
theorem ok_are_tied (g : Gs K mg) : Ok P w K mg base 1 "_law_are_tied" ["_law_plain_here", "_law_one", "_law_other"] pm_are_tied := by
  refine Ok.of (k := 0) (g.df _ 84) sc_are_tied (fun _ => rfl) (fun _ _ _ _ _ _ us hl => match us, hl with | [_, _, _], _ => rfl) fun ⟨wb, x, y⟩ f cdv A outer s H Ex ex lk En hp hlk hr hR hn => ?_
  obtain ⟨h1, h2, h3⟩ := hp
  have h1 : WOk wb := h1
  have hx : Sok x := h2
  have hy : Sok y := h3
  refine B.ret hR (Le.refl _) ((E.inD (d := pr (minS x y, maxS x y)) hr (E.tupD (ds := [.str (minS x y), .str (maxS x y)]) (.cons (E.min2S (g.bi "min") (E.var 1) (E.var 2)) (.cons (E.max2S (g.bi "max") (E.var 1) (E.var 2)) .nil))) (E.ties hr (E.var (T := plT wb) 0)) (pr_shaped ⟨min_ok hx hy, max_ok hx hy⟩) (prs_shaped h1.tok)).cast ?_)
  rw [any_enc eqv_pr]
  exact congrArg PyData.bool (decide_eq_decide.mpr Iff.rfl)
def pm_is_loose : Pm (Wb × List Str) where
  pre := fun q => WOk q.1 ∧ Gok q.2 ∧ q.2.length ≤ 100
  args := fun q => [plT q.1, G q.2]
  res := fun q => Bo (looseP q.1 q.2)
theorem pairs_small {xs : List Str} (h : xs.length ≤ 100) : (pairsOf xs).length ≤ 100000 := Nat.le_trans (pairs_len xs) (Nat.le_trans (Nat.mul_le_mul h h) (by decide))
theorem ok_is_loose (g : Gs K mg) : Ok P w K mg base 2 "_law_is_loose" ["_law_plain_here", "_law_some"] pm_is_loose := by
  refine Ok.of (k := 1) (g.df _ 86) sc_is_loose (fun _ => rfl) (fun _ _ _ _ _ _ us hl => match us, hl with | [_, _], _ => rfl) fun ⟨wb, gg⟩ f cdv A outer s H Ex ex lk En hp hlk hr hR hn => ?_
  obtain ⟨h1, h2, h3⟩ := hp
  have h1 : WOk wb := h1
  have h2 : Gok gg := h2
  have h3 : gg.length ≤ 100 := h3
  refine B.ret hR (Le.refl _) ((E.eqD hr (E.lcF (enc := pr) (xs := pairsOf gg) (fun p => tied wb p.1 p.2) pr 2 (W.list (E.ok (ok_all_pairs g) hr (false, gg) h3 (.cons (E.var 1) .nil))) [("_law_pair", 2)] (fun p hp q acc s H0 A' cl fp => ?_) (fun p hp z q acc s H0 A' cl fp => E.var 2) (pairs_small h3) (blkOk_by (N := N_is_loose) (sc := defScope s_is_loose) (by decide +kernel)) sc_is_loose.nd) E.lst0 (prs_shaped fun p hp => pairs_ok h2 p ((List.mem_filter.mp hp).1)) nil_shaped).cast ?_)
  · have po := pairs_ok h2 p hp
    exact C.valB (E.ok (ok_are_tied g) hr (wb, p.1, p.2) ⟨h1, po.1, po.2⟩ (.cons (E.var 0) (.cons (E.ixU (i := 0) (ds := [.str p.1, .str p.2]) (E.var (T := D (pr p)) 2) E.int rfl) (.cons (E.ixU (i := 1) (ds := [.str p.1, .str p.2]) (E.var (T := D (pr p)) 2) E.int rfl) .nil))))
  · rw [eqv_nil]
    rfl
def pm_is_knot : Pm (Wb × List Str) where
  pre := fun q => WOk q.1 ∧ Gok q.2 ∧ q.2.length ≤ 100
  args := fun q => [plT q.1, G q.2]
  res := fun q => Bo (knotP q.1 q.2)
theorem ok_is_knot (g : Gs K mg) : Ok P w K mg base 2 "_law_is_knot" ["_law_plain_here", "_law_some"] pm_is_knot := by
  refine Ok.of (k := 1) (g.df _ 87) sc_is_knot (fun _ => rfl) (fun _ _ _ _ _ _ us hl => match us, hl with | [_, _], _ => rfl) fun ⟨wb, gg⟩ f cdv A outer s H Ex ex lk En hp hlk hr hR hn => ?_
  obtain ⟨h1, h2, h3⟩ := hp
  have h1 : WOk wb := h1
  have h2 : Gok gg := h2
  have h3 : gg.length ≤ 100 := h3
  refine B.ret hR (Le.refl _) ((E.eqD hr (E.lcF (enc := pr) (xs := pairsOf gg) (fun p => !tied wb p.1 p.2) pr 2 (W.list (E.ok (ok_all_pairs g) hr (false, gg) h3 (.cons (E.var 1) .nil))) [("_law_pair", 2)] (fun p hp q acc s H0 A' cl fp => ?_) (fun p hp z q acc s H0 A' cl fp => E.var 2) (pairs_small h3) (blkOk_by (N := N_is_knot) (sc := defScope s_is_knot) (by decide +kernel)) sc_is_knot.nd) E.lst0 (prs_shaped fun p hp => pairs_ok h2 p ((List.mem_filter.mp hp).1)) nil_shaped).cast ?_)
  · have po := pairs_ok h2 p hp
    exact C.notD (C.valB (E.ok (ok_are_tied g) hr (wb, p.1, p.2) ⟨h1, po.1, po.2⟩ (.cons (E.var 0) (.cons (E.ixU (i := 0) (ds := [.str p.1, .str p.2]) (E.var (T := D (pr p)) 2) E.int rfl) (.cons (E.ixU (i := 1) (ds := [.str p.1, .str p.2]) (E.var (T := D (pr p)) 2) E.int rfl) .nil)))))
  · rw [eqv_nil]
    rfl
def pm_l_all_groups : Pm (List Str) where
  pre := fun q => q.length ≤ 8
  args := fun q => [G q]
  res := fun q => L ((lawGroups q).map gr)
theorem groups_len : ∀ (xs : List Str) (f : List (List Str)), (xs.foldl (fun f x => f ++ f.map fun g => g ++ [x]) f).length = f.length * 2 ^ xs.length
  | [], f => by simp
  | x :: xs, f => by
    rw [List.foldl_cons, groups_len xs, List.length_append, List.length_map, List.length_cons, Nat.pow_succ, ← Nat.two_mul, Nat.mul_comm 2, Nat.mul_assoc, Nat.mul_comm 2]
theorem lawGroups_len (xs : List Str) : (lawGroups xs).length = 2 ^ xs.length := by
  unfold lawGroups
  rw [groups_len]
  simp
theorem pow_le8 {n : Nat} (h : n ≤ 8) : 2 ^ n ≤ 256 := Nat.pow_le_pow_right (n := 2) (by decide) h
theorem foldl_take {β : Type} (f : β → Str → β) (b : β) {xs : List Str} {n : Nat} {x : Str} (h : xs[n]? = some x) : (xs.take (n + 1)).foldl f b = f ((xs.take n).foldl f b) x := by
  rw [take_snoc h, List.foldl_append]
  rfl
theorem lawGroups_mem {xs : List Str} {g : List Str} (h : g ∈ lawGroups xs) : g.length ≤ xs.length ∧ ∀ x ∈ g, x ∈ xs := by
  unfold lawGroups at h
  have key : ∀ (ys : List Str) (f : List (List Str)) (n : Nat), (∀ g ∈ f, g.length ≤ n ∧ ∀ x ∈ g, x ∈ xs) → (∀ y ∈ ys, y ∈ xs) → ∀ g ∈ ys.foldl (fun f x => f ++ f.map fun g => g ++ [x]) f, g.length ≤ n + ys.length ∧ ∀ x ∈ g, x ∈ xs := by
    intro ys
    induction ys with
    | nil => intro f n hf _ g hg; exact ⟨by have := (hf g hg).1; simp; exact this, (hf g hg).2⟩
    | cons y ys ih =>
      intro f n hf hy g hg
      rw [List.foldl_cons] at hg
      have := ih _ (n + 1) (fun g hg => ?_) (fun z hz => hy z (List.mem_cons_of_mem _ hz)) g hg
      · exact ⟨by have := this.1; simp; omega, this.2⟩
      · rcases List.mem_append.mp hg with hg | hg
        · exact ⟨Nat.le_succ_of_le (hf g hg).1, (hf g hg).2⟩
        · obtain ⟨g', hg', rfl⟩ := List.mem_map.mp hg
          refine ⟨by rw [List.length_append]; exact Nat.succ_le_succ (hf g' hg').1, fun z hz => ?_⟩
          (rcases List.mem_append.mp hz with hz | hz)
          · exact (hf g' hg').2 z hz
          · (rw [List.mem_singleton.mp hz])
            exact hy y List.mem_cons_self
  have := key xs [[]] 0 (fun g hg => by simp at hg; subst hg; simp) (fun _ h => h) g h
  simpa using this
theorem ok_l_all_groups (g : Gs K mg) : Ok P w K mg base 1 "_law_all_groups" ["_law_things"] pm_l_all_groups := by
  refine Ok.of (k := 0) (g.df _ 85) sc_l_all_groups (fun _ => rfl) (fun _ _ _ _ _ _ us hl => match us, hl with | [_], _ => rfl) fun xs f cdv A outer s H Ex ex lk En hp hlk hr hR hn => ?_
  have hp : xs.length ≤ 8 := hp
  have hN := sc_l_all_groups.nd
  refine B.asg 1 (T := L ([([] : List Str)].map gr)) (E.lstD (ds := [.tuple []]) (.cons E.tup0 .nil)) ?_ hN
  refine B.forN 2 (fun _ : List (List Str) => []) (fun a => (startG N_l_all_groups (pm_l_all_groups.args xs)).set 1 (some (L (a.map gr)))) (fun n a => a = (xs.take n).foldl (fun f x => f ++ f.map fun g => g ++ [x]) [[]]) (W.tup (E.var 0)) ⟨_, rfl, fun _ _ l => l⟩ (fun n d a hd iv c => ?_) (fun a iv => ?_) hN
  · rw [List.getElem?_map] at hd
    cases hx : xs[n]? with
    | none => rw [hx] at hd; cases hd
    | some x =>
      rw [hx] at hd
      cases hd
      have la : a.length ≤ 256 := by
        rw [iv, groups_len]
        have : (xs.take n).length ≤ 8 := by rw [List.length_take]; omega
        have := pow_le8 this
        simp
        simp at this
        omega
      have ga : ∀ g ∈ a, g.length ≤ 8 := fun g hg => by
        rw [iv] at hg
        have := (lawGroups_mem hg).1
        rw [List.length_take] at this
        omega
      refine B.asg 1 (T := L ((a ++ a.map fun g => g ++ [x]).map gr)) ?_ (.nil fun σ H l => ⟨_, ?_, l.wk (.keep (.keep (.drop (.keep .nil))))⟩) hN
      · refine (E.catL (E.var (T := L (a.map gr)) 1) (E.lcM (enc := gr) (xs := a) (fun g => gr (g ++ [x])) 3 (W.list (E.var 1)) [("_law_some", 3)] (fun g hg p acc s H0 A' cl fp => ?_) (by omega) (blkOk_by (N := N_l_all_groups) (sc := defScope s_l_all_groups) (by decide +kernel)) hN) ?_).castL ?_
        · exact (E.catU (E.var (T := D (gr g)) 3) (E.tupD (ds := [.str x]) (.cons (E.var 2) .nil)) (by simp; have := ga g hg; omega)).castU (by rw [List.map_append]; rfl)
        · simp only [List.length_map]; omega
        · rw [List.map_append, List.map_map]; rfl
      · rw [foldl_take _ _ hx, ← iv]
  · have iv : a = (xs.take (xs.map PyData.str).length).foldl (fun f x => f ++ f.map fun g => g ++ [x]) [[]] := iv
    rw [List.length_map, List.take_length] at iv
    subst iv
    exact B.ret hR (Le.refl _) (E.var 1)
end
end HB


namespace HB
open PySem L2 PyProof.Rows PySem.Spec
theorem fmod_small (a : Int) {b : Int} (h : b ≠ 0) : (a.fmod b).natAbs < b.natAbs := by
  rw [Int.fmod_eq_emod]
  have h1 := Int.emod_nonneg a h
  have h2 := Int.emod_lt a h
  split
  · omega
  · rename_i hh
    have : a % b ≠ 0 := fun z => hh (.inr (Int.dvd_of_emod_eq_zero z))
    omega
theorem gcd_fmod (a b : Int) : Int.gcd b (a.fmod b) = Int.gcd a b := by
  rw [Int.fmod_def, Int.gcd_sub_mul_left_right, Int.gcd_comm]
theorem gcd_emod (a b : Int) : Int.gcd b (a % b) = Int.gcd a b := by
  rw [Int.emod_def, Int.gcd_sub_mul_left_right, Int.gcd_comm]
theorem abs_if (i : Int) : (if i < 0 then -i else i) = (i.natAbs : Int) := by
  split <;> omega
/-- what low and lowest_of give -/
def lowest (t b : Int) : Int × Int := (t / (Int.gcd t b : Int), b / (Int.gcd t b : Int))
abbrev frac (q : Int × Int) : Ty := U [.int q.1, .int q.2]
theorem log_small {n : Nat} (h : n ≤ 10 ^ 200) (h0 : n ≠ 0) : n.log2 < 9000 := Nat.lt_of_lt_of_le ((Nat.log2_lt h0).mpr (Nat.lt_of_le_of_lt h (show 10 ^ 200 < 2 ^ 700 by decide +kernel))) (by decide)
theorem gcd_cdiv {t b : Int} (h : 0 < b) (h2 : b ≤ 10 ^ 200) (i : Int) : CDivW i (Int.gcd t b : Int) := by
  have p := Int.gcd_pos_of_ne_zero_right t (show b ≠ 0 by omega)
  have l : (Int.gcd t b : Int) ≤ b := Int.le_of_dvd h (Int.gcd_dvd_right ..)
  refine ⟨by omega, ?_⟩
  rw [Int.natAbs_natCast]
  refine log_small ?_ (by omega)
  have : ((Int.gcd t b : Nat) : Int) ≤ ((10 ^ 200 : Nat) : Int) := Int.le_trans l (by rw [Int.natCast_pow]; exact h2)
  exact Int.ofNat_le.mp this
section
variable {w : World} {P : Program} {K : PySem.W.Frag} {mg : Str → Option Value} {base : Heap}
def pm_gcd : Pm (Int × Int) where
  args := fun q => [I q.1, I q.2]
  res := fun q => I (Int.gcd q.1 q.2 : Int)
theorem ok_divisor_of (g : Gs K mg) : Ok P w K mg base 1 "divisor_of" ["one", "other"] pm_gcd := by
  refine Ok.of (k := 0) (g.df _ 15) sc_divisor_of (fun _ => rfl) (fun _ _ _ _ _ _ us hl => match us, hl with | [_, _], _ => rfl) fun ⟨x, y⟩ f cdv A outer s H Ex ex lk En hp hlk hr hR hn => ?_
  have hN := sc_divisor_of.nd
  refine B.whl (fun q : Int × Int => [some (I q.1), some (I q.2)]) (fun q => Int.gcd q.1 q.2 = Int.gcd x y) (fun q => q.2.natAbs) (x, y) rfl rfl fun ⟨a, b⟩ iv => ⟨_, C.neI (E.var 1) E.int, fun hv => ?_, fun hv => ?_⟩
  · have hb : b ≠ 0 := by simpa using hv
    exact B.par 0 1 (E.var 1) (E.modN (E.var 0) (E.var 1) hb) (.nil fun σ H l => ⟨(b, a.fmod b), (gcd_fmod a b).trans iv, fmod_small a hb, l⟩) hN
  · have hb : b = 0 := by simpa using hv
    subst hb
    have iv : Int.gcd a 0 = Int.gcd x y := iv
    refine B.ret hR (Le.refl _) ((E.abs (g.bi "abs") (E.var 0)).cast ?_)
    show PyData.int _ = .int (Int.gcd x y : Int)
    rw [abs_if, ← iv, Int.gcd_zero_right]
theorem ok_greatest_common (g : Gs K mg) : Ok P w K mg base 1 "greatest_common" ["one", "other"] pm_gcd := by
  refine Ok.of (k := 0) (g.df _ 31) sc_greatest_common (fun _ => rfl) (fun _ _ _ _ _ _ us hl => match us, hl with | [_, _], _ => rfl) fun ⟨x, y⟩ f cdv A outer s H Ex ex lk En hp hlk hr hR hn => ?_
  have hN := sc_greatest_common.nd
  refine B.whl (fun q : Int × Int => [some (I q.1), some (I q.2)]) (fun q => Int.gcd q.1 q.2 = Int.gcd x y) (fun q => q.2.natAbs) (x, y) rfl rfl fun ⟨a, b⟩ iv => ⟨_, C.neI (E.var 1) E.int, fun hv => ?_, fun hv => ?_⟩
  · have hb : b ≠ 0 := by simpa using hv
    exact B.par 0 1 (E.var 1) (E.modN (E.var 0) (E.var 1) hb) (.nil fun σ H l => ⟨(b, a.fmod b), (gcd_fmod a b).trans iv, fmod_small a hb, l⟩) hN
  · have hb : b = 0 := by simpa using hv
    subst hb
    have iv : Int.gcd a 0 = Int.gcd x y := iv
    refine B.ret hR (Le.refl _) ((E.abs (g.bi "abs") (E.var 0)).cast ?_)
    show PyData.int _ = .int (Int.gcd x y : Int)
    rw [abs_if, ← iv, Int.gcd_zero_right]
def pm_lowest : Pm (Int × Int) where
  pre := fun q => 0 < q.2 ∧ q.2 ≤ 10 ^ 200
  args := fun q => [I q.1, I q.2]
  res := fun q => frac (lowest q.1 q.2)
theorem ok_lowest_of (g : Gs K mg) : Ok P w K mg base 2 "lowest_of" ["top", "bottom"] pm_lowest := by
  refine Ok.of (k := 1) (g.df _ 16) sc_lowest_of (fun _ => rfl) (fun _ _ _ _ _ _ us hl => match us, hl with | [_, _], _ => rfl) fun ⟨t, b⟩ f cdv A outer s H Ex ex lk En hp hlk hr hR hn => ?_
  obtain ⟨hp1, hp2⟩ := hp
  have hp1 : 0 < b := hp1
  have hp2 : b ≤ 10 ^ 200 := hp2
  have hN := sc_lowest_of.nd
  refine B.asg 2 (E.ok (ok_divisor_of g) hr (t, b) trivial (.cons (E.var 0) (.cons (E.var 1) .nil))) ?_ hN
  refine B.iteD (v := false) ((C.ltI (E.var (T := I b) 1) (E.int (i := 0))).imp fun v e => by rw [e]; simp; omega) (fun z => by cases z) fun _ => B.skip ?_
  exact B.ret hR (Le.refl _) (E.tupD (ds := [.int _, .int _]) (.cons (E.divW (E.var 0) (E.var (T := I (Int.gcd t b : Int)) 2) (gcd_cdiv hp1 hp2 _)) (.cons (E.divW (E.var 1) (E.var (T := I (Int.gcd t b : Int)) 2) (gcd_cdiv hp1 hp2 _)) .nil)))
theorem ok_low (g : Gs K mg) : Ok P w K mg base 1 "_law_low" ["_law_top", "_law_bottom"] pm_lowest := by
  refine Ok.of (k := 0) (g.df _ 89) sc_low (fun _ => rfl) (fun _ _ _ _ _ _ us hl => match us, hl with | [_, _], _ => rfl) fun ⟨t, b⟩ f cdv A outer s H Ex ex lk En hp hlk hr hR hn => ?_
  obtain ⟨hp1, hp2⟩ := hp
  have hp1 : 0 < b := hp1
  have hp2 : b ≤ 10 ^ 200 := hp2
  have hN := sc_low.nd
  refine B.par 2 3 ((E.abs (g.bi "abs") (E.var 0)).cast (d' := .int (t.natAbs : Int)) (congrArg _ (abs_if t))) ((E.abs (g.bi "abs") (E.var 1)).cast (d' := .int (b.natAbs : Int)) (congrArg _ (abs_if b))) ?_ hN
  refine B.whl (fun q : Nat × Nat => [some (I t), some (I b), some (I (q.1 : Int)), some (I (q.2 : Int)), none]) (fun q => Nat.gcd q.1 q.2 = Int.gcd t b) (fun q => q.2) (t.natAbs, b.natAbs) rfl rfl fun ⟨x, y⟩ iv => ⟨_, C.gtI (E.var 3) E.int, fun hv => ?_, fun hv => ?_⟩
  · have hy : 0 < y := by simpa using hv
    refine B.par (Ta := I (y : Int)) (Tb := I ((x % y : Nat) : Int)) 2 3 (E.var 3) ((E.mod (E.intI (g.bi "int") (E.var (T := I (x : Int)) 2)) (E.var (T := I (y : Int)) 3) (by omega)).cast (congrArg PyData.int (Int.natCast_emod x y).symm)) (.nil fun σ H l => ⟨(y, x % y), ?_, Nat.mod_lt _ hy, l⟩) hN
    show Nat.gcd y (x % y) = _
    rw [Nat.gcd_comm, ← Nat.gcd_rec, Nat.gcd_comm]
    exact iv
  · have hy : y = 0 := by
      have : ¬ 0 < y := by simpa using hv
      omega
    subst hy
    have iv : Nat.gcd x 0 = Int.gcd t b := iv
    rw [Nat.gcd_zero_right] at iv
    subst iv
    refine B.asg 4 (T := I 1) (E.ifExp (v := true) ((C.gtI (E.var (T := I b) 1) (E.int (i := 0))).imp fun v e => by rw [e]; simp; exact hp1) (fun _ => E.int) fun z => by cases z) ?_ hN
    refine B.ret hR (Le.refl _) ((E.tupD (ds := [.int _, .int _]) (.cons (E.mul (E.intI (g.bi "int") (E.divW (E.var 0) (E.var (T := I (Int.gcd t b : Int)) 2) (gcd_cdiv hp1 hp2 _))) (E.var (T := I 1) 4) (cmul_r (by decide))) (.cons (E.mul (E.intI (g.bi "int") (E.divW (E.var 1) (E.var (T := I (Int.gcd t b : Int)) 2) (gcd_cdiv hp1 hp2 _))) (E.var (T := I 1) 4) (cmul_r (by decide))) .nil))).castU ?_)
    rw [Int.mul_one, Int.mul_one]
    rfl
def pm_number : Pm Addr where
  req := fun q => [(q, PotOk)]
  args := fun q => [Ty.is (.ref q)]
  res := fun q => Is fun k => -(10 ^ 30) ≤ k ∧ k ≤ 10 ^ 30
theorem e15 {X : Cx} {M : Mx} {Γ : Gm} {p1 p2 pos : Pos} {j j2 : Nat} : E X M Γ (.BinOp (.Constant (.int 10) j p1) .Pow (.Constant (.int 15) j2 p2) pos) (I ((10 ^ 15 : Nat) : Int)) := (E.pow E.int E.int ⟨by decide, by decide, by decide⟩).cast (congrArg PyData.int (by decide +kernel))
theorem ok_number (g : Gs K mg) : Ok P w K mg base 2 "_law_number" ["_law_pot_here"] pm_number := by
  refine Ok.of (k := 1) (g.df _ 78) sc_number (fun _ => rfl) (fun _ _ _ _ _ _ us hl => match us, hl with | [_], _ => rfl) fun q f cdv A outer s H Ex ex lk En hp hlk hr hR hn => ?_
  have hN := sc_number.nd
  refine B.asgS 1 (E.stir g hr 6 (E.var 0) E.int) (fun way hw => ?_) hN
  refine B.ite (C.ltI (E.var (T := I (way : Int)) 1) E.int) (fun _ => ?_) fun _ => B.skip ?_
  · refine B.ret hR (Le.refl _) ((E.subs (E.stir g hr 9 (E.var 0) E.int).Nn (E.ex 3 E.int)).wk fun k ⟨i, ⟨n, hn, e⟩, j, e2, e3⟩ => ?_)
    subst e2; subst e3; subst e
    omega
  · refine B.asgS 2 (S := fun k : Int => 0 ≤ k ∧ k ≤ 10 ^ 30) (f := I) ((E.adds (E.muls (E.stir g hr (10 ^ 15) (E.var 0) e15).Nn (E.ex _ e15) fun i ⟨n, hn, e⟩ j e2 => cmul_r (by subst e2; decide)) (E.stir g hr (10 ^ 15) (E.var 0) e15).Nn).wk fun k ⟨i, ⟨i1, ⟨n, hn, e⟩, j1, e1, e2⟩, j, ⟨m, hm, e3⟩, e4⟩ => ?_) (fun k hk => ?_) hN
    · subst e; subst e1; subst e2; subst e3; subst e4
      have c : ((10 ^ 15 : Nat) : Int) = 1000000000000000 := by decide +kernel
      have c2 : (10 : Int) ^ 30 = 1000000000000000000000000000000 := by decide +kernel
      have c3 : (10 : Nat) ^ 15 = 1000000000000000 := by decide +kernel
      rw [c3] at hn hm
      rw [c, c2]
      omega
    · refine B.ret hR (Le.refl _) (E.ifExpS (C.eqI (E.var (T := I (way : Int)) 1) E.int) (fun _ => (E.var (T := I k) 2).imp fun _ _ _ z => ⟨k, ⟨by omega, hk.2⟩, z⟩) fun _ => (E.sub (E.int (i := 0)) (E.var (T := I k) 2)).imp fun _ _ _ z => ⟨_, ⟨by omega, by omega⟩, z⟩)
def payOf (ps : Py) (x : Str) : Int := (ps.lookup x).getD 0
theorem find_pyk {ps : Py} {x : Str} (h : x ∈ ps.map (·.1)) : ((pyk ps).find? fun q => decide (q.1 = .inr x)).map (·.2) = some (I (payOf ps x)) := by
  induction ps with
  | nil => cases h
  | cons q ps ih =>
    unfold pyk payOf
    rw [List.map_cons, List.find?_cons, List.lookup_cons]
    by_cases e : q.1 = x
    · subst e
      simp
    · have e1 : (x == q.1) = false := by simpa using fun z : x = q.1 => e z.symm
      have e2 : ¬ ((Sum.inr q.1 : Key) = .inr x) := fun z => e (Sum.inr.inj z)
      rw [e1]
      simp only [e2, decide_false]
      refine ih ?_
      rw [List.map_cons] at h
      (rcases List.mem_cons.mp h with z | z)
      · exact absurd z.symm e
      · exact z
theorem E.pay {X : Cx} {M : Mx} {Γ : Gm} {a b : Expr} {pos : Pos} {m : Nat} {ps : Py} {x : Str} (hr : Room m X.A) (ha : E X M Γ a (payT ps)) (hb : E X M Γ b (S_ x)) (h : x ∈ ps.map (·.1)) (hs : NoSl b := by exact fun _ _ => rfl) : E X M Γ (.Subscript a b pos) (I (payOf ps x)) := E.dget (by have := hr.un; omega) ha hb (find_pyk h) hs
def paid (ps : Py) (g : List Str) : Int := (g.map (payOf ps)).sum
def pm_paid : Pm (Py × List Str) where
  pre := fun q => (∀ x ∈ q.2, x ∈ q.1.map (·.1)) ∧ q.2.length ≤ 100
  args := fun q => [payT q.1, G q.2]
  res := fun q => I (paid q.1 q.2)
theorem ok_paid (g : Gs K mg) : Ok P w K mg base 1 "_law_paid" ["_law_pays", "_law_group"] pm_paid := by
  refine Ok.of (k := 0) (g.df _ 91) sc_paid (fun _ => rfl) (fun _ _ _ _ _ _ us hl => match us, hl with | [_, _], _ => rfl) fun ⟨ps, gg⟩ f cdv A outer s H Ex ex lk En hp hlk hr hR hn => ?_
  obtain ⟨h1, h2⟩ := hp
  have h1 : ∀ x ∈ gg, x ∈ ps.map (·.1) := h1
  have h2 : gg.length ≤ 100 := h2
  refine B.ret hR (Le.refl _) (E.sum (ns := gg.map (payOf ps)) (g.bi "sum") ((E.lcM (enc := PyData.str) (xs := gg) (fun x => .int (payOf ps x)) 2 (W.tup (E.var 1)) [("_law_one", 2)] (fun x hx p acc s H0 A' cl fp => ?_) (by omega) (blkOk_by (N := N_paid) (sc := defScope s_paid) (by decide +kernel)) sc_paid.nd).castL ?_))
  · exact E.pay hr (E.var (T := payT ps) 0) (E.var 2) (h1 x hx)
  · rw [List.map_map]; rfl
end
end HB


namespace HB
open PySem L2 PyProof.Rows PySem.Spec
abbrev TxK (P : Program) (w : World) (h : Heap) (k : List Str) (b : Addr) : Prop := IsTupleKey (PySem.strKind P w) h k b
abbrev txH (P : Program) (w : World) (k : List Str) : Int := tupleKeyHash (PySem.strKind P w) k
section
variable {w : World} {P : Program} {A : Around} {E : Value → Shared → Prop} {s : Shared}
theorem txt_items {k : List Str} {us : List Value} (h : ItemsAre (PySem.strKind P w) k us) : ∀ u ∈ us, ∃ z tk, u = Value.str z tk := by
  induction h with
  | nil => exact fun u hu => absurd hu (by simp)
  | @cons z u' zs us e _ ih =>
    intro u hu
    rcases List.mem_cons.mp hu with q | hu
    · rw [q]
      exact ⟨z, Value.isStrOf_shape e⟩
    · exact ih u hu
theorem quiet_cls (n : Nat) (z : Str) (tk : Tok) : ofAClassStatement n (.str z tk) = pure false := by cases n <;> rfl
theorem quiet_hash (n : Nat) (z : Str) (tk : Tok) : hashByValue n (.str z tk) = pure false := by
  rw [hashByValue_scannable n rfl]
  rfl
theorem cls_tx {k : List Str} {b : Addr} {Q : Bool → Shared → Prop} (tx : TxK P w s.heap k b) (fin : Q false s) : wpAny (model P w) A (ofAClassStatement 8 (.ref b)) Q E s := by
  have ty := tx.typeIs
  obtain ⟨ot, us, m, gt, _, dt, ut⟩ := tx
  unfold ofAClassStatement
  refine wpAny_bind (wpAny_typeOf ty ?_)
  dsimp only
  have yes : (("tuple" : String) == "tuple") = true := by decide
  simp only [yes, if_true, Bool.not_true, Bool.false_eq_true, if_false]
  (try refine wpAny_bind (wpAny_pure ?_))
  try simp only [if_false, Bool.false_eq_true, Bool.not_true]
  show wpAny (model P w) _ (seqItems? (.ref b) >>= _) _ _ s
  refine wpAny_bind (wpAny_seqItems gt dt ?_)
  dsimp only
  refine wpAny_bind ?_
  show wpAny _ _ (forIn us _ _) _ _ s
  rw [← Array.forIn_toList]
  refine wpAny_forIn_list _ (fun left acc t => acc.1 = none ∧ t = s ∧ ∀ u ∈ left, ∃ z tk, u = Value.str z tk) _ ?_ ?_ _ _ ⟨rfl, rfl, txt_items ut⟩
  · rintro u left acc t ⟨ha, rfl, all⟩
    obtain ⟨z, tk, rfl⟩ := all u List.mem_cons_self
    rw [quiet_cls]
    (refine wpAny_bind (wpAny_pure ?_))
    simp only [if_false, Bool.false_eq_true]
    exact wpAny_pure ⟨rfl, rfl, fun v hv => all v (List.mem_cons_of_mem _ hv)⟩
  · rintro ⟨c1, c2⟩ t ⟨ha, rfl, _⟩
    simp only at ha
    subst ha
    exact wpAny_pure fin
theorem hash_tx {k : List Str} {b : Addr} {Q : Bool → Shared → Prop} (tx : TxK P w s.heap k b) (fin : ∀ c, Q c s) : wpAny (model P w) A (hashByValue 8 (.ref b)) Q E s := by
  have ty := tx.typeIs
  obtain ⟨ot, us, m, gt, _, dt, ut⟩ := tx
  unfold hashByValue
  refine wpAny_bind (wpAny_specialOf ty F.slot_tuple_hash.lookup ?_)
  show wpAny (model P w) _ (seqItems? (.ref b) >>= _) _ _ s
  refine wpAny_bind (wpAny_seqItems gt dt ?_)
  refine wpAny_bind ?_
  show wpAny _ _ (forIn us _ _) _ _ s
  rw [← Array.forIn_toList]
  refine wpAny_forIn_list _ (fun left acc t => acc.1 = none ∧ t = s ∧ ∀ u ∈ left, ∃ z tk, u = Value.str z tk) _ ?_ ?_ _ _ ⟨rfl, rfl, txt_items ut⟩
  · rintro u left acc t ⟨ha, rfl, all⟩
    obtain ⟨z, tk, rfl⟩ := all u List.mem_cons_self
    rw [quiet_hash]
    (refine wpAny_bind (wpAny_pure ?_))
    simp only [if_true, Bool.not_false]
    exact wpAny_pure (wpAny_pure (fin false))
  · rintro ⟨c1, c2⟩ t ⟨ha, rfl, _⟩
    simp only at ha
    subst ha
    exact wpAny_pure (fin true)
/-- a search among such tuples shows nothing -/
theorem seen_tx {k : List Str} {b : Addr} {Q : Bool → Shared → Prop} (tx : TxK P w s.heap k b) {ys : List Value} (hy : ∀ y ∈ ys, ∃ l c, y = Value.ref c ∧ TxK P w s.heap l c) (fin : Q false s) : wpAny (model P w) A (searchCouldBeSeen (.ref b) ys) Q E s := by
  unfold searchCouldBeSeen
  refine wpAny_bind ?_
  refine wpAny_forIn_list _ (fun left acc t => acc.1 = none ∧ t = s ∧ ∀ y ∈ left, ∃ l c, y = Value.ref c ∧ TxK P w s.heap l c) _ ?_ ?_ _ _ ⟨rfl, rfl, hy⟩
  · rintro u left acc t ⟨ha, rfl, all⟩
    obtain ⟨l, c, rfl, tc⟩ := all u List.mem_cons_self
    have more : ∀ y ∈ left, ∃ l c, y = Value.ref c ∧ TxK P w t.heap l c := fun v hv => all v (List.mem_cons_of_mem _ hv)
    dsimp only
    by_cases same : (b == c || (carriedByValue (.ref b) && carriedByValue (.ref c))) = true
    · exact wp_if_pos same (wpAny_pure ⟨rfl, rfl, more⟩)
    · refine wp_if_neg same (wpAny_bind (wpAny_eqIsQuiet_tuple tx ?_))
      simp only [if_false, Bool.false_eq_true, Bool.not_true]
      refine wpAny_bind (wpAny_eqIsQuiet_tuple tc ?_)
      simp only [if_false, Bool.false_eq_true, Bool.not_true]
      refine wpAny_bind (cls_tx tx ?_)
      simp only [if_false, Bool.false_eq_true]
      refine wpAny_bind (cls_tx tc ?_)
      simp only [if_false, Bool.false_eq_true]
      exact wpAny_pure ⟨rfl, rfl, more⟩
  · rintro ⟨c1, c2⟩ t ⟨ha, rfl, _⟩
    simp only at ha
    subst ha
    exact wpAny_pure fin
/-- the set at a: its rows are among us, each a tuple of texts by its hash -/
structure PSet (P : Program) (w : World) (h : Heap) (a : Addr) (us : List Value) (es : Array (Int × Value)) (ep : Nat) (t : SetTable) : Prop where
  own : ∃ o, h.get? a = some o ∧ o.ExactSet ∧ o.data = .set es ep t
  row : ∀ e ∈ es.toList, e.2 ∈ us ∧ ∃ k b, e.2 = .ref b ∧ TxK P w h k b ∧ e.1 = txH P w k
  tab : TabOk t (es.toList.map (·.1))
  text : w.params.followText "set-order" = true ∨ t.led = true
  room : es.size * 5 < t.mask * 3
  few : es.size < 64
variable {a : Addr} {us : List Value} {es : Array (Int × Value)} {ep : Nat} {t : SetTable}
theorem tab_fits (T : TabOk t (es.toList.map (·.1))) (h : es.size ≤ t.mask) : t.fits es.size = true := by
  have z := T.sz
  rw [List.length_map, Array.length_toList] at z
  unfold SetTable.fits
  unfold SetTable.fill
  rw [T.dm, Bool.and_eq_true, beq_iff_eq, decide_eq_true_eq]
  exact ⟨z, by rw [z]; exact h⟩
theorem PSet.fits (R : PSet P w s.heap a us es ep t) : t.fits es.size = true := tab_fits R.tab (by have := R.room; omega)
theorem PSet.stays (R : PSet P w s.heap a us es ep t) : ¬ t.gaveWay = true := by
  unfold SetTable.gaveWay
  rw [mask_odd R.tab.mok]
  decide
theorem nth_clean (m : Nat) : ∀ (n : Nat) (p : SetTable.Probe), p.dummy = none → (nth m p n).dummy = none
  | 0, p, h => h
  | n + 1, p, h => nth_clean m n (adv m p) (by
    unfold adv
    split <;> exact h)
/-- the search ends -/
theorem find_tx (R : PSet P w s.heap a us es ep t) {x : Addr} {k : List Str} (tx : TxK P w s.heap k x) (hu : A.units < cLine) {K : Nat} (hKf : K < 10 * SetTable.turns t.mask)
    (hK : way t.mask (txH P w k) K ∉ t.place.toList) (hKb : ∀ c, c < K → way t.mask (txH P w k) c ∈ t.place.toList) {Q : SetFound → Shared → Prop} (hin : Q (.there none) s) (hout : Q (.free (way t.mask (txH P w k) K) false) s) :
    ∀ (f c : Nat) (stand : Option SetTable.Probe), stand.getD (t.probeStart (txH P w k)) = nth t.mask (runAt t.mask (SetTable.bits (txH P w k) % (t.mask + 1)) (SetTable.bits (txH P w k))) c → c ≤ K → K - c < f → wpAny (model P w) A (setSearchFrom a (.ref x) (txH P w k) true f stand) Q E s := by
  obtain ⟨o, go, ex, dat⟩ := R.own
  generalize hh : txH P w k = hs at *
  let st := runAt t.mask (SetTable.bits hs % (t.mask + 1)) (SetTable.bits hs)
  have wy : ∀ n, way t.mask hs n = (nth t.mask st n).j := fun n => rfl
  intro f
  induction f with
  | zero => exact fun c stand _ _ hf => absurd hf (Nat.not_lt_zero _)
  | succ f ih =>
    intro c stand hst hc hf
    have hst : stand.getD (t.probeStart hs) = nth t.mask st c := hst
    rw [setSearchFrom_succ]
    refine wpAny_bind (wpAny_setState_of go dat R.fits ?_)
    dsimp only
    refine wp_if_neg R.stays ?_
    (try refine wpAny_bind (wpAny_pure ?_))
    have on : ∀ q, nth t.mask (nth t.mask st c) q = nth t.mask st (c + q) := fun q => (nth_add t.mask c _ q).symm
    have spec := go_spec t R.tab.ris R.tab.dm (fun i => (es[i]?.map (·.1)).getD 0) hs (10 * SetTable.turns t.mask) (K - c) (nth t.mask st c) (nth_clean _ _ _ rfl) (by omega)
      (fun q hq => by rw [on, ← wy]; exact hKb (c + q) (by omega)) (by rw [on, ← wy, show c + (K - c) = K by omega]; exact hK)
    rcases spec with ⟨q, i, hq, hi, _, _, hpr⟩ | ⟨_, hpr⟩
    · rw [on] at hi hpr
      rw [on] at hpr
      have hpr2 : t.probe (fun i => (es[i]?.map (·.1)).getD 0) hs (stand.getD (t.probeStart hs)) = some (.candidate (nth t.mask st (c + q)).j i (nth t.mask st (c + (q + 1)))) := by
        rw [hst]
        exact hpr
      rw [hpr2]
      dsimp only
      have il : i < es.size := by
        have l1 := (List.getElem?_eq_some_iff.mp hi).1
        have l2 := R.tab.sz
        rw [List.length_map, Array.length_toList] at l2
        (rw [Array.length_toList] at l1)
        omega
      have ei : es[i]? = some es[i] := Array.getElem?_eq_getElem il
      obtain ⟨_, l, b, eb, tb, _⟩ := R.row es[i] (by simp)
      generalize es[i] = e at ei eb
      obtain ⟨e1, e2⟩ := e
      have eb : e2 = .ref b := eb
      subst eb
      have goOn : wpAny (model P w) A (searchRest a (.ref x) hs true f es t (nth t.mask st (c + q)).j i (nth t.mask st (c + (q + 1)))) Q E s := by
        unfold searchRest
        rw [ei]
        dsimp only
        refine wpAny_bind (wpAny_holding (wpAny_eqBool_tuple hu tb tx ?_))
        refine wpAny_bind (wpAny_setState_of go dat R.fits ?_)
        dsimp only
        by_cases same : l = k
        · exact wp_if_pos (by simp [same]) (wpAny_pure hin)
        · refine wp_if_neg (by simp [same]) ?_
          (try refine wpAny_bind (wpAny_pure ?_))
          rw [sameMem]
          dsimp only
          have sl : t.slot (nth t.mask st (c + q)).j = .live i := slot_live R.tab.ris hi
          simp only [if_true, sl, ei]
          refine wpAny_bind (wpAny_isSame_ref_self (wpAny_bind ?_))
          refine wpAny_pure ?_
          simp only [if_true]
          exact wp_if_neg (by simp [same]) (ih (c + (q + 1)) _ rfl (by omega) (by omega))
      by_cases kept : t.led = true
      · refine wp_if_neg (by simp [kept]) ?_
        (try refine wpAny_bind (wpAny_pure ?_))
        exact goOn
      · refine wp_if_pos (by simp [kept]) (wpAny_bind (seen_tx tx (fun y hy => ?_) ?_))
        · obtain ⟨e, in_, ee⟩ := List.mem_map.mp hy
          have h1 : e ∈ es ∧ e.1 = hs := by simpa using in_
          obtain ⟨_, l', b', eb', tb', _⟩ := R.row e (by simpa using h1.1)
          exact ⟨l', b', ee.symm.trans eb', tb'⟩
        · refine wp_if_neg Bool.false_ne_true ?_
          (try refine wpAny_bind (wpAny_pure ?_))
          exact goOn
    · rw [on, show c + (K - c) = K by omega] at hpr
      have hpr2 : t.probe (fun i => (es[i]?.map (·.1)).getD 0) hs (stand.getD (t.probeStart hs)) = some (.empty (nth t.mask st K).j none) := by
        rw [hst]
        exact hpr
      rw [hpr2]
      dsimp only
      exact wpAny_pure hout
theorem look_tx (R : PSet P w s.heap a us es ep t) {x : Addr} {k : List Str} (tx : TxK P w s.heap k x) (hu : A.units < cLine) {Q : SetFound → Shared → Prop} (hin : Q (.there none) s)
    (hout : ∀ K, way t.mask (txH P w k) K ∉ t.place.toList → (∀ c, c < K → way t.mask (txH P w k) c ∈ t.place.toList) → Q (.free (way t.mask (txH P w k) K) false) s) : wpAny (model P w) A (setSearch a (.ref x) (txH P w k) true) Q E s := by
  have room := R.room
  obtain ⟨K, h1, h2, h3⟩ := R.tab.first (by rw [List.length_map, Array.length_toList]; omega) (txH P w k)
  have small : K < 100000 := by
    have most : 10 * SetTable.turns t.mask ≤ 1420 := by
      unfold SetTable.turns
      rcases R.tab.mok with m | m | m <;> omega
    omega
  unfold setSearch
  exact find_tx R tx hu h1 h2 h3 hin (hout K h2 h3) 100000 0 none rfl (Nat.zero_le _) (by omega)
end
end HB


namespace HB
open PySem L2 PyProof.Rows PySem.Spec
section
variable {P : Program} {w : World} {A : Around} {E : Value → Shared → Prop} {s : Shared} {a : Addr} {us : List Value} {es : Array (Int × Value)} {ep : Nat} {t : SetTable}
theorem tx_keep {h h' : Heap} {k : List Str} {b : Addr} (tx : TxK P w h k b) (keep : ∀ o, h.get? b = some o → o.cls = .type "tuple" → h'.get? b = some o) : TxK P w h' k b := by
  obtain ⟨ot, vs, m, gt, ct, r⟩ := tx
  exact ⟨ot, vs, m, keep ot gt ct, ct, r⟩
theorem tx_but {h h' : Heap} {k : List Str} {b : Addr} {o : Obj} (tx : TxK P w h k b) (go : h.get? a = some o) (ex : o.ExactSet) (sb : Heap.SameBut a h h') : TxK P w h' k b := tx_keep tx fun u gu cu => by
  have ne : b ≠ a := fun z => by
    rw [z, go] at gu
    cases gu
    rw [ex.1] at cu
    exact absurd (Value.type.inj cu) (by decide)
  exact (sb.2 b ne).trans gu
/-- what a row says -/
def RowOk (P : Program) (w : World) (h : Heap) (us : List Value) (e : Int × Value) : Prop := e.2 ∈ us ∧ ∃ k b, e.2 = .ref b ∧ TxK P w h k b ∧ e.1 = txH P w k
theorem RowOk.but {h h' : Heap} {e : Int × Value} {o : Obj} (r : RowOk P w h us e) (go : h.get? a = some o) (ex : o.ExactSet) (sb : Heap.SameBut a h h') : RowOk P w h' us e := by
  obtain ⟨m, k, b, e1, tx, e2⟩ := r
  exact ⟨m, k, b, e1, tx_but tx go ex sb, e2⟩
theorem picked (es : Array (Int × Value)) : ∀ l : List Nat, (∀ i ∈ l, i < es.size) → (l.filterMap fun i => es[i]?).length = l.length ∧ (l.filterMap fun i => es[i]?).map (·.1) = (l.map fun i => (es.map (·.1)).getD i 0) ∧ ∀ e ∈ l.filterMap (fun i => es[i]?), e ∈ es.toList
  | [], _ => ⟨rfl, rfl, fun e h => absurd h (by simp)⟩
  | i :: l, h => by
    obtain ⟨h1, h2, h3⟩ := picked es l fun j hj => h j (List.mem_cons_of_mem _ hj)
    have il := h i List.mem_cons_self
    have ei : es[i]? = some es[i] := Array.getElem?_eq_getElem il
    rw [List.filterMap_cons_some ei]
    refine ⟨by rw [List.length_cons, h1, List.length_cons], ?_, fun e he => ?_⟩
    · rw [List.map_cons, List.map_cons, h2]
      have e5 : (es.map (·.1))[i]? = some (es[i]).1 := by rw [Array.getElem?_map, ei]; rfl
      rw [Array.getD_eq_getD_getElem?, e5]
      rfl
    · rcases List.mem_cons.mp he with z | z
      · rw [z]
        simp
      · exact h3 e z
theorem relay_tx {o : Obj} (go : s.heap.get? a = some o) (ex : o.ExactSet) (dat : o.data = .set es ep t) (rows : ∀ e ∈ es.toList, RowOk P w s.heap us e) (T : TabOk t (es.toList.map (·.1))) (fl : es.size ≤ t.mask) (led : w.params.followText "set-order" = true ∨ t.led = true) (few : es.size < 64) {wanted M : Nat}
    (hw : SetTable.sizeAbove wanted - 1 = M) (hM : MaskOk M) (hw2 : SetTable.sizeAbove wanted ≤ 128) (hn : es.size * 5 < M * 3) {Q : Unit → Shared → Prop}
    (hQ : ∀ h' es' ep' t', Heap.SameBut a s.heap h' → PSet P w h' a us es' ep' t' → es'.size = es.size → Q () { s with heap := h' }) : wpAny (model P w) A (setRelay a wanted) Q E s := by
  have fits := tab_fits T fl
  obtain ⟨t2, order, e, pm, T2, em, el, _, _⟩ := relaid_ok t (hs := es.map (·.1)) (wanted := wanted) hw hM (by rw [Array.size_map]; omega)
  rw [Array.size_map] at pm
  obtain ⟨p1, p2, p3⟩ := picked es order.toList fun i hi => List.mem_range.mp (pm.mem_iff.mp hi)
  have lst : (order.filterMap (es[·]?)).toList = order.toList.filterMap fun i => es[i]? := by simp
  have size : (order.filterMap (es[·]?)).size = es.size := by
    rw [← Array.length_toList, lst, p1, pm.length_eq, List.length_range]
  rw [← p2, ← lst] at T2
  rw [← lst] at p3
  rw [setRelay_eq]
  refine wpAny_bind (wpAny_setState_of go dat fits ?_)
  dsimp only
  refine wp_if_neg (by simp only [sizeLine_eq]; omega) ?_
  (try refine wpAny_bind (wpAny_pure ?_))
  rw [e]
  dsimp only
  refine wpAny_bind ?_
  refine wp_if_neg (by rw [size]; simp) ?_
  (try refine wpAny_bind (wpAny_pure ?_))
  refine wpAny_pure ?_
  dsimp only
  refine wpAny_storeSet_of go dat ?_ (by rw [size, sizeLine_eq]; omega)
  generalize order.filterMap (es[·]?) = es2 at size T2 p3 ⊢
  have sb : Heap.SameBut a s.heap (s.heap.update a (Obj.putSet es2 t2)) := Heap.SameBut.update ..
  exact hQ _ es2 (ep + 1) t2 sb ⟨⟨_, store_at go dat, ⟨ex.1, ex.2.1, ex.2.2⟩, rfl⟩, fun e he => (rows e (p3 e he)).but go ex sb, T2, by rw [el]; exact led, by rw [size, em]; exact hn, by rw [size]; exact few⟩ size
theorem tab_plain {t : SetTable} {hs : List Int} (c : Bool) (T : TabOk t hs) : TabOk (if c = true then t else { t with plain := false }) hs := by
  cases c
  · exact ⟨T.ris, T.dm, T.sz, T.mok, T.bd, T.reach⟩
  · exact T
theorem byval_tx {α : Type} {c : Prop} [Decidable c] {M : Model} {v : Value} {Q : α → Shared → Prop} (hv : wpAny M A (hashByValue 8 v) (fun _ z => z = s) E s) (f : Bool → Sem α) (h : ∀ b, wpAny M A (f b) Q E s) : wpAny M A (if c then hashByValue 8 v >>= f else pure true >>= f) Q E s := by
  split
  · exact wpAny_bind (wpAny_mono hv (fun b z e => by rw [e]; exact h b) fun _ _ z => z)
  · exact wpAny_bind (wpAny_pure (h true))
theorem add_tx (R : PSet P w s.heap a us es ep t) {x : Addr} {k : List Str} (tx : TxK P w s.heap k x) (mem : Value.ref x ∈ us) (hu : A.units < cLine) (more : es.size + 1 < 64) {Q : Bool → Shared → Prop}
    (hQ : ∀ c h' es' ep' t', Heap.SameBut a s.heap h' → PSet P w h' a us es' ep' t' → es'.size ≤ es.size + 1 → Q c { s with heap := h' }) : wpAny (model P w) A (setAddHashed a (.ref x) (txH P w k)) Q E s := by
  obtain ⟨o, go, ex, dat⟩ := R.own
  have room := R.room
  unfold setAddHashed
  refine wpAny_holding ?_
  have turns : (100000 : Nat) = 99999 + 1 := rfl
  rw [turns, setAddHashedIn_succ]
  refine wpAny_bind (wpAny_setState_of go dat R.fits ?_)
  dsimp only
  refine wp_if_neg (by simp [Value.scannable, byScan]) ?_
  (try refine wpAny_bind (wpAny_pure ?_))
  refine wpAny_bind (look_tx R tx hu ?_ fun K hK hb => ?_)
  · dsimp only
    exact wpAny_pure (hQ false s.heap es ep t (Heap.SameBut.refl a s.heap) R (Nat.le_succ _))
  · dsimp only
    refine wpAny_bind (wpAny_setState_of go dat R.fits ?_)
    dsimp only
    obtain ⟨q1, q2, q3, q4, q5, q6, _, _, q9⟩ := R.tab.put hK hb
    generalize hpt : t.put (way t.mask (txH P w k) K) = pt at q1 q3 q4 q5 q6 q9 ⊢
    obtain ⟨t1, p⟩ := pt
    dsimp only at q1 q3 q4 q5 q6 q9 ⊢
    subst q1
    refine byval_tx (hash_tx tx fun _ => rfl) _ fun c => ?_
    have rows1 : (SetTable.insertAt es (SetTable.below t.place (way t.mask (txH P w k) K)) (txH P w k, Value.ref x)).toList = es.toList.take (SetTable.below t.place (way t.mask (txH P w k) K)) ++ (txH P w k, Value.ref x) :: es.toList.drop (SetTable.below t.place (way t.mask (txH P w k) K)) := SetTable.toList_insertAt _ _ _
    generalize SetTable.below t.place (way t.mask (txH P w k) K) = p at q2 q3 rows1 ⊢
    have T1 : TabOk t1 ((SetTable.insertAt es p (txH P w k, Value.ref x)).toList.map (·.1)) := by
      rw [rows1, List.map_append, List.map_cons, List.map_take, List.map_drop]
      exact q3
    have size1 : (SetTable.insertAt es p (txH P w k, Value.ref x)).size = es.size + 1 := by
      rw [← Array.length_toList, rows1, (put_perm es.toList p _).length_eq, List.length_cons, Array.length_toList]
    have row1 : ∀ e ∈ (SetTable.insertAt es p (txH P w k, Value.ref x)).toList, RowOk P w s.heap us e := fun e he => by
      rw [rows1] at he
      rcases List.mem_cons.mp ((put_perm es.toList p _).mem_iff.mp he) with z | z
      · rw [z]
        exact ⟨mem, k, x, rfl, tx, rfl⟩
      · exact R.row e z
    generalize SetTable.insertAt es p (txH P w k, Value.ref x) = es1 at T1 size1 row1 ⊢
    have T2 := tab_plain c T1
    have m2 : (if c = true then t1 else { t1 with plain := false }).mask = t.mask := by cases c <;> exact q4
    have l2 : w.params.followText "set-order" = true ∨ (if c = true then t1 else { t1 with plain := false }).led = true := by
      have : (if c = true then t1 else { t1 with plain := false }).led = t.led := by cases c <;> exact q5
      rw [this]
      exact R.text
    have f2 : (if c = true then t1 else { t1 with plain := false }).fill = es.size + 1 := by
      have : (if c = true then t1 else { t1 with plain := false }).fill = t1.fill := by cases c <;> rfl
      rw [this, q9, List.length_map, Array.length_toList]
    generalize (if c = true then t1 else { t1 with plain := false }) = t2 at T2 m2 l2 f2 ⊢
    refine wpAny_bind (wpAny_storeSet_of go dat ?_ (by rw [size1, sizeLine_eq]; omega))
    have sb : Heap.SameBut a s.heap (s.heap.update a (Obj.putSet es1 t2)) := Heap.SameBut.update ..
    have go1 := store_at (es' := es1) (t' := t2) go dat
    generalize s.heap.update a (Obj.putSet es1 t2) = h1 at sb go1 ⊢
    have row2 : ∀ e ∈ es1.toList, RowOk P w h1 us e := fun e he => (row1 e he).but go ex sb
    have ex1 : ({ o with data := .set es1 (ep + 1) t2 } : Obj).ExactSet := ⟨ex.1, ex.2.1, ex.2.2⟩
    by_cases full : t2.tooFull = true
    · first
        | (refine wpAny_bind ?_; refine wp_if_pos (by simp [full]) ?_)
        | (refine wp_if_pos (by simp [full]) ?_; refine wpAny_bind ?_)
      have big : (es.size + 1) * 5 ≥ t.mask * 3 := by
        have h := full
        unfold SetTable.tooFull at h
        rw [decide_eq_true_eq, f2, m2] at h
        exact h
      have two : (t.mask = 7 ∧ es.size = 4) ∨ (t.mask = 31 ∧ es.size = 18) := by
        rcases R.tab.mok with m | m | m
        · exact .inl ⟨m, by omega⟩
        · exact .inr ⟨m, by omega⟩
        · omega
      have go2 : ∀ M, SetTable.sizeAbove (SetTable.grown (es.size + 1)) - 1 = M → MaskOk M → SetTable.sizeAbove (SetTable.grown (es.size + 1)) ≤ 128 → (es.size + 1) * 5 < M * 3 → wpAny (model P w) A (setRelay a (SetTable.grown (es.size + 1))) (fun _ z => wpAny (model P w) A (pure true) Q E z) E { s with heap := h1 } := fun M h1' h2' h3' h4' =>
        relay_tx (s := { s with heap := h1 }) go1 ex1 rfl row2 T2 (by rw [size1, m2]; rcases two with ⟨e, e2⟩ | ⟨e, e2⟩ <;> omega) l2 (by rw [size1]; exact more) h1' h2' h3' (by rw [size1]; exact h4') fun h2 es2 ep2 t3 sb2 R2 sz => wpAny_pure (hQ true h2 es2 ep2 t3 (sb.trans sb2) R2 (by rw [sz, size1]; exact Nat.le_refl _))
      rcases two with ⟨_, e2⟩ | ⟨_, e2⟩
      · exact go2 31 (by rw [e2, size_20]) (.inr (.inl rfl)) (by rw [e2, size_20]; decide) (by omega)
      · exact go2 127 (by rw [e2, size_76]) (.inr (.inr rfl)) (by rw [e2, size_76]; decide) (by omega)
    · first
        | refine wp_if_neg (by simp [full]) ?_
        | (refine wpAny_bind ?_; refine wp_if_neg (by simp [full]) ?_; refine wpAny_pure ?_)
      refine wpAny_pure (hQ true h1 es1 (ep + 1) t2 sb ⟨⟨_, go1, ex1, rfl⟩, row2, T2, l2, ?_, by rw [size1]; exact more⟩ (by rw [size1]; exact Nat.le_refl _))
      have h := full
      unfold SetTable.tooFull at h
      rw [decide_eq_true_eq, f2] at h
      rw [size1]
      omega
end
end HB


namespace HB
open PySem L2 PyProof.Rows PySem.Spec
section
variable {w : World} {P : Program} {A : Around} {E : Value → Shared → Prop} {s : Shared}
/-- one adding -/
def Adds (P : Program) (w : World) (A : Around) (S : Addr) (J : Nat → Heap → Prop) (i : Nat) (v : Value) : Prop :=
  ∀ (z : Shared) (Q : Bool → Shared → Prop) (E : Value → Shared → Prop), J i z.heap → (∀ c h' tk, z.toks ≤ tk → Heap.SameBut S z.heap h' → J (i + 1) h' → Q c { z with heap := h', toks := tk }) → wpAny (model P w) A (setAdd S v) Q E z
theorem loop_any {I : Addr} {fp wr : List Addr} {G : Array GenState → Array GenState → Prop} {n : Nat} {Pv : Nat → Value → Prop} {St : Nat → Shared → Prop} {R : Result → Shared → Prop} (W : WalksS P w A.in1 I fp wr G n Pv St) (S : Addr) (hSf : S ∉ fp) (J : Nat → Heap → Prop)
    (mv : ∀ i h h', J i h → (∀ b o, b ∉ wr → h.get? b = some o → h'.get? b = some o) → J i h') (add : ∀ i v, Pv i v → Adds P w A.in1 S J i v) :
    ∀ (r i : Nat) (s : Shared), i + r = n → St i s → J i s.heap → (∀ z, Moved (S :: wr) G s z → J n z.heap → R (.ok (.ret .none)) z) → codeAny (model P w) A (.builtin "set.update.loop" ⟨[.ref S, .ref I], []⟩) R s := by
  have wide : ∀ b ∈ wr, b ∈ S :: wr := fun b hb => List.mem_cons_of_mem _ hb
  intro r
  induction r with
  | zero =>
    intro i s hi st j fin
    obtain rfl : i = n := hi
    apply codeAny_builtin F.entry_set_update_loop
    rw [Around.under_plainId F.plain_set_update_loop]
    show wpAny (model P w) A.in1 (pyNext (.ref I) >>= _) _ _ s
    refine wpAny_bind (W.done s _ _ st fun z hm => ?_)
    show wpAny _ A.in1 (ret Value.none) _ _ z
    exact wpAny_pure (fin z (hm.mono wide) (mv _ _ _ j hm.heap))
  | succ r ih =>
    intro i s hi st j fin
    have lt : i < n := by omega
    apply codeAny_builtin F.entry_set_update_loop
    rw [Around.under_plainId F.plain_set_update_loop]
    show wpAny (model P w) A.in1 (pyNext (.ref I) >>= _) _ _ s
    refine wpAny_bind (W.item i s _ _ lt st fun v z hv st1 hm => ?_)
    show wpAny _ A.in1 (holding [v] (setAdd S v) >>= _) _ _ z
    refine wpAny_bind (wpAny_holding (add i v hv z _ _ (mv _ _ _ j hm.heap) fun c h' tk htk sb j1 => ?_))
    have other : ∀ b, b ≠ S → h'.get? b = z.heap.get? b := fun b hb => sb.2 b hb
    refine wpAny_pure ⟨plainId_quiet F.plain_set_update_loop _, ih (i + 1) _ (by omega) (W.frame _ z _ _ st1 htk fun b hb o e => ?_) j1 fun y hm2 j2 => ?_⟩
    · rw [other b fun q => hSf (by rw [← q]; exact hb)]
      exact e
    · refine fin y (Moved.trans W.gtrans ((hm.mono wide).then_heap htk fun b o hb e => ?_) hm2) j2
      rw [other b fun q => hb (by rw [q]; exact List.mem_cons_self)]
      exact e
/-- a new, empty set -/
abbrev newSetO (w : World) : Obj := { cls := .type "set", dict := none, data := .set #[] 0 (.fresh 0 0 (!w.params.followText "set-order")) }
theorem set_of_list {l : Addr} {items : Array Value} {Q : Value → Shared → Prop} (hh : A.handled = none) (hl : s.heap.IsList l items) (J : Nat → Heap → Prop) (mv : ∀ i h h', J i h → (∀ b o, b ≠ s.heap.objs.size + 1 → h.get? b = some o → h'.get? b = some o) → J i h')
    (j0 : ∀ io : Obj, J 0 ((s.heap.push (newSetO w)).push io)) (add : ∀ i v, items[i]? = some v → Adds P w A.in1.in1.in1 s.heap.objs.size J i v)
    (fin : ∀ (h' : Heap) (tk : Nat), J items.size h' → (∀ b o, s.heap.get? b = some o → h'.get? b = some o) → Q (.ref s.heap.objs.size) { s with heap := h', toks := tk }) : wpAny (model P w) A (call (.type "set") [.ref l]) Q E s := by
  obtain ⟨cc, ct, mro⟩ := F.called_set.mro
  have made := F.called_set.made
  have below := F.called_set.sub
  apply wpAny_call
  apply codeAny_of_tree
  show wpAny (model P w) _ (callAny (.type "set") _) _ _ _
  refine wpAny_pure ⟨Code.quiet_builtin _ (by decide +kernel), (codeAny_builtin F.entry_type_call ?_)⟩
  rw [Around.under_plain (weight_type_call_type "set" [.ref l] []) (by rfl)]
  have t1 := F.called_set.notType
  have t2 := F.called_set.canCreate
  have t3 := F.typeCall_set_1 (.ref l)
  repeat any_goals first | assumption | wp_step
  refine codeAny_mono (code_set_led1 (.ref l) (E := E) (Q₁ := fun v z => v = .ref s.heap.objs.size ∧ z = { s with heap := s.heap.push (newSetO w) }) ⟨rfl, rfl⟩) fun r z hr => ?_
  cases r with
  | error e => exact hr
  | ok fl =>
    cases fl with
    | ret v =>
      obtain ⟨rfl, rfl⟩ := hr
      have at0 : (s.heap.push (newSetO w)).get? s.heap.objs.size = some (newSetO w) := Heap.get?_push_size _ rfl
      have ty0 : Shared.TypeIs { s with heap := s.heap.push (newSetO w) } (.ref s.heap.objs.size) "set" := ⟨_, at0, rfl⟩
      have i1 := F.called_set.init.lookup
      have i2 := F.called_set.init.bind (.ref s.heap.objs.size)
      repeat any_goals first | assumption | wp_step
      refine codeAny_mono (codeAny_call_builtin (R := wants (fun r z => r = .none ∧ ∃ h' tk, z = { s with heap := h', toks := tk } ∧ J items.size h' ∧ ∀ b o, s.heap.get? b = some o → h'.get? b = some o) E) F.called_set.init.plain F.entry_set_init (check_set_init_1 ty0 ?_)) fun r2 z2 hr2 => ?_
      · obtain ⟨ol, gl, cl, nl, dl⟩ := hl
        obtain ⟨oc, od, odt, osl⟩ := ol
        simp only at cl dl
        subst cl
        subst dl
        have gl1 : (s.heap.push (newSetO w)).get? l = some { cls := .type "list", dict := od, data := .seq items nl, slots := osl } := Heap.get?_push_of_some _ gl
        have k1 := F.sub_list_set
        have k2 := F.sub_list_frozenset
        have k3 : (Value.type "list" == Value.type "dict") = false := by decide
        have here : (s.heap.push (newSetO w)).IsList l items := ⟨_, gl1, rfl, nl, rfl⟩
        unfold Builtin.«set.__init__» Builtin.Frozenset.updateFrom noKeywords
        generalize hPI : pyIter = PI
        wp_walk
        subst hPI
        refine wpAny_pyIter_list here (wpAny_bind (wpAny_runValue ?_))
        have low : l < s.heap.objs.size := Heap.lt_size gl
        have sz1 : (s.heap.push (newSetO w)).objs.size = s.heap.objs.size + 1 := Heap.size_push ..
        have calm3 : A.in1.in1.in1.handled = none := by simp [hh]
        have apart : l ≠ (s.heap.push (newSetO w)).objs.size := by
          rw [sz1]
          exact Nat.ne_of_lt (Nat.lt_succ_of_lt low)
        have out : s.heap.objs.size ∉ [(s.heap.push (newSetO w)).objs.size, l] := by
          rw [sz1]
          simp only [List.mem_cons, List.not_mem_nil, or_false, not_or]
          exact ⟨Nat.ne_of_lt (Nat.lt_succ_self _), Nat.ne_of_gt low⟩
        refine loop_any ((Walks.list calm3 _ l apart items).toS) s.heap.objs.size out J (fun i h h' j k => mv i h h' j fun b o hb e => k b o (fun z => hb (by rw [List.mem_singleton.mp z, sz1])) e) (fun i v hv => add i v hv) items.size 0 _ (Nat.zero_add _) ⟨⟨_, Heap.get?_push_size _ rfl, rfl, rfl⟩, (here.push _)⟩ (j0 _) fun z hm j => ?_
        obtain ⟨h', gz, dz, tk', oz⟩ := z
        cases (show gz = s.gens from hm.gens)
        cases (show dz = s.drawn from hm.drawn)
        cases (show oz = s.os from hm.os)
        show wpAny _ _ _ _ _ _
        refine wpAny_pure ?_
        show wpAny (model P w) _ (ret Value.none) _ _ _
        refine wpAny_pure ⟨rfl, h', tk', rfl, j, fun b o e => ?_⟩
        have lb := Heap.lt_size e
        refine hm.heap b o ?_ (Heap.get?_push_of_some _ (Heap.get?_push_of_some _ e))
        rw [sz1]
        simp only [List.mem_cons, List.not_mem_nil, or_false, not_or]
        exact ⟨Nat.ne_of_lt lb, Nat.ne_of_lt (Nat.lt_succ_of_lt lb)⟩
      · cases r2 with
        | error e => exact hr2
        | ok fl2 =>
          cases fl2 with
          | ret v2 =>
            obtain ⟨rfl, h', tk, rfl, j, keep⟩ := hr2
            repeat any_goals first | assumption | wp_step
            exact fin _ _ j keep
          | _ => exact hr2.elim
    | _ => exact hr.elim
theorem set_of_tuple {l : Addr} {items : Array Value} {Q : Value → Shared → Prop} (hh : A.handled = none) (hl : s.heap.IsTuple l items) (J : Nat → Heap → Prop) (mv : ∀ i h h', J i h → (∀ b o, b ≠ s.heap.objs.size + 1 → h.get? b = some o → h'.get? b = some o) → J i h')
    (j0 : ∀ io : Obj, J 0 ((s.heap.push (newSetO w)).push io)) (add : ∀ i v, items[i]? = some v → Adds P w A.in1.in1.in1 s.heap.objs.size J i v)
    (fin : ∀ (h' : Heap) (tk : Nat), J items.size h' → (∀ b o, s.heap.get? b = some o → h'.get? b = some o) → Q (.ref s.heap.objs.size) { s with heap := h', toks := tk }) : wpAny (model P w) A (call (.type "set") [.ref l]) Q E s := by
  obtain ⟨cc, ct, mro⟩ := F.called_set.mro
  have made := F.called_set.made
  have below := F.called_set.sub
  apply wpAny_call
  apply codeAny_of_tree
  show wpAny (model P w) _ (callAny (.type "set") _) _ _ _
  refine wpAny_pure ⟨Code.quiet_builtin _ (by decide +kernel), (codeAny_builtin F.entry_type_call ?_)⟩
  rw [Around.under_plain (weight_type_call_type "set" [.ref l] []) (by rfl)]
  have t1 := F.called_set.notType
  have t2 := F.called_set.canCreate
  have t3 := F.typeCall_set_1 (.ref l)
  repeat any_goals first | assumption | wp_step
  refine codeAny_mono (code_set_led1 (.ref l) (E := E) (Q₁ := fun v z => v = .ref s.heap.objs.size ∧ z = { s with heap := s.heap.push (newSetO w) }) ⟨rfl, rfl⟩) fun r z hr => ?_
  cases r with
  | error e => exact hr
  | ok fl =>
    cases fl with
    | ret v =>
      obtain ⟨rfl, rfl⟩ := hr
      have at0 : (s.heap.push (newSetO w)).get? s.heap.objs.size = some (newSetO w) := Heap.get?_push_size _ rfl
      have ty0 : Shared.TypeIs { s with heap := s.heap.push (newSetO w) } (.ref s.heap.objs.size) "set" := ⟨_, at0, rfl⟩
      have i1 := F.called_set.init.lookup
      have i2 := F.called_set.init.bind (.ref s.heap.objs.size)
      repeat any_goals first | assumption | wp_step
      refine codeAny_mono (codeAny_call_builtin (R := wants (fun r z => r = .none ∧ ∃ h' tk, z = { s with heap := h', toks := tk } ∧ J items.size h' ∧ ∀ b o, s.heap.get? b = some o → h'.get? b = some o) E) F.called_set.init.plain F.entry_set_init (check_set_init_1 ty0 ?_)) fun r2 z2 hr2 => ?_
      · obtain ⟨ol, gl, cl, nl, dl⟩ := hl
        obtain ⟨oc, od, odt, osl⟩ := ol
        simp only at cl dl
        subst cl
        subst dl
        have gl1 : (s.heap.push (newSetO w)).get? l = some { cls := .type "tuple", dict := od, data := .seq items nl, slots := osl } := Heap.get?_push_of_some _ gl
        have k1 := F.sub_tuple_set
        have k2 := F.sub_tuple_frozenset
        have k3 : (Value.type "tuple" == Value.type "dict") = false := by decide
        have here : (s.heap.push (newSetO w)).IsTuple l items := ⟨_, gl1, rfl, nl, rfl⟩
        unfold Builtin.«set.__init__» Builtin.Frozenset.updateFrom noKeywords
        generalize hPI : pyIter = PI
        wp_walk
        subst hPI
        refine wpAny_pyIter_tuple here (wpAny_bind (wpAny_runValue ?_))
        have low : l < s.heap.objs.size := Heap.lt_size gl
        have sz1 : (s.heap.push (newSetO w)).objs.size = s.heap.objs.size + 1 := Heap.size_push ..
        have calm3 : A.in1.in1.in1.handled = none := by simp [hh]
        have apart : l ≠ (s.heap.push (newSetO w)).objs.size := by
          rw [sz1]
          exact Nat.ne_of_lt (Nat.lt_succ_of_lt low)
        have out : s.heap.objs.size ∉ [(s.heap.push (newSetO w)).objs.size, l] := by
          rw [sz1]
          simp only [List.mem_cons, List.not_mem_nil, or_false, not_or]
          exact ⟨Nat.ne_of_lt (Nat.lt_succ_self _), Nat.ne_of_gt low⟩
        refine loop_any ((Walks.tuple calm3 _ l apart items).toS) s.heap.objs.size out J (fun i h h' j k => mv i h h' j fun b o hb e => k b o (fun z => hb (by rw [List.mem_singleton.mp z, sz1])) e) (fun i v hv => add i v hv) items.size 0 _ (Nat.zero_add _) ⟨⟨_, Heap.get?_push_size _ rfl, rfl, rfl⟩, (here.push _)⟩ (j0 _) fun z hm j => ?_
        obtain ⟨h', gz, dz, tk', oz⟩ := z
        cases (show gz = s.gens from hm.gens)
        cases (show dz = s.drawn from hm.drawn)
        cases (show oz = s.os from hm.os)
        show wpAny _ _ _ _ _ _
        refine wpAny_pure ?_
        show wpAny (model P w) _ (ret Value.none) _ _ _
        refine wpAny_pure ⟨rfl, h', tk', rfl, j, fun b o e => ?_⟩
        have lb := Heap.lt_size e
        refine hm.heap b o ?_ (Heap.get?_push_of_some _ (Heap.get?_push_of_some _ e))
        rw [sz1]
        simp only [List.mem_cons, List.not_mem_nil, or_false, not_or]
        exact ⟨Nat.ne_of_lt lb, Nat.ne_of_lt (Nat.lt_succ_of_lt lb)⟩
      · cases r2 with
        | error e => exact hr2
        | ok fl2 =>
          cases fl2 with
          | ret v2 =>
            obtain ⟨rfl, h', tk, rfl, j, keep⟩ := hr2
            repeat any_goals first | assumption | wp_step
            exact fin _ _ j keep
          | _ => exact hr2.elim
    | _ => exact hr.elim
end
end HB


namespace HB
open PySem L2 PyProof.Rows PySem.Spec
section
variable {w : World} {P : Program} {A : Around} {E : Value → Shared → Prop} {s : Shared}
theorem any_take {xs : List Str} {i : Nat} (hi : i < xs.length) (y : Str) : ((xs.take i).any (· == y) || decide (y = xs[i])) = (xs.take (i + 1)).any (· == y) := by
  rw [List.take_succ, List.getElem?_eq_getElem hi, List.any_append]
  congr 1
  show decide (y = xs[i]) = ([xs[i]].any (· == y))
  by_cases e : y = xs[i]
  · rw [← e]
    simp
  · have z : (xs[i] == y) = false := beq_eq_false_iff_ne.mpr fun z => e z.symm
    rw [decide_eq_false e, List.any_cons, z]
    rfl
theorem str_adds {xs : List Str} {S : Addr} (nd : xs.Nodup) (hz : xs.length ≤ 60) {i : Nat} (hi : i < xs.length) (tk : Tok) : Adds P w A S (fun i h => h.SetOf (PySem.strKind P w) S (fun y => (xs.take i).any (· == y)) i) i (.str xs[i] tk) := fun z Q E j fin => by
  unfold setAdd
  refine wpAny_holding (wpAny_bind ((PySem.strKind P w).pyHash (k := xs[i]) (strKind_is _ _ _ _) ?_))
  refine wpAny_setAddHashed_of (knd := PySem.strKind P w) (s := { z with toks := z.toks + 1 }) (strKind_is _ _ _ _) rfl j (by unfold scanBound; omega) fun h' sb hS => fin _ h' (z.toks + 1) (Nat.le_succ _) sb ?_
  have no : ((xs.take i).any (· == xs[i])) = false := by
    rw [List.any_eq_false]
    intro y hy e
    obtain ⟨m, hm, em⟩ := List.getElem_of_mem hy
    have lm : m < i := by
      rw [List.length_take] at hm
      omega
    rw [List.getElem_take] at em
    have e : y = xs[i] := by simpa using e
    exact (List.pairwise_iff_getElem.mp nd m i (by omega) hi lm) (em.trans e)
  exact PyProof.Rows.SetOf_congr hS (fun y => any_take hi y) (by rw [no]; rfl)
end
section
variable {X : Cx} {M : Mx} {Γ : Gm}
theorem E.lenSetU {a : Expr} {pos p p2 pos2 : Pos} {xs : List Str} (hm1 : X.mg "len" = none) (hm2 : X.mg "set" = none) (ha : E X M Γ a (U (xs.map .str))) (nd : xs.Nodup) (hz : xs.length ≤ 60) (hc : X.calm = true := by rfl) (g1 : Gl X "len" := by rfl) (g2 : Gl X "set" := by rfl)
    (s1 : starEach [a] X.env = (false, eval a X.env) :: starEach [] X.env := by rfl) : E X M Γ (.Call (.Name "len" p) [.Call (.Name "set" p2) [a] [] pos2] [] pos) (I (xs.length : Int)) := fun σ H l pins s I => by
  refine Call_ (ld_blt I g1 hm1 PySem.boot_len ?_)
  refine PyProof.Rows.callWith_builtin1 (PyProof.Rows.args_cons ?_ (by rfl)) rfl rfl
  refine Call_ (ld_blt I g2 hm2 PyProof.Rows.boot_set ?_)
  refine PyProof.Rows.callWith_type1 (PyProof.Rows.args_cons (thn (ha σ H l pins s I) fun v z ⟨x, H1, I1, r1, st1, hv⟩ => PyProof.Rows.args_nil ?_) s1) s1 rfl
  obtain ⟨t, vs, rfl, e, n, rr⟩ : ∃ t vs, x = .ref t ∧ H1 t = some (.tup vs) ∧ ¬ M.ex t ∧ RpAll M.ex H1 vs (xs.map .str) := by
    cases hv with
    | tup e n r => exact ⟨_, _, rfl, e, n, r⟩
  obtain rfl : v = Value.ref t := r1
  obtain ⟨its, r, pl, _⟩ := I1.tuple (SqT.of e)
  have len : its.toArray.size = xs.length := by rw [List.size_toArray, ← r.length, rr.length, List.length_map]
  have at_ : ∀ i (hi : i < xs.length) u, its.toArray[i]? = some u → ∃ tk, u = .str xs[i] tk := fun i hi u hu => by
    obtain ⟨y, hy, ry⟩ := rr.get (i := i) (d := .str xs[i]) (by rw [List.getElem?_map, List.getElem?_eq_getElem hi]; rfl)
    obtain ⟨u', hu', ru⟩ := r.get hy
    have eu : u = u' := by
      rw [List.getElem?_toArray, hu'] at hu
      exact (Option.some.inj hu).symm
    cases ry
    rw [eu]
    exact ru
  refine set_of_tuple (I1.ok.hd hc) pl (fun i h => h.SetOf (PySem.strKind X.prog X.w) z.heap.objs.size (fun y => (xs.take i).any (· == y)) i) (fun i h h' j k => ?_) (fun io => ?_) (fun i v hv => ?_) fun h' tk j keep => ?_
  · obtain ⟨o, es, ep, tb, ho, rest⟩ := j
    exact ⟨o, es, ep, tb, k _ o (Nat.ne_of_lt (Nat.lt_succ_self _)) ho, rest⟩
  · have g0 : ((z.heap.push (newSetO X.w)).push io).get? z.heap.objs.size = some (newSetO X.w) := Heap.get?_push_of_some _ (Heap.get?_push_size _ rfl)
    exact PyProof.Rows.SetOf_congr ((PyProof.Rows.setObjOf_fresh (knd := PySem.strKind X.prog X.w) _).setOf g0 (by unfold scanBound; omega)) (fun _ => rfl) rfl
  · have hi : i < xs.length := by
      rw [← len]
      exact (Array.getElem?_eq_some_iff.mp hv).1
    obtain ⟨tk, rfl⟩ := at_ i hi v hv
    exact str_adds nd hz hi tk
  · refine PyProof.Rows.args_nil ?_
    rw [len] at j
    obtain ⟨o, es, ep, tb, ho, hex, hd, _, _, _, hf, hn⟩ := j
    have I2 : Inv X pins σ H1 { z with heap := h', toks := tk } := I1.kept keep
    exact call_len_set ho hex hd hf (by rw [hn]; omega) ⟨.int xs.length, H1, I2.tok _, ⟨_, by rw [hn]⟩, st1, .int _⟩
end
end HB


namespace HB
open PySem PySem.Spec PyProof.Rows L2 PySem.Calls PySem.W PySem.SeqAt
section
variable {P : Program} {w : World} {A : Around} {E : Value → Shared → Prop} {s : Shared} {a S : Addr} {us : List Value} {es : Array (Int × Value)} {ep : Nat} {t : SetTable} {h0 : Heap}
def PairsAt (P : Program) (w : World) (h0 : Heap) (S : Addr) (us : List Value) (i : Nat) (h : Heap) : Prop := (∃ es ep t, PSet P w h S us es ep t ∧ es.size ≤ i) ∧ ∀ b o, h0.get? b = some o → h.get? b = some o
theorem PairsAt.mv (keys : ∀ v ∈ us, ∃ k b, v = .ref b ∧ TxK P w h0 k b) (n0 : h0.get? (S + 1) = none) {i : Nat} {h h' : Heap} (j : PairsAt P w h0 S us i h) (k : ∀ b o, b ≠ S + 1 → h.get? b = some o → h'.get? b = some o) : PairsAt P w h0 S us i h' := by
  obtain ⟨⟨es, ep, t, R, sz⟩, kp⟩ := j
  have kp' : ∀ b o, h0.get? b = some o → h'.get? b = some o := fun b o e => k b o (fun z => by rw [z, n0] at e; cases e) (kp b o e)
  obtain ⟨o, go, r⟩ := R.own
  refine ⟨⟨es, ep, t, ⟨⟨o, k S o (Nat.ne_of_lt (Nat.lt_succ_self _)) go, r⟩, fun e he => ?_, R.tab, R.text, R.room, R.few⟩, sz⟩, kp'⟩
  obtain ⟨m, l, b, e1, tx, e2⟩ := R.row e he
  obtain ⟨l2, b2, e3, tx2⟩ := keys _ m
  rw [e1] at e3
  cases e3
  have tx3 : TxK P w h l2 b := tx_keep tx2 fun o e _ => kp b o e
  obtain rfl := tx.inj tx3
  exact ⟨m, l, b, e1, tx_keep tx2 (fun o e _ => kp' b o e), e2⟩
theorem PairsAt.zero (h0S : h0.get? S = none) {h : Heap} (g : h.get? S = some (newSetO w)) (kp : ∀ b o, h0.get? b = some o → h.get? b = some o) : PairsAt P w h0 S us 0 h := by
  refine ⟨⟨#[], 0, _, ⟨⟨_, g, ⟨rfl, rfl, rfl⟩, rfl⟩, fun e he => absurd he (by simp), ⟨List.Pairwise.nil, rfl, rfl, .inl rfl, fun x hx => absurd hx (by simp [SetTable.fresh]), fun i h j hi => absurd hi (by simp)⟩, ?_, (by show 0 * 5 < 7 * 3; decide), by decide⟩, Nat.le_refl _⟩, kp⟩
  cases e : w.params.followText "set-order"
  · exact .inr rfl
  · exact .inl rfl
theorem pair_adds {k : List Str} {b : Addr} (mem : Value.ref b ∈ us) (tx : TxK P w h0 k b) (h0S : h0.get? S = none) (hu : A.units < cLine) {i : Nat} (hi : i + 1 < 64) : Adds P w A S (PairsAt P w h0 S us) i (.ref b) := fun z Q E j fin => by
  obtain ⟨⟨es, ep, t, R, sz⟩, kp⟩ := j
  have tx1 : TxK P w z.heap k b := tx_keep tx fun o e _ => kp b o e
  unfold setAdd
  refine wpAny_holding (wpAny_bind (wpAny_pyHash_tuple hu tx1 ?_))
  refine add_tx (s := { z with toks := z.toks + (k.length + 1) }) R tx1 mem hu (by omega) fun c h' es' ep' t' sb R' sz' => fin c h' (z.toks + (k.length + 1)) (Nat.le_add_right _ _) sb ⟨⟨es', ep', t', R', by omega⟩, fun b o e => ?_⟩
  exact (sb.2 b fun q => by rw [q, h0S] at e; cases e).trans (kp b o e)
/-- sorted of such a set -/
theorem sorted_pset {good : List (V × Pr) → Prop} {Q : Value → Shared → Prop} (R : PSet P w s.heap a us es ep t) (hh : A.handled = none) (hu : A.units + 64 < cLine)
    (pick : ∀ vs : List Value, vs.Perm (es.toList.map (·.2)) → ∃ bs : List (V × Pr), EachIs (fun v (b : V × Pr) => RelV b.1 v) vs bs ∧ EachIs (fun v (b : V × Pr) => ∃ as, Reads s.heap v (pr b.2) as) vs bs ∧ good bs)
    (al : ∀ bs : List (V × Pr), AllAlike (bs.map fun b => pr b.2)) (so : ∀ bs : List (V × Pr), SortOk (bs.map fun b => pr b.2)) (dp : ∀ p : Pr, (pr p).depth ≤ 20)
    (h : ∀ (z : Shared) (h' : Heap) (n : Nat) (out : List Value) (bs : List (V × Pr)), (∀ b u, s.heap.get? b = some u → z.heap.get? b = some u) → z.gens = s.gens → z.os = s.os → (∀ b u, z.heap.get? b = some u → h'.get? b = some u) → h'.get? z.heap.objs.size = some (seqObj "list" (List.toArray out) n) → EachIs (fun v (b : V × Pr) => RelV b.1 v) out (bs.mergeSort (dataLe false fun b => pr b.2)) → good bs → bs.length = es.size → Q (.ref z.heap.objs.size) { z with heap := h' }) : wpAny (model P w) A (call (.builtin "sorted") [.ref a]) Q E s := by
  obtain ⟨o, go, ex, dat⟩ := R.own
  have few := R.few
  refine call_function_entry kind_sorted plain_sorted entry_sorted (args_sorted1 (.ref a)) ?_
  unfold Builtin.«sorted»
  refine wpAny_bind (m := checkCount "sorted" 1 1 _) (wpAny_pure (wpAny_bind (collect_set (A := A.in1) hh ⟨o, go, ex.1, dat⟩ R.fits (by unfold scanBound; omega) R.tab.ris R.text fun z vs k1 _ g1 o1 pm => ?_)))
  have lv : vs.length = es.size := by rw [pm.length_eq, List.length_map, Array.length_toList]
  have fits : vs.length ≤ sizeLine := by rw [sizeLine_eq]; omega
  obtain ⟨bs, e, er, gd⟩ := pick vs pm
  have lb : bs.length = es.size := by rw [← lv]; exact e.length.symm
  refine wpAny_bind (wpAny_newList ?_ fits)
  have at1 : (z.heap.push (seqObj "list" vs.toArray 0)).get? z.heap.objs.size = some (seqObj "list" vs.toArray 0) := Heap.get?_push_size _ rfl
  show wpAny _ _ _ _ _ { z with heap := z.heap.push (seqObj "list" vs.toArray 0) }
  have old : ∀ b u, s.heap.get? b = some u → b ≠ z.heap.objs.size ∧ (z.heap.push (seqObj "list" vs.toArray 0)).get? b = some u := fun b u e => ⟨Nat.ne_of_lt (Heap.lt_size (k1 b u e)), Heap.get?_push_of_some _ (k1 b u e)⟩
  have er' : EachIs (fun v (b : V × Pr) => ∃ as, Reads (sortingHeap (z.heap.push (seqObj "list" vs.toArray 0)) z.heap.objs.size vs) v (pr b.2) as) vs bs := er.mono fun _ _ ⟨as, r⟩ => ⟨as, PyProof.Rows.Reads.keeps (fun b u e => sortingHeap_old (old b u e).1 (old b u e).2) r⟩
  have hd : ∀ b, b ∈ bs → A.units + 2 + (pr b.2).depth < cLine := fun b _ => by
    have := dp b.2
    omega
  refine wpAny_bind (wpAny_holding (wpAny_call_entry slot_list_sort ⟨_, at1, rfl⟩ entry_list_sort (list_sort_vals (s := { z with heap := z.heap.push (seqObj "list" vs.toArray 0) }) at1
    (sorts_ok (s := { z with heap := sortingHeap (z.heap.push (seqObj "list" vs.toArray 0)) z.heap.objs.size vs }) (each_map (R := fun v d => ∃ as, Reads (sortingHeap (z.heap.push (seqObj "list" vs.toArray 0)) z.heap.objs.size vs) v d as) (fun b : V × Pr => pr b.2) er') (al bs) (so bs) (bound_map hd)) fits ⟨_, rfl, wpAny_pure ⟨_, rfl, ?_⟩⟩) (args_list_sort _)))
  obtain ⟨n, at2⟩ := sortedHeap_at (vs := vs) (out := (sortVals (dataKind (sortingHeap (z.heap.push (seqObj "list" vs.toArray 0)) z.heap.objs.size vs) (bs.map fun b => pr b.2)) false vs vs).toArray) at1
  refine h z _ n _ bs k1 g1 o1 (fun b u eu => ?_) at2 (sortVals_data false e er' (al bs)) gd lb
  have lt : b < z.heap.objs.size := Heap.lt_size eu
  rw [sortedHeap_old (Nat.ne_of_lt lt) (by rw [size_push']; exact Nat.lt_succ_of_lt lt)]
  exact Heap.get?_push_of_some _ eu
end
theorem pr_alike (p q : Pr) : alike (pr p) (pr q) = true := by simp [pr, alike, alikeAll]
theorem pr_depth (p : Pr) : (pr p).depth ≤ 20 := by simp [pr, PyData.depth, PyData.depthAll]
section
variable {X : Cx} {M : Mx} {Γ : Gm}
theorem E.sortSetP {e : Expr} {pos p p2 pos2 : Pos} {ps : List Pr} {k : Nat} (hr : Room k X.A) (hm1 : X.mg "sorted" = none) (hm2 : X.mg "set" = none) (h : E X M Γ e (L (ps.map pr))) (hz : ps.length ≤ 60) (hc : X.calm = true := by rfl) (g1 : Gl X "sorted" := by rfl) (g2 : Gl X "set" := by rfl)
    (he : starEach [e] X.env = (false, eval e X.env) :: starEach [] X.env := by rfl) (he2 : starEach [.Call (.Name "set" p2) [e] [] pos2] X.env = (false, eval (.Call (.Name "set" p2) [e] [] pos2) X.env) :: starEach [] X.env := by rfl) :
    E X M Γ (.Call (.Name "sorted" p) [.Call (.Name "set" p2) [e] [] pos2] [] pos) (.some (fun qs : List Pr => (∀ q ∈ qs, q ∈ ps) ∧ qs.length ≤ ps.length) fun qs => L (qs.map pr)) := fun σ H l pins s I => by
  have hu : X.A.units + 64 < cLine := hr.units
  refine Call_ (ld_blt I g1 hm1 (show bootBuiltins "sorted" = some (.builtin "sorted") by decide +kernel) ?_)
  refine PyProof.Rows.callWith_builtin1 (PyProof.Rows.args_cons ?_ (by rfl)) rfl rfl
  refine Call_ (ld_blt I g2 hm2 PyProof.Rows.boot_set ?_)
  refine PyProof.Rows.callWith_type1 (PyProof.Rows.args_cons (thn (h σ H l pins s I) fun v z ⟨x, H1, I1, r1, st1, hv⟩ => PyProof.Rows.args_nil ?_) he) he rfl
  obtain ⟨la, xs, rfl, e1, n1, rr⟩ : ∃ la xs, x = .ref la ∧ H1 la = some (.lst xs) ∧ ¬ M.ex la ∧ RpAll M.ex H1 xs (ps.map pr) := by
    cases hv with
    | lst e n r => exact ⟨_, _, rfl, e, n, r⟩
  obtain rfl : v = Value.ref la := r1
  obtain ⟨its, rv, pl, _⟩ := I1.list (SqL.of e1)
  have l1 := l.st st1
  have w1 := l1.hw
  have len : its.length = ps.length := by rw [← rv.length, rr.length, List.length_map]
  have one : ∀ v ∈ its, ∃ q ∈ ps, ∃ b, v = .ref b ∧ Rp M.ex H1 (.ref b) (pr q) ∧ TxK X.prog X.w z.heap [q.1, q.2] b := fun v hv => by
    obtain ⟨i, hi, rfl⟩ := List.getElem_of_mem hv
    have ip : i < ps.length := by omega
    obtain ⟨y, hy, ry⟩ := rr.get (i := i) (d := pr ps[i]) (by rw [List.getElem?_map, List.getElem?_eq_getElem ip]; rfl)
    obtain ⟨u, hu', ru⟩ := rv.get hy
    rw [List.getElem?_eq_getElem hi] at hu'
    obtain ⟨b, rfl⟩ : ∃ b, y = .ref b := by
      cases ry with
      | tup e n r => exact ⟨_, rfl⟩
    have eu : u = Value.ref b := ru
    refine ⟨ps[i], List.getElem_mem ip, b, by rw [Option.some.inj hu', eu], ry, ?_⟩
    cases ry with
    | @tup _ ys _ e n r =>
      obtain ⟨us, ru, ⟨o, ho, hcl, m, hd⟩, _⟩ := I1.tuple (SqT.of e)
      refine ⟨o, us.toArray, m, ho, hcl, hd, ?_⟩
      cases r with
      | cons a r =>
        cases r with
        | cons b r =>
          cases r
          cases a
          cases b
          cases ru with
          | cons r1 ru =>
            cases ru with
            | cons r2 ru =>
              cases ru
              obtain ⟨t1, rfl⟩ := r1
              obtain ⟨t2, rfl⟩ := r2
              exact .cons (strKind_is _ _ _ _) (.cons (strKind_is _ _ _ _) .nil)
  have nS : z.heap.get? z.heap.objs.size = none := Heap.get?_none_of_le (Nat.le_refl _)
  have nI : z.heap.get? (z.heap.objs.size + 1) = none := Heap.get?_none_of_le (Nat.le_succ _)
  have keys : ∀ v ∈ its, ∃ k b, v = Value.ref b ∧ TxK X.prog X.w z.heap k b := fun v hv => by
    obtain ⟨q, _, b, e, _, tx⟩ := one v hv
    exact ⟨_, b, e, tx⟩
  refine set_of_list (I1.ok.hd hc) pl.isList (PairsAt X.prog X.w z.heap z.heap.objs.size its) (fun i h h' j k => PairsAt.mv keys nI j k) (fun io => PairsAt.zero nS (Heap.get?_push_of_some _ (Heap.get?_push_size _ rfl)) fun b o e => Heap.get?_push_of_some _ (Heap.get?_push_of_some _ e)) (fun i v hv => ?_) fun h' tk j keep => ?_
  · have iv : v ∈ its := by
      rw [List.getElem?_toArray] at hv
      exact List.mem_of_getElem? hv
    have il : i < its.length := by
      rw [List.getElem?_toArray] at hv
      exact (List.getElem?_eq_some_iff.mp hv).1
    obtain ⟨q, _, b, rfl, _, tx⟩ := one v iv
    exact pair_adds iv tx nS (by show X.A.units + 1 + 1 + 1 < _; omega) (by omega)
  · refine PyProof.Rows.args_nil ?_
    obtain ⟨⟨es, ep, t, R, sz⟩, _⟩ := j
    have sz : es.size ≤ ps.length := by
      rw [← len]
      simpa using sz
    have I2 : Inv X pins σ H1 { z with heap := h', toks := tk } := I1.kept keep
    refine sorted_pset (s := { z with heap := h', toks := tk }) (good := fun bs => ∀ b ∈ bs, b.2 ∈ ps ∧ Rp M.ex H1 b.1 (pr b.2)) R (I1.ok.hd hc) hu (fun vs pm => ?_) (fun bs a ha b hb => ?_) (fun bs => .inl (.inl fun d hd => ?_)) pr_depth fun y h2 n out bs k1 gg oo k2 at2 eo gd lb => ?_
    · have mem : ∀ v ∈ vs, v ∈ its := fun v hv => by
        obtain ⟨e, he, rfl⟩ := List.mem_map.mp (pm.mem_iff.mp hv)
        exact (R.row e he).1
      clear pm
      induction vs with
      | nil => exact ⟨[], .nil, .nil, fun b hb => absurd hb (by simp)⟩
      | cons v vs ih =>
        obtain ⟨bs, a1, a2, a3⟩ := ih fun u hu => mem u (List.mem_cons_of_mem _ hu)
        obtain ⟨q, hq, b, rfl, rp, _⟩ := one v (mem v List.mem_cons_self)
        obtain ⟨as, rd⟩ := Dp.reads I2 (pr q) (.ref b) (.ref b) rp.dp rfl
        exact ⟨(.ref b, q) :: bs, .cons rfl a1, .cons ⟨as, rd⟩ a2, fun c hc => (List.mem_cons.mp hc).elim (fun e => by rw [e]; exact ⟨hq, rp⟩) (a3 c)⟩
    · obtain ⟨c, _, rfl⟩ := List.mem_map.mp ha
      obtain ⟨d, _, rfl⟩ := List.mem_map.mp hb
      exact pr_alike _ _
    · obtain ⟨c, _, rfl⟩ := List.mem_map.mp hd
      exact ⟨_, _, rfl⟩
    · have I3 : Inv X pins σ H1 y := I2.call' (s' := y) (ch := []) oo (Un.kept k1) (I2.hok.kept k1) (by rw [gg]; exact I2.bare) fun b z => absurd z (by simp)
      have rv' : ∀ {bs : List (V × Pr)} {out : List Value}, EachIs (fun v (b : V × Pr) => RelV b.1 v) out bs → Vals (bs.map (·.1)) out := fun {bs} => by
        induction bs with
        | nil =>
          intro out e
          cases e
          exact .nil
        | cons b bs ih =>
          intro out e
          cases e with
          | cons a r => exact .cons a (ih r)
      have pm : (bs.mergeSort (dataLe false fun b => pr b.2)).Perm bs := List.mergeSort_perm _ _
      generalize bs.mergeSort (dataLe false fun b => pr b.2) = cs at eo pm
      have gc : ∀ b ∈ cs, b.2 ∈ ps ∧ Rp M.ex H1 b.1 (pr b.2) := fun b hb => gd b (pm.mem_iff.mp hb)
      have lc : cs.length ≤ ps.length := by rw [pm.length_eq, lb]; exact sz
      have hp : H1 y.heap.objs.size = none := I3.hok.fresh (Nat.le_refl _)
      have nw := w1.new (o := .lst (cs.map (·.1))) hp
      refine ⟨.ref y.heap.objs.size, _, I3.laid (t' := y.toks) (o := .lst (cs.map (·.1))) k2 (Nat.le_refl _) ⟨by rw [List.length_map]; exact Nat.le_trans lc (Nat.le_trans hz (by decide)), out, n, rv' eo, at2⟩, rfl, st1.trans nw.1, cs.map (·.2), ⟨fun q hq => ?_, by rw [List.length_map]; exact lc⟩, .lst upd_same nw.2 ?_⟩
      · obtain ⟨b, hb, rfl⟩ := List.mem_map.mp hq
        exact (gc b hb).1
      · clear eo pm lc
        have kk := nw.1.kp w1
        generalize upd H1 y.heap.objs.size (.lst (cs.map (·.1))) = H2 at kk
        clear nw
        induction cs with
        | nil => exact .nil
        | cons b cs ih => exact .cons (Rp.fr kk (gc b List.mem_cons_self).2) (ih fun c hc => gc c (List.mem_cons_of_mem _ hc))
end
end HB


namespace HB
open PySem PySem.Spec PyProof.Rows L2 PySem.W
theorem zip_len : typeLookup (.type "zip") "__len__" = pure none := by
  rw [typeLookup_type]
  rw [builtinLookup_eq_fast]
  kernel_rfl
theorem zip_hint : typeLookup (.type "zip") "__length_hint__" = pure none := by
  rw [typeLookup_type]
  rw [builtinLookup_eq_fast]
  kernel_rfl
/-- a zip over two lists that has given i pairs -/
def ZS (S z TI TO i1 i2 l1 l2 : Addr) (xs ys : Array Value) (i : Nat) (h : Heap) : Prop :=
  (IsZip h z TI TO .none ∨ ∃ T f oT, IsZipHeld h z TI TO T f ∧ h.get? T = some oT ∧ T ≠ z ∧ T ≠ TO ∧ T ≠ i1 ∧ T ≠ i2 ∧ T ≠ S) ∧ IsPair h TI (.ref i1) (.ref i2) ∧ (∃ a b, IsPair h TO a b) ∧ h.IsListIter i1 l1 i ∧ h.IsListIter i2 l2 i ∧ h.IsList l1 xs ∧ h.IsList l2 ys
/-- what has been given -/
def ZA (xs ys : Array Value) (base : Nat) (i : Nat) (acc : Array Value) (h : Heap) : Prop := acc.size = i ∧ ∀ (j : Nat) v, acc[j]? = some v → ∃ T x y, v = .ref T ∧ base ≤ T ∧ IsPair h T x y ∧ xs[j]? = some x ∧ ys[j]? = some y
section
variable {P : Program} {w : World} {A : Around} {E : Value → Shared → Prop} {s : Shared} {z TI TO i1 i2 l1 l2 S base : Addr} {xs ys : Array Value}
theorem ZS.keep {i : Nat} {h h' : Heap} (q : ZS S z TI TO i1 i2 l1 l2 xs ys i h) (k : ∀ b o, b ≠ S → h.get? b = some o → h'.get? b = some o) (n : ∀ b ∈ [z, TI, TO, i1, i2, l1, l2], b ≠ S) : ZS S z TI TO i1 i2 l1 l2 xs ys i h' := by
  obtain ⟨q1, q2, ⟨a, b, q3⟩, q4, q5, q6, q7⟩ := q
  have at_ : ∀ b ∈ [z, TI, TO, i1, i2, l1, l2], ∀ o, h.get? b = some o → h'.get? b = some o := fun b hb o e => k b o (n b hb) e
  refine ⟨?_, at_ TI (by simp) _ q2, ⟨a, b, at_ TO (by simp) _ q3⟩, q4.at fun o e => at_ i1 (by simp) o e, q5.at fun o e => at_ i2 (by simp) o e, q6.at fun o e => at_ l1 (by simp) o e, q7.at fun o e => at_ l2 (by simp) o e⟩
  rcases q1 with q1 | ⟨T, f, oT, e1, e2, e3⟩
  · exact .inl (at_ z (by simp) _ q1)
  · exact .inr ⟨T, f, oT, at_ z (by simp) _ e1, k T oT e3.2.2.2.2 e2, e3⟩
theorem ZA.keep {i : Nat} {acc : Array Value} {h h' : Heap} (q : ZA xs ys base i acc h) (k : ∀ b o, base ≤ b → h.get? b = some o → h'.get? b = some o) : ZA xs ys base i acc h' := ⟨q.1, fun j v e => by
  obtain ⟨T, x, y, e1, e2, e3, e4⟩ := q.2 j v e
  exact ⟨T, x, y, e1, e2, k T _ e2 e3, e4⟩⟩
theorem zip_draw {i : Nat} (D : ZipApart z TI TO i1 i2 l1 l2) (q : ZS S z TI TO i1 i2 l1 l2 xs ys i s.heap) (hS : S < s.heap.objs.size) (hx : i < xs.size) (hy : i < ys.size) {Q : Option Value → Shared → Prop}
    (fin : ∀ h', ZS S z TI TO i1 i2 l1 l2 xs ys (i + 1) h' → IsPair h' s.heap.objs.size xs[i] ys[i] → (∀ c o, c ∉ [z, TO, i1, i2] → s.heap.get? c = some o → h'.get? c = some o) → h'.objs.size = s.heap.objs.size + 1 → Q (some (.ref s.heap.objs.size)) { s with heap := h' }) : wpAny (model P w) A (pyNext (.ref z)) Q E s := by
  obtain ⟨q1, q2, ⟨a, b, q3⟩, q4, q5, q6, q7⟩ := q
  have ex : xs[i]? = some xs[i] := Array.getElem?_eq_getElem hx
  have ey : ys[i]? = some ys[i] := Array.getElem?_eq_getElem hy
  have apart : ∀ {c o}, s.heap.get? c = some o → s.heap.objs.size ≠ c := fun e => Nat.ne_of_gt (Heap.lt_size e)
  have li1 : s.heap.objs.size ≠ i1 := by obtain ⟨_, e, _⟩ := q4; exact apart e
  have li2 : s.heap.objs.size ≠ i2 := by obtain ⟨_, e, _⟩ := q5; exact apart e
  rcases q1 with q1 | ⟨T, f, oT, e1, e2, t1, t2, t3, t4, t5⟩
  · refine wpAny_pyNext_zip_item D q1 q2 q3 q4 q5 q6 q7 ex ey fun h' a1 a2 a3 a4 a5 a6 hk => ?_
    refine fin h' ⟨.inr ⟨_, false, _, a1, a5, apart q1, apart q3, li1, li2, Nat.ne_of_gt hS⟩, hk _ _ D.TIz D.TITO D.TIi1 D.TIi2 q2, ⟨_, _, a2⟩, a3, a4, q6.at fun o e => hk _ o D.l1z D.l1TO D.l1i1 D.l1i2 e, q7.at fun o e => hk _ o D.l2z D.l2TO D.l2i1 D.l2i2 e⟩ a5 (fun c o hc e => ?_) a6
    · simp only [List.mem_cons, List.not_mem_nil, or_false, not_or] at hc
      exact hk c o hc.1 hc.2.1 hc.2.2.1 hc.2.2.2 e
  · refine wpAny_pyNext_zip_item_held D e1 e2 q2 q4 q5 q6 q7 ex ey fun h' a1 a3 a4 a5 a6 hk => ?_
    refine fin h' ⟨.inr ⟨T, true, oT, a1, hk T oT t1 t3 t4 e2, t1, t2, t3, t4, t5⟩, hk _ _ D.TIz D.TIi1 D.TIi2 q2, ⟨_, _, hk _ _ D.TOz D.TOi1 D.TOi2 q3⟩, a3, a4, q6.at fun o e => hk _ o D.l1z D.l1i1 D.l1i2 e, q7.at fun o e => hk _ o D.l2z D.l2i1 D.l2i2 e⟩ a5 (fun c o hc e => ?_) a6
    · simp only [List.mem_cons, List.not_mem_nil, or_false, not_or] at hc
      exact hk c o hc.1 hc.2.2.1 hc.2.2.2 e
theorem zip_over {i : Nat} (hh : A.handled = none) (D : ZipApart z TI TO i1 i2 l1 l2) (q : ZS S z TI TO i1 i2 l1 l2 xs ys i s.heap) (hend : xs[i]? = none ∨ ys[i]? = none) {Q : Option Value → Shared → Prop}
    (fin : ∀ h', (∀ c o, c ∉ [z, TO, i1, i2] → s.heap.get? c = some o → h'.get? c = some o) → Q none { s with heap := h' }) : wpAny (model P w) A (pyNext (.ref z)) Q E s := by
  obtain ⟨q1, q2, ⟨a, b, q3⟩, q4, q5, q6, q7⟩ := q
  rcases q1 with q1 | ⟨T, f, oT, e1, e2, t1, t2, t3, t4, t5⟩
  · refine wpAny_pyNext_zip_end hh D q1 q2 q3 q4 q5 q6 q7 hend fun h' hk => fin h' fun c o hc e => ?_
    simp only [List.mem_cons, List.not_mem_nil, or_false, not_or] at hc
    exact hk c o hc.1 hc.2.1 hc.2.2.1 hc.2.2.2 e
  · refine wpAny_pyNext_zip_end_held hh D e1 e2 q2 q4 q5 q6 q7 hend fun h' hk => fin h' fun c o hc e => ?_
    simp only [List.mem_cons, List.not_mem_nil, or_false, not_or] at hc
    exact hk c o hc.1 hc.2.2.1 hc.2.2.2 e
theorem zip_loop {R : Result → Shared → Prop} {res : Value} {n : Nat} (hh : A.in1.handled = none) (D : ZipApart z TI TO i1 i2 l1 l2) (ap : ∀ b ∈ [z, TI, TO, i1, i2, l1, l2], b ≠ S) (lo : ∀ b ∈ [z, TO, i1, i2, S], b < base) (hn : n = min xs.size ys.size) (hz : n ≤ sizeLine) :
    ∀ (r i : Nat) (s : Shared) (acc : Array Value) (c : Nat), i + r = n → ZS S z TI TO i1 i2 l1 l2 xs ys i s.heap → s.heap.get? S = some { cls := .type "list", dict := none, data := .seq acc c, slots := #[] } → ZA xs ys base i acc s.heap → base ≤ s.heap.objs.size →
      (∀ h' acc' c', (∀ b o, b ∉ [z, TO, i1, i2, S] → s.heap.get? b = some o → h'.get? b = some o) → h'.get? S = some { cls := .type "list", dict := none, data := .seq acc' c', slots := #[] } → ZA xs ys base n acc' h' → R (.ok (.ret res)) { s with heap := h' }) →
      codeAny (model P w) A (.builtin "list.extend.loop" ⟨[.ref S, .ref z, res], []⟩) R s := by
  have S4 : S ∉ [z, TO, i1, i2] := fun q => by
    simp only [List.mem_cons, List.not_mem_nil, or_false] at q
    rcases q with q | q | q | q
    · exact ap z (by simp) q.symm
    · exact ap TO (by simp) q.symm
    · exact ap i1 (by simp) q.symm
    · exact ap i2 (by simp) q.symm
  have hi4 : ∀ b, base ≤ b → b ∉ [z, TO, i1, i2] := fun b hb q => by
    have q5 : b ∈ [z, TO, i1, i2, S] := by
      simp only [List.mem_cons, List.not_mem_nil, or_false] at q ⊢
      rcases q with q | q | q | q <;> simp [q]
    exact absurd (lo b q5) (Nat.not_lt.mpr hb)
  have hiS : ∀ b, base ≤ b → b ≠ S := fun b hb q => absurd (lo b (by simp [q])) (Nat.not_lt.mpr hb)
  have sub4 : ∀ {b}, b ∉ [z, TO, i1, i2, S] → b ∉ [z, TO, i1, i2] ∧ b ≠ S := fun {b} hb => by
    simp only [List.mem_cons, List.not_mem_nil, or_false, not_or] at hb ⊢
    exact ⟨⟨hb.1, hb.2.1, hb.2.2.1, hb.2.2.2.1⟩, hb.2.2.2.2⟩
  intro r
  induction r with
  | zero =>
    intro i s acc c hi q gS za sz fin
    obtain rfl : i = n := hi
    apply codeAny_builtin PySem.F.entry_extend_loop
    rw [Around.under_plainId PySem.F.plain_extend_loop]
    show wpAny _ A.in1 (pyNext (.ref z) >>= _) _ _ s
    refine wpAny_bind (zip_over hh D q ?_ fun h' k => wpAny_pure (fin h' acc c (fun b o hb e => k b o (sub4 hb).1 e) (k S _ S4 gS) (za.keep fun b o hb e => k b o (hi4 b hb) e)))
    rcases Nat.le_total xs.size ys.size with le | le
    · exact .inl (Array.getElem?_eq_none (by omega))
    · exact .inr (Array.getElem?_eq_none (by omega))
  | succ r ih =>
    intro i s acc c hi q gS za sz fin
    have hx : i < xs.size := by omega
    have hy : i < ys.size := by omega
    apply codeAny_builtin PySem.F.entry_extend_loop
    rw [Around.under_plainId PySem.F.plain_extend_loop]
    show wpAny _ A.in1 (pyNext (.ref z) >>= _) _ _ s
    refine wpAny_bind (zip_draw D q (Heap.lt_size gS) hx hy fun h' q1 pr1 k1 sz1 => ?_)
    have gS1 := k1 S _ S4 gS
    show wpAny _ A.in1 (updateSeq S (·.push (.ref s.heap.objs.size)) >>= _) _ _ _
    refine wpAny_bind ?_
    have oth : ∀ b o, b ≠ S → h'.get? b = some o → (h'.update S (Obj.mapSeq (·.push (Value.ref s.heap.objs.size)))).get? b = some o := fun b o hb e => (Heap.get?_update_other _ _ (Ne.symm hb)).trans e
    refine wpAny_updateSeq (s := { s with heap := h' }) gS1 rfl (wpAny_pure ⟨plainId_quiet PySem.F.plain_extend_loop _, ih (i + 1) _ (acc.push (.ref s.heap.objs.size)) _ (by omega) (q1.keep oth ap) (Heap.get?_update_self _ gS1 rfl) ⟨by rw [Array.size_push, za.1], fun j v e => ?_⟩ ?_ fun h2 acc2 c2 k2 g2 za2 => ?_⟩) (by rw [za.1]; omega) (by show (acc.push _).size ≤ sizeLine + 1; rw [Array.size_push, za.1]; omega)
    · rw [Array.getElem?_push] at e
      split at e
      · rename_i ej
        rw [za.1] at ej
        subst ej
        have ev := Option.some.inj e
        subst ev
        exact ⟨_, _, _, rfl, sz, oth _ _ (hiS _ sz) pr1, Array.getElem?_eq_getElem hx, Array.getElem?_eq_getElem hy⟩
      · obtain ⟨T, x, y, e1, e2, e3, e4⟩ := za.2 j v e
        exact ⟨T, x, y, e1, e2, oth _ _ (hiS _ e2) (k1 _ _ (hi4 _ e2) e3), e4⟩
    · show base ≤ (h'.update S _).objs.size
      rw [Heap.size_update, sz1]
      exact Nat.le_succ_of_le sz
    · exact fin h2 acc2 c2 (fun b o hb e => k2 b o hb (oth b o (sub4 hb).2 (k1 b o (sub4 hb).1 e))) g2 za2
end
end HB


namespace HB
open PySem PySem.Spec PyProof.Rows L2 PySem.W
section
variable {P : Program} {w : World} {A : Around} {E : Value → Shared → Prop} {s : Shared} {z TI TO i1 i2 l1 l2 S : Addr} {xs ys : Array Value} {n : Nat}
theorem ZS.ty {i : Nat} (q : ZS S z TI TO i1 i2 l1 l2 xs ys i s.heap) : s.TypeIs (.ref z) "zip" := by
  rcases q.1 with q1 | ⟨T, f, oT, e1, _⟩
  · exact ⟨_, q1, rfl⟩
  · exact ⟨_, e1, rfl⟩
theorem zip_extend {R : Result → Shared → Prop} {res : Value} {c₀ : Nat} (hh : A.in1.handled = none) (D : ZipApart z TI TO i1 i2 l1 l2) (ap : ∀ b ∈ [z, TI, TO, i1, i2, l1, l2], b ≠ S) (lo : ∀ b ∈ [z, TO, i1, i2, S], b < s.heap.objs.size) (hn : n = min xs.size ys.size) (hz : n ≤ sizeLine)
    (q : ZS S z TI TO i1 i2 l1 l2 xs ys 0 s.heap) (qz : IsZip s.heap z TI TO .none) (gS : s.heap.get? S = some { cls := .type "list", data := .seq #[] c₀ })
    (fin : ∀ h' acc' c', (∀ b o, b ∉ [z, TO, i1, i2, S] → s.heap.get? b = some o → h'.get? b = some o) → h'.get? S = some { cls := .type "list", dict := none, data := .seq acc' c', slots := #[] } → ZA xs ys s.heap.objs.size n acc' h' → R (.ok (.ret res)) { s with heap := h' }) :
    wpAny (model P w) A.in1 (Builtin.List.listExtendWith (.ref S) (.ref z) res)
      (fun e t => match e with | .done f => R (.ok f) t | .again c => c.quiet = true ∧ codeAny (model P w) A c R t) (fun e t => R (.error e) t) s := by
  have nzS : S ≠ z := (ap z (by simp)).symm
  unfold PySem.Builtin.List.listExtendWith
  refine wpAny_bind (wpAny_typeOf q.ty ?_)
  have f1 : Builtin.List.listSameRef (.ref S) (.ref z) = false := by simp [Builtin.List.listSameRef, nzS]
  have f2 : (Value.type "zip" == Value.type "list") = false := by decide
  have f3 : (Value.type "zip" == Value.type "tuple") = false := by decide
  simp only [f1, f2, f3, Bool.or_false, Bool.false_eq_true, if_false]
  refine wpAny_bind (wpAny_pyIter_zip qz (wpAny_bind (wpAny_holding ?_)))
  unfold PySem.Builtin.List.listLengthHint
  refine wpAny_bind (wpAny_specialOf q.ty zip_len ?_)
  show wpAny _ A.in1 (specialOf (Value.ref z) (Str.ofString "__length_hint__") >>= _) _ _ _
  refine wpAny_bind (wpAny_specialOf q.ty zip_hint (wpAny_pure ?_))
  show wpAny _ A.in1 (rule "list.extend.makes-room" >>= fun _ => Builtin.List.listTouch (.ref S) >>= fun _ => again (.builtin "list.extend.loop" ⟨[.ref S, .ref z, res], []⟩)) _ _ _
  refine wpAny_bind (wpAny_rule (wpAny_bind (show wpAny (model P w) A.in1 (updateSeq S (·.push .none) >>= fun _ => updateSeq S (·.pop)) _ _ _ from ?_)))
  refine wpAny_bind (wpAny_updateSeq gS rfl ?_)
  have gS2 := Heap.get?_update_self (Obj.mapSeq (·.push Value.none)) gS rfl
  refine wpAny_updateSeq (hz := by seq_fits) gS2 rfl ?_
  have gS3 := Heap.get?_update_self (Obj.mapSeq (·.pop)) gS2 rfl
  have oth : ∀ b o, b ≠ S → s.heap.get? b = some o → ((s.heap.update S (Obj.mapSeq (·.push Value.none))).update S (Obj.mapSeq (·.pop))).get? b = some o := fun b o hb e => (Heap.get?_update_other _ _ (Ne.symm hb)).trans ((Heap.get?_update_other _ _ (Ne.symm hb)).trans e)
  have sz : ((s.heap.update S (Obj.mapSeq (·.push Value.none))).update S (Obj.mapSeq (·.pop))).objs.size = s.heap.objs.size := by rw [Heap.size_update, Heap.size_update]
  refine wpAny_pure ⟨plainId_quiet PySem.F.plain_extend_loop _, zip_loop (base := s.heap.objs.size) hh D ap lo hn hz n 0 _ _ _ (Nat.zero_add _) (q.keep oth ap) gS3 ⟨rfl, fun j v e => by simp at e⟩ (Nat.le_of_eq sz.symm) fun h' acc' c' k g za => fin h' acc' c' (fun b o hb e => k b o hb (oth b o (fun p => hb (by rw [p]; simp)) e)) g za⟩
theorem zip_init {R : Result → Shared → Prop} (hh : A.in1.handled = none) (D : ZipApart z TI TO i1 i2 l1 l2) (ap : ∀ b ∈ [z, TI, TO, i1, i2, l1, l2], b ≠ S) (lo : ∀ b ∈ [z, TO, i1, i2, S], b < s.heap.objs.size) (hn : n = min xs.size ys.size) (hz : n ≤ sizeLine)
    (q : ZS S z TI TO i1 i2 l1 l2 xs ys 0 s.heap) (qz : IsZip s.heap z TI TO .none) (gS : s.heap.get? S = some { cls := .type "list", data := .seq #[] })
    (fin : ∀ h' acc' c', (∀ b o, b ∉ [z, TO, i1, i2, S] → s.heap.get? b = some o → h'.get? b = some o) → h'.get? S = some { cls := .type "list", dict := none, data := .seq acc' c', slots := #[] } → ZA xs ys s.heap.objs.size n acc' h' → R (.ok (.ret .none)) { s with heap := h' }) :
    wpAny (model P w) A.in1 (Builtin.«list.__init__» ⟨[.ref S, .ref z], []⟩)
      (fun e t => match e with | .done f => R (.ok f) t | .again c => c.quiet = true ∧ codeAny (model P w) A c R t) (fun e t => R (.error e) t) s := by
  show wpAny _ A.in1 (do let was ← Builtin.List.listItems (.ref S); Builtin.List.listUpdate (.ref S) (fun _ => #[]); letGo was.toList.reverse; Builtin.List.listExtendWith (.ref S) (.ref z) .none) _ _ s
  refine wpAny_bind ?_
  unfold Builtin.List.listItems
  refine wpAny_bind (wpAny_seqItems gS rfl (wpAny_pure ?_))
  show wpAny _ A.in1 (updateSeq S (fun _ => #[]) >>= fun _ => letGo (#[] : Array Value).toList.reverse >>= fun _ => Builtin.List.listExtendWith (.ref S) (.ref z) .none) _ _ s
  refine wpAny_bind (wpAny_updateSeq gS rfl ?_)
  have gS2 := Heap.get?_update_self (Obj.mapSeq (fun _ => (#[] : Array Value))) gS rfl
  have oth : ∀ b o, b ≠ S → s.heap.get? b = some o → (s.heap.update S (Obj.mapSeq (fun _ => (#[] : Array Value)))).get? b = some o := fun b o hb e => (Heap.get?_update_other _ _ (Ne.symm hb)).trans e
  have sz : (s.heap.update S (Obj.mapSeq (fun _ => (#[] : Array Value)))).objs.size = s.heap.objs.size := Heap.size_update ..
  refine wpAny_bind (wpAny_letGo (zip_extend (s := { s with heap := s.heap.update S (Obj.mapSeq (fun _ => (#[] : Array Value))) }) hh D ap (fun b hb => by rw [show ({ s with heap := s.heap.update S (Obj.mapSeq (fun _ => (#[] : Array Value))) } : Shared).heap.objs.size = s.heap.objs.size from sz]; exact lo b hb) hn hz (q.keep oth ap) (oth z _ (ap z (by simp)) qz) gS2 fun h' acc' c' k g za => fin h' acc' c' (fun b o hb e => k b o hb (oth b o (fun p => hb (by rw [p]; simp)) e)) g (by rw [← sz]; exact za)))
theorem zip_list {Q : Value → Shared → Prop} (hh : A.in1.in1.handled = none) (D : ZipApart z TI TO i1 i2 l1 l2) (lo : ∀ b ∈ [z, TI, TO, i1, i2, l1, l2], b < s.heap.objs.size) (hn : n = min xs.size ys.size) (hz : n ≤ sizeLine)
    (q : ∀ S, ZS S z TI TO i1 i2 l1 l2 xs ys 0 s.heap) (qz : IsZip s.heap z TI TO .none)
    (fin : ∀ h' acc' c', (∀ b o, b ∉ [z, TO, i1, i2] → s.heap.get? b = some o → h'.get? b = some o) → h'.get? s.heap.objs.size = some { cls := .type "list", dict := none, data := .seq acc' c', slots := #[] } → ZA xs ys (s.heap.objs.size + 1) n acc' h' → Q (.ref s.heap.objs.size) { s with heap := h' }) :
    wpAny (model P w) A (PySem.call (.type "list") [.ref z]) Q E s := by
  refine callType_codes (Q₁ := fun v t => v = .ref s.heap.objs.size ∧ t = { s with heap := s.heap.push { cls := .type "list", data := .seq #[] } }) PySem.F.called_list (PySem.F.typeCall_list_1 _) PySem.F.entry_list_init (code_list_new _ ⟨rfl, rfl⟩) fun v t e => ?_
  obtain ⟨rfl, rfl⟩ := e
  have gS : (s.heap.push { cls := .type "list", data := .seq #[] }).get? s.heap.objs.size = some { cls := .type "list", data := .seq #[] } := Heap.get?_push_size _ rfl
  have sz : (s.heap.push { cls := .type "list", data := .seq #[] }).objs.size = s.heap.objs.size + 1 := Heap.size_push ..
  have up : ∀ b o, s.heap.get? b = some o → (s.heap.push { cls := .type "list", data := .seq #[] }).get? b = some o := fun b o e => Heap.get?_push_of_some _ e
  refine ⟨⟨_, gS, rfl⟩, PySem.F.args_list_init_2 _ _, zip_init (s := { s with heap := s.heap.push { cls := .type "list", data := .seq #[] } }) hh D (fun b hb => Nat.ne_of_lt (lo b hb)) (fun b hb => ?_) hn hz ((q _).keep (fun b o _ e => up b o e) (fun b hb => Nat.ne_of_lt (lo b hb))) (up _ _ qz) gS fun h' acc' c' k g za => ⟨rfl, fin h' acc' c' (fun b o hb e => k b o ?_ (up b o e)) g ?_⟩⟩
  · show b < (Heap.push s.heap _).objs.size
    rw [sz]
    (simp only [List.mem_cons, List.not_mem_nil, or_false] at hb)
    rcases hb with hb | hb | hb | hb | hb
    · exact Nat.lt_succ_of_lt (lo b (by simp [hb]))
    · exact Nat.lt_succ_of_lt (lo b (by simp [hb]))
    · exact Nat.lt_succ_of_lt (lo b (by simp [hb]))
    · exact Nat.lt_succ_of_lt (lo b (by simp [hb]))
    · rw [hb]
      exact Nat.lt_succ_self _
  · intro p
    simp only [List.mem_cons, List.not_mem_nil, or_false, not_or] at hb p
    rcases p with p | p | p | p | p
    · exact hb.1 p
    · exact hb.2.1 p
    · exact hb.2.2.1 p
    · exact hb.2.2.2 p
    · exact Nat.ne_of_lt (Heap.lt_size e) p
  · have za : ZA xs ys (s.heap.push { cls := .type "list", data := .seq #[] }).objs.size n acc' h' := za
    rw [sz] at za
    exact za
end
end HB


namespace HB
open PySem PySem.Spec PyProof.Rows L2 PySem.W
def backV : Value → V
  | .str x _ => .str x
  | _ => .non
/-- a tuple's contents, read off the heap -/
def readT (h : Heap) (b : Addr) : HO := match h.get? b with
  | some ⟨_, _, .seq its _, _⟩ => .tup (its.toList.map backV)
  | _ => .tup []
theorem RpAll.by {ex : Ads} {H : Hp} : ∀ {vs : List V} {ds : List PyData}, vs.length = ds.length → (∀ (j : Nat) v d, vs[j]? = some v → ds[j]? = some d → Rp ex H v d) → RpAll ex H vs ds
  | [], [], _, _ => .nil
  | [], _ :: _, e, _ => by cases e
  | _ :: _, [], e, _ => by cases e
  | v :: vs, d :: ds, e, h => .cons (h 0 v d rfl rfl) (RpAll.by (Nat.succ.inj e) fun j a b x y => h (j + 1) a b x y)
open Classical in
/-- the pairs and their list are known -/
noncomputable def withPairs (H : Hp) (h : Heap) (S : Addr) (acc : Array Value) : Hp := fun b => if b = S then some (.lst (acc.toList.map bkV)) else if Value.ref b ∈ acc.toList then some (readT h b) else H b
section
variable {X : Cx} {M : Mx} {Γ : Gm}
theorem E.listZip {a b : Expr} {pos p p2 pos2 : Pos} {xs ys : List Str} (hm1 : X.mg "list" = none) (hm2 : X.mg "zip" = none) (ha : E X M Γ a (L (xs.map .str))) (hb : E X M Γ b (L (ys.map .str))) (hz : xs.length ≤ 60) (hc : X.calm = true := by rfl) (g1 : Gl X "list" := by rfl) (g2 : Gl X "zip" := by rfl)
    (s1 : starEach [a, b] X.env = (false, eval a X.env) :: starEach [b] X.env := by rfl) (s2 : starEach [b] X.env = (false, eval b X.env) :: starEach [] X.env := by rfl) (hpl : (backTo pos2 (starEach [b] X.env)).any (·.1) = false := by rfl) (he2 : starEach [.Call (.Name "zip" p2) [a, b] [] pos2] X.env = (false, eval (.Call (.Name "zip" p2) [a, b] [] pos2) X.env) :: starEach [] X.env := by rfl) :
    E X M Γ (.Call (.Name "list" p) [.Call (.Name "zip" p2) [a, b] [] pos2] [] pos) (L ((xs.zip ys).map pr)) := fun σ H l pins s I => by
  have hA : A X M Γ [a, b] [L (xs.map .str), L (ys.map .str)] := .cons ha (.cons hb .nil s2) s1
  refine Call_ (ld_blt I g1 hm1 (show bootBuiltins "list" = some (.type "list") by decide +kernel) ?_)
  refine PyProof.Rows.callWith_type1 (PyProof.Rows.args_cons ?_ he2) he2 rfl
  refine Call_ (ld_blt I g2 hm2 PyProof.Rows.boot_zip (PyProof.Rows.callWith_type1 (thn (hA σ H l pos2 pins s I) fun us z ⟨vs, H1, I1, r1, st1, tys⟩ => ?_) s1 hpl))
  have l1 := l.st st1
  have w1 := l1.hw
  cases tys with
  | cons t1 tys =>
    cases tys with
    | cons t2 tys =>
      cases tys
      cases r1 with
      | cons ra r1 =>
        cases r1 with
        | cons rb r1 =>
          cases r1
          cases t1 with
          | @lst la va _ ea na rra =>
            cases t2 with
            | @lst lb vb _ eb nb rrb =>
              cases ra
              cases rb
              obtain ⟨ia, rva, pa, _⟩ := I1.list (SqL.of ea)
              obtain ⟨ib, rvb, pb, _⟩ := I1.list (SqL.of eb)
              have lea : ia.length = xs.length := by rw [← rva.length, rra.length, List.length_map]
              have leb : ib.length = ys.length := by rw [← rvb.length, rrb.length, List.length_map]
              have str_at : ∀ {ws : List Str} {vw : List V} {iw : List Value}, RpAll M.ex H1 vw (ws.map .str) → Vals vw iw → ∀ (j : Nat) (u : Value), iw[j]? = some u → ∃ y tk, ws[j]? = some y ∧ u = .str y tk := fun {ws vw iw} rr rv j u hu => by
                have jl : j < ws.length := by
                  have := (List.getElem?_eq_some_iff.mp hu).1
                  have h2 := rr.length
                  rw [List.length_map] at h2
                  have h3 := rv.length
                  omega
                obtain ⟨y, hy, ry⟩ := rr.get (i := j) (d := .str ws[j]) (by rw [List.getElem?_map, List.getElem?_eq_getElem jl]; rfl)
                obtain ⟨u', hu', ru⟩ := rv.get hy
                rw [hu] at hu'
                cases hu'
                cases ry
                obtain ⟨tk, rfl⟩ := ru
                exact ⟨_, tk, List.getElem?_eq_getElem jl, rfl⟩
              refine call_zip_2 pa.isList pb.isList fun h1 hz1 hTI hTO k1 k2 sz1 kp1 => ?_
              apply PyProof.Rows.args_nil
              have D := ktu_apart z.heap.objs.size la lb pa.lt pb.lt
              have keepL : ∀ {q : Addr} {its : Array Value}, z.heap.IsList q its → h1.IsList q its := fun ⟨o, e, r⟩ => ⟨o, kp1 _ o e, r⟩
              have qs : ∀ S, ZS S (z.heap.objs.size + 4) (z.heap.objs.size + 2) (z.heap.objs.size + 3) z.heap.objs.size (z.heap.objs.size + 1) la lb ia.toArray ib.toArray 0 h1 := fun S => ⟨.inl hz1, hTI, ⟨_, _, hTO⟩, k1, k2, keepL pa.isList, keepL pb.isList⟩
              refine zip_list (s := { z with heap := h1 }) (n := Nat.min ia.toArray.size ib.toArray.size) (I1.ok.hd hc) D (fun c hcm => ?_) rfl ?_ qs hz1 fun h' acc c kp2 gS za => ?_
              · show c < h1.objs.size
                rw [sz1]
                have la' := pa.lt
                have lb' := pb.lt
                simp only [List.mem_cons, List.not_mem_nil, or_false] at hcm
                rcases hcm with e | e | e | e | e | e | e <;> rw [e] <;> first | exact Nat.add_lt_add_left (by decide) _ | exact Nat.lt_add_of_pos_right (by decide) | exact Nat.lt_of_lt_of_le la' (Nat.le_add_right _ _) | exact Nat.lt_of_lt_of_le lb' (Nat.le_add_right _ _)
              · refine Nat.le_trans (Nat.min_le_left _ _) ?_
                rw [List.size_toArray, lea]
                exact Nat.le_trans hz (by decide)
              · have sz1 : h1.objs.size = z.heap.objs.size + 5 := sz1
                have gS : h'.get? h1.objs.size = some { cls := .type "list", dict := none, data := .seq acc c, slots := #[] } := gS
                have za : ZA ia.toArray ib.toArray (h1.objs.size + 1) (Nat.min ia.toArray.size ib.toArray.size) acc h' := za
                have keepAll : ∀ d o, z.heap.get? d = some o → h'.get? d = some o := fun d o e => kp2 d o (fun q => by
                  have ld := Heap.lt_size e
                  simp only [List.mem_cons, List.not_mem_nil, or_false] at q
                  rcases q with q | q | q | q <;> rw [q] at ld <;> first | exact absurd ld (Nat.not_lt.mpr (Nat.le_add_right _ _)) | exact absurd ld (Nat.lt_irrefl _)) (kp1 d o e)
                have tl : ∀ {d u}, H1 d = some u → d < z.heap.objs.size := fun {d u} e => (I1.hok d u e).lt
                have of_acc : ∀ d, Value.ref d ∈ acc.toList → z.heap.objs.size < d ∧ ∃ x y : Str, readT h' d = .tup [.str x, .str y] ∧ ∃ t t' : Tok, IsPair h' d (.str x t) (.str y t') := fun d hd => by
                  obtain ⟨j, hj, e⟩ := List.getElem_of_mem hd
                  have ej : acc[j]? = some (.ref d) := by rw [← Array.getElem?_toList, List.getElem?_eq_getElem hj, e]
                  obtain ⟨T, x, y, e1, e2, e3, e4, e5⟩ := za.2 j _ ej
                  cases e1
                  rw [List.getElem?_toArray] at e4 e5
                  obtain ⟨x', t, _, rfl⟩ := str_at rra rva j x e4
                  obtain ⟨y', t', _, rfl⟩ := str_at rrb rvb j y e5
                  have e2 : h1.objs.size + 1 ≤ d := e2
                  refine ⟨by omega, x', y', ?_, t, t', e3⟩
                  unfold readT
                  rw [e3]
                  rfl
                have nS : H1 h1.objs.size = none := I1.hok.fresh (by omega)
                have nA : ∀ d, Value.ref d ∈ acc.toList → H1 d = none := fun d hd => I1.hok.fresh (Nat.le_of_lt (of_acc d hd).1)
                have nSA : Value.ref h1.objs.size ∉ acc.toList := fun q => by
                  obtain ⟨j, hj, e⟩ := List.getElem_of_mem q
                  have ej : acc[j]? = some (.ref h1.objs.size) := by rw [← Array.getElem?_toList, List.getElem?_eq_getElem hj, e]
                  obtain ⟨T, x, y, e1, e2, _⟩ := za.2 j _ ej
                  cases e1
                  have e2 : h1.objs.size + 1 ≤ h1.objs.size := e2
                  omega
                have atS : withPairs H1 h' h1.objs.size acc h1.objs.size = some (.lst (acc.toList.map bkV)) := if_pos rfl
                have atA : ∀ d, Value.ref d ∈ acc.toList → withPairs H1 h' h1.objs.size acc d = some (readT h' d) := fun d hd => (if_neg (fun q => nSA (by rw [← q]; exact hd))).trans (if_pos hd)
                have old : ∀ d u, H1 d = some u → withPairs H1 h' h1.objs.size acc d = some u := fun d u e => ((if_neg (fun q => by rw [q, nS] at e; cases e)).trans (if_neg (fun q => by rw [nA d q] at e; cases e))).trans e
                have split3 : ∀ d u, withPairs H1 h' h1.objs.size acc d = some u → (d = h1.objs.size ∧ u = .lst (acc.toList.map bkV)) ∨ (Value.ref d ∈ acc.toList ∧ u = readT h' d) ∨ H1 d = some u := fun d u e => by
                  unfold withPairs at e
                  split at e
                  · exact .inl ⟨‹_›, (Option.some.inj e).symm⟩
                  · split at e
                    · exact .inr (.inl ⟨‹_›, (Option.some.inj e).symm⟩)
                    · exact .inr (.inr e)
                have refs : ∀ u ∈ acc.toList, ∃ d, u = Value.ref d := fun u hu => by
                  obtain ⟨j, hj, e⟩ := List.getElem_of_mem hu
                  obtain ⟨T, x, y, e1, _⟩ := za.2 j u (by rw [← Array.getElem?_toList, List.getElem?_eq_getElem hj, e])
                  exact ⟨T, e1⟩
                have alen : acc.toList.length = Nat.min xs.length ys.length := by
                  rw [Array.length_toList, za.1, List.size_toArray, List.size_toArray, lea, leb]
                have hok' : HOk X.prog X.w (withPairs H1 h' h1.objs.size acc) h' := fun d u e => by
                  rcases split3 d u e with ⟨rfl, rfl⟩ | ⟨q, rfl⟩ | q
                  · refine ⟨?_, acc.toList, c, bkV_vals refs, by rw [Array.toArray_toList]; exact gS⟩
                    rw [List.length_map, alen]
                    exact Nat.le_trans (Nat.min_le_left _ _) (Nat.le_trans hz (by decide))
                  · obtain ⟨_, x, y, e1, t, t', e2⟩ := of_acc d q
                    rw [e1]
                    exact ⟨by show 2 ≤ sizeLine; decide, [.str x t, .str y t'], .cons ⟨t, rfl⟩ (.cons ⟨t', rfl⟩ .nil), ⟨_, e2, rfl, _, rfl⟩⟩
                  · exact (I1.hok d u q).stay (fun c v _ g => keepAll c v g) (fun c g => old c _ g) fun c zs g => old c _ g
                have un : Un X.fs [] H1 (withPairs H1 h' h1.objs.size acc) z.heap h' := by
                  refine ⟨fun d o e _ _ _ => keepAll d o e, fun d o e _ _ _ => ⟨o.slots, keepAll d o e⟩, fun d o e n _ => ?_, fun d o e _ => ⟨o, keepAll d o e⟩, fun d zs e => old d _ e, fun d o u e => old d _ e, fun d ps e => ⟨#[], by rw [old d _ e]; simp⟩⟩
                  have ld := Heap.lt_size e
                  cases q : withPairs H1 h' h1.objs.size acc d with
                  | none => rfl
                  | some u =>
                    rcases split3 d u q with ⟨q1, _⟩ | ⟨q1, _⟩ | q1
                    · rw [q1, sz1] at ld
                      exact absurd ld (Nat.not_lt.mpr (Nat.le_add_right _ _))
                    · exact absurd ld (Nat.lt_asymm (of_acc d q1).1)
                    · rw [n] at q1
                      cases q1
                have J := I1.un (t' := z.toks) un hok'
                have kk : Kp M.ex M.ex H1 (withPairs H1 h' h1.objs.size acc) := .of fun d o e n => ⟨old d o e, n⟩
                have st2 : St M H1 (withPairs H1 h' h1.objs.size acc) := by
                  refine ⟨fun d o e _ => old d o e, fun q hq => ?_, fun d o u e => ?_⟩
                  · obtain ⟨_, o, e, f⟩ := w1.ph q hq
                    exact ⟨o, old _ _ e, q.2.fr kk f⟩
                  · rcases split3 d _ e with ⟨_, q⟩ | ⟨q1, q⟩ | q
                    · cases q
                    · obtain ⟨_, x, y, e1, _⟩ := of_acc d q1
                      rw [e1] at q
                      cases q
                    · exact q
                refine ⟨.ref h1.objs.size, _, J, rfl, st1.trans st2, .lst atS (w1.fresh nS) (RpAll.by (by rw [List.length_map, List.length_map, alen, List.length_zip]) fun j v d e1 e2 => ?_)⟩
                rw [List.getElem?_map] at e1 e2
                obtain ⟨u, hu, rfl⟩ := Option.map_eq_some_iff.mp e1
                obtain ⟨q, hq, rfl⟩ := Option.map_eq_some_iff.mp e2
                obtain ⟨T, x, y, rfl, _, e3, e4, e5⟩ := za.2 j u (by rw [← Array.getElem?_toList]; exact hu)
                rw [List.getElem?_toArray] at e4 e5
                obtain ⟨x', t, hx, rfl⟩ := str_at rra rva j x e4
                obtain ⟨y', t', hy, rfl⟩ := str_at rrb rvb j y e5
                have eq : q = (x', y') := by
                  obtain ⟨z1, z2⟩ := List.getElem?_zip_eq_some.mp hq
                  rw [hx] at z1
                  rw [hy] at z2
                  exact Prod.ext (Option.some.inj z1).symm (Option.some.inj z2).symm
                subst eq
                have mT : Value.ref T ∈ acc.toList := List.mem_of_getElem? hu
                have rT : readT h' T = .tup [.str x', .str y'] := by
                  unfold readT
                  rw [e3]
                  rfl
                exact .tup ((atA T mT).trans (by rw [rT])) (w1.fresh (nA T mT)) (.cons (.str _) (.cons (.str _) .nil))
end
end HB


namespace HB
open PySem L2 PyProof.Rows PySem.Spec
section
variable {X : Cx} {M M0 : Mx} {Γ : Gm} {e a b : Expr} {T : Ty} {pos p : Pos} {α : Type} {enc : α → PyData} {ps : List α} {S R : List α → Prop} {ds : List PyData} {rest : List Stmt} {D : Ends} {x : Str}
/-- a list and a list that is known by a letter, joined -/
theorem E.catS (ha : E X M Γ a (L (ps.map enc))) (hb : E X M Γ b (.some S fun qs => L (qs.map enc))) (hz : ∀ qs, S qs → ps.length + qs.length ≤ 100000) : E X M Γ (.BinOp a .Add b pos) (.some (fun rs => ∃ qs, S qs ∧ rs = ps ++ qs) fun rs => L (rs.map enc)) :=
  E.bin op_cat ha hb (Op2.rr fun qs hq => Op2.out (ps ++ qs) ⟨qs, hq, rfl⟩ (by rw [List.map_append]; exact Op2.catL (by rw [List.length_map, List.length_map]; exact hz qs hq)))
theorem E.max2s {S R : Int → Prop} (hm : X.mg "max" = none) (ha : E X M Γ a (Is S)) (hb : E X M Γ b (Is R)) (hc : X.calm = true := by rfl) (hg : Gl X "max" := by rfl) (s1 : starEach [a, b] X.env = (false, eval a X.env) :: starEach [b] X.env := by rfl) (s2 : starEach [b] X.env = (false, eval b X.env) :: starEach [] X.env := by rfl)
    (hpl : (backTo pos (starEach [b] X.env)).any (·.1) = false := by rfl) : E X M Γ (.Call (.Name "max" p) [a, b] [] pos) (Is fun k => ∃ i, S i ∧ ∃ j, R j ∧ k = if j > i then j else i) :=
  E.callB (call_max2 hc) (by decide +kernel) hm (.cons ha (.cons hb .nil s2) s1) (.two fun v u H Q w ⟨i, si, h1⟩ ⟨j, sj, h2⟩ k => by
    cases h1
    cases h2
    exact ⟨i, j, rfl, k _ H (St.refl w) ⟨_, ⟨i, si, j, sj, rfl⟩, .int _⟩⟩) hg (he := s1) (hpl := hpl)
theorem E.min2s {S R : Int → Prop} (hm : X.mg "min" = none) (ha : E X M Γ a (Is S)) (hb : E X M Γ b (Is R)) (hc : X.calm = true := by rfl) (hg : Gl X "min" := by rfl) (s1 : starEach [a, b] X.env = (false, eval a X.env) :: starEach [b] X.env := by rfl) (s2 : starEach [b] X.env = (false, eval b X.env) :: starEach [] X.env := by rfl)
    (hpl : (backTo pos (starEach [b] X.env)).any (·.1) = false := by rfl) : E X M Γ (.Call (.Name "min" p) [a, b] [] pos) (Is fun k => ∃ i, S i ∧ ∃ j, R j ∧ k = if j < i then j else i) :=
  E.callB (call_min2 hc) (by decide +kernel) hm (.cons ha (.cons hb .nil s2) s1) (.two fun v u H Q w ⟨i, si, h1⟩ ⟨j, sj, h2⟩ k => by
    cases h1
    cases h2
    exact ⟨i, j, rfl, k _ H (St.refl w) ⟨_, ⟨i, si, j, sj, rfl⟩, .int _⟩⟩) hg (he := s1) (hpl := hpl)
/-- whatever the two tests answer -/
theorem CW.anyAnd {S1 S2 : Bool → Prop} {es : List Expr} (h : C X M Γ a S1) (g : CW X M Γ (.BoolOp .And (b :: es) pos) S2) : CW X M Γ (.BoolOp .And (a :: b :: es) pos) (fun _ => True) := by
  obtain ⟨t, p, k⟩ := g
  refine ⟨_, pw_and pt_w p, fun σ H l Q k2 => (h σ H l).mono fun c H1 ⟨s, q⟩ => ?_⟩
  cases c with
  | true =>
    rw [if_pos rfl]
    exact k σ H1 (l.st s) Q fun c H2 s2 q2 => k2 c H2 (s.trans s2) trivial
  | false =>
    (rw [if_neg Bool.false_ne_true])
    exact k2 _ H1 s trivial
theorem E.eqsB {S R : Int → Prop} (ha : E X M Γ a (Is S)) (hb : E X M Γ b (Is R)) : E X M Γ (.Compare a [.Eq] [b] pos) (.some (fun _ : Bool => True) Bo) := E.cmp op_eq (nomark _) ha hb (Op2.ll fun i si => Op2.rr fun j sj => Op2.out (decide (i = j)) trivial Op2.eqI)
/-- [d] * k -/
theorem E.rep {d : PyData} {k : Int} (ha : E X M Γ a (L [d])) (hb : E X M Γ b (I k)) (h0 : 0 ≤ k) (h1 : k ≤ 1000) : E X M Γ (.BinOp a .Mult b pos) (L (List.replicate k.toNat d)) := E.bin op_rep ha hb fun x y H Q w h1' h2 q => by
  cases h2
  cases h1' with
  | @lst c xs _ e n r =>
    cases r with
    | @cons v0 _ _ _ r1 r =>
      cases r
      refine ⟨c, k, _, rfl, rfl, e, by omega, by omega, Nat.le_trans (show 1 * k.toNat ≤ 1000 by omega) (by decide), fun p hp => ?_⟩
      have z := w.new (o := .lst (List.replicate k.toNat [v0]).flatten) hp
      refine q _ _ z.1 (.lst upd_same z.2 ?_)
      have key : ∀ n : Nat, RpAll M.ex H (List.replicate n [v0]).flatten (List.replicate n d) := by
        intro n
        induction n with
        | zero => exact .nil
        | succ n ih => exact .cons r1 ih
      exact (key _).fr (z.1.kp w)
/-- e makes a new object, its contents known by a letter -/
def EFS (X : Cx) (M : Mx) (Γ : Gm) (e : Expr) {α : Type} (S : α → Prop) (c : α → Cn) : Prop := ∀ σ H, Loc M Γ σ H → wE X e σ H fun v H' => ∃ (z : α) (p : Addr) (H1 : Hp) (o : HO), S z ∧ v = .ref p ∧ St M H H1 ∧ H1 p = none ∧ NoF o ∧ H' = upd H1 p o ∧ (c z).P (M.add p (c z)).ex H' o
theorem EFS.cat (ha : E X M Γ a (.some S fun ps => L (ps.map enc))) (hb : E X M Γ b (.some R fun ps => L (ps.map enc))) (hz : ∀ ps, S ps → ∀ qs, R qs → ps.length + qs.length ≤ 100000) : EFS X M Γ (.BinOp a .Add b pos) (fun rs => ∃ ps, S ps ∧ ∃ qs, R qs ∧ rs = ps ++ qs) fun rs : List α => cnL (rs.map enc) := fun σ H l =>
  wE.of (pe_op op_cat pe_w pe_w) (two ha hb l fun x y H2 w s ⟨ps, hp, h1⟩ ⟨qs, hq, h2⟩ => by
    cases h1 with
    | @lst a xs _ e n h =>
      cases h2 with
      | @lst b ys _ e' n' h' =>
        refine ⟨a, b, xs, ys, rfl, rfl, e, e', Nat.le_trans (by rw [h.length, h'.length, List.length_map, List.length_map]; exact hz ps hp qs hq) (by decide), fun q hq' => ⟨ps ++ qs, q, H2, _, ⟨ps, hp, qs, hq, rfl⟩, rfl, s, hq', fun _ _ z => (by cases z), rfl, _, rfl, ?_⟩⟩
        rw [List.map_append]
        exact (h.append h').fr (kp_add hq'))
theorem B.newS {α : Type} {S : α → Prop} {c : α → Cn} {pn : Pos} (i : Nat) (he : EFS X M Γ e S c) (h : ∀ z, S z → ∀ p, ¬ M.ex p → (∀ b ∈ M.bs, b p = none) → B X (M.add p (c z)) (Γ.set i (some (Ty.is (.ref p)))) rest D) (hN : X.N.Nodup) (hi : X.N[i]? = some x := by rfl) (hx : L2.Loc X.env.scope x := by first | exact Or.inl rfl | exact Or.inr rfl)
    (hs : swapsWith e (some (.Name x pn)) pos.line X.env = pure false := by rfl) (hf : X.fn x = true ∨ X.env.scope.names.lookup x = some .local := by first | exact .inl rfl | exact .inr rfl) : B X M Γ (.Assign [.Name x pn] e pos :: rest) D :=
  .ps (ps_set hN hi hx pe_w hs hf) fun σ H l => (he σ H l).mono fun v H1 ⟨z, p, H2, o, sz, ev, s, hp, no, eH, hc⟩ => by
    subst ev
    obtain ⟨l1, n1, n2⟩ := EF.loc l s hp no eH hc
    exact h z sz p n1 n2 _ H1 (l1.set rfl)
theorem B.openS {β : Sort _} {S : β → Prop} {f : β → Ty} (i : Nat) (hi : i < Γ.length) (h : ∀ a, S a → B X M (Γ.set i (some (f a))) rest D) : B X M (Γ.set i (some (.some S f))) rest D := fun σ H l => by
  obtain ⟨a, sa, l'⟩ := l.some hi
  exact h a sa σ H l'
/-- a, b = e1, e2 by way of a tuple, each known by a letter -/
theorem B.unpS {β γ : Type} {Sa : β → Prop} {Sb : γ → Prop} {Ta : β → Ty} {Tb : γ → Ty} {y : Str} {px py pt p2 : Pos} {kt k2 : Nat} (i j : Nat) (ha : E X M Γ a (.some Sa Ta)) (hb : E X M Γ b (.some Sb Tb)) (h : ∀ u, Sa u → ∀ v, Sb v → B X M ((Γ.set i (some (Ta u))).set j (some (Tb v))) rest D) (hN : X.N.Nodup) (hij : i ≠ j) (li : i < Γ.length) (lj : j < Γ.length) (hi : X.N[i]? = some x := by rfl) (hj : X.N[j]? = some y := by rfl)
    (hx : L2.Loc X.env.scope x := by first | exact Or.inl rfl | exact Or.inr rfl) (hy : L2.Loc X.env.scope y := by first | exact Or.inl rfl | exact Or.inr rfl) (hs : swapsWithSole [.Tuple [.Name x px, .Name y py] kt pt] (.Tuple [a, b] k2 p2) pos.line X.env = pure false := by rfl)
    (hw : swappedStores [.Tuple [.Name x px, .Name y py] kt pt] (.Tuple [a, b] k2 p2) X.env = pure none := by rfl) (h1 : (assignEach [.Tuple [.Name x px, .Name y py] kt pt] X.env).map (·.2) = [assign (.Tuple [.Name x px, .Name y py] kt pt) X.env] := by rfl)
    (f1 : X.fn x = true ∨ X.env.scope.names.lookup x = some .local := by first | exact .inl rfl | exact .inr rfl) (f2 : X.fn y = true ∨ X.env.scope.names.lookup y = some .local := by first | exact .inl rfl | exact .inr rfl)
    (n1 : (assignEach [.Name x px, .Name y py] X.env).length = 2 := by rfl) (n2 : (assignEach [.Name x px, .Name y py] X.env).findIdx? (·.1) = none := by rfl)
    (m1 : (assignEach [.Name x px, .Name y py] X.env).map (·.2) = assign (.Name x px) X.env :: (assignEach [.Name y py] X.env).map (·.2) := by rfl) (m2 : (assignEach [.Name y py] X.env).map (·.2) = assign (.Name y py) X.env :: (assignEach [] X.env).map (·.2) := by rfl) (hc : X.calm = true := by rfl)
    (s1 : starEach [a, b] X.env = (false, eval a X.env) :: starEach [b] X.env := by rfl) (s2 : starEach [b] X.env = (false, eval b X.env) :: starEach [] X.env := by rfl) : B X M Γ (.Assign [.Tuple [.Name x px, .Name y py] kt pt] (.Tuple [a, b] k2 p2) pos :: rest) D :=
  B.unp i j (E.tup (.cons ha (.cons hb .nil s2) s1)) (by
    refine B.openS j (by rw [List.length_set]; exact lj) fun v hv => ?_
    rw [List.set_comm _ _ hij]
    refine B.openS i (by rw [List.length_set]; exact li) fun u hu => ?_
    rw [List.set_comm _ _ hij.symm]
    exact h u hu v hv) hN hi hj hx hy hs hw h1 f1 f2 n1 n2 m1 m2 hc
theorem E.tiesS {m j : Nat} {p2 : Pos} {S : Wb → Prop} (hr : Room m X.A) (h : E X M Γ e (.some S plT)) : E X M Γ (.Subscript e (.Constant (.str "ties") j p2) pos) (.some (fun ps : List Pr => ∃ w, S w ∧ ps = w.2) fun ps => L (ps.map pr)) := fun σ H l =>
  wE.of (pe_dget (by have := hr.un; omega) pe_w pe_w (fun _ _ => rfl)) ((h σ H l).mono fun v H1 ⟨s1, wb, sw, h1⟩ => (E.str (M := M) (Γ := Γ) σ H1 (l.st s1)).mono fun y H2 ⟨s2, h2⟩ => by
    obtain ⟨q, kvs, rfl, e, n, r⟩ := (plT wb).fr (s2.kp (l.hw.st s1)) h1
    cases h2
    obtain ⟨v, e', h⟩ := prd_val (T := L (wb.2.map pr)) (k := .inr "ties") r (by rfl)
    exact ⟨q, v, rfl, .inl ⟨kvs, .inr _, e, rfl, e'.symm⟩, s1.trans s2, wb.2, ⟨wb, sw, rfl⟩, h⟩)
end
end HB


namespace HB
open PySem L2 PyProof.Rows PySem.Spec
section
variable {X : Cx} {M : Mx} {Γ : Gm} {elt iter cnd : Expr} {scope : Scope} {pos tp lpos pn : Pos} {α β : Type} {enc : α → PyData} {xs : List α} {x y : Str} {rest : List Stmt} {D : Ends}
theorem B.lcF (i : Nat) (f : α → Bool) (h : α → PyData) (j : Nat) (hw : W X M Γ true (.Name x tp) iter (· = (xs.map enc).map HB.D)) (own : List (Str × Nat))
    (ht : ∀ a ∈ xs, ∀ p acc, Cb X scope (M.add p (cnL acc)) ((wipeG Γ (own.map (·.2))).set j (some (HB.D (enc a)))) cnd (· = f a)) (he : ∀ a ∈ xs, f a = true → ∀ p acc, Eb X scope (M.add p (cnL acc)) ((wipeG Γ (own.map (·.2))).set j (some (HB.D (enc a)))) elt (HB.D (h a)))
    (hz : xs.length ≤ 100000) (k : B X M (Γ.set i (some (L ((xs.filter f).map h)))) rest D) (ok : BlkOk X.N X.env.scope scope own) (hN : X.N.Nodup) (hsw : swapsWith (.ListComp elt [⟨.Name x tp, iter, [cnd], 0⟩] scope lpos) (some (.Name y pn)) pos.line X.env = pure true := by rfl) (hy : X.N[i]? = some y := by rfl) (hyl : X.env.scope.names.lookup y = some .local := by rfl) (hi : X.N[j]? = some x := by rfl) (hj : j ∈ own.map (·.2) := by decide)
    (hl : ∀ (A : Addr) (cl : List (Str × Addr)), (compEnvC scope cl A X.env).scope.names.lookup x = some .local := by intro _ _; rfl) (hc : X.calm = true := by rfl) (hs : ∀ x, foldedSetIterable iter X.env x = pure x := by intro _; rfl) : B X M Γ (.Assign [.Name y pn] (.ListComp elt [⟨.Name x tp, iter, [cnd], 0⟩] scope lpos) pos :: rest) D := by
  refine B.asgLc1 (g := gName j) (own := own) i (fun _ i acc => acc = ((xs.take i).filter f).map h) hw (fun s H A cl fp => pg_name hN hi (.inl (hl A cl)) (.inr (hl A cl))) (fun _ _ => rfl) (fun Ts e => by rw [e]; simpa using hz) (fun Ts e i T acc hT iv => ?_) (fun acc Ts e iv => ?_) ok hN hsw hy hyl hc hs
  · subst e
    obtain ⟨a, ha, rfl⟩ := get_enc hT
    refine ⟨_, Tg.name hj, (· = f a), fun p => ⟨ht a (List.mem_of_getElem? ha) p acc, fun z s H0 A cl fp => (he a (List.mem_of_getElem? ha) z.symm p acc s H0 A cl fp).imp fun v H w q => ⟨h a, ?_, q⟩, fun z => ?_⟩⟩
    · show acc ++ [h a] = ((xs.take (i + 1)).filter f).map h
      rw [iv, take_snoc ha, List.filter_append, List.map_append, List.filter_cons, if_pos z.symm]
      rfl
    · show acc = ((xs.take (i + 1)).filter f).map h
      rw [iv, take_snoc ha, List.filter_append, List.map_append, List.filter_cons, if_neg (by rw [← z]; exact Bool.false_ne_true)]
      simp
  · subst e
    rw [iv, List.length_map, List.length_map, List.take_length]
    exact k
theorem B.lcS (i : Nat) (S : α → Bool → Prop) (h : α → PyData) (j : Nat) (hw : W X M Γ true (.Name x tp) iter (· = (xs.map enc).map HB.D)) (own : List (Str × Nat))
    (ht : ∀ a ∈ xs, ∀ p acc, Cb X scope (M.add p (cnL acc)) ((wipeG Γ (own.map (·.2))).set j (some (HB.D (enc a)))) cnd (S a)) (he : ∀ a ∈ xs, S a true → ∀ p acc, Eb X scope (M.add p (cnL acc)) ((wipeG Γ (own.map (·.2))).set j (some (HB.D (enc a)))) elt (HB.D (h a)))
    (hz : xs.length ≤ 100000) (k : ∀ ys : List α, ys.Sublist xs → B X M (Γ.set i (some (L (ys.map h)))) rest D) (ok : BlkOk X.N X.env.scope scope own) (hN : X.N.Nodup) (hsw : swapsWith (.ListComp elt [⟨.Name x tp, iter, [cnd], 0⟩] scope lpos) (some (.Name y pn)) pos.line X.env = pure true := by rfl) (hy : X.N[i]? = some y := by rfl) (hyl : X.env.scope.names.lookup y = some .local := by rfl) (hi : X.N[j]? = some x := by rfl) (hj : j ∈ own.map (·.2) := by decide)
    (hl : ∀ (A : Addr) (cl : List (Str × Addr)), (compEnvC scope cl A X.env).scope.names.lookup x = some .local := by intro _ _; rfl) (hc : X.calm = true := by rfl) (hs : ∀ x, foldedSetIterable iter X.env x = pure x := by intro _; rfl) : B X M Γ (.Assign [.Name y pn] (.ListComp elt [⟨.Name x tp, iter, [cnd], 0⟩] scope lpos) pos :: rest) D := by
  refine B.asgLc1 (g := gName j) (own := own) i (fun _ i acc => ∃ ys : List α, ys.Sublist (xs.take i) ∧ acc = ys.map h) hw (fun s H A cl fp => pg_name hN hi (.inl (hl A cl)) (.inr (hl A cl))) (fun _ _ => ⟨[], by simp, rfl⟩) (fun Ts e => by rw [e]; simpa using hz) (fun Ts e i T acc hT iv => ?_) (fun acc Ts e iv => ?_) ok hN hsw hy hyl hc hs
  · subst e
    obtain ⟨a, ha, rfl⟩ := get_enc hT
    obtain ⟨ys, y1, y4⟩ := iv
    exact ⟨_, Tg.name hj, S a, fun p => ⟨ht a (List.mem_of_getElem? ha) p acc, fun z s H0 A cl fp => (he a (List.mem_of_getElem? ha) z p acc s H0 A cl fp).imp fun v H w q => ⟨h a, ⟨ys ++ [a], (sub_snoc ha y1).1, by rw [y4, List.map_append]; rfl⟩, q⟩, fun z => ⟨ys, (sub_snoc ha y1).2, y4⟩⟩⟩
  · subst e
    obtain ⟨ys, y1, rfl⟩ := iv
    rw [List.length_map, List.length_map, List.take_length] at y1
    exact k ys y1
theorem B.lcA (i : Nat) {R : α → β → Prop} (h : β → PyData) (j : Nat) (hw : W X M Γ true (.Name x tp) iter (· = (xs.map enc).map HB.D)) (own : List (Str × Nat))
    (he : ∀ a ∈ xs, ∀ p acc, Eb X scope (M.add p (cnL acc)) ((wipeG Γ (own.map (·.2))).set j (some (HB.D (enc a)))) elt (.some (R a) fun b => HB.D (h b)))
    (hz : xs.length ≤ 100000) (k : ∀ ys : List β, Paired R xs ys → B X M (Γ.set i (some (L (ys.map h)))) rest D) (ok : BlkOk X.N X.env.scope scope own) (hN : X.N.Nodup) (hsw : swapsWith (.ListComp elt [⟨.Name x tp, iter, [], 0⟩] scope lpos) (some (.Name y pn)) pos.line X.env = pure true := by rfl) (hy : X.N[i]? = some y := by rfl) (hyl : X.env.scope.names.lookup y = some .local := by rfl) (hi : X.N[j]? = some x := by rfl) (hj : j ∈ own.map (·.2) := by decide)
    (hl : ∀ (A : Addr) (cl : List (Str × Addr)), (compEnvC scope cl A X.env).scope.names.lookup x = some .local := by intro _ _; rfl) (hc : X.calm = true := by rfl) (hs : ∀ x, foldedSetIterable iter X.env x = pure x := by intro _; rfl) : B X M Γ (.Assign [.Name y pn] (.ListComp elt [⟨.Name x tp, iter, [], 0⟩] scope lpos) pos :: rest) D := by
  refine B.asgLc0 (g := gName j) (own := own) i (fun _ i acc => ∃ ys : List β, Paired R (xs.take i) ys ∧ acc = ys.map h) hw (fun s H A cl fp => pg_name hN hi (.inl (hl A cl)) (.inr (hl A cl))) (fun _ _ => ⟨[], .nil, rfl⟩) (fun Ts e => by rw [e]; simpa using hz) (fun Ts e i T acc hT iv => ?_) (fun acc Ts e iv => ?_) ok hN hsw hy hyl hc hs
  · subst e
    obtain ⟨a, ha, rfl⟩ := get_enc hT
    obtain ⟨ys, y1, y2⟩ := iv
    refine ⟨_, Tg.name hj, fun p s H0 A cl fp => (he a (List.mem_of_getElem? ha) p acc s H0 A cl fp).imp fun v H w ⟨b, rb, q⟩ => ⟨h b, ⟨ys ++ [b], ?_, ?_⟩, q⟩⟩
    · rw [take_snoc ha]
      exact prd_app y1 (.cons rb .nil)
    · rw [y2, List.map_append]
      rfl
  · subst e
    obtain ⟨ys, y1, rfl⟩ := iv
    rw [List.length_map, List.length_map, List.take_length] at y1
    exact k ys y1
theorem Paired.eqMap {R : α → β → Prop} {f : α → β} (h : ∀ a b, R a b → b = f a) : ∀ {xs : List α} {ys : List β}, Paired R xs ys → ys = xs.map f
  | _, _, .nil => rfl
  | _, _, .cons a b => by rw [List.map_cons, h _ _ a, Paired.eqMap h b]
end
end HB


namespace HB
open PySem L2 PyProof.Rows PySem.Spec
section
variable {X : Cx} {M : Mx} {Γ : Gm} {ow : Bool} {elt iter cnd e a : Expr} {scope : Scope} {pos tp tp2 pt p2 : Pos} {kt : Nat} {α β : Type} {enc : α → PyData} {xs : List α} {x y : Str}
theorem E.lcFP (f : α → Bool) (h : α → PyData) (d1 d2 : α → PyData) (i j : Nat) (hw : W X M Γ true (.Tuple [.Name x tp, .Name y tp2] kt pt) iter (· = (xs.map fun a => .tuple [d1 a, d2 a]).map D)) (own : List (Str × Nat))
    (ht : ∀ a ∈ xs, ∀ p acc, Cb X scope (M.add p (cnL acc)) (((wipeG Γ (own.map (·.2))).set i (some (D (d1 a)))).set j (some (D (d2 a)))) cnd (· = f a)) (he : ∀ a ∈ xs, f a = true → ∀ p acc, Eb X scope (M.add p (cnL acc)) (((wipeG Γ (own.map (·.2))).set i (some (D (d1 a)))).set j (some (D (d2 a)))) elt (D (h a)))
    (hz : xs.length ≤ 100000) (ok : BlkOk X.N X.env.scope scope own) (hN : X.N.Nodup) (hg : ∀ (s : Shared) (H : Hp) (A : Addr) (cl : List (Str × Addr)) (fp : List Addr), PG (X.blk s H scope (compEnvC scope cl A X.env) fp) (.Tuple [.Name x tp, .Name y tp2] kt pt) (gTup X.K 2 (gCons (gName i) (gCons (gName j) gNil)))) (hi : i ∈ own.map (·.2) := by decide) (hj : j ∈ own.map (·.2) := by decide)
    (hc : X.calm = true := by rfl) (hs : ∀ x, foldedSetIterable iter X.env x = pure x := by intro _; rfl) : E X M Γ (.ListComp elt [⟨.Tuple [.Name x tp, .Name y tp2] kt pt, iter, [cnd], 0⟩] scope pos) (L ((xs.filter f).map h)) := by
  refine (E.lc1 (g := gTup X.K 2 (gCons (gName i) (gCons (gName j) gNil))) (own := own) (fun _ n acc => acc = ((xs.take n).filter f).map h) hw hg (fun _ _ => rfl) (fun Ts e => by rw [e]; simpa using hz) (fun Ts e n T acc hT iv => ?_) ok hN hc hs).imp fun v H w ⟨acc, ⟨Ts, e, iv⟩, q⟩ => ?_
  · subst e
    obtain ⟨a, ha, rfl⟩ := get_enc hT
    refine ⟨_, Tg.pair hi hj, (· = f a), fun p => ⟨ht a (List.mem_of_getElem? ha) p acc, fun z s H0 A cl fp => (he a (List.mem_of_getElem? ha) z.symm p acc s H0 A cl fp).imp fun v H w q => ⟨h a, ?_, q⟩, fun z => ?_⟩⟩
    · show acc ++ [h a] = ((xs.take (n + 1)).filter f).map h
      rw [iv, take_snoc ha, List.filter_append, List.map_append, List.filter_cons, if_pos z.symm]
      rfl
    · show acc = ((xs.take (n + 1)).filter f).map h
      rw [iv, take_snoc ha, List.filter_append, List.map_append, List.filter_cons, if_neg (by rw [← z]; exact Bool.false_ne_true)]
      simp
  · subst e
    rw [iv, List.length_map, List.length_map, List.take_length] at q
    exact q
theorem E.lcMP (h : α → PyData) (d1 d2 : α → PyData) (i j : Nat) (hw : W X M Γ true (.Tuple [.Name x tp, .Name y tp2] kt pt) iter (· = (xs.map fun a => .tuple [d1 a, d2 a]).map D)) (own : List (Str × Nat))
    (he : ∀ a ∈ xs, ∀ p acc, Eb X scope (M.add p (cnL acc)) (((wipeG Γ (own.map (·.2))).set i (some (D (d1 a)))).set j (some (D (d2 a)))) elt (D (h a)))
    (hz : xs.length ≤ 100000) (ok : BlkOk X.N X.env.scope scope own) (hN : X.N.Nodup) (hg : ∀ (s : Shared) (H : Hp) (A : Addr) (cl : List (Str × Addr)) (fp : List Addr), PG (X.blk s H scope (compEnvC scope cl A X.env) fp) (.Tuple [.Name x tp, .Name y tp2] kt pt) (gTup X.K 2 (gCons (gName i) (gCons (gName j) gNil)))) (hi : i ∈ own.map (·.2) := by decide) (hj : j ∈ own.map (·.2) := by decide)
    (hc : X.calm = true := by rfl) (hs : ∀ x, foldedSetIterable iter X.env x = pure x := by intro _; rfl) : E X M Γ (.ListComp elt [⟨.Tuple [.Name x tp, .Name y tp2] kt pt, iter, [], 0⟩] scope pos) (L (xs.map h)) := by
  refine (E.lc0 (g := gTup X.K 2 (gCons (gName i) (gCons (gName j) gNil))) (own := own) (fun _ n acc => acc = (xs.take n).map h) hw hg (fun _ _ => rfl) (fun Ts e => by rw [e]; simpa using hz) (fun Ts e n T acc hT iv => ?_) ok hN hc hs).imp fun v H w ⟨acc, ⟨Ts, e, iv⟩, q⟩ => ?_
  · subst e
    obtain ⟨a, ha, rfl⟩ := get_enc hT
    refine ⟨_, Tg.pair hi hj, fun p s H0 A cl fp => (he a (List.mem_of_getElem? ha) p acc s H0 A cl fp).imp fun v H w q => ⟨h a, ?_, q⟩⟩
    show acc ++ [h a] = (xs.take (n + 1)).map h
    rw [iv, take_snoc ha, List.map_append]
    rfl
  · subst e
    rw [iv, List.length_map, List.length_map, List.take_length] at q
    exact q
/-- as E.lcA, the target given by its rule -/
theorem E.lcAG {R : α → β → Prop} (h : β → PyData) (j : Nat) (hw : W X M Γ true (.Name x tp) iter (· = (xs.map enc).map D)) (own : List (Str × Nat))
    (he : ∀ a ∈ xs, ∀ p acc, Eb X scope (M.add p (cnL acc)) ((wipeG Γ (own.map (·.2))).set j (some (D (enc a)))) elt (.some (R a) fun b => D (h b)))
    (hz : xs.length ≤ 100000) (ok : BlkOk X.N X.env.scope scope own) (hN : X.N.Nodup) (hg : ∀ (s : Shared) (H : Hp) (A : Addr) (cl : List (Str × Addr)) (fp : List Addr), PG (X.blk s H scope (compEnvC scope cl A X.env) fp) (.Name x tp) (gName j)) (hj : j ∈ own.map (·.2) := by decide) (hc : X.calm = true := by rfl) (hs : ∀ x, foldedSetIterable iter X.env x = pure x := by intro _; rfl) :
    E X M Γ (.ListComp elt [⟨.Name x tp, iter, [], 0⟩] scope pos) (.some (fun ys : List β => Paired R xs ys) fun ys => L (ys.map h)) := by
  refine (E.lc0 (g := gName j) (own := own) (fun _ i acc => ∃ ys : List β, Paired R (xs.take i) ys ∧ acc = ys.map h) hw hg (fun _ _ => ⟨[], .nil, rfl⟩) (fun Ts e => by rw [e]; simpa using hz) (fun Ts e i T acc hT iv => ?_) ok hN hc hs).imp fun v H w ⟨acc, ⟨Ts, e, iv⟩, q⟩ => ?_
  · subst e
    obtain ⟨a, ha, rfl⟩ := get_enc hT
    obtain ⟨ys, y1, y2⟩ := iv
    refine ⟨_, Tg.name hj, fun p s H0 A cl fp => (he a (List.mem_of_getElem? ha) p acc s H0 A cl fp).imp fun v H w ⟨b, rb, q⟩ => ⟨h b, ⟨ys ++ [b], ?_, ?_⟩, q⟩⟩
    · rw [take_snoc ha]
      exact prd_app y1 (.cons rb .nil)
    · rw [y2, List.map_append]
      rfl
  · subst e
    obtain ⟨ys, y1, rfl⟩ := iv
    rw [List.length_map, List.length_map, List.take_length] at y1
    exact ⟨ys, y1, q⟩
/-- l[:k], both known by letters -/
theorem E.toLSS {S : List α → Prop} {R : Nat → Prop} (he : E X M Γ e (.some S fun xs => L (xs.map enc))) (hk : E X M Γ a (Ns R)) : E X M Γ (.Subscript e (.Slice none (some a) none p2) pos) (.some (fun ys : List α => ∃ xs k, S xs ∧ R k ∧ ys = xs.take k) fun ys => L (ys.map enc)) := fun σ H l =>
  wE.of (pe_slice sl_list pe_w po_none (po_some pe_w)) ((he σ H l).mono fun x H1 ⟨s1, b, sb, h1⟩ => (hk σ H1 (l.st s1)).mono fun u H3 ⟨s3, k, rk, h3⟩ => by
    cases h3
    have w := (l.hw.st s1).st s3
    have h1 := (L (b.map enc)).fr (s3.kp (l.hw.st s1)) h1
    refine ⟨_, rfl, ?_⟩
    cases h1 with
    | @lst c xs _ e n r =>
      refine ⟨c, xs, rfl, SqL.of e, fun p hp => ?_⟩
      have z := w.new (o := .lst (cutV xs none (some (k : Int)))) hp
      refine ⟨(s1.trans s3).trans z.1, b.take k, ⟨b, k, sb, rk, rfl⟩, ?_⟩
      show Rp M.ex _ _ (.list ((b.take k).map enc))
      rw [List.map_take, ← cutD_to]
      exact .lst upd_same z.2 ((cutV_D r).fr (z.1.kp w)))
/-- [elt for x in l], the list and the elements known by letters -/
theorem E.lcLS {S : List α → Prop} {R : α → β → Prop} (h : β → PyData) (j : Nat) (hl0 : E X M Γ iter (.some S fun xs => L (xs.map enc))) (own : List (Str × Nat))
    (he : ∀ xs, S xs → ∀ a ∈ xs, ∀ p acc, Eb X scope (M.add p (cnL acc)) ((wipeG Γ (own.map (·.2))).set j (some (D (enc a)))) elt (.some (R a) fun b => D (h b)))
    (hz : ∀ xs, S xs → xs.length ≤ 100000) (ok : BlkOk X.N X.env.scope scope own) (hN : X.N.Nodup) (hi : X.N[j]? = some x := by rfl) (hj : j ∈ own.map (·.2) := by decide) (hl : ∀ (A : Addr) (cl : List (Str × Addr)), (compEnvC scope cl A X.env).scope.names.lookup x = some .local := by intro _ _; rfl) (hc : X.calm = true := by rfl) (hs : ∀ x, foldedSetIterable iter X.env x = pure x := by intro _; rfl) :
    E X M Γ (.ListComp elt [⟨.Name x tp, iter, [], 0⟩] scope pos) (.some (fun ys : List β => ∃ xs, S xs ∧ Paired R xs ys) fun ys => L (ys.map h)) := by
  refine (E.lc0 (ow := true) (g := gName j) (own := own) (S := fun Ts => ∃ xs : List α, S xs ∧ Ts = (xs.map enc).map D) (fun Ts i acc => ∃ (xs : List α) (ys : List β), S xs ∧ Ts = (xs.map enc).map D ∧ Paired R (xs.take i) ys ∧ acc = ys.map h) (W.exL hl0) (fun s H A cl fp => pg_name hN hi (.inl (hl A cl)) (.inr (hl A cl))) (fun Ts ⟨xs, sx, e⟩ => ⟨xs, [], sx, e, .nil, rfl⟩) (fun Ts ⟨xs, sx, e⟩ => by rw [e]; simpa using hz xs sx) (fun Ts _ i T acc hT iv => ?_) ok hN hc hs).imp fun v H w ⟨acc, ⟨Ts, _, iv⟩, q⟩ => ?_
  · obtain ⟨xs, ys, sx, e, y1, y2⟩ := iv
    subst e
    obtain ⟨a, ha, rfl⟩ := get_enc hT
    refine ⟨_, Tg.name hj, fun p s H0 A cl fp => (he xs sx a (List.mem_of_getElem? ha) p acc s H0 A cl fp).imp fun v H w ⟨b, rb, q⟩ => ⟨h b, ⟨xs, ys ++ [b], sx, rfl, ?_, ?_⟩, q⟩⟩
    · rw [take_snoc ha]
      exact prd_app y1 (.cons rb .nil)
    · rw [y2, List.map_append]
      rfl
  · obtain ⟨xs, ys, sx, e, y1, rfl⟩ := iv
    subst e
    rw [List.length_map, List.length_map, List.take_length] at y1
    exact ⟨ys, ⟨xs, sx, y1⟩, q⟩
end
end HB


namespace HB
open PySem L2 PyProof.Rows PySem.Spec
def ltS (x y : Str) : Prop := x.cps.toList < y.cps.toList
instance (x y : Str) : Decidable (ltS x y) := inferInstanceAs (Decidable (x.cps.toList < y.cps.toList))
def Asc (g : List Str) : Prop := g.Pairwise ltS
theorem str_ext {x y : Str} (h : x.cps.toList = y.cps.toList) : x = y := by
  obtain ⟨x⟩ := x
  obtain ⟨y⟩ := y
  have : x = y := Array.toList_inj.mp h
  rw [this]
theorem ltS_irrefl (x : Str) : ¬ ltS x x := List.lt_irrefl _
theorem ltS_trans {x y z : Str} (h : ltS x y) (h' : ltS y z) : ltS x z := List.lt_trans h h'
theorem ltS_ne {x y : Str} (h : ltS x y) : x ≠ y := fun e => ltS_irrefl y (e ▸ h)
theorem ltS_asymm {x y : Str} (h : ltS x y) : ¬ ltS y x := fun h' => ltS_irrefl x (ltS_trans h h')
theorem ltS_total {x y : Str} (h : x ≠ y) : ltS x y ∨ ltS y x := by
  by_cases h1 : ltS x y
  · exact .inl h1
  · by_cases h2 : ltS y x
    · exact .inr h2
    · exact absurd (str_ext (List.le_antisymm (List.not_lt.mp h2) (List.not_lt.mp h1))) h
theorem sortS_perm (xs : List Str) : (sortS xs).Perm xs := List.mergeSort_perm _ _
theorem leS_trans : ∀ a b c : Str, leS a b = true → leS b c = true → leS a c = true := fun a b c h1 h2 => by
  unfold leS at *
  (simp only [decide_eq_true_eq] at *)
  exact List.le_trans h1 h2
theorem leS_total : ∀ a b : Str, (leS a b || leS b a) = true := fun a b => by
  unfold leS
  rcases List.le_total a.cps.toList b.cps.toList with h | h <;> simp [h]
theorem sortS_asc {xs : List Str} (h : xs.Nodup) : Asc (sortS xs) := by
  have p : (sortS xs).Pairwise fun a b => leS a b = true := List.pairwise_mergeSort leS_trans leS_total xs
  have nd : (sortS xs).Nodup := (sortS_perm xs).nodup_iff.mpr h
  exact List.Pairwise.imp₂ (fun a b (h1 : leS a b = true) (h2 : a ≠ b) => by
    unfold leS at h1
    simp only [decide_eq_true_eq] at h1
    rcases ltS_total h2 with z | z
    · exact z
    · exact absurd (str_ext (List.le_antisymm h1 (List.le_of_lt z))) h2) p nd
theorem Asc.nodup {g : List Str} (h : Asc g) : g.Nodup := List.Pairwise.imp (fun h => ltS_ne h) h
theorem asc_unique : ∀ {g h : List Str}, Asc g → Asc h → (∀ x, x ∈ g ↔ x ∈ h) → g = h
  | [], [], _, _, _ => rfl
  | [], y :: h, _, _, e => by
    have := (e y).mpr List.mem_cons_self
    cases this
  | x :: g, [], _, _, e => by
    have := (e x).mp List.mem_cons_self
    cases this
  | x :: g, y :: h, a, b, e => by
    unfold Asc at a b
    rw [List.pairwise_cons] at a b
    have exy : x = y := by
      rcases List.mem_cons.mp ((e x).mp List.mem_cons_self) with z | z
      · exact z
      · rcases List.mem_cons.mp ((e y).mpr List.mem_cons_self) with z' | z'
        · exact z'.symm
        · exact absurd (a.1 y z') (ltS_asymm (b.1 x z))
    subst exy
    rw [asc_unique a.2 b.2 fun z => ⟨fun hz => ?_, fun hz => ?_⟩]
    · rcases List.mem_cons.mp ((e z).mp (List.mem_cons_of_mem _ hz)) with q | q
      · exact absurd (a.1 z hz) (by rw [q]; exact ltS_irrefl _)
      · exact q
    · rcases List.mem_cons.mp ((e z).mpr (List.mem_cons_of_mem _ hz)) with q | q
      · exact absurd (b.1 z hz) (by rw [q]; exact ltS_irrefl _)
      · exact q
theorem sortS_of_perm {xs g : List Str} (h : Asc g) (p : xs.Perm g) : sortS xs = g := asc_unique (sortS_asc (p.nodup_iff.mpr h.nodup)) h fun x => ((sortS_perm xs).trans p).mem_iff
def Nm (x : Str) : Prop := 1 ≤ x.cps.size ∧ x.cps.size ≤ 8 ∧ ∀ c ∈ x.cps.toList, 97 ≤ c ∧ c ≤ 122
instance (x : Str) : Decidable (Nm x) := inferInstanceAs (Decidable (1 ≤ x.cps.size ∧ x.cps.size ≤ 8 ∧ ∀ c ∈ x.cps.toList, 97 ≤ c ∧ c ≤ 122))
theorem Nm.sok {x : Str} (h : Nm x) : Sok x := by
  unfold Sok PyData.strOk
  rw [Array.all_eq_true']
  intro c hc
  have := (h.2.2 c (Array.mem_toList_iff.mpr hc)).2
  simp
  omega
def strsOf : List Expr → List Str
  | .Constant (.str x) _ _ :: es => x :: strsOf es
  | _ => []
def allStr : List Expr → Bool
  | .Constant (.str _) _ _ :: es => allStr es
  | [] => true
  | _ => false
theorem A.strs {X : Cx} {M : Mx} {Γ : Gm} : ∀ {es : List Expr}, allStr es = true → A X M Γ es (((strsOf es).map PyData.str).map D)
  | [], _ => A.nil
  | .Constant (.str x) j p :: es, h => A.cons E.str (A.strs (es := es) h)
theorem E.lstC {X : Cx} {M : Mx} {Γ : Gm} {es : List Expr} {pos : Pos} (h : allStr es = true) (hz : (strsOf es).length ≤ 100000) : E X M Γ (.List es pos) (L ((strsOf es).map .str)) := E.lstD (A.strs h) (by rw [List.length_map]; exact hz)
def wordExprs : List Expr := match defBody s_words with
  | .Assign _ (.List es _) _ :: _ => es
  | _ => []
def wordList : List Str := strsOf wordExprs
theorem words_len : wordList.length = 13 := by decide +kernel
theorem words_str : allStr wordExprs = true := by decide +kernel
/-- a name, and not the one that the law keeps for a stranger -/
def Nw (x : Str) : Prop := Nm x ∧ x ≠ "q"
instance (x : Str) : Decidable (Nw x) := inferInstanceAs (Decidable (Nm x ∧ x ≠ "q"))
theorem words_nm : ∀ x ∈ wordList, Nw x := by decide +kernel
theorem words_nd : wordList.Nodup := by decide +kernel
structure Wf (w : Wb) : Prop where
  asc : Asc w.1
  pos : 1 ≤ w.1.length
  len : w.1.length ≤ 5
  nw : ∀ x ∈ w.1, Nw x
  tie : ∀ p ∈ w.2, p.1 ∈ w.1 ∧ p.2 ∈ w.1 ∧ ltS p.1 p.2
  tlen : w.2.length ≤ 50
theorem Wf.nm {w : Wb} (h : Wf w) : ∀ x ∈ w.1, Nm x := fun x hx => (h.nw x hx).1
theorem Wf.wok {w : Wb} (h : Wf w) : WOk w := ⟨h.len, fun x hx => (h.nm x hx).sok, Nat.le_trans h.tlen (by decide), fun p hp => ⟨(h.nm _ (h.tie p hp).1).sok, (h.nm _ (h.tie p hp).2.1).sok⟩⟩
theorem perm_enc {α : Type} {enc : α → PyData} : ∀ {es ds : List PyData}, es.Perm ds → ∀ {xs : List α}, ds = xs.map enc → ∃ ys : List α, ys.Perm xs ∧ es = ys.map enc := by
  intro es ds p
  induction p with
  | nil => intro xs e; exact ⟨xs, .refl _, e⟩
  | cons d p ih =>
    intro xs e
    cases xs with
    | nil => cases e
    | cons x xs =>
      rw [List.map_cons] at e
      obtain ⟨e1, e2⟩ := List.cons.inj e
      obtain ⟨ys, q, e3⟩ := ih e2
      exact ⟨x :: ys, q.cons x, by rw [e1, e3]; rfl⟩
  | swap a b l =>
    intro xs e
    match xs, e with
    | x :: y :: xs, e =>
      (simp only [List.map_cons, List.cons.injEq] at e)
      exact ⟨y :: x :: xs, .swap _ _ _, by rw [e.1, e.2.1, e.2.2]; rfl⟩
  | trans p q ih1 ih2 =>
    intro xs e
    obtain ⟨ys, q1, e1⟩ := ih2 e
    obtain ⟨zs, q2, e2⟩ := ih1 e1
    exact ⟨zs, q2.trans q1, e2⟩
section
variable {w : World} {P : Program} {K : PySem.W.Frag} {mg : Str → Option Value} {base : Heap}
/-- l[:k] of a list that is known by a letter -/
theorem E.toLS {X : Cx} {M : Mx} {Γ : Gm} {e a : Expr} {pos p2 : Pos} {α : Sort _} {S : α → Prop} {f : α → List PyData} {k : Nat} (he : E X M Γ e (.some S fun a => L (f a))) (hk : E X M Γ a (I (k : Int))) : E X M Γ (.Subscript e (.Slice none (some a) none p2) pos) (.some S fun a => L ((f a).take k)) := fun σ H l =>
  wE.of (pe_slice sl_list pe_w po_none (po_some pe_w)) ((he σ H l).mono fun x H1 ⟨s1, b, sb, h1⟩ => (hk σ H1 (l.st s1)).mono fun u H3 ⟨s3, h3⟩ => by
    cases h3
    have w := (l.hw.st s1).st s3
    have h1 := (L (f b)).fr (s3.kp (l.hw.st s1)) h1
    refine ⟨_, rfl, ?_⟩
    cases h1 with
    | @lst c xs _ e n r =>
      refine ⟨c, xs, rfl, SqL.of e, fun p hp => ?_⟩
      have z := w.new (o := .lst (cutV xs none (some (k : Int)))) hp
      refine ⟨(s1.trans s3).trans z.1, b, sb, ?_⟩
      show Rp M.ex _ _ (.list ((f b).take k))
      rw [← cutD_to]
      exact .lst upd_same z.2 ((cutV_D r).fr (z.1.kp w)))
/-- shuffled, of things that stand for data -/
theorem E.shuf {X : Cx} {M : Mx} {Γ : Gm} {e1 e2 : Expr} {pos pn : Pos} {q : Addr} {m : Nat} {α : Type} {enc : α → PyData} {xs : List α} {b : Bool} (g : Gs X.K X.mg) (hr : Room m X.A) (h1 : E X M Γ e1 (Ty.is (.ref q))) (h2 : E X M Γ e2 (sq b (xs.map enc))) (hp : xs.length ≤ 100000) (hnm : 2 ≤ m := by decide) (hq : ∀ z ∈ [(q, PotOk)], z ∈ M.ph := by intro _ z; exact z)
    (hg : Gl X "_law_shuffled" := by rfl) (s1 : starEach [e1, e2] X.env = (false, eval e1 X.env) :: starEach [e2] X.env := by rfl) (s2 : starEach [e2] X.env = (false, eval e2 X.env) :: starEach [] X.env := by rfl) (hpl : (backTo pos (starEach [e2] X.env)).any (·.1) = false := by rfl) :
    E X M Γ (.Call (.Name "_law_shuffled" pn) [e1, e2] [] pos) (.some (fun ys : List α => ys.Perm xs) fun ys => L (ys.map enc)) := (E.ok (ok_shuffled g) hr (q, b, xs.map enc) (by show (xs.map enc).length ≤ 100000; rw [List.length_map]; exact hp) (.cons h1 (.cons h2 .nil s2) s1) hnm hq (hg := hg) (he := s1) (hpl := hpl)).imp fun v H w ⟨es, p, h⟩ => by
    obtain ⟨ys, p', rfl⟩ := perm_enc p rfl
    exact ⟨ys, p', h⟩
def pm_words : Pm (Addr × Nat) where
  pre := fun q => 1 ≤ q.2 ∧ q.2 ≤ 5
  req := fun q => [(q.1, PotOk)]
  args := fun q => [Ty.is (.ref q.1), I (q.2 : Int)]
  res := fun q => .some (fun ws : List Str => ws.length = q.2 ∧ Asc ws ∧ ∀ x ∈ ws, Nw x) G
theorem bn_words (kV doc pm : Value) (an : Option Addr) (cdv ct : Value) (us : List Value) (hl : us.length = 2) : bindArgs (PySem.W.fnOf "_law_words" "_law_words" (defArgs s_words) (defBody s_words) (defScope s_words) .none kV doc pm an cdv ct) ⟨us, []⟩ = pure ((["_law_pot_here", "_law_size"] : List Str).zip us) := by
  match us, hl with
  | [a, b], _ => rfl
theorem words_body : ∃ p1 p2 p3 p4 p5 p6 p7 p8 p9 p10 p11 p12 p13 p14 p15, defBody s_words = [.Assign [.Name "_law_some" p1] (.List wordExprs p2) p3, .Return (some (.Call (.Name "tuple" p4) [.Call (.Name "sorted" p5) [.Subscript (.Call (.Name "_law_shuffled" p6) [.Name "_law_pot_here" p7, .Name "_law_some" p8] [] p9) (.Slice none (some (.Name "_law_size" p10)) none p11) p12] [] p13] [] p14)) p15] := ⟨_, _, _, _, _, _, _, _, _, _, _, _, _, _, _, rfl⟩
theorem ok_words (g : Gs K mg) : Ok P w K mg base 3 "_law_words" ["_law_pot_here", "_law_size"] pm_words := by
  refine Ok.of (k := 2) (g.df _ 66) sc_words (fun _ => rfl) bn_words fun ⟨q, n⟩ f cdv A outer s H Ex ex lk En hp hlk hr hR hn => ?_
  obtain ⟨hp1, hp2⟩ := hp
  have hp1 : 1 ≤ n := hp1
  have hp2 : n ≤ 5 := hp2
  have hN := sc_words.nd
  obtain ⟨p1, p2, p3, p4, p5, p6, p7, p8, p9, p10, p11, p12, p13, p14, p15, eb⟩ := words_body
  rw [eb]
  generalize ew : wordExprs = es
  have hs : allStr es = true := ew ▸ words_str
  have el : strsOf es = wordList := ew ▸ rfl
  refine B.asg 2 (T := L (wordList.map .str)) ((E.lstC hs (by rw [el, words_len]; decide)).castL (by rw [el])) ?_ hN
  refine B.ret hR (Le.refl _) ?_
  refine E.callT call_tuple_of (by decide +kernel) (g.bi "tuple") (.cons (T := .some (fun ys : List Str => ys.Perm wordList) fun ys => L ((sortS (ys.take n)).map .str)) ?_ .nil) (.one_some fun ys hys => .out (sortS (ys.take n)) ?_ (.one fun v H Q w h k => ?_))
  · refine E.callB (cr_sortQ hr.units) (by decide +kernel) (g.bi "sorted") (.cons (T := .some (fun ys : List Str => ys.Perm wordList) fun ys => L ((ys.take n).map .str)) ?_ .nil) (.one_some fun ys hys => .out ys hys (.one fun v H Q w h k => ?_))
    · exact (E.toLS (E.shuf (enc := PyData.str) (xs := wordList) (b := true) g hr (E.var 0) (E.var 2) (by rw [words_len]; decide)) (E.var (T := I (n : Int)) 1)).imp fun _ _ _ ⟨ys, py, z⟩ => ⟨ys, py, (congrArg (fun d => Rp _ _ _ (.list d)) (List.map_take (f := PyData.str) (l := ys) (i := n))).mpr z⟩
    · rw [← srt_strs] at k
      cases h with
      | lst e n r => exact sortQ_of w (.inl (SqL.of e)) r (strs_alike _) (strs_sortOk _) (by rw [List.length_map, List.length_take]; omega) (strs_depth _) k
  · have nd : (ys.take n).Nodup := List.Nodup.sublist (List.take_sublist _ _) (hys.nodup_iff.mpr words_nd)
    have lt : (ys.take n).length = n := by
      rw [List.length_take, hys.length_eq]
      rw [words_len]
      omega
    exact ⟨(sortS_perm _).length_eq.trans lt, sortS_asc nd, fun x hx => words_nm x (hys.mem_iff.mp (List.mem_of_mem_take ((sortS_perm _).mem_iff.mp hx)))⟩
  · cases h with
    | lst e n r =>
      refine ⟨_, _, rfl, .inl ⟨SqL.of e, fun q hq => ?_⟩⟩
      obtain ⟨s, np⟩ := w.new (o := .tup _) hq
      exact k _ _ s (.tup upd_same np (r.fr (s.kp w)))
end
end HB


namespace HB
open PySem L2 PyProof.Rows PySem.Spec
/-- a tie between two of the things -/
def Tie (xs : List Str) (p : Pr) : Prop := p.1 ∈ xs ∧ p.2 ∈ xs ∧ p.1 ≠ p.2
theorem Tie.mono {xs ys : List Str} {p : Pr} (h : Tie xs p) (k : ∀ x ∈ xs, x ∈ ys) : Tie ys p := ⟨k _ h.1, k _ h.2.1, h.2.2⟩
def norm (p : Pr) : Pr := (minS p.1 p.2, maxS p.1 p.2)
theorem norm_tie {xs : List Str} {p : Pr} (h : Tie xs p) : (norm p).1 ∈ xs ∧ (norm p).2 ∈ xs ∧ ltS (norm p).1 (norm p).2 := by
  obtain ⟨h1, h2, h3⟩ := h
  unfold norm minS maxS
  by_cases a : p.2.cps.toList < p.1.cps.toList
  · rw [if_pos a, if_neg (show ¬ p.1.cps.toList < p.2.cps.toList from ltS_asymm a)]
    exact ⟨h2, h1, a⟩
  · rw [if_neg a]
    rcases ltS_total h3 with b | b
    · rw [if_pos (show p.1.cps.toList < p.2.cps.toList from b)]
      exact ⟨h1, h2, b⟩
    · exact absurd b a
theorem pairs_tie : ∀ {xs : List Str}, xs.Nodup → ∀ p ∈ pairsOf xs, Tie xs p
  | [], _, p, h => by cases h
  | x :: xs, nd, p, h => by
    rw [List.nodup_cons] at nd
    unfold pairsOf at h
    (rcases List.mem_append.mp h with h | h)
    · (obtain ⟨y, hy, rfl⟩ := List.mem_map.mp h)
      exact ⟨List.mem_cons_self, List.mem_cons_of_mem _ hy, fun e => nd.1 (by rw [show x = y from e]; exact hy)⟩
    · exact (pairs_tie nd.2 p h).mono fun z hz => List.mem_cons_of_mem _ hz
theorem pairs_le : ∀ xs : List Str, (pairsOf xs).length * 2 = xs.length * (xs.length - 1)
  | [] => rfl
  | x :: xs => by
    have := pairs_le xs
    unfold pairsOf
    rw [List.length_append, List.length_map, List.length_cons, Nat.add_mul, this, Nat.add_sub_cancel]
    cases h : xs.length with
    | zero => rfl
    | succ n =>
      rw [Nat.add_sub_cancel, ← Nat.mul_add, Nat.mul_comm]
      congr 1
      omega
theorem pairs_5 {xs : List Str} (h : xs.length ≤ 5) : (pairsOf xs).length ≤ 10 := by
  have := pairs_le xs
  have h2 : xs.length * (xs.length - 1) ≤ 5 * 4 := Nat.mul_le_mul h (by omega)
  omega
section
variable {w : World} {P : Program} {K : PySem.W.Frag} {mg : Str → Option Value} {base : Heap}
section
variable {X : Cx} {M : Mx} {Γ : Gm} {e a : Expr} {pos p p2 : Pos} {xs : List Str} {k : Nat} {b : Bool} {ds : List PyData}
theorem E.sortQs (hr : Room k X.A) (hm : X.mg "sorted" = none) (h : E X M Γ e (sq b (xs.map .str))) (h3 : xs.length ≤ 100000) (hg : Gl X "sorted" := by rfl) (he : starEach [e] X.env = (false, eval e X.env) :: starEach [] X.env := by rfl) : E X M Γ (.Call (.Name "sorted" p) [e] [] pos) (L ((sortS xs).map .str)) := by
  cases b with
  | true => exact E.sortLs hr hm h h3 hg he
  | false => exact E.sortUs hr hm h h3 hg he
theorem E.toQ {c : Bool} {k : Nat} (he : E X M Γ e (sq c ds)) (hk : E X M Γ a (I (k : Int))) : E X M Γ (.Subscript e (.Slice none (some a) none p2) pos) (sq c (ds.take k)) := by
  cases c with
  | true => exact E.toL he hk
  | false => exact E.toU he hk
/-- a some within a dict of two -/
theorem dict2S {α : Type} {S : α → Prop} {f : α → Ty} {T1 : Ty} {k1 k2 : Key} {ex : Ads} {v : V} {H : Hp} (h : (dictT [(k1, T1), (k2, .some S f)]).P ex v H) : (Ty.some S fun a => dictT [(k1, T1), (k2, f a)]).P ex v H := by
  obtain ⟨q, kvs, e, rd, n, r⟩ := h
  cases r with
  | cons r1 r =>
    cases r with
    | cons r2 r =>
      cases r
      obtain ⟨ek, a, sa, ha⟩ := r2
      exact ⟨a, sa, q, _, e, rd, n, .cons r1 (.cons ⟨ek, ha⟩ .nil)⟩
end
def pm_plain : Pm (Bool × List Str × List Pr) where
  pre := fun q => q.2.1.length ≤ 100 ∧ (∀ p ∈ q.2.2, Tie q.2.1 p) ∧ q.2.2.length ≤ 60
  args := fun q => [sq q.1 (q.2.1.map .str), L (q.2.2.map pr)]
  res := fun q => .some (fun w : Wb => w.1 = sortS q.2.1 ∧ (∀ p ∈ w.2, p.1 ∈ q.2.1 ∧ p.2 ∈ q.2.1 ∧ ltS p.1 p.2) ∧ w.2.length ≤ q.2.2.length) plT
theorem ok_plain (g : Gs K mg) : Ok P w K mg base 1 "_law_plain" ["_law_things", "_law_ties"] pm_plain := by
  refine Ok.of (k := 0) (g.df _ 68) sc_plain (fun _ => rfl) (fun _ _ _ _ _ _ us hl => match us, hl with | [_, _], _ => rfl) fun ⟨b, xs, ps⟩ f cdv A outer s H Ex ex lk En hp hlk hr hR hn => ?_
  obtain ⟨h1, h2, h3⟩ := hp
  have h1 : xs.length ≤ 100 := h1
  have h2 : ∀ p ∈ ps, Tie xs p := h2
  have h3 : ps.length ≤ 60 := h3
  have hN := sc_plain.nd
  refine B.ret hR (Le.refl _) ((E.disp (kts := [(.inr "things", G (sortS xs)), (.inr "ties", .some (fun qs : List Pr => (∀ q ∈ qs, q ∈ ps.map norm) ∧ qs.length ≤ (ps.map norm).length) fun qs => L (qs.map pr))]) (fun q => .cons ?_ (.cons ?_ .nil)) (show ([.inr "things", .inr "ties"] : List Key).Nodup by decide +kernel)).imp fun v H w z => ?_)
  · exact E.tupleL (g.bi "tuple") (E.sortQs (b := b) hr (g.bi "sorted") (E.var 0) (by omega))
  · refine E.sortSetP hr (g.bi "sorted") (g.bi "set") ((E.lcM (enc := pr) (xs := ps) (fun p => pr (norm p)) 2 (W.list (E.var 1)) [("_law_pair", 2)] (fun p hp q acc s H0 A' cl fp => ?_) (by omega) (blkOk_by (N := N_plain) (sc := defScope s_plain) (by decide +kernel)) hN).castL ?_) ?_
    · exact E.tupD (ds := [.str (minS p.1 p.2), .str (maxS p.1 p.2)]) (.cons (E.minP (g.bi "min") (E.var (T := D (pr p)) 2)) (.cons (E.maxP (g.bi "max") (E.var (T := D (pr p)) 2)) .nil))
    · rw [List.map_map]; rfl
    · rw [List.length_map]; exact h3
  · obtain ⟨qs, ⟨q1, q2⟩, z⟩ := dict2S z
    refine ⟨(sortS xs, qs), ⟨rfl, fun p hp => ?_, by rw [List.length_map] at q2; exact q2⟩, z⟩
    obtain ⟨p', hp', rfl⟩ := List.mem_map.mp (q1 p hp)
    exact norm_tie (h2 p' hp')
/-- what a maker of webs gives -/
def Made (xs : List Str) (n : Nat) (w : Wb) : Prop := w.1 = sortS xs ∧ (∀ p ∈ w.2, p.1 ∈ xs ∧ p.2 ∈ xs ∧ ltS p.1 p.2) ∧ w.2.length ≤ n
abbrev pm_maker (n : Nat) : Pm (Addr × Bool × List Str) where
  pre := fun q => q.2.2.length ≤ 5 ∧ q.2.2.Nodup
  req := fun q => [(q.1, PotOk)]
  args := fun q => [Ty.is (.ref q.1), sq q.2.1 (q.2.2.map .str)]
  res := fun q => .some (Made q.2.2 n) plT
/-- plain(things, ties), the ties known by a letter -/
theorem E.plain {X : Cx} {M : Mx} {Γ : Gm} {e1 e2 : Expr} {pos pn : Pos} {m n : Nat} {b : Bool} {xs : List Str} {S : List Pr → Prop} (g : Gs X.K X.mg) (hr : Room m X.A) (h1 : E X M Γ e1 (sq b (xs.map .str))) (h2 : E X M Γ e2 (.some S fun ps : List Pr => L (ps.map pr))) (hx : xs.length ≤ 100) (hs : ∀ ps, S ps → (∀ p ∈ ps, Tie xs p) ∧ ps.length ≤ n) (hn : n ≤ 60) (hnm : 1 ≤ m := by decide)
    (hg : Gl X "_law_plain" := by rfl) (s1 : starEach [e1, e2] X.env = (false, eval e1 X.env) :: starEach [e2] X.env := by rfl) (s2 : starEach [e2] X.env = (false, eval e2 X.env) :: starEach [] X.env := by rfl) (hpl : (backTo pos (starEach [e2] X.env)).any (·.1) = false := by rfl) :
    E X M Γ (.Call (.Name "_law_plain" pn) [e1, e2] [] pos) (.some (Made xs n) plT) :=
  E.ok2 (ok_plain g) hr h1 h2 (fun ps => (b, xs, ps)) (fun _ => rfl) (fun ps h => ⟨hx, (hs ps h).1, Nat.le_trans (hs ps h).2 hn⟩) (fun ps h ex v H ⟨w, ⟨a1, a2, a3⟩, z⟩ => ⟨w, ⟨a1, a2, Nat.le_trans a3 (hs ps h).2⟩, z⟩) (fun _ q z => by cases z) hnm (by intro z; cases z) hg (by decide) s1 s2 hpl
theorem ok_by_chance (g : Gs K mg) : Ok P w K mg base 3 "_law_by_chance" ["_law_pot_here", "_law_things"] (pm_maker 10) := by
  refine Ok.of (k := 2) (g.df _ 69) sc_by_chance (fun _ => rfl) (fun _ _ _ _ _ _ us hl => match us, hl with | [_, _], _ => rfl) fun ⟨q, b, xs⟩ f cdv A outer s H Ex ex lk En hp hlk hr hR hn => ?_
  obtain ⟨h1, h2⟩ := hp
  have h1 : xs.length ≤ 5 := h1
  have h2 : xs.Nodup := h2
  have hN := sc_by_chance.nd
  refine B.asgS 2 (S := fun _ : Int => True) (f := I) ((E.ok (ok_one_of g) hr (q, [.int 2, .int 4, .int 4, .int 6]) ⟨(show 0 < 4 by decide), (show 4 ≤ 100000 by decide)⟩ (.cons (E.var 0) (.cons (E.lstD (ds := [.int 2, .int 4, .int 4, .int 6]) (.cons E.int (.cons E.int (.cons E.int (.cons E.int .nil))))) .nil))).imp fun v H w ⟨d, hd, z⟩ => ?_) (fun often _ => ?_) hN
  · have : ∃ i : Int, d = .int i := by
      simp at hd
      rcases hd with rfl | rfl | rfl <;> exact ⟨_, rfl⟩
    obtain ⟨i, rfl⟩ := this
    exact ⟨i, trivial, z⟩
  · refine B.ret hR (Le.refl _) (E.plain (b := b) g hr (E.var 1) (E.lcS (enc := pr) (xs := pairsOf xs) (S := fun _ _ => True) pr 3 (W.list (E.ok (ok_all_pairs g) hr (b, xs) (show xs.length ≤ 100 by omega) (.cons (E.var 1) .nil))) [("_law_pair", 3)] (fun p hp q' acc s H0 A' cl fp => ?_) (fun p hp z q' acc s H0 A' cl fp => E.var 3) (by have := pairs_5 h1; omega) (blkOk_by (N := N_by_chance) (sc := defScope s_by_chance) (by decide +kernel)) hN) (by omega) (fun ps hps => ⟨fun p hp => pairs_tie h2 p (hps.1.subset hp), Nat.le_trans hps.1.length_le (pairs_5 h1)⟩) (by decide))
    exact (C.cmps op_lt (E.stir g hr 8 (E.var 0) E.int).Nn (E.ex often (E.var 2))).imp fun _ _ => trivial
end
end HB


namespace HB
open PySem L2 PyProof.Rows PySem.Spec
section
variable {w : World} {P : Program} {K : PySem.W.Frag} {mg : Str → Option Value} {base : Heap}
theorem prd_keys {R : Str → (Str × Int) → Prop} (h : ∀ x q, R x q → q.1 = x) : ∀ {xs : List Str} {ps : Py}, Paired R xs ps → ps.map (·.1) = xs
  | _, _, .nil => rfl
  | _, _, .cons a b => by rw [List.map_cons, h _ _ a, prd_keys h b]
/-- dict([(x, some number) for x in xs]) -/
theorem E.dictS {X : Cx} {M : Mx} {Γ : Gm} {e : Expr} {p pos : Pos} {S : Py → Prop} (hm : X.mg "dict" = none) (h : E X M Γ e (.some S fun ps : Py => L (ps.map itm))) (nd : ∀ ps, S ps → (ps.map (·.1)).Nodup) (hc : X.calm = true := by rfl) (hg : Gl X "dict" := by rfl) (he : starEach [e] X.env = (false, eval e X.env) :: starEach [] X.env := by rfl) : E X M Γ (.Call (.Name "dict" p) [e] [] pos) (.some S payT) :=
  E.callT (call_dictP hc) (by decide +kernel) hm (.cons h .nil he) (.one_some fun ps hps => .out ps hps (.one fun v H Q w h k => by
    cases h with
    | @lst c xs _ e n r =>
      obtain ⟨ts, rfl, e2⟩ := pairs_refs (X := X) r
      refine ⟨c, ts, _, rfl, SqL.of e, e2, fun p hp => ?_⟩
      rw [mergeK_py (nd ps hps)]
      have z := w.new (o := .dK (ps.map fun q => ((.inr q.1, .int q.2) : Key × V))) hp
      exact k _ _ z.1 ⟨p, _, rfl, .inl upd_same, z.2, vals_pyk ps⟩)) hg (he := he)
theorem E.itmS {X : Cx} {M : Mx} {Γ : Gm} {a b : Expr} {j : Nat} {pos : Pos} {x : Str} {S : Int → Prop} (ha : E X M Γ a (S_ x)) (hb : E X M Γ b (Is S)) (s1 : starEach [a, b] X.env = (false, eval a X.env) :: starEach [b] X.env := by rfl) (s2 : starEach [b] X.env = (false, eval b X.env) :: starEach [] X.env := by rfl) : E X M Γ (.Tuple [a, b] j pos) (.some (fun q : Str × Int => q.1 = x ∧ S q.2) fun q => D (itm q)) :=
  (E.tup (Ts := [S_ x, Is S]) (.cons ha (.cons hb .nil s2) s1)).imp fun v H w ⟨c, xs, e, hc, n, r⟩ => by
    cases r with
    | cons r1 r =>
      cases r with
      | cons r2 r =>
        cases r
        obtain ⟨i, si, r2⟩ := r2
        exact ⟨(x, i), ⟨rfl, si⟩, by rw [e]; exact .tup hc n (.cons r1 (.cons r2 .nil))⟩
theorem ok_with_sides (g : Gs K mg) : Ok P w K mg base 2 "_law_with_sides" ["_law_pot_here", "_law_things"] (pm_maker 10) := by
  refine Ok.of (k := 1) (g.df _ 70) sc_with_sides (fun _ => rfl) (fun _ _ _ _ _ _ us hl => match us, hl with | [_, _], _ => rfl) fun ⟨q, b, xs⟩ f cdv A outer s H Ex ex lk En hp hlk hr hR hn => ?_
  obtain ⟨h1, h2⟩ := hp
  have h1 : xs.length ≤ 5 := h1
  have h2 : xs.Nodup := h2
  have hN := sc_with_sides.nd
  refine B.asgS 2 (S := fun ps : Py => ps.map (·.1) = xs) (f := payT) ((E.dictS (S := fun ps : Py => ps.map (·.1) = xs) (g.bi "dict") ((E.lcA (enc := PyData.str) (R := fun x (q : Str × Int) => q.1 = x ∧ ∃ n : Nat, n < 1 + xs.length / 2 ∧ q.2 = n) itm 3 (W.seq (c := b) (E.var 1)) [("_law_one", 3)] (fun x hx p acc s H0 A' cl fp => E.itmS (E.var 3) (E.stir g hr (1 + xs.length / 2) (E.var 0) ?_ (by omega) (by omega)).Nn) (by omega) (blkOk_by (N := N_with_sides) (sc := defScope s_with_sides) (by decide +kernel)) hN).imp fun v H w ⟨ps, hps, z⟩ => ⟨ps, prd_keys (fun x q h => h.1) hps, z⟩) fun ps e => by rw [e]; exact h2)) (fun ps hps => ?_) hN
  · refine (E.add (E.int (i := 1)) (E.div (E.lenQ (b := b) (ds := xs.map .str) (g.bi "len") (E.var 1)) (E.int (i := 2)) ⟨by decide, by decide⟩)).nat ?_
    rw [List.length_map]
    omega
  · refine B.ret hR (Le.refl _) (E.plain (b := b) g hr (E.var 1) ((E.lcF (enc := pr) (xs := pairsOf xs) (fun p => !decide (payOf ps p.1 = payOf ps p.2)) pr 4 (W.list (E.ok (ok_all_pairs g) hr (b, xs) (show xs.length ≤ 100 by omega) (.cons (E.var 1) .nil))) [("_law_pair", 4)] (fun p hp q' acc s H0 A' cl fp => ?_) (fun p hp z q' acc s H0 A' cl fp => E.var 4) (by have := pairs_5 h1; omega) (blkOk_by (N := N_with_sides) (sc := defScope s_with_sides) (by decide +kernel)) hN).imp fun v H w z => ⟨(pairsOf xs).filter fun p => !decide (payOf ps p.1 = payOf ps p.2), rfl, z⟩) (by omega) (fun ps' e => by subst e; exact ⟨fun p hp => pairs_tie h2 p (List.mem_filter.mp hp).1, Nat.le_trans (List.length_filter_le _ _) (pairs_5 h1)⟩) (by decide))
    have po := pairs_mem hp
    refine C.neI (E.pay hr (E.var (T := payT ps) 2) (E.ixU (i := 0) (ds := [.str p.1, .str p.2]) (E.var (T := D (pr p)) 4) E.int rfl) (by rw [hps]; exact po.1)) (E.pay hr (E.var (T := payT ps) 2) (E.ixU (i := 1) (ds := [.str p.1, .str p.2]) (E.var (T := D (pr p)) 4) E.int rfl) (by rw [hps]; exact po.2))
end
end HB


namespace HB
open PySem L2 PyProof.Rows PySem.Spec
section
variable {w : World} {P : Program} {K : PySem.W.Frag} {mg : Str → Option Value} {base : Heap}
theorem take_ne {α : Type} {xs : List α} {n : Nat} {x y : α} (nd : xs.Nodup) (h : xs[n]? = some x) (hy : y ∈ xs.take n) : x ≠ y := fun e => by
  subst e
  have h1 := take_snoc h
  have nd2 : (xs.take (n + 1)).Nodup := List.Nodup.sublist (List.take_sublist _ _) nd
  rw [h1] at nd2
  exact (List.nodup_append.mp nd2).2.2 _ hy _ (List.mem_singleton.mpr rfl) rfl
theorem ok_grown_web (g : Gs K mg) : Ok P w K mg base 3 "_law_grown_web" ["_law_pot_here", "_law_things"] (pm_maker 25) := by
  refine Ok.of (k := 2) (g.df _ 71) sc_grown_web (fun _ => rfl) (fun _ _ _ _ _ _ us hl => match us, hl with | [_, _], _ => rfl) fun ⟨q, b, xs⟩ f cdv A outer s H Ex ex lk En hp hlk hr hR hn => ?_
  obtain ⟨h1, h2⟩ := hp
  have h1 : xs.length ≤ 5 := h1
  have h2 : xs.Nodup := h2
  have hN := sc_grown_web.nd
  refine B.parF (c := cnL (([] : List Pr).map pr)) 2 3 (EF.lst (ds := []) .nil) (fun p => E.shuf (enc := PyData.str) (xs := xs) (b := b) g hr (E.var 0) (E.var 1) (by omega)) (fun p np nb ys hys => ?_) hN
  have ly : ys.length ≤ 5 := by rw [hys.length_eq]; exact h1
  have ndy : ys.Nodup := hys.nodup_iff.mpr h2
  refine B.forP 4 5 (fun a : List Pr => [(p, cnL (a.map pr))]) (fun _ => ((startG N_grown_web ((pm_maker 25).args (q, b, xs))).set 2 (some (Ty.is (.ref p)))).set 3 (some (L (ys.map .str)))) (fun _ n a => (∀ t ∈ a, Tie xs t) ∧ a.length ≤ n * 5) (W.enumL (g.bi "enumerate") (E.var 3)) (fun _ _ => ⟨[], ⟨fun t ht => (by cases ht), Nat.le_refl _⟩, fun _ _ l => l⟩) (fun Ts hS n T a hT ⟨iv1, iv2⟩ => ?_) (fun Ts hS a ⟨iv1, iv2⟩ => ?_) hN
  · subst hS
    obtain ⟨d, hd, rfl⟩ := enumD_get hT
    rw [List.getElem?_map] at hd
    cases hx : ys[n]? with
    | none => rw [hx] at hd; cases hd
    | some x =>
      rw [hx] at hd
      cases hd
      have hnl : n < ys.length := (List.getElem?_eq_some_iff.mp hx).1
      refine ⟨_, _, rfl, fun c => ?_⟩
      refine B.ite (C.eqs (E.stir g hr 2 (E.var 0) E.int).Nn (E.ex 0 E.int)) (fun _ => ?_) fun _ => B.skip (.nil fun σ H l => ?_)
      · refine B.extend (p := p) (ds := a.map pr) (es := ((ys.take n).map fun y => (x, y)).map pr) (E.var 2) List.mem_cons_self ((E.lcM (enc := PyData.str) (xs := ys.take n) (fun y => pr (x, y)) 6 (by rw [List.map_take]; exact W.list (E.toL (E.var 3) (E.var (T := I (n : Int)) 4))) [("_law_other", 6)] (fun y hy p' acc s H0 A' cl fp => E.tupD (ds := [.str x, .str y]) (.cons (E.var (T := S_ x) 5) (.cons (E.var 6) .nil))) (by rw [List.length_take]; omega) (blkOk_by (N := N_grown_web) (sc := defScope s_grown_web) (by decide +kernel)) hN).castL (by rw [List.map_map]; rfl)) (by simp only [List.length_map, List.length_take]; omega) (B.skip (.nil fun σ H l => ⟨a ++ (ys.take n).map fun y => (x, y), ⟨fun t ht => ?_, ?_⟩, ?_⟩))
        · rcases List.mem_append.mp ht with ht | ht
          · exact iv1 t ht
          · obtain ⟨y, hy, rfl⟩ := List.mem_map.mp ht
            exact ⟨hys.mem_iff.mp (List.mem_of_getElem? hx), hys.mem_iff.mp (List.mem_of_mem_take hy), take_ne ndy hx hy⟩
        · simp only [List.length_append, List.length_map, List.length_take]
          omega
        · rw [List.map_append]
          have l2 := l
          rw [show setO [(p, cnL (a.map pr))] p (cnL (a.map pr ++ ((ys.take n).map fun y => (x, y)).map pr)) = [(p, cnL (a.map pr ++ ((ys.take n).map fun y => (x, y)).map pr))] from setO_one] at l2
          exact l2.wk (.keep (.keep (.keep (.keep (.drop (.drop (.keep .nil)))))))
      · exact ⟨a, ⟨iv1, by omega⟩, l.wk (.keep (.keep (.keep (.keep (.drop (.drop (.keep .nil)))))))⟩
  · subst hS
    rw [List.length_mapIdx, List.length_map] at iv2
    refine B.drop (M := Mf ex [(q, PotOk)] lk H) (p := p) (ds := a.map pr) 2 np nb rfl ?_
    exact B.ret hR (Le.refl _) (E.plain (b := b) (n := 25) g hr (E.var 1) ((E.var (T := L (a.map pr)) 2).imp fun v H w z => ⟨a, rfl, z⟩) (by omega) (fun ps e => by subst e; exact ⟨iv1, by omega⟩) (by decide))
end
end HB


namespace HB
open PySem L2 PyProof.Rows PySem.Spec
section
variable {w : World} {P : Program} {K : PySem.W.Frag} {mg : Str → Option Value} {base : Heap}
theorem tie_of_sub {xs ys : List Str} (hys : ys.Perm xs) (nd : xs.Nodup) {zs : List Str} (hz : zs.Sublist ys) : ∀ p ∈ pairsOf zs, Tie xs p := fun p hp => (pairs_tie (hz.nodup (hys.nodup_iff.mpr nd)) p hp).mono fun x hx => hys.mem_iff.mp (hz.subset hx)
theorem pairs_sub {ys zs : List Str} (hz : zs.Sublist ys) (h : ys.length ≤ 5) : (pairsOf zs).length ≤ 10 := pairs_5 (Nat.le_trans hz.length_le h)
abbrev pm_maker1 (n : Nat) : Pm (Addr × Bool × List Str) where
  pre := fun q => (1 ≤ q.2.2.length ∧ q.2.2.length ≤ 5) ∧ q.2.2.Nodup
  req := fun q => [(q.1, PotOk)]
  args := fun q => [Ty.is (.ref q.1), sq q.2.1 (q.2.2.map .str)]
  res := fun q => .some (Made q.2.2 n) plT
/-- all_pairs of a list of texts -/
theorem E.pairs {X : Cx} {M : Mx} {Γ : Gm} {e : Expr} {pos pn : Pos} {m : Nat} {b : Bool} {xs : List Str} {ds : List PyData} (g : Gs X.K X.mg) (hr : Room m X.A) (h : E X M Γ e (sq b ds)) (hd : ds = xs.map .str) (hp : xs.length ≤ 100) (hnm : 1 ≤ m := by decide) (hg : Gl X "_law_all_pairs" := by rfl) (s1 : starEach [e] X.env = (false, eval e X.env) :: starEach [] X.env := by rfl) :
    E X M Γ (.Call (.Name "_law_all_pairs" pn) [e] [] pos) (L ((pairsOf xs).map pr)) := by
  subst hd
  exact E.ok (ok_all_pairs g) hr (b, xs) hp (.cons h .nil s1) hnm (hg := hg) (he := s1)
theorem ok_knotty (g : Gs K mg) : Ok P w K mg base 3 "_law_knotty" ["_law_pot_here", "_law_things"] (pm_maker1 30) := by
  refine Ok.of (k := 2) (g.df _ 73) sc_knotty (fun _ => rfl) (fun _ _ _ _ _ _ us hl => match us, hl with | [_, _], _ => rfl) fun ⟨q, b, xs⟩ f cdv A outer s H Ex ex lk En hp hlk hr hR hn => ?_
  obtain ⟨⟨h0, h1⟩, h2⟩ := hp
  have h0 : 1 ≤ xs.length := h0
  have h1 : xs.length ≤ 5 := h1
  have h2 : xs.Nodup := h2
  have hN := sc_knotty.nd
  refine B.asgS 2 (E.shuf (enc := PyData.str) (xs := xs) (b := b) g hr (E.var 0) (E.var 1) (by omega)) (fun ys hys => ?_) hN
  have ly : ys.length ≤ 5 := by rw [hys.length_eq]; exact h1
  have ly0 : 0 < ys.length := by rw [hys.length_eq]; omega
  refine B.asgS 3 (S := fun n : Nat => n ≤ 5) (f := fun n => I (n : Int)) ((E.adds (E.ex 1 E.int) (E.stir g hr ys.length (E.var 0) ((E.lenL (ds := ys.map .str) (g.bi "len") (E.var 2)).nat (by rw [List.length_map])) ly0 (by omega)).Nn).nN fun i ⟨a, ea, c, ⟨n, hn, ec⟩, ei⟩ => ⟨n + 1, by omega, by omega⟩) (fun size hsz => ?_) hN
  refine B.asgS 4 (S := fun _ : Nat => True) (f := fun n => I (n : Int)) ((E.max2s (g.bi "max") (E.ex 0 E.int) (E.subs (E.ex (size : Int) (E.var 3)) (E.stir g hr 3 (E.var 0) E.int).Nn)).nN fun i ⟨a, ea, c, _, ei⟩ => ⟨i.toNat, trivial, by subst ea; split at ei <;> omega⟩) (fun low _ => ?_) hN
  have t1 := List.take_sublist size ys
  have t2 := List.drop_sublist low ys
  refine B.asg 5 (T := L ((pairsOf (ys.take size) ++ pairsOf (ys.drop low)).map pr)) ((E.catL (E.pairs (b := true) (xs := ys.take size) g hr (E.toL (E.var 2) (E.var 3)) List.map_take.symm (by rw [List.length_take]; omega)) (E.pairs (b := true) (xs := ys.drop low) g hr (E.fromL (E.var 2) (E.var 4)) List.map_drop.symm (by rw [List.length_drop]; omega)) (by have := pairs_sub t1 ly; have := pairs_sub t2 ly; simp only [List.length_map]; omega)).castL (by rw [List.map_append])) ?_ hN
  refine B.ret hR (Le.refl _) (E.plain (b := b) (n := 30) g hr (E.var 1) (E.catS (enc := pr) (E.var 5) (E.lcS (enc := pr) (xs := pairsOf ys) (S := fun _ _ => True) pr 6 (W.list (E.pairs (b := true) (xs := ys) g hr (E.var 2) rfl (by omega))) [("_law_pair", 6)] (fun p hp q' acc s H0 A' cl fp => ?_) (fun p hp z q' acc s H0 A' cl fp => E.var 6) (by have := pairs_5 ly; omega) (blkOk_by (N := N_knotty) (sc := defScope s_knotty) (by decide +kernel)) hN) ?_) (by omega) (fun ps hps => ?_) (by decide))
  · exact (C.eqs (E.stir g hr 9 (E.var 0) E.int).Nn (E.ex 0 E.int)).imp fun _ _ => trivial
  · intro qs hqs
    have := pairs_sub t1 ly
    have := pairs_sub t2 ly
    have := hqs.1.length_le
    have := pairs_5 ly
    rw [List.length_append]
    omega
  · obtain ⟨qs, hqs, rfl⟩ := hps
    have := pairs_sub t1 ly
    have := pairs_sub t2 ly
    have := hqs.1.length_le
    have := pairs_5 ly
    refine ⟨fun p hp => ?_, by rw [List.length_append, List.length_append]; omega⟩
    (rcases List.mem_append.mp hp with hp | hp)
    · (rcases List.mem_append.mp hp with hp | hp)
      · exact tie_of_sub hys h2 t1 p hp
      · exact tie_of_sub hys h2 t2 p hp
    · exact tie_of_sub hys h2 (List.Sublist.refl _) p (hqs.1.subset hp)
theorem ok_two_webs (g : Gs K mg) : Ok P w K mg base 4 "_law_two_webs" ["_law_pot_here", "_law_things"] (pm_maker1 45) := by
  refine Ok.of (k := 3) (g.df _ 74) sc_two_webs (fun _ => rfl) (fun _ _ _ _ _ _ us hl => match us, hl with | [_, _], _ => rfl) fun ⟨q, b, xs⟩ f cdv A outer s H Ex ex lk En hp hlk hr hR hn => ?_
  obtain ⟨⟨h0, h1⟩, h2⟩ := hp
  have h0 : 1 ≤ xs.length := h0
  have h1 : xs.length ≤ 5 := h1
  have h2 : xs.Nodup := h2
  have hN := sc_two_webs.nd
  refine B.unpS (Sa := fun n : Nat => n ≤ 5) (Ta := fun n => I (n : Int)) (Sb := fun _ : Bool => True) (Tb := Bo) 2 3 ((E.adds (E.ex 1 E.int) (E.stir g hr (if (xs.length : Int) - 1 > 1 then xs.length - 1 else 1) (E.var 0) ((E.max2 (g.bi "max") E.int (E.sub ((E.lenQ (b := b) (ds := xs.map .str) (g.bi "len") (E.var 1)).nat (n := xs.length) (by rw [List.length_map])) E.int)).nat ?_) (by split <;> omega) (by split <;> omega)).Nn).nN fun i ⟨a, ea, c, ⟨n, hn, ec⟩, ei⟩ => ⟨n + 1, by split at hn <;> omega, by omega⟩) (E.eqsB (E.stir g hr 2 (E.var 0) E.int).Nn (E.ex 0 E.int)) (fun size hsz over _ => ?_) hN (by decide) (show 2 < 8 by decide) (show 3 < 8 by decide)
  · split <;> omega
  refine B.asgS 4 (E.shuf (enc := PyData.str) (xs := xs) (b := b) g hr (E.var 0) (E.var 1) (by omega)) (fun ys hys => ?_) hN
  have ly : ys.length ≤ 5 := by rw [hys.length_eq]; exact h1
  have ndy : ys.Nodup := hys.nodup_iff.mpr h2
  have t1 := List.take_sublist size ys
  have t2 := List.drop_sublist size ys
  have mk : ∀ {zs : List Str}, zs.Sublist ys → ∀ wb, Made zs 10 wb → (∀ p ∈ wb.2, Tie xs p) ∧ wb.2.length ≤ 10 := fun {zs} hz wb ⟨_, m1, m2⟩ => ⟨fun p hp => ⟨hys.mem_iff.mp (hz.subset (m1 p hp).1), hys.mem_iff.mp (hz.subset (m1 p hp).2.1), ltS_ne (m1 p hp).2.2⟩, m2⟩
  refine B.newS 5 (EFS.cat (enc := pr) (E.tiesS hr (E.ok (ok_by_chance g) hr (q, true, ys.take size) ⟨Nat.le_trans t1.length_le ly, t1.nodup ndy⟩ (.cons (E.var 0) (.cons ((E.toL (E.var 4) (E.var 2)).castL List.map_take.symm) .nil)))) (E.tiesS hr (E.ok (ok_by_chance g) hr (q, true, ys.drop size) ⟨Nat.le_trans t2.length_le ly, t2.nodup ndy⟩ (.cons (E.var 0) (.cons ((E.fromL (E.var 4) (E.var 2)).castL List.map_drop.symm) .nil)))) (fun ps ⟨w1, hw1, e1⟩ qs ⟨w2, hw2, e2⟩ => by have := (mk t1 w1 hw1).2; have := (mk t2 w2 hw2).2; subst e1; subst e2; omega)) (fun ts hts p np nb => ?_) hN
  have hts : (∀ t ∈ ts, Tie xs t) ∧ ts.length ≤ 20 := by
    obtain ⟨ps, ⟨w1, hw1, e1⟩, qs, ⟨w2, hw2, e2⟩, e3⟩ := hts
    subst e1; subst e2; subst e3
    have m1 := mk t1 w1 hw1
    have m2 := mk t2 w2 hw2
    refine ⟨fun t ht => ?_, by rw [List.length_append]; omega⟩
    rcases List.mem_append.mp ht with ht | ht
    · exact m1.1 t ht
    · exact m2.1 t ht
  refine B.forN 6 (fun a : List Pr => [(p, cnL (a.map pr))]) (fun _ => [some (Ty.is (.ref q)), some (sq b (xs.map .str)), some (I (size : Int)), some (Bo over), some (L (ys.map .str)), some (Ty.is (.ref p)), none, none]) (fun n a => (∀ t ∈ a, Tie xs t) ∧ a.length ≤ 20 + n * 5) (W.list (ds := (ys.take size).map .str) ((E.toL (E.var 4) (E.var 2)).castL List.map_take.symm)) ⟨ts, ⟨hts.1, hts.2⟩, fun _ _ l => l⟩ (fun n d a hd ⟨iv1, iv2⟩ c => ?_) (fun a ⟨iv1, iv2⟩ => ?_) hN
  · rw [List.getElem?_map] at hd
    cases hx : (ys.take size)[n]? with
    | none => rw [hx] at hd; cases hd
    | some x =>
      rw [hx] at hd
      cases hd
      have hnl : n < (ys.take size).length := (List.getElem?_eq_some_iff.mp hx).1
      have hnl2 := t1.length_le
      refine B.extend (p := p) (ds := a.map pr) (es := (((ys.drop size).filter fun _ => over).map fun y => (x, y)).map pr) (E.var 5) List.mem_cons_self ((E.lcF (enc := PyData.str) (xs := ys.drop size) (fun _ => over) (fun y => pr (x, y)) 7 (W.list ((E.fromL (E.var 4) (E.var 2)).castL List.map_drop.symm)) [("_law_other", 7)] (fun y hy p' acc s H0 A' cl fp => C.valB (E.var 3)) (fun y hy z p' acc s H0 A' cl fp => E.tupD (ds := [.str x, .str y]) (.cons (E.var (T := S_ x) 6) (.cons (E.var 7) .nil))) (by have := t2.length_le; omega) (blkOk_by (N := N_two_webs) (sc := defScope s_two_webs) (by decide +kernel)) hN).castL (by rw [List.map_map]; rfl)) ?_ (.nil fun σ H l => ⟨a ++ ((ys.drop size).filter fun _ => over).map fun y => (x, y), ⟨fun t ht => ?_, ?_⟩, ?_⟩)
      · have := t2.length_le
        have := List.length_filter_le (fun _ => over) (ys.drop size)
        simp only [List.length_map]
        omega
      · rcases List.mem_append.mp ht with ht | ht
        · exact iv1 t ht
        · obtain ⟨y, hy, rfl⟩ := List.mem_map.mp ht
          have hy := (List.mem_filter.mp hy).1
          refine ⟨hys.mem_iff.mp (t1.subset (List.mem_of_getElem? hx)), hys.mem_iff.mp (t2.subset hy), fun e => ?_⟩
          have e : x = y := e
          subst e
          have nd := ndy
          rw [← List.take_append_drop size ys] at nd
          exact (List.nodup_append.mp nd).2.2 _ (List.mem_of_getElem? hx) _ hy rfl
      · have := t2.length_le
        have := List.length_filter_le (fun _ => over) (ys.drop size)
        simp only [List.length_append, List.length_map]
        omega
      · rw [List.map_append]
        have l2 := l
        rw [show setO [(p, cnL (a.map pr))] p (cnL (a.map pr ++ (((ys.drop size).filter fun _ => over).map fun y => (x, y)).map pr)) = [(p, cnL (a.map pr ++ (((ys.drop size).filter fun _ => over).map fun y => (x, y)).map pr))] from setO_one] at l2
        exact l2.wk (.keep (.keep (.keep (.keep (.keep (.keep (.drop (.keep .nil))))))))
  · rw [List.length_map] at iv2
    have hl := t1.length_le
    refine B.drop (M := Mf ex [(q, PotOk)] lk H) (p := p) (ds := a.map pr) 5 np nb rfl ?_
    exact B.ret hR (Le.refl _) (E.plain (b := b) (n := 45) g hr (E.var 1) ((E.var (T := L (a.map pr)) 5).imp fun v H w z => ⟨a, rfl, z⟩) (by omega) (fun ps e => by subst e; exact ⟨iv1, by omega⟩) (by decide))
end
end HB


namespace HB
open PySem L2 PyProof.Rows PySem.Spec
section
variable {w : World} {P : Program} {K : PySem.W.Frag} {mg : Str → Option Value} {base : Heap}
theorem cutD_strs (ys : List Str) (lo hi : Option Int) : ∃ zs : List Str, cutD (ys.map .str) lo hi = zs.map .str ∧ zs.Sublist ys := by
  unfold cutD
  exact ⟨(ys.drop _).take _, by rw [List.map_take, List.map_drop], (List.take_sublist _ _).trans (List.drop_sublist _ _)⟩
/-- pair not in pairs -/
theorem C.ninP {X : Cx} {M : Mx} {Γ : Gm} {a b : Expr} {pos : Pos} {m : Nat} {p : Pr} {ps : List Pr} (hr : Room m X.A) (ha : E X M Γ a (D (pr p))) (hb : E X M Γ b (L (ps.map pr))) (hp : Pok p) (hps : ∀ q ∈ ps, Pok q) (hm : behindInMarks .NotIn b = false := by rfl) : C X M Γ (.Compare a [.NotIn] [b] pos) (· = !decide (p ∈ ps)) := (C.ninD hr ha hb (pr_shaped hp) (prs_shaped hps) hm).imp fun v e => by
  rw [e, any_enc eqv_pr]
  exact congrArg (fun b => !b) (decide_eq_decide.mpr Iff.rfl)
def pm_around : Pm (Addr × Bool × List Str) where
  pre := fun q => (1 ≤ q.2.2.length ∧ q.2.2.length ≤ 5) ∧ q.2.2.Nodup ∧ Gok q.2.2
  req := fun q => [(q.1, PotOk)]
  args := fun q => [Ty.is (.ref q.1), sq q.2.1 (q.2.2.map .str)]
  res := fun q => .some (Made q.2.2 45) plT
theorem ok_around (g : Gs K mg) : Ok P w K mg base 3 "_law_around" ["_law_pot_here", "_law_things"] pm_around := by
  refine Ok.of (k := 2) (g.df _ 72) sc_around (fun _ => rfl) (fun _ _ _ _ _ _ us hl => match us, hl with | [_, _], _ => rfl) fun ⟨q, b, xs⟩ f cdv A outer s H Ex ex lk En hp hlk hr hR hn => ?_
  obtain ⟨⟨h0, h1⟩, h2, h3⟩ := hp
  have h0 : 1 ≤ xs.length := h0
  have h1 : xs.length ≤ 5 := h1
  have h2 : xs.Nodup := h2
  have h3 : Gok xs := h3
  have hN := sc_around.nd
  refine B.asgS 2 (E.shuf (enc := PyData.str) (xs := xs) (b := b) g hr (E.var 0) (E.var 1) (by omega)) (fun ys hys => ?_) hN
  have ly : ys.length ≤ 5 := by rw [hys.length_eq]; exact h1
  have ndy : ys.Nodup := hys.nodup_iff.mpr h2
  have oky : Gok ys := fun x hx => h3 x (hys.mem_iff.mp hx)
  refine B.asgS 3 (S := fun n : Nat => n ≤ 5) (f := fun n => I (n : Int)) ((E.min2s (g.bi "min") (E.ex (ys.length : Int) ((E.lenL (ds := ys.map .str) (g.bi "len") (E.var 2)).nat (by rw [List.length_map]))) (E.adds (E.ex 3 E.int) (E.stir g hr 5 (E.var 0) E.int).Nn)).nN fun i ⟨a, ea, c, ⟨c1, e1, c2, ⟨n, hn, e2⟩, e3⟩, ei⟩ => ⟨i.toNat, by subst ea; split at ei <;> omega, by subst ea; split at ei <;> omega⟩) (fun size hsz => ?_) hN
  have t1 := List.take_sublist size ys
  obtain ⟨zs, ez, sz⟩ := cutD_strs ys (some 1) (some (size : Int))
  have lz := sz.length_le
  refine B.asg 4 (T := L (((ys.take size).zip (zs ++ ys.take 1)).map pr)) (E.listZip (g.bi "list") (g.bi "zip") ((E.toL (E.var 2) (E.var 3)).castL List.map_take.symm) ((E.catL (ds := zs.map .str) (es := (ys.take 1).map .str) ((E.slL (ds := ys.map .str) (E.var 2) (Pt.int (i := 1) E.int) (Pt.int (i := (size : Int)) (E.var 3))).imp fun v H w ⟨⟨lo, hi⟩, ⟨e1, e2⟩, z⟩ => by cases e1; cases e2; exact (congrArg (fun d => Rp _ _ _ (.list d)) ez).mp z) ((E.toL (k := 1) (E.var 2) E.int).castL List.map_take.symm) (by simp only [List.length_map, List.length_take]; omega)).castL List.map_append.symm) (by rw [List.length_take]; omega)) ?_ hN
  have lr : ((ys.take size).zip (zs ++ ys.take 1)).length ≤ 5 := by
    rw [List.length_zip, List.length_take]
    omega
  have mr : ∀ p ∈ (ys.take size).zip (zs ++ ys.take 1), p.1 ∈ ys ∧ p.2 ∈ ys := fun p hp => by
    have := List.of_mem_zip (a := p.1) (b := p.2) hp
    refine ⟨t1.subset this.1, ?_⟩
    rcases List.mem_append.mp this.2 with z | z
    · exact sz.subset z
    · exact List.mem_of_mem_take z
  generalize (ys.take size).zip (zs ++ ys.take 1) = ring at lr mr
  refine B.asg 5 (T := L ((ring.filter fun p => !decide (p.1 = p.2)).map fun p => pr (norm p))) (E.lcF (enc := pr) (xs := ring) (fun p => !decide (p.1 = p.2)) (fun p => pr (norm p)) 8 (W.list (E.var 4)) [("_law_pair", 8)] (fun p hp q' acc s H0 A' cl fp => C.neS (E.ixU (i := 0) (ds := [.str p.1, .str p.2]) (E.var (T := D (pr p)) 8) E.int rfl) (E.ixU (i := 1) (ds := [.str p.1, .str p.2]) (E.var (T := D (pr p)) 8) E.int rfl)) (fun p hp z q' acc s H0 A' cl fp => E.tupD (ds := [.str (minS p.1 p.2), .str (maxS p.1 p.2)]) (.cons (E.minP (g.bi "min") (E.var (T := D (pr p)) 8)) (.cons (E.maxP (g.bi "max") (E.var (T := D (pr p)) 8)) .nil))) (by omega) (blkOk_by (N := N_around) (sc := defScope s_around) (by decide +kernel)) hN) ?_ hN
  rw [show (ring.filter fun p => !decide (p.1 = p.2)).map (fun p => pr (norm p)) = ((ring.filter fun p => !decide (p.1 = p.2)).map norm).map pr by rw [List.map_map]; rfl]
  have tr : ∀ p ∈ (ring.filter fun p => !decide (p.1 = p.2)).map norm, Tie ys p := fun p hp => by
    obtain ⟨p', hp', rfl⟩ := List.mem_map.mp hp
    obtain ⟨m1, m2⟩ := List.mem_filter.mp hp'
    have t := norm_tie (xs := ys) (p := p') ⟨(mr p' m1).1, (mr p' m1).2, by simpa using m2⟩
    exact ⟨t.1, t.2.1, ltS_ne t.2.2⟩
  have ltr : ((ring.filter fun p => !decide (p.1 = p.2)).map norm).length ≤ 5 := by
    rw [List.length_map]
    exact Nat.le_trans (List.length_filter_le _ _) lr
  generalize (ring.filter fun p => !decide (p.1 = p.2)).map norm = ties at tr ltr
  have ps := sortS_perm (ys.take size)
  have lps : (sortS (ys.take size)).length ≤ 5 := by rw [ps.length_eq, List.length_take]; omega
  have tin : ∀ p ∈ pairsOf (sortS (ys.take size)), Tie ys p := fun p hp => (pairs_tie (ps.nodup_iff.mpr (t1.nodup ndy)) p hp).mono fun x hx => t1.subset (ps.mem_iff.mp hx)
  have pk : ∀ {p : Pr}, Tie ys p → Pok p := fun t => ⟨oky _ t.1, oky _ t.2.1⟩
  refine B.asg 6 (T := L ((pairsOf (sortS (ys.take size))).map pr)) (E.pairs (b := true) g hr (E.sortLs hr (g.bi "sorted") ((E.toL (E.var 2) (E.var 3)).castL List.map_take.symm) (by rw [List.length_take]; omega)) rfl (by omega)) ?_ hN
  have lin := pairs_5 lps
  generalize pairsOf (sortS (ys.take size)) = inside at tin lin
  have fin : ∀ ts : List Pr, (∀ p ∈ ts, Tie ys p) → ts.length ≤ 10 → B (cxOf CX0 P w K mg base N_around (Str.ofString "_law_around") (defScope s_around) f cdv A outer s H Ex).nox (Mf ex (pm_around.req (q, b, xs)) lk H) [some (Ty.is (.ref q)), some (sq b (xs.map .str)), some (L (ys.map .str)), some (I (size : Int)), some (L (ring.map pr)), some (L (ts.map pr)), some (L (inside.map pr)), none, none] ((defBody s_around).drop 6) En := fun ts h4 h5 => by
    refine B.lcS 7 (enc := pr) (xs := pairsOf xs) (S := fun _ _ => True) pr 8 (W.list (E.pairs (b := b) (xs := xs) g hr (E.var 1) rfl (by omega))) [("_law_pair", 8)] (fun p hp q' acc s H0 A' cl fp => ?_) (fun p hp z q' acc s H0 A' cl fp => E.var 8) (by have := pairs_5 h1; omega) (fun ms hms => ?_) (blkOk_by (N := N_around) (sc := defScope s_around) (by decide +kernel)) hN
    · have tp := pairs_tie h2 p hp
      exact (CW.anyAnd (C.ninP hr (E.var (T := D (pr p)) 8) (E.var (T := L (inside.map pr)) 6) ⟨h3 _ tp.1, h3 _ tp.2.1⟩ fun q hq => pk (tin q hq)) (CW.and1 (C.eqs (E.stir g hr 3 (E.var 0) E.int).Nn (E.ex 0 E.int)))).c
    · refine B.ret hR (Le.refl _) (E.plain (b := b) (n := 45) g hr (E.var 1) (((E.catL (E.var (T := L (ts.map pr)) 5) (E.var (T := L (ms.map pr)) 7) ?_).castL List.map_append.symm).imp fun v H w z => ⟨ts ++ ms, rfl, z⟩) (by omega) (fun rs e => ?_) (by decide))
      · have := hms.length_le
        have := pairs_5 h1
        rw [List.length_map, List.length_map]
        omega
      · subst e
        have := hms.length_le
        have := pairs_5 h1
        refine ⟨fun p hp => ?_, by rw [List.length_append]; omega⟩
        (rcases List.mem_append.mp hp with hp | hp)
        · exact (h4 p hp).mono fun x hx => hys.mem_iff.mp hx
        · exact pairs_tie h2 p (hms.subset hp)
  refine B.ite (C.eqs (E.stir g hr 2 (E.var 0) E.int).Nn (E.ex 0 E.int)) (fun _ => ?_) fun _ => B.skip (fin ties tr (by omega))
  refine B.asg 5 (T := L ((inside.filter fun p => !decide (p ∈ ties)).map pr)) (E.lcF (enc := pr) (xs := inside) (fun p => !decide (p ∈ ties)) pr 8 (W.list (E.var 6)) [("_law_pair", 8)] (fun p hp q' acc s H0 A' cl fp => C.ninP hr (E.var (T := D (pr p)) 8) (E.var (T := L (ties.map pr)) 5) (pk (tin p hp)) fun q hq => pk (tr q hq)) (fun p hp z q' acc s H0 A' cl fp => E.var 8) (by omega) (blkOk_by (N := N_around) (sc := defScope s_around) (by decide +kernel)) hN) (B.skip (fin _ (fun p hp => tin p (List.mem_filter.mp hp).1) (Nat.le_trans (List.length_filter_le _ _) lin))) hN
end
end HB


namespace HB
open PySem L2 PyProof.Rows PySem.Spec
section
variable {w : World} {P : Program} {K : PySem.W.Frag} {mg : Str → Option Value} {base : Heap}
theorem made_wf {xs : List Str} {n : Nat} {wb : Wb} (h : Made xs n wb) (asc : Asc xs) (h1 : 1 ≤ xs.length) (h5 : xs.length ≤ 5) (nm : ∀ x ∈ xs, Nw x) (hn : n ≤ 50) : Wf wb := by
  obtain ⟨e, t, l⟩ := h
  have e : wb.1 = xs := e.trans (sortS_of_perm asc (.refl _))
  exact ⟨e ▸ asc, e ▸ h1, e ▸ h5, e ▸ nm, fun p hp => by rw [e]; exact t p hp, Nat.le_trans l hn⟩
def pm_nearly : Pm (Addr × Wb) where
  pre := fun q => Wf q.2 ∧ q.2.2.length ≤ 45
  req := fun q => [(q.1, PotOk)]
  args := fun q => [Ty.is (.ref q.1), plT q.2]
  res := fun _ => .some Wf plT
theorem ok_nearly (g : Gs K mg) : Ok P w K mg base 3 "_law_nearly" ["_law_pot_here", "_law_plain_here"] pm_nearly := by
  refine Ok.of (k := 2) (g.df _ 75) sc_nearly (fun _ => rfl) (fun _ _ _ _ _ _ us hl => match us, hl with | [_, _], _ => rfl) fun ⟨q, wb⟩ f cdv A outer s H Ex ex lk En hp hlk hr hR hn => ?_
  obtain ⟨h1, h2⟩ := hp
  have h1 : Wf wb := h1
  have h2 : wb.2.length ≤ 45 := h2
  have hN := sc_nearly.nd
  have okw := h1.wok
  have l5 := h1.len
  have ptie := pairs_tie h1.asc.nodup
  have pk : ∀ p ∈ pairsOf wb.1, Pok p := fun p hp => pairs_ok okw.ok p hp
  refine B.asg 2 (E.pairs (b := false) (xs := wb.1) g hr (E.things hr (E.var (T := plT wb) 1)) rfl (by omega)) ?_ hN
  refine B.ite (C.eqD hr (E.var (T := L ((pairsOf wb.1).map pr)) 2) E.lst0 (prs_shaped pk) nil_shaped) (fun _ => ?_) fun he => B.skip ?_
  · exact B.ret hR (Le.refl _) ((E.var (T := plT wb) 1).imp fun v H w z => ⟨wb, h1, z⟩)
  have ne : 0 < (pairsOf wb.1).length := by
    rw [eqv_nil] at he
    cases hp : pairsOf wb.1 with
    | nil => rw [hp] at he; cases he
    | cons a l => simp
  have lp := pairs_5 l5
  refine B.asgS 3 (S := fun p : Pr => p ∈ pairsOf wb.1) (f := fun p => D (pr p)) ((E.ok (ok_one_of g) hr (q, (pairsOf wb.1).map pr) ⟨by show 0 < ((pairsOf wb.1).map pr).length; rw [List.length_map]; exact ne, by show ((pairsOf wb.1).map pr).length ≤ 100000; rw [List.length_map]; omega⟩ (.cons (E.var 0) (.cons (E.var 2) .nil))).imp fun v H w ⟨d, hd, z⟩ => by
    obtain ⟨p, hp, rfl⟩ := List.mem_map.mp hd
    exact ⟨p, hp, z⟩) (fun p hp => ?_) hN
  refine B.asg 4 (T := L ((wb.2.filter (fun t => !decide (t = p)) ++ List.replicate (if !decide (p ∈ wb.2) then 1 else 0) p).map pr)) ((E.catL (E.lcF (enc := pr) (xs := wb.2) (fun t => !decide (t = p)) pr 5 (W.list (E.ties hr (E.var (T := plT wb) 1))) [("_law_one", 5)] (fun t ht q' acc s H0 A' cl fp => ?_) (fun t ht z q' acc s H0 A' cl fp => E.var 5) (by omega) (blkOk_by (N := N_nearly) (sc := defScope s_nearly) (by decide +kernel)) hN) (E.rep (E.lstD (ds := [pr p]) (.cons (E.var (T := D (pr p)) 3) .nil)) (E.intB (g.bi "int") ((E.ninD hr (E.var (T := D (pr p)) 3) (E.ties hr (E.var (T := plT wb) 1)) (pr_shaped (pk p hp)) (prs_shaped okw.tok)).cast (d' := .bool (!decide (p ∈ wb.2))) ?_)) (by split <;> decide) (by split <;> decide)) ?_).castL ?_) ?_ hN
  · exact (C.neD hr (E.var (T := D (pr t)) 5) (E.var (T := D (pr p)) 3) (pr_shaped (okw.tok t ht)) (pr_shaped (pk p hp))).imp fun v e => by
      rw [e, eqv_pr]
  · rw [any_enc eqv_pr]
    exact congrArg (fun b => PyData.bool (!b)) (decide_eq_decide.mpr Iff.rfl)
  · have := List.length_filter_le (fun t => !decide (t = p)) wb.2
    rw [List.length_map, List.length_replicate]
    have h3 : (if (!decide (p ∈ wb.2)) = true then (1 : Int) else 0).toNat ≤ 1 := by split <;> decide
    have h4 : (wb.2.filter fun t => !decide (t = p)).length ≤ wb.2.length := List.length_filter_le _ _
    omega
  · rw [List.map_append, List.map_replicate]
    congr 2
    by_cases hin : p ∈ wb.2 <;> simp [hin]
  · refine B.ret hR (Le.refl _) ((E.plain (b := false) (n := 46) (xs := wb.1) g hr (E.things hr (E.var (T := plT wb) 1)) ((E.var (T := L ((wb.2.filter (fun t => !decide (t = p)) ++ List.replicate (if !decide (p ∈ wb.2) then 1 else 0) p).map pr)) 4).imp fun v H w z => ⟨_, rfl, z⟩) (by omega) (fun rs e => ?_) (by decide)).imp fun v H w ⟨w', hw', z⟩ => ⟨w', made_wf hw' h1.asc h1.pos h1.len h1.nw (by decide), z⟩)
    subst e
    have h3 : (if (!decide (p ∈ wb.2)) = true then 1 else 0) ≤ 1 := by split <;> decide
    refine ⟨fun t ht => ?_, ?_⟩
    · rcases List.mem_append.mp ht with ht | ht
      · have := h1.tie t (List.mem_filter.mp ht).1
        exact ⟨this.1, this.2.1, ltS_ne this.2.2⟩
      · rw [(List.mem_replicate.mp ht).2]
        exact ptie p hp
    · have h4 : (wb.2.filter fun t => !decide (t = p)).length ≤ wb.2.length := List.length_filter_le _ _
      (rw [List.length_append, List.length_replicate])
      omega
def pm_web : Pm Addr where
  req := fun q => [(q, PotOk)]
  args := fun q => [Ty.is (.ref q), I 5]
  res := fun _ => .some Wf plT
theorem ok_web (g : Gs K mg) : Ok P w K mg base 5 "_law_web" ["_law_pot_here", "_law_most"] pm_web := by
  refine Ok.of (k := 4) (g.df _ 76) sc_web (fun _ => rfl) (fun _ _ _ _ _ _ us hl => match us, hl with | [_, _], _ => rfl) fun q f cdv A outer s H Ex ex lk En hp hlk hr hR hn => ?_
  have hN := sc_web.nd
  refine B.parS (Sa := fun ws : List Str => (1 ≤ ws.length ∧ ws.length ≤ 5) ∧ Asc ws ∧ ∀ x ∈ ws, Nw x) (Ta := G) (Sb := fun n : Nat => n < 8) (Tb := fun n => I (n : Int)) 2 3 (E.ok2 (S := fun n : Nat => 1 ≤ n ∧ n ≤ 5) (Tf := fun n => I (n : Int)) (ok_words g) hr (E.var 0) ((E.adds (E.ex 1 E.int) (E.stir g hr 5 (E.var 0) (E.var 1)).Nn).nN fun i ⟨a, ea, c, ⟨n, hn, e2⟩, e3⟩ => ⟨n + 1, by omega, by omega⟩) (fun n => (q, n)) (fun _ => rfl) (fun n hn => hn) (fun n hn ex v H ⟨ws, ⟨e, h1, h2⟩, z⟩ => ⟨ws, ⟨by rw [e]; exact hn, h1, h2⟩, z⟩) (hq := fun b z hz => hz)) (E.stir g hr 8 (E.var 0) E.int) (fun ws ⟨⟨h1, h5⟩, asc, nm⟩ way hway => ?_) hN
  have fin : ∀ wb : Wb, Wf wb → wb.2.length ≤ 45 → B (cxOf CX0 P w K mg base N_web (Str.ofString "_law_web") (defScope s_web) f cdv A outer s H Ex).nox (Mf ex (pm_web.req q) lk H) [some (Ty.is (.ref q)), some (I 5), some (G ws), some (I (way : Int)), some (plT wb)] ((defBody s_web).drop 2) En := fun wb hw hl => by
    refine B.ret hR (Le.refl _) (E.ifExpS (C.eqs (E.stir g hr 5 (E.var 0) E.int).Nn (E.ex 0 E.int)) (fun _ => E.ok (ok_nearly g) hr (q, wb) ⟨hw, hl⟩ (.cons (E.var 0) (.cons (E.var 4) .nil))) fun _ => (E.var (T := plT wb) 4).imp fun v H w z => ⟨wb, hw, z⟩)
  have mk : ∀ {n : Nat} {wb : Wb}, n ≤ 45 → Made ws n wb → Wf wb ∧ wb.2.length ≤ 45 := fun hn h => ⟨made_wf h asc h1 h5 nm (by omega), Nat.le_trans h.2.2 hn⟩
  refine B.ite (C.ltI (E.var (T := I (way : Int)) 3) E.int) (fun _ => ?_) fun _ => ?_
  · refine B.asgS 4 (E.ok (ok_by_chance g) hr (q, false, ws) ⟨h5, asc.nodup⟩ (.cons (E.var 0) (.cons (E.var 2) .nil))) (fun wb hw => B.skip (fin wb (mk (by decide) hw).1 (mk (by decide) hw).2)) hN
  refine B.ite (C.eqI (E.var (T := I (way : Int)) 3) E.int) (fun _ => ?_) fun _ => ?_
  · refine B.asgS 4 (E.ok (ok_with_sides g) hr (q, false, ws) ⟨h5, asc.nodup⟩ (.cons (E.var 0) (.cons (E.var 2) .nil))) (fun wb hw => B.skip (B.skip (fin wb (mk (by decide) hw).1 (mk (by decide) hw).2))) hN
  refine B.ite (C.eqI (E.var (T := I (way : Int)) 3) E.int) (fun _ => ?_) fun _ => ?_
  · refine B.asgS 4 (E.ok (ok_grown_web g) hr (q, false, ws) ⟨h5, asc.nodup⟩ (.cons (E.var 0) (.cons (E.var 2) .nil))) (fun wb hw => B.skip (B.skip (B.skip (fin wb (mk (by decide) hw).1 (mk (by decide) hw).2)))) hN
  refine B.ite (C.eqI (E.var (T := I (way : Int)) 3) E.int) (fun _ => ?_) fun _ => ?_
  · refine B.asgS 4 (E.ok (ok_around g) hr (q, false, ws) ⟨⟨h1, h5⟩, asc.nodup, fun x hx => (nm x hx).1.sok⟩ (.cons (E.var 0) (.cons (E.var 2) .nil))) (fun wb hw => B.skip (B.skip (B.skip (B.skip (fin wb (mk (by decide) hw).1 (mk (by decide) hw).2))))) hN
  refine B.asgS 4 (S := fun wb => Wf wb ∧ wb.2.length ≤ 45) (f := plT) (E.ifExpS (C.ltI (E.var (T := I (way : Int)) 3) E.int) (fun _ => (E.ok (ok_knotty g) hr (q, false, ws) ⟨⟨h1, h5⟩, asc.nodup⟩ (.cons (E.var 0) (.cons (E.var 2) .nil))).imp fun v H w ⟨wb, hw, z⟩ => ⟨wb, mk (by decide) hw, z⟩) fun _ => (E.ok (ok_two_webs g) hr (q, false, ws) ⟨⟨h1, h5⟩, asc.nodup⟩ (.cons (E.var 0) (.cons (E.var 2) .nil))).imp fun v H w ⟨wb, hw, z⟩ => ⟨wb, mk (by decide) hw, z⟩) (fun wb hw => B.skip (B.skip (B.skip (B.skip (fin wb hw.1 hw.2))))) hN
end
end HB


namespace HB
open PySem L2 PyProof.Rows PySem.Spec
theorem lawGroups_snoc (xs : List Str) (x : Str) : lawGroups (xs ++ [x]) = lawGroups xs ++ (lawGroups xs).map fun g => g ++ [x] := by
  unfold lawGroups
  rw [List.foldl_append]
  rfl
theorem mem_lawGroups : ∀ {xs : List Str} {g : List Str}, g ∈ lawGroups xs ↔ g.Sublist xs := by
  intro xs
  have key : ∀ (n : Nat) (xs : List Str), xs.length = n → ∀ g, g ∈ lawGroups xs ↔ g.Sublist xs := by
    intro n
    induction n with
    | zero =>
      intro xs h g
      rw [List.eq_nil_of_length_eq_zero h]
      simp [lawGroups]
    | succ n ih =>
      intro xs h g
      obtain ⟨ys, y, rfl⟩ : ∃ ys y, xs = ys ++ [y] := ⟨xs.dropLast, xs.getLast (by intro z; rw [z] at h; cases h), (List.dropLast_concat_getLast _).symm⟩
      have hl : ys.length = n := by simpa using h
      rw [lawGroups_snoc, List.mem_append, ih ys hl, List.mem_map, List.sublist_append_iff]
      constructor
      · rintro (h | ⟨g', h, rfl⟩)
        · exact ⟨g, [], by simp, h, by simp⟩
        · exact ⟨g', [y], rfl, (ih ys hl g').mp h, .refl _⟩
      · rintro ⟨g1, g2, rfl, h1, h2⟩
        rcases List.sublist_cons_iff.mp h2 with h3 | ⟨r, rfl, h3⟩
        · rw [List.sublist_nil.mp h3, List.append_nil]
          exact .inl h1
        · rw [List.sublist_nil.mp h3]
          exact .inr ⟨g1, (ih ys hl g1).mpr h1, rfl⟩
  exact fun {g} => key _ xs rfl g
theorem alike_gr (g h : List Str) : PySem.W.alike (gr g) (gr h) = true := by
  have key : ∀ g h : List Str, PySem.W.alikeAll (g.map .str) (h.map .str) = true := by
    intro g
    induction g with
    | nil => intro h; simp [PySem.W.alikeAll]
    | cons x g ih =>
      intro h
      cases h with
      | nil => simp [PySem.W.alikeAll]
      | cons y h =>
        show PySem.W.alikeAll (.str x :: g.map .str) (.str y :: h.map .str) = true
        rw [PySem.W.alikeAll, ih h]
        simp [PySem.W.alike]
  unfold gr
  rw [PySem.W.alike, key]
/-- sorted groups -/
def leG (g h : List Str) : Bool := PySem.W.dataLe false gr g h
def sortG (gs : List (List Str)) : List (List Str) := gs.mergeSort leG
theorem srt_grs (gs : List (List Str)) : srt (gs.map gr) = (sortG gs).map gr := by
  unfold srt sortG
  rw [List.map_mergeSort (r := leG) (s := PySem.W.dataLe false _root_.id) (f := gr) fun a _ b _ => rfl]
theorem sortG_perm (gs : List (List Str)) : (sortG gs).Perm gs := List.mergeSort_perm _ _
section
variable {w : World} {P : Program} {K : PySem.W.Frag} {mg : Str → Option Value} {base : Heap}
theorem E.sortGs {X : Cx} {M : Mx} {Γ : Gm} {e : Expr} {pos p : Pos} {k : Nat} {gs : List (List Str)} (hr : Room k X.A) (hm : X.mg "sorted" = none) (h : E X M Γ e (L (gs.map gr))) (h2 : SortOk (gs.map gr)) (h3 : gs.length ≤ 100000) (hg : Gl X "sorted" := by rfl) (he : starEach [e] X.env = (false, eval e X.env) :: starEach [] X.env := by rfl) : E X M Γ (.Call (.Name "sorted" p) [e] [] pos) (L ((sortG gs).map gr)) := by
  rw [← srt_grs]
  exact E.sortL hr hm h (PySem.W.AllAlike.of alike_gr) h2 (by rw [List.length_map]; exact h3) (fun d hd => by
    obtain ⟨g, _, rfl⟩ := List.mem_map.mp hd
    rw [gr_dep]
    decide) hg he
theorem grs_ok {gs : List (List Str)} (h : ∀ g ∈ gs, g ≠ []) : SortOk (gs.map gr) := .inl (.inl fun d hd => by
  obtain ⟨g, hg, rfl⟩ := List.mem_map.mp hd
  cases g with
  | nil => exact absurd rfl (h _ hg)
  | cons x g => exact ⟨_, _, rfl⟩)
/-- group != () -/
theorem C.neNil {X : Cx} {M : Mx} {Γ : Gm} {a : Expr} {pos p2 : Pos} {j m : Nat} {g : List Str} (hr : Room m X.A) (ha : E X M Γ a (G g)) (hg : Gok g) : C X M Γ (.Compare a [.NotEq] [.Tuple [] j p2] pos) (· = !g.isEmpty) := (C.neD (d := gr g) (e' := gr []) hr ha E.tup0 (gr_shaped hg) (gr_shaped fun x hx => by cases hx)).imp fun v e => by
  rw [e, eqv_gr]
  cases g <;> simp
def someP (p : List Str → Bool) (w : Wb) : List (List Str) := (lawGroups w.1).filter fun g => !g.isEmpty && p g
def pm_loose_of : Pm Wb where
  pre := Wf
  args := fun w => [plT w]
  res := fun w => L ((someP (looseP w) w).map gr)
theorem sub_gok {w : Wb} (h : Wf w) {g : List Str} (hg : g ∈ lawGroups w.1) : Gok g ∧ g.length ≤ 5 := ⟨fun x hx => h.wok.ok x ((mem_lawGroups.mp hg).subset hx), Nat.le_trans (mem_lawGroups.mp hg).length_le h.len⟩
theorem groups_32 {w : Wb} (h : Wf w) : (lawGroups w.1).length ≤ 32 := by
  rw [lawGroups_len]
  exact Nat.pow_le_pow_right (n := 2) (by decide) h.len
theorem ok_loose_of (g : Gs K mg) : Ok P w K mg base 3 "_law_loose_of" ["_law_plain_here"] pm_loose_of := by
  refine Ok.of (k := 2) (g.df _ 90) sc_loose_of (fun _ => rfl) (fun _ _ _ _ _ _ us hl => match us, hl with | [_], _ => rfl) fun wb f cdv A outer s H Ex ex lk En hp hlk hr hR hn => ?_
  have hp : Wf wb := hp
  refine B.ret hR (Le.refl _) (E.lcF (enc := gr) (xs := lawGroups wb.1) (fun gg => !gg.isEmpty && looseP wb gg) gr 1 (W.list (E.ok (ok_l_all_groups g) hr wb.1 (show wb.1.length ≤ 8 by have := hp.len; omega) (.cons (E.things hr (E.var (T := plT wb) 0)) .nil))) [("_law_group", 1)] (fun gg hg p acc s H0 A' cl fp => ?_) (fun gg hg z p acc s H0 A' cl fp => E.var 1) (by have := groups_32 hp; omega) (blkOk_by (N := N_loose_of) (sc := defScope s_loose_of) (by decide +kernel)) sc_loose_of.nd)
  obtain ⟨h1, h2⟩ := sub_gok hp hg
  exact (CW.and (C.neNil hr (E.var (T := G gg) 1) h1) fun _ => CW.and1 (C.valB (E.ok (ok_is_loose g) hr (wb, gg) ⟨hp.wok, h1, by show gg.length ≤ 100; omega⟩ (.cons (E.var (T := plT wb) 0) (.cons (E.var (T := G gg) 1) .nil))))).c
def Knots (w : Wb) (gs : List (List Str)) : Prop := (0 < gs.length ∧ gs.length ≤ 32) ∧ ∀ g ∈ gs, g.Sublist w.1
def pm_top_knots : Pm Wb where
  pre := Wf
  args := fun w => [plT w]
  res := fun w => .some (Knots w) fun gs => L (gs.map gr)
theorem ok_top_knots (g : Gs K mg) : Ok P w K mg base 3 "_law_top_knots" ["_law_plain_here"] pm_top_knots := by
  refine Ok.of (k := 2) (g.df _ 81) sc_top_knots (fun _ => rfl) (fun _ _ _ _ _ _ us hl => match us, hl with | [_], _ => rfl) fun wb f cdv A outer s H Ex ex lk En hp hlk hr hR hn => ?_
  have hp : Wf wb := hp
  have hN := sc_top_knots.nd
  have hz := groups_32 hp
  refine B.lcF 1 (enc := gr) (xs := lawGroups wb.1) (fun gg => !gg.isEmpty && knotP wb gg) gr 3 (W.list (E.ok (ok_l_all_groups g) hr wb.1 (show wb.1.length ≤ 8 by have := hp.len; omega) (.cons (E.things hr (E.var (T := plT wb) 0)) .nil))) [("_law_crowd", 3)] (fun gg hg p acc s H0 A' cl fp => ?_) (fun gg hg z p acc s H0 A' cl fp => E.var 3) (by omega) ?_ (blkOk_by (N := N_top_knots) (sc := defScope s_top_knots) (by decide +kernel)) hN
  · obtain ⟨h1, h2⟩ := sub_gok hp hg
    exact (CW.and (C.neNil hr (E.var (T := G gg) 3) h1) fun _ => CW.and1 (C.valB (E.ok (ok_is_knot g) hr (wb, gg) ⟨hp.wok, h1, by show gg.length ≤ 100; omega⟩ (.cons (E.var (T := plT wb) 0) (.cons (E.var (T := G gg) 3) .nil))))).c
  show B _ _ (List.set _ 1 (some (L ((someP (knotP wb) wb).map gr)))) _ _
  have hk : ∀ gg ∈ someP (knotP wb) wb, gg ∈ lawGroups wb.1 ∧ gg ≠ [] := fun gg hg => by
    obtain ⟨a, b⟩ := List.mem_filter.mp hg
    exact ⟨a, fun z => by subst z; simp at b⟩
  have hl : (someP (knotP wb) wb).length ≤ 32 := Nat.le_trans (List.length_filter_le _ _) hz
  have h0 : 0 < (someP (knotP wb) wb).length := by
    obtain ⟨x, hx⟩ : ∃ x, x ∈ wb.1 := by
      cases e : wb.1 with
      | nil => have := hp.pos; rw [e] at this; cases this
      | cons x xs => exact ⟨x, List.mem_cons_self⟩
    refine List.length_pos_of_mem (a := [x]) (List.mem_filter.mpr ⟨mem_lawGroups.mpr (List.singleton_sublist.mpr hx), ?_⟩)
    simp [knotP, pairsOf]
  generalize someP (knotP wb) wb = ks at hk hl h0
  refine B.asgS 2 (S := fun m : Int => m ∈ ks.map (fun gg => ((gg.length : Nat) : Int))) (f := I) ((E.max (ns := ks.map fun gg => ((gg.length : Nat) : Int)) (g.bi "max") ((E.lcM (enc := gr) (xs := ks) (fun gg => .int (gg.length : Int)) 3 (W.list (E.var 1)) [("_law_crowd", 3)] (fun gg hg p acc s H0 A' cl fp => ?_) (by omega) (blkOk_by (N := N_top_knots) (sc := defScope s_top_knots) (by decide +kernel)) hN).castL (by rw [List.map_map]; rfl)) (by rw [List.length_map]; exact h0)).wk fun m hm => hm.1) (fun m hm => ?_) hN
  · exact (E.lenU (ds := gg.map .str) (g.bi "len") (E.var (T := G gg) 3)).nat (by rw [List.length_map])
  · refine B.ret hR (Le.refl _) ((E.sortGs (gs := ks.filter fun gg => decide (((gg.length : Nat) : Int) = m)) hr (g.bi "sorted") (E.lcF (enc := gr) (xs := ks) (fun gg => decide (((gg.length : Nat) : Int) = m)) gr 3 (W.list (E.var 1)) [("_law_crowd", 3)] (fun gg hg p acc s H0 A' cl fp => C.eqI ((E.lenU (ds := gg.map .str) (g.bi "len") (E.var (T := G gg) 3)).nat (by rw [List.length_map])) (E.var (T := I m) 2)) (fun gg hg z p acc s H0 A' cl fp => E.var 3) (by omega) (blkOk_by (N := N_top_knots) (sc := defScope s_top_knots) (by decide +kernel)) hN) (grs_ok fun gg hg => (hk gg (List.mem_filter.mp hg).1).2) (Nat.le_trans (List.length_filter_le _ _) (by omega))).imp fun v H w z => ⟨_, ⟨⟨?_, ?_⟩, fun gg hg => ?_⟩, z⟩)
    · rw [(sortG_perm _).length_eq]
      obtain ⟨gg, hg, e⟩ := List.mem_map.mp hm
      exact List.length_pos_of_mem (a := gg) (List.mem_filter.mpr ⟨hg, by simpa using e⟩)
    · rw [(sortG_perm _).length_eq]
      exact Nat.le_trans (List.length_filter_le _ _) hl
    · exact mem_lawGroups.mp (hk gg (List.mem_filter.mp ((sortG_perm _).mem_iff.mp hg)).1).1
end
end HB


namespace HB
open PySem L2 PyProof.Rows PySem.Spec
abbrev Bill := Py × Int
abbrev billT (q : Bill) : Ty := tupT [payT q.1, I q.2]
/-- a bill for the things xs; b bounds what is paid -/
structure BOk (xs : List Str) (b : Int) (q : Bill) : Prop where
  keys : q.1.map (·.1) = xs
  low : ∀ p ∈ q.1, -b ≤ p.2 ∧ p.2 ≤ b
  pos : 1 ≤ q.2
  top : q.2 ≤ 10 ^ 10
theorem prd_all {α β : Type} {R : α → β → Prop} {S : β → Prop} (h : ∀ a b, R a b → S b) : ∀ {xs : List α} {ys : List β}, Paired R xs ys → ∀ y ∈ ys, S y
  | _, _, .nil => fun z hz => by cases hz
  | _, _, .cons a b => fun y hy => (List.mem_cons.mp hy).elim (fun e => e ▸ h _ _ a) (prd_all h b y)
section
variable {w : World} {P : Program} {K : PySem.W.Frag} {mg : Str → Option Value} {base : Heap}
/-- a pair of a dict and a number, each known by a letter -/
theorem E.bill {X : Cx} {M : Mx} {Γ : Gm} {a b : Expr} {j : Nat} {pos : Pos} {S : Py → Prop} {R : Int → Prop} (ha : E X M Γ a (.some S payT)) (hb : E X M Γ b (Is R)) (s1 : starEach [a, b] X.env = (false, eval a X.env) :: starEach [b] X.env := by rfl) (s2 : starEach [b] X.env = (false, eval b X.env) :: starEach [] X.env := by rfl) : E X M Γ (.Tuple [a, b] j pos) (.some (fun q : Bill => S q.1 ∧ R q.2) billT) :=
  (E.tup (.cons ha (.cons hb .nil s2) s1)).imp fun v H w ⟨c, xs, e, hc, n, r⟩ => by
    cases r with
    | cons r1 r =>
      cases r with
      | cons r2 r =>
        cases r
        obtain ⟨ps, sp, h1⟩ := r1
        obtain ⟨i, si, h2⟩ := r2
        exact ⟨(ps, i), ⟨sp, si⟩, c, _, e, hc, n, .cons h1 (.cons h2 .nil)⟩
/-- dict([(x, some number) for x in xs]) -/
theorem E.dictLc {X : Cx} {M : Mx} {Γ : Gm} {elt iter : Expr} {p p2 tp pos : Pos} {scope : Scope} {x : Str} {xs : List Str} {S : Int → Prop} (j : Nat) (own : List (Str × Nat)) (hm : X.mg "dict" = none) (hw : W X M Γ true (.Name x tp) iter (· = (xs.map PyData.str).map D)) (he : ∀ a ∈ xs, ∀ p acc, Eb X scope (M.add p (cnL acc)) ((wipeG Γ (own.map (·.2))).set j (some (S_ a))) elt (.some (fun q : Str × Int => q.1 = a ∧ S q.2) fun q => D (itm q)))
    (hz : xs.length ≤ 100000) (nd : xs.Nodup) (ok : BlkOk X.N X.env.scope scope own) (hN : X.N.Nodup) (hi : X.N[j]? = some x := by rfl) (hj : j ∈ own.map (·.2) := by decide) (hl : ∀ (A : Addr) (cl : List (Str × Addr)), (compEnvC scope cl A X.env).scope.names.lookup x = some .local := by intro _ _; rfl) (hc : X.calm = true := by rfl) (hs : ∀ x, foldedSetIterable iter X.env x = pure x := by intro _; rfl) (hg : Gl X "dict" := by rfl)
    (h1 : starEach [.ListComp elt [⟨.Name x tp, iter, [], 0⟩] scope p2] X.env = (false, eval (.ListComp elt [⟨.Name x tp, iter, [], 0⟩] scope p2) X.env) :: starEach [] X.env := by rfl) : E X M Γ (.Call (.Name "dict" p) [.ListComp elt [⟨.Name x tp, iter, [], 0⟩] scope p2] [] pos) (.some (fun ps : Py => ps.map (·.1) = xs ∧ ∀ q ∈ ps, S q.2) payT) :=
  E.dictS hm ((E.lcA (enc := PyData.str) (R := fun a (q : Str × Int) => q.1 = a ∧ S q.2) itm j hw own he hz ok hN hi hj hl hc hs).imp fun v H w ⟨ps, hps, z⟩ => ⟨ps, ⟨prd_keys (fun x q h => h.1) hps, prd_all (fun _ _ h => h.2) hps⟩, z⟩) (fun ps e => by rw [e.1]; exact nd) hc hg h1
def pm_sums : Pm (Addr × List Str) where
  pre := fun q => q.2.length ≤ 5 ∧ q.2.Nodup
  req := fun q => [(q.1, PotOk)]
  args := fun q => [Ty.is (.ref q.1), G q.2]
  res := fun q => .some (BOk q.2 (10 ^ 30)) billT
theorem e9 {X : Cx} {M : Mx} {Γ : Gm} {p1 p2 pos : Pos} {j j2 : Nat} : E X M Γ (.BinOp (.Constant (.int 10) j p1) .Pow (.Constant (.int 9) j2 p2) pos) (I ((10 ^ 9 : Nat) : Int)) := (E.pow E.int E.int ⟨by decide, by decide, by decide⟩).cast (congrArg PyData.int (by decide +kernel))
theorem c30 : (10 : Int) ^ 30 = 1000000000000000000000000000000 := by decide +kernel
theorem c10 : (10 : Int) ^ 10 = 10000000000 := by decide +kernel
theorem c9 : (10 : Nat) ^ 9 = 1000000000 := by decide +kernel
theorem ok_sums (g : Gs K mg) : Ok P w K mg base 3 "_law_sums" ["_law_pot_here", "_law_things"] pm_sums := by
  refine Ok.of (k := 2) (g.df _ 79) sc_sums (fun _ => rfl) (fun _ _ _ _ _ _ us hl => match us, hl with | [_, _], _ => rfl) fun ⟨q, xs⟩ f cdv A outer s H Ex ex lk En hp hlk hr hR hn => ?_
  obtain ⟨h1, h2⟩ := hp
  have h1 : xs.length ≤ 5 := h1
  have h2 : xs.Nodup := h2
  have hN := sc_sums.nd
  refine B.asgS 2 (E.stir g hr 4 (E.var 0) E.int) (fun way hw => ?_) hN
  refine B.ite (C.eqI (E.var (T := I (way : Int)) 2) E.int) (fun _ => ?_) fun _ => B.skip (B.ite (C.eqI (E.var (T := I (way : Int)) 2) E.int) (fun _ => ?_) fun _ => B.skip ?_)
  · refine B.ret hR (Le.refl _) (E.wk (E.bill (E.dictLc (S := fun i : Int => 0 ≤ i ∧ i < 2) 3 [("_law_one", 3)] (g.bi "dict") (W.tup (E.var 1)) (fun x hx p acc s H0 A' cl fp => E.itmS (S := fun i : Int => 0 ≤ i ∧ i < 2) (E.var 3) ((E.stir g hr 2 (E.var 0) E.int).Nn.wk fun i ⟨n, hn, e⟩ => by omega)) (by omega) h2 (blkOk_by (N := N_sums) (sc := defScope s_sums) (by decide +kernel)) hN) (E.ex 1 E.int)) fun ⟨ps, u⟩ ⟨⟨k1, k2⟩, e⟩ => ?_)
    have e : u = 1 := e
    subst e
    exact ⟨k1, fun p hp => by have := k2 p hp; rw [c30]; omega, (show (1 : Int) ≤ 1 by decide), (show (1 : Int) ≤ 10 ^ 10 by decide)⟩
  · refine B.ret hR (Le.refl _) (E.wk (E.bill (E.dictLc (S := fun i : Int => 0 ≤ i ∧ i < 5) 3 [("_law_one", 3)] (g.bi "dict") (W.tup (E.var 1)) (fun x hx p acc s H0 A' cl fp => E.itmS (S := fun i : Int => 0 ≤ i ∧ i < 5) (E.var 3) ((E.stir g hr 5 (E.var 0) E.int).Nn.wk fun i ⟨n, hn, e⟩ => by omega)) (by omega) h2 (blkOk_by (N := N_sums) (sc := defScope s_sums) (by decide +kernel)) hN) (E.adds (E.ex 1 E.int) (E.stir g hr 4 (E.var 0) E.int).Nn)) fun ⟨ps, u⟩ ⟨⟨k1, k2⟩, a, ea, c, ⟨n, hn, ec⟩, e⟩ => ?_)
    have e : u = a + c := e
    exact ⟨k1, fun p hp => by have := k2 p hp; rw [c30]; omega, by show 1 ≤ u; omega, by show u ≤ 10 ^ 10; rw [c10]; omega⟩
  · refine B.ret hR (Le.refl _) (E.wk (E.bill (E.dictLc (S := fun i : Int => -(10 ^ 30) ≤ i ∧ i ≤ 10 ^ 30) 3 [("_law_one", 3)] (g.bi "dict") (W.tup (E.var 1)) (fun x hx p acc s H0 A' cl fp => E.itmS (S := fun i : Int => -(10 ^ 30) ≤ i ∧ i ≤ 10 ^ 30) (E.var 3) (E.ok (ok_number g) hr q trivial (.cons (E.var 0) .nil))) (by omega) h2 (blkOk_by (N := N_sums) (sc := defScope s_sums) (by decide +kernel)) hN) (E.adds (E.ex 1 E.int) ((E.ok2 (T := Ns fun k => k < 10 ^ 9) (S := fun n : Nat => 0 < n ∧ n ≤ 10 ^ 9) (Tf := fun n => I (n : Int)) (ok_stir g) hr (E.var 0) ((E.ok (ok_one_of g) hr (q, [.int 6, .int 12, .int ((10 ^ 9 : Nat) : Int)]) ⟨(show 0 < 3 by decide), (show 3 ≤ 100000 by decide)⟩ (.cons (E.var 0) (.cons (E.lstD (ds := [.int 6, .int 12, .int ((10 ^ 9 : Nat) : Int)]) (.cons E.int (.cons E.int (.cons e9 .nil)))) .nil))).imp fun v H w ⟨d, hd, z⟩ => ?_) (fun n => (q, n)) (fun _ => rfl) (fun n hn => ⟨hn.1, Nat.le_trans hn.2 (by rw [c9]; decide)⟩) (fun n hn ex v H ⟨k, hk, z⟩ => ⟨k, Nat.lt_of_lt_of_le hk hn.2, z⟩) (hq := fun b z hz => hz)).Nn))) fun ⟨ps, u⟩ ⟨⟨k1, k2⟩, a, ea, c, ⟨n, hn, ec⟩, e⟩ => ?_)
    · have e : u = a + c := e
      rw [c9] at hn
      exact ⟨k1, fun p hp => k2 p hp, by show 1 ≤ u; omega, by show u ≤ 10 ^ 10; rw [c10]; omega⟩
    · simp at hd
      rcases hd with rfl | rfl | rfl
      · exact ⟨6, ⟨by decide, by rw [c9]; decide⟩, z⟩
      · exact ⟨12, ⟨by decide, by rw [c9]; decide⟩, z⟩
      · exact ⟨10 ^ 9, ⟨by rw [c9]; decide, Nat.le_refl _⟩, z⟩
end
end HB


namespace HB
open PySem L2 PyProof.Rows PySem.Spec
abbrev Sh := List Str × Int
def sh (y : Sh) : PyData := .tuple [gr y.1, .int y.2]
theorem sum_bound {α : Type} {f : α → Int} {b : Int} (hb : 0 ≤ b) : ∀ {xs : List α}, (∀ x ∈ xs, 0 ≤ f x ∧ f x ≤ b) → 0 ≤ (xs.map f).sum ∧ (xs.map f).sum ≤ b * xs.length
  | [], _ => by simp
  | x :: xs, h => by
    have h1 := h x List.mem_cons_self
    have h2 := sum_bound hb (xs := xs) fun y hy => h y (List.mem_cons_of_mem _ hy)
    rw [List.map_cons, List.sum_cons, List.length_cons]
    have e : b * ((xs.length + 1 : Nat) : Int) = b * (xs.length : Int) + b := by rw [Int.natCast_add, Int.mul_add]; simp
    rw [e]
    omega
section
variable {w : World} {P : Program} {K : PySem.W.Frag} {mg : Str → Option Value} {base : Heap}
def pm_knot_shares : Pm (Addr × Wb × List (List Str)) where
  pre := fun q => Wf q.2.1 ∧ Knots q.2.1 q.2.2
  req := fun q => [(q.1, PotOk)]
  args := fun q => [Ty.is (.ref q.1), plT q.2.1, L (q.2.2.map gr)]
  res := fun q => .some (BOk q.2.1.1 12) billT
def ksSc : Scope := { kind := .function, names := [(".0", .local), ("_law_one", .cell), ("sum", .globalImplicit), ("_law_some", .cell)], isGenerator := false, isCoroutine := false }
def ksSc2 : Scope := { kind := .function, names := [(".0", .local), ("_law_crowd", .local), ("_law_share", .local), ("_law_one", .free)], isGenerator := false, isCoroutine := false }
theorem ks_blk : BlkOk N_knot_shares ksSc ksSc2 [("_law_crowd", 5), ("_law_share", 7)] := blkOk_by (by decide +kernel)
theorem ok_knot_shares (g : Gs K mg) : Ok P w K mg base 3 "_law_knot_shares" ["_law_pot_here", "_law_plain_here", "_law_knots"] pm_knot_shares := by
  refine Ok.of (k := 2) (g.df _ 82) sc_knot_shares (fun _ => rfl) (fun _ _ _ _ _ _ us hl => match us, hl with | [_, _, _], _ => rfl) fun ⟨q, wb, ks⟩ f cdv A outer s H Ex ex lk En hp hlk hr hR hn => ?_
  obtain ⟨h1, ⟨k0, k32⟩, ksub⟩ := hp
  have h1 : Wf wb := h1
  have k0 : 0 < ks.length := k0
  have k32 : ks.length ≤ 32 := k32
  have ksub : ∀ g ∈ ks, g.Sublist wb.1 := ksub
  have hN := sc_knot_shares.nd
  refine B.asgS 3 (S := fun ys : List Sh => (0 < ys.length ∧ ys.length ≤ 3) ∧ ∀ y ∈ ys, y.1.Sublist wb.1 ∧ 1 ≤ y.2 ∧ y.2 ≤ 4) (f := fun ys => L (ys.map sh)) (E.wk (E.lcLS (enc := gr) (S := fun gs : List (List Str) => (0 < gs.length ∧ gs.length ≤ 3) ∧ ∀ g ∈ gs, g.Sublist wb.1) (R := fun g (y : Sh) => y.1 = g ∧ 1 ≤ y.2 ∧ y.2 ≤ 4) sh 5 (E.wk (E.toLSS (R := fun k => 0 < k ∧ k ≤ 3) (E.shuf (enc := gr) (xs := ks) (b := true) g hr (E.var 0) (E.var 2) (by omega)) ((E.adds (E.ex 1 E.int) (E.stir g hr 3 (E.var 0) E.int).Nn).nN fun i ⟨a, ea, c, ⟨n, hn, e2⟩, e3⟩ => ⟨n + 1, by omega, by omega⟩)) fun gs hgs => ?_) [("_law_crowd", 5)] (fun gs hgs gg hg p acc s H0 A' cl fp => ?_) (fun gs hgs => by omega) (blkOk_by (N := N_knot_shares) (sc := defScope s_knot_shares) (by decide +kernel)) hN) fun ys hys => ?_) (fun ys ⟨⟨y0, y3⟩, yall⟩ => ?_) hN
  · obtain ⟨xs, k, px, ⟨ka, kb⟩, rfl⟩ := hgs
    have := px.length_eq
    exact ⟨⟨by rw [List.length_take]; omega, by rw [List.length_take]; omega⟩, fun g hg => ksub g (px.mem_iff.mp (List.mem_of_mem_take hg))⟩
  · refine (E.tup (Ts := [G gg, Is fun i => 1 ≤ i ∧ i ≤ 4]) (.cons (E.var 5) (.cons ((E.adds (E.ex 1 E.int) (E.stir g hr 4 (E.var 0) E.int).Nn).wk fun i ⟨a, ea, c, ⟨n, hn, e2⟩, e3⟩ => by omega) .nil))).imp fun v H w ⟨c, xs, e, hc, n, r⟩ => ?_
    cases r with
    | cons r1 r =>
      cases r with
      | cons r2 r =>
        cases r
        obtain ⟨i, si, r2⟩ := r2
        exact ⟨(gg, i), ⟨rfl, si⟩, by rw [e]; exact .tup hc n (.cons r1 (.cons r2 .nil))⟩
  · obtain ⟨gs, ⟨⟨g0, g3⟩, gsub⟩, pr⟩ := hys
    have le := prd_len pr
    refine ⟨⟨by omega, by omega⟩, fun y hy => ?_⟩
    obtain ⟨j, hj⟩ := List.getElem?_of_mem hy
    have hjl := (List.getElem?_eq_some_iff.mp hj).1
    obtain ⟨a, b, ea, eb, rr⟩ := prd_get' pr (i := j) (by omega)
    rw [hj] at eb
    cases eb
    exact ⟨by rw [rr.1]; exact gsub a (List.mem_of_getElem? ea), rr.2⟩
  have l5 := h1.len
  refine B.asgS 4 (S := fun ps : Py => ps.map (·.1) = wb.1 ∧ ∀ p ∈ ps, 0 ≤ p.2 ∧ p.2 ≤ 12) (f := payT) (E.dictS (g.bi "dict") (E.wk (E.lcAG (enc := PyData.str) (R := fun a (q : Str × Int) => q.1 = a ∧ 0 ≤ q.2 ∧ q.2 ≤ 12) itm 6 (W.tup (E.things hr (E.var (T := plT wb) 1))) [("_law_one", 6)] (fun x hx p acc s H0 A' cl fp => E.itmS (S := fun i : Int => 0 ≤ i ∧ i ≤ 12) (E.var 6) (E.out ((ys.filter fun y => decide (x ∈ y.1)).map (·.2)).sum (E.sum (g.bi "sum") ((E.lcFP (xs := ys) (fun y => decide (x ∈ y.1)) (fun y => .int y.2) (fun y => gr y.1) (fun y => .int y.2) 5 7 (W.list (E.var 3)) [("_law_crowd", 5), ("_law_share", 7)] (fun y hy p acc s H0 A' cl fp => C.inU (E.var (T := S_ x) 6) (E.var (T := G y.1) 5)) (fun y hy z p acc s H0 A' cl fp => E.var 7) (by omega) ks_blk hN (fun s H A cl fp => pg_pair hN)).castL (by rw [List.map_map]; rfl))) ?_)) (by omega) (blkOk_by (N := N_knot_shares) (sc := defScope s_knot_shares) (by decide +kernel)) hN (fun s H A cl fp => pg_name hN rfl (.inr rfl) (.inl rfl))) (S' := fun ps : Py => ps.map (·.1) = wb.1 ∧ ∀ p ∈ ps, 0 ≤ p.2 ∧ p.2 ≤ 12) fun ps hps => ⟨prd_keys (fun x q h => h.1) hps, prd_all (fun _ _ h => h.2) hps⟩) fun ps e => by rw [e.1]; exact h1.asc.nodup) (fun ps ⟨p1, p2⟩ => ?_) hN
  · have sb := sum_bound (f := fun y : Sh => y.2) (b := 4) (by decide) (xs := ys.filter fun y => decide (x ∈ y.1)) fun y hy => by
      have := yall y (List.mem_filter.mp hy).1
      omega
    have := List.length_filter_le (fun y : Sh => decide (x ∈ y.1)) ys
    omega
  · refine B.ret hR (Le.refl _) (E.wk (E.bill (S := fun ps : Py => ps.map (·.1) = wb.1 ∧ ∀ p ∈ ps, 0 ≤ p.2 ∧ p.2 ≤ 12) (R := fun i => i = (ys.map (·.2)).sum) ((E.var (T := payT ps) 4).imp fun v H w z => ⟨ps, ⟨p1, p2⟩, z⟩) (E.ex (ys.map (·.2)).sum (E.sum (g.bi "sum") ((E.lcMP (xs := ys) (fun y => .int y.2) (fun y => gr y.1) (fun y => .int y.2) 5 7 (W.list (E.var 3)) [("_law_crowd", 5), ("_law_share", 7)] (fun y hy p acc s H0 A' cl fp => E.var 7) (by omega) (blkOk_by (N := N_knot_shares) (sc := defScope s_knot_shares) (by decide +kernel)) hN (fun s H A cl fp => pg_pair hN)).castL (by rw [List.map_map]; rfl))))) fun ⟨ps', u⟩ ⟨⟨k1, k2⟩, e⟩ => ?_)
    have e : u = (ys.map (·.2)).sum := e
    have sb := sum_bound (f := fun y : Sh => y.2) (b := 4) (by decide) (xs := ys) fun y hy => by
      have := yall y hy
      omega
    have one : 1 ≤ (ys.map (·.2)).sum := by
      cases ys with
      | nil => cases y0
      | cons y ys =>
        have a := (yall y List.mem_cons_self).2
        have b := sum_bound (f := fun y : Sh => y.2) (b := 4) (by decide) (xs := ys) fun z hz => by
          have := yall z (List.mem_cons_of_mem _ hz)
          omega
        (rw [List.map_cons, List.sum_cons])
        omega
    have c := c10
    exact ⟨k1, fun p hp => by have := k2 p hp; omega, by show 1 ≤ u; omega, by show u ≤ 10 ^ 10; rw [c]; omega⟩
end
end HB


namespace HB
open PySem L2 PyProof.Rows PySem.Spec
section
variable {X : Cx} {M : Mx} {Γ : Gm} {e : Expr} {pos p : Pos} {ps : Py} {rest : List Stmt} {D : Ends}
/-- sorted(d) -/
theorem E.sortD (hm : X.mg "sorted" = none) (h : E X M Γ e (payT ps)) (hz : ps.length < 64) (hc : X.calm = true := by rfl) (hg : Gl X "sorted" := by rfl) (he : starEach [e] X.env = (false, eval e X.env) :: starEach [] X.env := by rfl) : E X M Γ (.Call (.Name "sorted" p) [e] [] pos) (.some (fun ys : List Str => ys.Perm (ps.map (·.1))) fun ys => L (ys.map .str)) :=
  E.callB (call_sortedD hc) (by decide +kernel) hm (.cons h .nil he) (.one fun v H Q w ⟨a, kvs, e, rd, n, r⟩ k => by
    obtain rfl := pyk_vals r
    refine ⟨a, _, ps.map (·.1), by rw [e], rd, by rw [List.map_map, List.map_map]; rfl, by rw [List.length_map]; exact hz, fun ys q py _ hq => ?_⟩
    have z := w.new (o := .lst (ys.map V.str)) hq
    exact k _ _ z.1 ⟨ys, py, .lst upd_same z.2 (RpAll.of_strs ys)⟩) hg (he := he)
/-- a, b, c = e1, e2, e3, three locals, each known by a letter -/
theorem B.par3S {α β γ : Type} {Sa : α → Prop} {Sb : β → Prop} {Sc : γ → Prop} {Ta : α → Ty} {Tb : β → Ty} {Tc : γ → Ty} {a b c : Expr} {x y z : Str} {px py pz pt pt2 : Pos} {kt k2 : Nat} (i j l : Nat) (ha : E X M Γ a (.some Sa Ta)) (hb : E X M Γ b (.some Sb Tb)) (hc' : E X M Γ c (.some Sc Tc)) (h : ∀ u, Sa u → ∀ v, Sb v → ∀ t, Sc t → B X M (((Γ.set i (some (Ta u))).set j (some (Tb v))).set l (some (Tc t))) rest D) (hN : X.N.Nodup)
    (hi : X.N[i]? = some x := by rfl) (hj : X.N[j]? = some y := by rfl) (hl : X.N[l]? = some z := by rfl) (hij : i ≠ j := by decide) (hil : i ≠ l := by decide) (hjl : j ≠ l := by decide) (hx : X.env.scope.names.lookup x = some .local := by rfl) (hy : X.env.scope.names.lookup y = some .local := by rfl) (hz : X.env.scope.names.lookup z = some .local := by rfl)
    (hw : swappedStores [.Tuple [.Name x px, .Name y py, .Name z pz] kt pt] (.Tuple [a, b, c] k2 pt2) X.env = pure (some [x, y, z]) := by rfl) (hs : swapsWithSole [.Tuple [.Name x px, .Name y py, .Name z pz] kt pt] (.Tuple [a, b, c] k2 pt2) pos.line X.env = pure false := by rfl)
    (s1 : starEach [a, b, c] X.env = (false, eval a X.env) :: starEach [b, c] X.env := by rfl) (s2 : starEach [b, c] X.env = (false, eval b X.env) :: starEach [c] X.env := by rfl) (s3 : starEach [c] X.env = (false, eval c X.env) :: starEach [] X.env := by rfl) (hc : X.calm = true := by rfl) :
    B X M Γ (.Assign [.Tuple [.Name x px, .Name y py, .Name z pz] kt pt] (.Tuple [a, b, c] k2 pt2) pos :: rest) D :=
  .ps (ps_par3 hc hN hi hj hl hij hil hjl hx hy hz (pa_cons pe_w (pa_cons pe_w (pa_cons pe_w pa_nil s3) s2) s1) hw hs) fun σ H l0 => (ha σ H l0).mono fun v H1 ⟨q1, u, su, t1⟩ => (hb σ H1 (l0.st q1)).mono fun v2 H2 ⟨q2, u2, su2, t2⟩ => (hc' σ H2 ((l0.st q1).st q2)).mono fun v3 H3 ⟨q3, u3, su3, t3⟩ => by
    have w1 := (l0.st q1).hw
    have w2 := w1.st q2
    exact ⟨v, v2, v3, rfl, h u su u2 su2 u3 su3 _ H3 (((((l0.st q1).st q2).st q3).set ((Ta u).fr ((q2.trans q3).kp w1) t1)).set ((Tb u2).fr (q3.kp w2) t2) |>.set t3)⟩
end
section
variable {w : World} {P : Program} {K : PySem.W.Frag} {mg : Str → Option Value} {base : Heap}
theorem room1 {k : Nat} {A : Around} (r : Room k A) : A.units + 1 < cLine := by have := r.un; omega
theorem setP_low {ps : Py} {x : Str} {i b : Int} (h : ∀ p ∈ ps, -b ≤ p.2 ∧ p.2 ≤ b) (hi : -b ≤ i ∧ i ≤ b) : ∀ p ∈ setP ps x i, -b ≤ p.2 ∧ p.2 ≤ b := fun p hp => by
  unfold setP at hp
  (obtain ⟨q, hq, rfl⟩ := List.mem_map.mp hp)
  split
  · exact hi
  · exact h q hq
theorem look_low {ps : Py} {x : Str} {b : Int} (hb : 0 ≤ b) (h : ∀ p ∈ ps, -b ≤ p.2 ∧ p.2 ≤ b) : -b ≤ (ps.lookup x).getD 0 ∧ (ps.lookup x).getD 0 ≤ b := by
  cases e : ps.lookup x with
  | none => simp; omega
  | some i =>
    have : ∃ q ∈ ps, q.2 = i := by
      clear h
      induction ps with
      | nil => cases e
      | cons q ps ih =>
        rw [List.lookup_cons] at e
        split at e
        · exact ⟨q, List.mem_cons_self, by simpa using e⟩
        · obtain ⟨q', hq', e'⟩ := ih e
          exact ⟨q', List.mem_cons_of_mem _ hq', e'⟩
    obtain ⟨q, hq, rfl⟩ := this
    exact h q hq
def pm_bill_near : Pm (Addr × List Str × Bill) where
  pre := fun q => (1 ≤ q.2.1.length ∧ q.2.1.length ≤ 5 ∧ q.2.1.Nodup) ∧ BOk q.2.1 12 q.2.2
  req := fun q => [(q.1, PotOk)]
  args := fun q => [Ty.is (.ref q.1), billT q.2.2]
  res := fun q => .some (BOk q.2.1 (10 ^ 30)) billT
  nolk := true
theorem ok_bill_near (g : Gs K mg) : Ok P w K mg base 3 "_law_bill_near" ["_law_pot_here", "_law_some"] pm_bill_near := by
  refine Ok.of (k := 2) (g.df _ 83) sc_bill_near (fun _ => rfl) (fun _ _ _ _ _ _ us hl => match us, hl with | [_, _], _ => rfl) fun ⟨q, xs, ps, un⟩ f cdv A outer s H Ex ex lk En hp hlk hr hR hn => ?_
  obtain ⟨⟨h0, h1, h2⟩, bk⟩ := hp
  have h0 : 1 ≤ xs.length := h0
  have h1 : xs.length ≤ 5 := h1
  have h2 : xs.Nodup := h2
  obtain ⟨b1, b2, b3, b4⟩ := bk
  have b1 : ps.map (·.1) = xs := b1
  have b2 : ∀ p ∈ ps, -12 ≤ p.2 ∧ p.2 ≤ 12 := b2
  have b3 : 1 ≤ un := b3
  have b4 : un ≤ 10 ^ 10 := b4
  have c := c10
  have ln : ps.length = xs.length := by rw [← b1, List.length_map]
  obtain rfl := hlk rfl
  have hN := sc_bill_near.nd
  have hu : (cxOf CX0 P w K mg base N_bill_near (Str.ofString "_law_bill_near") (defScope s_bill_near) f cdv A outer s H Ex).nox.A.units + 1 < cLine := room1 hr
  refine B.parF (c := cnK (pyk ps)) (S := fun ys : List Str => ys.Perm xs) (f := fun ys => L (ys.map .str)) 2 3 (EF.dictL (g.bi "dict") (E.items (g.bi "list") rfl (E.ixT (Ts := [payT ps, I un]) (i := 0) (E.var 1) E.int rfl)) (by rw [b1]; exact h2)) (fun p => E.wk (E.sortD (ps := ps) (g.bi "sorted") (E.ixT (Ts := [payT ps, I un]) (i := 0) (E.var 1) E.int rfl) (by omega)) fun ys hys => by rw [b1] at hys; exact hys) (fun p np nb ys hys => ?_) hN
  have ly : ys.length = xs.length := hys.length_eq
  refine B.forA (g := gName 4) (S := fun Ts => ∃ n, n ≤ 2 ∧ Ts = rgT 0 n) (fun a : Py => [(p, cnK (pyk a))]) (fun _ => [some (Ty.is (.ref q)), some (billT (ps, un)), some (Ty.is (.ref p)), some (L (ys.map .str)), none, none, none, none]) (fun _ n a => a.map (·.1) = xs ∧ ∀ t ∈ a, -(12 + (n : Int) * 30000000000) ≤ t.2 ∧ t.2 ≤ 12 + (n : Int) * 30000000000) (W.range1 (S := fun n => n ≤ 2) (g.bi "range") ((E.adds (E.ex 1 E.int) (E.stir g hr 2 (E.var 0) E.int).Nn).nN fun i ⟨a, ea, c, ⟨n, hn, e2⟩, e3⟩ => ⟨n + 1, by omega, by omega⟩) (fun n hn => by omega)) (pg_name hN rfl (.inl rfl) (.inr rfl)) (fun _ _ => ⟨ps, ⟨b1, fun t ht => by have := b2 t ht; simp; omega⟩, fun _ _ l => l⟩) (fun Ts ⟨m, hm, e⟩ n T a hT ⟨iv1, iv2⟩ => ?_) (fun Ts ⟨m, hm, e⟩ a ⟨iv1, iv2⟩ => ?_)
  · subst e
    obtain ⟨rfl, hnm⟩ := rgT_get hT
    refine ⟨[4], _, Tg.name (by decide), fun b => ?_⟩
    have one : ∀ {Γ : Gm} {pn po p1 p2 : Pos}, Γ[0]? = some (some (Ty.is (.ref q))) → Γ[3]? = some (some (L (ys.map .str))) → E (cxOf CX0 P w K mg base N_bill_near (Str.ofString "_law_bill_near") (defScope s_bill_near) f cdv A outer s H Ex).nox { (Mf ex (pm_bill_near.req (q, xs, ps, un)) [] H).add p (cnK (pyk ps)) with own := [(p, cnK (pyk a))], bs := b :: ((Mf ex (pm_bill_near.req (q, xs, ps, un)) [] H).add p (cnK (pyk ps))).bs } Γ (.Call (.Name "_law_one_of" pn) [.Name "_law_pot_here" p1, .Name "_law_things" p2] [] po) (.some (fun x => x ∈ xs) S_) := fun {Γ pn po p1 p2} e0 e3 => (E.ok (ok_one_of g) hr (q, ys.map .str) ⟨by show 0 < (ys.map PyData.str).length; rw [List.length_map]; omega, by show (ys.map PyData.str).length ≤ 100000; rw [List.length_map]; omega⟩ (.cons (E.var 0 e0) (.cons (E.var 3 e3) .nil))).imp fun v H w ⟨d, hd, z⟩ => by
      obtain ⟨x, hx, rfl⟩ := List.mem_map.mp hd
      exact ⟨x, hys.mem_iff.mp hx, z⟩
    refine B.par3S (Sc := fun n : Nat => n < (un + 1).toNat) (Tc := fun n => I (n : Int)) 5 6 7 (one rfl rfl) (one rfl rfl) (E.stir g hr (un + 1).toNat (E.var 0) ((E.add (E.ixT (Ts := [payT ps, I un]) (i := 1) (E.var 1) E.int rfl) E.int).nat (by omega)) (by omega) (by rw [c] at b4; omega)) (fun x hx y hy t ht => ?_) hN
    have kx : x ∈ a.map (·.1) := by rw [iv1]; exact hx
    have lw := look_low (x := x) (by omega) iv2
    have la : a.length = xs.length := by rw [← iv1, List.length_map]
    refine B.payPut (q := p) (ps := a) (y := x) hu (E.var 2) List.mem_cons_self (E.var 5) kx (by omega) (E.sub (E.payOwn hu (E.var 2) List.mem_cons_self (E.var 5) kx) (E.var (T := I (t : Int)) 7)) ?_
    rw [show setO [(p, cnK (pyk a))] p (cnK (pyk (setP a x ((a.lookup x).getD 0 - (t : Int))))) = [(p, cnK (pyk (setP a x ((a.lookup x).getD 0 - (t : Int)))))] from setO_one]
    have iv3 : ∀ u ∈ setP a x ((a.lookup x).getD 0 - (t : Int)), -(12 + (n : Int) * 30000000000 + 10000000001) ≤ u.2 ∧ u.2 ≤ 12 + (n : Int) * 30000000000 + 10000000001 := setP_low (fun u hu => by have := iv2 u hu; omega) (by rw [c] at b4; omega)
    have kk : (setP a x ((a.lookup x).getD 0 - (t : Int))).map (·.1) = xs := by rw [setP_keys]; exact iv1
    generalize setP a x ((a.lookup x).getD 0 - (t : Int)) = a2 at iv3 kk
    have ky : y ∈ a2.map (·.1) := by rw [kk]; exact hy
    have lw2 := look_low (x := y) (by omega) iv3
    have la2 : a2.length = xs.length := by rw [← kk, List.length_map]
    refine B.payPut (q := p) (ps := a2) (y := y) hu (E.var 2) List.mem_cons_self (E.var 6) ky (by omega) (E.add (E.payOwn hu (E.var 2) List.mem_cons_self (E.var 6) ky) (E.var (T := I (t : Int)) 7)) (.nil fun σ H l => ⟨setP a2 y ((a2.lookup y).getD 0 + (t : Int)), ⟨by rw [setP_keys]; exact kk, setP_low (fun u hu => by have := iv3 u hu; omega) (by rw [c] at b4; omega)⟩, ?_⟩)
    have l2 := l
    rw [show setO [(p, cnK (pyk a2))] p (cnK (pyk (setP a2 y ((a2.lookup y).getD 0 + (t : Int))))) = [(p, cnK (pyk (setP a2 y ((a2.lookup y).getD 0 + (t : Int)))))] from setO_one] at l2
    exact l2.wk (.keep (.keep (.keep (.keep (.drop (.drop (.drop (.drop .nil))))))))
  · subst e
    have lr : (rgT 0 m).length = m := by simp [rgT]
    rw [lr] at iv2
    refine B.dropK (M := Mf ex [(q, PotOk)] [] H) (q := p) (kts := pyk a) 2 np nb rfl ?_
    refine B.ret hR (Le.refl _) (E.wk (E.bill (S := fun b => b = a) (R := fun i => i = un) ((E.var (T := payT a) 2).imp fun v H w z => ⟨a, rfl, z⟩) (E.ex un (E.ixT (Ts := [payT ps, I un]) (i := 1) (E.var 1) E.int rfl))) fun ⟨a', u'⟩ ⟨e1, e2⟩ => ?_)
    have e1 : a' = a := e1
    have e2 : u' = un := e2
    subst e1; subst e2
    exact ⟨iv1, fun t ht => by have := iv2 t ht; rw [c30]; omega, b3, b4⟩
end
end HB


namespace HB
open PySem L2 PyProof.Rows PySem.Spec
section
variable {w : World} {P : Program} {K : PySem.W.Frag} {mg : Str → Option Value} {base : Heap}
abbrev caseT (z : Wb × Bill) : Ty := tupT [plT z.1, billT z.2]
def CaseOk (z : Wb × Bill) : Prop := Wf z.1 ∧ BOk z.1.1 (10 ^ 30) z.2
theorem BOk.up {xs : List Str} {b c : Int} {q : Bill} (h : BOk xs b q) (hbc : b ≤ c) : BOk xs c q := ⟨h.keys, fun p hp => by have := h.low p hp; omega, h.pos, h.top⟩
theorem E.ok3 {X : Cx} {M : Mx} {Γ : Gm} {e e2 e3 : Expr} {T1 T2 T : Ty} {pos pn : Pos} {x : Str} {ps : List Str} {n m : Nat} {α : Type} {p : Pm α} {β : Sort _} {S : β → Prop} {Tf : β → Ty} (F : Ok X.prog X.w X.K X.mg X.base n x ps p) (hr : Room m X.A) (h1 : E X M Γ e T1) (h2 : E X M Γ e2 T2) (h3 : E X M Γ e3 (.some S Tf)) (f : β → α) (hf : ∀ b, p.args (f b) = [T1, T2, Tf b]) (hp : ∀ b, S b → p.pre (f b)) (hres : ∀ b, S b → ∀ ex v H, (p.res (f b)).P ex v H → T.P ex v H)
    (hq : ∀ b, ∀ q ∈ p.req (f b), q ∈ M.ph := by intro b q z; first | exact z | cases z) (hnm : n ≤ m := by decide) (hlk : p.nolk = true → M.lk = [] := by intro z; cases z)
    (hg : Gl X x := by rfl) (hdb : (x == ("__debug__" : Str)) = false := by decide) (he : starEach [e, e2, e3] X.env = (false, eval e X.env) :: starEach [e2, e3] X.env := by rfl) (he2 : starEach [e2, e3] X.env = (false, eval e2 X.env) :: starEach [e3] X.env := by rfl) (he3 : starEach [e3] X.env = (false, eval e3 X.env) :: starEach [] X.env := by rfl) (hpl : (backTo pos (starEach [e2, e3] X.env)).any (·.1) = false := by rfl) : E X M Γ (.Call (.Name x pn) [e, e2, e3] [] pos) T :=
  E.okG F hr (.cons h1 (.cons h2 (.cons h3 .nil he3) he2) he) (fun vs H w h => by
    cases h with
    | cons a1 t =>
      cases t with
      | cons a2 t =>
        cases t with
        | cons a3 t =>
          cases t
          obtain ⟨b, sb, hb⟩ := a3
          exact ⟨f b, hp b sb, hq b, by rw [hf]; exact .cons a1 (.cons a2 (.cons hb .nil)), fun v H' => hres b sb _ v H'⟩) hnm hlk hg hdb he hpl
def pm_case : Pm Addr where
  req := fun q => [(q, PotOk)]
  args := fun q => [Ty.is (.ref q)]
  res := fun _ => .some CaseOk caseT
  nolk := true
theorem ok_case (g : Gs K mg) : Ok P w K mg base 6 "_law_case" ["_law_pot_here"] pm_case := by
  refine Ok.of (k := 5) (g.df _ 92) sc_case (fun _ => rfl) (fun _ _ _ _ _ _ us hl => match us, hl with | [_], _ => rfl) fun q f cdv A outer s H Ex ex lk En hp hlk hr hR hn => ?_
  obtain rfl := hlk rfl
  have hN := sc_case.nd
  refine B.asgS 1 (E.ok (ok_web g) hr q trivial (.cons (E.var 0) (.cons E.int .nil))) (fun wb hw => ?_) hN
  refine B.parS (Sa := fun n : Nat => n < 4) (Ta := fun n => I (n : Int)) (Sb := BOk wb.1 12) (Tb := billT) 2 3 (E.stir g hr 4 (E.var 0) E.int) (E.ok3 (ok_knot_shares g) hr (E.var 0) (E.var (T := plT wb) 1) (E.ok (ok_top_knots g) hr wb hw (.cons (E.var (T := plT wb) 1) .nil)) (fun ks => (q, wb, ks)) (fun _ => rfl) (fun ks hks => ⟨hw, hks⟩) (fun ks hks ex v H h => h)) (fun way hway b hb => ?_) hN
  have pack : ∀ {a c : Expr} {j : Nat} {pos : Pos}, E (cxOf CX0 P w K mg base N_case (Str.ofString "_law_case") (defScope s_case) f cdv A outer s H Ex).nox (Mf ex [(q, PotOk)] [] H) [some (Ty.is (.ref q)), some (plT wb), some (I (way : Int)), some (billT b)] a (plT wb) → E (cxOf CX0 P w K mg base N_case (Str.ofString "_law_case") (defScope s_case) f cdv A outer s H Ex).nox (Mf ex [(q, PotOk)] [] H) [some (Ty.is (.ref q)), some (plT wb), some (I (way : Int)), some (billT b)] c (.some (BOk wb.1 (10 ^ 30)) billT) →
      (starEach [a, c] (cxOf CX0 P w K mg base N_case (Str.ofString "_law_case") (defScope s_case) f cdv A outer s H Ex).nox.env = (false, eval a (cxOf CX0 P w K mg base N_case (Str.ofString "_law_case") (defScope s_case) f cdv A outer s H Ex).nox.env) :: starEach [c] (cxOf CX0 P w K mg base N_case (Str.ofString "_law_case") (defScope s_case) f cdv A outer s H Ex).nox.env) →
      (starEach [c] (cxOf CX0 P w K mg base N_case (Str.ofString "_law_case") (defScope s_case) f cdv A outer s H Ex).nox.env = (false, eval c (cxOf CX0 P w K mg base N_case (Str.ofString "_law_case") (defScope s_case) f cdv A outer s H Ex).nox.env) :: starEach [] (cxOf CX0 P w K mg base N_case (Str.ofString "_law_case") (defScope s_case) f cdv A outer s H Ex).nox.env) →
      E (cxOf CX0 P w K mg base N_case (Str.ofString "_law_case") (defScope s_case) f cdv A outer s H Ex).nox (Mf ex [(q, PotOk)] [] H) [some (Ty.is (.ref q)), some (plT wb), some (I (way : Int)), some (billT b)] (.Tuple [a, c] j pos) (.some CaseOk caseT) := fun ha hc s1 s2 =>
    (E.tup (.cons ha (.cons hc .nil s2) s1)).imp fun v H w ⟨d, xs, e, hd, n, r⟩ => by
      cases r with
      | cons r1 r =>
        cases r with
        | cons r2 r =>
          cases r
          obtain ⟨b', hb', r2⟩ := r2
          exact ⟨(wb, b'), ⟨hw, hb'⟩, d, _, e, hd, n, .cons r1 (.cons r2 .nil)⟩
  refine B.ite (C.eqI (E.var (T := I (way : Int)) 2) E.int) (fun _ => ?_) fun _ => B.skip ?_
  · exact B.ret hR (Le.refl _) (pack (E.var 1) ((E.var (T := billT b) 3).imp fun v H w z => ⟨b, hb.up (by rw [c30]; decide), z⟩) rfl rfl)
  · refine B.ret hR (Le.refl _) (pack (E.var 1) (E.ifExpS (C.ltI (E.var (T := I (way : Int)) 2) E.int) (fun _ => ?_) fun _ => ?_) rfl rfl)
    · exact E.ok (ok_bill_near g) hr (q, wb.1, b) ⟨⟨hw.pos, hw.len, hw.asc.nodup⟩, hb⟩ (.cons (E.var 0) (.cons (E.var (T := billT b) 3) .nil)) (hlk := fun _ => rfl)
    · exact E.ok (ok_sums g) hr (q, wb.1) ⟨hw.len, hw.asc.nodup⟩ (.cons (E.var 0) (.cons (E.things hr (E.var (T := plT wb) 1)) .nil))
end
end HB


namespace HB
open PySem L2 PyProof.Rows PySem.Spec
/-- what is asked of the module's constants -/
structure Gk (mg : Str → Option Value) : Prop where
  great : ∃ t, mg "GREATEST" = some (.int (10 ^ 60 - 1) t)
  name : ∃ t, mg "MAX_NAME" = some (.int 8 t)
  things : ∃ t, mg "MAX_THINGS" = some (.int 8 t)
section
variable {X : Cx} {M : Mx} {Γ : Gm} {pos : Pos} {x : Str} {i : Int}
theorem E.gint (hm : ∃ t, X.mg x = some (.int i t)) (hg : Gl X x := by rfl) (hd : (x == ("__debug__" : Str)) = false := by decide) : E X M Γ (.Name x pos) (I i) := by
  obtain ⟨t, hm⟩ := hm
  exact E.glob (v := .int i) hg hm ⟨t, rfl⟩ (fun _ _ => .int i) hd
theorem Op2.leS {i j : Str} : Op2 M (fun x y H Q => ∃ i j, x = .str i ∧ y = .str j ∧ Q (.bl (!decide (j.cps.toList < i.cps.toList))) H) (S_ i) (S_ j) (Bo (!decide (j.cps.toList < i.cps.toList))) := fun x y H Q w hx hy k => by
  cases hx
  cases hy
  exact ⟨i, j, rfl, rfl, k _ H (St.refl w) (.bl _)⟩
theorem Op2.leI {i j : Int} : Op2 M (rI0 fun i j => .bl (decide (i ≤ j))) (I i) (I j) (Bo (decide (i ≤ j))) := Op2.cmp (g := fun i j => decide (i ≤ j))
end
section
variable {w : World} {P : Program} {K : PySem.W.Frag} {mg : Str → Option Value} {base : Heap}
theorem kit_same (T : String) : PySem.W.kitOne K (.type T) (.type T) = some true := if_pos (beq_self_eq_true _)
def pm_is_integer : Pm Int where
  pre := fun i => -(10 ^ 60 - 1) ≤ i ∧ i ≤ 10 ^ 60 - 1
  args := fun i => [I i]
  res := fun _ => Bo true
theorem ok_is_integer (g : Gs K mg) (c : Gk mg) : Ok P w K mg base 1 "is_integer" ["value"] pm_is_integer := by
  refine Ok.of (k := 0) (g.df _ 13) sc_is_integer (fun _ => rfl) (fun _ _ _ _ _ _ us hl => match us, hl with | [_], _ => rfl) fun i f cdv A outer s H Ex ex lk En hp hlk hr hR hn => ?_
  obtain ⟨h1, h2⟩ := hp
  have h1 : -(10 ^ 60 - 1) ≤ i := h1
  have h2 : i ≤ 10 ^ 60 - 1 := h2
  refine B.ret hR (Le.refl _) ((E.and (v := true) (u := true) (E.isi (g.bi "isinstance") (E.var (T := I i) 0) (E.ty (g.bi "int") (by decide +kernel)) TyA.int (kit_same _)) fun _ => E.and (v := true) (u := true) (E.not (v := false) (E.isi (g.bi "isinstance") (E.var (T := I i) 0) (E.ty (n := "bool") (g.bi "bool") (by decide +kernel)) TyA.int (kit_ty (by decide +kernel)))) fun _ => E.op1 ((E.chain (u := decide (-(10 ^ 60 - 1) ≤ i)) (v := decide (i ≤ 10 ^ 60 - 1)) op_le op_le (E.neg (E.gint c.great)) (E.var (T := I i) 0) (fun _ => E.gint c.great) Op2.leI (fun _ => Op2.leI) (hpe := pe_chain op_le op_le pe_w pe_w pe_w)).cast ?_)).cast rfl)
  rw [decide_eq_true h1, decide_eq_true h2]
  rfl
def pm_is_name : Pm Str where
  pre := Nm
  args := fun x => [S_ x]
  res := fun _ => Bo true
theorem sign_ok {c : Nat} (h : 97 ≤ c ∧ c ≤ 122) : (!decide ((⟨#[c]⟩ : Str).cps.toList < ("a" : Str).cps.toList) && !decide (("z" : Str).cps.toList < (⟨#[c]⟩ : Str).cps.toList)) = true := by
  have ea : ("a" : Str).cps.toList = [97] := by decide +kernel
  have ez : ("z" : Str).cps.toList = [122] := by decide +kernel
  rw [ea, ez]
  show (!decide ([c] < [97]) && !decide ([122] < [c])) = true
  simp [List.cons_lt_cons_iff]
  omega
theorem ok_is_name (g : Gs K mg) (c : Gk mg) : Ok P w K mg base 1 "is_name" ["value"] pm_is_name := by
  refine Ok.of (k := 0) (g.df _ 14) sc_is_name (fun _ => rfl) (fun _ _ _ _ _ _ us hl => match us, hl with | [_], _ => rfl) fun x f cdv A outer s H Ex ex lk En hp hlk hr hR hn => ?_
  have hp : Nm x := hp
  obtain ⟨h1, h2, h3⟩ := hp
  have hN := sc_is_name.nd
  have el : x.length = x.cps.size := rfl
  refine B.ret hR (Le.refl _) ((E.and (v := true) (u := true) (E.isi (g.bi "isinstance") (E.var (T := S_ x) 0) (E.ty (g.bi "str") (by decide +kernel)) TyA.str (kit_same _)) fun _ => E.and (v := true) (u := true) ((E.chain (u := decide ((1 : Int) ≤ (x.length : Int))) (v := decide ((x.length : Int) ≤ 8)) op_le op_le E.int (E.lenS (g.bi "len") (E.var (T := S_ x) 0) (by omega)) (fun _ => E.gint c.name) Op2.leI (fun _ => Op2.leI) (hpe := pe_chain op_le op_le pe_w pe_w pe_w)).cast ?_) fun _ => E.op1 ((E.all (bs := x.cps.toList.map fun _ => true) (g.bi "all") ((E.lcM (enc := fun c => PyData.str ⟨#[c]⟩) (xs := x.cps.toList) (fun _ => .bool true) 1 ?_ [("sign", 1)] (fun c hc p acc s H0 A' cl fp => ?_) ?_ (blkOk_by (N := N_is_name) (sc := defScope s_is_name) (by decide +kernel)) hN).castL ?_)).cast ?_)).cast rfl)
  · rw [el]
    have a1 : (1 : Int) ≤ (x.cps.size : Int) := by omega
    have a2 : (x.cps.size : Int) ≤ 8 := by omega
    simp [a1, a2]
  · rw [List.map_map]
    exact W.str (E.var 0)
  · refine (E.chain (u := !decide ((⟨#[c]⟩ : Str).cps.toList < ("a" : Str).cps.toList)) (v := !decide (("z" : Str).cps.toList < (⟨#[c]⟩ : Str).cps.toList)) op_le_str op_le_str E.str (E.var (T := S_ ⟨#[c]⟩) 1) (fun _ => E.str) Op2.leS (fun _ => Op2.leS) (hpe := pe_chain op_le_str op_le_str pe_w pe_w pe_w)).cast ?_
    rw [sign_ok (h3 c hc)]
  · rw [Array.length_toList]; omega
  · rw [List.map_map]; rfl
  · congr 1
    simp
end
end HB


namespace HB
open PySem L2 PyProof.Rows PySem.Spec
section
variable {X : Cx} {M : Mx} {Γ : Gm} {a b : Expr} {pos : Pos} {ds : List PyData} {d : PyData} {k : Nat}
def rInU (K : PySem.W.Frag) : R2 := fun x y H Q => ∃ d ds, Dp K H x d ∧ Dp K H y (.tuple ds) ∧ SeqAt.shaped d = true ∧ SeqAt.shaped (.tuple ds) = true ∧ Q (.bl (ds.any fun z => PyData.eqv z d)) H
theorem op_inU (hu : X.A.units + 65 < cLine) : OpR X (compareOp .In) (rInU X.K) := fun pins s σ H x y v u Q I rx ry ⟨d, ds, hd, he, sd, se, q⟩ => by
  obtain ⟨cs, r1⟩ := Dp.reads I d x v hd rx
  obtain ⟨bs, r2⟩ := Dp.reads I (.tuple ds) y u he ry
  have lay : PyData.canLayAll0 ds = true := by
    have := SeqAt.canLay_of_shaped se
    rwa [PyData.canLay0] at this
  exact SeqAt.in_tuple_reads r2 r1 lay (SeqAt.canLay_of_shaped sd) (room_in_shaped sd hu) ⟨.bl _, H, I, rfl, q⟩
theorem E.inDU (hr : Room k X.A) (ha : E X M Γ a (D d)) (hb : E X M Γ b (U ds)) (h1 : SeqAt.shaped d = true) (h2 : SeqAt.shaped (.tuple ds) = true) (hm : behindInMarks .In b = false := by rfl) : E X M Γ (.Compare a [.In] [b] pos) (Bo (ds.any fun z => PyData.eqv z d)) := E.cmp (op_inU (by have := hr.un; omega)) hm ha hb fun x y H Q w hx hy q => ⟨d, ds, hx.dp, hy.dp, h1, h2, q _ H (St.refl w) (.bl _)⟩
theorem C.inDU (hr : Room k X.A) (ha : E X M Γ a (D d)) (hb : E X M Γ b (U ds)) (h1 : SeqAt.shaped d = true) (h2 : SeqAt.shaped (.tuple ds) = true) (hm : behindInMarks .In b = false := by rfl) : C X M Γ (.Compare a [.In] [b] pos) (· = ds.any fun z => PyData.eqv z d) := C.opD (op_inU (by have := hr.un; omega)) ha hb (fun x y H Q w hx hy q => ⟨d, ds, hx.dp, hy.dp, h1, h2, q _ H (St.refl w) (.bl _)⟩) hm
theorem C.chain {op op' : CmpOp} {r r' : R2} {c : Expr} {Ta Tb Tc : Ty} {u v : Bool} (ha : E X M Γ a Ta) (hb : E X M Γ b Tb) (hc : u = true → E X M Γ c Tc) (k1 : Op2 M r Ta Tb (Bo u)) (k2 : u = true → Op2 M r' Tb Tc (Bo v)) (hpt : PT X (.Compare a [op, op'] [b, c] pos) (tTest (tChain r r' (wE X a) (wE X b) (wE X c)))) : C X M Γ (.Compare a [op, op'] [b, c] pos) (· = (u && v)) := fun σ H l =>
  wT.of hpt ((ha σ H l).mono fun x H1 ⟨s1, t1⟩ => (hb σ H1 (l.st s1)).mono fun y H2 ⟨s2, t2⟩ => by
    have w1 := l.hw.st s1
    have l2 := (l.st s1).st s2
    refine k1 x y H2 _ l2.hw (Ta.fr (s2.kp w1) t1) t2 fun z H3 s3 t3 => ?_
    cases t3
    refine ⟨u, rfl, ?_⟩
    cases u with
    | false =>
      (rw [if_neg Bool.false_ne_true])
      exact ⟨false, rfl, (s1.trans s2).trans s3, rfl⟩
    | true =>
      rw [if_pos rfl]
      have l3 := l2.st s3
      exact (hc rfl σ H3 l3).mono fun q H4 ⟨s4, t4⟩ => k2 rfl y q H4 _ (l3.st s4).hw (Tb.fr ((s3.trans s4).kp l2.hw) t2) t4 fun z H5 s5 t5 => by
        cases t5
        exact ⟨v, rfl, (((s1.trans s2).trans s3).trans s4).trans s5, by cases v <;> rfl⟩)
end
section
variable {w : World} {P : Program} {K : PySem.W.Frag} {mg : Str → Option Value} {base : Heap}
def pm_are_names : Pm (List Str) where
  pre := fun xs => (1 ≤ xs.length ∧ xs.length ≤ 8) ∧ xs.Nodup ∧ ∀ x ∈ xs, Nm x
  args := fun xs => [G xs]
  res := fun _ => Bo true
theorem ok_are_names (g : Gs K mg) (c : Gk mg) : Ok P w K mg base 2 "are_names" ["value"] pm_are_names := by
  refine Ok.of (k := 1) (g.df _ 19) sc_are_names (fun _ => rfl) (fun _ _ _ _ _ _ us hl => match us, hl with | [_], _ => rfl) fun xs f cdv A outer s H Ex ex lk En hp hlk hr hR hn => ?_
  obtain ⟨⟨h0, h8⟩, nd, nm⟩ := hp
  have h0 : 1 ≤ xs.length := h0
  have h8 : xs.length ≤ 8 := h8
  have hN := sc_are_names.nd
  refine B.iteD (v := false) (CW.or (v := false) (u := false) (C.notD (v := true) (C.valB (E.isi (g.bi "isinstance") (E.var (T := G xs) 0) (E.ty (n := "tuple") (g.bi "tuple") (by decide +kernel)) TyA.tup (kit_same _)))) fun _ => CW.or1 (C.notD (v := true) ((C.chain (u := decide ((1 : Int) ≤ (xs.length : Int))) (v := decide ((xs.length : Int) ≤ 8)) E.int ((E.lenU (ds := xs.map .str) (g.bi "len") (E.var 0)).nat (by rw [List.length_map])) (fun _ => E.gint c.things) Op2.leI (fun _ => Op2.leI) (pt_chain op_le op_le pe_w pe_w pe_w)).imp fun v e => ?_))).c (fun z => by cases z) fun _ => B.skip ?_
  · rw [e, decide_eq_true (show (1 : Int) ≤ (xs.length : Int) by omega), decide_eq_true (show (xs.length : Int) ≤ 8 by omega)]
    rfl
  · refine B.ret hR (Le.refl _) ((E.and (v := true) (u := true) ((E.all (bs := xs.map fun _ => true) (g.bi "all") ((E.lcM (enc := PyData.str) (xs := xs) (fun _ => .bool true) 1 (W.tup (E.var 0)) [("one", 1)] (fun x hx p acc s H0 A' cl fp => E.ok (ok_is_name g c) hr x (nm x hx) (.cons (E.var 1) .nil)) (by omega) (blkOk_by (N := N_are_names) (sc := defScope s_are_names) (by decide +kernel)) hN).castL (by rw [List.map_map]; rfl))).cast (by congr 1; simp)) fun _ => E.op1 ((E.eqI (E.lenSetU (xs := xs) (g.bi "len") (g.bi "set") (E.var 0) nd (by omega)) ((E.lenU (ds := xs.map .str) (g.bi "len") (E.var 0)).nat (by rw [List.length_map]))).cast (by simp))).cast rfl)
def pm_is_conflict : Pm (List Str × Pr) where
  pre := fun q => Tie q.1 q.2 ∧ ∀ x ∈ q.1, Nm x
  args := fun q => [G q.1, D (pr q.2)]
  res := fun _ => Bo true
theorem ok_is_conflict (g : Gs K mg) (c : Gk mg) : Ok P w K mg base 2 "is_conflict" ["things", "value"] pm_is_conflict := by
  refine Ok.of (k := 1) (g.df _ 20) sc_is_conflict (fun _ => rfl) (fun _ _ _ _ _ _ us hl => match us, hl with | [_, _], _ => rfl) fun ⟨xs, p⟩ f cdv A outer s H Ex ex lk En hp hlk hr hR hn => ?_
  obtain ⟨⟨t1, t2, t3⟩, nm⟩ := hp
  have t1 : p.1 ∈ xs := t1
  have t2 : p.2 ∈ xs := t2
  have t3 : p.1 ≠ p.2 := t3
  have nm : ∀ x ∈ xs, Nm x := nm
  have hN := sc_is_conflict.nd
  refine B.iteD (v := false) (CW.or (v := false) (u := false) (C.notD (v := true) (C.valB (E.isi (g.bi "isinstance") (E.var (T := U [.str p.1, .str p.2]) 1) (E.ty (n := "tuple") (g.bi "tuple") (by decide +kernel)) TyA.tup (kit_same _)))) fun _ => CW.or1 ((C.neI (E.lenU (ds := [.str p.1, .str p.2]) (g.bi "len") (E.var 1)) (E.int (i := 2))).imp fun v e => by rw [e]; rfl)).c (fun z => by cases z) fun _ => B.skip ?_
  refine B.ret hR (Le.refl _) ((E.and (v := true) (u := true) ((E.all (bs := [p.1, p.2].map fun _ => true) (g.bi "all") ((E.lcM (enc := PyData.str) (xs := [p.1, p.2]) (fun _ => .bool true) 2 (W.tup (E.var 1)) [("one", 2)] (fun x hx p' acc s H0 A' cl fp => ?_) (by simp) (blkOk_by (N := N_is_conflict) (sc := defScope s_is_conflict) (by decide +kernel)) hN).castL rfl)).cast rfl) fun _ => E.op1 ((E.neS (E.ixU (i := 0) (ds := [.str p.1, .str p.2]) (E.var (T := D (pr p)) 1) E.int rfl) (E.ixU (i := 1) (ds := [.str p.1, .str p.2]) (E.var (T := D (pr p)) 1) E.int rfl)).cast (by simp [t3]))).cast rfl)
  have hx' : x ∈ xs := by
    simp at hx
    rcases hx with rfl | rfl
    · exact t1
    · exact t2
  exact (E.and (v := true) (u := true) (E.ok (ok_is_name g c) hr x (nm x hx') (.cons (E.var 2) .nil)) fun _ => E.op1 ((E.inU (E.var (T := S_ x) 2) (E.var (T := G xs) 0)).cast (by simp [hx']))).cast rfl
def pm_are_conflicts : Pm (List Str × List Pr) where
  pre := fun q => (∀ p ∈ q.2, Tie q.1 p) ∧ (∀ x ∈ q.1, Nm x) ∧ q.2.length ≤ 1000
  args := fun q => [G q.1, U (q.2.map pr)]
  res := fun _ => Bo true
theorem ok_are_conflicts (g : Gs K mg) (c : Gk mg) : Ok P w K mg base 3 "are_conflicts" ["things", "value"] pm_are_conflicts := by
  refine Ok.of (k := 2) (g.df _ 21) sc_are_conflicts (fun _ => rfl) (fun _ _ _ _ _ _ us hl => match us, hl with | [_, _], _ => rfl) fun ⟨xs, ps⟩ f cdv A outer s H Ex ex lk En hp hlk hr hR hn => ?_
  obtain ⟨t, nm, hz⟩ := hp
  have t : ∀ p ∈ ps, Tie xs p := t
  have nm : ∀ x ∈ xs, Nm x := nm
  have hz : ps.length ≤ 1000 := hz
  refine B.ret hR (Le.refl _) ((E.and (v := true) (u := true) (E.isi (g.bi "isinstance") (E.var (T := U (ps.map pr)) 1) (E.ty (n := "tuple") (g.bi "tuple") (by decide +kernel)) TyA.tup (kit_same _)) fun _ => E.op1 ((E.all (bs := ps.map fun _ => true) (g.bi "all") ((E.lcM (enc := pr) (xs := ps) (fun _ => .bool true) 2 (W.tup (E.var 1)) [("pair", 2)] (fun p hp p' acc s H0 A' cl fp => E.ok (ok_is_conflict g c) hr (xs, p) ⟨t p hp, nm⟩ (.cons (E.var 0) (.cons (E.var 2) .nil))) (by omega) (blkOk_by (N := N_are_conflicts) (sc := defScope s_are_conflicts) (by decide +kernel)) sc_are_conflicts.nd).castL (by rw [List.map_map]; rfl))).cast (by congr 1; simp))).cast rfl)
def tiedIn (ps : List Pr) (x y : Str) : Bool := decide ((x, y) ∈ ps) || decide ((y, x) ∈ ps)
def pm_partners_of : Pm (List Str × List Pr × Str) where
  pre := fun q => q.1.length ≤ 100 ∧ Gok q.1 ∧ (∀ p ∈ q.2.1, Pok p) ∧ Sok q.2.2
  args := fun q => [G q.1, U (q.2.1.map pr), S_ q.2.2]
  res := fun q => G (q.1.filter fun y => tiedIn q.2.1 q.2.2 y)
theorem ok_partners_of (g : Gs K mg) : Ok P w K mg base 1 "partners_of" ["things", "conflicts", "one"] pm_partners_of := by
  refine Ok.of (k := 0) (g.df _ 23) sc_partners_of (fun _ => rfl) (fun _ _ _ _ _ _ us hl => match us, hl with | [_, _, _], _ => rfl) fun ⟨xs, ps, x⟩ f cdv A outer s H Ex ex lk En hp hlk hr hR hn => ?_
  obtain ⟨h1, h2, h3, h4⟩ := hp
  have h1 : xs.length ≤ 100 := h1
  have h2 : Gok xs := h2
  have h3 : ∀ p ∈ ps, Pok p := h3
  have h4 : Sok x := h4
  have shp : SeqAt.shaped (.tuple (ps.map pr)) = true := tuple_shaped (fun p hp => gr_lay (pok_g (h3 p hp))) fun p _ => by rw [pr_gr, gr_dep]; decide
  refine B.ret hR (Le.refl _) (E.tupleL (g.bi "tuple") (E.lcF (enc := PyData.str) (xs := xs) (fun y => tiedIn ps x y) .str 3 (W.tup (E.var 0)) [("other", 3)] (fun y hy p acc s H0 A' cl fp => ?_) (fun y hy z p acc s H0 A' cl fp => E.var 3) (by omega) (blkOk_by (N := N_partners_of) (sc := defScope s_partners_of) (by decide +kernel)) sc_partners_of.nd))
  have mem : ∀ q : Pr, (ps.map pr).any (fun z => PyData.eqv z (pr q)) = decide (q ∈ ps) := fun q => (any_enc eqv_pr q ps).trans (decide_eq_decide.mpr Iff.rfl)
  refine (CW.or (v := decide ((x, y) ∈ ps)) (u := decide ((y, x) ∈ ps)) ((C.inDU (d := pr (x, y)) hr (E.tupD (ds := [.str x, .str y]) (.cons (E.var (T := S_ x) 2) (.cons (E.var (T := S_ y) 3) .nil))) (E.var (T := U (ps.map pr)) 1) (pr_shaped ⟨h4, h2 y hy⟩) shp).imp fun v e => by rw [e, mem]) fun _ => CW.or1 ((C.inDU (d := pr (y, x)) hr (E.tupD (ds := [.str y, .str x]) (.cons (E.var (T := S_ y) 3) (.cons (E.var (T := S_ x) 2) .nil))) (E.var (T := U (ps.map pr)) 1) (pr_shaped ⟨h2 y hy, h4⟩) shp).imp fun v e => by rw [e, mem])).c
def pm_left_of : Pm (List Str × List Str) where
  pre := fun q => q.1.length ≤ 100
  args := fun q => [G q.1, G q.2]
  res := fun q => G (q.1.filter fun x => !decide (x ∈ q.2))
theorem ok_left_of (g : Gs K mg) : Ok P w K mg base 1 "left_of" ["group", "room"] pm_left_of := by
  refine Ok.of (k := 0) (g.df _ 49) sc_left_of (fun _ => rfl) (fun _ _ _ _ _ _ us hl => match us, hl with | [_, _], _ => rfl) fun ⟨gg, r⟩ f cdv A outer s H Ex ex lk En hp hlk hr hR hn => ?_
  have hp : gg.length ≤ 100 := hp
  exact B.ret hR (Le.refl _) (E.tupleL (g.bi "tuple") (E.lcF (enc := PyData.str) (xs := gg) (fun x => !decide (x ∈ r)) .str 2 (W.tup (E.var 0)) [("one", 2)] (fun a ha p acc s H0 A cl fp => C.ninU (E.var 2) (E.var 1)) (fun a ha z p acc s H0 A cl fp => E.var 2) (by omega) (blkOk_by (N := N_left_of) (sc := defScope s_left_of) (by decide +kernel)) sc_left_of.nd))
end
end HB


namespace HB
open PySem L2 PyProof.Rows PySem.Spec
/-- what is asked of a class: its instances' fields are read from the instance -/
structure Gc (K : PySem.W.Frag) (C : Addr) (fs : List Str) : Prop where
  cl : Cls K C
  na : ∀ f ∈ fs, NoAttr K C f
def webF : List Str := ["own_things", "own_ties", "own_colours"]
def chF : List Str := ["own_pays", "own_unit", "own_things"]
def partners (w : Wb) (x : Str) : List Str := w.1.filter fun y => tied w x y
def tiesT (w : Wb) : List (Key × Ty) := w.1.map fun x => (.inr x, G (partners w x))
abbrev webT (Cw c : Addr) (w : Wb) : Ty := insT Cw [("own_things", G w.1), ("own_ties", dictT (tiesT w)), ("own_colours", Ty.is (.ref c))]
abbrev chT (Cc : Addr) (xs : List Str) (ps : Py) (u : Int) : Ty := insT Cc [("own_pays", payT ps), ("own_unit", I u), ("own_things", G xs)]
section
variable {P : Program} {w : World} {K : PySem.W.Frag} {mg : Str → Option Value} {base : Heap} {Cw Cc : Addr}
def pm_sum_of (Cc : Addr) : Pm (List Str × Py × Int × List Str) where
  pre := fun q => (∀ x ∈ q.2.2.2, x ∈ q.2.1.map (·.1)) ∧ q.2.2.2.length ≤ 100
  args := fun q => [chT Cc q.1 q.2.1 q.2.2.1, G q.2.2.2]
  res := fun q => frac (paid q.2.1 q.2.2.2, q.2.2.1)
theorem ok_sum_of (g : Gs K mg) (k : Gc K Cc chF) : Ok P w K mg base 1 "sum_of" ["charge", "group"] (pm_sum_of Cc) := by
  refine Ok.of (k := 0) (g.df _ 37) sc_sum_of (fun _ => rfl) (fun _ _ _ _ _ _ us hl => match us, hl with | [_, _], _ => rfl) fun ⟨xs, ps, u, gg⟩ f cdv A outer s H Ex ex lk En hp hlk hr hR hn => ?_
  obtain ⟨h1, h2⟩ := hp
  have h1 : ∀ x ∈ gg, x ∈ ps.map (·.1) := h1
  have h2 : gg.length ≤ 100 := h2
  have np := k.na "own_pays" (by decide)
  have nu := k.na "own_unit" (by decide)
  refine B.ret hR (Le.refl _) (E.tupD (ds := [.int (paid ps gg), .int u]) (.cons (E.sum (ns := gg.map (payOf ps)) (g.bi "sum") ((E.lcM (enc := PyData.str) (xs := gg) (fun x => .int (payOf ps x)) 2 (W.tup (E.var 1)) [("thing", 2)] (fun x hx p acc s H0 A' cl fp => E.pay hr (E.fld (E.var (T := chT Cc xs ps u) 0) k.cl np) (E.var 2) (h1 x hx)) (by omega) (blkOk_by (N := N_sum_of) (sc := defScope s_sum_of) (by decide +kernel)) sc_sum_of.nd).castL (by rw [List.map_map]; rfl))) (.cons (E.fld (E.var (T := chT Cc xs ps u) 0) k.cl nu) .nil)))
def pm_pays_over (Cc : Addr) : Pm (List Str × Py × Int × List Str) where
  pre := fun q => (∀ x ∈ q.2.2.2, x ∈ q.2.1.map (·.1)) ∧ q.2.2.2.length ≤ 100
  args := fun q => [chT Cc q.1 q.2.1 q.2.2.1, G q.2.2.2, I 1]
  res := fun q => Bo (decide (q.2.2.1 < paid q.2.1 q.2.2.2))
theorem ok_pays_over (g : Gs K mg) (k : Gc K Cc chF) : Ok P w K mg base 2 "pays_over" ["charge", "group", "most"] (pm_pays_over Cc) := by
  refine Ok.of (k := 1) (g.df _ 52) sc_pays_over (fun _ => rfl) (fun _ _ _ _ _ _ us hl => match us, hl with | [_, _, _], _ => rfl) fun ⟨xs, ps, u, gg⟩ f cdv A outer s H Ex ex lk En hp hlk hr hR hn => ?_
  have hN := sc_pays_over.nd
  refine B.unp (Ta := I (paid ps gg)) (Tb := I u) 3 4 ((E.ok (ok_sum_of g k) hr (xs, ps, u, gg) hp (.cons (E.var 0) (.cons (E.var 1) .nil))).imp fun v H w z => D_tupT (ds := [.int (paid ps gg), .int u]) z) ?_ hN
  refine B.ret hR (Le.refl _) ((E.gtI (E.var (T := I (paid ps gg)) 3) (E.mul (E.var (T := I 1) 2) (E.var (T := I u) 4) (cmul_l (by decide)))).cast ?_)
  rw [Int.one_mul]
def pm_all_groups : Pm (List Str) where
  pre := fun q => q.length ≤ 8
  args := fun q => [G q]
  res := fun q => L ((lawGroups q).map gr)
theorem ok_all_groups (g : Gs K mg) : Ok P w K mg base 1 "all_groups" ["things"] pm_all_groups := by
  refine Ok.of (k := 0) (g.df _ 43) sc_all_groups (fun _ => rfl) (fun _ _ _ _ _ _ us hl => match us, hl with | [_], _ => rfl) fun xs f cdv A outer s H Ex ex lk En hp hlk hr hR hn => ?_
  have hp : xs.length ≤ 8 := hp
  have hN := sc_all_groups.nd
  refine B.new (c := cnL ([([] : List Str)].map gr)) 1 (EF.lst (ds := [.tuple []]) (.cons E.tup0 .nil)) (fun p np nb => ?_) hN
  refine B.forN 2 (fun a : List (List Str) => [(p, cnL (a.map gr))]) (fun _ => [some (G xs), some (Ty.is (.ref p)), none, none]) (fun n a => a = lawGroups (xs.take n)) (W.tup (ds := xs.map .str) (E.var 0)) ⟨[[]], rfl, fun _ _ l => l⟩ (fun n d a hd iv c => ?_) (fun a iv => ?_) hN
  · rw [List.getElem?_map] at hd
    cases hx : xs[n]? with
    | none => rw [hx] at hd; cases hd
    | some x =>
      rw [hx] at hd
      cases hd
      have la : a.length ≤ 256 := by
        rw [iv, lawGroups_len]
        exact pow_le8 (by rw [List.length_take]; omega)
      have ga : ∀ g ∈ a, g.length ≤ 8 := fun g hg => by
        rw [iv] at hg
        have := (lawGroups_mem hg).1
        rw [List.length_take] at this
        omega
      refine B.extend (p := p) (ds := a.map gr) (es := (a.map fun g => g ++ [x]).map gr) (E.var 1) List.mem_cons_self ((E.lcM (enc := gr) (xs := a) (fun g => gr (g ++ [x])) 3 (W.own (p := p) (E.var 1) List.mem_cons_self) [("group", 3)] (fun gg hg p' acc s H0 A' cl fp => ?_) (by omega) (blkOk_by (N := N_all_groups) (sc := defScope s_all_groups) (by decide +kernel)) hN).castL (by rw [List.map_map]; rfl)) (by simp only [List.length_map]; omega) (.nil fun σ H l => ⟨a ++ a.map fun g => g ++ [x], ?_, ?_⟩)
      · have e : (gg ++ [x]).map PyData.str = gg.map .str ++ [.str x] := by rw [List.map_append]; rfl
        refine (E.tup (HB.A.star (E.var (T := D (gr gg)) 3) (.cons (E.var (T := S_ x) 2) .nil)) (by have := ga gg hg; simp; omega)).imp fun v H w z => ?_
        show Rp _ _ _ (.tuple ((gg ++ [x]).map .str))
        rw [e]
        exact tupT_D (ds := gg.map .str ++ [.str x]) (by rw [List.map_append]; exact z)
      · rw [take_snoc hx, lawGroups_snoc, ← iv]
      · rw [List.map_append]
        have l2 := l
        rw [show setO [(p, cnL (a.map gr))] p (cnL (a.map gr ++ (a.map fun g => g ++ [x]).map gr)) = [(p, cnL (a.map gr ++ (a.map fun g => g ++ [x]).map gr))] from setO_one] at l2
        exact l2.wk (.keep (.keep (.drop (.keep .nil))))
  · rw [List.length_map, List.take_length] at iv
    subst iv
    refine B.drop (M := Mf ex [] lk H) (p := p) (ds := (lawGroups xs).map gr) 1 np nb rfl ?_
    exact B.ret hR (Le.refl _) (E.var 1)
def pm_groups_in (Cw : Addr) : Pm (Addr × Wb) where
  pre := fun q => q.2.1.length ≤ 8
  args := fun q => [webT Cw q.1 q.2]
  res := fun q => L ((lawGroups q.2.1).map gr)
theorem ok_groups_in (g : Gs K mg) (k : Gc K Cw webF) : Ok P w K mg base 2 "groups_in" ["web"] (pm_groups_in Cw) := by
  refine Ok.of (k := 1) (g.df _ 44) sc_groups_in (fun _ => rfl) (fun _ _ _ _ _ _ us hl => match us, hl with | [_], _ => rfl) fun ⟨c, wb⟩ f cdv A outer s H Ex ex lk En hp hlk hr hR hn => ?_
  exact B.ret hR (Le.refl _) (E.ok (ok_all_groups g) hr wb.1 hp (.cons (E.fld (E.var (T := webT Cw c wb) 0) k.cl (k.na "own_things" (by decide))) .nil))
end
end HB


namespace HB
open PySem L2 PyProof.Rows PySem.Spec
section
variable {P : Program} {w : World} {K : PySem.W.Frag} {mg : Str → Option Value} {base : Heap} {Cw Cc : Addr}
theorem kit_self (C : Addr) : PySem.W.kitOne K (.ref C) (.ref C) = some true := if_pos (beq_self_eq_true _)
def pm_require_web (Cw : Addr) : Pm (Addr × Wb) where
  args := fun q => [webT Cw q.1 q.2]
  res := fun _ => D .none
theorem ok_require_web (g : Gs K mg) (i : IsC K Cw) (hm : mg "Web" = some (.ref Cw)) : Ok P w K mg base 1 "require_web" ["value"] (pm_require_web Cw) := by
  refine Ok.of (k := 0) (g.df _ 26) sc_require_web (fun _ => rfl) (fun _ _ _ _ _ _ us hl => match us, hl with | [_], _ => rfl) fun ⟨c, wb⟩ f cdv A outer s H Ex ex lk En hp hlk hr hR hn => ?_
  refine B.iteD (v := false) (C.notD (v := true) (C.valB (E.isiC (g.bi "isinstance") (E.var (T := webT Cw c wb) 0) (E.cls hm) (TyA.ins i) (kit_self Cw)))) (fun z => by cases z) fun _ => B.skip (.nil fun σ H1 l => ?_)
  rw [hn σ H1]
  exact hR _ _ _ (Le.refl _) l.hw .non
/-- what is_charge_of says of a value of type T -/
def ChV (K : PySem.W.Frag) (Cc : Addr) (xs : List Str) (T : Ty) (b : Bool) : Prop := (∃ ys ps u, T = chT Cc ys ps u ∧ Gok ys ∧ b = decide (ys = xs)) ∨ (∃ t, (∀ M, TyA K M T t) ∧ PySem.W.kitOne K t (.ref Cc) = some false ∧ b = false)
def pm_is_charge_of (K : PySem.W.Frag) (Cw Cc : Addr) : Pm (Addr × Wb × Ty × Bool) where
  pre := fun q => Gok q.2.1.1 ∧ ChV K Cc q.2.1.1 q.2.2.1 q.2.2.2
  args := fun q => [webT Cw q.1 q.2.1, q.2.2.1]
  res := fun q => Bo q.2.2.2
theorem ok_is_charge_of (g : Gs K mg) (kw : Gc K Cw webF) (kc : Gc K Cc chF) (ic : IsC K Cc) (hm : mg "Charge" = some (.ref Cc)) : Ok P w K mg base 1 "is_charge_of" ["web", "value"] (pm_is_charge_of K Cw Cc) := by
  refine Ok.of (k := 0) (g.df _ 40) sc_is_charge_of (fun _ => rfl) (fun _ _ _ _ _ _ us hl => match us, hl with | [_, _], _ => rfl) fun ⟨c, wb, T, b⟩ f cdv A outer s H Ex ex lk En hp hlk hr hR hn => ?_
  obtain ⟨ok, hv⟩ := hp
  have ok : Gok wb.1 := ok
  have hv : ChV K Cc wb.1 T b := hv
  rcases hv with ⟨ys, ps, u, rfl, oy, rfl⟩ | ⟨t, ht, hk, rfl⟩
  · refine B.ret hR (Le.refl _) ((E.and (v := true) (u := decide (ys = wb.1)) (E.isiC (g.bi "isinstance") (E.var (T := chT Cc ys ps u) 1) (E.cls hm) (TyA.ins ic) (kit_self Cc)) fun _ => E.op1 ((E.eqD (d := gr ys) (e' := gr wb.1) hr (E.fld (E.var (T := chT Cc ys ps u) 1) kc.cl (kc.na "own_things" (by decide))) (E.fld (E.var (T := webT Cw c wb) 0) kw.cl (kw.na "own_things" (by decide))) (gr_shaped oy) (gr_shaped ok)).cast (congrArg PyData.bool (eqv_gr ys wb.1)))).cast ?_)
    rw [Bool.true_and]
  · exact B.ret hR (Le.refl _) ((E.and (v := false) (u := false) (E.isiC (g.bi "isinstance") (E.var (T := T) 1) (E.cls hm) (ht _) hk) fun z => by cases z).cast rfl)
def pm_require_charge_of (K : PySem.W.Frag) (Cw Cc : Addr) : Pm (Addr × Wb × Py × Int) where
  pre := fun q => Gok q.2.1.1
  args := fun q => [webT Cw q.1 q.2.1, chT Cc q.2.1.1 q.2.2.1 q.2.2.2]
  res := fun _ => D .none
theorem ok_require_charge_of (g : Gs K mg) (kw : Gc K Cw webF) (kc : Gc K Cc chF) (ic : IsC K Cc) (hm : mg "Charge" = some (.ref Cc)) : Ok P w K mg base 2 "require_charge_of" ["web", "value"] (pm_require_charge_of K Cw Cc) := by
  refine Ok.of (k := 1) (g.df _ 41) sc_require_charge_of (fun _ => rfl) (fun _ _ _ _ _ _ us hl => match us, hl with | [_, _], _ => rfl) fun ⟨c, wb, ps, u⟩ f cdv A outer s H Ex ex lk En hp hlk hr hR hn => ?_
  have hp : Gok wb.1 := hp
  refine B.iteD (v := false) (C.notD (v := true) (C.valB (E.ok (ok_is_charge_of g kw kc ic hm) hr (c, wb, chT Cc wb.1 ps u, true) ⟨hp, .inl ⟨wb.1, ps, u, rfl, hp, by simp⟩⟩ (.cons (E.var (T := webT Cw c wb) 0) (.cons (E.var (T := chT Cc wb.1 ps u) 1) .nil))))) (fun z => by cases z) fun _ => B.skip (.nil fun σ H1 l => ?_)
  rw [hn σ H1]
  exact hR _ _ _ (Le.refl _) l.hw .non
end
end HB


namespace HB
open PySem L2 PyProof.Rows PySem.Spec
def mates (w : Wb) (x y : Str) : Bool := decide (y ∈ partners w x)
/-- some thing of things fits beside the whole group -/
def grows (w : Wb) (g things : List Str) : Bool := things.any fun x => !decide (x ∈ g) && g.all fun y => !mates w x y
def roomStep (w : Wb) (rs : List (List Str)) (x : Str) : List (List Str) := rs ++ (rs.filter fun r => !r.any fun y => mates w x y).map fun r => r ++ [x]
def rooms (w : Wb) (g : List Str) : List (List Str) := (g.drop 1).foldl (roomStep w) [g.take 1]
def firstRooms (w : Wb) (g : List Str) : List (List Str) := (rooms w g).filter fun r => !grows w r g
theorem find_ties {w : Wb} {x : Str} (h : x ∈ w.1) : ((tiesT w).find? fun q => decide (q.1 = .inr x)).map (·.2) = some (G (partners w x)) := by
  unfold tiesT
  have key : ∀ (xs : List Str) (f : Str → Ty), x ∈ xs → ((xs.map fun y => ((.inr y, f y) : Key × Ty)).find? fun q => decide (q.1 = .inr x)).map (·.2) = some (f x) := by
    intro xs f hx
    induction xs with
    | nil => cases hx
    | cons y ys ih =>
      rw [List.map_cons, List.find?_cons]
      by_cases e : y = x
      · subst e
        simp
      · have e2 : ¬ ((Sum.inr y : Key) = .inr x) := fun z => e (Sum.inr.inj z)
        simp only [e2, decide_false]
        rcases List.mem_cons.mp hx with z | z
        · exact absurd z.symm e
        · exact ih z
  exact key w.1 (fun y => G (partners w y)) h
theorem rooms_small (w : Wb) : ∀ (ys : List Str) (rs : List (List Str)), (ys.foldl (roomStep w) rs).length ≤ rs.length * 2 ^ ys.length
  | [], rs => by simp
  | y :: ys, rs => by
    rw [List.foldl_cons]
    refine Nat.le_trans (rooms_small w ys _) ?_
    have h : (roomStep w rs y).length ≤ rs.length * 2 := by
      unfold roomStep
      rw [List.length_append, List.length_map]
      have := List.length_filter_le (fun r : List Str => !r.any fun z => mates w y z) rs
      omega
    (refine Nat.le_trans (Nat.mul_le_mul_right _ h) ?_)
    rw [List.length_cons, Nat.pow_succ, Nat.mul_assoc, Nat.mul_comm 2]
    exact Nat.le_refl _
theorem rooms_sub (w : Wb) : ∀ (zs ys : List Str) (rs : List (List Str)), (∀ r ∈ rs, r.Sublist zs) → ∀ r ∈ ys.foldl (roomStep w) rs, r.Sublist (zs ++ ys)
  | zs, [], rs, h => fun r hr => by simpa using h r hr
  | zs, y :: ys, rs, h => fun r hr => by
    rw [List.foldl_cons] at hr
    have := rooms_sub w (zs ++ [y]) ys (roomStep w rs y) (fun r hr => by
      unfold roomStep at hr
      (rcases List.mem_append.mp hr with hr | hr)
      · exact (h r hr).trans (List.sublist_append_left _ _)
      · obtain ⟨r', hr', rfl⟩ := List.mem_map.mp hr
        exact (h r' (List.mem_filter.mp hr').1).append (.refl _)) r hr
    simpa using this
section
variable {P : Program} {w : World} {K : PySem.W.Frag} {mg : Str → Option Value} {base : Heap} {Cw Cc : Addr}
/-- web.own_ties[x] -/
theorem E.mates {X : Cx} {M : Mx} {Γ : Gm} {a b : Expr} {p pos : Pos} {m : Nat} {c : Addr} {wb : Wb} {x : Str} (hr : Room m X.A) (k : Gc X.K Cw webF) (ha : E X M Γ a (webT Cw c wb)) (hb : E X M Γ b (S_ x)) (hx : x ∈ wb.1) (hba : attributeBase a "own_ties" X.env (eval a X.env) = eval a X.env := by rfl) (hs : NoSl b := by exact fun _ _ => rfl) : E X M Γ (.Subscript (.Attribute a "own_ties" p) b pos) (G (partners wb x)) :=
  E.dget (by have := hr.un; omega) (E.fld ha k.cl (k.na "own_ties" (by decide)) (hb := hba)) hb (find_ties hx) hs
def pm_can_grow (Cw : Addr) : Pm (Addr × Wb × List Str × List Str) where
  pre := fun q => (∀ x ∈ q.2.2.2, x ∈ q.2.1.1) ∧ q.2.2.1.length ≤ 100
  args := fun q => [webT Cw q.1 q.2.1, G q.2.2.1, G q.2.2.2, Bo false]
  res := fun q => Bo (grows q.2.1 q.2.2.1 q.2.2.2)
theorem ok_can_grow (g : Gs K mg) (k : Gc K Cw webF) : Ok P w K mg base 1 "can_grow" ["web", "group", "things", "is_knot_wanted"] (pm_can_grow Cw) := by
  refine Ok.of (k := 0) (g.df _ 47) sc_can_grow (fun _ => rfl) (fun _ _ _ _ _ _ us hl => match us, hl with | [_, _, _, _], _ => rfl) fun ⟨c, wb, gg, ts⟩ f cdv A outer s H Ex ex lk En hp hlk hr hR hn => ?_
  obtain ⟨h1, h2⟩ := hp
  have h1 : ∀ x ∈ ts, x ∈ wb.1 := h1
  have h2 : gg.length ≤ 100 := h2
  have hN := sc_can_grow.nd
  have hR : Ret (Mf ex [] lk H) (Bo (grows wb gg ts)) En.rt := hR
  refine B.forN (α := Unit) 4 (fun _ => []) (fun _ => [some (webT Cw c wb), some (G gg), some (G ts), some (Bo false), none, none]) (fun n _ => ∀ x ∈ ts.take n, (!decide (x ∈ gg) && gg.all fun y => !mates wb x y) = false) (W.tup (ds := ts.map .str) (E.var 2)) ⟨(), fun x hx => by simp at hx, fun _ _ l => l⟩ (fun n d a hd iv b => ?_) (fun a iv => ?_) hN
  · rw [List.getElem?_map] at hd
    cases hx : ts[n]? with
    | none => rw [hx] at hd; cases hd
    | some x =>
      rw [hx] at hd
      cases hd
      have hm := List.mem_of_getElem? hx
      refine B.iteD (v := !decide (x ∈ gg) && gg.all fun y => !mates wb x y) (CW.and (v := !decide (x ∈ gg)) (u := gg.all fun y => !mates wb x y) (C.ninU (E.var (T := S_ x) 4) (E.var (T := G gg) 1)) fun _ => CW.and1 (C.valB ((E.all (bs := gg.map fun y => !mates wb x y) (g.bi "all") ((E.lcM (enc := PyData.str) (xs := gg) (fun y => .bool (!mates wb x y)) 5 (W.tup (E.var 1)) [("other", 5)] (fun y hy p acc s H0 A' cl fp => ?_) (by omega) (blkOk_by (N := N_can_grow) (sc := defScope s_can_grow) (by decide +kernel)) hN).castL (by rw [List.map_map]; rfl))).cast (by congr 1; rw [List.all_map]; rfl)))).c (fun hv => ?_) fun hv => B.skip (.nil fun σ H l => ⟨(), fun z hz => ?_, l.wk (.keep (.keep (.keep (.keep (.drop (.keep .nil))))))⟩)
      · exact (E.eqB (E.inU (E.var (T := S_ y) 5) (E.mates hr k (E.var (T := webT Cw c wb) 0) (E.var (T := S_ x) 4) (h1 x hm))) (E.var (T := Bo false) 3)).cast (by unfold mates; cases decide (y ∈ partners wb x) <;> rfl)
      · refine B.ret (M0 := Mf ex [] lk H) (R := Bo (grows wb gg ts)) hR (Le.push (Le.refl _)) (E.bl.cast ?_)
        have : grows wb gg ts = true := List.any_eq_true.mpr ⟨x, hm, hv⟩
        rw [this]
      · rw [take_snoc hx] at hz
        (rcases List.mem_append.mp hz with hz | hz)
        · exact iv z hz
        · (rw [List.mem_singleton.mp hz])
          exact hv
  · have iv : ∀ x ∈ ts.take (ts.map PyData.str).length, (!decide (x ∈ gg) && gg.all fun y => !mates wb x y) = false := iv
    rw [List.length_map, List.take_length] at iv
    refine B.ret hR (Le.refl _) (E.bl.cast ?_)
    have : grows wb gg ts = false := by
      apply Bool.eq_false_iff.mpr
      intro z
      obtain ⟨x, hx, hv⟩ := List.any_eq_true.mp z
      rw [iv x hx] at hv
      cases hv
    rw [this]
end
end HB


namespace HB
open PySem L2 PyProof.Rows PySem.Spec
section
variable {P : Program} {w : World} {K : PySem.W.Frag} {mg : Str → Option Value} {base : Heap} {Cw Cc : Addr}
def pm_first_rooms (Cw : Addr) : Pm (Addr × Wb × List Str) where
  pre := fun q => (∀ x ∈ q.2.2, x ∈ q.2.1.1) ∧ q.2.2.length ≤ 8
  args := fun q => [webT Cw q.1 q.2.1, G q.2.2]
  res := fun q => L ((firstRooms q.2.1 q.2.2).map gr)
def frSc : Scope := { kind := .function, names := [(".0", .local), ("room", .local), ("any", .globalImplicit), ("one", .cell), ("web", .cell)], isGenerator := false, isCoroutine := false }
def frSc2 : Scope := { kind := .function, names := [(".0", .local), ("other", .local), ("one", .free), ("web", .free)], isGenerator := false, isCoroutine := false }
theorem fr_blk : BlkOk N_first_rooms frSc frSc2 [("other", 5)] := blkOk_by (by decide +kernel)
theorem ok_first_rooms (g : Gs K mg) (k : Gc K Cw webF) : Ok P w K mg base 2 "first_rooms" ["web", "group"] (pm_first_rooms Cw) := by
  refine Ok.of (k := 1) (g.df _ 48) sc_first_rooms (fun _ => rfl) (fun _ _ _ _ _ _ us hl => match us, hl with | [_, _], _ => rfl) fun ⟨c, wb, gg⟩ f cdv A outer s H Ex ex lk En hp hlk hr hR hn => ?_
  obtain ⟨h1, h2⟩ := hp
  have h1 : ∀ x ∈ gg, x ∈ wb.1 := h1
  have h2 : gg.length ≤ 8 := h2
  have hN := sc_first_rooms.nd
  have ld : (gg.drop 1).length ≤ 8 := by rw [List.length_drop]; omega
  refine B.new (c := cnL ([gg.take 1].map gr)) 2 (EF.lst (ds := [gr (gg.take 1)]) (.cons ((E.toU (k := 1) (ds := gg.map .str) (E.var 1) E.int).castU List.map_take.symm) .nil)) (fun p np nb => ?_) hN
  refine B.forN (ds := (gg.drop 1).map .str) 3 (fun a : List (List Str) => [(p, cnL (a.map gr))]) (fun _ => [some (webT Cw c wb), some (G gg), some (Ty.is (.ref p)), none, none, none]) (fun n a => a = ((gg.drop 1).take n).foldl (roomStep wb) [gg.take 1]) (W.tup ((E.fromU (k := 1) (ds := gg.map .str) (E.var 1) E.int).castU List.map_drop.symm)) ⟨[gg.take 1], rfl, fun _ _ l => l⟩ (fun n d a hd iv b => ?_) (fun a iv => ?_) hN
  · rw [List.getElem?_map] at hd
    cases hx : (gg.drop 1)[n]? with
    | none => rw [hx] at hd; cases hd
    | some x =>
      rw [hx] at hd
      cases hd
      have hxg : x ∈ gg := List.mem_of_mem_drop (List.mem_of_getElem? hx)
      have la : a.length ≤ 256 := by
        rw [iv]
        refine Nat.le_trans (rooms_small wb _ _) ?_
        rw [List.length_singleton, Nat.one_mul]
        exact pow_le8 (by rw [List.length_take]; omega)
      have sa : ∀ r ∈ a, r.Sublist gg := fun r hrr => by
        rw [iv] at hrr
        have := rooms_sub wb (gg.take 1) _ _ (fun r hr => by rw [List.mem_singleton.mp hr]; exact .refl _) r hrr
        refine this.trans ?_
        rw [← List.take_append_drop 1 gg]
        simp only [List.take_append_drop]
        conv => rhs; rw [← List.take_append_drop 1 gg]
        exact (List.Sublist.refl _).append (List.take_sublist _ _)
      refine B.extend (p := p) (ds := a.map gr) (es := ((a.filter fun r => !r.any fun y => mates wb x y).map fun r => r ++ [x]).map gr) (E.var 2) List.mem_cons_self ((E.lcF (enc := gr) (xs := a) (fun r => !r.any fun y => mates wb x y) (fun r => gr (r ++ [x])) 4 (W.own (p := p) (E.var 2) List.mem_cons_self) [("room", 4)] (fun r hrr p' acc s H0 A' cl fp => ?_) (fun r hrr z p' acc s H0 A' cl fp => ?_) (by omega) (blkOk_by (N := N_first_rooms) (sc := defScope s_first_rooms) (by decide +kernel)) hN).castL (by rw [List.map_map]; rfl)) ?_ (.nil fun σ H l => ⟨roomStep wb a x, ?_, ?_⟩)
      · have lr := (sa r hrr).length_le
        exact C.notD (C.valB ((E.any (bs := r.map fun y => mates wb x y) (g.bi "any") ((E.lcM (enc := PyData.str) (xs := r) (fun y => .bool (mates wb x y)) 5 (W.tup (E.var 4)) [("other", 5)] (fun y hy p acc s H0 A' cl fp => (E.inU (E.var (T := S_ y) 5) (E.mates hr k (E.var (T := webT Cw c wb) 0) (E.var (T := S_ x) 3) (h1 x hxg))).cast rfl) (by omega) fr_blk hN).castL (by rw [List.map_map]; rfl))).cast (by congr 1; rw [List.any_map]; rfl)))
      · have lr := (sa r hrr).length_le
        have e : (r ++ [x]).map PyData.str = r.map .str ++ [.str x] := by rw [List.map_append]; rfl
        refine (E.tup (HB.A.star (E.var (T := D (gr r)) 4) (.cons (E.var (T := S_ x) 3) .nil)) (by simp; omega)).imp fun v H w z => ?_
        show Rp _ _ _ (.tuple ((r ++ [x]).map .str))
        rw [e]
        exact tupT_D (ds := r.map .str ++ [.str x]) (by rw [List.map_append]; exact z)
      · have := List.length_filter_le (fun r : List Str => !r.any fun y => mates wb x y) a
        simp only [List.length_map]
        omega
      · rw [take_snoc hx, List.foldl_append, ← iv]
        rfl
      · have l2 := l
        rw [show setO [(p, cnL (a.map gr))] p (cnL (a.map gr ++ ((a.filter fun r => !r.any fun y => mates wb x y).map fun r => r ++ [x]).map gr)) = [(p, cnL ((roomStep wb a x).map gr))] from by rw [setO_one]; unfold roomStep; rw [List.map_append]] at l2
        exact l2.wk (.keep (.keep (.keep (.drop (.keep (.keep .nil))))))
  · have iv : a = ((gg.drop 1).take ((gg.drop 1).map PyData.str).length).foldl (roomStep wb) [gg.take 1] := iv
    rw [List.length_map, List.take_length] at iv
    have lr : (rooms wb gg).length ≤ 256 := by
      unfold rooms
      refine Nat.le_trans (rooms_small wb _ _) ?_
      rw [List.length_singleton, Nat.one_mul]
      exact pow_le8 ld
    have sa : ∀ r ∈ rooms wb gg, r.Sublist gg := fun r hrr => by
      have := rooms_sub wb (gg.take 1) (gg.drop 1) _ (fun r hr => by rw [List.mem_singleton.mp hr]; exact .refl _) r hrr
      rwa [List.take_append_drop] at this
    have iv : a = rooms wb gg := iv
    subst iv
    refine B.drop (M := Mf ex [] lk H) (p := p) (ds := (rooms wb gg).map gr) 2 np nb rfl ?_
    refine B.ret hR (Le.refl _) (E.lcF (enc := gr) (xs := rooms wb gg) (fun r => !grows wb r gg) gr 4 (W.list (E.var 2)) [("room", 4)] (fun r hrr p' acc s H0 A' cl fp => ?_) (fun r hrr z p' acc s H0 A' cl fp => E.var 4) (by omega) (blkOk_by (N := N_first_rooms) (sc := defScope s_first_rooms) (by decide +kernel)) hN)
    have lr2 := (sa r hrr).length_le
    exact C.notD (C.valB (E.ok (ok_can_grow g k) hr (c, wb, r, gg) ⟨h1, by show r.length ≤ 100; omega⟩ (.cons (E.var (T := webT Cw c wb) 0) (.cons (E.var (T := G r) 4) (.cons (E.var (T := G gg) 1) (.cons E.bl .nil))))))
end
end HB


namespace HB
open PySem L2 PyProof.Rows PySem.Spec
def leftG (g r : List Str) : List Str := g.filter fun x => !decide (x ∈ r)
def least : List Int → Int
  | [] => 0
  | [x] => x
  | x :: xs => min x (least xs)
def colN (w : Wb) : Nat → List Str → Int
  | 0, _ => 0
  | n + 1, g => if g = [] then 0 else 1 + least ((firstRooms w g).map fun r => colN w n (leftG g r))
def col (w : Wb) (g : List Str) : Int := colN w g.length g
def keyG (g : List Str) : List Key := g.map Sum.inr
/-- what stays true of the memo -/
def MemoP (w : Wb) (o : HO) : Prop := ∃ kvs : List (List Key × V), o = .dT kvs ∧ (kvs.map (·.1)).Nodup ∧ ∀ q ∈ kvs, ∃ g : List Str, g.Sublist w.1 ∧ q.1 = keyG g ∧ q.2 = .int (col w g)
def MemoOk (w : Wb) : Cn := Cn.only (MemoP w) fun o ⟨_, e, _⟩ _ z => by rw [e] at z; cases z
def RoomsOk (w : Wb) : Prop := ∀ g : List Str, g ≠ [] → g.Sublist w.1 → firstRooms w g ≠ []
def pm_colours (Cw : Addr) (n : Nat) : Pm (Addr × Wb × List Str) where
  pre := fun q => Wf q.2.1 ∧ RoomsOk q.2.1 ∧ q.2.2.Sublist q.2.1.1 ∧ q.2.2.length ≤ n
  req := fun q => [(q.1, MemoOk q.2.1)]
  args := fun q => [webT Cw q.1 q.2.1, G q.2.2]
  res := fun q => I (col q.2.1 q.2.2)
section
variable {P : Program} {w : World} {K : PySem.W.Frag} {mg : Str → Option Value} {base : Heap} {Cw Cc : Addr}
def pm_excess_of (Cw Cc : Addr) : Pm (Addr × Wb × Py × Int × List Str) where
  pre := fun q => (Wf q.2.1 ∧ RoomsOk q.2.1 ∧ q.2.2.2.2.Sublist q.2.1.1) ∧ q.2.2.1.map (·.1) = q.2.1.1 ∧ 0 < q.2.2.2.1 ∧ q.2.2.2.1 ≤ 10 ^ 10
  req := fun q => [(q.1, MemoOk q.2.1)]
  args := fun q => [webT Cw q.1 q.2.1, chT Cc q.2.1.1 q.2.2.1 q.2.2.2.1, G q.2.2.2.2]
  res := fun q => frac (lowest (paid q.2.2.1 q.2.2.2.2 - q.2.2.2.1 * col q.2.1 q.2.2.2.2) q.2.2.2.1)
theorem ok_excess_of (g : Gs K mg) (kc : Gc K Cc chF) {n : Nat} (hc : Ok P w K mg base n "colours_of" ["web", "group"] (pm_colours Cw 8)) (hn2 : 2 ≤ n) : Ok P w K mg base (n + 1) "excess_of" ["web", "charge", "group"] (pm_excess_of Cw Cc) := by
  refine Ok.of (k := n) (g.df _ 54) sc_excess_of (fun _ => rfl) (fun _ _ _ _ _ _ us hl => match us, hl with | [_, _, _], _ => rfl) fun ⟨c, wb, ps, u, gg⟩ f cdv A outer s H Ex ex lk En hp hlk hr hR hn => ?_
  obtain ⟨⟨h1, h2, h3⟩, h4, h5, h6⟩ := hp
  have h1 : Wf wb := h1
  have h3 : gg.Sublist wb.1 := h3
  have l3 : gg.length ≤ 5 := Nat.le_trans h3.length_le h1.len
  have h4 : ps.map (·.1) = wb.1 := h4
  have h5 : 0 < u := h5
  have h6 : u ≤ 10 ^ 10 := h6
  have hN := sc_excess_of.nd
  refine B.unp (Ta := I (paid ps gg)) (Tb := I u) 3 4 ((E.ok (ok_sum_of g kc) hr (wb.1, ps, u, gg) ⟨fun x hx => by show x ∈ ps.map (·.1); rw [h4]; exact h3.subset hx, by show gg.length ≤ 100; omega⟩ (.cons (E.var 1) (.cons (E.var 2) .nil)) (hnm := by omega)).imp fun v H w z => D_tupT (ds := [.int (paid ps gg), .int u]) z) ?_ hN
  refine B.ret hR (Le.refl _) (E.ok (ok_lowest_of g) hr (paid ps gg - u * col wb gg, u) ⟨h5, Int.le_trans h6 (show (10 : Int) ^ 10 ≤ 10 ^ 200 by decide +kernel)⟩ (.cons (E.sub (E.var (T := I (paid ps gg)) 3) (E.mul (E.var (T := I u) 4) (show E _ _ _ _ ((pm_colours Cw 8).res (c, wb, gg)) from E.ok hc hr (c, wb, gg) ⟨h1, h2, h3, by show gg.length ≤ 8; omega⟩ (.cons (E.var (T := webT Cw c wb) 0) (.cons (E.var (T := G gg) 2) .nil)) (hnm := Nat.le_refl _)) (cmul_l (by rw [c10] at h6; omega)))) (.cons (E.var (T := I u) 4) .nil)) (hnm := hn2))
end
end HB


namespace HB
open PySem L2 PyProof.Rows PySem.Spec
theorem rooms_head (w : Wb) {x : Str} : ∀ (ys : List Str) (rs : List (List Str)), (∀ r ∈ rs, x ∈ r) → ∀ r ∈ ys.foldl (roomStep w) rs, x ∈ r
  | [], rs, h => h
  | y :: ys, rs, h => by
    rw [List.foldl_cons]
    refine rooms_head w ys _ fun r hr => ?_
    unfold roomStep at hr
    (rcases List.mem_append.mp hr with hr | hr)
    · exact h r hr
    · obtain ⟨r', hr', rfl⟩ := List.mem_map.mp hr
      exact List.mem_append_left _ (h r' (List.mem_filter.mp hr').1)
theorem first_head {w : Wb} {x : Str} {g : List Str} : ∀ r ∈ firstRooms w (x :: g), x ∈ r := fun r hr => by
  have := (List.mem_filter.mp hr).1
  exact rooms_head w _ _ (fun r hr => by rw [List.mem_singleton.mp hr]; simp) r this
theorem left_short {g r : List Str} {x : Str} (hx : x ∈ g) (hr : x ∈ r) : (leftG g r).length < g.length := by
  unfold leftG
  refine Nat.lt_of_le_of_ne (List.length_filter_le _ _) fun e => ?_
  have := List.filter_eq_self.mp (List.Sublist.eq_of_length List.filter_sublist e) x hx
  simp [hr] at this
theorem colN_fuel (w : Wb) : ∀ (n m : Nat) (g : List Str), g.length ≤ n → g.length ≤ m → colN w n g = colN w m g
  | 0, m, g, h, _ => by
    have : g = [] := List.eq_nil_of_length_eq_zero (by omega)
    subst this
    cases m <;> simp [colN]
  | n + 1, 0, g, _, h => by
    have : g = [] := List.eq_nil_of_length_eq_zero (by omega)
    subst this
    simp [colN]
  | n + 1, m + 1, g, h, h' => by
    cases g with
    | nil => simp [colN]
    | cons x g =>
      unfold colN
      (rw [if_neg (by simp), if_neg (by simp)])
      congr 2
      apply List.map_congr_left
      intro r hr
      have := left_short (g := x :: g) (r := r) List.mem_cons_self (first_head r hr)
      exact colN_fuel w n m _ (by omega) (by omega)
theorem col_step {w : Wb} {g : List Str} (h : g ≠ []) : col w g = 1 + least ((firstRooms w g).map fun r => col w (leftG g r)) := by
  cases g with
  | nil => exact absurd rfl h
  | cons x g =>
    show colN w (g.length + 1) (x :: g) = _
    unfold colN
    rw [if_neg (by simp)]
    congr 2
    apply List.map_congr_left
    intro r hr
    have := left_short (g := x :: g) (r := r) List.mem_cons_self (first_head r hr)
    exact colN_fuel w _ _ _ (by simp at this; omega) (Nat.le_refl _)
theorem least_spec : ∀ {ns : List Int} {m : Int}, m ∈ ns → (∀ k ∈ ns, m ≤ k) → least ns = m
  | [], m, h, _ => by cases h
  | [x], m, h, _ => (List.mem_singleton.mp h).symm
  | x :: y :: ns, m, h, k => by
    unfold least
    have kx := k x List.mem_cons_self
    (rcases List.mem_cons.mp h with rfl | h)
    · have key : ∀ (ns : List Int), ns ≠ [] → (∀ k ∈ ns, m ≤ k) → m ≤ least ns := by
        intro ns
        induction ns with
        | nil => intro z; exact absurd rfl z
        | cons a ns ih =>
          intro _ hk
          cases ns with
          | nil => exact hk a List.mem_cons_self
          | cons b ns =>
            unfold least
            have h1 := hk a List.mem_cons_self
            have h2 := ih (by simp) fun k hk' => hk k (List.mem_cons_of_mem _ hk')
            omega
      have := key (y :: ns) (by simp) fun z hz => k z (List.mem_cons_of_mem _ hz)
      omega
    · have := least_spec h fun z hz => k z (List.mem_cons_of_mem _ hz)
      rw [this]
      omega
end HB


namespace HB
open PySem L2 PyProof.Rows PySem.Spec
theorem keyG_inj {g h : List Str} (e : keyG g = keyG h) : g = h := by
  unfold keyG at e
  induction g generalizing h with
  | nil => cases h with
    | nil => rfl
    | cons y h => cases e
  | cons x g ih => cases h with
    | nil => cases e
    | cons y h =>
      (rw [List.map_cons, List.map_cons] at e)
      obtain ⟨e1, e2⟩ := List.cons.inj e
      rw [Sum.inr.inj e1, ih e2]
theorem nodup_le {α : Type} [DecidableEq α] : ∀ {l d : List α}, l.Nodup → (∀ x ∈ l, x ∈ d) → l.length ≤ d.length
  | [], d, _, _ => Nat.zero_le _
  | x :: l, d, nd, h => by
    rw [List.nodup_cons] at nd
    have hx := h x List.mem_cons_self
    have := nodup_le (l := l) (d := d.erase x) nd.2 fun y hy => (List.mem_erase_of_ne (fun e : y = x => nd.1 (e ▸ hy))).mpr (h y (List.mem_cons_of_mem _ hy))
    rw [List.length_erase_of_mem hx] at this
    have := List.length_pos_of_mem hx
    rw [List.length_cons]
    omega
theorem memo_find {w : Wb} {kvs : List (List Key × V)} {g : List Str} (h : ∀ q ∈ kvs, ∃ g : List Str, g.Sublist w.1 ∧ q.1 = keyG g ∧ q.2 = .int (col w g)) : valV kvs (keyG g) = none ∨ valV kvs (keyG g) = some (.int (col w g)) := by
  unfold valV
  cases e : kvs.find? fun q => decide (q.1 = keyG g) with
  | none => exact .inl rfl
  | some q =>
    obtain ⟨g', _, e1, e2⟩ := h q (List.mem_of_find?_eq_some e)
    have e3 : q.1 = keyG g := by simpa using List.find?_some e
    have := keyG_inj (e1.symm.trans e3)
    subst this
    exact .inr (by rw [Option.map_some, e2])
theorem memo_put {w : Wb} {kvs : List (List Key × V)} {g : List Str} (nd : (kvs.map (·.1)).Nodup) (h : ∀ q ∈ kvs, ∃ g : List Str, g.Sublist w.1 ∧ q.1 = keyG g ∧ q.2 = .int (col w g)) (hg : g.Sublist w.1) : MemoP w (.dT (putK kvs (keyG g) (.int (col w g)))) ∧ valV (putK kvs (keyG g) (.int (col w g))) (keyG g) = some (.int (col w g)) := by
  have hv : valV (putK kvs (keyG g) (.int (col w g))) (keyG g) = some (.int (col w g)) := by rw [valV_put, if_pos rfl]
  refine ⟨⟨_, rfl, ?_, ?_⟩, hv⟩
  · unfold putK
    by_cases a : (kvs.any fun kv => decide (kv.1 = keyG g)) = true
    · rw [if_pos a, List.map_map]
      have : ((fun q : List Key × V => q.1) ∘ fun kv : List Key × V => if kv.1 = keyG g then (kv.1, V.int (col w g)) else kv) = fun q => q.1 := by
        funext q
        show (if q.1 = keyG g then (q.1, V.int (col w g)) else q).1 = q.1
        split <;> rfl
      rw [this]
      exact nd
    · rw [if_neg a, List.map_append]
      refine List.nodup_append.mpr ⟨nd, by simp, fun x hx y hy => ?_⟩
      simp at hy
      subst hy
      intro e
      obtain ⟨q, hq, e2⟩ := List.mem_map.mp hx
      exact a (List.any_eq_true.mpr ⟨q, hq, by simpa using e2.trans e⟩)
  · intro q hq
    unfold putK at hq
    by_cases a : (kvs.any fun kv => decide (kv.1 = keyG g)) = true
    · rw [if_pos a] at hq
      obtain ⟨q', hq', rfl⟩ := List.mem_map.mp hq
      by_cases e : q'.1 = keyG g
      · rw [if_pos e]
        exact ⟨g, hg, e, rfl⟩
      · rw [if_neg e]
        exact h q' hq'
    · rw [if_neg a] at hq
      (rcases List.mem_append.mp hq with hq | hq)
      · exact h q hq
      · (rw [List.mem_singleton.mp hq])
        exact ⟨g, hg, rfl, rfl⟩
end HB


namespace HB
open PySem L2 PyProof.Rows PySem.Spec
section
variable {P : Program} {w : World} {K : PySem.W.Frag} {mg : Str → Option Value} {base : Heap} {Cw Cc : Addr}
theorem web_at {M : Mx} {Γ : Gm} {σ : L2.St} {H : Hp} {c : Addr} {wb : Wb} {i : Nat} (l : Loc M Γ σ H) (hi : Γ[i]? = some (some (webT Cw c wb))) : ∃ a dx fs, σ[i]? = some (some (.ref a)) ∧ H a = some (.ins Cw dx fs) ∧ fs.lookup ("own_colours" : Str) = some (V.ref c) := by
  obtain ⟨v, e, a, dx, fs, rfl, h, n, r⟩ := l.var i _ hi
  obtain ⟨v, e2, h2⟩ := prd_lookup (T := Ty.is (.ref c)) r (f := "own_colours") (by rfl)
  have h2 : v = .ref c := h2
  subst h2
  exact ⟨a, dx, fs, e, h, e2⟩
theorem grp_at {M : Mx} {Γ : Gm} {σ : L2.St} {H : Hp} {g : List Str} {i : Nat} (l : Loc M Γ σ H) (hi : Γ[i]? = some (some (G g))) : ∃ b, σ[i]? = some (some (.ref b)) ∧ H b = some (.tup ((keyG g).map kV)) := by
  obtain ⟨v, e, h⟩ := l.var i _ hi
  cases h with
  | tup e2 n r =>
    obtain rfl := r.strs
    exact ⟨_, e, by rw [e2]; unfold keyG; rw [List.map_map]; rfl⟩
/-- web.own_colours[group], the key known to be there -/
def There (c : Addr) (wb : Wb) (gg : List Str) (H : Hp) : Prop := ∃ kvs : List (List Key × V), H c = some (.dT kvs) ∧ valV kvs (keyG gg) = some (.int (col wb gg))
theorem colours_step (g : Gs K mg) (k : Gc K Cw webF) (n : Nat) (ih : ∀ m, m < n → Ok P w K mg base (m + 3) "colours_of" ["web", "group"] (pm_colours Cw m)) : Ok P w K mg base (n + 3) "colours_of" ["web", "group"] (pm_colours Cw n) := by
    refine Ok.of (k := n + 2) (g.df _ 50) sc_colours_of (fun _ => rfl) (fun _ _ _ _ _ _ us hl => match us, hl with | [_, _], _ => rfl) fun ⟨c, wb, gg⟩ f cdv A outer s H Ex ex lk En hp hlk hr hR hn => ?_
    obtain ⟨h1, h2, h3, h4⟩ := hp
    have h1 : Wf wb := h1
    have h2 : RoomsOk wb := h2
    have h3 : gg.Sublist wb.1 := h3
    have h4 : gg.length ≤ n := h4
    have hN := sc_colours_of.nd
    have okg : Gok gg := fun x hx => h1.wok.ok x (h3.subset hx)
    have l5 : gg.length ≤ 5 := Nat.le_trans h3.length_le h1.len
    have nc := k.na "own_colours" (by decide)
    refine B.ite ((C.eqD (d := gr gg) (e' := gr []) hr (E.var (T := G gg) 1) E.tup0 (gr_shaped okg) (gr_shaped fun x hx => by cases hx)).imp (S' := fun v => v = decide (gg = [])) fun v e => by rw [e, eqv_gr]) (fun hv => ?_) fun hv => B.skip ?_
    · have e : gg = [] := by simpa using hv.symm
      subst e
      exact B.ret hR (Le.refl _) E.int
    have ne : gg ≠ [] := by simpa using hv.symm
    have hu := room1 hr
    have memo : ∀ {M : Mx} {H : Hp}, Hw M H → (c, MemoOk wb) ∈ M.ph → ∃ kvs : List (List Key × V), H c = some (.dT kvs) ∧ (kvs.map (·.1)).Nodup ∧ ∀ q ∈ kvs, ∃ g : List Str, g.Sublist wb.1 ∧ q.1 = keyG g ∧ q.2 = .int (col wb g) := fun w hm => by
      obtain ⟨_, o, e, kvs, rfl, nd, al⟩ := w.ph _ hm
      exact ⟨kvs, e, nd, al⟩
    have small : ∀ {kvs : List (List Key × V)}, (kvs.map (·.1)).Nodup → (∀ q ∈ kvs, ∃ g : List Str, g.Sublist wb.1 ∧ q.1 = keyG g ∧ q.2 = .int (col wb g)) → kvs.length < sizeLine := fun {kvs} nd al => by
      have := nodup_le (d := (lawGroups wb.1).map keyG) nd fun x hx => by
        obtain ⟨q, hq, rfl⟩ := List.mem_map.mp hx
        obtain ⟨g, hg, e, _⟩ := al q hq
        rw [e]
        exact List.mem_map.mpr ⟨g, mem_lawGroups.mpr hg, rfl⟩
      rw [List.length_map, List.length_map] at this
      have h32 := groups_32 h1
      exact Nat.lt_of_le_of_lt (show kvs.length ≤ 32 by omega) (by decide)
    have fin : ∀ {Γ : Gm} {σ : L2.St} {H2 : Hp}, Γ[0]? = some (some (webT Cw c wb)) → Γ[1]? = some (some (G gg)) → Loc (Mf ex [(c, MemoOk wb)] lk H) Γ σ H2 → There c wb gg H2 → wB (cxOf CX0 P w K mg base N_colours_of (Str.ofString "colours_of") (defScope s_colours_of) f cdv A outer s H Ex).nox ((defBody s_colours_of).drop 2) En σ H2 := fun {Γ σ H2} e0 e1 l ⟨kvs, ec, ev⟩ => by
      obtain ⟨a, dx, fs, ea, ha, hf⟩ := web_at l e0
      obtain ⟨b, eb, hb⟩ := grp_at l e1
      refine wB.of (pss_one (ps_ret (pe_dget hu (pe_fld (pe_var (i := 0) rfl (by first | exact Or.inl rfl | exact Or.inr (Or.inl rfl) | exact Or.inr (Or.inr rfl))) rfl) (pe_var (i := 1) rfl (by first | exact Or.inl rfl | exact Or.inr (Or.inl rfl) | exact Or.inr (Or.inr rfl))) fun _ _ => rfl))) ?_
      refine ⟨_, ea, a, Cw, dx, fs, _, rfl, ha, k.cl, nc, hf, _, eb, c, .int (col wb gg), rfl, .inr ⟨kvs, keyG gg, b, .inl ec, rfl, hb, ev.symm⟩, ?_⟩
      exact hR _ _ _ (Le.refl _) l.hw (.int _)
    refine .ps (ps_if (pt_cmp (pc_dnotin hu (pe_var (i := 1) rfl (by first | exact Or.inl rfl | exact Or.inr (Or.inl rfl) | exact Or.inr (Or.inr rfl))) (pe_fld (pe_var (i := 0) rfl (by first | exact Or.inl rfl | exact Or.inr (Or.inl rfl) | exact Or.inr (Or.inr rfl))) rfl))) pb_w pb_w) fun σ H1 l => ?_
    obtain ⟨a, dx, fs, ea, ha, hf⟩ := web_at l (i := 0) rfl
    obtain ⟨b, eb, hb⟩ := grp_at l (i := 1) rfl
    obtain ⟨kvs, ec, nd, al⟩ := memo l.hw List.mem_cons_self
    refine ⟨_, eb, _, ea, a, Cw, dx, fs, _, rfl, ha, k.cl, nc, hf, c, valV kvs (keyG gg), rfl, .inr ⟨kvs, keyG gg, b, .inl ec, rfl, hb, rfl⟩, _, rfl, ?_⟩
    rcases memo_find (g := gg) al with e | e
    · rw [e]
      have ng : 0 < gg.length := List.length_pos_iff.mpr ne
      have IH := ih (n - 1) (by omega)
      have lf : (firstRooms wb gg).length ≤ 256 := by
        refine Nat.le_trans (List.length_filter_le _ _) ?_
        unfold rooms
        refine Nat.le_trans (rooms_small wb _ _) ?_
        rw [List.length_singleton, Nat.one_mul]
        exact pow_le8 (by rw [List.length_drop]; omega)
      have l0 : 0 < (firstRooms wb gg).length := List.length_pos_iff.mpr (h2 gg ne h3)
      show wB _ _ _ σ H1
      refine (B.asgS (M := Mf ex [(c, MemoOk wb)] lk H) (Γ := startG N_colours_of ((pm_colours Cw n).args (c, wb, gg))) 2 (S := fun m : Int => m = least ((firstRooms wb gg).map fun r => col wb (leftG gg r))) (f := I) (E.wk (E.min (ns := (firstRooms wb gg).map fun r => col wb (leftG gg r)) (g.bi "min") ((E.lcM (enc := gr) (xs := firstRooms wb gg) (fun r => .int (col wb (leftG gg r))) 3 (W.list (E.ok (ok_first_rooms g k) hr (c, wb, gg) ⟨fun x hx => h3.subset hx, by show gg.length ≤ 8; omega⟩ (.cons (E.var (T := webT Cw c wb) 0) (.cons (E.var (T := G gg) 1) .nil)) (hnm := by omega))) [("room", 3)] (fun r hrr p acc s H0 A' cl fp => ?_) (by omega) (blkOk_by (N := N_colours_of) (sc := defScope s_colours_of) (by decide +kernel)) hN).castL (by rw [List.map_map]; rfl)) (by rw [List.length_map]; exact l0)) fun m hm => (least_spec hm.1 hm.2).symm) (fun m hm => ?_) hN) σ H1 l
      · have hx : ∃ x, x ∈ gg ∧ x ∈ r := by
          cases gg with
          | nil => exact absurd rfl ne
          | cons x gg => exact ⟨x, List.mem_cons_self, first_head r hrr⟩
        obtain ⟨x, hx1, hx2⟩ := hx
        have sh := left_short hx1 hx2
        exact (show E _ _ _ _ ((pm_colours Cw (n - 1)).res (c, wb, leftG gg r)) from E.ok IH hr (c, wb, leftG gg r) ⟨h1, h2, List.filter_sublist.trans h3, by show (leftG gg r).length ≤ n - 1; omega⟩ (.cons (E.var (T := webT Cw c wb) 0) (.cons (E.ok (ok_left_of g) hr (gg, r) (by show gg.length ≤ 100; omega) (.cons (E.var (T := G gg) 1) (.cons (E.var (T := G r) 3) .nil)) (hnm := by omega)) .nil)) (hnm := by omega))
      · subst hm
        refine .ps (ps_dput hu (pe_fld (pe_var (i := 0) rfl (by first | exact Or.inl rfl | exact Or.inr (Or.inl rfl) | exact Or.inr (Or.inr rfl))) rfl) (pe_var (i := 1) rfl (by first | exact Or.inl rfl | exact Or.inr (Or.inl rfl) | exact Or.inr (Or.inr rfl))) pe_w rfl) fun σ H3 l3 => ?_
        refine ((E.add (E.int (i := 1)) (E.var (T := I (least ((firstRooms wb gg).map fun r => col wb (leftG gg r)))) 2)) σ H3 l3).mono fun v H4 ⟨s4, hv⟩ => ?_
        have l4 := l3.st s4
        cases hv
        obtain ⟨a, dx, fs, ea, ha, hf⟩ := web_at l4 (i := 0) rfl
        obtain ⟨b, eb, hb⟩ := grp_at l4 (i := 1) rfl
        obtain ⟨kvs, ec, nd, al⟩ := memo l4.hw List.mem_cons_self
        have mp := memo_put nd al h3
        rw [col_step ne] at mp
        refine ⟨_, ea, a, Cw, dx, fs, _, rfl, ha, k.cl, nc, hf, _, eb, c, _, rfl, .inr ⟨kvs, keyG gg, b, ec, rfl, hb, small nd al, rfl⟩, ?_⟩
        refine wB.of pss_nil (fin rfl rfl (l4.st (l4.hw.ph_set List.mem_cons_self (fun _ _ z => by cases z) mp.1)) ⟨_, upd_same, ?_⟩)
        rw [col_step ne]
        exact mp.2
    · rw [e]
      show wB _ _ _ σ H1
      exact wB.of pss_nil (fin rfl rfl l ⟨kvs, ec, e⟩)
theorem ok_colours (g : Gs K mg) (k : Gc K Cw webF) (n : Nat) : Ok P w K mg base (n + 3) "colours_of" ["web", "group"] (pm_colours Cw n) := Nat.strongRecOn n fun n ih => colours_step g k n ih
end
end HB


namespace HB
open PySem L2 PyProof.Rows PySem.Spec
/-- what grown_from gathers: the groups of which no two are mates -/
def growStep (w : Wb) (fs : List (List Str)) (x : Str) : List (List Str) := fs ++ ((fs.filter fun g => g.all fun y => !mates w y x).map fun g => g ++ [x]) ++ [[x]]
def foundL (w : Wb) : List (List Str) := w.1.foldl (growStep w) []
def looseL (w : Wb) : List (List Str) := sortG (foundL w)
theorem found_ne (w : Wb) : ∀ (ys : List Str) (fs : List (List Str)), (∀ g ∈ fs, g ≠ []) → ∀ g ∈ ys.foldl (growStep w) fs, g ≠ []
  | [], fs, h => h
  | y :: ys, fs, h => by
    rw [List.foldl_cons]
    refine found_ne w ys _ fun g hg => ?_
    unfold growStep at hg
    rcases List.mem_append.mp hg with hg | hg
    · rcases List.mem_append.mp hg with hg | hg
      · exact h g hg
      · obtain ⟨g', _, rfl⟩ := List.mem_map.mp hg
        simp
    · rw [List.mem_singleton.mp hg]
      simp
theorem found_sub (w : Wb) : ∀ (zs ys : List Str) (fs : List (List Str)), (∀ g ∈ fs, g.Sublist zs) → ∀ g ∈ ys.foldl (growStep w) fs, g.Sublist (zs ++ ys)
  | zs, [], fs, h => fun g hg => by simpa using h g hg
  | zs, y :: ys, fs, h => fun g hg => by
    rw [List.foldl_cons] at hg
    have := found_sub w (zs ++ [y]) ys (growStep w fs y) (fun g hg => by
      unfold growStep at hg
      rcases List.mem_append.mp hg with hg | hg
      · rcases List.mem_append.mp hg with hg | hg
        · exact (h g hg).trans (List.sublist_append_left _ _)
        · obtain ⟨g', hg', rfl⟩ := List.mem_map.mp hg
          exact (h g' (List.mem_filter.mp hg').1).append (.refl _)
      · rw [List.mem_singleton.mp hg]
        exact List.sublist_append_right _ _) g hg
    simpa using this
theorem found_len (w : Wb) : ∀ (ys : List Str) (fs : List (List Str)), (ys.foldl (growStep w) fs).length + 1 ≤ (fs.length + 1) * 2 ^ ys.length
  | [], fs => by simp
  | y :: ys, fs => by
    rw [List.foldl_cons]
    refine Nat.le_trans (found_len w ys _) ?_
    have h : (growStep w fs y).length + 1 ≤ (fs.length + 1) * 2 := by
      unfold growStep
      rw [List.length_append, List.length_append, List.length_map, List.length_singleton]
      have := List.length_filter_le (fun g : List Str => g.all fun z => !mates w z y) fs
      omega
    (refine Nat.le_trans (Nat.mul_le_mul_right _ h) ?_)
    rw [List.length_cons, Nat.pow_succ, Nat.mul_assoc, Nat.mul_comm 2]
    exact Nat.le_refl _
theorem loose_facts {w : Wb} (h : w.1.length ≤ 8) : (∀ g ∈ looseL w, g ≠ [] ∧ g.Sublist w.1) ∧ (looseL w).length ≤ 256 := by
  refine ⟨fun g hg => ?_, ?_⟩
  · have hg := (sortG_perm _).mem_iff.mp hg
    exact ⟨found_ne w _ _ (fun g hg => by cases hg) g hg, by simpa using found_sub w [] w.1 [] (fun g hg => by cases hg) g hg⟩
  · unfold looseL
    rw [(sortG_perm _).length_eq]
    have h1 := found_len w w.1 []
    have h2 := pow_le8 h
    unfold foundL
    simp at h1
    omega
section
variable {P : Program} {w : World} {K : PySem.W.Frag} {mg : Str → Option Value} {base : Heap} {Cw Cc : Addr}
def pm_loose_in (Cw : Addr) (tl : Ph) : Pm (Addr × Wb) where
  pre := fun q => Wf q.2
  req := fun _ => tl
  args := fun q => [webT Cw q.1 q.2]
  res := fun q => L ((looseL q.2).map gr)
def pm_objections (Cw Cc : Addr) (tl : Ph) : Pm (Addr × Wb × Py × Int) where
  pre := fun q => Wf q.2.1 ∧ q.2.2.1.map (·.1) = q.2.1.1
  req := fun _ => tl
  args := fun q => [webT Cw q.1 q.2.1, chT Cc q.2.1.1 q.2.2.1 q.2.2.2]
  res := fun q => U (((sortG (looseL q.2.1)).filter fun g => decide (q.2.2.2 < paid q.2.2.1 g)).map gr)
theorem ok_objections (g : Gs K mg) (kw : Gc K Cw webF) (kc : Gc K Cc chF) (iw : IsC K Cw) (ic : IsC K Cc) (hw : mg "Web" = some (.ref Cw)) (hc : mg "Charge" = some (.ref Cc)) {n : Nat} {tl : Ph} (hl : Ok P w K mg base n "loose_in" ["web"] (pm_loose_in Cw tl)) (hn2 : 2 ≤ n) : Ok P w K mg base (n + 1) "objections" ["web", "charge"] (pm_objections Cw Cc tl) := by
  refine Ok.of (k := n) (g.df _ 58) sc_objections (fun _ => rfl) (fun _ _ _ _ _ _ us hl => match us, hl with | [_, _], _ => rfl) fun ⟨c, wb, ps, u⟩ f cdv A outer s H Ex ex lk En hp hlk hr hR hn => ?_
  obtain ⟨h1, h2⟩ := hp
  have h1 : Wf wb := h1
  have h2 : ps.map (·.1) = wb.1 := h2
  have hN := sc_objections.nd
  obtain ⟨lf, ll⟩ := loose_facts (w := wb) (by have := h1.len; omega)
  refine B.expr (E.ok (ok_require_web g iw hw) hr (c, wb) trivial (.cons (E.var 0) .nil) (hnm := by omega)) ?_
  refine B.expr (E.ok (ok_require_charge_of g kw kc ic hc) hr (c, wb, ps, u) h1.wok.ok (.cons (E.var 0) (.cons (E.var 1) .nil)) (hnm := hn2)) ?_
  refine B.ret hR (Le.refl _) (E.tupleL (g.bi "tuple") (E.lcF (enc := gr) (xs := sortG (looseL wb)) (fun gg => decide (u < paid ps gg)) gr 2 (W.list (E.sortGs hr (g.bi "sorted") (show E _ _ _ _ ((pm_loose_in Cw tl).res (c, wb)) from E.ok hl hr (c, wb) h1 (.cons (E.var (T := webT Cw c wb) 0) .nil) (hnm := Nat.le_refl _)) (grs_ok fun gg hg => (lf gg hg).1) (by omega))) [("group", 2)] (fun gg hg p acc s H0 A' cl fp => ?_) (fun gg hg z p acc s H0 A' cl fp => E.var 2) (by rw [(sortG_perm _).length_eq]; omega) (blkOk_by (N := N_objections) (sc := defScope s_objections) (by decide +kernel)) hN))
  have sub := (lf gg ((sortG_perm _).mem_iff.mp hg)).2
  exact C.valB (E.ok (ok_pays_over g kc) hr (wb.1, ps, u, gg) ⟨fun x hx => by show x ∈ ps.map (·.1); rw [h2]; exact sub.subset hx, by show gg.length ≤ 100; have := sub.length_le; have := h1.len; omega⟩ (.cons (E.var (T := chT Cc wb.1 ps u) 1) (.cons (E.var (T := G gg) 2) (.cons E.int .nil))) (hnm := hn2))
end
end HB


namespace HB
open PySem L2 PyProof.Rows PySem.Spec
/-- the first loose group that pays more than one -/
def overG (w : Wb) (ps : Py) (u : Int) : Option (List Str) := (looseL w).find? fun g => decide (u < paid ps g)
def overD (w : Wb) (ps : Py) (u : Int) : PyData := match overG w ps u with
  | none => .none
  | some g => gr g
section
variable {P : Program} {w : World} {K : PySem.W.Frag} {mg : Str → Option Value} {base : Heap} {Cw Cc : Addr}
def pm_over_group (Cw Cc : Addr) (tl : Ph) : Pm (Addr × Wb × Py × Int) where
  pre := fun q => Wf q.2.1 ∧ q.2.2.1.map (·.1) = q.2.1.1
  req := fun _ => tl
  args := fun q => [webT Cw q.1 q.2.1, chT Cc q.2.1.1 q.2.2.1 q.2.2.2]
  res := fun q => D (overD q.2.1 q.2.2.1 q.2.2.2)
theorem ok_objection (g : Gs K mg) (kw : Gc K Cw webF) (kc : Gc K Cc chF) (iw : IsC K Cw) (ic : IsC K Cc) (hw : mg "Web" = some (.ref Cw)) (hc : mg "Charge" = some (.ref Cc)) {n : Nat} {tl : Ph} (ho : Ok P w K mg base n "over_group" ["web", "charge"] (pm_over_group Cw Cc tl)) (hn2 : 2 ≤ n) : Ok P w K mg base (n + 1) "objection" ["web", "charge"] (pm_over_group Cw Cc tl) := by
  refine Ok.of (k := n) (g.df _ 57) sc_objection (fun _ => rfl) (fun _ _ _ _ _ _ us hl => match us, hl with | [_, _], _ => rfl) fun ⟨c, wb, ps, u⟩ f cdv A outer s H Ex ex lk En hp hlk hr hR hn => ?_
  obtain ⟨h1, h2⟩ := hp
  have h1 : Wf wb := h1
  refine B.expr (E.ok (ok_require_web g iw hw) hr (c, wb) trivial (.cons (E.var 0) .nil) (hnm := by omega)) ?_
  refine B.expr (E.ok (ok_require_charge_of g kw kc ic hc) hr (c, wb, ps, u) h1.wok.ok (.cons (E.var 0) (.cons (E.var 1) .nil)) (hnm := hn2)) ?_
  exact B.ret hR (Le.refl _) (show E _ _ _ _ ((pm_over_group Cw Cc tl).res (c, wb, ps, u)) from E.ok ho hr (c, wb, ps, u) ⟨h1, h2⟩ (.cons (E.var (T := webT Cw c wb) 0) (.cons (E.var (T := chT Cc wb.1 ps u) 1) .nil)) (hnm := Nat.le_refl _))
def Within (K : PySem.W.Frag) (Cc : Addr) (wb : Wb) (T : Ty) (b : Bool) : Prop := (∃ ps u, T = chT Cc wb.1 ps u ∧ ps.map (·.1) = wb.1 ∧ b = (overG wb ps u).isNone) ∨ (ChV K Cc wb.1 T false ∧ b = false)
def pm_is_within (K : PySem.W.Frag) (Cw Cc : Addr) (tl : Ph) : Pm (Addr × Wb × Ty × Bool) where
  req := fun _ => tl
  pre := fun q => Wf q.2.1 ∧ Within K Cc q.2.1 q.2.2.1 q.2.2.2
  args := fun q => [webT Cw q.1 q.2.1, q.2.2.1]
  res := fun q => Bo q.2.2.2
theorem ok_is_within (g : Gs K mg) (kw : Gc K Cw webF) (kc : Gc K Cc chF) (iw : IsC K Cw) (ic : IsC K Cc) (hw : mg "Web" = some (.ref Cw)) (hc : mg "Charge" = some (.ref Cc)) {n : Nat} {tl : Ph} (ho : Ok P w K mg base n "over_group" ["web", "charge"] (pm_over_group Cw Cc tl)) (hn2 : 2 ≤ n) : Ok P w K mg base (n + 1) "is_within" ["web", "value"] (pm_is_within K Cw Cc tl) := by
  refine Ok.of (k := n) (g.df _ 56) sc_is_within (fun _ => rfl) (fun _ _ _ _ _ _ us hl => match us, hl with | [_, _], _ => rfl) fun ⟨c, wb, T, b⟩ f cdv A outer s H Ex ex lk En hp hlk hr hR hn => ?_
  obtain ⟨h1, h2⟩ := hp
  have h1 : Wf wb := h1
  have h2 : Within K Cc wb T b := h2
  have hp := trivial
  refine B.expr (E.ok (ok_require_web g iw hw) hr (c, wb) trivial (.cons (E.var 0) .nil) (hnm := by omega)) ?_
  rcases h2 with ⟨ps, u, rfl, k1, rfl⟩ | ⟨hv, rfl⟩
  · refine B.ret hR (Le.refl _) ((E.and (v := true) (u := (overG wb ps u).isNone) (show E _ _ _ _ ((pm_is_charge_of K Cw Cc).res (c, wb, chT Cc wb.1 ps u, true)) from E.ok (ok_is_charge_of g kw kc ic hc) hr (c, wb, chT Cc wb.1 ps u, true) ⟨h1.wok.ok, .inl ⟨wb.1, ps, u, rfl, h1.wok.ok, by simp⟩⟩ (.cons (E.var (T := webT Cw c wb) 0) (.cons (E.var (T := chT Cc wb.1 ps u) 1) .nil)) (hnm := by omega)) fun _ => E.op1 (E.isN (show E _ _ _ _ ((pm_over_group Cw Cc tl).res (c, wb, ps, u)) from E.ok ho hr (c, wb, ps, u) ⟨h1, k1⟩ (.cons (E.var (T := webT Cw c wb) 0) (.cons (E.var (T := chT Cc wb.1 ps u) 1) .nil)) (hnm := Nat.le_refl _)) fun v H z => ?_)).cast ?_)
    · have z : Rp _ H v (overD wb ps u) := z
      unfold overD at z
      cases e : overG wb ps u with
      | none =>
        rw [e] at z
        cases z
        simp
      | some gg =>
        rw [e] at z
        cases z
        simp
    · rw [Bool.true_and]
  · exact B.ret hR (Le.refl _) ((E.and (v := false) (u := false) (show E _ _ _ _ ((pm_is_charge_of K Cw Cc).res (c, wb, T, false)) from E.ok (ok_is_charge_of g kw kc ic hc) hr (c, wb, T, false) ⟨h1.wok.ok, hv⟩ (.cons (E.var (T := webT Cw c wb) 0) (.cons (E.var (T := T) 1) .nil)) (hnm := by omega)) fun z => by cases z).cast rfl)
end
end HB


namespace HB
open PySem L2 PyProof.Rows PySem.Spec
def Mx.share (M : Mx) (c : Addr) (I : Cn) : Mx := { M with ex := fun a => M.ex a ∨ a = c, ph := (c, I) :: M.ph }
section
variable {M M0 : Mx} {Γ : Gm} {σ : L2.St} {H H1 H' : Hp} {p c : Addr} {cn I : Cn}
theorem Loc.shared (l : Loc (M.add p cn) Γ σ H) (hI : ∀ ex H o, cn.P ex H o → I.P ex H o) : Loc (M.share p I) Γ σ H := by
  have w := l.hw
  obtain ⟨h1, h2, h3, o, h4, h5⟩ := w.own (p, cn) List.mem_cons_self
  have nd : (p :: M.own.map (·.1)).Nodup := w.nd
  have nd := List.nodup_cons.mp nd
  refine ⟨⟨w.exin, fun q hq r hr e => ?_, fun q hq => ?_, fun q hq => ?_, nd.2, fun a u e n => w.frm a u e fun q hq => n q (List.mem_cons_of_mem _ hq), fun b hb a u e n m => w.frb b hb a u e (fun q hq => n q (List.mem_cons_of_mem _ hq)) fun q hq => ?_, w.nf, w.nk⟩, l.len, l.var⟩
  · (rcases List.mem_cons.mp hq with rfl | hq)
    · rcases List.mem_cons.mp hr with rfl | hr
      · rfl
      · exact absurd e.symm (h3 r hr)
    · rcases List.mem_cons.mp hr with rfl | hr
      · exact absurd e (h3 q hq)
      · exact w.fn q hq r hr e
  · (rcases List.mem_cons.mp hq with rfl | hq)
    · exact ⟨h1, o, h4, hI _ _ _ h5⟩
    · exact w.ph q hq
  · obtain ⟨a1, a2, a3, a4⟩ := w.own q (List.mem_cons_of_mem _ hq)
    refine ⟨a1, a2, fun r hr => ?_, a4⟩
    (rcases List.mem_cons.mp hr with rfl | hr)
    · exact fun z => nd.1 (List.mem_map.mpr ⟨q, hq, z.symm⟩)
    · exact a3 r hr
  · (rcases List.mem_cons.mp hq with rfl | hq)
    · exact n (p, I) List.mem_cons_self
    · exact m q hq
theorem kp_unshare : Kp (M.share p I).ex M.ex H H := .of fun _ _ e n => ⟨e, fun z => n (.inl z)⟩
theorem Loc.unshare (l : Loc (M.share p I) Γ σ H) (hx : ¬ M.ex p) (h0 : M.H0 p = none) (hb : ∀ b ∈ M.bs, b p = none) (hp : ∀ q ∈ M.ph, M.ex q.1) : Loc M Γ σ H := by
  have w := l.hw
  have k : Kp (M.share p I).ex M.ex H H := kp_unshare
  refine ⟨⟨fun a z => w.exin a (.inl z), fun q hq r hr e => w.fn q (List.mem_cons_of_mem _ hq) r (List.mem_cons_of_mem _ hr) e, fun q hq => ?_, fun q hq => ?_, w.nd, fun a u e n => w.frm a u e fun q hq => ?_, fun b hb' a u e n m => w.frb b hb' a u e (fun q hq => ?_) m, w.nf, w.nk⟩, l.len, fun i T e => ?_⟩
  · obtain ⟨_, u, e, f⟩ := w.ph q (List.mem_cons_of_mem _ hq)
    exact ⟨hp q hq, u, e, q.2.fr k f⟩
  · obtain ⟨a, b, c, u, e, f⟩ := w.own q hq
    refine ⟨a.elim id fun z => absurd z.symm (c (p, I) List.mem_cons_self), b, fun r hr => c r (List.mem_cons_of_mem _ hr), u, e, q.2.fr k f⟩
  · (rcases List.mem_cons.mp hq with rfl | hq)
    · intro z
      have z : p = a := z
      rw [← z, h0] at e
      cases e
    · exact n q hq
  · (rcases List.mem_cons.mp hq with rfl | hq)
    · intro z
      have z : p = a := z
      rw [← z, hb b hb'] at e
      cases e
    · exact n q hq
  · obtain ⟨v, e', f⟩ := l.var i T e
    exact ⟨v, e', T.fr k f⟩
theorem St.none (w : Hw M H) (s : St M H H1) (h : H1 p = none) : H p = none := by
  cases e : H p with
  | none => rfl
  | some o =>
    by_cases q : ∃ q ∈ M.ph, q.1 = p
    · obtain ⟨q, hq, rfl⟩ := q
      obtain ⟨u, e', _⟩ := s.ph q hq
      rw [h] at e'
      cases e'
    · have := s.keep p o e fun q' hq' z => q ⟨q', hq', z⟩
      rw [h] at this
      cases this
abbrev addE (ex : Ads) (c : Addr) : Ads := fun a => ex a ∨ a = c
/-- behind a call that gave a new cell -/
theorem loc_add (l : Loc M Γ σ H) {ph : Ph} {lk : List Addr} (hq : ∀ q ∈ ph, q ∈ M.ph) (hc : H c = none) (s : St (Mf (addE M.ex c) ph lk H) H H') (ho : ∃ o, H' c = some o ∧ cn.P (addE M.ex c) H' o) : Loc (M.add c cn) Γ σ H' := by
  have w := l.hw
  have nin : ∀ a, M.ex a → a ≠ c := fun a h z => by
    obtain ⟨o, e, _⟩ := w.exin a h
    rw [z, hc] at e
    cases e
  have kp1 : ∀ a u, H a = some u → ¬ M.ex a → H' a = some u := fun a u e n => s.keep a u e fun q hq' z => n (z ▸ (w.ph q (hq q hq')).1)
  have k : Kp M.ex (M.add c cn).ex H H' := .of fun a u e n => ⟨kp1 a u e n, fun z => z.elim n fun z => by rw [z, hc] at e; cases e⟩
  have nph : ∀ q ∈ M.ph, q.1 ≠ c := fun q hq z => nin q.1 (w.ph q hq).1 z
  have kall : ∀ a u, H a = some u → (∀ q ∈ M.ph, q.1 ≠ a) → H' a = some u := fun a u e n => s.keep a u e fun q hq' => n q (hq q hq')
  obtain ⟨o, e0, f0⟩ := ho
  refine ⟨⟨fun a z => ?_, w.fn, fun q hq' => ?_, fun q hq' => ?_, ?_, fun a u e n => kall a u (w.frm a u e n) n, fun b hb a u e n m => kall a u (w.frb b hb a u e n fun q hq => m q (List.mem_cons_of_mem _ hq)) n, fun a o u e => w.nf a o u (s.nf a o u e), w.nk⟩, l.len, fun i T e => ?_⟩
  · rcases z with z | z
    · obtain ⟨u, e, nn⟩ := w.exin a z
      by_cases q : ∃ q ∈ ph, q.1 = a
      · obtain ⟨q, hq', rfl⟩ := q
        obtain ⟨u', e', f'⟩ := s.ph q hq'
        exact ⟨u', e', q.2.nt f'⟩
      · exact ⟨u, s.keep a u e fun q' hq' z => q ⟨q', hq', z⟩, nn⟩
    · rw [z]
      exact ⟨o, e0, cn.nt f0⟩
  · obtain ⟨a, u, e, f⟩ := w.ph q hq'
    by_cases z : ∃ r ∈ ph, r.1 = q.1
    · obtain ⟨r, hr, e1⟩ := z
      obtain ⟨u', e2, f2⟩ := s.ph r hr
      obtain rfl := w.fn r (hq r hr) q hq' e1
      exact ⟨.inl a, u', e2, f2⟩
    · exact ⟨.inl a, u, s.keep _ _ e fun r hr e1 => z ⟨r, hr, e1⟩, q.2.fr k f⟩
  · rcases List.mem_cons.mp hq' with rfl | hq'
    · exact ⟨.inr rfl, w.frm0 hc, nph, o, e0, f0⟩
    · obtain ⟨a, b, d, u, e, f⟩ := w.own q hq'
      exact ⟨.inl a, b, d, u, kall _ u e d, q.2.fr k f⟩
  · show ((c, cn) :: M.own |>.map (·.1)).Nodup
    (rw [List.map_cons, List.nodup_cons])
    refine ⟨fun z => ?_, w.nd⟩
    obtain ⟨q, hq', e⟩ := List.mem_map.mp z
    exact nin q.1 (w.own q hq').1 e
  · obtain ⟨v, e', f⟩ := l.var i T e
    exact ⟨v, e', T.fr k f⟩
end
/-- e makes a new cell of one's own, its value of a type that leans on it -/
def EG (X : Cx) (M : Mx) (Γ : Gm) (e : Expr) (cn : Cn) (R : Addr → Ty) : Prop := ∀ σ H, Loc M Γ σ H → wE X e σ H fun v H' => ∃ c, H c = none ∧ Loc (M.add c cn) Γ σ H' ∧ (R c).P (M.add c cn).ex v H'
section
variable {X : Cx} {M M0 : Mx} {Γ : Gm} {e : Expr} {es : List Expr} {rest : List Stmt} {D : Ends} {cn I : Cn} {R : Addr → Ty} {T : Ty} {pos pn : Pos} {x : Str}
theorem EF.g (h : EF X M Γ e cn) : EG X M Γ e cn fun c => Ty.is (.ref c) := fun σ H l => (h σ H l).mono fun v H' ⟨p, H1, o, ev, s, hp, no, eH, hc⟩ => by
  subst ev
  exact ⟨p, s.none l.hw hp, (EF.loc l s hp no eH hc).1, rfl⟩
/-- x = e, the new cell shared from now on -/
theorem B.newS' (i : Nat) (he : EG X M Γ e cn R) (hI : ∀ ex H o, cn.P ex H o → I.P ex H o) (h : ∀ c, ¬ M.ex c → M.H0 c = none → (∀ b ∈ M.bs, b c = none) → (∀ q ∈ M.ph, M.ex q.1) → B X (M.share c I) (Γ.set i (some (R c))) rest D) (hN : X.N.Nodup) (hi : X.N[i]? = some x := by rfl)
    (hx : L2.Loc X.env.scope x := by first | exact Or.inl rfl | exact Or.inr rfl) (hs : swapsWith e (some (.Name x pn)) pos.line X.env = pure false := by rfl) (hf : X.fn x = true ∨ X.env.scope.names.lookup x = some .local := by first | exact .inl rfl | exact .inr rfl) : B X M Γ (.Assign [.Name x pn] e pos :: rest) D :=
  .ps (ps_set hN hi hx pe_w hs hf) fun σ H l => (he σ H l).mono fun v H1 ⟨c, hc, l1, hv⟩ => h c (l.hw.fresh hc) (l.hw.frm0 hc) (fresh_bs l.hw hc) (fun q hq => (l.hw.ph q hq).1) _ H1 ((l1.shared hI).set hv)
end
structure PmF (α : Type) where
  pre : α → Prop := fun _ => True
  req : α → Ph := fun _ => []
  args : α → List Ty
  cn : α → Cn
  res : α → Addr → Ty
  nolk : Bool := false
def PmF.sp {α : Type} (p : PmF α) : Sp := fun vs H Q _ => ∃ (a : α) (ex : Ads) (lk : List Addr), p.pre a ∧ Hw (Mf ex (p.req a) lk H) H ∧ (p.nolk = true → lk = []) ∧ Paired (fun (T : Ty) v => T.P ex v H) (p.args a) vs ∧
  ∀ v H' c, H c = none → St (Mf (addE ex c) (p.req a) lk H) H H' → (∃ o, H' c = some o ∧ (p.cn a).P (addE ex c) H' o) → (p.res a c).P (addE ex c) v H' → Q v H'
def RetF (M0 : Mx) (cn : Cn) (R : Addr → Ty) (rt : VK) : Prop := ∀ M c v H, Le M0 M → Hw (M.add c cn) H → M.H0 c = none → (R c).P (M.add c cn).ex v H → rt v H
/-- a def by name that keeps the promise sp -/
structure OkS (P : Program) (w : World) (K : PySem.W.Frag) (mg : Str → Option Value) (base : Heap) (n : Nat) (x : Str) (ps : List Str) (sp : Sp) : Prop where
  ex : ∃ f fd, mg x = some (.ref f) ∧ PySem.W.keepIn K (.ref f) = true ∧ Binds K fd ps [] ∧ FnOk P w K mg base CX0 n f fd ps sp
theorem Le.addF {ex : Ads} {ph : Ph} {lk : List Addr} {H : Hp} {M : Mx} {c : Addr} {cn : Cn} (l : Le (Mf ex ph lk H) M) : Le (Mf (addE ex c) ph lk H) (M.add c cn) := ⟨l.H0, l.ph, l.pn, fun a h => h.elim (fun h => .inl (l.ex a h)) .inr, l.lk⟩
section
variable {P : Program} {w : World} {K : PySem.W.Frag} {mg : Str → Option Value} {base : Heap} {x : Str} {st : Stmt} {α : Type} {N ps : List Str} {k : Nat}
theorem OkS.ofF {p : PmF α} (d : Df K mg x st) (S : FnScope N ps (defScope st)) (hl : ∀ a, (p.args a).length = ps.length)
    (bn : ∀ (kV doc pm : Value) (an : Option Addr) (cdv ct : Value) (us : List Value), us.length = ps.length → bindArgs (PySem.W.fnOf x x (defArgs st) (defBody st) (defScope st) .none kV doc pm an cdv ct) ⟨us, []⟩ = pure (ps.zip us))
    (hb : ∀ (a : α) (f : Addr) (cdv : Value) (A : Around) (outer : List Env) (s : Shared) (H : Hp) (Ex : XK) (ex : Ads) (lk : List Addr) (D : Ends), p.pre a → (p.nolk = true → lk = []) → Room k (A.deeper (envOfC x (defScope st) s.heap.objs.size f cdv)) →
      RetF (Mf ex (p.req a) lk H) (p.cn a) (p.res a) D.rt → B (cxOf CX0 P w K mg base N x (defScope st) f cdv A outer s H Ex).nox (Mf ex (p.req a) lk H) (startG N (p.args a)) (defBody st) D) : OkS P w K mg base (k + 1) x ps p.sp := by
  obtain ⟨f, fd, e, F⟩ := d.ex
  refine ⟨f, fd, e, F.kp, F.bindsN bn, ?_⟩
  refine F.ok S (fun vs H Q Ex ⟨a, ex, lk, _, _, _, hp, _⟩ => by rw [← prd_len hp]; exact hl a) fun cdv A outer s H vs Q Ex hr ⟨a, ex, lk, hpre, hw, hlk, hp, hQ⟩ => ?_
  refine ⟨_, PSs.nox pb_w, ?_⟩
  refine hb a f cdv A outer s H Ex ex lk { nx := fun _ H' => Q .non H', rt := Q } hpre hlk hr (fun M c v H' l w' h0 h => ?_) (L2.start N vs) H ?_
  · have l' := l.addF (c := c) (cn := p.cn a)
    have h0 : H c = none := by
      have := l.H0
      rw [this] at h0
      exact h0
    obtain ⟨_, _, _, o, e1, e2⟩ := w'.own (c, p.cn a) List.mem_cons_self
    exact hQ v H' c h0 (w'.back l') ⟨o, e1, (p.cn a).fr (l'.kp H') e2⟩ ((p.res a c).fr (l'.kp H') h)
  · refine ⟨hw, ?_, ?_⟩
    · unfold startG L2.start
      rw [List.length_append, List.length_append, List.length_map, List.length_map, List.length_replicate, List.length_replicate, prd_len hp]
    · unfold startG L2.start
      rw [← prd_len hp]
      exact start_vr _ hp
end
section
variable {X : Cx} {M M0 : Mx} {Γ : Gm} {e : Expr} {es : List Expr} {rest : List Stmt} {D : Ends} {cn : Cn} {R : Addr → Ty} {pos pn : Pos} {x : Str} {ps : List Str} {n m : Nat} {α : Type} {p : PmF α}
/-- return e, e a new cell -/
theorem B.retF (hR : RetF M0 cn R D.rt) (hl : Le M0 M) (he : EG X M Γ e cn R) : B X M Γ (.Return (some e) pos :: rest) D := .ps (ps_ret pe_w) fun σ H l => (he σ H l).mono fun v H1 ⟨c, hc, l1, hv⟩ => hR M c v H1 hl l1.hw (l.hw.frm0 hc) hv
theorem E.okF (F : OkS X.prog X.w X.K X.mg X.base n x ps p.sp) (hr : Room m X.A) (a : α) (hp : p.pre a) (ha : A X M Γ (e :: es) (p.args a)) (hnm : n ≤ m := by decide) (hq : ∀ q ∈ p.req a, q ∈ M.ph := by intro q z; first | exact z | cases z) (hlk : p.nolk = true → M.lk = [] := by intro z; cases z)
    (hg : Gl X x := by rfl) (hdb : (x == ("__debug__" : Str)) = false := by decide) (he : starEach (e :: es) X.env = (false, eval e X.env) :: starEach es X.env := by rfl) (hpl : (backTo pos (starEach es X.env)).any (·.1) = false := by rfl) : EG X M Γ (.Call (.Name x pn) (e :: es) [] pos) (p.cn a) (p.res a) := fun σ H l => by
  obtain ⟨f, fd, e1, e2, e3, e4⟩ := F.ex
  exact wE.of (pe_call (e4.mono hnm) hr hg e1 e2 e3 .nil pass0 pa_w hdb he hpl) ((ha σ H l).mono fun vs H1 ⟨s1, h1⟩ => by
    have l1 := l.st s1
    rw [List.append_nil]
    exact ⟨a, M.ex, M.lk, hp, l1.hw.callee hq, hlk, h1, fun v H' c hc s ho hv => ⟨c, s1.none l.hw hc, loc_add l1 hq hc s ho, hv⟩⟩)
end
end HB


namespace HB
open PySem L2 PyProof.Rows PySem.Spec
abbrev FT (ex : Ads) (H : Hp) : (Str × Ty) → (Str × V) → Prop := fun p q => p.1 = q.1 ∧ p.2.P ex q.2 H
theorem FT.mono {ex ex' : Ads} {H H' : Hp} {fts : List (Str × Ty)} (k : Kp ex ex' H H') {fs : List (Str × V)} (h : Paired (FT ex H) fts fs) : Paired (FT ex' H') fts fs := Paired.mapP h fun T x q => ⟨q.1, T.2.fr k q.2⟩
theorem put_new {ex : Ads} {H : Hp} {f : Str} {v : V} {T : Ty} (hv : T.P ex v H) : ∀ {fts : List (Str × Ty)} {fs : List (Str × V)}, Paired (FT ex H) fts fs → f ∉ fts.map (·.1) → Paired (FT ex H) (fts ++ [(f, T)]) (putF f v fs)
  | _, _, .nil, _ => .cons ⟨rfl, hv⟩ .nil
  | (g, T') :: fts, (g', x) :: fs, .cons a b, n => by
    rw [List.map_cons, List.mem_cons, not_or] at n
    have e : g = g' := a.1
    subst e
    unfold putF
    rw [if_neg (fun z : g = f => n.1 z.symm)]
    exact .cons a (put_new hv b n.2)
section
variable {X : Cx} {M M0 : Mx} {Γ : Gm} {e o : Expr} {es : List Expr} {rest : List Stmt} {D : Ends} {cn : Cn} {T : Ty} {pos pos' pn : Pos} {f x : Str} {p C dx : Addr} {fts : List (Str × Ty)}
/-- o.f = e, o one's own -/
theorem B.fld (c : Cls X.K C) (n : NoAttr X.K C f) (ho : E X M Γ o (Ty.is (.ref p))) (hp : (p, cnI C dx fts) ∈ M.own) (he : E X M Γ e T) (h : B X { M with own := setO M.own p (cnI C dx (fts ++ [(f, T)])) } Γ rest D) (hf : f ∉ fts.map (·.1) := by decide) (hz : fts.length < 100 := by simp)
    (hs : swapsWith e (some (.Attribute o f pos')) pos.line X.env = pure false := by rfl) : B X M Γ (.Assign [.Attribute o f pos'] e pos :: rest) D :=
  .ps (ps_fld pe_w pe_w hs) fun σ H l => (he σ H l).mono fun v H1 ⟨s1, h1⟩ => (ho σ H1 (l.st s1)).mono fun u H2 ⟨s2, h2⟩ => by
    cases h2
    have l2 := (l.st s1).st s2
    have h1 := T.fr (s2.kp (l.st s1).hw) h1
    obtain ⟨ob, e1, fs, rfl, r⟩ := l2.own_at hp
    have ex := (l2.hw.own _ hp).1
    exact ⟨p, C, dx, fs, rfl, e1, c, n, by rw [← prd_len r]; omega, h σ _ (l2.own_set hp (fun _ _ z => by cases z) ⟨_, rfl, FT.mono (kp_upd ex) (put_new h1 r hf)⟩)⟩
/-- o.f = e, e a new cell of one's own -/
theorem B.fldN (c : Cls X.K C) (n : NoAttr X.K C f) (he : EF X M Γ e cn) (ho : ∀ q, E X (M.add q cn) Γ o (Ty.is (.ref p))) (hp : (p, cnI C dx fts) ∈ M.own) (h : ∀ q, q ≠ p → B X { M.add q cn with own := (q, cn) :: setO M.own p (cnI C dx (fts ++ [(f, Ty.is (.ref q))])) } Γ rest D) (hf : f ∉ fts.map (·.1) := by decide) (hz : fts.length < 100 := by simp)
    (hs : swapsWith e (some (.Attribute o f pos')) pos.line X.env = pure false := by rfl) : B X M Γ (.Assign [.Attribute o f pos'] e pos :: rest) D :=
  .ps (ps_fld pe_w pe_w hs) fun σ H l => (he σ H l).mono fun v H1 ⟨q, H2, ob, ev, s, hq, no, eH, hc⟩ => by
    subst ev
    have l1 := (EF.loc l s hq no eH hc).1
    have ne : q ≠ p := fun z => by
      obtain ⟨_, _, _, u, e, _⟩ := (l.st s).hw.own _ hp
      rw [z] at hq
      rw [hq] at e
      cases e
    refine (ho q σ H1 l1).mono fun u H3 ⟨s3, h3⟩ => ?_
    cases h3
    have l3 := l1.st s3
    have hp' : (p, cnI C dx fts) ∈ (M.add q cn).own := List.mem_cons_of_mem _ hp
    obtain ⟨ob, e1, fs, rfl, r⟩ := l3.own_at hp'
    have ex := (l3.hw.own _ hp').1
    have l4 := l3.own_set hp' (c' := cnI C dx (fts ++ [(f, Ty.is (.ref q))])) (o := .ins C dx (putF f (.ref q) fs)) (fun _ _ z => by cases z) ⟨_, rfl, FT.mono (kp_upd ex) (put_new rfl r hf)⟩
    have eo : setO (M.add q cn).own p (cnI C dx (fts ++ [(f, Ty.is (.ref q))])) = (q, cn) :: setO M.own p (cnI C dx (fts ++ [(f, Ty.is (.ref q))])) := by
      show setO ((q, cn) :: M.own) p _ = _
      rw [setO, if_neg ne]
    rw [eo] at l4
    exact ⟨p, C, dx, fs, rfl, e1, c, n, by rw [← prd_len r]; omega, h q ne σ _ l4⟩
/-- o.f, o one's own -/
theorem E.fldOwn (c : Cls X.K C) (n : NoAttr X.K C f) (ho : E X M Γ o (Ty.is (.ref p))) (hp : (p, cnI C dx fts) ∈ M.own) (hf : fts.lookup f = some T := by rfl) (hb : attributeBase o f X.env (eval o X.env) = eval o X.env := by rfl) : E X M Γ (.Attribute o f pos) T := fun σ H l =>
  wE.of (pe_fld pe_w hb) ((ho σ H l).mono fun v H1 ⟨s1, h1⟩ => by
    cases h1
    obtain ⟨ob, e1, fs, rfl, r⟩ := (l.st s1).own_at hp
    obtain ⟨v, e', h⟩ := prd_lookup r hf
    exact ⟨p, C, dx, fs, v, rfl, e1, c, n, e', s1, h⟩)
end
structure PmI (α : Type) where
  pre : α → Prop := fun _ => True
  req : α → Ph := fun _ => []
  args : α → List Ty
  fts : α → List (Str × Ty)
  nolk : Bool := false
def PmI.sp {α : Type} (p : PmI α) (C : Addr) : Sp := fun vs H Q _ => ∃ (a : α) (ex : Ads) (lk : List Addr) (H1 : Hp) (x dx : Addr) (ws : List V), vs = .ref x :: ws ∧ H1 x = none ∧ H1 dx = none ∧ dx ≠ x ∧ H = upd (upd H1 dx (.own x)) x (.ins C dx []) ∧ p.pre a ∧ Hw (Mf ex (p.req a) lk H1) H1 ∧
  (p.nolk = true → lk = []) ∧ Paired (fun (T : Ty) v => T.P ex v H1) (p.args a) ws ∧ ∀ H', St (Mf ex (p.req a) lk H1) H1 H' → (insT C (p.fts a)).P ex (.ref x) H' → Q .non H'
/-- .. with a new cell in a field -/
structure PmN (α : Type) where
  pre : α → Prop := fun _ => True
  req : α → Ph := fun _ => []
  args : α → List Ty
  cn : α → Cn
  fts : α → Addr → List (Str × Ty)
  nolk : Bool := false
def PmN.sp {α : Type} (p : PmN α) (C : Addr) : Sp := fun vs H Q _ => ∃ (a : α) (ex : Ads) (lk : List Addr) (H1 : Hp) (x dx : Addr) (ws : List V), vs = .ref x :: ws ∧ H1 x = none ∧ H1 dx = none ∧ dx ≠ x ∧ H = upd (upd H1 dx (.own x)) x (.ins C dx []) ∧ p.pre a ∧ Hw (Mf ex (p.req a) lk H1) H1 ∧
  (p.nolk = true → lk = []) ∧ Paired (fun (T : Ty) v => T.P ex v H1) (p.args a) ws ∧ ∀ H' c, H1 c = none → St (Mf (addE ex c) (p.req a) lk H1) H1 H' → (∃ o, H' c = some o ∧ (p.cn a).P (addE ex c) H' o) → (insT C (p.fts a c)).P (addE ex c) (.ref x) H' → Q .non H'
abbrev Mi (ex : Ads) (ph : Ph) (lk : List Addr) (H1 : Hp) (x : Addr) (cn : Cn) : Mx := ⟨addE ex x, ph, [(x, cn)], H1, [], lk⟩
theorem Hw.made {ex : Ads} {ph : Ph} {lk : List Addr} {H1 : Hp} {x dx C : Addr} (w : Hw (Mf ex ph lk H1) H1) (hx : H1 x = none) (hd : H1 dx = none) (ne : dx ≠ x) : Hw (Mi ex ph lk H1 x (cnI C dx [])) (upd (upd H1 dx (.own x)) x (.ins C dx [])) ∧ Kp ex (addE ex x) H1 (upd (upd H1 dx (.own x)) x (.ins C dx [])) := by
  have kp1 : ∀ a u, H1 a = some u → upd (upd H1 dx (.own x)) x (.ins C dx []) a = some u := fun a u e => by rw [upd_ne (ne_of_none e hx), upd_ne (ne_of_none e hd)]; exact e
  have k : Kp ex (addE ex x) H1 (upd (upd H1 dx (.own x)) x (.ins C dx [])) := .of fun a u e n => ⟨kp1 a u e, fun z => z.elim n (ne_of_none e hx)⟩
  refine ⟨⟨fun a z => ?_, w.fn, fun q hq => ?_, fun q hq => ?_, by simp, fun a u e n => kp1 a u e, fun b hb => (by cases hb), fun a o u e => ?_, w.nk⟩, k⟩
  · rcases z with z | z
    · obtain ⟨u, e, nn⟩ := w.exin a z
      exact ⟨u, kp1 a u e, nn⟩
    · rw [z]
      exact ⟨_, upd_same, fun _ z => by cases z⟩
  · obtain ⟨a, u, e, f⟩ := w.ph q hq
    exact ⟨.inl a, u, kp1 _ u e, q.2.fr k f⟩
  · (rw [List.mem_singleton.mp hq])
    refine ⟨.inr rfl, hx, fun r hr z => ?_, _, upd_same, [], rfl, .nil⟩
    obtain ⟨_, u, e, _⟩ := w.ph r hr
    rw [z] at e
    have e : H1 x = some u := e
    rw [hx] at e
    cases e
  · by_cases h : a = x
    · rw [h, upd_same] at e
      cases e
    · rw [upd_ne h] at e
      by_cases h2 : a = dx
      · rw [h2, upd_same] at e
        cases e
      · rw [upd_ne h2] at e
        exact e
/-- a class by name, its __init__ keeps the promise sp -/
structure OkM (P : Program) (w : World) (K : PySem.W.Frag) (mg : Str → Option Value) (base : Heap) (n : Nat) (C : Addr) (ps : List Str) (sp : Sp) : Prop where
  ex : ∃ f fd, Mk K C f ∧ Binds K fd ps [] ∧ FnOk P w K mg base CX0 n f fd ps sp
structure DfM (K : PySem.W.Frag) (C : Addr) (m qual : Str) (st : Stmt) : Prop where
  ex : ∃ f fd, Mk K C f ∧ FunD K m qual (defArgs st) (defBody st) (defScope st) [] [] f fd
section
variable {P : Program} {w : World} {K : PySem.W.Frag} {mg : Str → Option Value} {base : Heap} {qual : Str} {st : Stmt} {α : Type} {N ps : List Str} {k : Nat} {C : Addr}
theorem start_is {ex : Ads} {H : Hp} {x : Addr} {Ts : List Ty} {ws : List V} (h : Paired (fun (T : Ty) v => T.P ex v H) Ts ws) : Paired (fun (T : Ty) v => T.P ex v H) (Ty.is (.ref x) :: Ts) (V.ref x :: ws) := .cons rfl h
theorem OkM.of {p : PmI α} (d : DfM K C "__init__" qual st) (S : FnScope N ps (defScope st)) (hl : ∀ a, (p.args a).length + 1 = ps.length)
    (bn : ∀ (kV doc pm : Value) (an : Option Addr) (cdv ct : Value) (us : List Value), us.length = ps.length → bindArgs (PySem.W.fnOf "__init__" qual (defArgs st) (defBody st) (defScope st) .none kV doc pm an cdv ct) ⟨us, []⟩ = pure (ps.zip us))
    (hb : ∀ (a : α) (f : Addr) (cdv : Value) (A : Around) (outer : List Env) (s : Shared) (H H1 : Hp) (x dx : Addr) (Ex : XK) (ex : Ads) (lk : List Addr) (D : Ends), p.pre a → (p.nolk = true → lk = []) → Room k (A.deeper (envOfC qual (defScope st) s.heap.objs.size f cdv)) →
      (∀ M σ H', Le (Mf ex (p.req a) lk H1) M → (x, cnI C dx (p.fts a)) ∈ M.own → Hw M H' → D.nx σ H') → B (cxOf CX0 P w K mg base N qual (defScope st) f cdv A outer s H Ex).nox (Mi ex (p.req a) lk H1 x (cnI C dx [])) (startG N (Ty.is (.ref x) :: p.args a)) (defBody st) D) : OkM P w K mg base (k + 1) C ps (p.sp C) := by
  obtain ⟨f, fd, mk, F⟩ := d.ex
  refine ⟨f, fd, mk, F.bindsN bn, ?_⟩
  refine F.ok S (fun vs H Q Ex ⟨a, ex, lk, H1, x, dx, ws, ev, _, _, _, _, _, _, _, hp, _⟩ => by rw [ev, List.length_cons, ← prd_len hp]; exact hl a) fun cdv A outer s H vs Q Ex hr ⟨a, ex, lk, H1, x, dx, ws, ev, hx, hd, ne, eH, hpre, hw, hlk, hp, hQ⟩ => ?_
  subst ev
  subst eH
  obtain ⟨w1, k1⟩ := hw.made (C := C) hx hd ne
  refine ⟨_, PSs.nox pb_w, ?_⟩
  refine hb a f cdv A outer s _ H1 x dx Ex ex lk { nx := fun _ H' => Q .non H', rt := Q } hpre hlk hr (fun M σ H' l ho w' => ?_) (L2.start N (V.ref x :: ws)) _ ?_
  · obtain ⟨_, _, _, o, e1, fs, rfl, r⟩ := w'.own _ ho
    refine hQ H' (w'.back l) ⟨x, dx, fs, rfl, e1, fun z => ?_, FT.mono (l.kp H') r⟩
    obtain ⟨u, e, _⟩ := hw.exin x z
    have e : H1 x = some u := e
    rw [hx] at e
    cases e
  · have hp2 := start_is (x := x) (Paired.mapP hp fun T v q => T.fr k1 q)
    refine ⟨w1, ?_, ?_⟩
    · unfold startG L2.start
      rw [List.length_append, List.length_append, List.length_map, List.length_map, List.length_replicate, List.length_replicate, prd_len hp2]
    · unfold startG L2.start
      rw [← prd_len hp2]
      exact start_vr _ hp2
theorem OkM.ofN {p : PmN α} (d : DfM K C "__init__" qual st) (S : FnScope N ps (defScope st)) (hl : ∀ a, (p.args a).length + 1 = ps.length)
    (bn : ∀ (kV doc pm : Value) (an : Option Addr) (cdv ct : Value) (us : List Value), us.length = ps.length → bindArgs (PySem.W.fnOf "__init__" qual (defArgs st) (defBody st) (defScope st) .none kV doc pm an cdv ct) ⟨us, []⟩ = pure (ps.zip us))
    (hb : ∀ (a : α) (f : Addr) (cdv : Value) (A : Around) (outer : List Env) (s : Shared) (H H1 : Hp) (x dx : Addr) (Ex : XK) (ex : Ads) (lk : List Addr) (D : Ends), p.pre a → (p.nolk = true → lk = []) → Room k (A.deeper (envOfC qual (defScope st) s.heap.objs.size f cdv)) →
      (∀ M c σ H', Le (Mf (addE ex c) (p.req a) lk H1) M → c ≠ x → (c, p.cn a) ∈ M.own → (x, cnI C dx (p.fts a c)) ∈ M.own → Hw M H' → D.nx σ H') → B (cxOf CX0 P w K mg base N qual (defScope st) f cdv A outer s H Ex).nox (Mi ex (p.req a) lk H1 x (cnI C dx [])) (startG N (Ty.is (.ref x) :: p.args a)) (defBody st) D) : OkM P w K mg base (k + 1) C ps (p.sp C) := by
  obtain ⟨f, fd, mk, F⟩ := d.ex
  refine ⟨f, fd, mk, F.bindsN bn, ?_⟩
  refine F.ok S (fun vs H Q Ex ⟨a, ex, lk, H1, x, dx, ws, ev, _, _, _, _, _, _, _, hp, _⟩ => by rw [ev, List.length_cons, ← prd_len hp]; exact hl a) fun cdv A outer s H vs Q Ex hr ⟨a, ex, lk, H1, x, dx, ws, ev, hx, hd, ne, eH, hpre, hw, hlk, hp, hQ⟩ => ?_
  subst ev
  subst eH
  obtain ⟨w1, k1⟩ := hw.made (C := C) hx hd ne
  refine ⟨_, PSs.nox pb_w, ?_⟩
  refine hb a f cdv A outer s _ H1 x dx Ex ex lk { nx := fun _ H' => Q .non H', rt := Q } hpre hlk hr (fun M c σ H' l nc hc ho w' => ?_) (L2.start N (V.ref x :: ws)) _ ?_
  · obtain ⟨_, _, _, o, e1, fs, rfl, r⟩ := w'.own _ ho
    obtain ⟨_, c0, _, o2, e2, f2⟩ := w'.own _ hc
    have c0 : H1 c = none := by
      have := l.H0
      rw [this] at c0
      exact c0
    refine hQ H' c c0 (w'.back l) ⟨o2, e2, (p.cn a).fr (l.kp H') f2⟩ ⟨x, dx, fs, rfl, e1, fun z => ?_, FT.mono (l.kp H') r⟩
    rcases z with z | z
    · obtain ⟨u, e, _⟩ := hw.exin x z
      have e : H1 x = some u := e
      rw [hx] at e
      cases e
    · exact nc z.symm
  · have hp2 := start_is (x := x) (Paired.mapP hp fun T v q => T.fr k1 q)
    refine ⟨w1, ?_, ?_⟩
    · unfold startG L2.start
      rw [List.length_append, List.length_append, List.length_map, List.length_map, List.length_replicate, List.length_replicate, prd_len hp2]
    · unfold startG L2.start
      rw [← prd_len hp2]
      exact start_vr _ hp2
end
section
variable {X : Cx} {M : Mx} {Γ : Gm} {e : Expr} {es : List Expr} {pos pn : Pos} {x : Str} {ps : List Str} {n m : Nat} {α : Type} {C : Addr}
/-- C(e, ..) -/
theorem E.mk {p : PmI α} (F : OkM X.prog X.w X.K X.mg X.base n C ps (p.sp C)) (hm : X.mg x = some (.ref C)) (hr : Room m X.A) (a : α) (hp : p.pre a) (ha : A X M Γ (e :: es) (p.args a)) (hnm : n + 1 ≤ m := by decide) (hq : ∀ q ∈ p.req a, q ∈ M.ph := by intro q z; first | exact z | cases z) (hlk : p.nolk = true → M.lk = [] := by intro z; cases z)
    (hg : Gl X x := by rfl) (hdb : (x == ("__debug__" : Str)) = false := by decide) (he : starEach (e :: es) X.env = (false, eval e X.env) :: starEach es X.env := by rfl) (hpl : (backTo pos (starEach es X.env)).any (·.1) = false := by rfl) : E X M Γ (.Call (.Name x pn) (e :: es) [] pos) (insT C (p.fts a)) := fun σ H l => by
  obtain ⟨f, fd, e1, e2, e3⟩ := F.ex
  exact wE.of (pe_make e1 e3 (hr.mono hnm) hg hm e2 .nil pass0 pa_w hdb he hpl) ((ha σ H l).mono fun vs H1 ⟨s1, h1⟩ x dx hx hd ne => by
    have l1 := l.st s1
    rw [List.append_nil]
    exact ⟨a, M.ex, M.lk, H1, x, dx, vs, rfl, hx, hd, ne, rfl, hp, l1.hw.callee hq, hlk, h1, fun H' s h => ⟨rfl, s1.trans (s.caller l1.hw hq), h⟩⟩)
theorem EG.mk {p : PmN α} (F : OkM X.prog X.w X.K X.mg X.base n C ps (p.sp C)) (hm : X.mg x = some (.ref C)) (hr : Room m X.A) (a : α) (hp : p.pre a) (ha : A X M Γ (e :: es) (p.args a)) (hnm : n + 1 ≤ m := by decide) (hq : ∀ q ∈ p.req a, q ∈ M.ph := by intro q z; first | exact z | cases z) (hlk : p.nolk = true → M.lk = [] := by intro z; cases z)
    (hg : Gl X x := by rfl) (hdb : (x == ("__debug__" : Str)) = false := by decide) (he : starEach (e :: es) X.env = (false, eval e X.env) :: starEach es X.env := by rfl) (hpl : (backTo pos (starEach es X.env)).any (·.1) = false := by rfl) : EG X M Γ (.Call (.Name x pn) (e :: es) [] pos) (p.cn a) (fun c => insT C (p.fts a c)) := fun σ H l => by
  obtain ⟨f, fd, e1, e2, e3⟩ := F.ex
  exact wE.of (pe_make e1 e3 (hr.mono hnm) hg hm e2 .nil pass0 pa_w hdb he hpl) ((ha σ H l).mono fun vs H1 ⟨s1, h1⟩ x dx hx hd ne => by
    have l1 := l.st s1
    rw [List.append_nil]
    exact ⟨a, M.ex, M.lk, H1, x, dx, vs, rfl, hx, hd, ne, rfl, hp, l1.hw.callee hq, hlk, h1, fun H' c hc s ho h => ⟨rfl, c, s1.none l.hw hc, loc_add l1 hq hc s ho, h⟩⟩)
end
end HB


namespace HB
open PySem L2 PyProof.Rows PySem.Spec
section
variable {X : Cx} {M : Mx} {Γ : Gm} {kx vx iter e : Expr} {scope : Scope} {pos tp : Pos} {xs : List Str} {x : Str} {T : Ty}
theorem kxb {elt : Expr} : ∀ (s : Shared) (H : Hp) (A : Addr) (cl : List (Str × Addr)) (fp : List Addr), PE (X.blk s H scope (compEnvC scope cl A X.env) fp) elt (wEb X scope elt) := pe_wb
/-- {k: v for x in xs}, xs different texts -/
theorem E.dcM (Tv : Str → Ty) (j : Nat) (hw : W X M Γ true (.Name x tp) iter (· = (xs.map PyData.str).map D)) (own : List (Str × Nat))
    (hk : ∀ a ∈ xs, ∀ p acc, Eb X scope (M.add p (cnK acc)) ((wipeG Γ (own.map (·.2))).set j (some (S_ a))) kx (S_ a)) (he : ∀ a ∈ xs, ∀ p acc, Eb X scope (M.add p (cnK acc)) ((wipeG Γ (own.map (·.2))).set j (some (S_ a))) vx (Tv a)) (nd : xs.Nodup)
    (hz : xs.length ≤ 1000) (ok : BlkOk X.N X.env.scope scope own) (hN : X.N.Nodup) (hi : X.N[j]? = some x := by rfl) (hj : j ∈ own.map (·.2) := by decide) (hl : ∀ (A : Addr) (cl : List (Str × Addr)), (compEnvC scope cl A X.env).scope.names.lookup x = some .local := by intro _ _; rfl) (hc : X.calm = true := by rfl) (hs : ∀ x, foldedSetIterable iter X.env x = pure x := by intro _; rfl) :
    E X M Γ (.DictComp kx vx [⟨.Name x tp, iter, [], 0⟩] scope pos) (dictT (xs.map fun a => (.inr a, Tv a))) := fun σ H l => by
  obtain ⟨wi, pw, kw⟩ := hw
  let g := gName j
  let vs := own.map (·.2)
  let kt : Str → Key × Ty := fun a => (.inr a, Tv a)
  refine wE.of (pe_dc hc hN pw ok (fun s H A cl fp => pg_name hN hi (.inl (hl A cl)) (.inr (hl A cl))) (fun _ _ _ _ _ => pts_nil) pe_wb pe_wb hs) (kw σ H l _ fun J H1 Ts s1 hS src D hD => ?_)
  subst hS
  have w1 := l.hw.st s1
  have nexD : ¬ M.ex D := w1.fresh hD
  have lenT : ((xs.map PyData.str).map HB.D).length = xs.length := by rw [List.length_map, List.length_map]
  refine ⟨fun i m H' => m = xs.length - i ∧ i ≤ xs.length ∧ Loc (M.add D (cnK ((xs.take i).map kt))) (wipeG Γ vs) (wipe σ vs) H' ∧ Nx M.ex (M.add D (cnK ((xs.take i).map kt))).ex H1 H' ∧ St M H1 H', ⟨_, rfl, Nat.zero_le _, ?_, ?_, ?_⟩, ?_⟩
  · exact ((l.st s1).wipe vs).own_new hD (fun _ _ z => by cases z) ⟨[], rfl, .nil⟩
  · intro a o e n
    have ne := ne_of_none e hD
    exact ⟨by rw [upd_ne ne]; exact e, fun z => z.elim n ne⟩
  · exact (w1.new (o := .dK []) hD).1
  · rintro i m H' ⟨rfl, hi, loc, nx, sH⟩
    by_cases hlt : i < xs.length
    · have atX : xs[i]? = some xs[i] := List.getElem?_eq_getElem hlt
      have hT : ((xs.map PyData.str).map HB.D)[i]? = some (S_ xs[i]) := by rw [List.getElem?_map, List.getElem?_map, atX]; rfl
      have kow : true = true → ∀ q ∈ M.own, ∀ o, H1 q.1 = some o → H' q.1 = some o := fun _ q hq o e => sH.keep _ o e (w1.own q hq).2.2.1
      obtain ⟨go, yl⟩ := src.item i _ hT H' _ nx kow loc.hw.exin
      have ma : xs[i] ∈ xs := List.getElem_mem hlt
      refine .inr ⟨go, fun H'' => Loc (M.add D (cnK ((xs.take (i + 1)).map kt))) (wipeG Γ vs) (wipe σ vs) H'' ∧ Nx M.ex (M.add D (cnK ((xs.take (i + 1)).map kt))).ex H1 H'' ∧ St M H1 H'', fun H'' ⟨a3, a4, a5⟩ => ⟨xs.length - (i + 1), by omega, rfl, hlt, a3, a4, a5⟩, fun y H2 hy => ?_⟩
      obtain ⟨k2, nf2, hyv⟩ := yl y H2 hy
      have st2 : St (M.add D (cnK ((xs.take i).map kt))) H' H2 := ⟨fun a o e _ => k2 a o e, fun p hp => by
        obtain ⟨_, o, e, f⟩ := loc.hw.ph p hp
        exact ⟨o, k2 _ o e, p.2.fr (.of fun a o e n => ⟨k2 a o e, n⟩) f⟩, nf2⟩
      have loc2 := loc.st st2
      refine Tg.name hj (M.add D (cnK ((xs.take i).map kt))) _ H2 y _ loc2 hyv fun σ' loc3 hwp => ⟨by rw [hwp]; exact wipe_wipe σ vs, ?_⟩
      unfold tYes
      dsimp only
      rw [if_pos rfl]
      intro s' H0' A' cl' fp'
      refine (hk _ ma D _ s' H0' A' cl' fp' σ' H2 loc3).mono fun ky H4 ⟨s4, hky⟩ => ?_
      cases hky
      intro s'' H0'' A'' cl'' fp''
      refine (he _ ma D _ s'' H0'' A'' cl'' fp'' σ' H4 (loc3.st s4)).mono fun z H5 ⟨s5, hz5⟩ => ?_
      have loc5 := (loc2.st s4).st s5
      obtain ⟨o, e, kvs, rfl, r⟩ := loc5.own_at (p := D) (c := cnK ((xs.take i).map kt)) List.mem_cons_self
      have up := kp_upd (M := M.add D (cnK ((xs.take i).map kt))) (H := H5) (v' := D) (show M.ex D ∨ D = D from .inr rfl) (o := .dK (kvs ++ [(.inr xs[i], z)]))
      have keys : (.inr xs[i] : Key) ∉ kvs.map (·.1) := by
        rw [kts_keys r, List.map_map]
        intro z
        obtain ⟨b, hb, e2⟩ := List.mem_map.mp z
        have e2 : b = xs[i] := Sum.inr.inj e2
        subst e2
        obtain ⟨n, hn, e3⟩ := List.getElem_of_mem hb
        rw [List.getElem_take] at e3
        rw [List.length_take] at hn
        have := (List.getElem_inj (h₀ := by omega) (h₁ := hlt) nd).mp e3
        omega
      refine ⟨kvs, .inr xs[i], rfl, e, ?_, ?_⟩
      · have := prd_len r
        rw [List.length_map, List.length_take] at this
        exact Nat.lt_of_lt_of_le (show kvs.length < 2000 by omega) (by decide)
      · rw [putK_new keys]
        have s45 : St (M.add D (cnK ((xs.take i).map kt))) H' H5 := (st2.trans s4).trans s5
        have loc6 := loc5.own_set (p := D) (c := cnK ((xs.take i).map kt)) (c' := cnK ((xs.take (i + 1)).map kt)) (o := .dK (kvs ++ [(.inr xs[i], z)])) List.mem_cons_self (fun _ _ z => by cases z) ⟨_, rfl, by
          rw [take_snoc atX, List.map_append]
          exact prd_app (KT.mono up r) (.cons ⟨rfl, (Tv _).fr up hz5⟩ .nil)⟩
        have eo : setO (M.add D (cnK ((xs.take i).map kt))).own D (cnK ((xs.take (i + 1)).map kt)) = (M.add D (cnK ((xs.take (i + 1)).map kt))).own := setO_head
        rw [eo] at loc6
        refine ⟨loc6, fun a o e n => ?_, fun a o e n => ?_, fun p hp => ?_, fun a o u e => ?_⟩
        · obtain ⟨e', n'⟩ := nx a o e n
          have ne : a ≠ D := fun z => n' (.inr z)
          exact ⟨by rw [upd_ne ne]; exact (s45.nx loc.hw a o e' n').1, n'⟩
        · rw [upd_ne (ne_of_none e hD)]
          exact s45.keep a o (sH.keep a o e n) n
        · obtain ⟨o, e, f⟩ := s45.ph p hp
          refine ⟨o, ?_, p.2.fr (up.trans kp_drop) f⟩
          rw [upd_ne (fun z : p.1 = D => nexD (by rw [← z]; exact (l.hw.ph p hp).1))]
          exact e
        · exact sH.nf a o u (s45.nf a o u (nf_upd (fun _ _ z => by cases z) e))
    · have hn : i = xs.length := by omega
      subst hn
      refine .inl ⟨?_, ?_⟩
      · have := src.done H' _ nx fun _ q hq o e => sH.keep _ o e (w1.own q hq).2.2.1
        rw [lenT] at this
        exact this
      · obtain ⟨o, e, kvs, rfl, r⟩ := loc.own_at (p := D) (c := cnK ((xs.take xs.length).map kt)) List.mem_cons_self
        rw [List.take_length] at r
        exact ⟨s1.trans sH, D, kvs, rfl, .inl e, nexD, KT.mono kp_drop r⟩
end
def Mx.lock (M : Mx) (d : Addr) (od : Obj) (u : HO) : Mx := { M with H0 := upd M.H0 d (.frz od u), lk := [d], bs := [] }
/-- T, and the address is d -/
def Ty.at_ (d : Addr) (T : Ty) : Ty := ⟨fun ex v H => v = .ref d ∧ T.P ex v H, fun k ⟨e, h⟩ => ⟨e, T.fr k h⟩⟩
theorem kp_lock {ex : Ads} {H : Hp} {d : Addr} {od : Obj} {u : HO} (h : H d = some u) (su : HB.soft u = true) : Kp ex ex H (upd H d (.frz od u)) := by
  refine ⟨fun a u' e n s f => ⟨?_, n⟩, fun a u' s r n => ⟨?_, n⟩, fun a o xs e n => ⟨by rw [upd_ne (fun z : a = d => by rw [z, h] at e; cases e; cases su)]; exact e, n⟩⟩
  · rw [upd_ne (fun z : a = d => by rw [z, h] at e; cases e; rw [su] at s; cases s)]
    exact e
  · by_cases z : a = d
    · subst z
      rcases r with r | ⟨o, r⟩
      · rw [h] at r
        cases r
        exact .inr ⟨od, upd_same⟩
      · rw [h] at r
        cases r
        cases su
    · rcases r with r | ⟨o, r⟩
      · exact .inl (by rw [upd_ne z]; exact r)
      · exact .inr ⟨o, by rw [upd_ne z]; exact r⟩
theorem kp_unlock {ex : Ads} {H : Hp} {d : Addr} {od : Obj} {u : HO} (h : H d = some (.frz od u)) (su : HB.soft u = true) : Kp ex ex H (upd H d u) := by
  refine ⟨fun a u' e n s f => ⟨?_, n⟩, fun a u' s r n => ⟨?_, n⟩, fun a o xs e n => ⟨by rw [upd_ne (fun z : a = d => by rw [z, h] at e; cases e; cases su)]; exact e, n⟩⟩
  · rw [upd_ne (fun z : a = d => by rw [z, h] at e; cases e; exact f _ _ rfl)]
    exact e
  · by_cases z : a = d
    · subst z
      rcases r with r | ⟨o, r⟩
      · rw [h] at r
        cases r
        cases s
      · rw [h] at r
        cases r
        exact .inl upd_same
    · rcases r with r | ⟨o, r⟩
      · exact .inl (by rw [upd_ne z]; exact r)
      · exact .inr ⟨o, by rw [upd_ne z]; exact r⟩
theorem nofrz_soft {u : HO} (s : HB.soft u = true) : NoF u := fun o w z => by rw [z] at s; cases s
section
variable {M : Mx} {Γ : Gm} {σ : L2.St} {H H' : Hp} {d : Addr} {od : Obj} {u : HO}
theorem Hw.locked (w : Hw M H) (h : H d = some u) (su : HB.soft u = true) (n : ¬ M.ex d) (hl : M.lk = []) : Hw (M.lock d od u) (upd H d (.frz od u)) := by
  have ne : ∀ a, M.ex a → a ≠ d := fun a e z => n (z ▸ e)
  have k : Kp M.ex M.ex H (upd H d (.frz od u)) := kp_lock h su
  refine ⟨fun a z => ?_, w.fn, fun q hq => ?_, fun q hq => ?_, w.nd, fun a o e m => ?_, fun b hb => (by cases hb), fun a o v e => ?_, fun a o v e s => ?_⟩
  · obtain ⟨o, e, nn⟩ := w.exin a z
    exact ⟨o, by rw [upd_ne (ne a z)]; exact e, nn⟩
  · obtain ⟨a, o, e, f⟩ := w.ph q hq
    exact ⟨a, o, by rw [upd_ne (ne _ a)]; exact e, q.2.fr k f⟩
  · obtain ⟨a, b, c, o, e, f⟩ := w.own q hq
    exact ⟨a, by show upd M.H0 d _ q.1 = none; rw [upd_ne (ne _ a)]; exact b, c, o, by rw [upd_ne (ne _ a)]; exact e, q.2.fr k f⟩
  · have e : upd M.H0 d (.frz od u) a = some o := e
    by_cases z : a = d
    · subst z
      rw [upd_same] at e ⊢
      exact e
    · rw [upd_ne z] at e ⊢
      exact w.frm a o e m
  · show upd M.H0 d (.frz od u) a = _
    by_cases z : a = d
    · subst z
      rw [upd_same] at e ⊢
      exact e
    · rw [upd_ne z] at e ⊢
      exact w.nf a o v e
  · have e : upd M.H0 d (.frz od u) a = some (.frz o v) := e
    by_cases z : a = d
    · exact z ▸ List.mem_cons_self
    · rw [upd_ne z] at e
      have := w.nk a o v e s
      rw [hl] at this
      cases this
theorem St.unlocked (w : Hw M H) (h : H d = some u) (su : HB.soft u = true) (n : ¬ M.ex d) (s : St (M.lock d od u) (upd H d (.frz od u)) H') : H' d = some (.frz od u) ∧ St M H (upd H' d u) := by
  have nph : ∀ q ∈ M.ph, q.1 ≠ d := fun q hq z => n (z ▸ (w.ph q hq).1)
  have hd : H' d = some (.frz od u) := s.keep d _ upd_same nph
  refine ⟨hd, fun a o e m => ?_, fun q hq => ?_, fun a o v e => ?_⟩
  · by_cases z : a = d
    · subst z
      rw [h] at e
      rw [upd_same]
      exact e
    · rw [upd_ne z]
      exact s.keep a o (by rw [upd_ne z]; exact e) m
  · obtain ⟨o, e, f⟩ := s.ph q hq
    exact ⟨o, by rw [upd_ne (nph q hq)]; exact e, q.2.fr (kp_unlock hd su) f⟩
  · by_cases z : a = d
    · subst z
      rw [upd_same] at e
      cases e
      cases su
    · rw [upd_ne z] at e
      have := s.nf a o v e
      rwa [upd_ne z] at this
/-- the slot that holds the locked thing -/
theorem slot_at {i : Nat} {T0 : Ty} (l : Loc M Γ σ H) (hi : Γ[i]? = some (some T0)) (e : σ[i]? = some (some (.ref d))) (h : T0.P M.ex (.ref d) H) : Loc M (Γ.set i (some (Ty.at_ d T0))) σ H := by
  have q := l.set (i := i) (T := Ty.at_ d T0) (v := .ref d) ⟨rfl, h⟩
  have es : σ.set i (some (.ref d)) = σ := by
    apply List.ext_getElem?
    intro j
    by_cases hj : i = j
    · subst hj
      obtain ⟨hl, _⟩ := List.getElem?_eq_some_iff.mp e
      rw [List.getElem?_set_self hl, e]
    · rw [List.getElem?_set_ne hj]
  rwa [es] at q
end
section
variable {X : Cx} {M : Mx} {Γ Γ2 : Gm} {e : Expr} {st : Stmt} {rest : List Stmt} {D : Ends} {T T0 : Ty} {R : HO → Prop}
theorem mut_soft {u : HO} (s : HB.soft u = true) : Mut (some u) := by cases u <;> first | exact trivial | cases s
theorem E.lock (i : Nat) (hi : Γ[i]? = some (some T0)) (hT : ∀ ex v H, T0.P ex v H → ∃ d u, v = .ref d ∧ Rd H d u ∧ HB.soft u = true ∧ ¬ ex d ∧ R u) (hlk : M.lk = []) (h : ∀ d od u, R u → ¬ M.ex d → E X (M.lock d od u) (Γ.set i (some (Ty.at_ d T0))) e T) : E X M Γ e T := fun σ H l => by
  obtain ⟨v, ev, hv⟩ := l.var i T0 hi
  obtain ⟨d, u, rfl, rd, su, nd, ru⟩ := hT _ _ _ hv
  have hd := l.hw.exact hlk su rd
  refine wE.of (pe_lock pe_w) ⟨d, u, hd, mut_soft su, fun od => ?_⟩
  have k : Kp M.ex M.ex H (upd H d (.frz od u)) := kp_lock hd su
  have l1 : Loc (M.lock d od u) Γ σ (upd H d (.frz od u)) := ⟨l.hw.locked hd su nd hlk, l.len, fun i T e => let ⟨v, e', f⟩ := l.var i T e; ⟨v, e', T.fr k f⟩⟩
  refine (h d od u ru nd σ _ (slot_at l1 hi ev (T0.fr k hv))).mono fun z H' ⟨s, hz⟩ => ?_
  obtain ⟨h1, h2⟩ := St.unlocked l.hw hd su nd s
  exact ⟨h1, h2, T.fr (kp_unlock h1 su) hz⟩
theorem wB.mono {X : Cx} {ss : List Stmt} {σ : L2.St} {H : Hp} {D D' : Ends} (h : wB X ss D σ H) (k1 : ∀ σ H, D.nx σ H → D'.nx σ H) (k2 : ∀ v H, D.rt v H → D'.rt v H) (k3 : ∀ σ H, D.bk σ H → D'.bk σ H) (k4 : ∀ σ H, D.ct σ H → D'.ct σ H) : wB X ss D' σ H := fun pins s I => thn (h pins s I) fun f s' q => by
  cases f with
  | next => obtain ⟨σ', H', I', q⟩ := q; exact ⟨σ', H', I', k1 _ _ q⟩
  | brk => obtain ⟨σ', H', I', q⟩ := q; exact ⟨σ', H', I', k3 _ _ q⟩
  | cont => obtain ⟨σ', H', I', q⟩ := q; exact ⟨σ', H', I', k4 _ _ q⟩
  | ret v => obtain ⟨x, σ', H', I', r, q⟩ := q; exact ⟨x, σ', H', I', r, k2 _ _ q⟩
/-- behind a lock -/
theorem loc_unlock {Γ' : Gm} {σ' : L2.St} {H H' : Hp} {d : Addr} {od : Obj} {u : HO} (w : Hw M H) (h : H d = some u) (su : HB.soft u = true) (n : ¬ M.ex d) (hbs : M.bs = []) (l : Loc (M.lock d od u) Γ' σ' H') : H' d = some (.frz od u) ∧ Loc M Γ' σ' (upd H' d u) := by
  have w' := l.hw
  have nph : ∀ q ∈ M.ph, q.1 ≠ d := fun q hq z => n (z ▸ (w.ph q hq).1)
  have hd : H' d = some (.frz od u) := w'.frm d _ upd_same nph
  have k : Kp M.ex M.ex H' (upd H' d u) := kp_unlock hd su
  have ne : ∀ a, M.ex a → a ≠ d := fun a e z => n (z ▸ e)
  refine ⟨hd, ⟨fun a z => ?_, w'.fn, fun q hq => ?_, fun q hq => ?_, w'.nd, fun a o e m => ?_, fun b hb => ?_, fun a o v e => ?_, w.nk⟩, l.len, fun i T e => let ⟨v, e', f⟩ := l.var i T e; ⟨v, e', T.fr k f⟩⟩
  · obtain ⟨o, e, nn⟩ := w'.exin a z
    exact ⟨o, by rw [upd_ne (ne a z)]; exact e, nn⟩
  · obtain ⟨a, o, e, f⟩ := w'.ph q hq
    exact ⟨a, o, by rw [upd_ne (ne _ a)]; exact e, q.2.fr k f⟩
  · obtain ⟨a, b, c, o, e, f⟩ := w'.own q hq
    have b : upd M.H0 d (.frz od u) q.1 = none := b
    rw [upd_ne (ne _ a)] at b
    exact ⟨a, b, c, o, by rw [upd_ne (ne _ a)]; exact e, q.2.fr k f⟩
  · by_cases z : a = d
    · subst z
      have := w.frm a o e m
      rw [h] at this
      rw [upd_same]
      exact this
    · rw [upd_ne z]
      refine w'.frm a o ?_ m
      show upd M.H0 d _ a = _
      rw [upd_ne z]
      exact e
  · rw [hbs] at hb
    cases hb
  · by_cases z : a = d
    · subst z
      rw [upd_same] at e
      cases e
      cases su
    · rw [upd_ne z] at e
      have := w'.nf a o v e
      have this : upd M.H0 d (.frz od u) a = _ := this
      rwa [upd_ne z] at this
end
section
variable {X : Cx} {M : Mx} {Γ : Gm} {e : Expr} {body rest : List Stmt} {D : Ends} {x : Str} {px pos apos cpos : Pos} {ps : Py}
theorem pay_lk {ex : Ads} {v : V} {H : Hp} (h : (payT ps).P ex v H) : ∃ d u, v = .ref d ∧ Rd H d u ∧ HB.soft u = true ∧ ¬ ex d ∧ u = .dK (ps.map fun q => ((.inr q.1, .int q.2) : Key × V)) := by
  obtain ⟨d, kvs, rfl, rd, n, r⟩ := h
  obtain rfl := pyk_vals r
  exact ⟨d, _, rfl, rd, rfl, n, rfl⟩
/-- for x in d.values(), d from texts to numbers -/
theorem B.forVals {α : Type} (i j : Nat) (Γf : α → Gm) (Iv : Nat → α → Prop) (hi : Γ[i]? = some (some (payT ps))) (hlk : M.lk = []) (hbs : M.bs = []) (he : ∀ d od u, E X (M.lock d od u) (Γ.set i (some (Ty.at_ d (payT ps)))) e (Ty.at_ d (payT ps)))
    (h0 : ∃ a, Iv 0 a ∧ ∀ {M' : Mx} σ H, Loc M' Γ σ H → Loc M' (Γf a) σ H)
    (turn : ∀ n q a, ps[n]? = some q → Iv n a → ∀ d od u, B X (M.lock d od u) ((Γf a).set j (some (I q.2))) body { D with nx := fun σ' H' => ∃ a', Iv (n + 1) a' ∧ Loc (M.lock d od u) (Γf a') σ' H', ct := fun σ' H' => ∃ a', Iv (n + 1) a' ∧ Loc (M.lock d od u) (Γf a') σ' H', bk := fun _ _ => False, rt := fun _ _ => False })
    (hd : ∀ a, Iv ps.length a → B X M (Γf a) rest D) (hN : X.N.Nodup) (hj : X.N[j]? = some x := by rfl) (hx : L2.Loc X.env.scope x := by first | exact Or.inl rfl | exact Or.inr rfl) (hf : X.fn x = true ∨ X.env.scope.names.lookup x = some .local := by first | exact .inl rfl | exact .inr rfl)
    (hp : PassesOwn (model X.prog X.w) X.A X.env X.xe := by exact PassesOwn.never) (hc : X.calm = true := by rfl) (hs : ∀ y, foldedSetIterable (.Call (.Attribute e "values" apos) [] [] cpos) X.env y = pure y := by intro _; rfl)
    (hbase : attributeBase e "values" X.env (eval e X.env) = eval e X.env := by rfl) (hline : (apos.endLine == cpos.line) = true := by rfl) : B X M Γ (.For (.Name x px) (.Call (.Attribute e "values" apos) [] [] cpos) body [] pos :: rest) D :=
  .ps (ps_lock (ps_for hp hc (pi_values pe_w hbase hline) (pg_name hN hj hx hf) pb_w hs)) fun σ H l => by
    obtain ⟨v, ev, hv⟩ := l.var i _ hi
    obtain ⟨d, u, rfl, rd, su, nd, ru⟩ := pay_lk hv
    have hdu := l.hw.exact hlk su rd
    refine ⟨d, u, hdu, mut_soft su, fun od => ?_⟩
    have k : Kp M.ex M.ex H (upd H d (.frz od u)) := kp_lock hdu su
    have l1 : Loc (M.lock d od u) Γ σ (upd H d (.frz od u)) := ⟨l.hw.locked hdu su nd hlk, l.len, fun i T e => let ⟨v, e', f⟩ := l.var i T e; ⟨v, e', T.fr k f⟩⟩
    have l2 := slot_at l1 hi ev ((payT ps).fr k hv)
    have nph : ∀ q ∈ M.ph, q.1 ≠ d := fun q hq z => nd (z ▸ (l.hw.ph q hq).1)
    refine (he d od u σ _ l2).mono fun y H1 ⟨s1, ey, hy⟩ => ?_
    have fz : ∀ {Γ' : Gm} {σ' : L2.St} {H' : Hp}, Loc (M.lock d od u) Γ' σ' H' → H' d = some (.frz od u) := fun l' => l'.hw.frm d _ upd_same nph
    obtain ⟨a0, iv0, k0⟩ := h0
    have l1' := l1.st s1
    refine ⟨d, od, ps.map fun q => ((.inr q.1, .int q.2) : Key × V), ey, by rw [← ru]; exact fz l1', ?_⟩
    refine ⟨fun n m σ' H' => ∃ a, m = ps.length - n ∧ n ≤ ps.length ∧ Iv n a ∧ Loc (M.lock d od u) (Γf a) σ' H', ⟨_, a0, rfl, Nat.zero_le _, iv0, k0 _ _ l1'⟩, ?_⟩
    rintro n m σ' H' ⟨a, rfl, hn, iv, loc⟩
    by_cases hlt : n < ps.length
    · refine .inr ⟨⟨by rw [← ru]; exact fz loc, by rw [List.length_map]; exact hlt⟩, fun σ' H' => ∃ a', Iv (n + 1) a' ∧ Loc (M.lock d od u) (Γf a') σ' H', fun σ2 H2 ⟨a', iv', l'⟩ => ⟨ps.length - (n + 1), by omega, a', rfl, hlt, iv', l'⟩, fun z H2 ⟨hH, k', hz⟩ => ?_⟩
      subst hH
      have hq : ps[n]? = some ps[n] := List.getElem?_eq_getElem hlt
      rw [List.getElem?_map, hq] at hz
      cases hz
      exact (turn n _ a hq iv d od u _ _ (loc.set (.int _))).mono (fun _ _ h => h) (fun _ _ h => h.elim) (fun _ _ h => h.elim) fun _ _ h => h
    · have e : n = ps.length := by omega
      subst e
      obtain ⟨h1, h2⟩ := loc_unlock l.hw hdu su nd hbs loc
      exact .inl ⟨⟨by rw [← ru]; exact fz loc, by rw [List.length_map]; exact Nat.le_refl _⟩, h1, hd a iv _ _ h2⟩
end
end HB


namespace HB
open PySem L2 PyProof.Rows PySem.Spec
section
variable {X : Cx} {M M0 : Mx} {Γ : Gm} {e o : Expr} {es : List Expr} {rest : List Stmt} {D : Ends} {cn : Cn} {T : Ty} {pos pos' pn : Pos} {f x : Str} {p C dx : Addr} {fts : List (Str × Ty)}
/-- o.f = e, o the only thing of one's own -/
theorem B.fld1 (c : Cls X.K C) (n : NoAttr X.K C f) (ho : E X M Γ o (Ty.is (.ref p))) (he : E X M Γ e T) (h : B X { M with own := [(p, cnI C dx (fts ++ [(f, T)]))] } Γ rest D) (hown : M.own = [(p, cnI C dx fts)] := by rfl) (hf : f ∉ fts.map (·.1) := by decide) (hz : fts.length < 100 := by simp)
    (hs : swapsWith e (some (.Attribute o f pos')) pos.line X.env = pure false := by rfl) : B X M Γ (.Assign [.Attribute o f pos'] e pos :: rest) D := by
  refine B.fld (p := p) (C := C) (dx := dx) (fts := fts) c n ho (by rw [hown]; exact List.mem_cons_self) he ?_ hf hz hs
  rw [hown, setO_one]
  exact h
theorem B.fldN1 (c : Cls X.K C) (n : NoAttr X.K C f) (he : EF X M Γ e cn) (ho : ∀ q, E X (M.add q cn) Γ o (Ty.is (.ref p))) (h : ∀ q, q ≠ p → B X { M.add q cn with own := [(q, cn), (p, cnI C dx (fts ++ [(f, Ty.is (.ref q))]))] } Γ rest D) (hown : M.own = [(p, cnI C dx fts)] := by rfl) (hf : f ∉ fts.map (·.1) := by decide) (hz : fts.length < 100 := by simp)
    (hs : swapsWith e (some (.Attribute o f pos')) pos.line X.env = pure false := by rfl) : B X M Γ (.Assign [.Attribute o f pos'] e pos :: rest) D := by
  refine B.fldN (p := p) (C := C) (dx := dx) (fts := fts) c n he ho (by rw [hown]; exact List.mem_cons_self) (fun q nq => ?_) hf hz hs
  rw [hown, setO_one]
  exact h q nq
theorem E.fldOwn1 (c : Cls X.K C) (n : NoAttr X.K C f) (ho : E X M Γ o (Ty.is (.ref p))) (hp : (p, cnI C dx fts) ∈ M.own) (hf : fts.lookup f = some T := by rfl) (hb : attributeBase o f X.env (eval o X.env) = eval o X.env := by rfl) : E X M Γ (.Attribute o f pos) T := E.fldOwn c n ho hp hf hb
end
section
variable {P : Program} {w : World} {K : PySem.W.Frag} {mg : Str → Option Value} {base : Heap} {Cw Cc : Addr}
abbrev webFs (c : Addr) (w : Wb) : List (Str × Ty) := [("own_things", G w.1), ("own_ties", dictT (tiesT w)), ("own_colours", Ty.is (.ref c))]
def WebPre (q : Wb × List Str × List Pr) : Prop := Wf q.1 ∧ (sortS q.2.1 = q.1.1 ∧ (∀ x, x ∈ q.2.1 ↔ x ∈ q.1.1) ∧ q.2.1.Nodup) ∧ (∀ p ∈ q.2.2, Tie q.2.1 p) ∧ q.2.2.length ≤ 1000 ∧ ∀ x ∈ q.1.1, ∀ y ∈ q.1.1, tiedIn q.2.2 x y = tied q.1 x y
def pm_web_init : PmN (Wb × List Str × List Pr) where
  pre := WebPre
  args := fun q => [G q.2.1, U (q.2.2.map pr)]
  cn := fun _ => cnT []
  fts := fun q c => webFs c q.1
theorem ok_web_init (g : Gs K mg) (ck : Gk mg) (k : Gc K Cw webF) (d : DfM K Cw "__init__" "Web.__init__" s_web_init) : OkM P w K mg base 4 Cw ["self", "things", "conflicts"] (pm_web_init.sp Cw) := by
  refine OkM.ofN (k := 3) d sc_web_init (fun _ => rfl) (fun _ _ _ _ _ _ us hl => match us, hl with | [_, _, _], _ => rfl) fun ⟨wb, xs, ps⟩ f cdv A outer s H H1 x dx Ex ex lk En hp hlk hr fin => ?_
  obtain ⟨wf, ⟨hs, hm, nd⟩, ht, hz, htie⟩ := hp
  have hN := sc_web_init.nd
  have wf : Wf wb := wf
  have hs : sortS xs = wb.1 := hs
  have hm : ∀ y, y ∈ xs ↔ y ∈ wb.1 := hm
  have nd : xs.Nodup := nd
  have ht : ∀ p ∈ ps, Tie xs p := ht
  have hz : ps.length ≤ 1000 := hz
  have htie : ∀ y ∈ wb.1, ∀ z ∈ wb.1, tiedIn ps y z = tied wb y z := htie
  have len : xs.length = wb.1.length := by rw [← hs]; exact ((List.mergeSort_perm xs leS).length_eq).symm
  have nm : ∀ y ∈ xs, Nm y := fun y hy => wf.nm y ((hm y).mp hy)
  have l1 := wf.pos
  have l5 := wf.len
  have n1 := k.na "own_things" (by decide)
  have n2 := k.na "own_ties" (by decide)
  have n3 := k.na "own_colours" (by decide)
  refine B.iteD (v := false) (CW.or (v := false) (u := false) (C.notD (v := true) (C.valB (E.ok (ok_are_names g ck) hr xs ⟨⟨by omega, by omega⟩, nd, nm⟩ (.cons (E.var (T := G xs) 1) .nil)))) fun _ => CW.or1 (C.notD (v := true) (C.valB (E.ok (ok_are_conflicts g ck) hr (xs, ps) ⟨ht, nm, hz⟩ (.cons (E.var (T := G xs) 1) (.cons (E.var (T := U (ps.map pr)) 2) .nil)))))).c (fun z => by cases z) fun _ => B.skip ?_
  refine B.fld1 (p := x) (C := Cw) (dx := dx) (fts := []) (T := G wb.1) k.cl n1 (E.var (T := Ty.is (.ref x)) 0) ((E.tupleL (g.bi "tuple") (E.sortUs hr (g.bi "sorted") (E.var (T := G xs) 1) (by omega))).castU (by rw [hs])) ?_
  refine B.fld1 (p := x) (C := Cw) (dx := dx) (fts := [("own_things", G wb.1)]) (T := dictT (tiesT wb)) k.cl n2 (E.var (T := Ty.is (.ref x)) 0) (E.dcM (xs := wb.1) (fun y => G (partners wb y)) 3 (W.tup (ds := wb.1.map .str) (E.fldOwn (p := x) (C := Cw) (dx := dx) (fts := [("own_things", G wb.1)]) k.cl n1 (E.var (T := Ty.is (.ref x)) 0) List.mem_cons_self)) [("one", 3)] (fun y hy p acc s H0 A' cl fp => E.var (T := S_ y) 3) (fun y hy p acc s H0 A' cl fp => ?_) wf.asc.nodup (by omega) (blkOk_by (N := N_web_init) (sc := defScope s_web_init) (by decide +kernel)) hN) ?_ (hf := by show _ ∉ [("own_things" : Str)]; decide)
  · have ep : partners wb y = wb.1.filter fun z => tiedIn ps y z := by
      unfold partners
      exact List.filter_congr fun z hz' => (htie y hy z hz').symm
    refine (show E _ _ _ _ (pm_partners_of.res (wb.1, ps, y)) from E.ok (ok_partners_of g) hr (wb.1, ps, y) ⟨by show wb.1.length ≤ 100; omega, wf.wok.ok, fun p hp => ?_, (wf.nm y hy).sok⟩ (.cons (E.fldOwn (p := x) (C := Cw) (dx := dx) (fts := [("own_things", G wb.1)]) k.cl n1 (E.var (T := Ty.is (.ref x)) 0) (List.mem_cons_of_mem _ List.mem_cons_self)) (.cons (E.var (T := U (ps.map pr)) 2) (.cons (E.var (T := S_ y) 3) .nil)))).imp fun v H w z => ?_
    · obtain ⟨t1, t2, _⟩ := ht p hp
      exact ⟨(nm _ t1).sok, (nm _ t2).sok⟩
    · rw [ep]
      exact z
  refine B.fldN1 (p := x) (C := Cw) (dx := dx) (fts := [("own_things", G wb.1), ("own_ties", dictT (tiesT wb))]) (cn := cnT []) k.cl n3 EF.newT (fun q => E.var (T := Ty.is (.ref x)) 0) (fun q nq => .nil fun σ H l => ?_) (hf := by show _ ∉ [("own_things" : Str), "own_ties"]; decide)
  refine fin _ q σ H ?_ nq ?_ ?_ l.hw
  · exact ⟨rfl, fun _ h => h, fun _ h => Or.inl h, fun a h => h.elim (fun h => Or.inl (Or.inl h)) Or.inr, rfl⟩
  · exact List.mem_cons_self
  · exact List.mem_cons_of_mem _ List.mem_cons_self
end
end HB


namespace HB
open PySem L2 PyProof.Rows PySem.Spec
structure OkMe (P : Program) (w : World) (K : PySem.W.Frag) (mg : Str → Option Value) (base : Heap) (n : Nat) (C : Addr) (m : Str) (ps : List Str) (sp : Sp) : Prop where
  ex : ∃ f fd, Meth K C m f ∧ PySem.W.fnIn K f = true ∧ Binds K fd ps [] ∧ FnOk P w K mg base CX0 n f fd ps sp
structure DfMe (K : PySem.W.Frag) (C : Addr) (m qual : Str) (st : Stmt) : Prop where
  ex : ∃ f fd, Meth K C m f ∧ PySem.W.fnIn K f = true ∧ FunD K m qual (defArgs st) (defBody st) (defScope st) [] [] f fd
section
variable {P : Program} {w : World} {K : PySem.W.Frag} {mg : Str → Option Value} {base : Heap} {m qual : Str} {st : Stmt} {α : Type} {N ps : List Str} {k : Nat} {C : Addr}
theorem OkMe.of {p : Pm α} (d : DfMe K C m qual st) (S : FnScope N ps (defScope st)) (hl : ∀ a, (p.args a).length = ps.length)
    (bn : ∀ (kV doc pm : Value) (an : Option Addr) (cdv ct : Value) (us : List Value), us.length = ps.length → bindArgs (PySem.W.fnOf m qual (defArgs st) (defBody st) (defScope st) .none kV doc pm an cdv ct) ⟨us, []⟩ = pure (ps.zip us))
    (hb : ∀ (a : α) (f : Addr) (cdv : Value) (A : Around) (outer : List Env) (s : Shared) (H : Hp) (Ex : XK) (ex : Ads) (lk : List Addr) (D : Ends), p.pre a → (p.nolk = true → lk = []) → Room k (A.deeper (envOfC qual (defScope st) s.heap.objs.size f cdv)) →
      Ret (Mf ex (p.req a) lk H) (p.res a) D.rt → (∀ σ H', D.nx σ H' = D.rt .non H') → B (cxOf CX0 P w K mg base N qual (defScope st) f cdv A outer s H Ex).nox (Mf ex (p.req a) lk H) (startG N (p.args a)) (defBody st) D) : OkMe P w K mg base (k + 1) C m ps p.sp := by
  obtain ⟨f, fd, mt, fi, F⟩ := d.ex
  exact ⟨f, fd, mt, fi, F.bindsN bn, fn_pm F S hl fun a cdv A outer s H Ex ex lk D => hb a f cdv A outer s H Ex ex lk D⟩
end
section
variable {X : Cx} {pins : List (Addr × Obj)} {σ : L2.St} {H : Hp} {s : Shared} {f C : Addr} {fd : FuncData} {ps : List Str} {sp : Sp} {k : Nat} {A' : Around}
theorem run_fnA (F : FnOk X.prog X.w X.K X.mg X.base CX0 k f fd ps sp) (hr : Room k A') (hA : A'.frames = X.A.frames) (hb : Binds X.K fd ps []) (I : Inv X pins σ H s) {us : List Value} {vs : List V} {Q : VK} (r : Vals vs us) (h : sp vs H Q E0) {E : Value → Shared → Prop} : wpAny (model X.prog X.w) A' (call (.ref f) us) (EP X pins σ Q) E s := by
  have hl : (us ++ []).length = ps.length := by rw [List.append_nil, ← r.length]; exact F.len _ _ _ _ h
  have e0 := I.env0
  have bt := hb s us I.kIn hl
  rw [List.append_nil] at bt
  refine wpAny_call (codeAny_mono (F.run A' X.stack s H ⟨us, []⟩ us vs Q E0 hr ⟨hA.trans e0.frames, e0.mod, e0.bs, e0.bsz, e0.funs, e0.frf, e0.hok, e0.bare⟩ bt r h) fun r s' hq => ?_)
  cases r with
  | error e => (exact False.elim hq)
  | ok fl =>
    cases fl with
    | ret u => exact I.after hq
    | next => exact False.elim hq
    | brk => exact False.elim hq
    | cont => exact False.elim hq
theorem inst_at {a dx : Addr} {fs : List (Str × V)} (I : Inv X pins σ H s) (e : H a = some (.ins C dx fs)) : ∃ od, PySem.W.InstAt s.heap a (PySem.W.instObj C dx) C (some od) := by
  obtain ⟨mA, O, _⟩ := ins_get I.hok e
  obtain ⟨od, J, _⟩ := O.look
  exact ⟨od, J⟩
def rInOwn (C : Addr) (neg : Bool) (sp : Sp) : R2 := fun x y H Q => ∃ a dx fs, y = .ref a ∧ H a = some (.ins C dx fs) ∧ sp [.ref a, x] H (fun v H' => ∃ b, v = .bl b ∧ Q (.bl (if neg then !b else b)) H') E0
theorem op_inOwn (mt : Meth X.K C "__contains__" f) (F : FnOk X.prog X.w X.K X.mg X.base CX0 k f fd ps sp) (hr : Room k X.A) (hb : Binds X.K fd ps []) : OpR X (compareOp .In) (rInOwn C false sp) := fun pins s σ H x y u v Q I rx ry ⟨a, dx, fs, ey, e, h⟩ => by
  subst ey
  cases (show v = Value.ref a from ry)
  obtain ⟨od, J⟩ := inst_at I e
  obtain ⟨m, fr⟩ := I.fr
  refine PySem.W.in_K fr I.mod.kin J mt.at_ mt.fn (thn (run_fnA F hr rfl hb I (us := [.ref a, u]) (vs := [.ref a, x]) (.cons rfl (.cons rx .nil)) h) fun z s' ⟨v', H', I', rv, b, ev, q⟩ => ?_)
  subst ev
  obtain rfl : z = Value.bool b := rv
  exact wpAny_truthy_bool ⟨.bl b, H', I', rfl, q⟩
theorem op_ninOwn (mt : Meth X.K C "__contains__" f) (F : FnOk X.prog X.w X.K X.mg X.base CX0 k f fd ps sp) (hr : Room k X.A) (hb : Binds X.K fd ps []) : OpR X (compareOp .NotIn) (rInOwn C true sp) := fun pins s σ H x y u v Q I rx ry ⟨a, dx, fs, ey, e, h⟩ => by
  subst ey
  cases (show v = Value.ref a from ry)
  obtain ⟨od, J⟩ := inst_at I e
  obtain ⟨m, fr⟩ := I.fr
  refine PySem.W.notIn_K fr I.mod.kin J mt.at_ mt.fn (thn (run_fnA F hr rfl hb I (us := [.ref a, u]) (vs := [.ref a, x]) (.cons rfl (.cons rx .nil)) h) fun z s' ⟨v', H', I', rv, b, ev, q⟩ => ?_)
  subst ev
  obtain rfl : z = Value.bool b := rv
  exact wpAny_truthy_bool ⟨.bl (!b), H', I', rfl, q⟩
/-- o[e], o of an own class -/
def rIxOwn (C : Addr) (sp : Sp) : R2 := fun x y H Q => ∃ a dx fs, x = .ref a ∧ H a = some (.ins C dx fs) ∧ sp [.ref a, y] H Q E0
theorem pe_ixOwn {a b : Expr} {ta tb : TE} {pos : Pos} (mt : Meth X.K C "__getitem__" f) (fi : PySem.W.fnIn X.K f = true) (F : FnOk X.prog X.w X.K X.mg X.base CX0 k f fd ps sp) (hr : Room (k + 1) X.A) (hb : Binds X.K fd ps []) (ha : PE X a ta) (hb' : PE X b tb) (hs : ∀ o i, subscripted b true o i = runValue (.builtin "lifetime.subscript" ⟨[o, i], []⟩)) : PE X (.Subscript a b pos) (tOp (rIxOwn C sp) ta tb) := by
  refine ⟨fun pins s σ H Q I h => Subscript_ (binT ha hb' I h fun v u s2 x y H2 I2 rx ry q => ?_)⟩
  obtain ⟨a', dx, fs, ex, e, h'⟩ := q
  subst ex
  obtain rfl : v = Value.ref a' := rx
  obtain ⟨od, J⟩ := inst_at I2 e
  obtain ⟨m, fr⟩ := I2.fr
  exact PySem.W.sub_K fr I2.mod.kin J mt.at_ fi mt.fn (run_fnA F hr.in1 rfl hb I2 (us := [.ref a', u]) (vs := [.ref a', y]) (.cons rfl (.cons ry .nil)) h') (hs _ _)
/-- str(o), o of an own class -/
def rStrOwn (C : Addr) (sp : Sp) : List V → Hp → VK → Prop := fun xs H Q => ∃ a dx fs, xs = [.ref a] ∧ H a = some (.ins C dx fs) ∧ sp [.ref a] H (fun v H' => ∃ x : Str, v = .str x ∧ Q (.str x) H') E0
theorem call_strOwn (mt : Meth X.K C "__str__" f) (F : FnOk X.prog X.w X.K X.mg X.base CX0 k f fd ps sp) (hr : Room (k + 2) X.A) (hb : Binds X.K fd ps []) : CallR X (.type "str") (rStrOwn C sp) := by
  intro pins s σ H xs us Q I r ⟨a, dx, fs, exs, e, h⟩
  subst exs
  rw [Vals.ref1 r]
  obtain ⟨od, J⟩ := inst_at I e
  have hr2 : Room k X.A.in1.in1 := (show Room (k + 1) X.A.in1 from hr.in1).in1
  refine PySem.W.kso_call hr2.units0 I.kIn J mt.at_ mt.fn (thn (run_fnA F hr2 rfl hb I (us := [.ref a]) (vs := [.ref a]) (.cons rfl .nil) h) fun z s' ⟨v', H', I', rv, x, ev, q⟩ => ?_)
  subst ev
  obtain ⟨t, rfl⟩ := (show ∃ t, z = Value.str x t from rv)
  exact ⟨.str x, H', I', ⟨t, rfl⟩, q⟩
end
section
variable {X : Cx} {M : Mx} {Γ : Gm} {a b e : Expr} {Ta Tb : Ty} {pos p : Pos} {Cl : Addr} {ps : List Str} {n m : Nat} {α : Type} {q : Pm α} {v : Bool}
/-- values of type T are instances of C -/
def InC (T : Ty) (C : Addr) : Prop := ∀ ex v H, T.P ex v H → ∃ a dx fs, v = .ref a ∧ H a = some (.ins C dx fs)
theorem InC.ins {fts : List (Str × Ty)} : InC (insT Cl fts) Cl := fun ex v H ⟨a, dx, fs, e, h, _⟩ => ⟨a, dx, fs, e, h⟩
theorem ev2 {p1 : Ty} {p2 : Ty} {ex : Ads} {H : Hp} {x y : V} (h1 : p1.P ex x H) (h2 : p2.P ex y H) : Paired (fun (T : Ty) v => T.P ex v H) [p1, p2] [x, y] := .cons h1 (.cons h2 .nil)
theorem E.inOwn (F : OkMe X.prog X.w X.K X.mg X.base n Cl "__contains__" ps q.sp) (hr : Room m X.A) (z : α) (hp : q.pre z) (ha : E X M Γ a Ta) (hb : E X M Γ b Tb) (hC : InC Tb Cl) (hargs : q.args z = [Tb, Ta]) (hres : q.res z = Bo v) (hnm : n ≤ m := by decide) (hq : ∀ r ∈ q.req z, r ∈ M.ph := by intro q z; first | exact z | cases z) (hlk : q.nolk = true → M.lk = [] := by intro z; cases z) (hmk : behindInMarks .In b = false := by rfl) : E X M Γ (.Compare a [.In] [b] pos) (Bo v) := by
  obtain ⟨f, fd, e1, e2, e3, e4⟩ := F.ex
  refine E.cmp (op_inOwn e1 (e4.mono hnm) hr e3) hmk ha hb fun x y H Q w h1 h2 k => ?_
  obtain ⟨a', dx, fs, rfl, e⟩ := hC _ _ _ h2
  refine ⟨a', dx, fs, rfl, e, z, M.ex, M.lk, hp, w.callee hq, hlk, by rw [hargs]; exact ev2 h2 h1, fun v' H' s h => ?_⟩
  rw [hres] at h
  cases h
  exact ⟨v, rfl, k _ H' (s.caller w hq) (.bl _)⟩
theorem C.ninOwn (F : OkMe X.prog X.w X.K X.mg X.base n Cl "__contains__" ps q.sp) (hr : Room m X.A) (z : α) (hp : q.pre z) (ha : E X M Γ a Ta) (hb : E X M Γ b Tb) (hC : InC Tb Cl) (hargs : q.args z = [Tb, Ta]) (hres : q.res z = Bo v) (hnm : n ≤ m := by decide) (hq : ∀ r ∈ q.req z, r ∈ M.ph := by intro q z; first | exact z | cases z) (hlk : q.nolk = true → M.lk = [] := by intro z; cases z) (hmk : behindInMarks .NotIn b = false := by rfl) : C X M Γ (.Compare a [.NotIn] [b] pos) (· = !v) := by
  obtain ⟨f, fd, e1, e2, e3, e4⟩ := F.ex
  refine C.cmp (op_ninOwn e1 (e4.mono hnm) hr e3) hmk ha hb fun x y H Q w h1 h2 k => ?_
  obtain ⟨a', dx, fs, rfl, e⟩ := hC _ _ _ h2
  refine ⟨a', dx, fs, rfl, e, z, M.ex, M.lk, hp, w.callee hq, hlk, by rw [hargs]; exact ev2 h2 h1, fun v' H' s h => ?_⟩
  rw [hres] at h
  cases h
  exact ⟨v, rfl, k (!v) H' (s.caller w hq) rfl⟩
theorem E.ixOwn (F : OkMe X.prog X.w X.K X.mg X.base n Cl "__getitem__" ps q.sp) (hr : Room m X.A) (z : α) (hp : q.pre z) (ha : E X M Γ a Ta) (hb : E X M Γ b Tb) (hC : InC Ta Cl) (hargs : q.args z = [Ta, Tb]) (hnm : n + 1 ≤ m := by decide) (hq : ∀ r ∈ q.req z, r ∈ M.ph := by intro q z; first | exact z | cases z) (hlk : q.nolk = true → M.lk = [] := by intro z; cases z) (hs : ∀ o i, subscripted b true o i = runValue (.builtin "lifetime.subscript" ⟨[o, i], []⟩) := by intro _ _; rfl) : E X M Γ (.Subscript a b pos) (q.res z) := fun σ H l => by
  obtain ⟨f, fd, e1, e2, e3, e4⟩ := F.ex
  refine wE.of (pe_ixOwn e1 e2 e4 (hr.mono hnm) e3 pe_w pe_w hs) (two ha hb l fun x y H2 w s h1 h2 => ?_)
  obtain ⟨a', dx, fs, rfl, e⟩ := hC _ _ _ h1
  exact ⟨a', dx, fs, rfl, e, z, M.ex, M.lk, hp, w.callee hq, hlk, by rw [hargs]; exact ev2 h1 h2, fun v' H' s' h => ⟨s.trans (s'.caller w hq), h⟩⟩
theorem E.strOwn {S : Str → Prop} (F : OkMe X.prog X.w X.K X.mg X.base n Cl "__str__" ps q.sp) (hr : Room m X.A) (hm : X.mg "str" = none) (z : α) (hp : q.pre z) (ha : E X M Γ a Ta) (hC : InC Ta Cl) (hargs : q.args z = [Ta]) (hres : q.res z = .some S S_) (hnm : n + 2 ≤ m := by decide) (hq : ∀ r ∈ q.req z, r ∈ M.ph := by intro q z; first | exact z | cases z) (hlk : q.nolk = true → M.lk = [] := by intro z; cases z)
    (hg : Gl X "str" := by rfl) (he : starEach [a] X.env = (false, eval a X.env) :: starEach [] X.env := by rfl) : E X M Γ (.Call (.Name "str" p) [a] [] pos) (.some S S_) := by
  obtain ⟨f, fd, e1, e2, e3, e4⟩ := F.ex
  refine E.callT (call_strOwn e1 e4 (hr.mono hnm) e3) (by decide +kernel) hm (.cons ha .nil he) (.one fun v H Q w h k => ?_) hg (he := he)
  obtain ⟨a', dx, fs, rfl, e⟩ := hC _ _ _ h
  refine ⟨a', dx, fs, rfl, e, z, M.ex, M.lk, hp, w.callee hq, hlk, by rw [hargs]; exact .cons h .nil, fun v' H' s h => ?_⟩
  rw [hres] at h
  obtain ⟨x, sx, h⟩ := h
  cases h
  exact ⟨x, rfl, k _ H' (s.caller w hq) ⟨x, sx, .str x⟩⟩
end
end HB


namespace HB
open PySem L2 PyProof.Rows PySem.Spec
section
variable {X : Cx} {M : Mx} {Γ : Gm} {ow : Bool} {elt iter : Expr} {scope : Scope} {pos tp tp2 pt : Pos} {kt : Nat} {x y : Str} {ds es : List PyData}
/-- [elt for x, y in zip(..)] -/
theorem E.lcMZ (h : PyData × PyData → PyData) (i j : Nat) (hw : W X M Γ true (.Tuple [.Name x tp, .Name y tp2] kt pt) iter (· = zipTs ds es)) (own : List (Str × Nat))
    (he : ∀ q ∈ ds.zip es, ∀ p acc, Eb X scope (M.add p (cnL acc)) (((wipeG Γ (own.map (·.2))).set i (some (D q.1))).set j (some (D q.2))) elt (D (h q)))
    (hz : ds.length ≤ 100000) (ok : BlkOk X.N X.env.scope scope own) (hN : X.N.Nodup) (hg : ∀ (s : Shared) (H : Hp) (A : Addr) (cl : List (Str × Addr)) (fp : List Addr), PG (X.blk s H scope (compEnvC scope cl A X.env) fp) (.Tuple [.Name x tp, .Name y tp2] kt pt) (gTup X.K 2 (gCons (gName i) (gCons (gName j) gNil)))) (hi : i ∈ own.map (·.2) := by decide) (hj : j ∈ own.map (·.2) := by decide)
    (hc : X.calm = true := by rfl) (hs : ∀ x, foldedSetIterable iter X.env x = pure x := by intro _; rfl) : E X M Γ (.ListComp elt [⟨.Tuple [.Name x tp, .Name y tp2] kt pt, iter, [], 0⟩] scope pos) (L ((ds.zip es).map h)) := by
  have lz : (zipTs ds es).length ≤ 100000 := by unfold zipTs; rw [List.length_map, List.length_zip]; omega
  refine (E.lc0 (g := gTup X.K 2 (gCons (gName i) (gCons (gName j) gNil))) (own := own) (fun _ n acc => acc = ((ds.zip es).take n).map h) hw hg (fun _ _ => rfl) (fun Ts e => by rw [e]; exact lz) (fun Ts e n T acc hT iv => ?_) ok hN hc hs).imp fun v H w ⟨acc, ⟨Ts, e, iv⟩, q⟩ => ?_
  · subst e
    unfold zipTs at hT
    rw [List.getElem?_map] at hT
    cases ha : (ds.zip es)[n]? with
    | none => rw [ha] at hT; cases hT
    | some a =>
      rw [ha] at hT
      cases hT
      refine ⟨_, Tg.pairT hi hj, fun p s H0 A' cl fp => (he a (List.mem_of_getElem? ha) p acc s H0 A' cl fp).imp fun v H w q => ⟨h a, ?_, q⟩⟩
      show acc ++ [h a] = ((ds.zip es).take (n + 1)).map h
      rw [iv, take_snoc ha, List.map_append]
      rfl
  · subst e
    rw [iv, show (zipTs ds es).length = (ds.zip es).length from List.length_map .., List.take_length] at q
    exact q
end
theorem any_ties {w : Wb} {x : Str} : ((tiesT w).any fun q => decide (q.1 = .inr x)) = decide (x ∈ w.1) := by
  unfold tiesT
  rw [List.any_map]
  apply Bool.eq_iff_iff.mpr
  rw [List.any_eq_true, decide_eq_true_iff]
  constructor
  · intro ⟨y, hy, e⟩
    have e : (Sum.inr y : Key) = .inr x := by simpa using e
    exact Sum.inr.inj e ▸ hy
  · intro h
    exact ⟨x, h, by simp⟩
section
variable {P : Program} {w : World} {K : PySem.W.Frag} {mg : Str → Option Value} {base : Heap} {Cw Cc : Addr}
def pm_web_in (Cw : Addr) : Pm (Addr × Wb × Str) where
  args := fun q => [webT Cw q.1 q.2.1, S_ q.2.2]
  res := fun q => Bo (decide (q.2.2 ∈ q.2.1.1))
theorem ok_web_in (g : Gs K mg) (k : Gc K Cw webF) (d : DfMe K Cw "__contains__" "Web.__contains__" s_web_contains) : OkMe P w K mg base 1 Cw "__contains__" ["self", "value"] (pm_web_in Cw).sp := by
  refine OkMe.of (k := 0) d sc_web_contains (fun _ => rfl) (fun _ _ _ _ _ _ us hl => match us, hl with | [_, _], _ => rfl) fun ⟨c, wb, x⟩ f cdv A outer s H Ex ex lk En hp hlk hr hR hn => ?_
  refine B.ret hR (Le.refl _) ((E.and (v := true) (u := decide (x ∈ wb.1)) (E.isi (g.bi "isinstance") (E.var (T := S_ x) 1) (E.ty (g.bi "str") (by decide +kernel)) TyA.str (kit_same _)) fun _ => E.op1 ((E.inK (room1 hr) (E.var (T := S_ x) 1) (E.fld (E.var (T := webT Cw c wb) 0) k.cl (k.na "own_ties" (by decide)))).cast (congrArg PyData.bool any_ties))).cast (by rw [Bool.true_and]))
/-- the ascending tuples of a web's things -/
def pm_is_group_of (Cw : Addr) : Pm (Addr × Wb × List Str) where
  pre := fun q => (∀ x ∈ q.2.2, x ∈ q.2.1.1) ∧ Asc q.2.2 ∧ q.2.2.length ≤ 100
  args := fun q => [webT Cw q.1 q.2.1, G q.2.2]
  res := fun _ => Bo true
theorem asc_zip : ∀ {g : List Str}, Asc g → ∀ q ∈ (g.map PyData.str).zip ((g.map PyData.str).drop 1), ∃ a b, q = (.str a, .str b) ∧ ltS a b
  | [], _, q, hq => by simp at hq
  | [x], _, q, hq => by simp at hq
  | x :: y :: g, h, q, hq => by
    have hq : q ∈ (PyData.str x, PyData.str y) :: ((y :: g).map PyData.str).zip (((y :: g).map PyData.str).drop 1) := by simpa using hq
    (rcases List.mem_cons.mp hq with rfl | hq)
    · exact ⟨x, y, rfl, (List.pairwise_cons.mp h).1 y List.mem_cons_self⟩
    · exact asc_zip (g := y :: g) (List.pairwise_cons.mp h).2 q hq
theorem ok_is_group_of (g : Gs K mg) (k : Gc K Cw webF) (d : DfMe K Cw "__contains__" "Web.__contains__" s_web_contains) : Ok P w K mg base 2 "is_group_of" ["web", "value"] (pm_is_group_of Cw) := by
  refine Ok.of (k := 1) (g.df _ 25) sc_is_group_of (fun _ => rfl) (fun _ _ _ _ _ _ us hl => match us, hl with | [_, _], _ => rfl) fun ⟨c, wb, gg⟩ f cdv A outer s H Ex ex lk En hp hlk hr hR hn => ?_
  obtain ⟨h1, h2, h3⟩ := hp
  have h1 : ∀ x ∈ gg, x ∈ wb.1 := h1
  have h2 : Asc gg := h2
  have h3 : gg.length ≤ 100 := h3
  have hN := sc_is_group_of.nd
  refine B.iteD (v := false) (CW.or (v := false) (u := false) (C.notD (v := true) (C.valB (E.isi (g.bi "isinstance") (E.var (T := G gg) 1) (E.ty (n := "tuple") (g.bi "tuple") (by decide +kernel)) TyA.tup (kit_same _)))) fun _ => CW.or1 (C.notD (v := true) (C.valB ((E.all (bs := gg.map fun _ => true) (g.bi "all") ((E.lcM (enc := PyData.str) (xs := gg) (fun _ => .bool true) 2 (W.tup (E.var 1)) [("one", 2)] (fun x hx p acc s H0 A' cl fp => ?_) (by omega) (blkOk_by (N := N_is_group_of) (sc := defScope s_is_group_of) (by decide +kernel)) hN).castL (by rw [List.map_map]; rfl))).cast (by congr 1; simp))))).c (fun z => by cases z) fun _ => B.skip ?_
  · exact (E.inOwn (ok_web_in g k d) hr (c, wb, x) trivial (E.var (T := S_ x) 2) (E.var (T := webT Cw c wb) 0) InC.ins rfl rfl).cast (by rw [decide_eq_true (h1 x hx)])
  · refine B.ret hR (Le.refl _) ((E.all (bs := ((gg.map PyData.str).zip ((gg.map PyData.str).drop 1)).map fun _ => true) (g.bi "all") ((E.lcMZ (fun _ => .bool true) 2 3 (W.zipU (g.bi "zip") (E.var (T := G gg) 1) (E.fromU (k := 1) (E.var (T := G gg) 1) E.int)) [("one", 2), ("other", 3)] (fun q hq p acc s H0 A' cl fp => ?_) (by rw [List.length_map]; omega) (blkOk_by (N := N_is_group_of) (sc := defScope s_is_group_of) (by decide +kernel)) hN (fun s H A cl fp => pg_pair hN rfl rfl)).castL (by rw [List.map_map]; rfl))).cast (by congr 1; simp))
    obtain ⟨a, b, rfl, hab⟩ := asc_zip h2 q hq
    exact (E.ltS (E.var (T := S_ a) 2) (E.var (T := S_ b) 3)).cast (congrArg PyData.bool (decide_eq_true (show a.cps.toList < b.cps.toList from hab)))
def pm_require_group (Cw : Addr) : Pm (Addr × Wb × List Str) where
  pre := fun q => (∀ x ∈ q.2.2, x ∈ q.2.1.1) ∧ Asc q.2.2 ∧ q.2.2.length ≤ 100
  args := fun q => [webT Cw q.1 q.2.1, G q.2.2]
  res := fun _ => D .none
theorem ok_require_group (g : Gs K mg) (k : Gc K Cw webF) (d : DfMe K Cw "__contains__" "Web.__contains__" s_web_contains) : Ok P w K mg base 3 "require_group" ["web", "value"] (pm_require_group Cw) := by
  refine Ok.of (k := 2) (g.df _ 28) sc_require_group (fun _ => rfl) (fun _ _ _ _ _ _ us hl => match us, hl with | [_, _], _ => rfl) fun ⟨c, wb, gg⟩ f cdv A outer s H Ex ex lk En hp hlk hr hR hn => ?_
  refine B.iteD (v := false) (C.notD (v := true) (C.valB (E.ok (ok_is_group_of g k d) hr (c, wb, gg) hp (.cons (E.var (T := webT Cw c wb) 0) (.cons (E.var (T := G gg) 1) .nil))))) (fun z => by cases z) fun _ => B.skip (.nil fun σ H1 l => ?_)
  rw [hn σ H1]
  exact hR _ _ _ (Le.refl _) l.hw .non
theorem ok_excess (g : Gs K mg) (kw : Gc K Cw webF) (kc : Gc K Cc chF) (iw : IsC K Cw) (ic : IsC K Cc) (hw : mg "Web" = some (.ref Cw)) (hc : mg "Charge" = some (.ref Cc)) (d : DfMe K Cw "__contains__" "Web.__contains__" s_web_contains) : Ok P w K mg base 13 "excess" ["web", "charge", "group"] (pm_excess_of Cw Cc) := by
  refine Ok.of (k := 12) (g.df _ 55) sc_excess (fun _ => rfl) (fun _ _ _ _ _ _ us hl => match us, hl with | [_, _, _], _ => rfl) fun ⟨c, wb, ps, u, gg⟩ f cdv A outer s H Ex ex lk En hp hlk hr hR hn => ?_
  obtain ⟨⟨h1, h2, h3⟩, h4, h5, h6⟩ := _root_.id hp
  have h1 : Wf wb := h1
  have h3 : gg.Sublist wb.1 := h3
  have l3 : gg.length ≤ 5 := Nat.le_trans h3.length_le h1.len
  refine B.expr (E.ok (ok_require_web g iw hw) hr (c, wb) trivial (.cons (E.var 0) .nil)) ?_
  refine B.expr (E.ok (ok_require_charge_of g kw kc ic hc) hr (c, wb, ps, u) h1.wok.ok (.cons (E.var 0) (.cons (E.var 1) .nil))) ?_
  refine B.expr (E.ok (ok_require_group g kw d) hr (c, wb, gg) ⟨fun x hx => h3.subset hx, List.Pairwise.sublist h3 h1.asc, by show gg.length ≤ 100; omega⟩ (.cons (E.var 0) (.cons (E.var (T := G gg) 2) .nil))) ?_
  exact B.ret hR (Le.refl _) (show E _ _ _ _ ((pm_excess_of Cw Cc).res (c, wb, ps, u, gg)) from E.ok (ok_excess_of g kc (ok_colours g kw 8) (by decide)) hr (c, wb, ps, u, gg) hp (.cons (E.var (T := webT Cw c wb) 0) (.cons (E.var (T := chT Cc wb.1 ps u) 1) (.cons (E.var (T := G gg) 2) .nil))) (hnm := by decide))
end
end HB


namespace HB
open PySem L2 PyProof.Rows PySem.Spec
theorem vals_of_get {xs : List V} : ∀ {us : List Value}, xs.length = us.length → (∀ (i : Nat) (u : Value), us[i]? = some u → ∃ x, xs[i]? = some x ∧ RelV x u) → Vals xs us := by
  induction xs with
  | nil => intro us hl _; cases us with
    | nil => exact .nil
    | cons u us => cases hl
  | cons x xs ih => intro us hl h; cases us with
    | nil => cases hl
    | cons u us =>
      obtain ⟨y, e, r⟩ := h 0 u rfl
      cases e
      exact .cons r (ih (by simpa using hl) fun i v hv => h (i + 1) v (by simpa using hv))
section
variable {X : Cx}
def rListD : List V → Hp → VK → Prop := fun xs H Q => ∃ a kvs, xs = [.ref a] ∧ H a = some (.dK kvs) ∧ kvs.length ≤ 1000 ∧ ∀ p, H p = none → Q (.ref p) (upd H p (.lst (kvs.map fun q => kV q.1)))
theorem call_listDK (hc : X.calm = true) : CallR X (.type "list") rListD := by
  intro pins s σ H xs us Q I r ⟨a, kvs, exs, ha, hz, q⟩
  subst exs
  rw [Vals.ref1 r]
  obtain ⟨_, hs0, vs, kv, hdo⟩ := I.hok a _ ha
  obtain ⟨n, atD⟩ := hdo.dictAt
  have lv : kvs.length = vs.length := Paired.length kv
  refine PySem.W.kdl_call (PySem.W.kdl_dict (knd := mixKind X.prog X.w) (kvs := vs) (ep := n) hs0) (I.ok.hd hc) atD (by rw [← lv]; exact Nat.le_trans hz (by decide)) fun h' tk acc' c' hk hS hi => ?_
  have hp : H s.heap.objs.size = none := I.hok.fresh (Nat.le_refl _)
  have rv : Vals (kvs.map fun q => kV q.1) acc'.toList := by
    refine vals_of_get (by rw [List.length_map, lv]; exact hi.1.symm.trans Array.length_toList.symm) fun i u hu => ?_
    rw [Array.getElem?_toList] at hu
    obtain ⟨k, x, e1, e2⟩ := hi.2 i u hu
    have hi' : i < kvs.length := by rw [lv]; exact (List.getElem?_eq_some_iff.mp e1).1
    obtain ⟨y, g1, g2⟩ := LiI.paired_get kv (List.getElem?_eq_getElem hi')
    rw [e1] at g1
    cases g1
    refine ⟨kV kvs[i].1, by rw [List.getElem?_map, List.getElem?_eq_getElem hi']; rfl, ?_⟩
    rw [g2.1]
    exact relV_key (show keyIs k u = true from e2)
  refine ⟨.ref s.heap.objs.size, _, I.laid (a := s.heap.objs.size) (h' := h') (t' := tk) (o := .lst (kvs.map fun q => kV q.1)) hk (Nat.le_refl _) ⟨by rw [List.length_map]; exact Nat.le_trans hz (by decide), acc'.toList, c', rv, ?_⟩, rfl, q _ hp⟩
  rw [Array.toArray_toList]
  exact hS
end
theorem RpAll.of_map {ex : Ads} {H : Hp} : ∀ ps : Py, RpAll ex H (ps.map ((fun q : Key × V => kV q.1) ∘ fun q => ((.inr q.1, .int q.2) : Key × V))) (ps.map (PyData.str ∘ fun q : Str × Int => q.1))
  | [] => .nil
  | q :: ps => .cons (.str _) (RpAll.of_map ps)
section
variable {X : Cx} {M : Mx} {Γ : Gm} {ow : Bool} {e tg : Expr} {pos p : Pos} {ps : Py} {T : Ty}
theorem pay_exact {H : Hp} {v : V} (w : Hw M H) (hl : M.lk = []) (h : (payT ps).P M.ex v H) : ∃ d, v = .ref d ∧ H d = some (.dK (ps.map fun q => ((.inr q.1, .int q.2) : Key × V))) ∧ ¬ M.ex d := by
  obtain ⟨d, u, rfl, rd, su, n, rfl⟩ := pay_lk h
  exact ⟨d, rfl, w.exact hl rfl rd, n⟩
theorem E.lenD (hm : X.mg "len" = none) (hl : M.lk = []) (h : E X M Γ e (payT ps)) (hg : Gl X "len" := by rfl) (he : starEach [e] X.env = (false, eval e X.env) :: starEach [] X.env := by rfl) : E X M Γ (.Call (.Name "len" p) [e] [] pos) (I (ps.length : Int)) :=
  E.callB call_lenD PySem.boot_len hm (.cons h .nil he) (.one fun v H Q w h k => by
    obtain ⟨d, rfl, hd, n⟩ := pay_exact w hl h
    exact ⟨d, _, rfl, hd, k _ H (St.refl w) (by rw [List.length_map]; exact .int _)⟩) hg (he := he)
/-- list(d) -/
theorem E.listD (hm : X.mg "list" = none) (hl : M.lk = []) (h : E X M Γ e (payT ps)) (hz : ps.length ≤ 1000) (hc : X.calm = true := by rfl) (hg : Gl X "list" := by rfl) (he : starEach [e] X.env = (false, eval e X.env) :: starEach [] X.env := by rfl) : E X M Γ (.Call (.Name "list" p) [e] [] pos) (L ((ps.map (·.1)).map .str)) :=
  E.callT (call_listDK hc) (by decide +kernel) hm (.cons h .nil he) (.one fun v H Q w h k => by
    obtain ⟨d, rfl, hd, n⟩ := pay_exact w hl h
    refine ⟨d, _, rfl, hd, by rw [List.length_map]; exact hz, fun p hp => ?_⟩
    have z := w.new (o := .lst ((ps.map fun q => ((.inr q.1, .int q.2) : Key × V)).map fun q => kV q.1)) hp
    refine k _ _ z.1 (.lst upd_same z.2 ?_)
    (rw [List.map_map, List.map_map])
    exact RpAll.of_map ps) hg (he := he)
/-- a locked dict, walked by its keys -/
theorem W.keysP {d : Addr} {od : Obj} {u : HO} (hu : u = .dK (ps.map fun q => ((.inr q.1, .int q.2) : Key × V))) (nd : ¬ M.ex d) (h : E X (M.lock d od u) Γ e (Ty.at_ d T)) : W X (M.lock d od u) Γ ow tg e (· = ((ps.map (·.1)).map PyData.str).map D) := ⟨_, pi_keys pe_w, fun σ H l R k => (h σ H l).mono fun v H1 ⟨s1, ev, _⟩ => by
  subst ev
  have w1 := (l.st s1).hw
  have fz : H1 d = some (.frz od u) := w1.frm d _ upd_same fun q hq z => nd (z ▸ (w1.ph q hq).1)
  subst hu
  have len : (((ps.map (·.1)).map PyData.str).map HB.D).length = ps.length := by simp
  refine ⟨d, od, rfl, .inl ⟨_, fz, k _ H1 _ s1 rfl ⟨fun i T hT H ex' nx _ _ => ?_, fun H ex' nx _ => ⟨(nx d _ fz nd).1, by rw [len, List.length_map]; exact Nat.le_refl _⟩⟩⟩⟩
  have hi : i < ps.length := by rw [← len]; exact (List.getElem?_eq_some_iff.mp hT).1
  have eT : T = S_ ps[i].1 := by
    rw [List.getElem?_map, List.getElem?_map, List.getElem?_map, List.getElem?_eq_getElem hi] at hT
    exact (Option.some.inj hT).symm
  subst eT
  refine ⟨⟨(nx d _ fz nd).1, by rw [List.length_map]; exact hi⟩, fun x H' ⟨hH, k', v', ek, ex⟩ => ?_⟩
  subst hH
  subst ex
  rw [List.getElem?_map, List.getElem?_eq_getElem hi] at ek
  cases ek
  exact ⟨fun _ _ z => z, fun _ _ _ z => z, .str _⟩⟩
end
end HB


namespace HB
open PySem L2 PyProof.Rows PySem.Spec
/-- the greatest common divisor of the unit and all numbers -/
def comm (ps : Py) (u : Int) : Int := ps.foldl (fun c q => (Int.gcd c q.2 : Int)) u
def redP (ps : Py) (u : Int) : Py := (sortS (ps.map (·.1))).map fun x => (x, payOf ps x / comm ps u)
theorem comm_pos : ∀ (ps : Py) (u : Int), 0 < u → 0 < comm ps u ∧ comm ps u ≤ u
  | [], u, h => ⟨h, Int.le_refl _⟩
  | q :: ps, u, h => by
    have p := Int.gcd_pos_of_ne_zero_left q.2 (show u ≠ 0 by omega)
    have l : (Int.gcd u q.2 : Int) ≤ u := Int.le_of_dvd h (Int.gcd_dvd_left ..)
    have := comm_pos ps (Int.gcd u q.2 : Int) (by omega)
    exact ⟨this.1, Int.le_trans this.2 l⟩
structure PayOk (ps : Py) : Prop where
  nd : (ps.map (·.1)).Nodup
  nm : ∀ x ∈ ps.map (·.1), Nm x
  pos : 1 ≤ ps.length
  len : ps.length ≤ 8
  big : ∀ q ∈ ps, -(10 ^ 60 - 1) ≤ q.2 ∧ q.2 ≤ 10 ^ 60 - 1
section
variable {P : Program} {w : World} {K : PySem.W.Frag} {mg : Str → Option Value} {base : Heap} {Cp Cc : Addr}
theorem TyA.at_ {K : PySem.W.Frag} {M : Mx} {T : Ty} {t : Value} {d : Addr} (h : TyA K M T t) : TyA K M (Ty.at_ d T) t := fun v H w z => h v H w z.2
def pm_are_pays : Pm Py where
  pre := PayOk
  args := fun ps => [payT ps]
  res := fun _ => Bo true
  nolk := true
theorem pay_mem {ps : Py} (nd : (ps.map (·.1)).Nodup) {x : Str} (h : x ∈ ps.map (·.1)) : (x, payOf ps x) ∈ ps := by
  induction ps with
  | nil => cases h
  | cons q ps ih =>
    unfold payOf
    rw [List.lookup_cons]
    by_cases e : x = q.1
    · subst e
      rw [show (q.1 == q.1) = true by simp]
      exact List.mem_cons_self
    · rw [show (x == q.1) = false by simpa using e]
      rw [List.map_cons] at h nd
      (rcases List.mem_cons.mp h with z | z)
      · exact absurd z e
      · exact List.mem_cons_of_mem _ (ih (List.nodup_cons.mp nd).2 z)
theorem ok_are_pays (g : Gs K mg) (c : Gk mg) : Ok P w K mg base 2 "are_pays" ["value"] pm_are_pays := by
  refine Ok.of (k := 1) (g.df _ 30) sc_are_pays (fun _ => rfl) (fun _ _ _ _ _ _ us hl => match us, hl with | [_], _ => rfl) fun ps f cdv A outer s H Ex ex lk En hp hlk hr hR hn => ?_
  obtain rfl := hlk rfl
  have hp : PayOk ps := hp
  have hN := sc_are_pays.nd
  have h1 := hp.pos
  have h8 := hp.len
  refine B.iteD (v := false) (CW.or (v := false) (u := false) (C.notD (v := true) (C.valB (E.isi (g.bi "isinstance") (E.var (T := payT ps) 0) (E.ty (n := "dict") (g.bi "dict") (by decide +kernel)) TyA.dict (kit_same _)))) fun _ => CW.or1 (C.notD (v := true) ((C.chain (u := decide ((1 : Int) ≤ (ps.length : Int))) (v := decide ((ps.length : Int) ≤ 8)) E.int (E.lenD (g.bi "len") rfl (E.var (T := payT ps) 0)) (fun _ => E.gint c.things) Op2.leI (fun _ => Op2.leI) (pt_chain op_le op_le pe_w pe_w pe_w)).imp fun v e => ?_))).c (fun z => by cases z) fun _ => B.skip ?_
  · rw [e, decide_eq_true (show (1 : Int) ≤ (ps.length : Int) by omega), decide_eq_true (show (ps.length : Int) ≤ 8 by omega)]
    rfl
  · refine B.ret hR (Le.refl _) ((E.all (bs := (ps.map (·.1)).map fun _ => true) (g.bi "all") ((E.lock (T0 := payT ps) (T := L ((ps.map (·.1)).map fun _ => PyData.bool true)) 0 rfl (fun ex v H h => pay_lk h) rfl fun d od u hu nd => (E.lcM (enc := PyData.str) (xs := ps.map (·.1)) (fun _ => .bool true) 1 (W.keysP (T := payT ps) hu nd (E.var (T := Ty.at_ d (payT ps)) 0)) [("thing", 1)] (fun x hx p acc s H0 A' cl fp => ?_) (by rw [List.length_map]; omega) (blkOk_by (N := N_are_pays) (sc := defScope s_are_pays) (by decide +kernel)) hN)).castL (by simp only [List.map_map]; rfl))).cast (by congr 1; simp))
    have hb := hp.big _ (pay_mem hp.nd hx)
    refine (E.and (v := true) (u := true) (E.ok (ok_is_name g c) hr x (hp.nm x hx) (.cons (E.var (T := S_ x) 1) .nil)) fun _ => E.op1 (E.ok (ok_is_integer g c) hr (payOf ps x) hb (.cons (E.pay hr ((E.var (T := Ty.at_ d (payT ps)) 0).imp fun v H w z => z.2) (E.var (T := S_ x) 1) hx) .nil))).cast rfl
/-- Pays(pays, unit) -/
def PayPre (q : Py × Int) : Prop := (q.1.map (·.1)).Nodup ∧ q.1.length ≤ 100 ∧ 0 < q.2 ∧ q.2 ≤ 10 ^ 200
abbrev payFs (q : Py × Int) : List (Str × Ty) := [("own_pays", payT (redP q.1 q.2)), ("own_unit", I (q.2 / comm q.1 q.2))]
def pm_pays_init : PmI (Py × Int) where
  pre := PayPre
  args := fun q => [payT q.1, I q.2]
  fts := payFs
  nolk := true
theorem comm_cdiv {ps : Py} {u : Int} (h : 0 < u) (h2 : u ≤ 10 ^ 200) (i : Int) : CDivW i (comm ps u) := by
  obtain ⟨a, b⟩ := comm_pos ps u h
  refine ⟨by omega, log_small ?_ (by omega)⟩
  have : ((comm ps u).natAbs : Int) ≤ ((10 ^ 200 : Nat) : Int) := by
    rw [Int.natCast_pow]
    have : ((comm ps u).natAbs : Int) = comm ps u := by omega
    rw [this]
    exact Int.le_trans b h2
  exact Int.ofNat_le.mp this
theorem ok_pays_init (g : Gs K mg) (k : Gc K Cp ["own_pays", "own_unit"]) (d : DfM K Cp "__init__" "Pays.__init__" s_pays_init) : OkM P w K mg base 2 Cp ["self", "pays", "unit"] (pm_pays_init.sp Cp) := by
  refine OkM.of (k := 1) d sc_pays_init (fun _ => rfl) (fun _ _ _ _ _ _ us hl => match us, hl with | [_, _, _], _ => rfl) fun ⟨ps, u⟩ f cdv A outer s H H1 x dx Ex ex lk En hp hlk hr fin => ?_
  obtain rfl := hlk rfl
  obtain ⟨nd, hz, h0, hb⟩ := hp
  have nd : (ps.map (·.1)).Nodup := nd
  have hz : ps.length ≤ 100 := hz
  have h0 : 0 < u := h0
  have hb : u ≤ 10 ^ 200 := hb
  have hN := sc_pays_init.nd
  have n1 := k.na "own_pays" (by decide)
  have n2 := k.na "own_unit" (by decide)
  refine B.asg 3 (T := I u) (E.var (T := I u) 2) ?_ hN
  refine B.forVals (α := Int) 1 4 (fun c => [some (Ty.is (.ref x)), some (payT ps), some (I u), some (I c), none, none]) (fun n c => c = comm (ps.take n) u) rfl rfl rfl (fun d od u' => E.var (T := Ty.at_ d (payT ps)) 1) ⟨u, rfl, fun _ _ l => l⟩ (fun n q c hq iv d od u' => ?_) (fun c iv => ?_) hN
  · refine B.asg 3 (T := I (Int.gcd c q.2 : Int)) (E.ok (ok_greatest_common g) hr (c, q.2) trivial (.cons (E.var (T := I c) 3) (.cons (E.var (T := I q.2) 4) .nil))) (.nil fun σ H l => ⟨_, ?_, l.wk (.keep (.keep (.keep (.keep (.drop (.keep .nil))))))⟩) hN
    rw [take_snoc hq, iv]
    unfold comm
    rw [List.foldl_append]
    rfl
  · have iv : c = comm (ps.take ps.length) u := iv
    rw [List.take_length] at iv
    subst iv
    refine B.fld1 (p := x) (C := Cp) (dx := dx) (fts := []) (T := payT (redP ps u)) k.cl n1 (E.var (T := Ty.is (.ref x)) 0) ((E.dcM (xs := sortS (ps.map (·.1))) (fun y => I (payOf ps y / comm ps u)) 5 (W.list (E.sortLs hr (g.bi "sorted") (E.listD (g.bi "list") rfl (E.var (T := payT ps) 1) (by omega)) (by rw [List.length_map]; omega))) [("thing", 5)] (fun y hy p acc s H0 A' cl fp => E.var (T := S_ y) 5) (fun y hy p acc s H0 A' cl fp => ?_) ?_ ?_ (blkOk_by (N := N_pays_init) (sc := defScope s_pays_init) (by decide +kernel)) hN).imp fun v H w z => ?_) ?_
    · have hy' : y ∈ ps.map (·.1) := (List.mergeSort_perm _ _).mem_iff.mp hy
      exact E.divW (E.pay hr (E.var (T := payT ps) 1) (E.var (T := S_ y) 5) hy') (E.var (T := I (comm ps u)) 3) (comm_cdiv h0 hb _)
    · exact (List.mergeSort_perm _ _).nodup_iff.mpr nd
    · have := (List.mergeSort_perm (ps.map (·.1)) leS).length_eq
      rw [List.length_map] at this
      exact Nat.le_trans (Nat.le_of_eq this) (by omega)
    · have e : pyk (redP ps u) = (sortS (ps.map (·.1))).map fun y => ((.inr y, I (payOf ps y / comm ps u)) : Key × Ty) := by
        unfold pyk redP
        rw [List.map_map]
        rfl
      show (dictT (pyk (redP ps u))).P _ v H
      rw [e]
      exact z
    · refine B.fld1 (p := x) (C := Cp) (dx := dx) (fts := [("own_pays", payT (redP ps u))]) (T := I (u / comm ps u)) k.cl n2 (E.var (T := Ty.is (.ref x)) 0) (E.divW (E.var (T := I u) 2) (E.var (T := I (comm ps u)) 3) (comm_cdiv h0 hb _)) (.nil fun σ H l => ?_) (hf := by show _ ∉ [("own_pays" : Str)]; decide)
      refine fin _ σ H ?_ List.mem_cons_self l.hw
      exact ⟨rfl, fun _ h => h, fun _ h => Or.inl h, fun a h => Or.inl h, rfl⟩
end
end HB


namespace HB
open PySem L2 PyProof.Rows PySem.Spec
theorem init_core {P : Program} {w : World} {K : PySem.W.Frag} {mg : Str → Option Value} {base : Heap} {m qual : Str} {st : Stmt} {α : Type} {N ps : List Str} {k : Nat} {C : Addr} {dvs : List V} {kws : List (Str × V)} {f : Addr} {fd : FuncData} {p : PmI α}
    (F : FunD K m qual (defArgs st) (defBody st) (defScope st) dvs kws f fd) (S : FnScope N ps (defScope st)) (hl : ∀ a, (p.args a).length + 1 = ps.length)
    (hb : ∀ (a : α) (f : Addr) (cdv : Value) (A : Around) (outer : List Env) (s : Shared) (H H1 : Hp) (x dx : Addr) (Ex : XK) (ex : Ads) (lk : List Addr) (D : Ends), p.pre a → (p.nolk = true → lk = []) → Room k (A.deeper (envOfC qual (defScope st) s.heap.objs.size f cdv)) →
      (∀ M σ H', Le (Mf ex (p.req a) lk H1) M → (x, cnI C dx (p.fts a)) ∈ M.own → Hw M H' → D.nx σ H') → B (cxOf CX0 P w K mg base N qual (defScope st) f cdv A outer s H Ex).nox (Mi ex (p.req a) lk H1 x (cnI C dx [])) (startG N (Ty.is (.ref x) :: p.args a)) (defBody st) D) : FnOk P w K mg base CX0 (k + 1) f fd ps (p.sp C) := by
  refine F.ok S (fun vs H Q Ex ⟨a, ex, lk, H1, x, dx, ws, ev, _, _, _, _, _, _, _, hp, _⟩ => by rw [ev, List.length_cons, ← prd_len hp]; exact hl a) fun cdv A outer s H vs Q Ex hr ⟨a, ex, lk, H1, x, dx, ws, ev, hx, hd, ne, eH, hpre, hw, hlk, hp, hQ⟩ => ?_
  subst ev
  subst eH
  obtain ⟨w1, k1⟩ := hw.made (C := C) hx hd ne
  refine ⟨_, PSs.nox pb_w, ?_⟩
  refine hb a f cdv A outer s _ H1 x dx Ex ex lk { nx := fun _ H' => Q .non H', rt := Q } hpre hlk hr (fun M σ H' l ho w' => ?_) (L2.start N (V.ref x :: ws)) _ ?_
  · obtain ⟨_, _, _, o, e1, fs, rfl, r⟩ := w'.own _ ho
    refine hQ H' (w'.back l) ⟨x, dx, fs, rfl, e1, fun z => ?_, FT.mono (l.kp H') r⟩
    obtain ⟨u, e, _⟩ := hw.exin x z
    have e : H1 x = some u := e
    rw [hx] at e
    cases e
  · have hp2 := start_is (x := x) (Paired.mapP hp fun T v q => T.fr k1 q)
    refine ⟨w1, ?_, ?_⟩
    · unfold startG L2.start
      rw [List.length_append, List.length_append, List.length_map, List.length_map, List.length_replicate, List.length_replicate, prd_len hp2]
    · unfold startG L2.start
      rw [← prd_len hp2]
      exact start_vr _ hp2
/-- a class whose __init__ has one keyword-only parameter -/
structure OkC (P : Program) (w : World) (K : PySem.W.Frag) (mg : Str → Option Value) (base : Heap) (n : Nat) (C : Addr) (sp : Sp) : Prop where
  ex : ∃ f fd, Mk K C f ∧ KBn K fd ["self", "pays", "unit"] 2 ["unit"] (fun us ws => us ++ ws) (fun vs zs => vs ++ zs) ∧ (∃ ds, Vals [V.int 1] ds ∧ Binds K fd ["self", "pays", "unit"] ds) ∧ FnOk P w K mg base CX0 n f fd ["self", "pays", "unit"] sp
structure DfC (K : PySem.W.Frag) (C : Addr) : Prop where
  ex : ∃ f fd, Mk K C f ∧ FunD K "__init__" "Charge.__init__" (defArgs s_charge_init) (defBody s_charge_init) (defScope s_charge_init) [] [("unit", .int 1)] f fd
section
variable {X : Cx} {M : Mx} {Γ : Gm} {e e2 : Expr} {pos pn kpos : Pos} {x : Str} {n m : Nat} {α : Type} {C : Addr}
/-- C(e, unit = e2) -/
theorem E.mkU {p : PmI α} {T1 T2 : Ty} (F : OkC X.prog X.w X.K X.mg X.base n C (p.sp C)) (hm : X.mg x = some (.ref C)) (hr : Room m X.A) (a : α) (hp : p.pre a) (h1 : E X M Γ e T1) (h2 : E X M Γ e2 T2) (hargs : p.args a = [T1, T2]) (hnm : n + 1 ≤ m := by decide) (hq : ∀ q ∈ p.req a, q ∈ M.ph := by intro q z; first | exact z | cases z) (hlk : p.nolk = true → M.lk = [] := by intro z; cases z)
    (hg : Gl X x := by rfl) (hdb : (x == ("__debug__" : Str)) = false := by decide) (he : starEach [e] X.env = (false, eval e X.env) :: starEach [] X.env := by rfl) (hall : (backToKw pos (keywordEach [⟨some ("unit" : Str), e2, kpos⟩] X.env)).all (·.1.isSome) = true := by rfl) (hks : (backToKw pos (keywordEach [⟨some ("unit" : Str), e2, kpos⟩] X.env)).filterMap (·.1) = [("unit" : Str)] := by rfl)
    (hpl : ((backTo pos (starEach [e] X.env)).any (·.1) || (backToKw pos (keywordEach [⟨some ("unit" : Str), e2, kpos⟩] X.env)).any (·.1.isNone)) = false := by rfl) : E X M Γ (.Call (.Name x pn) [e] [⟨some ("unit" : Str), e2, kpos⟩] pos) (insT C (p.fts a)) := fun σ H l => by
  obtain ⟨f, fd, e1, e2', _, e4⟩ := F.ex
  refine wE.of (pe_makeK e1 e4 (hr.mono hnm) hg hm e2' pass0 (pa_cons pe_w pa_nil he) (pk_cons pe_w pk_nil) hall hks hdb he hpl) ((h1 σ H l).mono fun v H1 ⟨s1, t1⟩ => (h2 σ H1 (l.st s1)).mono fun u H2 ⟨s2, t2⟩ => ⟨rfl, rfl, fun x dx hx hd ne => ?_⟩)
  have l2 := (l.st s1).st s2
  exact ⟨a, M.ex, M.lk, H2, x, dx, [v, u], rfl, hx, hd, ne, rfl, hp, l2.hw.callee hq, hlk, by rw [hargs]; exact .cons (T1.fr (s2.kp (l.st s1).hw) t1) (.cons t2 .nil), fun H' s h => ⟨rfl, (s1.trans s2).trans (s.caller l2.hw hq), h⟩⟩
/-- C(e) -/
theorem E.mkU0 {p : PmI α} {T1 : Ty} (F : OkC X.prog X.w X.K X.mg X.base n C (p.sp C)) (hm : X.mg x = some (.ref C)) (hr : Room m X.A) (a : α) (hp : p.pre a) (h1 : E X M Γ e T1) (hargs : p.args a = [T1, I 1]) (hnm : n + 1 ≤ m := by decide) (hq : ∀ q ∈ p.req a, q ∈ M.ph := by intro q z; first | exact z | cases z) (hlk : p.nolk = true → M.lk = [] := by intro z; cases z)
    (hg : Gl X x := by rfl) (hdb : (x == ("__debug__" : Str)) = false := by decide) (he : starEach [e] X.env = (false, eval e X.env) :: starEach [] X.env := by rfl) (hpl : (backTo pos (starEach [] X.env)).any (·.1) = false := by rfl) : E X M Γ (.Call (.Name x pn) [e] [] pos) (insT C (p.fts a)) := fun σ H l => by
  obtain ⟨f, fd, e1, _, ⟨ds, rd, bd⟩, e4⟩ := F.ex
  refine wE.of (pe_make e1 e4 (hr.mono hnm) hg hm bd rd pass0 (pa_cons pe_w pa_nil he) hdb he hpl) ((h1 σ H l).mono fun v H1 ⟨s1, t1⟩ => fun x dx hx hd ne => ?_)
  have l1 := l.st s1
  exact ⟨a, M.ex, M.lk, H1, x, dx, [v, .int 1], rfl, hx, hd, ne, rfl, hp, l1.hw.callee hq, hlk, by rw [hargs]; exact .cons t1 (.cons (.int 1) .nil), fun H' s h => ⟨rfl, s1.trans (s.caller l1.hw hq), h⟩⟩
end
section
variable {P : Program} {w : World} {K : PySem.W.Frag} {mg : Str → Option Value} {base : Heap} {Cp Cc : Addr}
def ChPre (q : Py × Int) : Prop := PayOk q.1 ∧ 0 < q.2 ∧ q.2 ≤ 10 ^ 20
abbrev payF : List Str := ["own_pays", "own_unit"]
def pm_checked_pays (Cp : Addr) : Pm (Py × Int) where
  pre := ChPre
  args := fun q => [payT q.1, I q.2]
  res := fun q => insT Cp (payFs q)
  nolk := true
theorem ok_checked_pays (g : Gs K mg) (c : Gk mg) (k : Gc K Cp payF) (d : DfM K Cp "__init__" "Pays.__init__" s_pays_init) (hm : mg "Pays" = some (.ref Cp)) : Ok P w K mg base 4 "checked_pays" ["pays", "unit"] (pm_checked_pays Cp) := by
  refine Ok.of (k := 3) (g.df _ 33) sc_checked_pays (fun _ => rfl) (fun _ _ _ _ _ _ us hl => match us, hl with | [_, _], _ => rfl) fun ⟨ps, u⟩ f cdv A outer s H Ex ex lk En hp hlk hr hR hn => ?_
  obtain rfl := hlk rfl
  obtain ⟨h1, h2, h3⟩ := hp
  have h1 : PayOk ps := h1
  have h2 : 0 < u := h2
  have h3 : u ≤ 10 ^ 20 := h3
  have c20 : (10 : Int) ^ 20 = 100000000000000000000 := by decide +kernel
  have c60 : (10 : Int) ^ 60 - 1 = 999999999999999999999999999999999999999999999999999999999999 := by decide +kernel
  refine B.iteD (v := false) (C.notD (v := true) (C.valB (E.ok (ok_are_pays g c) hr ps h1 (.cons (E.var (T := payT ps) 0) .nil) (hlk := fun _ => rfl)))) (fun z => by cases z) fun _ => B.skip ?_
  refine B.iteD (v := false) (CW.or (v := false) (u := false) (C.notD (v := true) (C.valB (E.ok (ok_is_integer g c) hr u ⟨by rw [c60]; omega, by rw [c60]; rw [c20] at h3; omega⟩ (.cons (E.var (T := I u) 1) .nil)))) fun _ => CW.or1 ((C.ltI (E.var (T := I u) 1) (E.int (i := 1))).imp fun v e => by rw [e]; exact decide_eq_false (by omega))).c (fun z => by cases z) fun _ => B.skip ?_
  exact B.ret hR (Le.refl _) (E.mk (ok_pays_init g k d) hm hr (ps, u) ⟨h1.nd, by have := h1.len; show ps.length ≤ 100; omega, h2, Int.le_trans h3 (show (10 : Int) ^ 20 ≤ 10 ^ 200 by decide +kernel)⟩ (.cons (E.var (T := payT ps) 0) (.cons (E.var (T := I u) 1) .nil)) (hlk := fun _ => rfl))
abbrev chFs (q : Py × Int) : List (Str × Ty) := [("own_pays", payT (redP q.1 q.2)), ("own_unit", I (q.2 / comm q.1 q.2)), ("own_things", G (sortS (q.1.map (·.1))))]
def pm_charge_init : PmI (Py × Int) where
  pre := ChPre
  args := fun q => [payT q.1, I q.2]
  fts := chFs
  nolk := true
theorem redP_keys (ps : Py) (u : Int) : (redP ps u).map (·.1) = sortS (ps.map (·.1)) := by
  unfold redP
  rw [List.map_map]
  exact (List.map_congr_left fun _ _ => rfl).trans (List.map_id _)
theorem ok_charge_init (g : Gs K mg) (c : Gk mg) (kp : Gc K Cp payF) (kc : Gc K Cc chF) (d : DfM K Cp "__init__" "Pays.__init__" s_pays_init) (hm : mg "Pays" = some (.ref Cp)) (hkd : PySem.W.kitOne K (.type "dict") (.ref Cp) = some false) (dc : DfC K Cc) : OkC P w K mg base 5 Cc (pm_charge_init.sp Cc) := by
  obtain ⟨f, fd, mk, F⟩ := dc.ex
  refine ⟨f, fd, mk, ?_, ?_, init_core (k := 4) F sc_charge_init (fun _ => rfl) fun ⟨ps, u⟩ f cdv A outer s H H1 x dx Ex ex lk En hp hlk hr fin => ?_⟩
  · obtain ⟨mv, h⟩ := FunD.kbinds0 (ps := ["self", "pays", "unit"]) F 2 ["unit"] [] (fun {α} us mv ws => us ++ ws) (by simp) (by simp) (fun r1 r2 r3 => r1.append r3) (fun D doc pm an cdv ct us mv ws h1 h2 h3 => by
      match us, h1, mv, h2, ws, h3 with
      | [_, _], _, [], _, [_], _ => rfl)
    exact h
  · obtain ⟨ds, h1, h2⟩ := FunD.binds0 (ps := ["self", "pays", "unit"]) F 2 (by simp) rfl (fun D doc pm an cdv ct us ks h1 h2 => by
      match us, h1, ks, h2 with
      | [_, _], _, [_], _ => exact ⟨_, _, _, _, _, _, rfl, rfl, rfl⟩)
    exact ⟨ds, h1, h2⟩
  · obtain rfl := hlk rfl
    have hpre : ChPre (ps, u) := hp
    have hN := sc_charge_init.nd
    refine B.asg 3 (T := insT Cp (payFs (ps, u))) (E.ifExp (v := false) (C.valB (E.isiC (g.bi "isinstance") (E.var (T := payT ps) 1) (E.cls hm) TyA.dict hkd)) (fun z => by cases z) fun _ => E.ok (ok_checked_pays g c kp d hm) hr (ps, u) hpre (.cons (E.var (T := payT ps) 1) (.cons (E.var (T := I u) 2) .nil)) (hlk := fun _ => rfl)) ?_ hN
    refine B.fld1 (p := x) (C := Cc) (dx := dx) (fts := []) (T := payT (redP ps u)) kc.cl (kc.na "own_pays" (by decide)) (E.var (T := Ty.is (.ref x)) 0) (E.fld (E.var (T := insT Cp (payFs (ps, u))) 3) kp.cl (kp.na "own_pays" (by decide))) ?_
    refine B.fld1 (p := x) (C := Cc) (dx := dx) (fts := [("own_pays", payT (redP ps u))]) (T := I (u / comm ps u)) kc.cl (kc.na "own_unit" (by decide)) (E.var (T := Ty.is (.ref x)) 0) (E.fld (E.var (T := insT Cp (payFs (ps, u))) 3) kp.cl (kp.na "own_unit" (by decide))) ?_ (hf := by show _ ∉ [("own_pays" : Str)]; decide)
    refine B.fld1 (p := x) (C := Cc) (dx := dx) (fts := [("own_pays", payT (redP ps u)), ("own_unit", I (u / comm ps u))]) (T := G (sortS (ps.map (·.1)))) kc.cl (kc.na "own_things" (by decide)) (E.var (T := Ty.is (.ref x)) 0) ((E.tupleL (g.bi "tuple") (E.listD (g.bi "list") rfl (E.fld (E.var (T := insT Cp (payFs (ps, u))) 3) kp.cl (kp.na "own_pays" (by decide))) ?_)).castU (by rw [redP_keys])) (.nil fun σ H l => ?_) (hf := by show _ ∉ [("own_pays" : Str), "own_unit"]; decide)
    · have := congrArg List.length (redP_keys ps u)
      rw [List.length_map] at this
      rw [this]
      have e := (List.mergeSort_perm (ps.map (·.1)) leS).length_eq
      rw [List.length_map] at e
      exact Nat.le_trans (Nat.le_of_eq e) (Nat.le_trans hpre.1.len (by decide))
    · refine fin _ σ H ?_ List.mem_cons_self l.hw
      exact ⟨rfl, fun _ h => h, fun _ h => Or.inl h, fun a h => Or.inl h, rfl⟩
end
end HB


namespace HB
open PySem L2 PyProof.Rows PySem.Spec
abbrev Tx (n : Nat) : Ty := .some (fun x : Str => x.length ≤ n) S_
def Js (X : Cx) (M : Mx) (Γ : Gm) (es : List Expr) (n : Nat) : Prop := ∃ ts, PJ X es ts ∧ ∀ σ H, Loc M Γ σ H → ∀ (acc : Str) (Q : Str → Hp → Prop), acc.length + n ≤ 100000 → (∀ out H', St M H H' → out.length ≤ acc.length + n → Q out H') → tJs ts acc σ H Q
section
variable {X : Cx} {M : Mx} {Γ : Gm} {e v1 v2 o : Expr} {es rest : List Expr} {pos apos p : Pos} {n k : Nat} {i : Int}
theorem Js.nil : Js X M Γ [] 0 := ⟨[], .nil, fun σ H l acc Q _ h => h acc H (St.refl l.hw) (Nat.le_refl _)⟩
theorem app_len (x y : Str) : (x ++ y).length = x.length + y.length := by
  show (x.cps ++ y.cps).size = _
  rw [Array.size_append]
  rfl
theorem Js.cons (he : E X M Γ e (Tx k)) (r : Js X M Γ es n) : Js X M Γ (e :: es) (k + n) := by
  obtain ⟨ts, pj, r⟩ := r
  refine ⟨_, .cons pe_w pj, fun σ H l acc Q hz h => (he σ H l).mono fun v H1 ⟨s1, x, hx, hv⟩ => ?_⟩
  cases hv
  have hl := app_len acc x
  refine ⟨x, rfl, Nat.le_trans (show (acc ++ x).length ≤ 100000 by omega) (by decide), r σ H1 (l.st s1) (acc ++ x) Q (by omega) fun out H' s ho => h out H' (s1.trans s) (by omega)⟩
theorem E.joined (h : Js X M Γ (v1 :: v2 :: rest) n) (hz : n ≤ 100000 := by decide) : E X M Γ (.JoinedStr (v1 :: v2 :: rest) pos) (Tx n) := fun σ H l => by
  obtain ⟨ts, pj, r⟩ := h
  exact wE.of (pe_joined pj) (r σ H l Str.empty _ (by show 0 + n ≤ 100000; omega) fun out H' s ho => ⟨s, out, Nat.le_trans ho (by show 0 + n ≤ n; omega), .str out⟩)
theorem E.fmtI (h : E X M Γ e (I i)) (hz : i.natAbs.log2 < 1920) : E X M Γ (.FormattedValue e (-1) none pos) (Tx 1921) := fun σ H l =>
  wE.of (pe_fmt pe_w) ((h σ H l).mono fun v H1 ⟨s1, h1⟩ => by
    cases h1
    exact .inr ⟨i, rfl, hz, s1, _, int_text_len_1921 hz, .str _⟩)
theorem E.fmtS (h : E X M Γ e (Tx n)) (hz : n ≤ 100000 := by decide) : E X M Γ (.FormattedValue e (-1) none pos) (Tx n) := fun σ H l =>
  wE.of (pe_fmt pe_w) ((h σ H l).mono fun v H1 ⟨s1, x, hx, h1⟩ => by
    cases h1
    exact .inl ⟨x, rfl, Nat.le_trans (Nat.le_trans hx hz) (by decide), s1, x, hx, .str x⟩)
theorem E.strI (hm : X.mg "str" = none) (h : E X M Γ e (I i)) (hz : i.natAbs.log2 < 1920) (hg : Gl X "str" := by rfl) (he : starEach [e] X.env = (false, eval e X.env) :: starEach [] X.env := by rfl) : E X M Γ (.Call (.Name "str" p) [e] [] pos) (Tx 1921) :=
  E.callT call_str_int (by decide +kernel) hm (.cons h .nil he) (.one fun v H Q w h k => by
    cases h
    exact ⟨i, rfl, hz, k _ H (St.refl w) ⟨_, int_text_len_1921 hz, .str _⟩⟩) hg (he := he)
theorem E.join {sep : Str} {S : List Str → Prop} (ho : E X M Γ o (S_ sep)) (he : E X M Γ e (.some S fun ys => L (ys.map .str))) (hz : ∀ ys, S ys → (ys.map (·.length)).sum + ys.length * sep.length ≤ 16777216) (hs : starEach [e] X.env = [(false, eval e X.env)] := by rfl) (hbase : attributeBase o "join" X.env (eval o X.env) = eval o X.env := by rfl) (hline : (apos.endLine == pos.line) = true := by rfl) :
    E X M Γ (.Call (.Attribute o "join" apos) [e] [] pos) (.some (fun _ : Str => True) S_) := fun σ H l =>
  wE.of (pe_join pe_w pe_w hs hbase hline) ((ho σ H l).mono fun v H1 ⟨s1, h1⟩ => by
    cases h1
    refine ⟨⟨sep, rfl⟩, (he σ H1 (l.st s1)).mono fun u H2 ⟨s2, ys, sy, h2⟩ => ?_⟩
    cases h2 with
    | lst e n r =>
      obtain rfl := r.strs
      exact ⟨sep, _, ys, rfl, rfl, .inl (SqL.of e), hz ys sy, s1.trans s2, _, trivial, .str _⟩)
end
section
variable {P : Program} {w : World} {K : PySem.W.Frag} {mg : Str → Option Value} {base : Heap} {Cp Cc : Addr}
theorem log_i {i : Int} (h : -(10 ^ 200) ≤ i ∧ i ≤ 10 ^ 200) : i.natAbs.log2 < 1920 := by
  by_cases z : i.natAbs = 0
  · rw [z]
    decide
  · have h2 : i.natAbs ≤ 10 ^ 200 := by
      have : ((i.natAbs : Nat) : Int) ≤ ((10 ^ 200 : Nat) : Int) := by
        rw [Int.natCast_pow]
        have c : ((10 : Nat) : Int) = 10 := rfl
        rw [c]
        generalize (10 : Int) ^ 200 = b at h
        omega
      exact Int.ofNat_le.mp this
    exact Nat.lt_of_lt_of_le ((Nat.log2_lt z).mpr (Nat.lt_of_le_of_lt h2 (show 10 ^ 200 < 2 ^ 700 by decide +kernel))) (by decide)
def pm_text_of : Pm (Int × Int) where
  pre := fun q => (-(10 ^ 200) ≤ q.1 ∧ q.1 ≤ 10 ^ 200) ∧ -(10 ^ 200) ≤ q.2 ∧ q.2 ≤ 10 ^ 200
  args := fun q => [frac q]
  res := fun _ => Tx 4000
theorem ok_text_of (g : Gs K mg) : Ok P w K mg base 1 "text_of" ["fraction"] pm_text_of := by
  refine Ok.of (k := 0) (g.df _ 17) sc_text_of (fun _ => rfl) (fun _ _ _ _ _ _ us hl => match us, hl with | [_], _ => rfl) fun ⟨t, b⟩ f cdv A outer s H Ex ex lk En hp hlk hr hR hn => ?_
  obtain ⟨h1, h2⟩ := hp
  have l1 := log_i h1
  have l2 := log_i h2
  have hN := sc_text_of.nd
  refine B.unp (Ta := I t) (Tb := I b) 1 2 ((E.var (T := frac (t, b)) 0).imp fun v H w z => D_tupT (ds := [.int t, .int b]) z) ?_ hN
  refine B.ret hR (Le.refl _) (E.ifExpS (C.eqI (E.var (T := I b) 2) E.int) (fun _ => (E.strI (g.bi "str") (E.var (T := I t) 1) l1).wk fun x hx => by omega) fun _ => (E.joined (Js.cons (E.fmtI (E.var (T := I t) 1) l1) (Js.cons (k := 1) (E.str.imp fun v H w z => ⟨_, by decide +kernel, z⟩) (Js.cons (E.fmtI (E.var (T := I b) 2) l2) Js.nil)))).wk fun x hx => by omega)
def pm_ch_in (Cc : Addr) : Pm (List Str × Py × Int × Str) where
  pre := fun q => Nm q.2.2.2
  args := fun q => [chT Cc q.1 q.2.1 q.2.2.1, S_ q.2.2.2]
  res := fun q => Bo (decide (q.2.2.2 ∈ q.2.1.map (·.1)))
theorem any_pyk {ps : Py} {x : Str} : ((pyk ps).any fun q => decide (q.1 = .inr x)) = decide (x ∈ ps.map (·.1)) := by
  unfold pyk
  rw [List.any_map]
  apply Bool.eq_iff_iff.mpr
  rw [List.any_eq_true, decide_eq_true_iff]
  constructor
  · intro ⟨y, hy, e⟩
    have e : (Sum.inr y.1 : Key) = .inr x := by simpa using e
    exact List.mem_map.mpr ⟨y, hy, Sum.inr.inj e⟩
  · intro h
    obtain ⟨y, hy, e⟩ := List.mem_map.mp h
    exact ⟨y, hy, by simp [e]⟩
theorem ok_ch_in (g : Gs K mg) (c : Gk mg) (k : Gc K Cc chF) (d : DfMe K Cc "__contains__" "Charge.__contains__" s_charge_contains) : OkMe P w K mg base 2 Cc "__contains__" ["self", "value"] (pm_ch_in Cc).sp := by
  refine OkMe.of (k := 1) d sc_charge_contains (fun _ => rfl) (fun _ _ _ _ _ _ us hl => match us, hl with | [_, _], _ => rfl) fun ⟨xs, ps, u, x⟩ f cdv A outer s H Ex ex lk En hp hlk hr hR hn => ?_
  have hp : Nm x := hp
  exact B.ret hR (Le.refl _) ((E.and (v := true) (u := decide (x ∈ ps.map (·.1))) (E.ok (ok_is_name g c) hr x hp (.cons (E.var (T := S_ x) 1) .nil)) fun _ => E.op1 ((E.inK (room1 hr) (E.var (T := S_ x) 1) (E.fld (E.var (T := chT Cc xs ps u) 0) k.cl (k.na "own_pays" (by decide)))).cast (congrArg PyData.bool any_pyk))).cast (by rw [Bool.true_and]))
def pm_ch_item (Cc : Addr) : Pm (List Str × Py × Int × Str) where
  pre := fun q => Nm q.2.2.2 ∧ q.2.2.2 ∈ q.2.1.map (·.1) ∧ 0 < q.2.2.1 ∧ q.2.2.1 ≤ 10 ^ 200
  args := fun q => [chT Cc q.1 q.2.1 q.2.2.1, S_ q.2.2.2]
  res := fun q => frac (lowest (payOf q.2.1 q.2.2.2) q.2.2.1)
theorem ok_ch_item (g : Gs K mg) (c : Gk mg) (k : Gc K Cc chF) (d1 : DfMe K Cc "__contains__" "Charge.__contains__" s_charge_contains) (d : DfMe K Cc "__getitem__" "Charge.__getitem__" s_charge_getitem) : OkMe P w K mg base 3 Cc "__getitem__" ["self", "thing"] (pm_ch_item Cc).sp := by
  refine OkMe.of (k := 2) d sc_charge_getitem (fun _ => rfl) (fun _ _ _ _ _ _ us hl => match us, hl with | [_, _], _ => rfl) fun ⟨xs, ps, u, x⟩ f cdv A outer s H Ex ex lk En hp hlk hr hR hn => ?_
  obtain ⟨h1, h2, h3, h4⟩ := hp
  have h1 : Nm x := h1
  have h2 : x ∈ ps.map (·.1) := h2
  refine B.iteD (v := false) ((C.ninOwn (ok_ch_in g c k d1) hr (xs, ps, u, x) h1 (E.var (T := S_ x) 1) (E.var (T := chT Cc xs ps u) 0) InC.ins rfl rfl).imp fun v e => by rw [e, decide_eq_true h2]; rfl) (fun z => by cases z) fun _ => B.skip ?_
  exact B.ret hR (Le.refl _) (E.ok (ok_lowest_of g) hr (payOf ps x, u) ⟨h3, h4⟩ (.cons (E.pay hr (E.fld (E.var (T := chT Cc xs ps u) 0) k.cl (k.na "own_pays" (by decide))) (E.var (T := S_ x) 1) h2) (.cons (E.fld (E.var (T := chT Cc xs ps u) 0) k.cl (k.na "own_unit" (by decide))) .nil)))
/-- str(charge) -/
def StrPre (q : List Str × Py × Int) : Prop := (∀ x ∈ q.1, Nm x ∧ x ∈ q.2.1.map (·.1)) ∧ q.1.length ≤ 100 ∧ (0 < q.2.2 ∧ q.2.2 ≤ 10 ^ 200) ∧ ∀ p ∈ q.2.1, -(10 ^ 200) ≤ p.2 ∧ p.2 ≤ 10 ^ 200
def pm_ch_str (Cc : Addr) : Pm (List Str × Py × Int) where
  pre := StrPre
  args := fun q => [chT Cc q.1 q.2.1 q.2.2]
  res := fun _ => .some (fun _ : Str => True) S_
theorem div_small {t g : Int} (hg : 0 < g) {b : Int} (h : -b ≤ t ∧ t ≤ b) : -b ≤ t / g ∧ t / g ≤ b := by
  constructor
  · rw [Int.le_ediv_iff_mul_le hg]
    have : b * 1 ≤ b * g := Int.mul_le_mul_of_nonneg_left (by omega) (by omega)
    have e : -b * g = -(b * g) := Int.neg_mul ..
    omega
  · have h0 : 0 ≤ b := by omega
    have : t / g ≤ b / g := Int.ediv_le_ediv hg h.2
    have := Int.ediv_le_self g h0
    omega
theorem pay_low {ps : Py} {b : Int} (hb : 0 ≤ b) (h : ∀ p ∈ ps, -b ≤ p.2 ∧ p.2 ≤ b) (x : Str) : -b ≤ payOf ps x ∧ payOf ps x ≤ b := by
  induction ps with
  | nil =>
    show -b ≤ (0 : Int) ∧ (0 : Int) ≤ b
    omega
  | cons q ps ih =>
    unfold payOf
    rw [List.lookup_cons]
    cases x == q.1 with
    | true => exact h q List.mem_cons_self
    | false => exact ih fun p hp => h p (List.mem_cons_of_mem _ hp)
theorem sum_le {ys : List Str} {b : Nat} (h : ∀ y ∈ ys, y.length ≤ b) : (ys.map (·.length)).sum ≤ ys.length * b := by
  induction ys with
  | nil => simp
  | cons y ys ih =>
    have h1 := h y List.mem_cons_self
    have h2 := ih fun z hz => h z (List.mem_cons_of_mem _ hz)
    (rw [List.map_cons, List.sum_cons, List.length_cons, Nat.succ_mul])
    omega
theorem prd_allS {α β : Type} {R : α → β → Prop} {S : β → Prop} (h : ∀ a b, R a b → S b) : ∀ {xs : List α} {ys : List β}, Paired R xs ys → ∀ y ∈ ys, S y
  | _, _, .nil => fun z hz => by cases hz
  | _, _, .cons a r => fun y hy => (List.mem_cons.mp hy).elim (fun e => e ▸ h _ _ a) (prd_allS h r y)
theorem ok_ch_str (g : Gs K mg) (c : Gk mg) (k : Gc K Cc chF) (d1 : DfMe K Cc "__contains__" "Charge.__contains__" s_charge_contains) (d2 : DfMe K Cc "__getitem__" "Charge.__getitem__" s_charge_getitem) (d : DfMe K Cc "__str__" "Charge.__str__" s_charge_str) : OkMe P w K mg base 5 Cc "__str__" ["self"] (pm_ch_str Cc).sp := by
  refine OkMe.of (k := 4) d sc_charge_str (fun _ => rfl) (fun _ _ _ _ _ _ us hl => match us, hl with | [_], _ => rfl) fun ⟨xs, ps, u⟩ f cdv A outer s H Ex ex lk En hp hlk hr hR hn => ?_
  obtain ⟨h1, h2, ⟨h3, h4⟩, h5⟩ := hp
  have h1 : ∀ x ∈ xs, Nm x ∧ x ∈ ps.map (·.1) := h1
  have h2 : xs.length ≤ 100 := h2
  have h3 : 0 < u := h3
  have h4 : u ≤ 10 ^ 200 := h4
  have h5 : ∀ p ∈ ps, -(10 ^ 200) ≤ p.2 ∧ p.2 ≤ 10 ^ 200 := h5
  have hN := sc_charge_str.nd
  refine B.ret hR (Le.refl _) (E.join (sep := ", ") (S := fun ys : List Str => Paired (fun (_ : Str) (b : Str) => b.length ≤ 4009) xs ys) E.str (E.lcA (enc := PyData.str) (xs := xs) (R := fun _ (b : Str) => b.length ≤ 4009) PyData.str 1 (W.tup (E.fld (E.var (T := chT Cc xs ps u) 0) k.cl (k.na "own_things" (by decide)))) [("one", 1)] (fun x hx p acc s H0 A' cl fp => ?_) (by omega) (blkOk_by (N := N_charge_str) (sc := defScope s_charge_str) (by decide +kernel)) hN) fun ys hy => ?_)
  · obtain ⟨nm, hm⟩ := h1 x hx
    have gp := Int.gcd_pos_of_ne_zero_right (payOf ps x) (show u ≠ 0 by omega)
    have b0 : (0 : Int) ≤ 10 ^ 200 := by decide +kernel
    have low : pm_text_of.pre (lowest (payOf ps x) u) := ⟨div_small (by omega) (pay_low b0 h5 x), div_small (by omega) ⟨by generalize (10 : Int) ^ 200 = b at h4 b0; omega, h4⟩⟩
    refine (E.joined (Js.cons (E.fmtS (n := 8) ((E.var (T := S_ x) 1).imp fun v H w z => ⟨x, nm.2.1, z⟩)) (Js.cons (k := 1) (E.str.imp fun v H w z => ⟨_, by decide +kernel, z⟩) (Js.cons (E.fmtS (n := 4000) (E.ok (ok_text_of g) hr (lowest (payOf ps x) u) low (.cons (E.ixOwn (ok_ch_item g c k d1 d2) hr (xs, ps, u, x) ⟨nm, hm, h3, h4⟩ (E.var (T := chT Cc xs ps u) 0) (E.var (T := S_ x) 1) InC.ins rfl) .nil))) Js.nil)))).wk fun y hy => ?_
    omega
  · have h6 := prd_allS (S := fun b : Str => b.length ≤ 4009) (fun _ _ h => h) hy
    have h7 := sum_le h6
    have h8 : ys.length = xs.length := (prd_len hy).symm
    have h9 : (", " : Str).length = 2 := by decide +kernel
    rw [h9]
    omega
end
end HB


namespace HB
open PySem PySem.Spec PyProof.Rows L2 PySem.Calls
section
variable {w : World} {prog : Program} {A : Around} {E : Value → Shared → Prop} {s : Shared}
theorem sliceApplied_rev {sl : Addr} {vs : Value} {Q : Int × Int × Nat → Shared → Prop} (hs : s.heap.IsSliceOf sl .none .none vs) (ps : IsPart vs (some (-1))) (fin : Q (1, -1, 2) s) : wpAny (model prog w) A (Builtin.Slice.sliceApplied (.ref sl) (pure (2 : Int))) Q E s := by
  obtain ⟨osl, so, sc, sd⟩ := _root_.id hs
  unfold Builtin.Slice.sliceApplied
  unfold Builtin.Slice.sliceFields
  refine wpAny_bind (wpAny_bind (wpAny_field so sd (x := .none) rfl (wpAny_bind (wpAny_field so sd (x := .none) rfl (wpAny_bind (wpAny_field so sd (x := vs) rfl (wpAny_pure ?_)))))))
  refine wpAny_bind (HT.slicePart_ ps ?_)
  show wpAny _ _ (if ((-1 : Int) == 0) = true then _ else _) _ _ s
  rw [if_neg (by decide)]
  refine wpAny_bind (HT.slicePart_ .none (wpAny_bind (HT.slicePart_ .none (wpAny_bind (wpAny_pure ?_)))))
  have e : Builtin.Slice.sliceAdjust none none (-1) 2 = (1, -1) := by decide
  show wpAny _ _ (match Builtin.Slice.sliceAdjust none none (-1) (2 : Int) with | (lo, hi) => pure (lo, (-1 : Int), Builtin.Slice.slicePlaces lo hi (-1))) _ _ s
  rw [e]
  have e2 : Builtin.Slice.slicePlaces 1 (-1) (-1) = 2 := by decide
  show wpAny _ _ (pure ((1 : Int), (-1 : Int), Builtin.Slice.slicePlaces 1 (-1) (-1))) _ _ s
  rw [e2]
  exact wpAny_pure fin
theorem getItem_pair_rev {t sl : Addr} {x y vs : Value} {Q : Value → Shared → Prop} (tt : IsTup s.heap t #[x, y]) (hs : s.heap.IsSliceOf sl .none .none vs) (ps : IsPart vs (some (-1)))
    (fin : Q (.ref s.heap.objs.size) { s with heap := s.heap.push { cls := .type "tuple", data := .seq #[y, x] } }) : wpAny (model prog w) A (getItem (.ref t) (.ref sl)) Q E s := by
  obtain ⟨osl, so, sc, sd⟩ := _root_.id hs
  have sTy : s.TypeIs (.ref sl) "slice" := ⟨osl, so, sc⟩
  have fits : sizeOk (.seq #[y, x]) := show 2 ≤ sizeLine by decide
  unfold getItem
  (try with_reducible refine wpAny_holding ?_) <;> (first | refine wpAny_bind (wpAny_pure ?_) | skip)
  refine wpAny_bind (wpAny_sequenceKey tt.typeIs (by decide) ?_)
  refine wpAny_bind (wpAny_callSpecial?_slot (name := Str.ofString "__getitem__") tt.typeIs PyProof.Rows.slot_tuple_getitem
    (wpAny_call_entry PyProof.Rows.slot_tuple_getitem tt.typeIs entry_tuple_getitem ?_ (args_tuple_getitem _ _)))
  show wpAny _ A.in1 (Builtin.Tuple.tupleItemsOf (.ref t) >>= _) _ _ s
  refine wpAny_bind (tupleItemsOf_ tt (wpAny_bind (wpAny_typeOf sTy ?_)))
  rw [if_pos (by decide)]
  refine wpAny_bind (sliceApplied_rev hs ps ?_)
  show wpAny _ _ (if ((1 : Int) == 0 && (-1 : Int) == 1 && (2 : Nat) == (#[x, y] : Array Value).size) = true then _ else _) _ _ s
  rw [if_neg (show ¬ (((1 : Int) == 0 && (-1 : Int) == 1 && (2 : Nat) == (#[x, y] : Array Value).size) = true) from Bool.false_ne_true)]
  have e : ((List.range 2).filterMap fun (k : Nat) => (#[x, y] : Array Value)[((1 : Int) + (k : Int) * (-1)).toNat]?).toArray = #[y, x] := rfl
  rw [e]
  first
    | exact wpAny_bind (m := Builtin.Tuple.tupleExact _) (wpAny_newObj_type (wpAny_pure ⟨_, rfl, wpAny_pure fin⟩) fits)
    | exact wpAny_bind (m := Builtin.Tuple.tupleExact _) (wpAny_newObj_type (wpAny_bind (wpAny_pure (wpAny_pure ⟨_, rfl, wpAny_pure fin⟩))) fits)
    | exact wpAny_bind (wpAny_bind (m := Builtin.Tuple.tupleExact _) (wpAny_newObj_type (wpAny_pure (wpAny_pure ⟨_, rfl, wpAny_pure fin⟩)) fits))
    | exact wpAny_bind (wpAny_bind (m := Builtin.Tuple.tupleExact _) (wpAny_newObj_type (wpAny_pure ⟨_, rfl, wpAny_pure fin⟩) fits))
end
section
variable {X : Cx}
def tRevP (K : PySem.W.Frag) (te : TE) : TE := fun σ H Q => te σ H fun x H1 => ∃ a v u, x = .ref a ∧ SqT K H1 a [v, u] ∧ ∀ p, H1 p = none → Q (.ref p) (upd H1 p (.tup [u, v]))
theorem pe_revP {e : Expr} {te : TE} {k : Nat} {p1 p2 p3 pos : Pos} (he : PE X e te) : PE X (.Subscript e (.Slice none none (some (.UnaryOp .USub (.Constant (.int 1) k p1) p2)) p3) pos) (tRevP X.K te) := by
  refine ⟨fun pins s σ H Q I h => Subscript_ (thn (he.run pins s σ H _ I h) fun tv t1 ⟨tx, G1, J1, rel, pre⟩ => ?_)⟩
  obtain ⟨a, v1, v2, ex, hx, q⟩ := pre
  subst ex
  cases rel
  have minus : PO X (some (.UnaryOp .USub (.Constant (.int 1) k p1) p2)) (tPart (tUn (rU fun i => .int (-i)) (tC (.int 1)))) := po_some (pe_un un_neg pe_int)
  refine wpAny_Slice (thn (po_none.run pins t1 σ G1 (fun y G => y = none ∧ G = G1) J1 ⟨rfl, rfl⟩) fun low t2 ⟨y, G2, J2, rl, el, eG⟩ => ?_)
  subst el eG
  refine thn (po_none.run pins t2 σ G2 (fun y G => y = none ∧ G = G2) J2 ⟨rfl, rfl⟩) fun upp t3 ⟨y, G3, J3, ru, eu, eG⟩ => ?_
  subst eu eG
  refine thn (minus.run pins t3 σ G3 (fun y G => y = some (-1) ∧ G = G3) J3 ⟨1, rfl, -1, rfl, rfl, rfl⟩) fun stp t4 ⟨y, G4, J4, rs, es, eG⟩ => ?_
  subst es eG
  cases rl
  cases ru
  have I5 : Inv X pins σ G4 { t4 with heap := t4.heap.push { cls := .type "slice", data := .fields #[.none, .none, stp] } } := J4.kept (t' := t4.toks) fun b ob q => Heap.get?_push_of_some _ q
  obtain ⟨its, r, ht, hz⟩ := I5.tuple hx
  cases r with
  | cons ra r =>
    cases r with
    | cons rb r =>
      cases r
      refine tail_any (ops := [.ref a, .ref t4.heap.objs.size]) ht.typeIs (PyProof.Rows.slot_tuple_getitem.lookup) ?_ (by with_unfolding_all rfl)
      refine getItem_pair_rev ht (Heap.IsSliceOf.new ..) rs ?_
      refine ⟨.ref _, _, I5.laid (t' := t4.toks) (o := .tup [v2, v1]) (fun b ob q => Heap.get?_push_of_some _ q) (Nat.le_refl _) ?_, rfl, q _ (I5.hok.fresh (Nat.le_refl _))⟩
      exact ⟨show 2 ≤ sizeLine by decide, _, .cons rb (.cons ra .nil), ⟨_, Heap.get?_push_size _ rfl, rfl, _, rfl⟩⟩
end
section
variable {X : Cx} {M : Mx} {Γ : Gm} {ow : Bool} {e elt iter : Expr} {scope : Scope} {pos p tp pn lpos p1 p2 p3 : Pos} {α β : Type} {enc : α → PyData} {x y : Str} {rest : List Stmt} {D : Ends} {kk : Nat}
theorem E.revP {a b : PyData} (h : E X M Γ e (U [a, b])) : E X M Γ (.Subscript e (.Slice none none (some (.UnaryOp .USub (.Constant (.int 1) kk p1) p2)) p3) pos) (U [b, a]) := fun σ H l =>
  wE.of (pe_revP pe_w) ((h σ H l).mono fun v H1 ⟨s1, h1⟩ => by
    cases h1 with
    | @tup c xs _ e n r =>
      cases r with
      | @cons v1 _ _ _ r1 r =>
        cases r with
        | @cons v2 _ _ _ r2 r =>
          cases r
          refine ⟨c, _, _, rfl, SqT.of e, fun q hq => ?_⟩
          have w := l.hw.st s1
          have z := w.new (o := .tup [v2, v1]) hq
          exact ⟨s1.trans z.1, .tup upd_same z.2 (.cons (r2.fr (z.1.kp w)) (.cons (r1.fr (z.1.kp w)) .nil))⟩)
theorem E.listUs {S : List α → Prop} (hm : X.mg "list" = none) (h : E X M Γ e (.some S fun qs => U (qs.map enc))) (hg : Gl X "list" := by rfl) (he : starEach [e] X.env = (false, eval e X.env) :: starEach [] X.env := by rfl) : E X M Γ (.Call (.Name "list" p) [e] [] pos) (.some S fun qs => L (qs.map enc)) :=
  E.callT call_list_of (by decide +kernel) hm (.cons h .nil he) (.one_some fun qs hq => .out qs hq (.one fun v H Q w h k => by
    cases h with
    | tup e n r =>
      refine ⟨_, _, rfl, .inr (SqT.of e), fun q hq => ?_⟩
      obtain ⟨s, np⟩ := w.new (o := .lst _) hq
      exact k _ _ s (.lst upd_same np (r.fr (s.kp w))))) hg (he := he)
theorem E.tupleLs {S : List α → Prop} (hm : X.mg "tuple" = none) (h : E X M Γ e (.some S fun qs => L (qs.map enc))) (hg : Gl X "tuple" := by rfl) (he : starEach [e] X.env = (false, eval e X.env) :: starEach [] X.env := by rfl) : E X M Γ (.Call (.Name "tuple" p) [e] [] pos) (.some S fun qs => U (qs.map enc)) :=
  E.callT call_tuple_of (by decide +kernel) hm (.cons h .nil he) (.one_some fun qs hq => .out qs hq (.one fun v H Q w h k => by
    cases h with
    | lst e n r =>
      refine ⟨_, _, rfl, .inl ⟨SqL.of e, fun q hq => ?_⟩⟩
      obtain ⟨s, np⟩ := w.new (o := .tup _) hq
      exact k _ _ s (.tup upd_same np (r.fr (s.kp w))))) hg (he := he)
/-- x = [elt for y in l] on one line, the list and the elements known by letters -/
theorem B.lcLS (i : Nat) {S : List α → Prop} {R : α → β → Prop} (h : β → PyData) (j : Nat) (hl0 : E X M Γ iter (.some S fun xs => L (xs.map enc))) (own : List (Str × Nat))
    (he : ∀ xs, S xs → ∀ a ∈ xs, ∀ p acc, Eb X scope (M.add p (cnL acc)) ((wipeG Γ (own.map (·.2))).set j (some (HB.D (enc a)))) elt (.some (R a) fun b => HB.D (h b)))
    (hz : ∀ xs, S xs → xs.length ≤ 100000) (k : ∀ xs, S xs → ∀ ys : List β, Paired R xs ys → B X M (Γ.set i (some (L (ys.map h)))) rest D) (ok : BlkOk X.N X.env.scope scope own) (hN : X.N.Nodup) (hsw : swapsWith (.ListComp elt [⟨.Name x tp, iter, [], 0⟩] scope lpos) (some (.Name y pn)) pos.line X.env = pure true := by rfl) (hy : X.N[i]? = some y := by rfl) (hyl : X.env.scope.names.lookup y = some .local := by rfl) (hi : X.N[j]? = some x := by rfl) (hj : j ∈ own.map (·.2) := by decide)
    (hl : ∀ (A : Addr) (cl : List (Str × Addr)), (compEnvC scope cl A X.env).scope.names.lookup x = some .local := by intro _ _; rfl) (hc : X.calm = true := by rfl) (hs : ∀ x, foldedSetIterable iter X.env x = pure x := by intro _; rfl) : B X M Γ (.Assign [.Name y pn] (.ListComp elt [⟨.Name x tp, iter, [], 0⟩] scope lpos) pos :: rest) D := by
  refine B.asgLc0 (ow := true) (g := gName j) (own := own) (S := fun Ts => ∃ xs : List α, S xs ∧ Ts = (xs.map enc).map HB.D) i (fun Ts i acc => ∃ (xs : List α) (ys : List β), S xs ∧ Ts = (xs.map enc).map HB.D ∧ Paired R (xs.take i) ys ∧ acc = ys.map h) (W.exL hl0) (fun s H A cl fp => pg_name hN hi (.inl (hl A cl)) (.inr (hl A cl))) (fun Ts ⟨xs, sx, e⟩ => ⟨xs, [], sx, e, .nil, rfl⟩) (fun Ts ⟨xs, sx, e⟩ => by rw [e]; simpa using hz xs sx) (fun Ts _ i T acc hT iv => ?_) (fun acc Ts _ iv => ?_) ok hN hsw hy hyl hc hs
  · obtain ⟨xs, ys, sx, e, y1, y2⟩ := iv
    subst e
    obtain ⟨a, ha, rfl⟩ := get_enc hT
    refine ⟨_, Tg.name hj, fun p s H0 A cl fp => (he xs sx a (List.mem_of_getElem? ha) p acc s H0 A cl fp).imp fun v H w ⟨b, rb, q⟩ => ⟨h b, ⟨xs, ys ++ [b], sx, rfl, ?_, ?_⟩, q⟩⟩
    · rw [take_snoc ha]
      exact prd_app y1 (.cons rb .nil)
    · rw [y2, List.map_append]
      rfl
  · obtain ⟨xs, ys, sx, e, y1, rfl⟩ := iv
    subst e
    rw [List.length_map, List.length_map, List.take_length] at y1
    exact k xs sx ys y1
end
end HB


namespace HB
open PySem L2 PyProof.Rows PySem.Spec
theorem BOk.payOk {wb : Wb} {q : Bill} (h : BOk wb.1 (10 ^ 30) q) (wf : Wf wb) : PayOk q.1 := by
  have e := congrArg List.length h.keys
  rw [List.length_map] at e
  have l1 := wf.pos
  have l5 := wf.len
  have c30' : (10 : Int) ^ 30 = 1000000000000000000000000000000 := by decide +kernel
  have c60 : (10 : Int) ^ 60 - 1 = 999999999999999999999999999999999999999999999999999999999999 := by decide +kernel
  refine ⟨by rw [h.keys]; exact wf.asc.nodup, by rw [h.keys]; exact wf.nm, by omega, by omega, fun p hp => ?_⟩
  have := h.low p hp
  rw [c30'] at this
  rw [c60]
  omega
theorem BOk.chPre {wb : Wb} {q : Bill} (h : BOk wb.1 (10 ^ 30) q) (wf : Wf wb) : ChPre q := ⟨h.payOk wf, by have := h.pos; omega, Int.le_trans h.top (show (10 : Int) ^ 10 ≤ 10 ^ 20 by decide +kernel)⟩
section
variable {P : Program} {w : World} {K : PySem.W.Frag} {mg : Str → Option Value} {base : Heap} {Cp Cc Cw : Addr}
theorem sortS_self {g : List Str} (h : Asc g) : sortS g = g := sortS_of_perm h (.refl _)
theorem ch_fs {wb : Wb} {q : Bill} (h : BOk wb.1 (10 ^ 30) q) (wf : Wf wb) : insT Cc (chFs q) = chT Cc wb.1 (redP q.1 q.2) (q.2 / comm q.1 q.2) := by
  show insT Cc [("own_pays", payT (redP q.1 q.2)), ("own_unit", I (q.2 / comm q.1 q.2)), ("own_things", G (sortS (q.1.map (·.1))))] = _
  rw [h.keys, sortS_self wf.asc]
def pm_made_charge (Cc : Addr) : Pm (Wb × Bill) where
  pre := CaseOk
  args := fun q => [billT q.2]
  res := fun q => chT Cc q.1.1 (redP q.2.1 q.2.2) (q.2.2 / comm q.2.1 q.2.2)
  nolk := true
theorem ok_made_charge (g : Gs K mg) (oc : OkC P w K mg base 5 Cc (pm_charge_init.sp Cc)) (hm : mg "Charge" = some (.ref Cc)) : Ok P w K mg base 7 "_law_made_charge" ["_law_some"] (pm_made_charge Cc) := by
  refine Ok.of (k := 6) (g.df _ 80) sc_made_charge (fun _ => rfl) (fun _ _ _ _ _ _ us hl => match us, hl with | [_], _ => rfl) fun ⟨wb, ps, u⟩ f cdv A outer s H Ex ex lk En hp hlk hr hR hn => ?_
  obtain rfl := hlk rfl
  obtain ⟨wf, hb⟩ := hp
  have wf : Wf wb := wf
  have hb : BOk wb.1 (10 ^ 30) (ps, u) := hb
  have pk := hb.payOk wf
  refine B.ret hR (Le.refl _) ?_
  show E _ _ _ _ (chT Cc wb.1 (redP ps u) (u / comm ps u))
  rw [← ch_fs (Cc := Cc) hb wf]
  show E _ _ _ _ (insT Cc (pm_charge_init.fts (ps, u)))
  exact E.mkU (p := pm_charge_init) oc hm hr (ps, u) (hb.chPre wf) (E.dictL (g.bi "dict") (E.items (g.bi "list") rfl (E.ixT (i := 0) (Ts := [payT ps, I u]) (E.var (T := billT (ps, u)) 0) E.int rfl)) pk.nd) (E.ixT (i := 1) (Ts := [payT ps, I u]) (E.var (T := billT (ps, u)) 0) E.int rfl) rfl (hlk := fun _ => rfl)
theorem EG.mkG {X : Cx} {M : Mx} {Γ : Gm} {e : Expr} {es : List Expr} {pos pn : Pos} {x : Str} {ps : List Str} {n m : Nat} {α : Type} {C : Addr} {p : PmN α} {Ts : List Ty} {cn : Cn} {R : Addr → Ty} (F : OkM X.prog X.w X.K X.mg X.base n C ps (p.sp C)) (hm : X.mg x = some (.ref C)) (hr : Room m X.A) (ha : A X M Γ (e :: es) Ts)
    (hs : ∀ vs H, Hw M H → Paired (fun (T : Ty) v => T.P M.ex v H) Ts vs → ∃ a, p.pre a ∧ (∀ q ∈ p.req a, q ∈ M.ph) ∧ Paired (fun (T : Ty) v => T.P M.ex v H) (p.args a) vs ∧ p.cn a = cn ∧ ∀ c ex v H, (insT C (p.fts a c)).P ex v H → (R c).P ex v H) (hnm : n + 1 ≤ m := by decide) (hlk : p.nolk = true → M.lk = [] := by intro z; cases z)
    (hg : Gl X x := by rfl) (hdb : (x == ("__debug__" : Str)) = false := by decide) (he : starEach (e :: es) X.env = (false, eval e X.env) :: starEach es X.env := by rfl) (hpl : (backTo pos (starEach es X.env)).any (·.1) = false := by rfl) : EG X M Γ (.Call (.Name x pn) (e :: es) [] pos) cn R := fun σ H l => by
  obtain ⟨f, fd, e1, e2, e3⟩ := F.ex
  exact wE.of (pe_make e1 e3 (hr.mono hnm) hg hm e2 .nil pass0 pa_w hdb he hpl) ((ha σ H l).mono fun vs H1 ⟨s1, h1⟩ x dx hx hd ne => by
    have l1 := l.st s1
    obtain ⟨a, hp, hq, h2, hcn, hR⟩ := hs vs H1 l1.hw h1
    subst hcn
    rw [List.append_nil]
    exact ⟨a, M.ex, M.lk, H1, x, dx, vs, rfl, hx, hd, ne, rfl, hp, l1.hw.callee hq, hlk, h2, fun H' c hc s ho h => ⟨rfl, c, s1.none l.hw hc, loc_add l1 hq hc s ho, hR c _ _ _ h⟩⟩)
def turnR (p q : Pr) : Prop := q = p ∨ q = (p.2, p.1)
def pm_told_web (Cw : Addr) : PmF (Addr × Wb) where
  pre := fun q => Wf q.2
  req := fun q => [(q.1, PotOk)]
  args := fun q => [Ty.is (.ref q.1), plT q.2]
  cn := fun _ => cnT []
  res := fun q c => webT Cw c q.2
theorem prd_mem {α β : Type} {R : α → β → Prop} : ∀ {xs : List α} {ys : List β}, Paired R xs ys → (∀ y ∈ ys, ∃ x ∈ xs, R x y) ∧ ∀ x ∈ xs, ∃ y ∈ ys, R x y
  | _, _, .nil => ⟨fun _ h => (by cases h), fun _ h => (by cases h)⟩
  | _, _, .cons a r => by
    obtain ⟨h1, h2⟩ := prd_mem r
    refine ⟨fun y hy => ?_, fun x hx => ?_⟩
    · (rcases List.mem_cons.mp hy with rfl | hy)
      · exact ⟨_, List.mem_cons_self, a⟩
      · obtain ⟨x, hx, q⟩ := h1 y hy
        exact ⟨x, List.mem_cons_of_mem _ hx, q⟩
    · rcases List.mem_cons.mp hx with rfl | hx
      · exact ⟨_, List.mem_cons_self, a⟩
      · obtain ⟨y, hy, q⟩ := h2 x hx
        exact ⟨y, List.mem_cons_of_mem _ hy, q⟩
theorem turn_tied {wb : Wb} (wf : Wf wb) {rs : List Pr} {ps : List Pr} (h1 : ∀ r, r ∈ rs ↔ r ∈ wb.2) (h2 : Paired turnR rs ps) : (∀ p ∈ ps, p.1 ∈ wb.1 ∧ p.2 ∈ wb.1 ∧ p.1 ≠ p.2) ∧ ∀ x y, tiedIn ps x y = tied wb x y := by
  obtain ⟨m1, m2⟩ := prd_mem h2
  refine ⟨fun p hp => ?_, fun x y => ?_⟩
  · obtain ⟨r, hr, e⟩ := m1 p hp
    obtain ⟨t1, t2, t3⟩ := wf.tie r ((h1 r).mp hr)
    have ne : r.1 ≠ r.2 := fun z => by
      rw [z] at t3
      exact List.lt_irrefl _ t3
    rcases e with rfl | rfl
    · exact ⟨t1, t2, ne⟩
    · exact ⟨t2, t1, fun z => ne z.symm⟩
  · have key : ∀ x y, (x, y) ∈ ps → (x, y) ∈ wb.2 ∨ (y, x) ∈ wb.2 := fun x y h => by
      obtain ⟨r, hr, e⟩ := m1 _ h
      have hr := (h1 r).mp hr
      rcases e with e | e
      · exact .inl (e ▸ hr)
      · injection e with e1 e2
        exact .inr (by rw [e1, e2]; exact hr)
    have key2 : ∀ x y, (x, y) ∈ wb.2 → (x, y) ∈ ps ∨ (y, x) ∈ ps := fun x y h => by
      obtain ⟨q, hq, e⟩ := m2 _ ((h1 _).mpr h)
      rcases e with rfl | rfl
      · exact .inl hq
      · exact .inr hq
    have lt_of : ∀ x y, (x, y) ∈ wb.2 → (minS x y, maxS x y) = (x, y) ∧ (minS y x, maxS y x) = (x, y) := fun x y h => by
      have l : ltS x y := (wf.tie _ h).2.2
      have l : x.cps.toList < y.cps.toList := l
      have nl : ¬ y.cps.toList < x.cps.toList := List.lt_asymm l
      unfold minS maxS
      rw [if_neg nl, if_pos l, if_pos l, if_neg nl]
      exact ⟨rfl, rfl⟩
    unfold tiedIn tied
    apply Bool.eq_iff_iff.mpr
    rw [Bool.or_eq_true, decide_eq_true_iff, decide_eq_true_iff, decide_eq_true_iff]
    constructor
    · intro h
      have : (x, y) ∈ wb.2 ∨ (y, x) ∈ wb.2 := h.elim (key x y) fun h => (key y x h).symm
      rcases this with h | h
      · rw [(lt_of x y h).1]
        exact h
      · rw [(lt_of y x h).2]
        exact h
    · intro h
      have : (minS x y, maxS x y) = (x, y) ∨ (minS x y, maxS x y) = (y, x) := by
        unfold minS maxS
        by_cases l1 : y.cps.toList < x.cps.toList
        · have := List.lt_asymm l1
          rw [if_pos l1, if_neg this]
          exact .inr rfl
        · rw [if_neg l1]
          by_cases l2 : x.cps.toList < y.cps.toList
          · rw [if_pos l2]
            exact .inl rfl
          · rw [if_neg l2]
            have e : x = y := by
              have : x.cps.toList = y.cps.toList := List.le_antisymm (List.not_lt.mp l1) (List.not_lt.mp l2)
              cases x
              cases y
              simpa using this
            rw [e]
            exact .inl rfl
      rcases this with e | e
      · rw [e] at h
        exact key2 x y h
      · rw [e] at h
        exact (key2 y x h).symm
theorem ok_told_web (g : Gs K mg) (ck : Gk mg) (k : Gc K Cw webF) (d : DfM K Cw "__init__" "Web.__init__" s_web_init) (hw : mg "Web" = some (.ref Cw)) : OkS P w K mg base 7 "_law_told_web" ["_law_pot_here", "_law_plain_here"] (pm_told_web Cw).sp := by
  refine OkS.ofF (k := 6) (g.df _ 77) sc_told_web (fun _ => rfl) (fun _ _ _ _ _ _ us hl => match us, hl with | [_, _], _ => rfl) fun ⟨q, wb⟩ f cdv A outer s H Ex ex lk En hp hlk hr hR => ?_
  have wf : Wf wb := hp
  have hN := sc_told_web.nd
  have t50 := wf.tlen
  have l5 := wf.len
  refine B.asgS 2 (S := fun rs : List Pr => ∃ qs, qs.Sublist wb.2 ∧ rs = wb.2 ++ qs) (f := fun rs => L (rs.map pr)) (E.catS (ps := wb.2) (enc := pr) (S := fun qs => qs.Sublist wb.2) (E.ties hr (E.var (T := plT wb) 1)) (E.listUs (g.bi "list") ((E.ok (ok_some_of g) hr (q, true, wb.2.map pr) (by show (wb.2.map pr).length ≤ 100000; rw [List.length_map]; omega) (.cons (E.var (T := Ty.is (.ref q)) 0) (.cons (E.ties hr (E.var (T := plT wb) 1)) .nil)) (hq := fun z hz => hz)).imp fun v H w ⟨es, he, h⟩ => by
    obtain ⟨l', h1, rfl⟩ := List.sublist_map_iff.mp he
    exact ⟨l', h1, h⟩)) fun qs hq => by have := hq.length_le; omega) (fun rs hrs => ?_) hN
  · obtain ⟨qs, hqs, hrs⟩ := hrs
    have lrs : rs.length ≤ 100 := by
      have := hqs.length_le
      rw [hrs, List.length_append]
      omega
    refine B.lcLS (α := Pr) (β := Pr) (enc := pr) 2 (S := fun ys => ys.Perm rs) (R := turnR) pr 3 (E.shuf g hr (E.var (T := Ty.is (.ref q)) 0) (E.var (T := L (rs.map pr)) 2) (b := true) (by omega) (hq := fun z hz => hz)) [("_law_pair", 3)] (fun ys hys p hpy p' acc s H0 A' cl fp => ?_) (fun ys hys => by have := hys.length_eq; omega) (fun ys hys ps hps => ?_) (blkOk_by (N := N_told_web) (sc := defScope s_told_web) (by decide +kernel)) hN
    · exact E.ifExpS (S := fun _ => True) ((C.eqs (S := fun _ => True) ((E.stir g hr 2 (E.var (T := Ty.is (.ref q)) 0) E.int (hq := fun z hz => hz)).Nn.wk fun _ _ => trivial) (E.ex 0 E.int)).imp fun _ _ => trivial) (fun _ => (E.revP (E.var (T := U [.str p.1, .str p.2]) 3)).imp fun v H w z => ⟨_, .inr rfl, z⟩) fun _ => (E.var (T := D (pr p)) 3).imp fun v H w z => ⟨p, .inl rfl, z⟩
    · have hm : ∀ r, r ∈ ys ↔ r ∈ wb.2 := fun r => by
        rw [hys.mem_iff, hrs, List.mem_append]
        exact ⟨fun h => h.elim id fun h => hqs.subset h, .inl⟩
      obtain ⟨tt1, tt2⟩ := turn_tied wf hm hps
      have lps : ps.length ≤ 100 := by
        have := prd_len hps
        have := hys.length_eq
        omega
      refine B.retF hR (Le.refl _) (EG.mkG (Ts := [.some (fun ys : List Str => ys.Perm wb.1) G, U (ps.map pr)]) (p := pm_web_init) (ok_web_init g ck k d) hw hr (.cons (E.tupleLs (enc := PyData.str) (S := fun ys : List Str => ys.Perm wb.1) (g.bi "tuple") (E.shuf g hr (E.var (T := Ty.is (.ref q)) 0) (E.things hr (E.var (T := plT wb) 1)) (b := false) (by omega) (hq := fun z hz => hz))) (.cons (E.tupleL (g.bi "tuple") (E.var (T := L (ps.map pr)) 2)) .nil)) (fun vs H w h => ?_))
      cases h with
      | cons a1 t =>
        cases t with
        | cons a2 t =>
          cases t
          obtain ⟨xs, hxs, a1⟩ := a1
          exact ⟨(wb, xs, ps), ⟨wf, ⟨sortS_of_perm wf.asc hxs, fun x => hxs.mem_iff, hxs.nodup_iff.mpr wf.asc.nodup⟩, fun p hp => ⟨hxs.mem_iff.mpr (tt1 p hp).1, hxs.mem_iff.mpr (tt1 p hp).2.1, (tt1 p hp).2.2⟩, by show ps.length ≤ 1000; omega, fun x _ y _ => tt2 x y⟩, fun _ z => (by cases z), .cons a1 (.cons a2 .nil), rfl, fun c ex v H h => h⟩
end
end HB


namespace HB
open PySem L2 PyProof.Rows PySem.Spec
/-- a list of numbers that lies still: tracked, known, or in the fragment -/
def Scr (K : PySem.W.Frag) (ns : List Int) : Ty := ⟨fun ex v H => ∃ a, v = .ref a ∧ ((¬ ex a ∧ H a = some (.lst (ns.map V.int))) ∨ (¬ ex a ∧ ∃ o, H a = some (.frz o (.lst (ns.map V.int)))) ∨
    ∃ (o : Obj) (its : Array Value) (n : Nat), K.lookup a = some o ∧ o.cls = .type "list" ∧ o.dict = none ∧ o.data = .seq its n ∧ its.size ≤ sizeLine ∧ Vals (ns.map V.int) its.toList), fun k ⟨a, e, h⟩ => by
  rcases h with ⟨n, h⟩ | ⟨n, o, h⟩ | h
  · obtain ⟨h', n'⟩ := k.hard _ _ h n rfl (fun _ _ z => by cases z)
    exact ⟨a, e, .inl ⟨n', h'⟩⟩
  · obtain ⟨h', n'⟩ := k.frz _ _ _ h n
    exact ⟨a, e, .inr (.inl ⟨n', o, h'⟩)⟩
  · exact ⟨a, e, .inr (.inr h)⟩⟩
theorem Scr.sq {K : PySem.W.Frag} {ns : List Int} {ex : Ads} {v : V} {H : Hp} (h : (Scr K ns).P ex v H) : ∃ a, v = .ref a ∧ SqL K H a (ns.map V.int) := by
  obtain ⟨a, e, h⟩ := h
  rcases h with ⟨n, h⟩ | ⟨n, o, h⟩ | h
  · exact ⟨a, e, .inl (.inl h)⟩
  · exact ⟨a, e, .inl (.inr ⟨o, h⟩)⟩
  · exact ⟨a, e, .inr h⟩
section
variable {X : Cx} {M : Mx} {Γ : Gm} {e a b : Expr} {pos p : Pos} {ns : List Int}
theorem E.lenScr (hm : X.mg "len" = none) (h : E X M Γ e (Scr X.K ns)) (hg : Gl X "len" := by rfl) (he : starEach [e] X.env = (false, eval e X.env) :: starEach [] X.env := by rfl) : E X M Γ (.Call (.Name "len" p) [e] [] pos) (I (ns.length : Int)) :=
  E.callB call_len_seq PySem.boot_len hm (.cons h .nil he) (.one fun v H Q w h k => by
    obtain ⟨a, rfl, hs⟩ := Scr.sq h
    have q := k (.int (ns.length : Int)) H (St.refl w) (.int _)
    refine ⟨a, _, rfl, .inl hs, ?_⟩
    rw [List.length_map]
    exact q) hg (he := he)
theorem E.ixScr {i : Nat} (ha : E X M Γ a (Scr X.K ns)) (hb : E X M Γ b (I (i : Int))) (hi : i < ns.length) (hp : PlainIx b := by intro _ _; rfl) : E X M Γ (.Subscript a b pos) (I ns[i]) := fun σ H l =>
  wE.of (pe_ix ix_list pe_w pe_w hp) (two ha hb l fun x y H2 w s h1 h2 => by
    cases h2
    obtain ⟨c, rfl, hs⟩ := Scr.sq h1
    exact ⟨c, _, _, .int ns[i], rfl, rfl, hs, atI_nat (by rw [List.getElem?_map, List.getElem?_eq_getElem hi]; rfl), s, .int _⟩)
end
end HB


namespace HB
open PySem L2 PyProof.Rows PySem.Spec
theorem EF.imp {X : Cx} {M : Mx} {Γ : Gm} {e : Expr} {c c' : Cn} (h : EF X M Γ e c) (k : ∀ ex H o, c.P ex H o → c'.P ex H o) : EF X M Γ e c' := fun σ H l => (h σ H l).mono fun v H' ⟨p, H1, o, a, b, d, e, f, q⟩ => ⟨p, H1, o, a, b, d, e, f, k _ _ _ q⟩
def CPowW (i j : Int) : Prop := 0 ≤ j ∧ (Builtin.Int.intBits i : Int) * j ≤ 2 ^ 27
theorem op_powW {X : Cx} : OpR X (binaryOp .Pow) (rI CPowW fun i j => .int (i ^ j.toNat)) := opI fun _ _ _ _ _ _ _ hc q => pow_int hc.1 hc.2 q
section
variable {X : Cx} {M : Mx} {Γ : Gm} {a b : Expr} {pos : Pos} {i j : Int}
theorem E.powW (ha : E X M Γ a (I i)) (hb : E X M Γ b (I j)) (c : CPowW i j) : E X M Γ (.BinOp a .Pow b pos) (I (i ^ j.toNat)) := E.bin op_powW ha hb (Op2.i1 c fun _ _ => .int _)
end
section
variable {P : Program} {w : World} {K : PySem.W.Frag} {mg : Str → Option Value} {base : Heap} {Cp Cc Cw : Addr}
def bigM : Int := ((10 : Int) ^ (59 : Int).toNat) ^ (9 : Int).toNat
theorem bigM_pos : 0 < bigM := by unfold bigM; decide +kernel
def pm_pot (K : PySem.W.Frag) : PmF (List Int × Nat) where
  pre := fun q => q.1.length ≤ 1000 ∧ q.2 ≤ 1000
  args := fun q => [Scr K q.1, I (q.2 : Int)]
  cn := fun _ => PotOk
  res := fun _ c => Ty.is (.ref c)
theorem pot_of {x y z : Int} {ex : Ads} {H : Hp} {o : HO} (h : (cnL [.int x, .int y, .int z]).P ex H o) : PotP o := by
  obtain ⟨xs, rfl, r⟩ := h
  cases r with
  | cons r1 r =>
    cases r1
    cases r with
    | cons r2 r =>
      cases r2
      cases r with
      | cons r3 r =>
        cases r3
        cases r
        exact ⟨_, _, _, rfl⟩
theorem ok_pot (g : Gs K mg) : OkS P w K mg base 1 "_law_pot" ["_law_script", "_law_at"] (pm_pot K).sp := by
  refine OkS.ofF (k := 0) (g.df _ 61) sc_pot (fun _ => rfl) (fun _ _ _ _ _ _ us hl => match us, hl with | [_, _], _ => rfl) fun ⟨ns, n⟩ f cdv A outer s H Ex ex lk En hp hlk hr hR => ?_
  obtain ⟨h1, h2⟩ := hp
  have h1 : ns.length ≤ 1000 := h1
  have h2 : n ≤ 1000 := h2
  have hN := sc_pot.nd
  refine B.asgS 2 (S := fun _ : Int => True) (f := I) (E.ifExpS (S := fun v => v = decide ((n : Int) < (ns.length : Int))) (C.ltI (E.var (T := I (n : Int)) 1) (E.lenScr (ns := ns) (g.bi "len") (E.var (T := Scr K ns) 0))) (fun hv => ?_) fun _ => (E.add (E.mul E.int (E.var (T := I (n : Int)) 1) (cmul_l (by decide))) E.int).imp fun v H w z => ⟨_, trivial, z⟩) (fun k _ => ?_) hN
  · have hl : n < ns.length := by
      have := of_decide_eq_true hv.symm
      omega
    exact (E.ixScr (i := n) (ns := ns) (E.var (T := Scr K ns) 0) (E.var (T := I (n : Int)) 1) hl).imp fun v H w z => ⟨_, trivial, z⟩
  · refine B.asg 3 (T := I ((if k < 0 then -k else k) % bigM)) (E.mod (E.intI (g.bi "int") (E.abs (g.bi "abs") (E.var (T := I k) 2))) (E.powW (E.powW E.int E.int (by unfold CPowW; decide +kernel)) E.int (by unfold CPowW; decide +kernel)) bigM_pos) ?_ hN
    generalize (if k < 0 then -k else k) % bigM = gr'
    refine B.asgS 4 (S := fun _ : Int => True) (f := I) ((E.add (E.add (E.add (E.mul (E.mod (E.intI (g.bi "int") (E.var (T := I gr') 3)) E.int (by decide)) E.int (cmul_r (by decide))) (E.mul E.int (E.var (T := I (n : Int)) 1) (cmul_l (by decide)))) (E.mul E.int (E.intB (g.bi "int") (E.ltI (E.var (T := I k) 2) (E.int (i := 0)))) (cmul_l (by decide)))) E.int).imp fun v H w z => ⟨_, trivial, z⟩) (fun mx _ => ?_) hN
    refine B.retF hR (Le.refl _) (EF.g (EF.imp (EF.lst (ds := [.int _, .int _, .int 0]) (.cons (E.max2 (g.bi "max") E.int (E.sub (E.var (T := I gr') 3) (E.pow E.int E.int ⟨by decide, by decide, by decide⟩))) (.cons (E.mod (E.intI (g.bi "int") (E.var (T := I mx) 4)) E.int (by decide)) (.cons E.int .nil)))) fun ex H o h => pot_of h))
end
end HB


namespace HB
open PySem L2 PyProof.Rows PySem.Spec
def compat (w : Wb) (r : List Str) : Prop := r.Pairwise fun a b => mates w b a = false
theorem compat_snoc {w : Wb} {r : List Str} {y : Str} : compat w (r ++ [y]) ↔ compat w r ∧ ∀ z ∈ r, mates w y z = false := by
  unfold compat
  rw [List.pairwise_append]
  constructor
  · exact fun ⟨a, _, b⟩ => ⟨a, fun z hz => b z hz y (List.mem_singleton.mpr rfl)⟩
  · exact fun ⟨a, b⟩ => ⟨a, by simp, fun z hz y' hy' => by rw [List.mem_singleton.mp hy']; exact b z hz⟩
theorem mem_roomStep {w : Wb} {rs : List (List Str)} {y : Str} {r : List Str} : r ∈ roomStep w rs y ↔ r ∈ rs ∨ ∃ r', r' ∈ rs ∧ (∀ z ∈ r', mates w y z = false) ∧ r = r' ++ [y] := by
  unfold roomStep
  rw [List.mem_append, List.mem_map]
  constructor
  · rintro (h | ⟨r', h, rfl⟩)
    · exact .inl h
    · obtain ⟨h1, h2⟩ := List.mem_filter.mp h
      refine .inr ⟨r', h1, fun z hz => ?_, rfl⟩
      have : (r'.any fun z => mates w y z) = false := by simpa using h2
      exact Bool.eq_false_iff.mpr fun e => by rw [List.any_eq_true.mpr ⟨z, hz, e⟩] at this; cases this
  · rintro (h | ⟨r', h1, h2, rfl⟩)
    · exact .inl h
    · refine .inr ⟨r', List.mem_filter.mpr ⟨h1, ?_⟩, rfl⟩
      have : (r'.any fun z => mates w y z) = false := Bool.eq_false_iff.mpr fun e => by
        obtain ⟨z, hz, e⟩ := List.any_eq_true.mp e
        rw [h2 z hz] at e
        cases e
      rw [this]
      rfl
theorem snoc_ind {α : Type} {p : List α → Prop} (h0 : p []) (h1 : ∀ xs x, p xs → p (xs ++ [x])) : ∀ xs, p xs := by
  intro xs
  have key : ∀ (n : Nat) (xs : List α), xs.length = n → p xs := by
    intro n
    induction n with
    | zero =>
      intro xs h
      rw [List.eq_nil_of_length_eq_zero h]
      exact h0
    | succ n ih =>
      intro xs h
      have hne : xs ≠ [] := by intro z; rw [z] at h; cases h
      rw [← List.dropLast_concat_getLast hne]
      exact h1 _ _ (ih _ (by rw [List.length_dropLast]; omega))
  exact key _ xs rfl
theorem mem_rooms {w : Wb} {h : Str} : ∀ (ys : List Str) (r : List Str), r ∈ ys.foldl (roomStep w) [[h]] ↔ ∃ s, r = h :: s ∧ s.Sublist ys ∧ compat w (h :: s) := by
  refine snoc_ind (fun r => ?_) fun ys y ih r => ?_
  · constructor
    · intro e
      rw [List.mem_singleton.mp e]
      exact ⟨[], rfl, .slnil, by simp [compat]⟩
    · rintro ⟨s, rfl, hs, _⟩
      rw [List.sublist_nil.mp hs]
      exact List.mem_singleton.mpr rfl
  · rw [List.foldl_append]
    show r ∈ roomStep w _ y ↔ _
    rw [mem_roomStep]
    constructor
    · rintro (h1 | ⟨r', h1, h2, rfl⟩)
      · obtain ⟨s, e, a, b⟩ := (ih r).mp h1
        exact ⟨s, e, a.trans (List.sublist_append_left _ _), b⟩
      · obtain ⟨s, rfl, a, b⟩ := (ih r').mp h1
        exact ⟨s ++ [y], rfl, a.append (.refl _), compat_snoc.mpr ⟨b, h2⟩⟩
    · rintro ⟨s, rfl, a, b⟩
      obtain ⟨s1, s2, rfl, a1, a2⟩ := List.sublist_append_iff.mp a
      rcases List.sublist_cons_iff.mp a2 with a3 | ⟨t, rfl, a3⟩
      · rw [List.sublist_nil.mp a3, List.append_nil] at b ⊢
        exact .inl ((ih _).mpr ⟨s1, rfl, a1, b⟩)
      · rw [List.sublist_nil.mp a3] at b ⊢
        have b : compat w ((h :: s1) ++ [y]) := b
        obtain ⟨b1, b2⟩ := compat_snoc.mp b
        exact .inr ⟨h :: s1, (ih _).mpr ⟨s1, rfl, a1, b1⟩, b2, rfl⟩
end HB


namespace HB
open PySem L2 PyProof.Rows PySem.Spec
theorem minS_comm (x y : Str) : minS x y = minS y x := by
  by_cases e : x = y
  · rw [e]
  · unfold minS
    rcases ltS_total e with h | h
    · rw [if_pos (show x.cps.toList < y.cps.toList from h), if_neg (show ¬ y.cps.toList < x.cps.toList from ltS_asymm h)]
    · rw [if_pos (show y.cps.toList < x.cps.toList from h), if_neg (show ¬ x.cps.toList < y.cps.toList from ltS_asymm h)]
theorem maxS_comm (x y : Str) : maxS x y = maxS y x := by
  by_cases e : x = y
  · rw [e]
  · unfold maxS
    rcases ltS_total e with h | h
    · rw [if_pos (show x.cps.toList < y.cps.toList from h), if_neg (show ¬ y.cps.toList < x.cps.toList from ltS_asymm h)]
    · rw [if_pos (show y.cps.toList < x.cps.toList from h), if_neg (show ¬ x.cps.toList < y.cps.toList from ltS_asymm h)]
theorem tied_comm (w : Wb) (x y : Str) : tied w x y = tied w y x := by unfold tied; rw [minS_comm, maxS_comm]
theorem tied_self {w : Wb} (h : Wf w) (x : Str) : tied w x x = false := by
  unfold tied
  rw [decide_eq_false_iff_not]
  intro z
  have := (h.tie _ z).2.2
  have e : minS x x = x := by unfold minS; split <;> rfl
  have e2 : maxS x x = x := by unfold maxS; split <;> rfl
  rw [e, e2] at this
  exact ltS_irrefl x this
theorem mates_tied {w : Wb} {x y : Str} (hy : y ∈ w.1) : mates w x y = tied w x y := by
  unfold mates partners
  by_cases h : tied w x y = true
  · rw [h]
    exact decide_eq_true (List.mem_filter.mpr ⟨hy, h⟩)
  · rw [Bool.not_eq_true] at h
    rw [h]
    refine decide_eq_false fun z => ?_
    rw [(List.mem_filter.mp z).2] at h
    cases h
/-- no two of them are tied -/
def Free (w : Wb) (r : List Str) : Prop := ∀ a ∈ r, ∀ b ∈ r, tied w a b = false
theorem compat_free {w : Wb} (hw : Wf w) : ∀ {r : List Str}, (∀ x ∈ r, x ∈ w.1) → (compat w r ↔ Free w r)
  | [], _ => ⟨fun _ a ha => (by cases ha), fun _ => by simp [compat]⟩
  | x :: r, h => by
    have ih := compat_free hw (r := r) fun y hy => h y (List.mem_cons_of_mem _ hy)
    unfold compat
    rw [List.pairwise_cons]
    constructor
    · rintro ⟨h1, h2⟩ a ha b hb
      have f := ih.mp h2
      have hx : ∀ y ∈ r, tied w x y = false := fun y hy => by
        rw [tied_comm, ← mates_tied (h x List.mem_cons_self)]
        exact h1 y hy
      rcases List.mem_cons.mp ha with e1 | a1
      · rcases List.mem_cons.mp hb with e2 | b1
        · rw [e1, e2]
          exact tied_self hw _
        · rw [e1]
          exact hx b b1
      · rcases List.mem_cons.mp hb with e2 | b1
        · rw [e2, tied_comm]
          exact hx a a1
        · exact f a a1 b b1
    · intro f
      refine ⟨fun y hy => ?_, ih.mpr fun a ha b hb => f a (List.mem_cons_of_mem _ ha) b (List.mem_cons_of_mem _ hb)⟩
      rw [mates_tied (h x List.mem_cons_self)]
      exact f y (List.mem_cons_of_mem _ hy) x List.mem_cons_self
theorem rooms_free {w : Wb} (hw : Wf w) {x : Str} {gs : List Str} (hs : (x :: gs).Sublist w.1) {r : List Str} : r ∈ rooms w (x :: gs) ↔ r.Sublist (x :: gs) ∧ x ∈ r ∧ Free w r := by
  have nd : (x :: gs).Nodup := hs.nodup hw.asc.nodup
  have e : rooms w (x :: gs) = gs.foldl (roomStep w) [[x]] := rfl
  rw [e, mem_rooms]
  constructor
  · rintro ⟨s, rfl, a, b⟩
    have sub : (x :: s).Sublist (x :: gs) := a.cons₂ x
    exact ⟨sub, List.mem_cons_self, (compat_free hw fun y hy => hs.subset (sub.subset hy)).mp b⟩
  · rintro ⟨a, b, c⟩
    rcases List.sublist_cons_iff.mp a with a' | ⟨s, rfl, a'⟩
    · exact absurd (a'.subset b) (List.nodup_cons.mp nd).1
    · exact ⟨s, rfl, a', (compat_free hw fun y hy => hs.subset (a.subset hy)).mpr c⟩
theorem grows_spec {w : Wb} {r g : List Str} (hr : ∀ y ∈ r, y ∈ w.1) : grows w r g = true ↔ ∃ x ∈ g, x ∉ r ∧ ∀ y ∈ r, tied w x y = false := by
  unfold grows
  rw [List.any_eq_true]
  constructor
  · rintro ⟨x, hx, h⟩
    rw [Bool.and_eq_true, List.all_eq_true] at h
    refine ⟨x, hx, by simpa using h.1, fun y hy => ?_⟩
    have := h.2 y hy
    rw [mates_tied (hr y hy)] at this
    simpa using this
  · rintro ⟨x, hx, h1, h2⟩
    refine ⟨x, hx, ?_⟩
    rw [Bool.and_eq_true, List.all_eq_true]
    refine ⟨by simpa using h1, fun y hy => ?_⟩
    rw [mates_tied (hr y hy), h2 y hy]
    rfl
/-- a room, and a thing that fits beside it: the next room -/
theorem room_next {w : Wb} (hw : Wf w) {h : Str} {gs : List Str} (hs : (h :: gs).Sublist w.1) {r : List Str} (hr : r ∈ rooms w (h :: gs)) {x : Str} (hx : x ∈ h :: gs) (hxr : x ∉ r) (hf : ∀ y ∈ r, tied w x y = false) : ∃ r' ∈ rooms w (h :: gs), r.length < r'.length ∧ ∀ y ∈ r, y ∈ r' := by
  obtain ⟨a, b, c⟩ := (rooms_free hw hs).mp hr
  have nd : (h :: gs).Nodup := hs.nodup hw.asc.nodup
  let r' := (h :: gs).filter fun z => decide (z ∈ r) || decide (z = x)
  have mem : ∀ z, z ∈ r' ↔ z ∈ h :: gs ∧ (z ∈ r ∨ z = x) := fun z => by
    show z ∈ (h :: gs).filter _ ↔ _
    rw [List.mem_filter]
    simp
  refine ⟨r', (rooms_free hw hs).mpr ⟨List.filter_sublist, (mem h).mpr ⟨List.mem_cons_self, .inl b⟩, fun p hp q hq => ?_⟩, ?_, fun y hy => (mem y).mpr ⟨a.subset hy, .inl hy⟩⟩
  · rcases ((mem p).mp hp).2 with p1 | rfl
    · rcases ((mem q).mp hq).2 with q1 | rfl
      · exact c p p1 q q1
      · rw [tied_comm]
        exact hf p p1
    · rcases ((mem q).mp hq).2 with q1 | rfl
      · exact hf q q1
      · exact tied_self hw _
  · have := nodup_le (l := x :: r) (d := r') (List.nodup_cons.mpr ⟨hxr, a.nodup nd⟩) fun z hz => by
      (rcases List.mem_cons.mp hz with rfl | hz)
      · exact (mem z).mpr ⟨hx, .inr rfl⟩
      · exact (mem z).mpr ⟨a.subset hz, .inl hz⟩
    rw [List.length_cons] at this
    omega
theorem rooms_ok {w : Wb} (hw : Wf w) : RoomsOk w := fun g ne hs => by
  cases g with
  | nil => exact absurd rfl ne
  | cons h gs =>
    have key : ∀ (k : Nat) (r : List Str), r ∈ rooms w (h :: gs) → (h :: gs).length - r.length ≤ k → firstRooms w (h :: gs) ≠ [] := by
      intro k
      induction k with
      | zero =>
        intro r hr hk e
        have sub := ((rooms_free hw hs).mp hr).1
        by_cases gr : grows w r (h :: gs) = true
        · obtain ⟨x, hx, hxr, hf⟩ := (grows_spec fun y hy => hs.subset (sub.subset hy)).mp gr
          obtain ⟨r', hr', hl, _⟩ := room_next hw hs hr hx hxr hf
          have := ((rooms_free hw hs).mp hr').1.length_le
          omega
        · have : r ∈ firstRooms w (h :: gs) := List.mem_filter.mpr ⟨hr, by simpa using gr⟩
          rw [e] at this
          cases this
      | succ k ih =>
        intro r hr hk e
        have sub := ((rooms_free hw hs).mp hr).1
        by_cases gr : grows w r (h :: gs) = true
        · obtain ⟨x, hx, hxr, hf⟩ := (grows_spec fun y hy => hs.subset (sub.subset hy)).mp gr
          obtain ⟨r', hr', hl, _⟩ := room_next hw hs hr hx hxr hf
          have := ((rooms_free hw hs).mp hr').1.length_le
          exact ih r' hr' (by omega) e
        · have : r ∈ firstRooms w (h :: gs) := List.mem_filter.mpr ⟨hr, by simpa using gr⟩
          rw [e] at this
          cases this
    have h0 : [h] ∈ rooms w (h :: gs) := (rooms_free hw hs).mpr ⟨List.singleton_sublist.mpr List.mem_cons_self, List.mem_singleton.mpr rfl, fun a ha b hb => by
      rw [List.mem_singleton.mp ha, List.mem_singleton.mp hb]
      exact tied_self hw _⟩
    exact key _ _ h0 (Nat.le_refl _)
end HB


namespace HB
open PySem L2 PyProof.Rows PySem.Spec
def chiN (w : Wb) : Nat → List Str → Int
  | 0, _ => 0
  | n + 1, g => if g = [] then 0 else 1 + least ((rooms w g).map fun r => chiN w n (leftG g r))
def chi (w : Wb) (g : List Str) : Int := chiN w g.length g
theorem room_head {w : Wb} {x : Str} {g : List Str} : ∀ r ∈ rooms w (x :: g), x ∈ r := fun r hr => rooms_head w _ _ (fun r hr => by rw [List.mem_singleton.mp hr]; simp) r hr
theorem chiN_fuel (w : Wb) : ∀ (n m : Nat) (g : List Str), g.length ≤ n → g.length ≤ m → chiN w n g = chiN w m g
  | 0, m, g, h, _ => by
    have : g = [] := List.eq_nil_of_length_eq_zero (by omega)
    subst this
    cases m <;> simp [chiN]
  | n + 1, 0, g, _, h => by
    have : g = [] := List.eq_nil_of_length_eq_zero (by omega)
    subst this
    simp [chiN]
  | n + 1, m + 1, g, h, h' => by
    cases g with
    | nil => simp [chiN]
    | cons x g =>
      unfold chiN
      (rw [if_neg (by simp), if_neg (by simp)])
      congr 2
      apply List.map_congr_left
      intro r hr
      have := left_short (g := x :: g) (r := r) List.mem_cons_self (room_head r hr)
      exact chiN_fuel w n m _ (by omega) (by omega)
theorem chi_step {w : Wb} {x : Str} {g : List Str} : chi w (x :: g) = 1 + least ((rooms w (x :: g)).map fun r => chi w (leftG (x :: g) r)) := by
  show chiN w (g.length + 1) (x :: g) = _
  unfold chiN
  rw [if_neg (by simp)]
  congr 2
  apply List.map_congr_left
  intro r hr
  have := left_short (g := x :: g) (r := r) List.mem_cons_self (room_head r hr)
  exact chiN_fuel w _ _ _ (by simp at this; omega) (Nat.le_refl _)
theorem least_mem : ∀ {ns : List Int}, ns ≠ [] → least ns ∈ ns ∧ ∀ k ∈ ns, least ns ≤ k
  | [], h => absurd rfl h
  | [x], _ => ⟨List.mem_singleton.mpr rfl, fun k hk => by rw [List.mem_singleton.mp hk]; exact Int.le_refl _⟩
  | x :: y :: ns, _ => by
    obtain ⟨h1, h2⟩ := least_mem (ns := y :: ns) (by simp)
    unfold least
    refine ⟨?_, fun k hk => ?_⟩
    · by_cases c : x ≤ least (y :: ns)
      · rw [Int.min_eq_left c]
        exact List.mem_cons_self
      · rw [Int.min_eq_right (by omega)]
        exact List.mem_cons_of_mem _ h1
    · rcases List.mem_cons.mp hk with rfl | hk
      · omega
      · have := h2 k hk
        omega
theorem chi_best {w : Wb} (hw : Wf w) {x : Str} {g : List Str} (hs : (x :: g).Sublist w.1) : (∃ r ∈ rooms w (x :: g), chi w (x :: g) = 1 + chi w (leftG (x :: g) r)) ∧ ∀ r ∈ rooms w (x :: g), chi w (x :: g) ≤ 1 + chi w (leftG (x :: g) r) := by
  have h0 : [x] ∈ rooms w (x :: g) := (rooms_free hw hs).mpr ⟨List.singleton_sublist.mpr List.mem_cons_self, List.mem_singleton.mpr rfl, fun a ha b hb => by
    rw [List.mem_singleton.mp ha, List.mem_singleton.mp hb]
    exact tied_self hw _⟩
  obtain ⟨h1, h2⟩ := least_mem (ns := (rooms w (x :: g)).map fun r => chi w (leftG (x :: g) r)) (by intro e; rw [List.map_eq_nil_iff] at e; rw [e] at h0; cases h0)
  rw [chi_step]
  refine ⟨?_, fun r hr => ?_⟩
  · obtain ⟨r, hr, e⟩ := List.mem_map.mp h1
    exact ⟨r, hr, by rw [e]⟩
  · have := h2 _ (List.mem_map.mpr ⟨r, hr, rfl⟩)
    omega
theorem left_left (g r s : List Str) : leftG (leftG g r) s = leftG (leftG g s) r := by
  unfold leftG
  rw [List.filter_filter, List.filter_filter]
  apply List.filter_congr
  intro x _
  exact Bool.and_comm _ _
theorem chi_free {w : Wb} (hw : Wf w) : ∀ (n : Nat) (g s : List Str), g.length ≤ n → g.Sublist w.1 → (∀ x ∈ s, x ∈ g) → Free w s → s ≠ [] → chi w g ≤ 1 + chi w (leftG g s) := by
  intro n
  induction n with
  | zero =>
    intro g s hl _ hsg _ hne
    cases s with
    | nil => exact absurd rfl hne
    | cons x s =>
      have := List.length_pos_of_mem (hsg x List.mem_cons_self)
      omega
  | succ n ih =>
    intro g s hl hg hsg hf hne
    cases g with
    | nil =>
      cases s with
      | nil => exact absurd rfl hne
      | cons x s => cases hsg x List.mem_cons_self
    | cons h gs =>
      by_cases hh : h ∈ s
      · have hr : (h :: gs).filter (fun z => decide (z ∈ s)) ∈ rooms w (h :: gs) := (rooms_free hw hg).mpr ⟨List.filter_sublist, List.mem_filter.mpr ⟨List.mem_cons_self, by simpa using hh⟩, fun a ha b hb => hf a (by simpa using (List.mem_filter.mp ha).2) b (by simpa using (List.mem_filter.mp hb).2)⟩
        have := (chi_best hw hg).2 _ hr
        have e : leftG (h :: gs) ((h :: gs).filter fun z => decide (z ∈ s)) = leftG (h :: gs) s := by
          unfold leftG
          apply List.filter_congr
          intro z hz
          congr 1
          apply decide_eq_decide.mpr
          rw [List.mem_filter]
          simp [hz]
        rw [e] at this
        exact this
      · have el : leftG (h :: gs) s = h :: leftG gs s := by
          unfold leftG
          rw [List.filter_cons, if_pos (by simpa using hh)]
        have sub : (leftG (h :: gs) s).Sublist (h :: gs) := List.filter_sublist
        have hg2 : (h :: leftG gs s).Sublist w.1 := el ▸ sub.trans hg
        obtain ⟨⟨r, hr, er⟩, _⟩ := chi_best hw hg2
        obtain ⟨r1, r2, r3⟩ := (rooms_free hw hg2).mp hr
        have hr2 : r ∈ rooms w (h :: gs) := (rooms_free hw hg).mpr ⟨r1.trans (el ▸ sub), r2, r3⟩
        have c1 := (chi_best hw hg).2 r hr2
        have sh := left_short (g := h :: gs) (r := r) List.mem_cons_self r2
        have c2 := ih (leftG (h :: gs) r) s (by omega) (List.filter_sublist.trans hg) (fun x hx => List.mem_filter.mpr ⟨hsg x hx, by
          have : x ∉ r := fun z => by
            have := r1.subset z
            rw [← el] at this
            have := (List.mem_filter.mp this).2
            simp [hx] at this
          simpa using this⟩) hf hne
        rw [left_left, el] at c2
        rw [el, er]
        omega
theorem chi_mono {w : Wb} (hw : Wf w) : ∀ (n : Nat) (g g' : List Str), g.length ≤ n → g.Sublist w.1 → g'.Sublist g → chi w g' ≤ chi w g := by
  intro n
  induction n with
  | zero =>
    intro g g' hl _ hs
    have : g = [] := List.eq_nil_of_length_eq_zero (by omega)
    subst this
    rw [List.sublist_nil.mp hs]
    exact Int.le_refl _
  | succ n ih =>
    intro g g' hl hg hs
    cases g with
    | nil =>
      rw [List.sublist_nil.mp hs]
      exact Int.le_refl _
    | cons h gs =>
      obtain ⟨⟨r, hr, er⟩, _⟩ := chi_best hw hg
      obtain ⟨r1, r2, r3⟩ := (rooms_free hw hg).mp hr
      have sh := left_short (g := h :: gs) (r := r) List.mem_cons_self r2
      have c1 := ih (leftG (h :: gs) r) (leftG g' r) (by omega) (List.filter_sublist.trans hg) (hs.filter _)
      by_cases e : g'.filter (fun z => decide (z ∈ r)) = []
      · have : leftG g' r = g' := by
          unfold leftG
          rw [List.filter_eq_self]
          intro z hz
          have := List.filter_eq_nil_iff.mp e z hz
          simpa using this
        rw [this] at c1
        rw [er]
        omega
      · have c2 := chi_free hw g'.length g' (g'.filter fun z => decide (z ∈ r)) (Nat.le_refl _) (hs.trans hg) (fun x hx => (List.mem_filter.mp hx).1) (fun a ha b hb => r3 a (by simpa using (List.mem_filter.mp ha).2) b (by simpa using (List.mem_filter.mp hb).2)) e
        have el : leftG g' (g'.filter fun z => decide (z ∈ r)) = leftG g' r := by
          unfold leftG
          apply List.filter_congr
          intro z hz
          congr 1
          apply decide_eq_decide.mpr
          rw [List.mem_filter]
          simp [hz]
        rw [el] at c2
        rw [er]
        omega
end HB


namespace HB
open PySem L2 PyProof.Rows PySem.Spec
/-- every room lies in a first room -/
theorem room_full {w : Wb} (hw : Wf w) {h : Str} {gs : List Str} (hs : (h :: gs).Sublist w.1) : ∀ (k : Nat) (r : List Str), r ∈ rooms w (h :: gs) → (h :: gs).length - r.length ≤ k → ∃ f ∈ firstRooms w (h :: gs), ∀ y ∈ r, y ∈ f := by
  intro k
  induction k with
  | zero =>
    intro r hr hk
    have sub := ((rooms_free hw hs).mp hr).1
    by_cases gr : grows w r (h :: gs) = true
    · obtain ⟨x, hx, hxr, hf⟩ := (grows_spec fun y hy => hs.subset (sub.subset hy)).mp gr
      obtain ⟨r', hr', hl, _⟩ := room_next hw hs hr hx hxr hf
      have := ((rooms_free hw hs).mp hr').1.length_le
      omega
    · exact ⟨r, List.mem_filter.mpr ⟨hr, by simpa using gr⟩, fun y hy => hy⟩
  | succ k ih =>
    intro r hr hk
    have sub := ((rooms_free hw hs).mp hr).1
    by_cases gr : grows w r (h :: gs) = true
    · obtain ⟨x, hx, hxr, hf⟩ := (grows_spec fun y hy => hs.subset (sub.subset hy)).mp gr
      obtain ⟨r', hr', hl, hm⟩ := room_next hw hs hr hx hxr hf
      obtain ⟨f, hf1, hf2⟩ := ih r' hr' (by omega)
      exact ⟨f, hf1, fun y hy => hf2 y (hm y hy)⟩
    · exact ⟨r, List.mem_filter.mpr ⟨hr, by simpa using gr⟩, fun y hy => hy⟩
/-- a sublist by members -/
theorem left_sub {g r f : List Str} (h : ∀ y ∈ r, y ∈ f) : (leftG g f).Sublist (leftG g r) := by
  have : leftG g f = leftG (leftG g r) f := by
    unfold leftG
    rw [List.filter_filter]
    apply List.filter_congr
    intro x _
    by_cases c : x ∈ f
    · simp [c]
    · have : ¬ x ∈ r := fun k => c (h x k)
      simp [c, this]
  rw [this]
  exact List.filter_sublist
/-- colours by greatest rooms are colours by all rooms -/
theorem col_chi {w : Wb} (hw : Wf w) : ∀ (n : Nat) (g : List Str), g.length ≤ n → g.Sublist w.1 → col w g = chi w g := by
  intro n
  induction n with
  | zero =>
    intro g hl _
    have : g = [] := List.eq_nil_of_length_eq_zero (by omega)
    subst this
    rfl
  | succ n ih =>
    intro g hl hg
    cases g with
    | nil => rfl
    | cons h gs =>
      have ne := rooms_ok hw (h :: gs) (by simp) hg
      have mapne : ((firstRooms w (h :: gs)).map fun r => col w (leftG (h :: gs) r)) ≠ [] := fun e => ne (List.map_eq_nil_iff.mp e)
      obtain ⟨l1, l2⟩ := least_mem mapne
      rw [col_step (by simp)]
      have cc : ∀ r ∈ rooms w (h :: gs), col w (leftG (h :: gs) r) = chi w (leftG (h :: gs) r) := fun r hr => by
        have sh := left_short (g := h :: gs) (r := r) List.mem_cons_self (room_head r hr)
        exact ih _ (by omega) (List.filter_sublist.trans hg)
      obtain ⟨⟨r, hr, er⟩, low⟩ := chi_best hw hg
      obtain ⟨r0, hr0, er0⟩ := List.mem_map.mp l1
      have in0 := (List.mem_filter.mp hr0).1
      have a1 := low r0 in0
      have a2 := cc r0 in0
      obtain ⟨f, hf, hsub⟩ := room_full hw hg _ r hr (Nat.le_refl _)
      have inf := (List.mem_filter.mp hf).1
      have b1 := l2 _ (List.mem_map.mpr ⟨f, hf, rfl⟩)
      have b2 := cc f inf
      have b3 := chi_mono hw _ (leftG (h :: gs) r) (leftG (h :: gs) f) (Nat.le_refl _) (List.filter_sublist.trans hg) (left_sub hsub)
      omega
end HB


namespace HB
open PySem L2 PyProof.Rows PySem.Spec
theorem mem_growStep {w : Wb} {fs : List (List Str)} {y : Str} {r : List Str} : r ∈ growStep w fs y ↔ r ∈ fs ∨ r = [y] ∨ ∃ s, s ∈ fs ∧ (∀ z ∈ s, mates w z y = false) ∧ r = s ++ [y] := by
  unfold growStep
  rw [List.mem_append, List.mem_append, List.mem_map, List.mem_singleton]
  constructor
  · rintro ((h | ⟨s, h, rfl⟩) | h)
    · exact .inl h
    · obtain ⟨h1, h2⟩ := List.mem_filter.mp h
      refine .inr (.inr ⟨s, h1, fun z hz => ?_, rfl⟩)
      have := List.all_eq_true.mp h2 z hz
      simpa using this
    · exact .inr (.inl h)
  · rintro (h | h | ⟨s, h1, h2, rfl⟩)
    · exact .inl (.inl h)
    · exact .inr h
    · refine .inl (.inr ⟨s, List.mem_filter.mpr ⟨h1, List.all_eq_true.mpr fun z hz => ?_⟩, rfl⟩)
      rw [h2 z hz]
      rfl
theorem mem_grown {w : Wb} (hw : Wf w) : ∀ (xs : List Str), (∀ x ∈ xs, x ∈ w.1) → ∀ r, r ∈ xs.foldl (growStep w) [] ↔ r ≠ [] ∧ r.Sublist xs ∧ Free w r := by
  refine snoc_ind (p := fun xs => (∀ x ∈ xs, x ∈ w.1) → ∀ r, r ∈ xs.foldl (growStep w) [] ↔ r ≠ [] ∧ r.Sublist xs ∧ Free w r) (fun _ r => ?_) fun xs y ih hx r => ?_
  · rw [List.foldl_nil]
    exact ⟨fun h => (by cases h), fun ⟨h1, h2, _⟩ => absurd (List.sublist_nil.mp h2) h1⟩
  · have ih := ih fun x h => hx x (List.mem_append_left _ h)
    have hy : y ∈ w.1 := hx y (by simp)
    rw [List.foldl_append]
    show r ∈ growStep w _ y ↔ _
    rw [mem_growStep]
    constructor
    · rintro (h | rfl | ⟨s, h1, h2, rfl⟩)
      · obtain ⟨a, b, c⟩ := (ih r).mp h
        exact ⟨a, b.trans (List.sublist_append_left _ _), c⟩
      · refine ⟨by simp, List.sublist_append_right _ _, fun a ha b hb => ?_⟩
        rw [List.mem_singleton.mp ha, List.mem_singleton.mp hb]
        exact tied_self hw _
      · obtain ⟨a, b, c⟩ := (ih s).mp h1
        refine ⟨by simp, b.append (.refl _), fun p hp q hq => ?_⟩
        have t : ∀ z ∈ s, tied w z y = false := fun z hz => by
          rw [← mates_tied hy]
          exact h2 z hz
        rcases List.mem_append.mp hp with p1 | p1
        · rcases List.mem_append.mp hq with q1 | q1
          · exact c p p1 q q1
          · rw [List.mem_singleton.mp q1]
            exact t p p1
        · rw [List.mem_singleton.mp p1]
          rcases List.mem_append.mp hq with q1 | q1
          · rw [tied_comm]
            exact t q q1
          · rw [List.mem_singleton.mp q1]
            exact tied_self hw _
    · rintro ⟨n, a, f⟩
      obtain ⟨s1, s2, rfl, a1, a2⟩ := List.sublist_append_iff.mp a
      rcases List.sublist_cons_iff.mp a2 with a3 | ⟨t, rfl, a3⟩
      · rw [List.sublist_nil.mp a3, List.append_nil] at f n ⊢
        exact .inl ((ih _).mpr ⟨n, a1, f⟩)
      · rw [List.sublist_nil.mp a3] at f ⊢
        by_cases e : s1 = []
        · rw [e]
          exact .inr (.inl rfl)
        · refine .inr (.inr ⟨s1, (ih _).mpr ⟨e, a1, fun p hp q hq => f p (List.mem_append_left _ hp) q (List.mem_append_left _ hq)⟩, fun z hz => ?_, rfl⟩)
          rw [mates_tied hy]
          exact f z (List.mem_append_left _ hz) y (by simp)
/-- the groups of loose_in: the free ones that are not empty -/
theorem mem_looseL {w : Wb} (hw : Wf w) {r : List Str} : r ∈ looseL w ↔ r ≠ [] ∧ r.Sublist w.1 ∧ Free w r := by
  unfold looseL
  rw [(sortG_perm _).mem_iff]
  exact mem_grown hw w.1 (fun x h => h) r
end HB


namespace HB
open PySem L2 PyProof.Rows PySem.Spec
theorem looseP_free {w : Wb} (hw : Wf w) : ∀ {g : List Str}, looseP w g = true ↔ Free w g
  | [] => ⟨fun _ a ha => (by cases ha), fun _ => rfl⟩
  | x :: g => by
    have ih := looseP_free hw (g := g)
    have step : looseP w (x :: g) = true ↔ (∀ y ∈ g, tied w x y = false) ∧ looseP w g = true := by
      unfold looseP
      rw [List.isEmpty_iff, List.isEmpty_iff, List.filter_eq_nil_iff, List.filter_eq_nil_iff]
      rw [show pairsOf (x :: g) = g.map (fun y => (x, y)) ++ pairsOf g from rfl]
      constructor
      · intro h
        refine ⟨fun y hy => ?_, fun p hp => h p (List.mem_append_right _ hp)⟩
        have := h (x, y) (List.mem_append_left _ (List.mem_map.mpr ⟨y, hy, rfl⟩))
        exact Bool.eq_false_iff.mpr this
      · rintro ⟨h1, h2⟩ p hp
        (rcases List.mem_append.mp hp with hp | hp)
        · obtain ⟨y, hy, rfl⟩ := List.mem_map.mp hp
          rw [h1 y hy]
          exact Bool.false_ne_true
        · exact h2 p hp
    rw [step, ih]
    constructor
    · rintro ⟨h1, h2⟩ a ha b hb
      rcases List.mem_cons.mp ha with e1 | a1
      · rcases List.mem_cons.mp hb with e2 | b1
        · rw [e1, e2]
          exact tied_self hw _
        · rw [e1]
          exact h1 b b1
      · rcases List.mem_cons.mp hb with e2 | b1
        · rw [e2, tied_comm]
          exact h1 a a1
        · exact h2 a a1 b b1
    · intro f
      exact ⟨fun y hy => f x List.mem_cons_self y (List.mem_cons_of_mem _ hy), fun a ha b hb => f a (List.mem_cons_of_mem _ ha) b (List.mem_cons_of_mem _ hb)⟩
/-- the law's loose_of and the program's loose_in: the same members -/
theorem loose_same {w : Wb} (hw : Wf w) {r : List Str} : r ∈ someP (looseP w) w ↔ r ∈ looseL w := by
  unfold someP
  rw [mem_looseL hw, List.mem_filter, mem_lawGroups]
  constructor
  · rintro ⟨h1, h2⟩
    obtain ⟨h3, h4⟩ := Bool.and_eq_true_iff.mp h2
    refine ⟨fun e => ?_, h1, (looseP_free hw).mp h4⟩
    rw [e] at h3
    cases h3
  · rintro ⟨h1, h2, h3⟩
    refine ⟨h2, ?_⟩
    rw [(looseP_free hw).mpr h3]
    cases r with
    | nil => exact absurd rfl h1
    | cons => rfl
end HB


namespace HB
open PySem L2 PyProof.Rows PySem.Spec
theorem paid_split (ps : Py) (p : Str → Bool) : ∀ g : List Str, paid ps g = paid ps (g.filter p) + paid ps (g.filter fun x => !p x)
  | [] => rfl
  | x :: g => by
    have ih := paid_split ps p g
    have c : ∀ (y : Str) (l : List Str), paid ps (y :: l) = payOf ps y + paid ps l := fun y l => by
      unfold paid
      (rw [List.map_cons, List.sum_cons])
    by_cases e : p x = true
    · rw [List.filter_cons_of_pos e, List.filter_cons_of_neg (by simp [e]), c, c, ih]
      omega
    · rw [List.filter_cons_of_neg e, List.filter_cons_of_pos (by simpa using e), c, c, ih]
      omega
theorem sub_filter {g r : List Str} (nd : g.Nodup) (h : r.Sublist g) : g.filter (fun x => decide (x ∈ r)) = r := by
  induction h with
  | slnil => rfl
  | @cons r g a h ih =>
    (obtain ⟨n1, n2⟩ := List.nodup_cons.mp nd)
    rw [List.filter_cons_of_neg (by simpa using fun k => n1 (h.subset k)), ih n2]
  | @cons_cons r g a h ih =>
    (obtain ⟨n1, n2⟩ := List.nodup_cons.mp nd)
    rw [List.filter_cons_of_pos (by simp)]
    congr 1
    rw [← ih n2]
    apply List.filter_congr
    intro x hx
    have : x ≠ a := fun e => n1 (e ▸ hx)
    rw [ih n2]
    simp [this]
theorem paid_bound {w : Wb} (hw : Wf w) {ps : Py} {u : Int} (hl : ∀ r, r ≠ [] → r.Sublist w.1 → Free w r → paid ps r ≤ u) : ∀ (n : Nat) (g : List Str), g.length ≤ n → g.Sublist w.1 → paid ps g ≤ u * chi w g := by
  intro n
  induction n with
  | zero =>
    intro g h _
    have : g = [] := List.eq_nil_of_length_eq_zero (by omega)
    subst this
    show (0 : Int) ≤ u * 0
    omega
  | succ n ih =>
    intro g h hg
    cases g with
    | nil =>
      show (0 : Int) ≤ u * 0
      omega
    | cons x gs =>
      obtain ⟨⟨r, hr, er⟩, _⟩ := chi_best hw hg
      obtain ⟨r1, r2, r3⟩ := (rooms_free hw hg).mp hr
      have sh := left_short (g := x :: gs) (r := r) List.mem_cons_self r2
      have b := ih (leftG (x :: gs) r) (by omega) (List.filter_sublist.trans hg)
      have a := hl r (fun e => by rw [e] at r2; cases r2) (r1.trans hg) r3
      have s := paid_split ps (fun z => decide (z ∈ r)) (x :: gs)
      rw [sub_filter (hg.nodup hw.asc.nodup) r1] at s
      have s : paid ps (x :: gs) = paid ps r + paid ps (leftG (x :: gs) r) := s
      rw [er, Int.mul_add, Int.mul_one, s]
      omega
theorem chi_one {w : Wb} (hw : Wf w) {g : List Str} (hg : g.Sublist w.1) (hf : Free w g) (ne : g ≠ []) : chi w g ≤ 1 := by
  have h := chi_free hw g.length g g (Nat.le_refl _) hg (fun x hx => hx) hf ne
  have : leftG g g = [] := by
    unfold leftG
    rw [List.filter_eq_nil_iff]
    intro x hx
    simp [hx]
  rw [this] at h
  exact h
/-- within: the program's answer by free groups is the answer by colours -/
theorem over_none {w : Wb} (hw : Wf w) {ps : Py} {u : Int} (hu : 0 ≤ u) : overG w ps u = none ↔ ∀ g, g.Sublist w.1 → paid ps g ≤ u * chi w g := by
  unfold overG
  rw [List.find?_eq_none]
  constructor
  · intro h g hg
    refine paid_bound hw (fun r r1 r2 r3 => ?_) g.length g (Nat.le_refl _) hg
    have := h r ((mem_looseL hw).mpr ⟨r1, r2, r3⟩)
    simp at this
    exact this
  · intro h g hg
    obtain ⟨g1, g2, g3⟩ := (mem_looseL hw).mp hg
    have a := h g g2
    have b := chi_one hw g2 g3 g1
    have c : u * chi w g ≤ u * 1 := Int.mul_le_mul_of_nonneg_left b hu
    simp
    omega
end HB


namespace HB
open PySem L2 PyProof.Rows PySem.Spec
/-- one row of the law's table -/
def tabStep (w : Wb) (x : Str) (gs : List Str) (m : Int) (rest : List Str) : Int := if looseP w (x :: rest) then min m (1 + chi w (gs.filter fun y => !decide (y ∈ rest))) else m
theorem tab_fold (w : Wb) (x : Str) (gs : List Str) : ∀ (rs : List (List Str)) (m : Int), (rs.foldl (tabStep w x gs) m ≤ m) ∧ (∀ r ∈ rs, looseP w (x :: r) = true → rs.foldl (tabStep w x gs) m ≤ 1 + chi w (gs.filter fun y => !decide (y ∈ r))) ∧ ∀ b : Int, b ≤ m → (∀ r ∈ rs, looseP w (x :: r) = true → b ≤ 1 + chi w (gs.filter fun y => !decide (y ∈ r))) → b ≤ rs.foldl (tabStep w x gs) m
  | [], m => ⟨Int.le_refl _, fun r hr => (by cases hr), fun b hb _ => hb⟩
  | r :: rs, m => by
    obtain ⟨h1, h2, h3⟩ := tab_fold w x gs rs (tabStep w x gs m r)
    rw [List.foldl_cons]
    have s1 : tabStep w x gs m r ≤ m := by
      unfold tabStep
      split <;> omega
    have s2 : looseP w (x :: r) = true → tabStep w x gs m r ≤ 1 + chi w (gs.filter fun y => !decide (y ∈ r)) := fun e => by
      unfold tabStep
      rw [if_pos e]
      omega
    refine ⟨by omega, fun q hq e => ?_, fun b hb hc => h3 b ?_ fun q hq e => hc q (List.mem_cons_of_mem _ hq) e⟩
    · (rcases List.mem_cons.mp hq with rfl | hq)
      · have := s2 e
        omega
      · exact h2 q hq e
    · unfold tabStep
      split
      · next e =>
        have := hc r List.mem_cons_self e
        omega
      · exact hb
theorem left_cons {x : Str} {gs rest : List Str} (nd : (x :: gs).Nodup) : leftG (x :: gs) (x :: rest) = gs.filter fun y => !decide (y ∈ rest) := by
  unfold leftG
  rw [List.filter_cons_of_neg (by simp)]
  apply List.filter_congr
  intro y hy
  have : y ≠ x := fun e => (List.nodup_cons.mp nd).1 (e ▸ hy)
  simp [this]
theorem chi_len {w : Wb} (hw : Wf w) : ∀ (g : List Str), g.Sublist w.1 → chi w g ≤ g.length
  | [], _ => Int.le_refl _
  | x :: g, hg => by
    have ih := chi_len hw g ((List.sublist_cons_self _ _).trans hg)
    have h0 : [x] ∈ rooms w (x :: g) := (rooms_free hw hg).mpr ⟨List.singleton_sublist.mpr List.mem_cons_self, List.mem_singleton.mpr rfl, fun a ha b hb => by
      rw [List.mem_singleton.mp ha, List.mem_singleton.mp hb]
      exact tied_self hw _⟩
    have a := (chi_best hw hg).2 [x] h0
    rw [left_cons (hg.nodup hw.asc.nodup)] at a
    have b := chi_mono hw g.length g (g.filter fun y => !decide (y ∈ ([] : List Str))) (Nat.le_refl _) ((List.sublist_cons_self _ _).trans hg) List.filter_sublist
    rw [List.length_cons]
    omega
theorem chi_table {w : Wb} (hw : Wf w) {x : Str} {gs : List Str} (hg : (x :: gs).Sublist w.1) : (lawGroups gs).foldl (tabStep w x gs) ((gs.length + 1 : Nat) : Int) = chi w (x :: gs) := by
  have nd := hg.nodup hw.asc.nodup
  obtain ⟨h1, h2, h3⟩ := tab_fold w x gs (lawGroups gs) ((gs.length + 1 : Nat) : Int)
  obtain ⟨⟨r, hr, er⟩, low⟩ := chi_best hw hg
  apply Int.le_antisymm
  · obtain ⟨r1, r2, r3⟩ := (rooms_free hw hg).mp hr
    obtain ⟨t, rfl, ht⟩ : ∃ t, r = x :: t ∧ t.Sublist gs := by
      rcases List.sublist_cons_iff.mp r1 with k | ⟨t, e, ht⟩
      · exact absurd (k.subset r2) (List.nodup_cons.mp nd).1
      · exact ⟨t, e, ht⟩
    rw [er, left_cons nd]
    exact h2 t (mem_lawGroups.mpr ht) ((looseP_free hw).mpr r3)
  · refine h3 _ (chi_len hw _ hg) fun t ht e => ?_
    have := low (x :: t) ((rooms_free hw hg).mpr ⟨(mem_lawGroups.mp ht).cons_cons x, List.mem_cons_self, (looseP_free hw).mp e⟩)
    rw [left_cons nd] at this
    exact this
end HB


namespace HB
open PySem L2 PyProof.Rows PySem.Spec
theorem snoc_nodup {y : Str} {fs : List (List Str)} (h : fs.Nodup) : (fs.map fun g => g ++ [y]).Nodup := by
  rw [List.Nodup, List.pairwise_map]
  exact h.imp fun n e => n (List.append_cancel_right e)
theorem groups_nodup : ∀ xs : List Str, xs.Nodup → (lawGroups xs).Nodup := by
  refine snoc_ind (p := fun xs => xs.Nodup → (lawGroups xs).Nodup) (fun _ => by simp [lawGroups]) fun xs y ih h => ?_
  obtain ⟨h1, _, h3⟩ := List.nodup_append.mp h
  rw [lawGroups_snoc]
  refine List.nodup_append.mpr ⟨ih h1, snoc_nodup (ih h1), fun a ha b hb e => ?_⟩
  obtain ⟨g, _, rfl⟩ := List.mem_map.mp hb
  have : y ∈ xs := (mem_lawGroups.mp ha).subset (by rw [e]; simp)
  exact h3 y this y (by simp) rfl
end HB


namespace HB
open PySem L2 PyProof.Rows PySem.Spec
theorem groups_behind : ∀ (xs : List Str) (n : Nat) (g h : List Str), (lawGroups xs)[n]? = some g → h.Sublist g → h ∈ (lawGroups xs).take (n + 1) := by
  refine snoc_ind (p := fun xs => ∀ (n : Nat) (g h : List Str), (lawGroups xs)[n]? = some g → h.Sublist g → h ∈ (lawGroups xs).take (n + 1)) (fun n g h e s => ?_) fun xs y ih n g h e s => ?_
  · have e : ([[]] : List (List Str))[n]? = some g := e
    cases n with
    | zero =>
      cases e
      rw [List.sublist_nil.mp s]
      exact List.mem_cons_self
    | succ n => simp at e
  · rw [lawGroups_snoc] at e ⊢
    by_cases hn : n < (lawGroups xs).length
    · rw [List.getElem?_append_left hn] at e
      have := ih n g h e s
      rw [List.take_append_of_le_length (by omega)]
      exact this
    · rw [List.getElem?_append_right (by omega), List.getElem?_map] at e
      cases hm : (lawGroups xs)[n - (lawGroups xs).length]? with
      | none => rw [hm] at e; cases e
      | some g' =>
        rw [hm] at e
        cases e
        rw [List.take_append, List.mem_append]
        rcases List.sublist_append_iff.mp s with ⟨h1, h2, rfl, s1, s2⟩
        have ih1 := ih _ g' h1 hm s1
        have hs2 : h2 = [] ∨ h2 = [y] := by
          cases s2 with
          | cons _ s2 => exact .inl (List.sublist_nil.mp s2)
          | cons_cons _ s2 => rw [List.sublist_nil.mp s2]; exact .inr rfl
        rcases hs2 with rfl | rfl
        · rw [List.append_nil]
          left
          rw [List.take_of_length_le (by omega)]
          exact List.mem_of_mem_take ih1
        · right
          rw [show n + 1 - (lawGroups xs).length = n - (lawGroups xs).length + 1 by omega, ← List.map_take]
          exact List.mem_map.mpr ⟨h1, ih1, rfl⟩
def tabOf (f : List Str → V) (gs : List (List Str)) : List (List Key × V) := gs.map fun g => (keyG g, f g)
theorem tab_val {f : List Str → V} {g : List Str} : ∀ {gs : List (List Str)}, g ∈ gs → valV (tabOf f gs) (keyG g) = some (f g)
  | [], h => by cases h
  | x :: gs, h => by
    unfold tabOf valV
    rw [List.map_cons, List.find?_cons]
    by_cases e : keyG x = keyG g
    · have := keyG_inj e
      subst this
      simp
    · have ne : g ≠ x := fun z => e (z ▸ rfl)
      have ih := tab_val (f := f) ((List.mem_cons.mp h).resolve_left ne)
      unfold tabOf valV at ih
      simp only [e, decide_false]
      exact ih
theorem putT_new {kvs : List (List Key × V)} {k : List Key} {v : V} (h : k ∉ kvs.map (·.1)) : putK kvs k v = kvs ++ [(k, v)] := by
  unfold putK
  rw [if_neg]
  intro z
  obtain ⟨q, hq, e⟩ := List.any_eq_true.mp z
  exact h (List.mem_map.mpr ⟨q, hq, by simpa using e⟩)
theorem putT_last {kvs : List (List Key × V)} {k : List Key} {v u : V} (h : k ∉ kvs.map (·.1)) : putK (kvs ++ [(k, v)]) k u = kvs ++ [(k, u)] := by
  unfold putK
  rw [if_pos (by simp)]
  rw [List.map_append]
  congr 1
  · conv => rhs; rw [← List.map_id kvs]
    exact List.map_congr_left fun q hq => if_neg fun e => h (List.mem_map.mpr ⟨q, hq, e⟩)
  · simp
theorem tab_keys {f : List Str → V} {gs : List (List Str)} {g : List Str} : keyG g ∈ (tabOf f gs).map (·.1) ↔ g ∈ gs := by
  unfold tabOf
  rw [List.map_map]
  constructor
  · intro h
    obtain ⟨x, hx, e⟩ := List.mem_map.mp h
    exact keyG_inj e ▸ hx
  · intro h
    exact List.mem_map.mpr ⟨g, h, rfl⟩
section
variable {X : Cx} {M M0 : Mx} {Γ : Gm} {e a b : Expr} {T : Ty} {pos tp : Pos} {rest : List Stmt} {D : Ends} {q : Addr} {kvs : List (List Key × V)} {gg : List Str} {v : V}
theorem E.isI {i : Int} (h : E X M Γ e (I i)) : E X M Γ e (Ty.is (.int i)) := h.imp fun v H w z => by cases z; rfl
theorem E.isB {i : Bool} (h : E X M Γ e (Bo i)) : E X M Γ e (Ty.is (.bl i)) := h.imp fun v H w z => by cases z; rfl
theorem E.iIs {i : Int} (h : E X M Γ e (Ty.is (.int i))) : E X M Γ e (I i) := h.imp fun v H w z => by
  have z : v = .int i := z
  subst z
  exact .int i
theorem E.bIs {i : Bool} (h : E X M Γ e (Ty.is (.bl i))) : E X M Γ e (Bo i) := h.imp fun v H w z => by
  have z : v = .bl i := z
  subst z
  exact .bl i
theorem grp_v {ex : Ads} {H : Hp} {v : V} (h : (G gg).P ex v H) : ∃ b, v = .ref b ∧ H b = some (.tup ((keyG gg).map kV)) := by
  cases h with
  | tup e2 n r =>
    obtain rfl := r.strs
    exact ⟨_, rfl, by rw [e2]; unfold keyG; rw [List.map_map]; rfl⟩
/-- d[g] = v, d a table of one's own -/
theorem B.tabPut (hu : X.A.units + 1 < cLine) (ha : E X M Γ a (Ty.is (.ref q))) (hq : (q, cnT kvs) ∈ M.own) (hb : E X M Γ b (G gg)) (he : E X M Γ e (Ty.is v)) (hz : kvs.length < 1000) (h : B X { M with own := setO M.own q (cnT (putK kvs (keyG gg) v)) } Γ rest D)
    (hs : swapsWith e (some (.Subscript a b tp)) pos.line X.env = pure false := by rfl) : B X M Γ (.Assign [.Subscript a b tp] e pos :: rest) D :=
  .ps (ps_dput hu pe_w pe_w pe_w hs) fun σ H l => (he σ H l).mono fun x H1 ⟨s1, h1⟩ => (ha σ H1 (l.st s1)).mono fun y H2 ⟨s2, h2⟩ => (hb σ H2 ((l.st s1).st s2)).mono fun z H3 ⟨s3, h3⟩ => by
    have h1 : x = v := h1
    subst h1
    cases h2
    have l3 := ((l.st s1).st s2).st s3
    obtain ⟨o, e1, eo⟩ := l3.own_at hq
    have eo : o = .dT kvs := eo
    subst eo
    obtain ⟨c, rfl, hc⟩ := grp_v h3
    exact ⟨q, _, rfl, .inr ⟨kvs, keyG gg, c, e1, rfl, hc, Nat.lt_trans hz (by decide), rfl⟩, h σ _ (l3.own_set hq (fun _ _ z => by cases z) rfl)⟩
/-- d[g] -/
theorem E.tabGet (hu : X.A.units + 1 < cLine) (ha : E X M Γ a (Ty.is (.ref q))) (hq : (q, cnT kvs) ∈ M.own) (hb : E X M Γ b (G gg)) (hv : valV kvs (keyG gg) = some v) (hs : NoSl b := by exact fun _ _ => rfl) : E X M Γ (.Subscript a b pos) (Ty.is v) := fun σ H l =>
  wE.of (pe_dget hu pe_w pe_w hs) ((ha σ H l).mono fun x H1 ⟨s1, h1⟩ => (hb σ H1 (l.st s1)).mono fun y H2 ⟨s2, h2⟩ => by
    cases h1
    obtain ⟨o, e1, eo⟩ := ((l.st s1).st s2).own_at hq
    have eo : o = .dT kvs := eo
    subst eo
    obtain ⟨c, rfl, hc⟩ := grp_v h2
    exact ⟨q, v, rfl, .inr ⟨kvs, keyG gg, c, .inl e1, rfl, hc, hv.symm⟩, s1.trans s2, rfl⟩)
/-- d[g], d a table like any other -/
theorem E.tabAt (hu : X.A.units + 1 < cLine) (ha : E X M Γ a (tabT kvs)) (hb : E X M Γ b (G gg)) (hv : valV kvs (keyG gg) = some v) (hs : NoSl b := by exact fun _ _ => rfl) : E X M Γ (.Subscript a b pos) (Ty.is v) := fun σ H l =>
  wE.of (pe_dget hu pe_w pe_w hs) ((ha σ H l).mono fun x H1 ⟨s1, h1⟩ => (hb σ H1 (l.st s1)).mono fun y H2 ⟨s2, h2⟩ => by
    obtain ⟨d, rfl, rd, n⟩ := (tabT kvs).fr (s2.kp (l.hw.st s1)) h1
    obtain ⟨c, rfl, hc⟩ := grp_v h2
    exact ⟨d, v, rfl, .inr ⟨kvs, keyG gg, c, rd, rfl, hc, hv.symm⟩, s1.trans s2, rfl⟩)
end
/-- fewer cells of one's own, fewer addresses apart -/
theorem loc_less {M : Mx} {Γ : Gm} {σ : L2.St} {H : Hp} (l : Loc M Γ σ H) {ex' : Ads} {own' : List (Addr × Cn)} (hex : ∀ a, ex' a → M.ex a) (hph : ∀ q ∈ M.ph, ex' q.1) (hown : ∀ q ∈ own', q ∈ M.own ∧ ex' q.1) (nd : (own'.map (·.1)).Nodup) (hbs : ∀ b ∈ M.bs, ∀ q ∈ M.own, b q.1 = none) : Loc { M with ex := ex', own := own' } Γ σ H := by
  have w := l.hw
  have k : Kp M.ex ex' H H := .of fun _ _ e n => ⟨e, fun z => n (hex _ z)⟩
  refine ⟨⟨fun a z => w.exin a (hex a z), w.fn, fun q hq => ?_, fun q hq => ?_, nd, w.frm, fun b hb a o e n m => ?_, w.nf, w.nk⟩, l.len, fun i T e => ?_⟩
  · obtain ⟨_, u, e, f⟩ := w.ph q hq
    exact ⟨hph q hq, u, e, q.2.fr k f⟩
  · obtain ⟨h1, h2⟩ := hown q hq
    obtain ⟨_, b, c, u, e, f⟩ := w.own q h1
    exact ⟨h2, b, c, u, e, q.2.fr k f⟩
  · refine w.frb b hb a o e n fun q hq z => ?_
    rw [← z, hbs b hb q hq] at e
    cases e
  · obtain ⟨v, e', f⟩ := l.var i T e
    exact ⟨v, e', T.fr k f⟩
end HB


namespace HB
open PySem L2 PyProof.Rows PySem.Spec
abbrev looseV (w : Wb) (g : List Str) : V := .bl (looseP w g)
abbrev chiV (w : Wb) (g : List Str) : V := .int (chi w g)
theorem tab_snoc {f : List Str → V} {gs : List (List Str)} {g : List Str} : tabOf f (gs ++ [g]) = tabOf f gs ++ [(keyG g, f g)] := by
  unfold tabOf
  rw [List.map_append]
  rfl
theorem val_app {a b : List (List Key × V)} {k : List Key} {v : V} (h : valV a k = some v) : valV (a ++ b) k = some v := by
  unfold valV at h ⊢
  rw [List.find?_append]
  cases e : a.find? fun kv => decide (kv.1 = k) with
  | none => (rw [e] at h; cases h)
  | some q => rw [e] at h; exact h
theorem len_pos_filter {t r : List Str} (x : Str) : (t.filter fun y => !decide (y ∈ r)) ≠ x :: t := fun e => by
  have := List.length_filter_le (fun y => !decide (y ∈ r)) t
  rw [e, List.length_cons] at this
  omega
theorem slot_to {M : Mx} {Γ : Gm} {σ : L2.St} {H : Hp} {i : Nat} {T : Ty} {v : V} (l : Loc M Γ σ H) (e : σ[i]? = some (some v)) (h : T.P M.ex v H) : Loc M (Γ.set i (some T)) σ H := by
  have q := l.set (i := i) (T := T) (v := v) h
  have es : σ.set i (some v) = σ := by
    apply List.ext_getElem?
    intro j
    by_cases hj : i = j
    · subst hj
      obtain ⟨hl, _⟩ := List.getElem?_eq_some_iff.mp e
      rw [List.getElem?_set_self hl, e]
    · rw [List.getElem?_set_ne hj]
  rwa [es] at q
section
variable {P : Program} {w : World} {K : PySem.W.Frag} {mg : Str → Option Value} {base : Heap} {Cp Cc Cw : Addr}
def pm_colour_table : Pm Wb where
  pre := Wf
  args := fun wb => [plT wb]
  res := fun wb => tabT (tabOf (chiV wb) (lawGroups wb.1))
theorem ok_colour_table (g : Gs K mg) : Ok P w K mg base 3 "_law_colour_table" ["_law_plain_here"] pm_colour_table := by
  refine Ok.of (k := 2) (g.df _ 88) sc_colour_table (fun _ => rfl) (fun _ _ _ _ _ _ us hl => match us, hl with | [_], _ => rfl) fun wb f cdv A outer s H Ex ex lk En hp hlk hr hR hn => ?_
  have wf : Wf wb := hp
  have hN := sc_colour_table.nd
  have hu := room1 hr
  have l5 := wf.len
  have g32 := groups_32 wf
  have gnd := groups_nodup wb.1 wf.asc.nodup
  refine B.parFF (c := cnT []) (d := cnT []) 1 2 EF.newT (fun p => EF.newT) (fun p np nbp q nq nbq => ?_) hN
  have hqp : q ≠ p := fun z => nq (.inr z)
  refine B.forN 3 (fun n : Nat => [(q, cnT (tabOf (looseV wb) ((lawGroups wb.1).take n))), (p, cnT (tabOf (chiV wb) ((lawGroups wb.1).take n)))]) (fun _ => [some (plT wb), some (Ty.is (.ref p)), some (Ty.is (.ref q)), none, none, none, none, none]) (fun n a => n = a) (W.list (ds := (lawGroups wb.1).map gr) (E.ok (ok_l_all_groups g) hr wb.1 (by show wb.1.length ≤ 8; omega) (.cons (E.things hr (E.var (T := plT wb) 0)) .nil))) ⟨0, rfl, fun _ _ l => l⟩ (fun n d a hd iv b => ?_) (fun a iv => ?_) hN
  · subst iv
    rw [List.getElem?_map] at hd
    cases hx : (lawGroups wb.1)[n]? with
    | none => rw [hx] at hd; cases hd
    | some gg =>
      rw [hx] at hd
      cases hd
      have mg' := List.mem_of_getElem? hx
      have sub : gg.Sublist wb.1 := mem_lawGroups.mp mg'
      have lg : gg.length ≤ 5 := Nat.le_trans sub.length_le l5
      have okg : Gok gg := fun x hx => wf.wok.ok x (sub.subset hx)
      have notin : ∀ {f : List Str → V}, keyG gg ∉ (tabOf f ((lawGroups wb.1).take n)).map (·.1) := fun {f} z => by
        have h1 := tab_keys.mp z
        obtain ⟨m, hm, e⟩ := List.getElem_of_mem h1
        rw [List.getElem_take] at e
        rw [List.length_take] at hm
        obtain ⟨hn', e2⟩ := List.getElem?_eq_some_iff.mp hx
        have := (List.getElem_inj (h₀ := by omega) (h₁ := hn') gnd).mp (e.trans e2.symm)
        omega
      have small : ∀ {f : List Str → V}, (tabOf f ((lawGroups wb.1).take n)).length < 1000 := fun {f} => by
        unfold tabOf
        rw [List.length_map, List.length_take]
        omega
      refine B.tabPut (q := q) (kvs := tabOf (looseV wb) ((lawGroups wb.1).take n)) hu (E.var (T := Ty.is (.ref q)) 2) List.mem_cons_self (E.var (T := G gg) 3) (E.isB (E.ok (ok_is_loose g) hr (wb, gg) ⟨wf.wok, okg, by show gg.length ≤ 100; omega⟩ (.cons (E.var (T := plT wb) 0) (.cons (E.var (T := G gg) 3) .nil)))) small ?_
      rw [putT_new notin]
      rw [show setO [(q, cnT (tabOf (looseV wb) ((lawGroups wb.1).take n))), (p, cnT (tabOf (chiV wb) ((lawGroups wb.1).take n)))] q (cnT (tabOf (looseV wb) ((lawGroups wb.1).take n) ++ [(keyG gg, .bl (looseP wb gg))])) = [(q, cnT (tabOf (looseV wb) ((lawGroups wb.1).take (n + 1)))), (p, cnT (tabOf (chiV wb) ((lawGroups wb.1).take n)))] by rw [take_snoc hx, tab_snoc]; exact setO_head]
      refine B.tabPut (q := p) (kvs := tabOf (chiV wb) ((lawGroups wb.1).take n)) (v := .int 0) hu (E.var (T := Ty.is (.ref p)) 1) (List.mem_cons_of_mem _ List.mem_cons_self) (E.var (T := G gg) 3) (E.isI E.int) small ?_
      rw [putT_new notin]
      rw [show setO [(q, cnT (tabOf (looseV wb) ((lawGroups wb.1).take (n + 1)))), (p, cnT (tabOf (chiV wb) ((lawGroups wb.1).take n)))] p (cnT (tabOf (chiV wb) ((lawGroups wb.1).take n) ++ [(keyG gg, .int 0)])) = [(q, cnT (tabOf (looseV wb) ((lawGroups wb.1).take (n + 1)))), (p, cnT (tabOf (chiV wb) ((lawGroups wb.1).take n) ++ [(keyG gg, .int 0)]))] by rw [setO_skip hqp, setO_one]]
      refine B.ite ((C.neD (d := gr gg) (e' := gr []) hr (E.var (T := G gg) 3) E.tup0 (gr_shaped okg) (gr_shaped fun x hx => by cases hx)).imp (S' := fun v => v = !decide (gg = [])) fun v e => by rw [e, eqv_gr]) (fun hv => ?_) fun hv => B.skip ?_
      · cases gg with
        | nil => simp at hv
        | cons x t =>
          have subt : t.Sublist wb.1 := (List.sublist_cons_self _ _).trans sub
          have lt : t.length ≤ 5 := Nat.le_trans subt.length_le l5
          have ek : tabOf (chiV wb) ((lawGroups wb.1).take (n + 1)) = tabOf (chiV wb) ((lawGroups wb.1).take n) ++ [(keyG (x :: t), .int (chi wb (x :: t)))] := by rw [take_snoc hx, tab_snoc]
          refine B.asg 4 (T := I ((t.length + 1 : Nat) : Int)) ((E.lenU (ds := (x :: t).map .str) (g.bi "len") (E.var (T := G (x :: t)) 3)).nat (by simp)) ?_ hN
          refine B.forN 5 (fun _ : Int => [(q, cnT (tabOf (looseV wb) ((lawGroups wb.1).take (n + 1)))), (p, cnT (tabOf (chiV wb) ((lawGroups wb.1).take n) ++ [(keyG (x :: t), .int 0)]))]) (fun m => [some (plT wb), some (Ty.is (.ref p)), some (Ty.is (.ref q)), some (G (x :: t)), some (I m), none, none, none]) (fun k m => m = ((lawGroups t).take k).foldl (tabStep wb x t) ((t.length + 1 : Nat) : Int)) (W.list (ds := (lawGroups t).map gr) (E.ok (ok_l_all_groups g) hr t (by show t.length ≤ 8; omega) (.cons (E.fromU (k := 1) (ds := (x :: t).map .str) (E.var (T := G (x :: t)) 3) E.int) .nil))) ⟨_, rfl, fun _ _ l => l⟩ (fun k d m hd iv b' => ?_) (fun m iv => ?_) hN
          · rw [List.getElem?_map] at hd
            cases hr' : (lawGroups t)[k]? with
            | none => rw [hr'] at hd; cases hd
            | some r =>
              rw [hr'] at hd
              cases hd
              have rsub : r.Sublist t := mem_lawGroups.mp (List.mem_of_getElem? hr')
              have in1 : (x :: r) ∈ (lawGroups wb.1).take (n + 1) := groups_behind wb.1 n (x :: t) (x :: r) hx (rsub.cons_cons x)
              have lsub : (t.filter fun y => !decide (y ∈ r)).Sublist (x :: t) := List.filter_sublist.trans (List.sublist_cons_self _ _)
              have in2 : (t.filter fun y => !decide (y ∈ r)) ∈ (lawGroups wb.1).take n := by
                have h1 := groups_behind wb.1 n (x :: t) _ hx lsub
                rw [take_snoc hx] at h1
                rcases List.mem_append.mp h1 with h1 | h1
                · exact h1
                · exact absurd (List.mem_singleton.mp h1) (len_pos_filter x)
              have lr : r.length ≤ 5 := Nat.le_trans rsub.length_le lt
              refine B.iteD (v := looseP wb (x :: r)) (C.valB (E.bIs (E.tabGet (q := q) (kvs := tabOf (looseV wb) ((lawGroups wb.1).take (n + 1))) (gg := x :: r) (v := .bl (looseP wb (x :: r))) hu (E.var (T := Ty.is (.ref q)) 2) List.mem_cons_self ((E.catU (E.toU (k := 1) (ds := (x :: t).map .str) (E.var (T := G (x :: t)) 3) E.int) (E.var (T := G r) 5) (by simp; omega)).castU rfl) (tab_val in1)))) (fun hl => ?_) fun hl => B.skip (.nil fun σ H l => ⟨m, ?_, l.wk (.keep (.keep (.keep (.keep (.keep (.drop (.keep (.keep .nil))))))))⟩)
              · refine B.asg 6 (T := G (t.filter fun y => !decide (y ∈ r))) (E.tupleL (g.bi "tuple") (E.lcF (enc := PyData.str) (xs := t) (fun y => !decide (y ∈ r)) .str 7 (W.tup (ds := t.map .str) (E.fromU (k := 1) (ds := (x :: t).map .str) (E.var (T := G (x :: t)) 3) E.int)) [("_law_one", 7)] (fun a ha p' acc s H0 A cl fp => C.ninU (E.var (T := S_ a) 7) (E.var (T := G r) 5)) (fun a ha z p' acc s H0 A cl fp => E.var 7) (by omega) (blkOk_by (N := N_colour_table) (sc := defScope s_colour_table) (by decide +kernel)) hN)) ?_ hN
                refine B.asg 4 (T := I (if 1 + chi wb (t.filter fun y => !decide (y ∈ r)) < m then 1 + chi wb (t.filter fun y => !decide (y ∈ r)) else m)) (E.min2 (g.bi "min") (E.var (T := I m) 4) (E.add E.int (E.iIs (E.tabGet (q := p) (kvs := tabOf (chiV wb) ((lawGroups wb.1).take n) ++ [(keyG (x :: t), .int 0)]) (v := .int (chi wb (t.filter fun y => !decide (y ∈ r)))) hu (E.var (T := Ty.is (.ref p)) 1) (List.mem_cons_of_mem _ List.mem_cons_self) (E.var (T := G (t.filter fun y => !decide (y ∈ r))) 6) (val_app (tab_val in2)))))) (B.skip (.nil fun σ H l => ⟨_, ?_, l.wk (.keep (.keep (.keep (.keep (.keep (.drop (.drop (.keep .nil))))))))⟩)) hN
                rw [take_snoc hr', List.foldl_append, ← iv]
                show _ = tabStep wb x t m r
                unfold tabStep
                rw [if_pos hl]
                split <;> omega
              · rw [take_snoc hr', List.foldl_append, ← iv]
                show _ = tabStep wb x t m r
                unfold tabStep
                (rw [if_neg (by rw [hl]; exact Bool.false_ne_true)])
          · have iv : m = ((lawGroups t).take ((lawGroups t).map gr).length).foldl (tabStep wb x t) ((t.length + 1 : Nat) : Int) := iv
            rw [List.length_map, List.take_length, chi_table wf sub] at iv
            subst iv
            refine B.tabPut (q := p) (kvs := tabOf (chiV wb) ((lawGroups wb.1).take n) ++ [(keyG (x :: t), .int 0)]) (v := .int (chi wb (x :: t))) hu (E.var (T := Ty.is (.ref p)) 1) (List.mem_cons_of_mem _ List.mem_cons_self) (E.var (T := G (x :: t)) 3) (E.isI (E.var (T := I (chi wb (x :: t))) 4)) ?_ ?_
            · rw [List.length_append]
              have : (tabOf (chiV wb) ((lawGroups wb.1).take n)).length ≤ 32 := by
                unfold tabOf
                rw [List.length_map, List.length_take]
                omega
              show _ + 1 < 1000
              omega
            · rw [putT_last notin, ← ek]
              rw [show setO [(q, cnT (tabOf (looseV wb) ((lawGroups wb.1).take (n + 1)))), (p, cnT (tabOf (chiV wb) ((lawGroups wb.1).take n) ++ [(keyG (x :: t), .int 0)]))] p (cnT (tabOf (chiV wb) ((lawGroups wb.1).take (n + 1)))) = [(q, cnT (tabOf (looseV wb) ((lawGroups wb.1).take (n + 1)))), (p, cnT (tabOf (chiV wb) ((lawGroups wb.1).take (n + 1))))] by rw [setO_skip hqp, setO_one]]
              exact B.skip (.nil fun σ H l => ⟨n + 1, rfl, l.wk (.keep (.keep (.keep (.drop (.drop (.keep (.keep (.keep .nil))))))))⟩)
      · have e : gg = [] := by simpa using hv.symm
        subst e
        refine .nil fun σ H l => ⟨n + 1, rfl, ?_⟩
        have ek : tabOf (chiV wb) ((lawGroups wb.1).take (n + 1)) = tabOf (chiV wb) ((lawGroups wb.1).take n) ++ [(keyG [], .int 0)] := by rw [take_snoc hx, tab_snoc]; rfl
        have l2 := l.wk (.keep (.keep (.keep (.drop (.keep (.keep (.keep (.keep .nil))))))))
        rw [← ek] at l2
        exact l2
  · have iv : ((lawGroups wb.1).map gr).length = a := iv
    rw [List.length_map] at iv
    subst iv
    refine fun σ H' l => ?_
    obtain ⟨o, e1, eo⟩ := l.own_at (p := p) (c := cnT (tabOf (chiV wb) ((lawGroups wb.1).take (lawGroups wb.1).length))) (List.mem_cons_of_mem _ List.mem_cons_self)
    have eo : o = .dT _ := eo
    subst eo
    rw [List.take_length] at e1
    obtain ⟨v, ev, hv⟩ := l.var 1 _ rfl
    have hv : v = .ref p := hv
    subst hv
    have l1 := loc_less l (ex' := ex) (own' := []) (fun a h => .inl (.inl h)) (fun q hq => by cases hq) (fun q hq => by cases hq) List.Pairwise.nil (fun b hb => by cases hb)
    have l2 := slot_to l1 (i := 1) (T := tabT (tabOf (chiV wb) (lawGroups wb.1))) ev ⟨p, rfl, .inl e1, np⟩
    exact B.ret hR (Le.refl _) (E.var (T := tabT (tabOf (chiV wb) (lawGroups wb.1))) 1) σ H' l2
end
end HB


namespace HB
open PySem PySem.Spec PyProof.Rows L2 PySem.W PySem.SeqAt
theorem each_zipG {β : Type} : ∀ {xs : List V} {us : List Value} {gs : List β}, Vals xs us → xs.length = gs.length → EachIs (fun v (b : V × β) => RelV b.1 v) us (xs.zip gs)
  | _, _, [], .nil, _ => .nil
  | _, _, g :: gs, .cons r rs, e => .cons r (each_zipG rs (by simpa using e))
theorem vals_of_eachG {β : Type} {bs : List (V × β)} : ∀ {out : List Value} , EachIs (fun v (b : V × β) => RelV b.1 v) out bs → Vals (bs.map (·.1)) out := by
  induction bs with
  | nil =>
    intro out e
    cases e
    exact .nil
  | cons b bs ih =>
    intro out e
    cases e with
    | cons a r => exact .cons a (ih r)
theorem each_len {β : Type} {R : Value → β → Prop} : ∀ {us : List Value} {bs : List β}, EachIs R us bs → us.length = bs.length
  | _, _, .nil => rfl
  | _, _, .cons _ r => congrArg Nat.succ (each_len r)
def lenKey (g : List Str) : PyData := .int g.length
def sortLen (gs : List (List Str)) : List (List Str) := gs.mergeSort (dataLe false lenKey)
def tSortLen (K : PySem.W.Frag) (t : TA) : TE := fun σ H Q => t σ H fun vs H1 => ∃ (a : Addr) (xs : List V) (gs : List (List Str)), vs = [.ref a] ∧ SqL K H1 a xs ∧ gs.length ≤ 1000 ∧ Paired (fun (g : List Str) x => ∃ c ys, x = V.ref c ∧ SqT K H1 c ys ∧ ys.length = g.length) gs xs ∧
  ∀ p, H1 p = none → Q (.ref p) (upd H1 p (.lst (((xs.zip gs).mergeSort (dataLe false fun b => lenKey b.2)).map (·.1))))
section
variable {X : Cx}
theorem pe_sortLen {e : Expr} {t : TA} {k : Nat} {p p3 kp pos : Pos} (hr : Room k X.A) (hg1 : Gl X "sorted") (hm1 : X.mg "sorted" = none) (hg2 : Gl X "len") (hm2 : X.mg "len" = none) (ha : PA X [e] t) (he : backTo pos (starEach [e] X.env) = (false, eval e X.env) :: backTo pos (starEach [] X.env) := by rfl) (hpl : (backTo pos (starEach [e] X.env)).any (·.1) = false := by rfl)
    (hall : (backToKw pos (keywordEach [⟨some ("key" : Str), .Name "len" p3, kp⟩] X.env)).all (·.1.isSome) = true := by rfl) (hnone : (backToKw pos (keywordEach [⟨some ("key" : Str), .Name "len" p3, kp⟩] X.env)).any (·.1.isNone) = false := by rfl) (hks : (backToKw pos (keywordEach [⟨some ("key" : Str), .Name "len" p3, kp⟩] X.env)).filterMap (·.1) = [("key" : Str)] := by rfl) :
    PE X (.Call (.Name "sorted" p) [e] [⟨some ("key" : Str), .Name "len" p3, kp⟩] pos) (tSortLen X.K t) := by
  refine ⟨fun pins s σ H Q I h => wpAny_Call_Name_kw (ld_blt I hg1 hm1 (show bootBuiltins "sorted" = some (.builtin "sorted") by decide +kernel) ?_ (by decide) (by decide))⟩
  refine PyProof.Rows.callWith_kw (thn (ha.run pos pins s σ H _ I h) fun us s1 ⟨vs, H1, I1, r1, q1⟩ => ?_) he hpl hall hnone
  obtain ⟨a, xs, gs, rfl, hs, hz, hp, q⟩ := q1
  obtain rfl := Vals.ref1 r1
  show wpAny _ _ (evalAll ((do let v ← eval (.Name "len" p3) X.env; standAt pos; pure v) :: (backToKw pos (keywordEach [] X.env)).map (·.2))) _ _ s1
  refine wpAny_evalAll_cons (wpAny_bind (ld_blt I1 hg2 hm2 PySem.boot_len (wpAny_bind (wpAny_standAt (wpAny_pure ?_))) (by decide) (by decide)))
  refine wpAny_evalAll_nil ?_
  rw [hks]
  show wpAny _ _ (call (.builtin "sorted") [.ref a] [(Str.ofString "key", .builtin "len")]) _ _ s1
  obtain ⟨its, rv, hl, _⟩ := I1.list hs
  have lx : xs.length = gs.length := (prd_len hp).symm
  have e1 := each_zipG rv lx
  have lb : (xs.zip gs).length = gs.length := by rw [List.length_zip]; omega
  refine sorted_key_data (bs := xs.zip gs) (R := fun v (b : V × List Str) => RelV b.1 v) (b := false) (fun b => lenKey b.2) hl.isList e1 (AllAlike.of fun _ _ => rfl) (Sortable.others fun _ => ⟨fun z => (by cases z), fun _ z => by cases z⟩) (by rw [lb]; exact Nat.le_trans hz (by decide)) (fun x _ => by have := hr.units; show X.A.units + 2 + 0 < cLine; omega) (ksk_s1 _ _) (fun _ => ksk_l1 _ _) (fun x => ksk_t4 "len" x) (fun v b hR hb h tk kp => ?_) fun out c h' tk kp fresh hD hlen eo => ?_
  · obtain ⟨i, hi, e⟩ := List.getElem_of_mem hb
    have hi1 : i < gs.length := by rw [lb] at hi; exact hi
    have hi2 : i < xs.length := by omega
    rw [List.getElem_zip] at e
    subst e
    obtain ⟨x, hx, c, ys, ex, hq, hn⟩ := prd_get hp (List.getElem?_eq_getElem hi1)
    rw [List.getElem?_eq_getElem hi2] at hx
    have hx : xs[i] = x := Option.some.inj hx
    rw [ex] at hx
    have hR : RelV xs[i] v := hR
    rw [hx] at hR
    have hR : v = Value.ref c := hR
    subst hR
    obtain ⟨its', rv', pl, hz'⟩ := I1.tuple hq
    have pl' : IsTup h c its'.toArray := by
      obtain ⟨o, ho, r⟩ := pl
      exact ⟨o, kp _ _ ho, r⟩
    have ln : its'.length = gs[i].length := by rw [← rv'.length]; exact hn
    have hz2 : its'.toArray.size ≤ 2 ^ 24 := by
      rw [List.size_toArray, ← rv'.length]
      exact hz'
    have fit : (its'.toArray.size : Int) < 2 ^ 63 := by omega
    refine len_tuple (s := { s1 with heap := h, toks := tk }) pl' fit ⟨h, _, rfl, fun _ _ z => z, ?_⟩
    rw [List.size_toArray, ln]
    exact .int _ _
  · have rv2 := vals_of_eachG eo
    have hp1 : H1 (s1.heap.objs.size + 1) = none := I1.hok.fresh (Nat.le_succ _)
    refine ⟨.ref (s1.heap.objs.size + 1), _, I1.laid (t' := tk) (o := .lst (((xs.zip gs).mergeSort (dataLe false fun b => lenKey b.2)).map (·.1))) kp (Nat.le_succ _) ⟨?_, out, c, rv2, hD⟩, rfl, q _ hp1⟩
    rw [List.length_map, List.length_mergeSort, lb]
    exact Nat.le_trans hz (by decide)
end
section
variable {X : Cx} {M : Mx} {Γ : Gm} {ow : Bool} {e tg : Expr} {p p3 kp pos : Pos} {gs : List (List Str)} {k : Nat} {T : Ty}
theorem rp_lens {ex : Ads} {H : Hp} {K : PySem.W.Frag} : ∀ {gs : List (List Str)} {xs : List V}, RpAll ex H xs (gs.map gr) → Paired (fun (g : List Str) x => ∃ c ys, x = V.ref c ∧ SqT K H c ys ∧ ys.length = g.length) gs xs
  | [], _, h => by cases h; exact .nil
  | g :: gs, _, h => by
    cases h with
    | cons a r =>
      refine .cons ?_ (rp_lens r)
      have a : Rp ex H _ (.tuple (g.map .str)) := a
      cases a with
      | tup e n r => exact ⟨_, _, rfl, SqT.of e, by rw [r.length, List.length_map]⟩
theorem sortLen_zip {xs : List V} {gs : List (List Str)} (h : xs.length = gs.length) : ((xs.zip gs).mergeSort (dataLe false fun b => lenKey b.2)).map (·.2) = sortLen gs := by
  unfold sortLen
  rw [List.map_mergeSort (r := dataLe false fun b : V × List Str => lenKey b.2) (s := dataLe false lenKey) (f := fun b : V × List Str => b.2) (fun a _ b _ => rfl), List.map_snd_zip (by omega)]
theorem zip_gr {ex : Ads} {H : Hp} : ∀ {xs : List V} {gs : List (List Str)}, RpAll ex H xs (gs.map gr) → ∀ b ∈ xs.zip gs, Rp ex H b.1 (gr b.2)
  | _, [], .nil => fun b hb => by simp at hb
  | _, g :: gs, .cons a r => fun b hb => by
    rw [List.zip_cons_cons] at hb
    (rcases List.mem_cons.mp hb with rfl | hb)
    · exact a
    · exact zip_gr r b hb
/-- sorted(groups, key=len) -/
theorem E.sortLen (hr : Room k X.A) (hm1 : X.mg "sorted" = none) (hm2 : X.mg "len" = none) (h : E X M Γ e (L (gs.map gr))) (hz : gs.length ≤ 1000) (hg1 : Gl X "sorted" := by rfl) (hg2 : Gl X "len" := by rfl) (he : starEach [e] X.env = (false, eval e X.env) :: starEach [] X.env := by rfl) (he2 : backTo pos (starEach [e] X.env) = (false, eval e X.env) :: backTo pos (starEach [] X.env) := by rfl) (hpl : (backTo pos (starEach [e] X.env)).any (·.1) = false := by rfl)
    (hall : (backToKw pos (keywordEach [⟨some ("key" : Str), .Name "len" p3, kp⟩] X.env)).all (·.1.isSome) = true := by rfl) (hnone : (backToKw pos (keywordEach [⟨some ("key" : Str), .Name "len" p3, kp⟩] X.env)).any (·.1.isNone) = false := by rfl) (hks : (backToKw pos (keywordEach [⟨some ("key" : Str), .Name "len" p3, kp⟩] X.env)).filterMap (·.1) = [("key" : Str)] := by rfl) :
    E X M Γ (.Call (.Name "sorted" p) [e] [⟨some ("key" : Str), .Name "len" p3, kp⟩] pos) (L ((sortLen gs).map gr)) := fun σ H l =>
  wE.of (pe_sortLen hr hg1 hm1 hg2 hm2 (pa_cons pe_w pa_nil he) he2 hpl hall hnone hks) ((h σ H l).mono fun v H1 ⟨s1, h1⟩ => by
    cases h1 with
    | @lst a xs _ e n r =>
      have w := l.hw.st s1
      have lx : xs.length = gs.length := by rw [r.length, List.length_map]
      refine ⟨a, xs, gs, rfl, SqL.of e, hz, rp_lens r, fun p hp => ?_⟩
      have z := w.new (o := .lst (((xs.zip gs).mergeSort (dataLe false fun b => lenKey b.2)).map (·.1))) hp
      refine ⟨s1.trans z.1, .lst upd_same z.2 ?_⟩
      have u := RpAll.unzip (bs := ((xs.zip gs).mergeSort (dataLe false fun b => lenKey b.2)).map fun b => (b.1, gr b.2)) fun b hb => by
        obtain ⟨c, hc, rfl⟩ := List.mem_map.mp hb
        exact (zip_gr r c (List.mem_mergeSort.mp hc)).fr (z.1.kp w)
      rw [List.map_map, List.map_map] at u
      rw [← sortLen_zip lx, List.map_map]
      exact u)
/-- a locked table, walked by its keys -/
theorem keysT_read {d : Addr} {od : Obj} {u : HO} {f : List Str → V} (hu : u = .dT (tabOf f gs)) (nd : ¬ M.ex d) (h : E X (M.lock d od u) Γ e (Ty.at_ d T)) : ∀ σ H, Loc (M.lock d od u) Γ σ H → ∀ R : It → Hp → Prop, (∀ J H1 Ts, St (M.lock d od u) H H1 → Ts = (gs.map gr).map D → Src (M.lock d od u) ow J H1 Ts → R J H1) → iKeys (wE X e) σ H R := fun σ H l R k => (h σ H l).mono fun v H1 ⟨s1, ev, _⟩ => by
  subst ev
  have w1 := (l.st s1).hw
  have fz : H1 d = some (.frz od u) := w1.frm d _ upd_same fun q hq z => nd (z ▸ (w1.ph q hq).1)
  subst hu
  have len : ((gs.map gr).map HB.D).length = gs.length := by simp
  have lt : (tabOf f gs).length = gs.length := by unfold tabOf; rw [List.length_map]
  refine ⟨d, od, rfl, .inr ⟨_, fz, k _ H1 _ s1 rfl ⟨fun i T hT H ex' nx _ hex => ?_, fun H ex' nx _ => ⟨(nx d _ fz nd).1, by rw [len, lt]; exact Nat.le_refl _⟩⟩⟩⟩
  have hi : i < gs.length := by rw [← len]; exact (List.getElem?_eq_some_iff.mp hT).1
  have eT : T = D (gr gs[i]) := by
    rw [List.getElem?_map, List.getElem?_map, List.getElem?_eq_getElem hi] at hT
    exact (Option.some.inj hT).symm
  subst eT
  refine ⟨⟨(nx d _ fz nd).1, by rw [lt]; exact hi⟩, fun x H' ⟨hH, k', v', q, ek, ex, hq⟩ => ?_⟩
  subst hH
  subst ex
  unfold tabOf at ek
  rw [List.getElem?_map, List.getElem?_eq_getElem hi] at ek
  cases ek
  refine ⟨fun _ _ z => z, fun _ _ _ z => z, .tup hq (fun z => ?_) ?_⟩
  · obtain ⟨o, e1, nt⟩ := hex q z
    rw [hq] at e1
    cases e1
    exact nt _ rfl
  · unfold keyG
    rw [List.map_map]
    exact RpAll.of_strs _
theorem W.keysT {d : Addr} {od : Obj} {u : HO} {f : List Str → V} (hu : u = .dT (tabOf f gs)) (nd : ¬ M.ex d) (h : E X (M.lock d od u) Γ e (Ty.at_ d T)) : W X (M.lock d od u) Γ ow tg e (· = (gs.map gr).map D) := ⟨_, pi_keys pe_w, keysT_read hu nd h⟩
theorem tab_lk {ex : Ads} {v : V} {H : Hp} {kvs : List (List Key × V)} (h : (tabT kvs).P ex v H) : ∃ d u, v = .ref d ∧ Rd H d u ∧ HB.soft u = true ∧ ¬ ex d ∧ u = .dT kvs := by
  obtain ⟨d, rfl, rd, n⟩ := h
  exact ⟨d, _, rfl, rd, rfl, n, rfl⟩
end
section
variable {X : Cx} {M : Mx} {Γ : Gm} {e elt cnd : Expr} {scope : Scope} {pos tp pn lpos : Pos} {gs : List (List Str)} {x y : Str} {rest : List Stmt} {D : Ends}
/-- y = [x for x in table if f x] on one line, the table locked -/
theorem B.lcFT {f0 : List Str → V} (k i : Nat) (f : List Str → Bool) (j : Nat) (hk : Γ[k]? = some (some (tabT (tabOf f0 gs)))) (hlk : M.lk = []) (hbs : M.bs = []) (he : ∀ d od u, E X (M.lock d od u) (Γ.set k (some (Ty.at_ d (tabT (tabOf f0 gs))))) e (Ty.at_ d (tabT (tabOf f0 gs)))) (own : List (Str × Nat))
    (ht : ∀ a ∈ gs, ∀ d od u p acc, Cb X scope ((M.lock d od u).add p (cnL acc)) ((wipeG (Γ.set k (some (Ty.at_ d (tabT (tabOf f0 gs))))) (own.map (·.2))).set j (some (HB.D (gr a)))) cnd (· = f a)) (hel : ∀ a ∈ gs, f a = true → ∀ d od u p acc, Eb X scope ((M.lock d od u).add p (cnL acc)) ((wipeG (Γ.set k (some (Ty.at_ d (tabT (tabOf f0 gs))))) (own.map (·.2))).set j (some (HB.D (gr a)))) elt (HB.D (gr a)))
    (hz : gs.length ≤ 1000) (h : B X M (Γ.set i (some (L ((gs.filter f).map gr)))) rest D) (ok : BlkOk X.N X.env.scope scope own) (hN : X.N.Nodup) (hsw : swapsWith (.ListComp elt [⟨.Name x tp, e, [cnd], 0⟩] scope lpos) (some (.Name y pn)) pos.line X.env = pure true := by rfl) (hi : X.N[i]? = some y := by rfl) (hyl : X.env.scope.names.lookup y = some .local := by rfl) (hj0 : X.N[j]? = some x := by rfl) (hj : j ∈ own.map (·.2) := by decide)
    (hl : ∀ (A : Addr) (cl : List (Str × Addr)), (compEnvC scope cl A X.env).scope.names.lookup x = some .local := by intro _ _; rfl) (hc : X.calm = true := by rfl) (hs : ∀ z, foldedSetIterable e X.env z = pure z := by intro _; rfl) : B X M Γ (.Assign [.Name y pn] (.ListComp elt [⟨.Name x tp, e, [cnd], 0⟩] scope lpos) pos :: rest) D :=
  .ps (ps_lock (ps_setLc hc hN hi hyl hsw (pi_keys pe_w) ok (fun s H A cl fp => pg_name hN hj0 (.inl (hl A cl)) (.inr (hl A cl))) pts_wb pe_wb hs)) fun σ H l => by
    obtain ⟨v, ev, hv⟩ := l.var k _ hk
    obtain ⟨d, u, rfl, rd, su, nd, ru⟩ := tab_lk hv
    have hdu := l.hw.exact hlk su rd
    refine ⟨d, u, hdu, mut_soft su, fun od => ?_⟩
    have kk : Kp M.ex M.ex H (upd H d (.frz od u)) := kp_lock hdu su
    have l1 : Loc (M.lock d od u) Γ σ (upd H d (.frz od u)) := ⟨l.hw.locked hdu su nd hlk, l.len, fun i T e => let ⟨v, e', f⟩ := l.var i T e; ⟨v, e', T.fr kk f⟩⟩
    have l2 := slot_at l1 hk ev ((tabT (tabOf f0 gs)).fr kk hv)
    refine read1 (S := (· = (gs.map gr).map HB.D)) (ow := true) (vs := own.map (·.2)) (Iv := fun _ n acc => acc = ((gs.take n).filter f).map gr) (Q := fun v H' => H' d = some (.frz od u) ∧ wB X rest D (σ.set i (some v)) (upd H' d u)) l2 (keysT_read (ow := true) ru nd (he d od u) σ _ l2) (fun _ _ => rfl) (fun Ts e => by rw [e]; simp; omega) (fun Ts e n T acc hT iv => ?_) fun Ts acc q H' hS iv s r => ?_
    · subst e
      obtain ⟨a, ha, rfl⟩ := get_enc hT
      refine ⟨_, Tg.name hj, (· = f a), fun p => ⟨ht a (List.mem_of_getElem? ha) d od u p acc, fun z s H0 A cl fp => (hel a (List.mem_of_getElem? ha) z.symm d od u p acc s H0 A cl fp).imp fun v H w q => ⟨gr a, ?_, q⟩, fun z => ?_⟩⟩
      · show acc ++ [gr a] = ((gs.take (n + 1)).filter f).map gr
        rw [iv, take_snoc ha, List.filter_append, List.map_append, List.filter_cons, if_pos z.symm]
        rfl
      · show acc = ((gs.take (n + 1)).filter f).map gr
        rw [iv, take_snoc ha, List.filter_append, List.map_append, List.filter_cons, if_neg (by rw [← z]; exact Bool.false_ne_true)]
        simp
    · subst hS
      rw [List.length_map, List.length_map, List.take_length] at iv
      subst iv
      obtain ⟨h1, h2⟩ := loc_unlock l.hw hdu su nd hbs (l1.st s)
      exact ⟨h1, h _ _ (h2.set (T := L ((gs.filter f).map gr)) ((L ((gs.filter f).map gr)).fr (kp_unlock h1 su) r))⟩
end
end HB


namespace HB
open PySem L2 PyProof.Rows PySem.Spec
def stepW (f : List Str → Int) (s : List Str × Int) (g : List Str) : List Str × Int := if s.2 < f g then (g, f g) else s
def overOf (w : Wb) (ps : Py) (u : Int) (g : List Str) : Int := paid ps g - u * col w g
def worstOf (w : Wb) (ps : Py) (u : Int) : List Str × Int := (sortLen (sortG (lawGroups w.1))).foldl (stepW (overOf w ps u)) ([], 0)
theorem sortLen_perm (gs : List (List Str)) : (sortLen gs).Perm gs := List.mergeSort_perm _ _
theorem lawGroups_head : ∀ xs : List Str, ∃ r, lawGroups xs = [] :: r := by
  refine snoc_ind (p := fun xs => ∃ r, lawGroups xs = [] :: r) ⟨[], rfl⟩ fun xs y ⟨r, e⟩ => ?_
  rw [lawGroups_snoc, e]
  exact ⟨r ++ (([] : List Str) :: r).map fun g => g ++ [y], rfl⟩
theorem groups_sortOk (xs : List Str) : SortOk ((lawGroups xs).map gr) := by
  obtain ⟨r, e⟩ := lawGroups_head xs
  rw [e]
  exact .inr ⟨r.map gr, rfl, fun d hd => by
    obtain ⟨g, _, rfl⟩ := List.mem_map.mp hd
    exact ⟨_, rfl⟩⟩
section
variable {P : Program} {w : World} {K : PySem.W.Frag} {mg : Str → Option Value} {base : Heap} {Cw Cc : Addr}
def pm_worst (Cw Cc : Addr) : Pm (Addr × Wb × Py × Int) where
  pre := fun q => (Wf q.2.1 ∧ RoomsOk q.2.1) ∧ q.2.2.1.map (·.1) = q.2.1.1 ∧ 0 < q.2.2.2 ∧ q.2.2.2 ≤ 10 ^ 10
  req := fun q => [(q.1, MemoOk q.2.1)]
  args := fun q => [webT Cw q.1 q.2.1, chT Cc q.2.1.1 q.2.2.1 q.2.2.2]
  res := fun q => U [.tuple [.int (lowest (worstOf q.2.1 q.2.2.1 q.2.2.2).2 q.2.2.2).1, .int (lowest (worstOf q.2.1 q.2.2.1 q.2.2.2).2 q.2.2.2).2], gr (worstOf q.2.1 q.2.2.1 q.2.2.2).1]
theorem ok_worst (g : Gs K mg) (kw : Gc K Cw webF) (kc : Gc K Cc chF) (iw : IsC K Cw) (ic : IsC K Cc) (hw : mg "Web" = some (.ref Cw)) (hc : mg "Charge" = some (.ref Cc)) : Ok P w K mg base 12 "worst" ["web", "charge"] (pm_worst Cw Cc) := by
  refine Ok.of (k := 11) (g.df _ 59) sc_worst (fun _ => rfl) (fun _ _ _ _ _ _ us hl => match us, hl with | [_, _], _ => rfl) fun ⟨c, wb, ps, u⟩ f cdv A outer s H Ex ex lk En hp hlk hr hR hn => ?_
  obtain ⟨⟨h1, h2⟩, h4, h5, h6⟩ := hp
  have h1 : Wf wb := h1
  have h2 : RoomsOk wb := h2
  have h4 : ps.map (·.1) = wb.1 := h4
  have h5 : 0 < u := h5
  have h6 : u ≤ 10 ^ 10 := h6
  have hN := sc_worst.nd
  have g32 := groups_32 h1
  have nu := kc.na "own_unit" (by decide)
  refine B.expr (E.ok (ok_require_web g iw hw) hr (c, wb) trivial (.cons (E.var 0) .nil)) ?_
  refine B.expr (E.ok (ok_require_charge_of g kw kc ic hc) hr (c, wb, ps, u) h1.wok.ok (.cons (E.var 0) (.cons (E.var 1) .nil))) ?_
  refine B.unp (Ta := G []) (Tb := I 0) 2 3 (E.tup (.cons E.tup0 (.cons E.int .nil))) ?_ hN
  refine B.forN 4 (fun _ : List Str × Int => []) (fun q => [some (webT Cw c wb), some (chT Cc wb.1 ps u), some (G q.1), some (I q.2), none, none, none, none]) (fun n q => q = ((sortLen (sortG (lawGroups wb.1))).take n).foldl (stepW (overOf wb ps u)) ([], 0)) (W.list (ds := (sortLen (sortG (lawGroups wb.1))).map gr) (E.sortLen hr (g.bi "sorted") (g.bi "len") (E.sortGs hr (g.bi "sorted") (E.ok (ok_groups_in g kw) hr (c, wb) (by show wb.1.length ≤ 8; have := h1.len; omega) (.cons (E.var (T := webT Cw c wb) 0) .nil)) (groups_sortOk _) (by omega)) (by rw [(sortG_perm _).length_eq]; omega))) ⟨([], 0), rfl, fun _ _ l => l⟩ (fun n d q hd iv b => ?_) (fun q iv => ?_) hN
  · rw [List.getElem?_map] at hd
    cases hx : (sortLen (sortG (lawGroups wb.1)))[n]? with
    | none => rw [hx] at hd; cases hd
    | some gg =>
      rw [hx] at hd
      cases hd
      have sub : gg.Sublist wb.1 := mem_lawGroups.mp ((sortG_perm _).mem_iff.mp ((sortLen_perm _).mem_iff.mp (List.mem_of_getElem? hx)))
      have l5 : gg.length ≤ 5 := Nat.le_trans sub.length_le h1.len
      have hst : stepW (overOf wb ps u) q gg = ((sortLen (sortG (lawGroups wb.1))).take (n + 1)).foldl (stepW (overOf wb ps u)) ([], 0) := by
        rw [take_snoc hx, List.foldl_append, ← iv]
        rfl
      refine B.unp (Ta := I (paid ps gg)) (Tb := I u) 5 6 ((E.ok (ok_sum_of g kc) hr (wb.1, ps, u, gg) ⟨fun x hx => by show x ∈ ps.map (·.1); rw [h4]; exact sub.subset hx, by show gg.length ≤ 100; omega⟩ (.cons (E.var (T := chT Cc wb.1 ps u) 1) (.cons (E.var (T := G gg) 4) .nil))).imp fun v H w z => D_tupT (ds := [.int (paid ps gg), .int u]) z) ?_ hN
      have e10 : (10 : Int) ^ 10 ≤ 10 ^ 200 := by decide +kernel
      refine B.asg 7 (T := I (overOf wb ps u gg)) ((E.mul (E.sub (E.var (T := I (paid ps gg)) 5) (E.mul (E.var (T := I u) 6) (show E _ _ _ _ ((pm_colours Cw 8).res (c, wb, gg)) from E.ok (ok_colours g kw 8) hr (c, wb, gg) ⟨h1, h2, sub, by show gg.length ≤ 8; omega⟩ (.cons (E.var (T := webT Cw c wb) 0) (.cons (E.var (T := G gg) 4) .nil))) (cmul_l (by rw [c10] at h6; omega)))) (E.divW (E.fld (E.var (T := chT Cc wb.1 ps u) 1) kc.cl nu) (E.var (T := I u) 6) ?_) (cmul_r (by rw [Int.ediv_self (by omega)]; decide))).cast ?_) ?_ hN
      · refine ⟨h5, log_small ?_ (by omega)⟩
        have : ((u.natAbs : Nat) : Int) ≤ ((10 ^ 200 : Nat) : Int) := by
          rw [Int.natCast_pow]
          have e : ((u.natAbs : Nat) : Int) = u := by omega
          rw [e]
          exact Int.le_trans h6 e10
        exact Int.ofNat_le.mp this
      · rw [Int.ediv_self (by omega), Int.mul_one]
        rfl
      refine B.ite ((C.gtI (E.var (T := I (overOf wb ps u gg)) 7) (E.var (T := I q.2) 3)).imp (S' := fun v => v = decide (q.2 < overOf wb ps u gg)) fun v e => e) (fun hv => ?_) fun hv => B.skip (.nil fun σ H l => ⟨q, ?_, l.wk (.keep (.keep (.keep (.keep (.drop (.drop (.drop (.drop .nil))))))))⟩)
      · refine B.par (Ta := G gg) (Tb := I (overOf wb ps u gg)) 2 3 (E.var 4) (E.var 7) (B.skip (.nil fun σ H l => ⟨(gg, overOf wb ps u gg), by rw [← hst]; unfold stepW; rw [if_pos (by simpa using hv.symm)], l.wk (.keep (.keep (.keep (.keep (.drop (.drop (.drop (.drop .nil))))))))⟩)) hN
      · rw [← hst]
        unfold stepW
        rw [if_neg (by simpa using hv.symm)]
  · rw [List.length_map, List.take_length] at iv
    subst iv
    exact B.ret hR (Le.refl _) (E.tupD (ds := [.tuple [_, _], gr _]) (.cons (E.ok (ok_lowest_of g) hr (_, u) ⟨h5, Int.le_trans h6 (show (10 : Int) ^ 10 ≤ 10 ^ 200 by decide +kernel)⟩ (.cons (E.var (T := I (worstOf wb ps u).2) 3) (.cons (E.fld (E.var (T := chT Cc wb.1 ps u) 1) kc.cl nu) .nil))) (.cons (E.var (T := G (worstOf wb ps u).1) 2) .nil)))
end
end HB


namespace HB
open PySem L2 PyProof.Rows PySem.Spec
def lenG (g : List Str) : PyData := .tuple [.int (g.length : Int), gr g]
def srtLG (gs : List (List Str)) : List (List Str) := gs.mergeSort fun a b => PySem.W.dataLe false lenG a b
theorem srt_lenG (gs : List (List Str)) : srt (gs.map lenG) = (srtLG gs).map lenG := by
  unfold srt srtLG
  rw [List.map_mergeSort (r := fun a b => PySem.W.dataLe false lenG a b) (s := PySem.W.dataLe false _root_.id) (f := lenG) fun a _ b _ => rfl]
theorem srtLG_perm (gs : List (List Str)) : (srtLG gs).Perm gs := List.mergeSort_perm _ _
theorem alike_lenG (g h : List Str) : PySem.W.alike (lenG g) (lenG h) = true := by
  unfold lenG
  rw [PySem.W.alike, PySem.W.alikeAll, PySem.W.alikeAll, alike_gr, PySem.W.alikeAll]
  simp [PySem.W.alike]
theorem lenG_dep (g : List Str) : (lenG g).depth ≤ 20 := by
  unfold lenG
  rw [PyData.depth, PyData.depthAll, PyData.depthAll, gr_dep, PyData.depth, PyData.depthAll]
  decide
/-- what _law_worst gives -/
structure LWorst (f : List Str → Int) (gs : List (List Str)) (q : Int × List Str) : Prop where
  at_ : ∃ g ∈ gs, q.1 = f g
  top : ∀ g ∈ gs, f g ≤ q.1
  first : (srtLG (gs.filter fun g => decide (f g = q.1))).head? = some q.2
def overChi (w : Wb) (q : Bill) (g : List Str) : Int := paid q.1 g - q.2 * chi w g
section
variable {P : Program} {w : World} {K : PySem.W.Frag} {mg : Str → Option Value} {base : Heap} {Cw Cc : Addr}
def pm_l_worst : Pm (Wb × Bill) where
  pre := fun q => Wf q.1 ∧ BOk q.1.1 (10 ^ 30) q.2
  args := fun q => [tabT (tabOf (chiV q.1) (lawGroups q.1.1)), billT q.2]
  res := fun q => .some (LWorst (overChi q.1 q.2) (lawGroups q.1.1)) fun r => U [.int r.1, gr r.2]
  nolk := true
theorem E.sub' {X : Cx} {M : Mx} {Γ : Gm} {e : Expr} {d : Addr} {T : Ty} (h : E X M Γ e (Ty.at_ d T)) : E X M Γ e T := h.imp fun _ _ _ q => q.2
theorem ok_l_worst (g : Gs K mg) : Ok P w K mg base 2 "_law_worst" ["_law_table", "_law_some"] pm_l_worst := by
  refine Ok.of (k := 1) (g.df _ 93) sc_l_worst (fun _ => rfl) (fun _ _ _ _ _ _ us hl => match us, hl with | [_, _], _ => rfl) fun ⟨wb, ps, u⟩ f cdv A outer s H Ex ex lk En hp hlk hr hR hn => ?_
  obtain ⟨wf, bk⟩ := hp
  have wf : Wf wb := wf
  have bk : BOk wb.1 (10 ^ 30) (ps, u) := bk
  obtain ⟨b1, b2, b3, b4⟩ := bk
  have b1 : ps.map (·.1) = wb.1 := b1
  have b3 : 1 ≤ u := b3
  have b4 : u ≤ 10 ^ 10 := b4
  obtain rfl := hlk rfl
  have hN := sc_l_worst.nd
  have g32 := groups_32 wf
  have over : ∀ {X : Cx} {M : Mx} {Γ : Gm} {p1 p2 p3 p4 p5 p6 p7 p8 p9 q1 q2 : Pos} {j1 j2 : Nat} {d : Addr} {gg : List Str}, gg ∈ lawGroups wb.1 → X.prog = P → X.w = w → X.K = K → X.mg = mg → X.base = base → True := fun _ _ _ _ _ _ => trivial
  have gm : ∀ gg ∈ lawGroups wb.1, (∀ x ∈ gg, x ∈ ps.map (·.1)) ∧ gg.length ≤ 100 := fun gg hg => ⟨fun x hx => by rw [b1]; exact (mem_lawGroups.mp hg).subset hx, by have := (mem_lawGroups.mp hg).length_le; have := wf.len; omega⟩
  refine B.asgS 2 (S := fun m => m ∈ (lawGroups wb.1).map (overChi wb (ps, u)) ∧ ∀ k ∈ (lawGroups wb.1).map (overChi wb (ps, u)), k ≤ m) (f := I) (E.lock 0 (T0 := tabT (tabOf (chiV wb) (lawGroups wb.1))) (R := fun o => o = .dT (tabOf (chiV wb) (lawGroups wb.1))) rfl (fun ex v H h => tab_lk h) rfl fun d od o ho nd => E.max (ns := (lawGroups wb.1).map (overChi wb (ps, u))) (g.bi "max") ((E.lcM (enc := gr) (xs := lawGroups wb.1) (fun gg => .int (overChi wb (ps, u) gg)) 4 (W.keysT (gs := lawGroups wb.1) ho nd (E.var 0)) [("_law_crowd", 4)] (fun gg hg p acc s H0 A' cl fp => ?_) (by omega) (blkOk_by (N := N_l_worst) (sc := defScope s_l_worst) (by decide +kernel)) hN).castL (by rw [List.map_map]; rfl)) (by rw [List.length_map, lawGroups_len]; exact Nat.pos_of_ne_zero (by simp))) (fun m hm => ?_) hN
  · exact E.sub (E.ok (ok_paid g) hr (ps, gg) (gm gg hg) (.cons (E.ixT (Ts := [payT ps, I u]) (i := 0) (E.var 1) E.int rfl) (.cons (E.var (T := G gg) 4) .nil))) (E.mul (E.ixT (Ts := [payT ps, I u]) (i := 1) (E.var 1) E.int rfl) (E.iIs (E.tabAt (room1 hr) (E.sub' (E.var 0)) (E.var (T := G gg) 4) (tab_val (f := chiV wb) hg))) (cmul_l (by rw [c10] at b4; omega)))
  refine B.lcFT (f0 := chiV wb) (gs := lawGroups wb.1) 0 3 (fun gg => decide (overChi wb (ps, u) gg = m)) 4 rfl rfl rfl (fun d od o => E.var 0) [("_law_crowd", 4)] (fun gg hg d od o p acc s H0 A' cl fp => ?_) (fun gg hg z d od o p acc s H0 A' cl fp => E.var 4) (by omega) ?_ (blkOk_by (N := N_l_worst) (sc := defScope s_l_worst) (by decide +kernel)) hN
  · exact C.eqI (E.sub (E.ok (ok_paid g) hr (ps, gg) (gm gg hg) (.cons (E.ixT (Ts := [payT ps, I u]) (i := 0) (E.var 1) E.int rfl) (.cons (E.var (T := G gg) 4) .nil))) (E.mul (E.ixT (Ts := [payT ps, I u]) (i := 1) (E.var 1) E.int rfl) (E.iIs (E.tabAt (room1 hr) (E.sub' (E.var 0)) (E.var (T := G gg) 4) (tab_val (f := chiV wb) hg))) (cmul_l (by rw [c10] at b4; omega)))) (E.var (T := I m) 2)
  · obtain ⟨m1, m2⟩ := hm
    obtain ⟨g0, hg0, e0⟩ := List.mem_map.mp m1
    have hf : ∃ g1, (srtLG ((lawGroups wb.1).filter fun g => decide (overChi wb (ps, u) g = m))).head? = some g1 := by
      cases e : srtLG ((lawGroups wb.1).filter fun g => decide (overChi wb (ps, u) g = m)) with
      | nil =>
        have := (srtLG_perm ((lawGroups wb.1).filter fun g => decide (overChi wb (ps, u) g = m))).mem_iff.mpr (List.mem_filter.mpr ⟨hg0, by simpa using e0⟩)
        rw [e] at this
        cases this
      | cons a r => exact ⟨a, rfl⟩
    obtain ⟨g1, hg1⟩ := hf
    have hd : (srt (((lawGroups wb.1).filter fun g => decide (overChi wb (ps, u) g = m)).map lenG))[0]? = some (lenG g1) := by
      rw [srt_lenG, List.getElem?_map, ← List.head?_eq_getElem?, hg1]
      rfl
    refine B.ret hR (Le.refl _) (E.out (m, g1) (E.tupD (ds := [.int m, gr g1]) (.cons (E.var (T := I m) 2) (.cons (E.ixU (ds := [.int (g1.length : Int), gr g1]) (i := 1) (E.ixL (i := 0) (d := lenG g1) (E.sortL hr (g.bi "sorted") (E.lcM (enc := gr) (xs := (lawGroups wb.1).filter fun g => decide (overChi wb (ps, u) g = m)) lenG 4 (W.list (E.var 3)) [("_law_crowd", 4)] (fun gg hg p acc s H0 A' cl fp => E.tupD (ds := [.int (gg.length : Int), gr gg]) (.cons ((E.lenU (ds := gg.map .str) (g.bi "len") (E.var (T := G gg) 4)).nat (by rw [List.length_map])) (.cons (E.var 4) .nil))) (Nat.le_trans (List.length_filter_le _ _) (by omega)) (blkOk_by (N := N_l_worst) (sc := defScope s_l_worst) (by decide +kernel)) hN) (PySem.W.AllAlike.of alike_lenG) (.inl (.inl fun d hd => by
        obtain ⟨g, _, rfl⟩ := List.mem_map.mp hd
        exact ⟨_, _, rfl⟩)) (by rw [List.length_map]; exact Nat.le_trans (List.length_filter_le _ _) (by omega)) (fun d hd => by
        obtain ⟨g, _, rfl⟩ := List.mem_map.mp hd
        exact lenG_dep g)) E.int hd) E.int rfl) .nil))) ⟨⟨g0, hg0, e0.symm⟩, fun g hg => m2 _ (List.mem_map.mpr ⟨g, hg, rfl⟩), hg1⟩)
end
end HB


namespace HB
open PySem L2 PyProof.Rows PySem.Spec
section
variable {X : Cx} {M M0 : Mx} {Γ : Gm} {e a b c : Expr} {rest : List Stmt} {D : Ends} {T Ta Tb Tc : Ty} {pos p : Pos} {x y z : Str} {cn I : Cn} {R : Addr → Ty}
/-- a, b = e, e a pair known by a letter -/
theorem B.unpZ {α : Sort _} {S : α → Prop} {Ta Tb : α → Ty} {px py pt : Pos} {kt : Nat} (i j : Nat) (he : E X M Γ e (.some S fun z => tupT [Ta z, Tb z])) (h : ∀ z, S z → B X M ((Γ.set i (some (Ta z))).set j (some (Tb z))) rest D) (hN : X.N.Nodup) (hi : X.N[i]? = some x := by rfl) (hj : X.N[j]? = some y := by rfl)
    (hx : L2.Loc X.env.scope x := by first | exact Or.inl rfl | exact Or.inr rfl) (hy : L2.Loc X.env.scope y := by first | exact Or.inl rfl | exact Or.inr rfl) (hs : swapsWithSole [.Tuple [.Name x px, .Name y py] kt pt] e pos.line X.env = pure false := by rfl)
    (hw : swappedStores [.Tuple [.Name x px, .Name y py] kt pt] e X.env = pure none := by rfl) (h1 : (assignEach [.Tuple [.Name x px, .Name y py] kt pt] X.env).map (·.2) = [assign (.Tuple [.Name x px, .Name y py] kt pt) X.env] := by rfl)
    (f1 : X.fn x = true ∨ X.env.scope.names.lookup x = some .local := by first | exact .inl rfl | exact .inr rfl) (f2 : X.fn y = true ∨ X.env.scope.names.lookup y = some .local := by first | exact .inl rfl | exact .inr rfl)
    (n1 : (assignEach [.Name x px, .Name y py] X.env).length = 2 := by rfl) (n2 : (assignEach [.Name x px, .Name y py] X.env).findIdx? (·.1) = none := by rfl)
    (m1 : (assignEach [.Name x px, .Name y py] X.env).map (·.2) = assign (.Name x px) X.env :: (assignEach [.Name y py] X.env).map (·.2) := by rfl) (m2 : (assignEach [.Name y py] X.env).map (·.2) = assign (.Name y py) X.env :: (assignEach [] X.env).map (·.2) := by rfl) (hc : X.calm = true := by rfl) :
    B X M Γ (.Assign [.Tuple [.Name x px, .Name y py] kt pt] e pos :: rest) D :=
  .ps (ps_asg pe_w (pg_tup hc (pgs_cons (pg_name hN hi hx f1) (pgs_cons (pg_name hN hj hy f2) pgs_nil m2) m1) n1 n2) hs hw h1) fun σ H l => (he σ H l).mono fun v H1 ⟨s, z, sz, q⟩ =>
    Tg.pairT (vs := [i, j]) (by simp) (by simp) M σ H1 v _ (l.st s) q fun σ' l' _ => h z sz σ' H1 l'
theorem Tg.triT {K : PySem.W.Frag} {i j k : Nat} {T1 T2 T3 : Ty} {Γ : Gm} {vs : List Nat} (h1 : i ∈ vs) (h2 : j ∈ vs) (h3 : k ∈ vs) : Tg (gTup K 3 (gCons (gName i) (gCons (gName j) (gCons (gName k) gNil)))) (tupT [T1, T2, T3]) Γ (((Γ.set i (some T1)).set j (some T2)).set k (some T3)) vs := fun M σ H v Q l hv kk => by
  obtain ⟨a, xs, rfl, e, n, r⟩ := hv
  cases r with
  | cons r1 r =>
    cases r with
    | cons r2 r =>
      cases r with
      | cons r3 r =>
        cases r
        exact ⟨a, _, rfl, SqT.of e, rfl, _, _, rfl, _, _, rfl, _, _, rfl, rfl, kk _ (((l.set r1).set r2).set r3) (by rw [wipe_set h3, wipe_set h2, wipe_set h1])⟩
/-- (e1, e2, e3), e1 with a new cell -/
theorem EG.tup3 {j : Nat} (ha : EG X M Γ a cn R) (hb : ∀ q, E X (M.add q cn) Γ b Tb) (hc : ∀ q, E X (M.add q cn) Γ c Tc) (s1 : starEach [a, b, c] X.env = (false, eval a X.env) :: starEach [b, c] X.env := by rfl) (s2 : starEach [b, c] X.env = (false, eval b X.env) :: starEach [c] X.env := by rfl) (s3 : starEach [c] X.env = (false, eval c X.env) :: starEach [] X.env := by rfl) :
    EG X M Γ (.Tuple [a, b, c] j pos) cn (fun q => tupT [R q, Tb, Tc]) := fun σ H l =>
  wE.of (pe_tup (pa_cons pe_w (pa_cons pe_w (pa_cons pe_w pa_nil s3) s2) s1)) ((ha σ H l).mono fun v H1 ⟨q, hq, l1, hv⟩ => (hb q σ H1 l1).mono fun u H2 ⟨q2, hu⟩ => (hc q σ H2 (l1.st q2)).mono fun t H3 ⟨q3, ht⟩ => by
    have l2 := l1.st q2
    have l3 := l2.st q3
    refine ⟨show 3 ≤ sizeLine by decide, fun p hp => ?_⟩
    obtain ⟨s4, np⟩ := l3.hw.new (o := .tup [v, u, t]) hp
    have k3 := s4.kp l3.hw
    exact ⟨q, hq, l3.st s4, p, _, rfl, upd_same, np, .cons ((R q).fr (((q2.trans q3).trans s4).kp l1.hw) hv) (.cons (Tb.fr ((q3.trans s4).kp l2.hw) hu) (.cons (Tc.fr k3 ht) .nil))⟩)
/-- a, b, c = e, e three things, one of them with a new cell, shared from now on -/
theorem B.newT3 {px py pz pt : Pos} {kt : Nat} {Ra Rb Rc : Addr → Ty} (i j k : Nat) (he : EG X M Γ e cn fun q => tupT [Ra q, Rb q, Rc q]) (hI : ∀ ex H o, cn.P ex H o → I.P ex H o) (h : ∀ q, ¬ M.ex q → M.H0 q = none → (∀ b ∈ M.bs, b q = none) → (∀ r ∈ M.ph, M.ex r.1) → B X (M.share q I) (((Γ.set i (some (Ra q))).set j (some (Rb q))).set k (some (Rc q))) rest D) (hN : X.N.Nodup)
    (hi : X.N[i]? = some x := by rfl) (hj : X.N[j]? = some y := by rfl) (hk : X.N[k]? = some z := by rfl) (hx : L2.Loc X.env.scope x := by first | exact Or.inl rfl | exact Or.inr rfl) (hy : L2.Loc X.env.scope y := by first | exact Or.inl rfl | exact Or.inr rfl) (hz : L2.Loc X.env.scope z := by first | exact Or.inl rfl | exact Or.inr rfl)
    (hs : swapsWithSole [.Tuple [.Name x px, .Name y py, .Name z pz] kt pt] e pos.line X.env = pure false := by rfl) (hw : swappedStores [.Tuple [.Name x px, .Name y py, .Name z pz] kt pt] e X.env = pure none := by rfl) (h1 : (assignEach [.Tuple [.Name x px, .Name y py, .Name z pz] kt pt] X.env).map (·.2) = [assign (.Tuple [.Name x px, .Name y py, .Name z pz] kt pt) X.env] := by rfl)
    (f1 : X.fn x = true ∨ X.env.scope.names.lookup x = some .local := by first | exact .inl rfl | exact .inr rfl) (f2 : X.fn y = true ∨ X.env.scope.names.lookup y = some .local := by first | exact .inl rfl | exact .inr rfl) (f3 : X.fn z = true ∨ X.env.scope.names.lookup z = some .local := by first | exact .inl rfl | exact .inr rfl)
    (n1 : (assignEach [.Name x px, .Name y py, .Name z pz] X.env).length = 3 := by rfl) (n2 : (assignEach [.Name x px, .Name y py, .Name z pz] X.env).findIdx? (·.1) = none := by rfl)
    (m1 : (assignEach [.Name x px, .Name y py, .Name z pz] X.env).map (·.2) = assign (.Name x px) X.env :: (assignEach [.Name y py, .Name z pz] X.env).map (·.2) := by rfl) (m2 : (assignEach [.Name y py, .Name z pz] X.env).map (·.2) = assign (.Name y py) X.env :: (assignEach [.Name z pz] X.env).map (·.2) := by rfl)
    (m3 : (assignEach [.Name z pz] X.env).map (·.2) = assign (.Name z pz) X.env :: (assignEach [] X.env).map (·.2) := by rfl) (hc : X.calm = true := by rfl) : B X M Γ (.Assign [.Tuple [.Name x px, .Name y py, .Name z pz] kt pt] e pos :: rest) D :=
  .ps (ps_asg pe_w (pg_tup hc (pgs_cons (pg_name hN hi hx f1) (pgs_cons (pg_name hN hj hy f2) (pgs_cons (pg_name hN hk hz f3) pgs_nil m3) m2) m1) n1 n2) hs hw h1) fun σ H l => (he σ H l).mono fun v H1 ⟨q, hq, l1, hv⟩ =>
    Tg.triT (vs := [i, j, k]) (by simp) (by simp) (by simp) (M.share q I) σ H1 v _ (l1.shared hI) hv fun σ' l' _ => h q (l.hw.fresh hq) (l.hw.frm0 hq) (fresh_bs l.hw hq) (fun r hr => (l.hw.ph r hr).1) σ' H1 l'
/-- a, b = e, e two things, one of them with a new cell, shared from now on -/
theorem EG.tup2 {j : Nat} (ha : EG X M Γ a cn R) (hb : ∀ q, E X (M.add q cn) Γ b Tb) (s1 : starEach [a, b] X.env = (false, eval a X.env) :: starEach [b] X.env := by rfl) (s2 : starEach [b] X.env = (false, eval b X.env) :: starEach [] X.env := by rfl) :
    EG X M Γ (.Tuple [a, b] j pos) cn (fun q => tupT [R q, Tb]) := fun σ H l =>
  wE.of (pe_tup (pa_cons pe_w (pa_cons pe_w pa_nil s2) s1)) ((ha σ H l).mono fun v H1 ⟨q, hq, l1, hv⟩ => (hb q σ H1 l1).mono fun u H2 ⟨q2, hu⟩ => by
    have l2 := l1.st q2
    refine ⟨show 2 ≤ sizeLine by decide, fun p hp => ?_⟩
    obtain ⟨s4, np⟩ := l2.hw.new (o := .tup [v, u]) hp
    exact ⟨q, hq, l2.st s4, p, _, rfl, upd_same, np, .cons ((R q).fr ((q2.trans s4).kp l1.hw) hv) (.cons (Tb.fr (s4.kp l2.hw) hu) .nil)⟩)
/-- a, b = e1, e2, two locals, e1 with a new cell, shared from now on -/
theorem B.newP {px py pt pt2 : Pos} {kt k2 : Nat} {Tb : Ty} (i j : Nat) (ha : EG X M Γ a cn R) (hb : ∀ q, E X (M.add q cn) Γ b Tb) (hI : ∀ ex H o, cn.P ex H o → I.P ex H o) (h : ∀ q, ¬ M.ex q → M.H0 q = none → (∀ b ∈ M.bs, b q = none) → (∀ r ∈ M.ph, M.ex r.1) → B X (M.share q I) ((Γ.set i (some (R q))).set j (some Tb)) rest D) (hN : X.N.Nodup) (hi : X.N[i]? = some x := by rfl) (hj : X.N[j]? = some y := by rfl) (hij : i ≠ j := by decide)
    (hx : X.env.scope.names.lookup x = some .local := by rfl) (hy : X.env.scope.names.lookup y = some .local := by rfl) (hw : swappedStores [.Tuple [.Name x px, .Name y py] kt pt] (.Tuple [a, b] k2 pt2) X.env = pure (some [x, y]) := by rfl)
    (hs : swapsWithSole [.Tuple [.Name x px, .Name y py] kt pt] (.Tuple [a, b] k2 pt2) pos.line X.env = pure false := by rfl) (s1 : starEach [a, b] X.env = (false, eval a X.env) :: starEach [b] X.env := by rfl) (s2 : starEach [b] X.env = (false, eval b X.env) :: starEach [] X.env := by rfl) (hc : X.calm = true := by rfl) :
    B X M Γ (.Assign [.Tuple [.Name x px, .Name y py] kt pt] (.Tuple [a, b] k2 pt2) pos :: rest) D :=
  .ps (ps_par hc hN hi hj hij hx hy (pa_cons pe_w (pa_cons pe_w pa_nil s2) s1) hw hs) fun σ H l => (ha σ H l).mono fun v H1 ⟨q, hq, l1, hv⟩ => (hb q σ H1 l1).mono fun u H2 ⟨q2, hu⟩ => by
    have hv2 : (R q).P (M.add q cn).ex v H2 := (R q).fr (q2.kp l1.hw) hv
    exact ⟨v, u, rfl, h q (l.hw.fresh hq) (l.hw.frm0 hq) (fresh_bs l.hw hq) (fun r hr => (l.hw.ph r hr).1) _ H2 ((((l1.st q2).shared hI).set hv2).set hu)⟩
def boolS (v : Bool) : Str := if v then "True" else "False"
theorem call_repr_bl : CallR X (.builtin "repr") (fun xs H Q => ∃ v, xs = [.bl v] ∧ Q (.str (boolS v)) H) := by
  rintro pins s σ H xs us Q I r ⟨v, rfl, q⟩
  cases r with
  | cons a t =>
    cases t
    cases a
    refine PySem.P.repr_of_bool ⟨.str (boolS v), H, I.tok _, ⟨s.toks, ?_⟩, q⟩
    cases v <;> rfl
theorem E.reprB {v : Bool} (hm : X.mg "repr" = none) (h : E X M Γ e (Bo v)) (hg : Gl X "repr" := by rfl) (he : starEach [e] X.env = (false, eval e X.env) :: starEach [] X.env := by rfl) : E X M Γ (.Call (.Name "repr" p) [e] [] pos) (S_ (boolS v)) :=
  E.callB call_repr_bl (by decide +kernel) hm (.cons h .nil he) (.one fun u H Q w h k => by
    cases h
    exact ⟨v, rfl, k _ H (St.refl w) (.str _)⟩) hg (he := he)
theorem op_isNotB : OpR X (compareOp .IsNot) (fun x y H Q => ∃ a b, x = .bl a ∧ y = .bl b ∧ Q (.bl (!decide (a = b))) H) := by
  rintro pins s σ H x y v u Q I rx ry ⟨a, b, rfl, rfl, kk⟩
  cases rx
  cases ry
  by_cases e : a = b
  · subst e
    exact wpAny_isNot_self rfl ⟨.bl false, H, I, rfl, by simpa using kk⟩
  · exact wpAny_isNot_other rfl (fun z => e (Value.bool.inj z)) ⟨.bl true, H, I, rfl, by simpa [e] using kk⟩
theorem C.isNotB {u v : Bool} (ha : E X M Γ a (Bo u)) (hb : E X M Γ b (Bo v)) : C X M Γ (.Compare a [.IsNot] [b] pos) (· = !decide (u = v)) := C.opD op_isNotB ha hb (fun x y H Q w h1 h2 k => by
  cases h1
  cases h2
  exact ⟨u, v, rfl, rfl, k _ H (St.refl w) (.bl _)⟩) (nomark _)
end
end HB


namespace HB
open PySem PySem.Spec PyProof.Rows L2 PySem.W
section
variable {β : Type} (k : β → PyData)
theorem lt_asym {x y : PyData} (h : dataLt x y = true) : dataLt y x = false := by
  cases e : dataLt y x with
  | false => rfl
  | true =>
    have t := lex_trans (O := itemOrd) _ _ _ h e
    rw [lex_irrefl (O := itemOrd)] at t
    cases t
theorem le_total' (a b : β) : (dataLe false k a b || dataLe false k b a) = true := by
  rw [dataLe_eq]
  show (!dataLt (k b) (k a) || !dataLt (k a) (k b)) = true
  cases e : dataLt (k b) (k a) with
  | false => rfl
  | true => rw [lt_asym e]; rfl
theorem le_trans' (a b c : β) (h1 : dataLe false k a b = true) (h2 : dataLe false k b c = true) : dataLe false k a c = true := by
  rw [dataLe_eq] at *
  have h1 : (!dataLt (k b) (k a)) = true := h1
  have h2 : (!dataLt (k c) (k b)) = true := h2
  show (!dataLt (k c) (k a)) = true
  cases e : dataLt (k c) (k a) with
  | false => rfl
  | true =>
    rcases lex_negTrans (O := itemOrd) _ (keyToks (k b)) _ e with z | z
    · rw [show dataLt (k c) (k b) = true from z] at h2
      cases h2
    · rw [show dataLt (k b) (k a) = true from z] at h1
      cases h1
theorem le_anti' {a b : β} (h1 : dataLe false k a b = true) (h2 : dataLe false k b a = true) : keyToks (k a) = keyToks (k b) := by
  rw [dataLe_eq] at *
  have h1 : (!dataLt (k b) (k a)) = true := h1
  have h2 : (!dataLt (k a) (k b)) = true := h2
  have h1' : dataLt (k b) (k a) = false := by simpa using h1
  have h2' : dataLt (k a) (k b) = false := by simpa using h2
  exact lex_total (O := itemOrd) _ _ h2' h1'
end
theorem toks_inj : ∀ {g h : List Str}, keyToksAll (g.map PyData.str) = keyToksAll (h.map PyData.str) → g = h
  | [], [], _ => rfl
  | [], y :: h, e => by
    rw [List.map_cons, List.map_nil, keyToksAll, keyToksAll] at e
    simp at e
  | x :: g, [], e => by
    rw [List.map_cons, List.map_nil, keyToksAll, keyToksAll] at e
    simp at e
  | x :: g, y :: h, e => by
    rw [List.map_cons, List.map_cons, keyToksAll, keyToksAll, keyToks, keyToks] at e
    simp only [List.cons_append, List.nil_append, List.cons.injEq, true_and] at e
    have e1 : x.cps.toList = y.cps.toList := by simpa using e.1
    rw [str_of_cps e1, toks_inj e.2]
theorem gr_toks {g h : List Str} (e : keyToks (gr g) = keyToks (gr h)) : g = h := by
  unfold gr at e
  rw [keyToks, keyToks] at e
  exact toks_inj e
theorem leG_anti {g h : List Str} (h1 : leG g h = true) (h2 : leG h g = true) : g = h := gr_toks (le_anti' gr h1 h2)
theorem leG_refl (g : List Str) : leG g g = true := by
  have := le_total' gr g g
  rw [Bool.or_self] at this
  exact this
theorem sortG_sorted (l : List (List Str)) : (sortG l).Pairwise fun a b => leG a b = true := List.pairwise_mergeSort (le_trans' gr) (le_total' gr) l
theorem sortG_uniq {l r : List (List Str)} (hl : l.Pairwise fun a b => leG a b = true) (p : l.Perm r) : l = sortG r :=
  List.Perm.eq_of_pairwise (le := fun a b => leG a b = true) (fun a b _ _ => leG_anti) hl (sortG_sorted r) (p.trans (sortG_perm r).symm)
theorem sortG_filter (l : List (List Str)) (p : List Str → Bool) : (sortG l).filter p = sortG (l.filter p) := sortG_uniq ((sortG_sorted l).filter p) ((sortG_perm l).filter p)
theorem sortG_perm_eq {l r : List (List Str)} (p : l.Perm r) : sortG l = sortG r := sortG_uniq (sortG_sorted l) ((sortG_perm l).trans p)
theorem pair_or {α : Type} {a b : α} (ne : a ≠ b) : ∀ {l : List α}, a ∈ l → b ∈ l → [a, b].Sublist l ∨ [b, a].Sublist l
  | [], h, _ => by cases h
  | x :: l, ha, hb => by
    rcases List.mem_cons.mp ha with e1 | h1
    · rcases List.mem_cons.mp hb with e2 | h2
      · exact absurd (e1.trans e2.symm) ne
      · rw [e1]
        exact .inl ((List.singleton_sublist.mpr h2).cons_cons _)
    · rcases List.mem_cons.mp hb with e2 | h2
      · rw [e2]
        exact .inr ((List.singleton_sublist.mpr h1).cons_cons _)
      · rcases pair_or ne h1 h2 with h | h
        · exact .inl (h.cons _)
        · exact .inr (h.cons _)
theorem pair_not {α : Type} {a b : α} : ∀ {l : List α}, l.Nodup → [a, b].Sublist l → [b, a].Sublist l → False
  | [], _, h, _ => by cases h
  | x :: l, nd, h1, h2 => by
    (obtain ⟨n1, n2⟩ := List.nodup_cons.mp nd)
    cases h1 with
    | cons _ h1 =>
      cases h2 with
      | cons _ h2 => exact pair_not n2 h1 h2
      | cons_cons _ h2 => exact n1 (h1.subset (by simp))
    | cons_cons _ h1 =>
      cases h2 with
      | cons _ h2 => exact n1 (h2.subset (by simp))
      | cons_cons _ h2 => exact n1 (h2.subset (by simp))
def leLG (a b : List Str) : Bool := dataLe false lenG a b
theorem leLG_iff (a b : List Str) : leLG a b = true ↔ a.length < b.length ∨ (a.length = b.length ∧ leG a b = true) := by
  have e : leLG a b = !dataLt (lenG b) (lenG a) := by unfold leLG; rw [dataLe_eq]; rfl
  have e2 : leG a b = !dataLt (gr b) (gr a) := by unfold leG; rw [dataLe_eq]; rfl
  rw [e, e2]
  unfold lenG
  rw [dataLt_pair (by simp [alike]) (alike_gr _ _), dataLt_int, eqv_gr]
  have q : PyData.eqv (.int (b.length : Int)) (.int (a.length : Int)) = decide (b.length = a.length) := by
    simp only [PyData.eqv]
    rw [Bool.eq_iff_iff]
    simp
    omega
  rw [q]
  by_cases h1 : b.length = a.length
  · by_cases h2 : b = a
    · subst h2
      have z : dataLt (gr b) (gr b) = false := lex_irrefl (O := itemOrd) _
      simp [z]
    · simp [h1, h2]
  · simp [h1]
    omega
theorem toks_lenG {a b : List Str} (e : keyToks (lenG a) = keyToks (lenG b)) : a = b := by
  unfold lenG at e
  rw [keyToks, keyToks, keyToksAll, keyToksAll, keyToksAll, keyToksAll, keyToksAll, keyToks, keyToks] at e
  simp only [List.cons_append, List.nil_append, List.cons.injEq, true_and] at e
  exact gr_toks (List.append_cancel_right e.2)
theorem leLG_anti {a b : List Str} (h1 : leLG a b = true) (h2 : leLG b a = true) : a = b := toks_lenG (le_anti' lenG h1 h2)
theorem lenKey_iff (a b : List Str) : dataLe false lenKey a b = true ↔ a.length ≤ b.length := by
  have e : dataLe false lenKey = fun a b : List Str => decide ((a.length : Int) ≤ (b.length : Int)) := dataLe_int fun g : List Str => (g.length : Int)
  rw [e]
  simp
theorem ord_sorted {G : List (List Str)} (nd : G.Nodup) : (sortLen (sortG G)).Pairwise fun a b => leLG a b = true := by
  have pO : (sortLen (sortG G)).Perm G := (sortLen_perm _).trans (sortG_perm _)
  have ndO : (sortLen (sortG G)).Nodup := pO.nodup_iff.mpr nd
  have sO : (sortLen (sortG G)).Pairwise fun a b => dataLe false lenKey a b = true := List.pairwise_mergeSort (le_trans' lenKey) (le_total' lenKey) _
  refine List.pairwise_iff_forall_sublist.mpr fun {a b} h => ?_
  have l1 := (lenKey_iff a b).mp (List.pairwise_iff_forall_sublist.mp sO h)
  rw [leLG_iff]
  by_cases lt : a.length < b.length
  · exact .inl lt
  · have el : a.length = b.length := by omega
    refine .inr ⟨el, ?_⟩
    by_cases ne : a = b
    · rw [ne]
      exact leG_refl b
    · have ma : a ∈ sortG G := (sortLen_perm _).mem_iff.mp (h.subset (by simp))
      have mb : b ∈ sortG G := (sortLen_perm _).mem_iff.mp (h.subset (by simp))
      rcases pair_or ne ma mb with s | s
      · exact List.pairwise_iff_forall_sublist.mp (sortG_sorted G) s
      · exact (pair_not ndO h (List.pair_sublist_mergeSort (le_trans' lenKey) (le_total' lenKey) ((lenKey_iff b a).mpr (by omega)) s)).elim
theorem srtLG_filter {G : List (List Str)} (nd : G.Nodup) (p : List Str → Bool) : (sortLen (sortG G)).filter p = srtLG (G.filter p) :=
  List.Perm.eq_of_pairwise (le := fun a b => leLG a b = true) (fun a b _ _ => leLG_anti) ((ord_sorted nd).filter p) (List.pairwise_mergeSort (le_trans' lenG) (le_total' lenG) _) ((((sortLen_perm _).trans (sortG_perm _)).filter p).trans (srtLG_perm _).symm)
end HB


namespace HB
open PySem PySem.Spec PyProof.Rows L2 PySem.W
theorem grown_nodup {w : Wb} (hw : Wf w) : ∀ (xs : List Str), (∀ x ∈ xs, x ∈ w.1) → xs.Nodup → (xs.foldl (growStep w) []).Nodup := by
  refine snoc_ind (p := fun xs => (∀ x ∈ xs, x ∈ w.1) → xs.Nodup → (xs.foldl (growStep w) []).Nodup) (fun _ _ => List.nodup_nil) fun xs y ih hx nd => ?_
  have hx1 : ∀ x ∈ xs, x ∈ w.1 := fun x h => hx x (List.mem_append_left _ h)
  obtain ⟨n1, _, n3⟩ := List.nodup_append.mp nd
  have ih := ih hx1 n1
  have ny : ∀ g ∈ xs.foldl (growStep w) [], y ∉ g := fun g hg z => by
    have := ((mem_grown hw xs hx1 g).mp hg).2.1.subset z
    exact n3 y this y (by simp) rfl
  have ne : ∀ g ∈ xs.foldl (growStep w) [], g ≠ [] := fun g hg => ((mem_grown hw xs hx1 g).mp hg).1
  rw [List.foldl_append]
  show (growStep w (xs.foldl (growStep w) []) y).Nodup
  generalize xs.foldl (growStep w) [] = fs at ih ny ne
  unfold growStep
  refine List.nodup_append.mpr ⟨List.nodup_append.mpr ⟨ih, snoc_nodup (List.Nodup.sublist List.filter_sublist ih), fun a ha b hb e => ?_⟩, by simp, fun a ha b hb e => ?_⟩
  · obtain ⟨g, _, rfl⟩ := List.mem_map.mp hb
    exact ny a ha (by rw [e]; simp)
  · rw [List.mem_singleton.mp hb] at e
    subst e
    (rcases List.mem_append.mp ha with ha | ha)
    · exact ny _ ha (by simp)
    · obtain ⟨g, hg, e⟩ := List.mem_map.mp ha
      have : g = [] := by
        have := congrArg List.length e
        simp at this
        exact this
      exact ne g (List.mem_filter.mp hg).1 this
theorem loose_nodup {w : Wb} (hw : Wf w) : (looseL w).Nodup := (sortG_perm _).nodup_iff.mpr (grown_nodup hw w.1 (fun _ h => h) hw.asc.nodup)
theorem someP_nodup {w : Wb} (hw : Wf w) (p : List Str → Bool) : (someP p w).Nodup := List.Nodup.sublist List.filter_sublist (groups_nodup w.1 hw.asc.nodup)
theorem loose_perm {w : Wb} (hw : Wf w) : (someP (looseP w) w).Perm (looseL w) := (List.perm_ext_iff_of_nodup (someP_nodup hw _) (loose_nodup hw)).mpr fun r => loose_same hw
/-- objections: the two lists are one -/
theorem loose_list {w : Wb} (hw : Wf w) {p q : List Str → Bool} (h : ∀ g, g.Sublist w.1 → p g = q g) : (sortG (looseL w)).filter p = sortG ((someP (looseP w) w).filter q) := by
  rw [sortG_filter]
  refine sortG_perm_eq ?_
  have e : (looseL w).filter p = (looseL w).filter q := List.filter_congr fun g hg => h g ((mem_looseL hw).mp hg).2.1
  rw [e]
  exact ((loose_perm hw).filter q).symm
theorem comm_dvd : ∀ (ps : Py) (u : Int), comm ps u ∣ u ∧ ∀ q ∈ ps, comm ps u ∣ q.2
  | [], u => ⟨Int.dvd_refl _, fun _ h => (by cases h)⟩
  | p :: ps, u => by
    have ih := comm_dvd ps (Int.gcd u p.2 : Int)
    have e : comm (p :: ps) u = comm ps (Int.gcd u p.2 : Int) := rfl
    rw [e]
    refine ⟨Int.dvd_trans ih.1 (Int.gcd_dvd_left ..), fun q hq => ?_⟩
    (rcases List.mem_cons.mp hq with rfl | hq)
    · exact Int.dvd_trans ih.1 (Int.gcd_dvd_right ..)
    · exact ih.2 q hq
theorem lookup_map {f : Str → Int} {x : Str} : ∀ {xs : List Str}, x ∈ xs → (xs.map fun y => (y, f y)).lookup x = some (f x)
  | [], h => by cases h
  | y :: xs, h => by
    rw [List.map_cons, List.lookup_cons]
    by_cases e : x = y
    · subst e
      rw [show (x == x) = true by simp]
    · rw [show (x == y) = false by simpa using e]
      exact lookup_map ((List.mem_cons.mp h).resolve_left e)
theorem payOf_red {ps : Py} {u : Int} {x : Str} (h : x ∈ ps.map (·.1)) : payOf (redP ps u) x = payOf ps x / comm ps u := by
  have m : x ∈ sortS (ps.map (·.1)) := (List.mergeSort_perm _ leS).mem_iff.mpr h
  have e : (redP ps u).lookup x = some (payOf ps x / comm ps u) := lookup_map (f := fun x => payOf ps x / comm ps u) m
  show ((redP ps u).lookup x).getD 0 = _
  rw [e]
  rfl
theorem paid_red {ps : Py} {u : Int} (hu : 0 < u) (nd : (ps.map (·.1)).Nodup) : ∀ {g : List Str}, (∀ x ∈ g, x ∈ ps.map (·.1)) → paid ps g = comm ps u * paid (redP ps u) g
  | [], _ => by
    show (0 : Int) = comm ps u * 0
    omega
  | x :: g, h => by
    have ih := paid_red hu nd (g := g) fun y hy => h y (List.mem_cons_of_mem _ hy)
    have hx := h x List.mem_cons_self
    have c : ∀ (qs : Py) (y : Str) (l : List Str), paid qs (y :: l) = payOf qs y + paid qs l := fun qs y l => by
      unfold paid
      (rw [List.map_cons, List.sum_cons])
    rw [c, c, ih, Int.mul_add, payOf_red hx, Int.mul_ediv_cancel' ((comm_dvd ps u).2 _ (pay_mem nd hx))]
theorem unit_red (ps : Py) (u : Int) : u = comm ps u * (u / comm ps u) := (Int.mul_ediv_cancel' (comm_dvd ps u).1).symm
theorem lowest_mul {c : Int} (hc : 0 < c) (t b : Int) : lowest (c * t) (c * b) = lowest t b := by
  unfold lowest
  have e : ((Int.gcd (c * t) (c * b) : Nat) : Int) = c * (Int.gcd t b : Int) := by
    rw [Int.gcd_mul_left, Int.natCast_mul]
    congr 1
    omega
  rw [e, Int.mul_ediv_mul_of_pos _ _ hc, Int.mul_ediv_mul_of_pos _ _ hc]
/-- what stands when the charge is in lowest terms -/
structure Red (w : Wb) (ps : Py) (u : Int) (ps' : Py) (u' c : Int) : Prop where
  pos : 0 < c
  u : u = c * u'
  paid : ∀ g : List Str, g.Sublist w.1 → HB.paid ps g = c * HB.paid ps' g
theorem red_of {w : Wb} {ps : Py} {u : Int} (hu : 0 < u) (hk : ps.map (·.1) = w.1) (nd : w.1.Nodup) : Red w ps u (redP ps u) (u / comm ps u) (comm ps u) :=
  ⟨(comm_pos ps u hu).1, unit_red ps u, fun g hg => paid_red hu (by rw [hk]; exact nd) fun x hx => by rw [hk]; exact hg.subset hx⟩
theorem pos_of_mul {c t : Int} (hc : 0 < c) (h : 0 < c * t) : 0 < t := by
  by_cases z : 0 < t
  · exact z
  · have := Int.mul_le_mul_of_nonneg_left (show t ≤ 0 by omega) (show 0 ≤ c by omega)
    omega
section
variable {w : Wb} {ps ps' : Py} {u u' c : Int}
theorem Red.upos (r : Red w ps u ps' u' c) (h : 0 < u) : 0 < u' := by
  have := r.pos
  have e := r.u
  rw [e] at h
  exact pos_of_mul (by omega) h
theorem Red.over (r : Red w ps u ps' u' c) {g : List Str} (hg : g.Sublist w.1) (k : Int) : HB.paid ps g - u * k = c * (HB.paid ps' g - u' * k) := by
  rw [r.paid g hg, r.u, Int.mul_sub, Int.mul_assoc]
theorem Red.lt (r : Red w ps u ps' u' c) {g : List Str} (hg : g.Sublist w.1) (k : Int) : (u * k < HB.paid ps g) ↔ (u' * k < HB.paid ps' g) := by
  have e := r.over hg k
  have p := r.pos
  constructor
  · intro h
    have : 0 < c * (HB.paid ps' g - u' * k) := by omega
    have := pos_of_mul p this
    omega
  · intro h
    have : 0 < c * (HB.paid ps' g - u' * k) := Int.mul_pos p (by omega)
    omega
end
end HB


namespace HB
open PySem PySem.Spec PyProof.Rows L2 PySem.W
section
variable {w : Wb} {ps ps' : Py} {u u' c : Int}
/-- the law's list of groups that pay more than their colours are worth -/
def overL (w : Wb) (ps : Py) (u : Int) : List (List Str) := (lawGroups w.1).filter fun g => decide (u * chi w g < paid ps g)
theorem overL_red (r : Red w ps u ps' u' c) : overL w ps u = overL w ps' u' := List.filter_congr fun g hg => decide_eq_decide.mpr (r.lt (mem_lawGroups.mp hg) _)
theorem over_iff (hw : Wf w) (hu : 0 ≤ u) : overG w ps u = none ↔ overL w ps u = [] := by
  rw [over_none hw hu]
  unfold overL
  rw [List.filter_eq_nil_iff]
  constructor
  · intro h g hg
    have := h g (mem_lawGroups.mp hg)
    simpa using this
  · intro h g hg
    have := h g (mem_lawGroups.mpr hg)
    simpa using this
theorem over_mem (hw : Wf w) (hu : 0 ≤ u) {g : List Str} (h : overG w ps u = some g) : g ∈ overL w ps u := by
  unfold overG at h
  have m := List.mem_of_find?_eq_some h
  have p := List.find?_some h
  obtain ⟨h1, h2, h3⟩ := (mem_looseL hw).mp m
  have b := chi_one hw h2 h3 h1
  have cc : u * chi w g ≤ u * 1 := Int.mul_le_mul_of_nonneg_left b hu
  have p : u < paid ps g := by simpa using p
  exact List.mem_filter.mpr ⟨mem_lawGroups.mpr h2, decide_eq_true (by omega)⟩
theorem loose_iff (hw : Wf w) : overG w ps u = none ↔ (someP (looseP w) w).filter (fun g => decide (u < paid ps g)) = [] := by
  unfold overG
  rw [List.find?_eq_none, List.filter_eq_nil_iff]
  exact ⟨fun h g hg => h g ((loose_same hw).mp hg), fun h g hg => h g ((loose_same hw).mpr hg)⟩
theorem fold_worst (f : List Str → Int) : ∀ (l : List (List Str)) (s : List Str × Int), (l.foldl (stepW f) s = s ∧ ∀ x ∈ l, f x ≤ s.2) ∨ ∃ l1 g l2, l = l1 ++ g :: l2 ∧ l.foldl (stepW f) s = (g, f g) ∧ s.2 < f g ∧ (∀ x ∈ l1, f x < f g) ∧ ∀ x ∈ l2, f x ≤ f g
  | [], s => .inl ⟨rfl, fun _ h => by cases h⟩
  | y :: l, s => by
    rw [List.foldl_cons]
    by_cases h : s.2 < f y
    · have e : stepW f s y = (y, f y) := if_pos h
      rw [e]
      rcases fold_worst f l (y, f y) with ⟨e1, h1⟩ | ⟨l1, g, l2, e1, e2, h1, h2, h3⟩
      · exact .inr ⟨[], y, l, rfl, e1, h, (fun _ z => by cases z), h1⟩
      · have h1 : f y < f g := h1
        refine .inr ⟨y :: l1, g, l2, by rw [e1]; rfl, e2, by omega, fun x hx => ?_, h3⟩
        (rcases List.mem_cons.mp hx with rfl | hx)
        · exact h1
        · exact h2 x hx
    · have e : stepW f s y = s := if_neg h
      rw [e]
      rcases fold_worst f l s with ⟨e1, h1⟩ | ⟨l1, g, l2, e1, e2, h1, h2, h3⟩
      · refine .inl ⟨e1, fun x hx => ?_⟩
        (rcases List.mem_cons.mp hx with rfl | hx)
        · omega
        · exact h1 x hx
      · refine .inr ⟨y :: l1, g, l2, by rw [e1]; rfl, e2, h1, fun x hx => ?_, h3⟩
        (rcases List.mem_cons.mp hx with rfl | hx)
        · omega
        · exact h2 x hx
theorem ord_head {G : List (List Str)} (nd : G.Nodup) (h : [] ∈ G) : ∃ r, sortLen (sortG G) = [] :: r := by
  have m : [] ∈ sortLen (sortG G) := (sortLen_perm _).mem_iff.mpr ((sortG_perm _).mem_iff.mpr h)
  have s := ord_sorted nd
  cases e : sortLen (sortG G) with
  | nil => rw [e] at m; cases m
  | cons a r =>
    rw [e] at m s
    rcases List.mem_cons.mp m with z | z
    · exact ⟨r, by rw [← z]⟩
    · have := (leLG_iff a []).mp ((List.pairwise_cons.mp s).1 _ z)
      have a0 : a = [] := by
        rcases this with q | ⟨q, _⟩
        · cases q
        · exact List.eq_nil_of_length_eq_zero q
      exact ⟨r, by rw [a0]⟩
theorem worst_same (hw : Wf w) (r : Red w ps u ps' u' c) {q : Int × List Str} (h : LWorst (overChi w (ps, u)) (lawGroups w.1) q) : (worstOf w ps' u').1 = q.2 ∧ lowest (worstOf w ps' u').2 u' = lowest q.1 u := by
  have nd := groups_nodup w.1 hw.asc.nodup
  have cp := r.pos
  have ov : ∀ g ∈ lawGroups w.1, overChi w (ps, u) g = c * overOf w ps' u' g := fun g hg => by
    have hs := mem_lawGroups.mp hg
    unfold overChi overOf
    rw [col_chi hw g.length g (Nat.le_refl _) hs]
    exact r.over hs _
  obtain ⟨⟨g0, hg0, e0⟩, top, first⟩ := h
  have pO : (sortLen (sortG (lawGroups w.1))).Perm (lawGroups w.1) := (sortLen_perm _).trans (sortG_perm _)
  rw [← srtLG_filter nd] at first
  have nil_mem : ([] : List Str) ∈ lawGroups w.1 := mem_lawGroups.mpr (List.nil_sublist _)
  have f0 : overOf w ps' u' [] = 0 := by
    unfold overOf
    show (0 : Int) - u' * 0 = 0
    omega
  unfold worstOf
  rcases fold_worst (overOf w ps' u') (sortLen (sortG (lawGroups w.1))) ([], 0) with ⟨e1, h1⟩ | ⟨l1, g, l2, e1, e2, h1, h2, h3⟩
  · rw [e1]
    have a := top [] nil_mem
    rw [ov [] nil_mem, f0, Int.mul_zero] at a
    have b := h1 g0 (pO.mem_iff.mpr hg0)
    have b : overOf w ps' u' g0 ≤ 0 := b
    have b2 := Int.mul_le_mul_of_nonneg_left b (show 0 ≤ c by omega)
    rw [Int.mul_zero] at b2
    rw [ov g0 hg0] at e0
    have q0 : q.1 = 0 := by omega
    obtain ⟨t, et⟩ := ord_head nd nil_mem
    rw [et, List.filter_cons_of_pos (by rw [ov [] nil_mem, f0, Int.mul_zero, q0]; simp)] at first
    refine ⟨Option.some.inj first, ?_⟩
    show lowest 0 u' = lowest q.1 u
    have := lowest_mul cp 0 u'
    rw [Int.mul_zero] at this
    rw [q0, r.u, this]
  · rw [e2]
    have gO : g ∈ lawGroups w.1 := pO.mem_iff.mp (by rw [e1]; simp)
    have inO : ∀ x ∈ lawGroups w.1, overOf w ps' u' x ≤ overOf w ps' u' g := fun x hx => by
      have m := pO.mem_iff.mpr hx
      rw [e1] at m
      rcases List.mem_append.mp m with m | m
      · exact Int.le_of_lt (h2 x m)
      · rcases List.mem_cons.mp m with rfl | m
        · exact Int.le_refl _
        · exact h3 x m
    have q1 : q.1 = c * overOf w ps' u' g := by
      have a := top g gO
      rw [ov g gO] at a
      have b := Int.mul_le_mul_of_nonneg_left (inO g0 hg0) (show 0 ≤ c by omega)
      rw [ov g0 hg0] at e0
      omega
    have fl : l1.filter (fun x => decide (overChi w (ps, u) x = q.1)) = [] := List.filter_eq_nil_iff.mpr fun x hx => by
      have m : x ∈ lawGroups w.1 := pO.mem_iff.mp (by rw [e1]; simp [hx])
      have l := h2 x hx
      have l2 := Int.mul_lt_mul_of_pos_left l cp
      rw [ov x m, q1]
      simp
      omega
    rw [e1, List.filter_append, fl, List.nil_append, List.filter_cons_of_pos (by rw [ov g gO, q1]; simp)] at first
    refine ⟨Option.some.inj first, ?_⟩
    show lowest (overOf w ps' u' g) u' = lowest q.1 u
    rw [q1, r.u]
    exact (lowest_mul cp _ _).symm
/-- the due of one group -/
theorem due_same (hw : Wf w) (r : Red w ps u ps' u' c) {g : List Str} (hg : g.Sublist w.1) : lowest (paid ps' g - u' * col w g) u' = lowest (paid ps g - u * chi w g) u := by
  rw [r.over hg, r.u, lowest_mul r.pos, col_chi hw g.length g (Nat.le_refl _) hg]
end
end HB


namespace HB
open PySem PySem.Spec PyProof.Rows L2 PySem.W
def wb0 : Wb := (["a", "b", "c"], [("b", "c")])
def ga : List Str := ["a", "c"]
def gc : List Str := ["c"]
def gabc : List Str := ["a", "b", "c"]
def half0 : Py := [("a", 1), ("b", 1), ("c", 2)]
def less0 : Py := [("a", -1), ("b", 0), ("c", 1)]
theorem wf0 : Wf wb0 := by
  refine ⟨?_, by decide, by decide, by decide +kernel, by unfold ltS; decide +kernel, by decide⟩
  unfold Asc ltS
  decide +kernel
theorem red_id (ps : Py) (u : Int) : Red wb0 ps u ps u 1 := ⟨by decide, by omega, fun g _ => by omega⟩
theorem overL_half : overL wb0 half0 2 = [ga] := by decide +kernel
theorem overL_less : overL wb0 less0 1 = [] := by decide +kernel
theorem loose_half : (someP (looseP wb0) wb0).filter (fun g => decide (2 < paid half0 g)) = [ga] := by decide +kernel
theorem sort_one (g : List Str) : sortG [g] = [g] := by unfold sortG; simp
/-- objections of the first -/
theorem obj_half : (sortG (looseL wb0)).filter (fun g => decide (2 < paid half0 g)) = [ga] := by
  rw [loose_list wf0 (q := fun g => decide (2 < paid half0 g)) fun _ _ => rfl, loose_half, sort_one]
theorem w_half : LWorst (overChi wb0 (half0, 2)) (lawGroups wb0.1) (1, ga) := by
  refine ⟨⟨ga, by decide +kernel, by decide +kernel⟩, by decide +kernel, ?_⟩
  have e : (lawGroups wb0.1).filter (fun g => decide (overChi wb0 (half0, 2) g = 1)) = [ga] := by decide +kernel
  show (srtLG ((lawGroups wb0.1).filter fun g => decide (overChi wb0 (half0, 2) g = 1))).head? = _
  rw [e]
  unfold srtLG
  simp
theorem w_less : LWorst (overChi wb0 (less0, 1)) (lawGroups wb0.1) (0, []) := by
  refine ⟨⟨[], by decide +kernel, by decide +kernel⟩, by decide +kernel, ?_⟩
  have e : (lawGroups wb0.1).filter (fun g => decide (overChi wb0 (less0, 1) g = 0)) = [[], gc] := by decide +kernel
  show (srtLG ((lawGroups wb0.1).filter fun g => decide (overChi wb0 (less0, 1) g = 0))).head? = _
  rw [e]
  have s : srtLG [[], gc] = [[], gc] := List.mergeSort_of_pairwise (List.pairwise_pair.mpr ((leLG_iff _ _).mpr (.inl (by decide))))
  rw [s]
  rfl
theorem worst_half : (worstOf wb0 half0 2).1 = ga ∧ lowest (worstOf wb0 half0 2).2 2 = (1, 2) := by
  obtain ⟨h1, h2⟩ := worst_same wf0 (red_id half0 2) w_half
  exact ⟨h1, by rw [h2]; decide +kernel⟩
theorem worst_less : (worstOf wb0 less0 1).1 = [] ∧ lowest (worstOf wb0 less0 1).2 1 = (0, 1) := by
  obtain ⟨h1, h2⟩ := worst_same wf0 (red_id less0 1) w_less
  exact ⟨h1, by rw [h2]; decide +kernel⟩
theorem over_less : overG wb0 less0 1 = none := (over_iff wf0 (by decide)).mpr overL_less
theorem due_half : lowest (paid half0 ga - 2 * col wb0 ga) 2 = (1, 2) := by
  rw [due_same wf0 (red_id half0 2) (g := ga) (by decide +kernel)]
  decide +kernel
theorem due_nil : lowest (paid half0 [] - 2 * col wb0 []) 2 = (0, 1) := by
  rw [due_same wf0 (red_id half0 2) (g := []) (List.nil_sublist _)]
  decide +kernel
theorem asc0 : Asc gabc := wf0.asc
theorem comm_half : comm half0 2 = 1 := by decide +kernel
theorem comm_less : comm less0 1 = 1 := by decide +kernel
theorem red_half : redP half0 2 = half0 := by
  unfold redP
  rw [comm_half, show sortS (half0.map (·.1)) = gabc from sortS_of_perm asc0 (.refl _)]
  decide +kernel
theorem red_less : redP less0 1 = less0 := by
  unfold redP
  rw [comm_less, show sortS (less0.map (·.1)) = gabc from sortS_of_perm asc0 (.refl _)]
  decide +kernel
end HB


namespace HB
open PySem L2 PyProof.Rows PySem.Spec
/-- all that is asked of the module -/
structure Fx (K : PySem.W.Frag) (mg : Str → Option Value) (Cw Cc Cp : Addr) : Prop where
  g : Gs K mg
  k : Gk mg
  kw : Gc K Cw webF
  kc : Gc K Cc chF
  kp : Gc K Cp payF
  iw : IsC K Cw
  ic : IsC K Cc
  hw : mg "Web" = some (.ref Cw)
  hc : mg "Charge" = some (.ref Cc)
  hp : mg "Pays" = some (.ref Cp)
  hkd : PySem.W.kitOne K (.type "dict") (.ref Cp) = some false
  kn : ∀ t ∈ (["NoneType", "int", "dict", "str", "list"] : List String), PySem.W.kitOne K (.type t) (.ref Cc) = some false
  wi : DfM K Cw "__init__" "Web.__init__" s_web_init
  wc : DfMe K Cw "__contains__" "Web.__contains__" s_web_contains
  pi : DfM K Cp "__init__" "Pays.__init__" s_pays_init
  ci : DfC K Cc
  cc : DfMe K Cc "__contains__" "Charge.__contains__" s_charge_contains
  cg : DfMe K Cc "__getitem__" "Charge.__getitem__" s_charge_getitem
  cs : DfMe K Cc "__str__" "Charge.__str__" s_charge_str
theorem frac_shaped (a b : Int) : SeqAt.shaped (.tuple [.int a, .int b]) = true := by
  unfold SeqAt.shaped
  simp [PyData.canLay0, PyData.canLayAll0, PyData.depth, PyData.depthAll]
theorem frac_eqv (a b : Int) : PyData.eqv (.tuple [.int a, .int b]) (.tuple [.int a, .int b]) = true := by simp [PyData.eqv, PyData.eqvAll]
theorem fg_shaped (a b : Int) {g : List Str} (h : Gok g) : SeqAt.shaped (.tuple [.tuple [.int a, .int b], gr g]) = true := by
  unfold SeqAt.shaped
  rw [PyData.canLay0, PyData.canLayAll0, PyData.canLayAll0, gr_lay h, PyData.depth, PyData.depthAll, PyData.depthAll, gr_dep]
  simp [PyData.canLay0, PyData.canLayAll0, PyData.depth, PyData.depthAll]
theorem fg_eqv (a b : Int) (g : List Str) : PyData.eqv (.tuple [.tuple [.int a, .int b], gr g]) (.tuple [.tuple [.int a, .int b], gr g]) = true := by
  rw [PyData.eqv, PyData.eqvAll, PyData.eqvAll, PyData.eqvAll, frac_eqv, eqv_gr]
  simp
theorem grs_shaped {gs : List (List Str)} (h : ∀ g ∈ gs, Gok g) : SeqAt.shaped (.list (gs.map gr)) = true := list_shaped (fun g hg => gr_lay (h g hg)) fun g _ => by rw [gr_dep]; decide
theorem grt_shaped {gs : List (List Str)} (h : ∀ g ∈ gs, Gok g) : SeqAt.shaped (.tuple (gs.map gr)) = true := by
  simpa [SeqAt.shaped, PyData.canLay0, PyData.depth] using grs_shaped h
theorem grt_eqv : ∀ gs : List (List Str), PyData.eqv (.tuple (gs.map gr)) (.tuple (gs.map gr)) = true
  | [] => by simp [PyData.eqv, PyData.eqvAll]
  | g :: gs => by
    have ih := grt_eqv gs
    rw [PyData.eqv] at ih ⊢
    rw [List.map_cons, PyData.eqvAll, ih, eqv_gr]
    simp
theorem m1 {α : Type} {a : α} {l : List α} : ∀ z ∈ [a], z ∈ a :: l := fun z h => by rw [List.mem_singleton.mp h]; exact List.mem_cons_self
theorem m2 {α : Type} {a b : α} {l : List α} : ∀ z ∈ [b], z ∈ a :: b :: l := fun z h => by rw [List.mem_singleton.mp h]; exact List.mem_cons_of_mem _ List.mem_cons_self
theorem m3 {α : Type} {a b : α} {l : List α} : ∀ z ∈ l, z ∈ a :: b :: l := fun z h => List.mem_cons_of_mem _ (List.mem_cons_of_mem _ h)
/-- things that are no charge of the web -/
theorem Within.no {K : PySem.W.Frag} {Cc : Addr} {wb : Wb} {T : Ty} {t : Value} (h : ∀ M, TyA K M T t) (k : PySem.W.kitOne K t (.ref Cc) = some false) : Within K Cc wb T false := .inr ⟨.inr ⟨t, h, k, rfl⟩, rfl⟩
theorem TyA.some {K : PySem.W.Frag} {M : Mx} {α : Sort _} {S : α → Prop} {f : α → Ty} {t : Value} (h : ∀ a, TyA K M (f a) t) : TyA K M (.some S f) t := fun v H w ⟨a, _, z⟩ => h a v H w z
theorem red_low {ps : Py} {u b : Int} (hu : 0 < u) (hb : 0 ≤ b) (h : ∀ p ∈ ps, -b ≤ p.2 ∧ p.2 ≤ b) : ∀ p ∈ redP ps u, -b ≤ p.2 ∧ p.2 ≤ b := fun p hp => by
  unfold redP at hp
  (obtain ⟨x, _, rfl⟩ := List.mem_map.mp hp)
  exact div_small (comm_pos ps u hu).1 (pay_low hb h x)
theorem q_nm : Nm "q" := by decide +kernel
section
variable {P : Program} {w : World} {K : PySem.W.Frag} {mg : Str → Option Value} {base : Heap} {Cw Cc Cp : Addr} {tl : Ph}
def pm_right (tl : Ph) : Pm Addr where
  req := fun q => (q, PotOk) :: tl
  args := fun q => [Ty.is (.ref q)]
  res := fun _ => Bo true
  nolk := true
abbrev qz : Str × Int := (("q" : Str), (0 : Int))
theorem one_pre : ChPre ([qz], 1) := by
  refine ⟨⟨by simp, fun x hx => ?_, by decide, by decide, fun p hp => ?_⟩, by decide, by decide +kernel⟩
  · have : x = "q" := by simpa using hx
    rw [this]
    exact q_nm
  · have : p = qz := by simpa using hp
    rw [this]
    decide +kernel
theorem two_pre {wb : Wb} {ps : Py} {u : Int} (wf : Wf wb) (bk : BOk wb.1 (10 ^ 30) (ps, u)) : ChPre (ps ++ [qz], 1) := by
  have pk := bk.payOk wf
  have b1 : ps.map (·.1) = wb.1 := bk.keys
  have e := congrArg List.length b1
  rw [List.length_map] at e
  have l5 := wf.len
  have pn : ∀ x ∈ ps.map (·.1), Nm x := pk.nm
  have pd : (ps.map (·.1)).Nodup := pk.nd
  have pb : ∀ q ∈ ps, -(10 ^ 60 - 1) ≤ q.2 ∧ q.2 ≤ 10 ^ 60 - 1 := pk.big
  refine ⟨⟨?_, fun x hx => ?_, by simp, ?_, fun p hp => ?_⟩, show (0 : Int) < 1 by decide, show (1 : Int) ≤ 10 ^ 20 by decide +kernel⟩
  · show ((ps ++ [qz]).map (·.1)).Nodup
    rw [List.map_append]
    refine List.nodup_append.mpr ⟨pd, by simp, fun a ha b hb z => ?_⟩
    have hb : b = "q" := by simpa using hb
    rw [b1] at ha
    exact (wf.nw a ha).2 (z.trans hb)
  · have hx : x ∈ (ps ++ [qz]).map (·.1) := hx
    rw [List.map_append] at hx
    (rcases List.mem_append.mp hx with hx | hx)
    · exact pn x hx
    · have : x = "q" := by simpa using hx
      rw [this]
      exact q_nm
  · show (ps ++ [qz]).length ≤ 8
    rw [List.length_append]
    show ps.length + 1 ≤ 8
    omega
  · have hp : p ∈ ps ++ [qz] := hp
    (rcases List.mem_append.mp hp with hp | hp)
    · exact pb p hp
    · have : p = qz := by simpa using hp
      rw [this]
      decide +kernel
end
end HB


namespace HB
open PySem L2 PyProof.Rows PySem.Spec
section
variable {P : Program} {w : World} {K : PySem.W.Frag} {mg : Str → Option Value} {base : Heap} {Cw Cc Cp : Addr} {tl : Ph}
theorem ok_right (x : Fx K mg Cw Cc Cp) (hl : Ok P w K mg base 6 "loose_in" ["web"] (pm_loose_in Cw tl)) (ho : Ok P w K mg base 8 "over_group" ["web", "charge"] (pm_over_group Cw Cc tl)) : Ok P w K mg base 15 "_law_right" ["_law_pot_here"] (pm_right tl) := by
  refine Ok.of (k := 14) (x.g.df _ 94) sc_right (fun _ => rfl) (fun _ _ _ _ _ _ us hl => match us, hl with | [_], _ => rfl) fun q f cdv A outer s H Ex ex lk En hp hlk hr hR hn => ?_
  obtain rfl := hlk rfl
  have hN := sc_right.nd
  have g := x.g
  have oc : OkC P w K mg base 5 Cc (pm_charge_init.sp Cc) := ok_charge_init g x.k x.kp x.kc x.pi x.hp x.hkd x.ci
  refine B.unpZ (S := CaseOk) (Ta := fun z => plT z.1) (Tb := fun z => billT z.2) 1 2 (E.ok (ok_case g) hr q trivial (.cons (E.var 0) .nil) (hq := m1) (hlk := fun _ => rfl)) (fun z hz => ?_) hN
  obtain ⟨wb, ps, u⟩ := z
  obtain ⟨wf, bk⟩ := hz
  have wf : Wf wb := wf
  have bk : BOk wb.1 (10 ^ 30) (ps, u) := bk
  have cok : CaseOk (wb, ps, u) := ⟨wf, bk⟩
  have bk0 : ps.map (·.1) = wb.1 := bk.keys
  have b3 : 1 ≤ u := bk.pos
  have b4 : u ≤ 10 ^ 10 := bk.top
  have rd := red_of (ps := ps) (u := u) (w := wb) (by omega) bk0 wf.asc.nodup
  have k' : (redP ps u).map (·.1) = wb.1 := by rw [redP_keys, bk0, sortS_self wf.asc]
  have low' : ∀ p ∈ redP ps u, -(10 ^ 30) ≤ p.2 ∧ p.2 ≤ 10 ^ 30 := red_low (by omega) (by decide +kernel) bk.low
  have cm := comm_pos ps u (by omega)
  have u1 : 0 < u / comm ps u := rd.upos (by omega)
  have u2 : u / comm ps u ≤ 10 ^ 10 := Int.le_trans (Int.ediv_le_self _ (by omega)) b4
  have u3 : u ≤ 10 ^ 200 := Int.le_trans b4 (show (10 : Int) ^ 10 ≤ 10 ^ 200 by decide +kernel)
  have u4 : u / comm ps u ≤ 10 ^ 200 := Int.le_trans u2 (show (10 : Int) ^ 10 ≤ 10 ^ 200 by decide +kernel)
  generalize hps : redP ps u = ps' at rd k' low'
  generalize hu' : u / comm ps u = u' at rd u1 u2 u4
  have wr : RoomsOk wb := rooms_ok wf
  have l5 := wf.len
  have g32 := groups_32 wf
  have gm : ∀ gg : List Str, gg.Sublist wb.1 → (∀ x ∈ gg, x ∈ ps.map (·.1)) ∧ gg.length ≤ 100 := fun gg hg => ⟨fun x hx => by rw [bk0]; exact hg.subset hx, by have := hg.length_le; omega⟩
  have okg : ∀ gg : List Str, gg.Sublist wb.1 → Gok gg := fun gg hg x hx => wf.wok.ok x (hg.subset hx)
  refine B.newT3 (cn := cnT []) (I := MemoOk wb) (Ra := fun c => webT Cw c wb) (Rb := fun _ => chT Cc wb.1 ps' u') (Rc := fun _ => tabT (tabOf (chiV wb) (lawGroups wb.1))) 3 4 5 (EG.tup3 (R := fun c => webT Cw c wb) (E.okF (ok_told_web g x.k x.kw x.wi x.hw) hr (q, wb) wf (.cons (E.var (T := Ty.is (.ref q)) 0) (.cons (E.var (T := plT wb) 1) .nil)) (hq := m1)) (fun c => ?_) (fun c => E.ok (ok_colour_table g) hr wb wf (.cons (E.var (T := plT wb) 1) .nil))) (fun _ _ o e => ⟨[], e, List.nodup_nil, fun _ h => by cases h⟩) (fun c nc hc0 ncb hpx => ?_) hN
  · subst hps; subst hu'
    exact E.ok (ok_made_charge g oc x.hc) hr (wb, ps, u) cok (.cons (E.var (T := billT (ps, u)) 2) .nil) (hlk := fun _ => rfl)
  have le : Le (Mf ex ((q, PotOk) :: tl) [] H) ((Mf ex ((q, PotOk) :: tl) [] H).share c (MemoOk wb)) := ⟨rfl, fun z hz => List.mem_cons_of_mem _ hz, fun z hz => (List.mem_cons.mp hz).elim (fun e => .inr (by rw [e]; exact hc0)) .inl, fun a h => .inl h, rfl⟩
  refine B.forA (g := gName 6) (S := fun Ts => ∃ n, n ≤ 5 ∧ Ts = rgT 0 n) (fun _ : Unit => []) (fun _ => [some (Ty.is (.ref q)), some (plT wb), some (billT (ps, u)), some (webT Cw c wb), some (chT Cc wb.1 ps' u'), some (tabT (tabOf (chiV wb) (lawGroups wb.1))), none, none, none, none, none, none, none, none, none, none]) (fun _ _ _ => True) (W.range1 (S := fun n => n ≤ 5) (g.bi "range") (E.out 5 (E.int.nat (n := 5) rfl) (Nat.le_refl 5)) (fun n hn => by omega)) (pg_name hN rfl (.inl rfl) (.inr rfl)) (fun _ _ => ⟨(), trivial, fun _ _ l => l⟩) (fun Ts ⟨m, hm, e⟩ n T a hT _ => ?_) (fun Ts ⟨m, hm, e⟩ a _ => ?_)
  · subst e
    obtain ⟨rfl, hnm⟩ := rgT_get hT
    refine ⟨[6], _, Tg.name (by decide), fun b => ?_⟩
    refine B.asgS 7 (S := fun gg : List Str => gg.Sublist wb.1) (f := G) ((E.ok (ok_some_of g) hr (q, false, wb.1.map .str) (by show (wb.1.map PyData.str).length ≤ 100000; rw [List.length_map]; omega) (.cons (E.var (T := Ty.is (.ref q)) 0) (.cons (E.things hr (E.var (T := plT wb) 1)) .nil)) (hq := m2)).imp fun v H w ⟨es, he, h⟩ => by
      obtain ⟨l', h1, rfl⟩ := List.sublist_map_iff.mp he
      exact ⟨l', h1, h⟩) (fun gg hs => ?_) hN
    have hg := mem_lawGroups.mpr hs
    refine B.asg 8 (T := frac (lowest (paid ps gg - u * chi wb gg) u)) (E.ok (ok_low g) hr (paid ps gg - u * chi wb gg, u) ⟨show 0 < u by omega, u3⟩ (.cons (E.sub (E.ok (ok_paid g) hr (ps, gg) (gm gg hs) (.cons (E.ixT (Ts := [payT ps, I u]) (i := 0) (E.var 2) E.int rfl) (.cons (E.var (T := G gg) 7) .nil))) (E.mul (E.ixT (Ts := [payT ps, I u]) (i := 1) (E.var 2) E.int rfl) (E.iIs (E.tabAt (room1 hr) (E.var (T := tabT (tabOf (chiV wb) (lawGroups wb.1))) 5) (E.var (T := G gg) 7) (tab_val (f := chiV wb) hg))) (cmul_l (by rw [c10] at b4; omega)))) (.cons (E.ixT (Ts := [payT ps, I u]) (i := 1) (E.var 2) E.int rfl) .nil))) ?_ hN
    refine B.iteD (v := false) ((C.neD (d := .tuple [.int (lowest (paid ps gg - u * chi wb gg) u).1, .int (lowest (paid ps gg - u * chi wb gg) u).2]) (e' := .tuple [.int (lowest (paid ps gg - u * chi wb gg) u).1, .int (lowest (paid ps gg - u * chi wb gg) u).2]) hr ((E.ok (ok_excess g x.kw x.kc x.iw x.ic x.hw x.hc x.wc) hr (c, wb, ps', u', gg) ⟨⟨wf, wr, hs⟩, k', u1, u2⟩ (.cons (E.var (T := webT Cw c wb) 3) (.cons (E.var (T := chT Cc wb.1 ps' u') 4) (.cons (E.var (T := G gg) 7) .nil))) (hq := m1)).imp fun v H w z => ?_) (E.var (T := frac (lowest (paid ps gg - u * chi wb gg) u)) 8) (frac_shaped _ _) (frac_shaped _ _)).imp fun v e => by rw [e, frac_eqv]; rfl) (fun z => by cases z) fun _ => B.skip (.nil fun σ H l => ⟨(), trivial, l.wk (.keep (.keep (.keep (.keep (.keep (.keep (.drop (.drop (.drop (.keep (.keep (.keep (.keep (.keep (.keep (.keep .nil))))))))))))))))⟩)
    have z : (frac (lowest (paid ps' gg - u' * col wb gg) u')).P _ v H := z
    rw [due_same wf rd hs] at z
    exact z
  have paidE : ∀ {gg : List Str}, gg ∈ lawGroups wb.1 → gg.Sublist wb.1 := fun hg => mem_lawGroups.mp hg
  refine B.lcFT (f0 := chiV wb) (gs := lawGroups wb.1) 5 9 (fun gg => decide (u * chi wb gg < paid ps gg)) 7 rfl rfl rfl (fun d od o => E.var 5) [("_law_crowd", 7)] (fun gg hg d od o p acc s H0 A' cl fp => C.gtI (E.ok (ok_paid g) hr (ps, gg) (gm gg (paidE hg)) (.cons (E.ixT (Ts := [payT ps, I u]) (i := 0) (E.var 2) E.int rfl) (.cons (E.var (T := G gg) 7) .nil))) (E.mul (E.ixT (Ts := [payT ps, I u]) (i := 1) (E.var 2) E.int rfl) (E.iIs (E.tabAt (room1 hr) (E.sub' (E.var 5)) (E.var (T := G gg) 7) (tab_val (f := chiV wb) hg))) (cmul_l (by rw [c10] at b4; omega)))) (fun gg hg z d od o p acc s H0 A' cl fp => E.var 7) (by omega) ?_ (blkOk_by (N := N_right) (sc := defScope s_right) (by decide +kernel)) hN
  have lsub : ∀ gg ∈ someP (looseP wb) wb, gg ∈ lawGroups wb.1 ∧ gg ≠ [] := fun gg hg => by
    obtain ⟨h1, h2⟩ := List.mem_filter.mp hg
    exact ⟨h1, fun e => by rw [e] at h2; cases h2⟩
  have lz : (someP (looseP wb) wb).length ≤ 32 := Nat.le_trans (List.length_filter_le _ _) g32
  refine B.asg 10 (T := L ((sortG ((someP (looseP wb) wb).filter fun gg => decide (u < paid ps gg))).map gr)) (E.sortGs hr (g.bi "sorted") (E.lcF (enc := gr) (xs := someP (looseP wb) wb) (fun gg => decide (u < paid ps gg)) gr 7 (W.list (E.ok (ok_loose_of g) hr wb wf (.cons (E.var (T := plT wb) 1) .nil))) [("_law_crowd", 7)] (fun gg hg p acc s H0 A' cl fp => C.gtI (E.ok (ok_paid g) hr (ps, gg) (gm gg (paidE (lsub gg hg).1)) (.cons (E.ixT (Ts := [payT ps, I u]) (i := 0) (E.var 2) E.int rfl) (.cons (E.var (T := G gg) 7) .nil))) (E.ixT (Ts := [payT ps, I u]) (i := 1) (E.var 2) E.int rfl)) (fun gg hg z p acc s H0 A' cl fp => E.var 7) (by omega) (blkOk_by (N := N_right) (sc := defScope s_right) (by decide +kernel)) hN) (grs_ok fun gg hg => (lsub gg (List.mem_filter.mp hg).1).2) (Nat.le_trans (List.length_filter_le _ _) (by omega))) ?_ hN
  show B _ _ [some (Ty.is (.ref q)), some (plT wb), some (billT (ps, u)), some (webT Cw c wb), some (chT Cc wb.1 ps' u'), some (tabT (tabOf (chiV wb) (lawGroups wb.1))), none, none, none, some (L ((overL wb ps u).map gr)), some (L ((sortG ((someP (looseP wb) wb).filter fun gg => decide (u < paid ps gg))).map gr)), none, none, none, none, none] _ _
  have ovr := overL_red rd
  have oiff : overG wb ps' u' = none ↔ overL wb ps u = [] := by rw [ovr]; exact over_iff wf (by omega)
  have oiff2 : overG wb ps' u' = none ↔ sortG ((someP (looseP wb) wb).filter fun gg => decide (u < paid ps gg)) = [] := by
    rw [loose_iff wf]
    have e : (someP (looseP wb) wb).filter (fun g => decide (u' < paid ps' g)) = (someP (looseP wb) wb).filter (fun gg => decide (u < paid ps gg)) := List.filter_congr fun gg hg => by
      have := rd.lt (paidE (lsub gg hg).1) 1
      rw [Int.mul_one, Int.mul_one] at this
      exact decide_eq_decide.mpr this.symm
    rw [e]
    constructor
    · intro h
      rw [h]
      exact List.eq_nil_of_length_eq_zero (by rw [(sortG_perm _).length_eq]; rfl)
    · intro h
      have := (sortG_perm ((someP (looseP wb) wb).filter fun gg => decide (u < paid ps gg))).length_eq
      rw [h] at this
      exact List.eq_nil_of_length_eq_zero this.symm
  have ob : (overL wb ps u).isEmpty = (overG wb ps' u').isNone := by
    rw [Bool.eq_iff_iff, List.isEmpty_iff, Option.isNone_iff_eq_none]
    exact oiff.symm
  have ob2 : (sortG ((someP (looseP wb) wb).filter fun gg => decide (u < paid ps gg))).isEmpty = (overG wb ps' u').isNone := by
    rw [Bool.eq_iff_iff, List.isEmpty_iff, Option.isNone_iff_eq_none]
    exact oiff2.symm
  have ogk : ∀ gg ∈ overL wb ps u, gg.Sublist wb.1 := fun gg hg => paidE (List.mem_filter.mp hg).1
  have lgk : ∀ gg ∈ sortG ((someP (looseP wb) wb).filter fun gg => decide (u < paid ps gg)), gg.Sublist wb.1 := fun gg hg => paidE (lsub gg (List.mem_filter.mp ((sortG_perm _).mem_iff.mp hg)).1).1
  have olist : (sortG (looseL wb)).filter (fun gg => decide (u' < paid ps' gg)) = sortG ((someP (looseP wb) wb).filter fun gg => decide (u < paid ps gg)) := loose_list wf fun gg hg => by
    have := rd.lt hg 1
    rw [Int.mul_one, Int.mul_one] at this
    exact decide_eq_decide.mpr this.symm
  generalize sortG ((someP (looseP wb) wb).filter fun gg => decide (u < paid ps gg)) = lo at ob2 lgk olist oiff2
  have omem : ∀ {gg}, overG wb ps' u' = some gg → gg ∈ overL wb ps u := fun h => by rw [ovr]; exact over_mem wf (by omega) h
  generalize overL wb ps u = ov at ob ogk oiff omem
  refine B.iteD (v := false) (CW.or (v := false) (u := false) ((C.neB ((E.eqD (d := .list (ov.map gr)) (e' := .list []) hr (E.var 9) E.lst0 (grs_shaped fun gg hg => okg gg (ogk gg hg)) nil_shaped).cast (congrArg PyData.bool (eqv_nil ov))) ((E.eqD (d := .list (lo.map gr)) (e' := .list []) hr (E.var 10) E.lst0 (grs_shaped fun gg hg => okg gg (lgk gg hg)) nil_shaped).cast (congrArg PyData.bool (eqv_nil lo)))).imp fun v e => by rw [e, ob, ob2]; simp) fun _ => CW.or1 ((C.neS (E.reprB (g.bi "repr") (show E _ _ _ _ ((pm_is_within K Cw Cc tl).res (c, wb, chT Cc wb.1 ps' u', (overG wb ps' u').isNone)) from E.ok (ok_is_within g x.kw x.kc x.iw x.ic x.hw x.hc ho (by decide)) hr (c, wb, chT Cc wb.1 ps' u', (overG wb ps' u').isNone) ⟨wf, .inl ⟨ps', u', rfl, k', rfl⟩⟩ (.cons (E.var (T := webT Cw c wb) 3) (.cons (E.var (T := chT Cc wb.1 ps' u') 4) .nil)) (hq := m3))) (E.reprB (g.bi "repr") ((E.eqD (d := .list (ov.map gr)) (e' := .list []) hr (E.var 9) E.lst0 (grs_shaped fun gg hg => okg gg (ogk gg hg)) nil_shaped).cast (congrArg PyData.bool (eqv_nil ov))))).imp fun v e => by rw [e, ob]; simp)).c (fun z => by cases z) fun _ => B.skip ?_
  refine B.asg 11 (T := D (overD wb ps' u')) (show E _ _ _ _ ((pm_over_group Cw Cc tl).res (c, wb, ps', u')) from E.ok (ok_objection g x.kw x.kc x.iw x.ic x.hw x.hc ho (by decide)) hr (c, wb, ps', u') ⟨wf, k'⟩ (.cons (E.var (T := webT Cw c wb) 3) (.cons (E.var (T := chT Cc wb.1 ps' u') 4) .nil)) (hq := m3)) ?_ hN
  refine B.iteD (v := false) (CW.or (v := false) (u := false) ?_ fun _ => CW.or (v := false) (u := false) ?_ fun _ => CW.or1 ?_).c (fun z => by cases z) fun _ => B.skip ?_
  · cases hov : overG wb ps' u' with
    | none =>
      rw [hov] at ob
      exact (CW.and (v := true) (u := false) ((C.eqD (d := .list (ov.map gr)) (e' := .list []) hr (E.var 9) E.lst0 (grs_shaped fun gg hg => okg gg (ogk gg hg)) nil_shaped).imp fun v e => by rw [e, eqv_nil, ob]; rfl) fun _ => CW.and1 (C.notN (u := true) (E.var (T := D (overD wb ps' u')) 11) fun v H z => by
        unfold overD at z
        rw [hov] at z
        cases z
        rfl)).c
    | some gg =>
      rw [hov] at ob
      exact (CW.and (v := false) (u := false) ((C.eqD (d := .list (ov.map gr)) (e' := .list []) hr (E.var 9) E.lst0 (grs_shaped fun gg hg => okg gg (ogk gg hg)) nil_shaped).imp fun v e => by rw [e, eqv_nil, ob]; rfl) fun z => by cases z).c
  · cases hov : overG wb ps' u' with
    | none =>
      rw [hov] at ob
      exact (CW.and (v := false) (u := false) ((C.neD (d := .list (ov.map gr)) (e' := .list []) hr (E.var 9) E.lst0 (grs_shaped fun gg hg => okg gg (ogk gg hg)) nil_shaped).imp fun v e => by rw [e, eqv_nil, ob]; rfl) fun z => by cases z).c
    | some gg =>
      rw [hov] at ob
      have mem := omem hov
      exact (CW.and (v := true) (u := false) ((C.neD (d := .list (ov.map gr)) (e' := .list []) hr (E.var 9) E.lst0 (grs_shaped fun gg hg => okg gg (ogk gg hg)) nil_shaped).imp fun v e => by rw [e, eqv_nil, ob]; rfl) fun _ => CW.and1 ((C.ninD (d := gr gg) (ds := ov.map gr) hr ((E.var (T := D (overD wb ps' u')) 11).imp fun v H w z => by
        unfold overD at z
        rw [hov] at z
        exact z) (E.var 9) (gr_shaped (okg gg (ogk gg mem))) (grs_shaped fun gg hg => okg gg (ogk gg hg))).imp fun v e => by rw [e, any_enc eqv_gr]; simp [mem])).c
  · refine (C.neD (d := .tuple (lo.map gr)) (e' := .tuple (lo.map gr)) hr ((show E _ _ _ _ ((pm_objections Cw Cc tl).res (c, wb, ps', u')) from E.ok (ok_objections g x.kw x.kc x.iw x.ic x.hw x.hc hl (by decide)) hr (c, wb, ps', u') ⟨wf, k'⟩ (.cons (E.var (T := webT Cw c wb) 3) (.cons (E.var (T := chT Cc wb.1 ps' u') 4) .nil)) (hq := m3)).imp fun v H w z => ?_) (E.tupleL (g.bi "tuple") (E.var (T := L (lo.map gr)) 10)) (grt_shaped fun gg hg => okg gg (lgk gg hg)) (grt_shaped fun gg hg => okg gg (lgk gg hg))).imp fun v e => by rw [e, grt_eqv]; rfl
    have z : (U (((sortG (looseL wb)).filter fun gg => decide (u' < paid ps' gg)).map gr)).P _ v H := z
    rw [olist] at z
    exact z
  refine B.unpZ (S := LWorst (overChi wb (ps, u)) (lawGroups wb.1)) (Ta := fun r => I r.1) (Tb := fun r => G r.2) 12 13 ((E.ok (ok_l_worst g) hr (wb, ps, u) ⟨wf, bk⟩ (.cons (E.var (T := tabT (tabOf (chiV wb) (lawGroups wb.1))) 5) (.cons (E.var (T := billT (ps, u)) 2) .nil)) (hlk := fun _ => rfl)).imp fun v H w ⟨r, hr, z⟩ => ⟨r, hr, D_tupT (ds := [.int r.1, gr r.2]) z⟩) (fun r hrw => ?_) hN
  obtain ⟨wm1, wm2⟩ := worst_same wf rd hrw
  have rsub : r.2.Sublist wb.1 := by
    have := List.mem_of_head? hrw.first
    exact paidE (List.mem_filter.mp ((srtLG_perm _).mem_iff.mp this)).1
  obtain ⟨most, first⟩ := r
  have rsub : first.Sublist wb.1 := rsub
  refine B.iteD (v := false) ((C.neD (d := .tuple [.tuple [.int (lowest most u).1, .int (lowest most u).2], gr first]) (e' := .tuple [.tuple [.int (lowest most u).1, .int (lowest most u).2], gr first]) hr ((show E _ _ _ _ ((pm_worst Cw Cc).res (c, wb, ps', u')) from E.ok (ok_worst g x.kw x.kc x.iw x.ic x.hw x.hc) hr (c, wb, ps', u') ⟨⟨wf, wr⟩, k', u1, u2⟩ (.cons (E.var (T := webT Cw c wb) 3) (.cons (E.var (T := chT Cc wb.1 ps' u') 4) .nil)) (hq := m1)).imp fun v H w z => ?_) (E.tupD (ds := [.tuple [.int (lowest most u).1, .int (lowest most u).2], gr first]) (.cons (E.ok (ok_low g) hr (most, u) ⟨show 0 < u by omega, u3⟩ (.cons (E.var (T := I most) 12) (.cons (E.ixT (Ts := [payT ps, I u]) (i := 1) (E.var 2) E.int rfl) .nil))) (.cons (E.var (T := G first) 13) .nil))) (fg_shaped _ _ (okg first rsub)) (fg_shaped _ _ (okg first rsub))).imp fun v e => by rw [e, fg_eqv]; rfl) (fun z => by cases z) fun _ => B.skip ?_
  · have z : (U [.tuple [.int (lowest (worstOf wb ps' u').2 u').1, .int (lowest (worstOf wb ps' u').2 u').2], gr (worstOf wb ps' u').1]).P _ v H := z
    rw [wm1, wm2] at z
    exact z
  have okq : Gok (sortS ((ps ++ [qz]).map (·.1))) := fun y hy => by
    have hy := (List.mergeSort_perm _ leS).mem_iff.mp hy
    exact ((two_pre wf bk).1.nm y hy).sok
  have neq : ¬ sortS ((ps ++ [qz]).map (·.1)) = wb.1 := fun e => by
    have a := (List.mergeSort_perm ((ps ++ [qz]).map (·.1)) leS).length_eq
    have a : (sortS ((ps ++ [qz]).map (·.1))).length = ((ps ++ [qz]).map (·.1)).length := a
    rw [e, ← bk0, List.map_append, List.length_append] at a
    simp at a
  have ok1 : Gok (sortS ([qz].map (·.1))) := fun y hy => by
    have hy := (List.mergeSort_perm _ leS).mem_iff.mp hy
    exact (one_pre.1.nm y hy).sok
  have ne1 : ¬ sortS ([qz].map (·.1)) = wb.1 := fun e => by
    have a : ("q" : Str) ∈ sortS ([qz].map (·.1)) := (List.mergeSort_perm _ leS).mem_iff.mpr (by simp)
    rw [e] at a
    exact (wf.nw _ a).2 rfl
  refine B.asg 14 (T := listT [D .none, I 0, payT ps, .some (fun _ : Str => True) S_, insT Cc (chFs ([qz], 1)), insT Cc (chFs (ps ++ [qz], 1)), listT [chT Cc wb.1 ps' u']]) (E.lst (.cons E.non (.cons E.int (.cons (E.ixT (Ts := [payT ps, I u]) (i := 0) (E.var 2) E.int rfl) (.cons (E.strOwn (q := pm_ch_str Cc) (ok_ch_str g x.k x.kc x.cc x.cg x.cs) hr (g.bi "str") (wb.1, ps', u') ?_ (E.var (T := chT Cc wb.1 ps' u') 4) InC.ins rfl rfl) (.cons ?_ (.cons ?_ (.cons (E.lst (.cons (E.var (T := chT Cc wb.1 ps' u') 4) .nil)) .nil)))))))) ?_ hN
  · refine ⟨fun y hy => ⟨wf.nm y hy, by show y ∈ ps'.map (·.1); rw [k']; exact hy⟩, by show wb.1.length ≤ 100; omega, ⟨u1, u4⟩, fun p hp => ?_⟩
    have := low' p hp
    have c30 : (10 : Int) ^ 30 ≤ 10 ^ 200 := by decide +kernel
    generalize (10 : Int) ^ 200 = b at c30
    omega
  · show E _ _ _ _ (insT Cc (pm_charge_init.fts ([qz], 1)))
    exact E.mkU0 (p := pm_charge_init) oc x.hc hr ([qz], 1) one_pre ((E.disp (kts := [(.inr "q", I 0)]) (fun p => .cons E.int .nil) (by simp)).imp fun v H w z => z) rfl (hlk := fun _ => rfl)
  · show E _ _ _ _ (insT Cc (pm_charge_init.fts (ps ++ [qz], 1)))
    exact E.mkU0 (p := pm_charge_init) oc x.hc hr (ps ++ [qz], 1) (two_pre wf bk) (E.dictL (ps := ps ++ [qz]) (g.bi "dict") ((E.catL (E.items (g.bi "list") rfl (E.ixT (Ts := [payT ps, I u]) (i := 0) (E.var 2) E.int rfl)) (E.lstD (ds := [itm qz]) (.cons (E.tupD (ds := [.str "q", .int 0]) (.cons E.str (.cons E.int .nil))) .nil)) (by rw [List.length_map]; have := congrArg List.length bk0; rw [List.length_map] at this; simp; omega)).castL (by rw [List.map_append]; rfl)) (two_pre wf bk).1.nd) rfl (hlk := fun _ => rfl)
  have within : ∀ T ∈ [D .none, I 0, payT ps, .some (fun _ : Str => True) S_, insT Cc (chFs ([qz], 1)), insT Cc (chFs (ps ++ [qz], 1)), listT [chT Cc wb.1 ps' u']], Within K Cc wb T false := by
    intro T hT
    simp only [List.mem_cons, List.not_mem_nil, or_false] at hT
    rcases hT with rfl | rfl | rfl | rfl | rfl | rfl | rfl
    · exact Within.no (fun M => TyA.non) (x.kn "NoneType" (by simp))
    · exact Within.no (fun M => TyA.int) (x.kn "int" (by simp))
    · exact Within.no (fun M => TyA.dict) (x.kn "dict" (by simp))
    · exact Within.no (fun M => TyA.some fun y => TyA.str) (x.kn "str" (by simp))
    · exact .inr ⟨.inl ⟨_, _, _, rfl, ok1, (decide_eq_false ne1).symm⟩, rfl⟩
    · exact .inr ⟨.inl ⟨_, _, _, rfl, okq, (decide_eq_false neq).symm⟩, rfl⟩
    · exact Within.no (fun M => TyA.lstT) (x.kn "list" (by simp))
  have lts : [D .none, I 0, payT ps, .some (fun _ : Str => True) S_, insT Cc (chFs ([qz], 1)), insT Cc (chFs (ps ++ [qz], 1)), listT [chT Cc wb.1 ps' u']].length ≤ 100000 := by simp
  generalize [D .none, I 0, payT ps, .some (fun _ : Str => True) S_, insT Cc (chFs ([qz], 1)), insT Cc (chFs (ps ++ [qz], 1)), listT [chT Cc wb.1 ps' u']] = Ts at within lts
  refine B.ret hR le ((E.eqD (d := .list []) (e' := .list []) hr ((E.lc1 (g := gName 15) (S := fun X => X = Ts) (own := [("_law_one", 15)]) (fun _ _ acc => acc = []) (W.listT (ow := true) (Ts := Ts) (E.var 14)) (fun s H A cl fp => pg_name hN rfl (.inl rfl) (.inr rfl)) (fun _ _ => rfl) (fun Us e => by rw [e]; exact lts) (fun Us e n T acc hT iv => ?_) (blkOk_by (N := N_right) (sc := defScope s_right) (by decide +kernel)) hN).imp fun v H w z => ?_) E.lst0 nil_shaped nil_shaped).cast (congrArg PyData.bool (eqv_nil (enc := gr) [])))
  · subst e
    have wi := within T (List.mem_of_getElem? hT)
    refine ⟨_, Tg.name (by decide), (· = false), fun p => ⟨fun s0 H0 A' cl fp => (C.isNotB (u := false) (v := false) (show E _ _ _ _ ((pm_is_within K Cw Cc tl).res (c, wb, T, false)) from E.ok (ok_is_within g x.kw x.kc x.iw x.ic x.hw x.hc ho (by decide)) hr (c, wb, T, false) ⟨wf, wi⟩ (.cons (E.var (T := webT Cw c wb) 3) (.cons (E.var (T := T) 15) .nil)) (hq := m3)) E.bl).imp fun v e => e, fun z => (by cases z), fun _ => iv⟩⟩
  · obtain ⟨acc, ⟨Us, e, iv⟩, z⟩ := z
    have iv : acc = [] := iv
    subst iv
    exact z
end
end HB


namespace HB
open PySem L2 PyProof.Rows PySem.Spec
section
variable {P : Program} {w : World} {K : PySem.W.Frag} {mg : Str → Option Value} {base : Heap} {Cw Cc Cp : Addr} {tl : Ph}
theorem half_fs : insT Cc (chFs (half0, 2)) = chT Cc wb0.1 half0 2 := by
  show insT Cc [("own_pays", payT (redP half0 2)), ("own_unit", I (2 / comm half0 2)), ("own_things", G (sortS (half0.map (·.1))))] = _
  rw [red_half, comm_half, show sortS (half0.map (·.1)) = wb0.1 from sortS_of_perm asc0 (.refl _)]
  rfl
theorem less_fs : insT Cc (chFs (less0, 1)) = chT Cc wb0.1 less0 1 := by
  show insT Cc [("own_pays", payT (redP less0 1)), ("own_unit", I (1 / comm less0 1)), ("own_things", G (sortS (less0.map (·.1))))] = _
  rw [red_less, comm_less, show sortS (less0.map (·.1)) = wb0.1 from sortS_of_perm asc0 (.refl _)]
  rfl
theorem pre_half : ChPre (half0, 2) := ⟨⟨by decide +kernel, by decide +kernel, by decide, by decide, by decide +kernel⟩, by decide, by decide +kernel⟩
theorem pre_less : ChPre (less0, 1) := ⟨⟨by decide +kernel, by decide +kernel, by decide, by decide, by decide +kernel⟩, by decide, by decide +kernel⟩
theorem pre_web : WebPre (wb0, gabc, [("b", "c")]) := ⟨wf0, ⟨sortS_of_perm asc0 (.refl _), fun x => Iff.rfl, asc0.nodup⟩, (by unfold Tie; decide +kernel), (by decide), (by decide +kernel)⟩
theorem sub0 : ga.Sublist wb0.1 := by decide +kernel
theorem kh0 : half0.map (·.1) = wb0.1 := by decide +kernel
theorem kl0 : less0.map (·.1) = wb0.1 := by decide +kernel
theorem u20 : (0 : Int) < 2 := by decide
theorem u21 : (2 : Int) ≤ 10 ^ 10 := by decide +kernel
theorem u10 : (0 : Int) < 1 := by decide
theorem u11 : (1 : Int) ≤ 10 ^ 10 := by decide +kernel
def toldD : List PyData := [.tuple [.int 1, .int 2], .tuple [gr ga], .tuple [.tuple [.int 1, .int 2], gr ga], .tuple [.int 0, .int 1]]
def toldE : List PyData := [.tuple [.tuple [.int 0, .int 1], gr []], .none, .bool true]
theorem told_shaped : SeqAt.shaped (.list (toldD ++ toldE)) = true := by decide +kernel
theorem told_eqv : PyData.eqv (.list (toldD ++ toldE)) (.list (toldD ++ toldE)) = true := by decide +kernel
def pm_law (K : PySem.W.Frag) (tl : Ph) : Pm (List Int) where
  pre := fun ns => ns.length ≤ 63
  req := fun _ => tl
  args := fun ns => [Scr K ns]
  res := fun _ => Bo true
  nolk := true
/-- no star ahead -/
def NS (e : Expr) : Prop := ∀ (es : List Expr) (env : Env), starEach (e :: es) env = (false, eval e env) :: starEach es env
theorem last_body : ∃ p0 p1 p2 p3 e1 e2 e3 e4 e5 e6 e7, (defBody s_law).drop 5 = [.Return (some (.Compare (.Name "_law_told" p0) [.Eq] [.List [e1, e2, e3, e4, e5, e6, e7] p1] p2)) p3] ∧ (NS e1 ∧ NS e2 ∧ NS e3 ∧ NS e4 ∧ NS e5 ∧ NS e6 ∧ NS e7) ∧
    (∀ (X : Cx) (M : Mx) (Γ : Gm), E X M Γ e1 (D (.tuple [.int 1, .int 2]))) ∧ (∀ (X : Cx) (M : Mx) (Γ : Gm), E X M Γ e2 (D (.tuple [gr ga]))) ∧ (∀ (X : Cx) (M : Mx) (Γ : Gm), E X M Γ e3 (D (.tuple [.tuple [.int 1, .int 2], gr ga]))) ∧ (∀ (X : Cx) (M : Mx) (Γ : Gm), E X M Γ e4 (D (.tuple [.int 0, .int 1]))) ∧ (∀ (X : Cx) (M : Mx) (Γ : Gm), E X M Γ e5 (D (.tuple [.tuple [.int 0, .int 1], gr []]))) ∧ (∀ (X : Cx) (M : Mx) (Γ : Gm), E X M Γ e6 (D .none)) ∧ ∀ (X : Cx) (M : Mx) (Γ : Gm), E X M Γ e7 (D (.bool true)) := by
  refine ⟨_, _, _, _, _, _, _, _, _, _, _, rfl, ⟨fun _ _ => rfl, fun _ _ => rfl, fun _ _ => rfl, fun _ _ => rfl, fun _ _ => rfl, fun _ _ => rfl, fun _ _ => rfl⟩, fun X M Γ => ?_, fun X M Γ => ?_, fun X M Γ => ?_, fun X M Γ => ?_, fun X M Γ => ?_, fun X M Γ => ?_, fun X M Γ => ?_⟩
  · exact E.tupD (ds := [.int 1, .int 2]) (.cons E.int (.cons E.int .nil))
  · exact E.tupD (ds := [gr ga]) (.cons (E.tupD (ds := [.str "a", .str "c"]) (.cons E.str (.cons E.str .nil))) .nil)
  · exact E.tupD (ds := [.tuple [.int 1, .int 2], gr ga]) (.cons (E.tupD (ds := [.int 1, .int 2]) (.cons E.int (.cons E.int .nil))) (.cons (E.tupD (ds := [.str "a", .str "c"]) (.cons E.str (.cons E.str .nil))) .nil))
  · exact E.tupD (ds := [.int 0, .int 1]) (.cons E.int (.cons E.int .nil))
  · exact E.tupD (ds := [.tuple [.int 0, .int 1], gr []]) (.cons (E.tupD (ds := [.int 0, .int 1]) (.cons E.int (.cons E.int .nil))) (.cons E.tup0 .nil))
  · exact E.non
  · exact E.bl
theorem law_three (x : Fx K mg Cw Cc Cp) (hl : Ok P w K mg base 6 "loose_in" ["web"] (pm_loose_in Cw tl)) (ho : Ok P w K mg base 8 "over_group" ["web", "charge"] (pm_over_group Cw Cc tl)) {f : Addr} {cdv : Value} {A : Around} {outer : List Env} {s : Shared} {H : Hp} {Ex : XK} {ex : Ads} {En : Ends} {ns : List Int} (hr : Room 15 (A.deeper (envOfC "law" (defScope s_law) s.heap.objs.size f cdv))) (hR : Ret (Mf ex tl [] H) (Bo true) En.rt) {c : Addr} (le : Le (Mf ex tl [] H) ((Mf ex tl [] H).share c (MemoOk wb0))) : B (cxOf CX0 P w K mg base N_law "law" (defScope s_law) f cdv A outer s H Ex).nox ((Mf ex tl [] H).share c (MemoOk wb0)) [some (Scr K ns), none, none, some (webT Cw c wb0), some (chT Cc wb0.1 half0 2), some (L (toldD ++ toldE)), some (chT Cc wb0.1 less0 1)] ((defBody s_law).drop 5) En := by
  obtain ⟨p0, p1, p2, p3, e1, e2, e3, e4, e5, e6, e7, eb, ⟨n1, n2, n3, n4, n5, n6, n7⟩, h1, h2, h3, h4, h5, h6, h7⟩ := last_body
  rw [eb]
  have hl7 : E (cxOf CX0 P w K mg base N_law "law" (defScope s_law) f cdv A outer s H Ex).nox ((Mf ex tl [] H).share c (MemoOk wb0)) [some (Scr K ns), none, none, some (webT Cw c wb0), some (chT Cc wb0.1 half0 2), some (L (toldD ++ toldE)), some (chT Cc wb0.1 less0 1)] (.List [e1, e2, e3, e4, e5, e6, e7] p1) (L (toldD ++ toldE)) :=
    E.lstD (hz := by decide) (ds := toldD ++ toldE) (.cons (h1 _ _ _) (.cons (h2 _ _ _) (.cons (h3 _ _ _) (.cons (h4 _ _ _) (.cons (h5 _ _ _) (.cons (h6 _ _ _) (.cons (h7 _ _ _) .nil (n7 _ _)) (n6 _ _)) (n5 _ _)) (n4 _ _)) (n3 _ _)) (n2 _ _)) (n1 _ _))
  exact B.ret hR le ((E.eqD (d := .list (toldD ++ toldE)) (e' := .list (toldD ++ toldE)) hr (E.var (T := L (toldD ++ toldE)) 5) hl7 told_shaped told_shaped).cast (congrArg PyData.bool told_eqv))
theorem law_two (x : Fx K mg Cw Cc Cp) (hl : Ok P w K mg base 6 "loose_in" ["web"] (pm_loose_in Cw tl)) (ho : Ok P w K mg base 8 "over_group" ["web", "charge"] (pm_over_group Cw Cc tl)) {f : Addr} {cdv : Value} {A : Around} {outer : List Env} {s : Shared} {H : Hp} {Ex : XK} {ex : Ads} {En : Ends} {ns : List Int} (hr : Room 15 (A.deeper (envOfC "law" (defScope s_law) s.heap.objs.size f cdv))) (hR : Ret (Mf ex tl [] H) (Bo true) En.rt) {c : Addr} (le : Le (Mf ex tl [] H) ((Mf ex tl [] H).share c (MemoOk wb0))) : B (cxOf CX0 P w K mg base N_law "law" (defScope s_law) f cdv A outer s H Ex).nox ((Mf ex tl [] H).share c (MemoOk wb0)) [some (Scr K ns), none, none, some (webT Cw c wb0), some (chT Cc wb0.1 half0 2), some (L toldD), none] ((defBody s_law).drop 3) En := by
  have hN := sc_law.nd
  have g := x.g
  have oc : OkC P w K mg base 5 Cc (pm_charge_init.sp Cc) := ok_charge_init g x.k x.kp x.kc x.pi x.hp x.hkd x.ci
  have wr := rooms_ok wf0
  have tlq : ∀ z ∈ tl, z ∈ (c, MemoOk wb0) :: tl := fun z h => List.mem_cons_of_mem _ h
  refine B.asg 6 (T := chT Cc wb0.1 less0 1) ?_ ?_ hN
  · rw [← less_fs]
    show E _ _ _ _ (insT Cc (pm_charge_init.fts (less0, 1)))
    exact E.mkU0 (p := pm_charge_init) oc x.hc hr (less0, 1) pre_less (E.disp (kts := [(.inr "a", I (-1)), (.inr "b", I 0), (.inr "c", I 1)]) (fun p => .cons (E.neg E.int) (.cons E.int (.cons E.int .nil))) (by decide +kernel)) rfl (hlk := fun _ => rfl)
  refine B.asg 5 (T := L (toldD ++ toldE)) (E.catL (E.var (T := L toldD) 5) (E.lstD (hz := by decide) (ds := toldE) (.cons ((show E _ _ _ _ ((pm_worst Cw Cc).res (c, wb0, less0, 1)) from E.ok (ok_worst g x.kw x.kc x.iw x.ic x.hw x.hc) hr (c, wb0, less0, 1) ⟨⟨wf0, wr⟩, kl0, u10, u11⟩ (.cons (E.var (T := webT Cw c wb0) 3) (.cons (E.var (T := chT Cc wb0.1 less0 1) 6) .nil)) (hq := m1)).imp fun v H w z => ?_) (.cons ((show E _ _ _ _ ((pm_over_group Cw Cc tl).res (c, wb0, less0, 1)) from E.ok (ok_objection g x.kw x.kc x.iw x.ic x.hw x.hc ho (by decide)) hr (c, wb0, less0, 1) ⟨wf0, kl0⟩ (.cons (E.var (T := webT Cw c wb0) 3) (.cons (E.var (T := chT Cc wb0.1 less0 1) 6) .nil)) (hq := by exact tlq)).imp fun v H w z => ?_) (.cons ((show E _ _ _ _ ((pm_is_within K Cw Cc tl).res (c, wb0, chT Cc wb0.1 less0 1, (overG wb0 less0 1).isNone)) from E.ok (ok_is_within g x.kw x.kc x.iw x.ic x.hw x.hc ho (by decide)) hr (c, wb0, chT Cc wb0.1 less0 1, (overG wb0 less0 1).isNone) ⟨wf0, .inl ⟨less0, 1, rfl, kl0, rfl⟩⟩ (.cons (E.var (T := webT Cw c wb0) 3) (.cons (E.var (T := chT Cc wb0.1 less0 1) 6) .nil)) (hq := by exact tlq)).imp fun v H w z => ?_) .nil)))) (by decide)) ?_ hN
  · have z : (U [.tuple [.int (lowest (worstOf wb0 less0 1).2 1).1, .int (lowest (worstOf wb0 less0 1).2 1).2], gr (worstOf wb0 less0 1).1]).P _ v H := z
    rw [worst_less.1, worst_less.2] at z
    exact z
  · have z : (D (overD wb0 less0 1)).P _ v H := z
    unfold overD at z
    rw [over_less] at z
    exact z
  · have z : (Bo (overG wb0 less0 1).isNone).P _ v H := z
    rw [over_less] at z
    exact z
  exact law_three x hl ho hr hR le
theorem law_one (x : Fx K mg Cw Cc Cp) (hl : Ok P w K mg base 6 "loose_in" ["web"] (pm_loose_in Cw tl)) (ho : Ok P w K mg base 8 "over_group" ["web", "charge"] (pm_over_group Cw Cc tl)) {f : Addr} {cdv : Value} {A : Around} {outer : List Env} {s : Shared} {H : Hp} {Ex : XK} {ex : Ads} {En : Ends} {ns : List Int} (hr : Room 15 (A.deeper (envOfC "law" (defScope s_law) s.heap.objs.size f cdv))) (hR : Ret (Mf ex tl [] H) (Bo true) En.rt) : B (cxOf CX0 P w K mg base N_law "law" (defScope s_law) f cdv A outer s H Ex).nox (Mf ex tl [] H) [some (Scr K ns), none, none, none, none, none, none] ((defBody s_law).drop 1) En := by
  have hN := sc_law.nd
  have g := x.g
  have oc : OkC P w K mg base 5 Cc (pm_charge_init.sp Cc) := ok_charge_init g x.k x.kp x.kc x.pi x.hp x.hkd x.ci
  have wr := rooms_ok wf0
  refine B.newP (cn := cnT []) (I := MemoOk wb0) (R := fun c => webT Cw c wb0) (Tb := chT Cc wb0.1 half0 2) 3 4 (EG.mkG (Ts := [G gabc, U [pr ("b", "c")]]) (p := pm_web_init) (ok_web_init g x.k x.kw x.wi) x.hw hr (.cons (E.tupD (ds := [.str "a", .str "b", .str "c"]) (.cons E.str (.cons E.str (.cons E.str .nil)))) (.cons (E.tupD (ds := [pr ("b", "c")]) (.cons (E.tupD (ds := [.str "b", .str "c"]) (.cons E.str (.cons E.str .nil))) .nil)) .nil)) (fun vs H w h => ⟨(wb0, gabc, [("b", "c")]), pre_web, fun _ z => (by cases z), h, rfl, fun c ex v H h => h⟩)) (fun q => ?_) (fun _ _ o e => ⟨[], e, List.nodup_nil, fun _ h => by cases h⟩) (fun c nc hc0 ncb hpx => ?_) hN
  · rw [← half_fs]
    show E _ _ _ _ (insT Cc (pm_charge_init.fts (half0, 2)))
    exact E.mkU (p := pm_charge_init) oc x.hc hr (half0, 2) pre_half (E.disp (kts := [(.inr "a", I 1), (.inr "b", I 1), (.inr "c", I 2)]) (fun p => .cons E.int (.cons E.int (.cons E.int .nil))) (by decide +kernel)) E.int rfl (hlk := fun _ => rfl)
  have le : Le (Mf ex tl [] H) ((Mf ex tl [] H).share c (MemoOk wb0)) := ⟨rfl, fun z hz => List.mem_cons_of_mem _ hz, fun z hz => (List.mem_cons.mp hz).elim (fun e => .inr (by rw [e]; exact hc0)) .inl, fun a h => .inl h, rfl⟩
  have tlq : ∀ z ∈ tl, z ∈ (c, MemoOk wb0) :: tl := fun z h => List.mem_cons_of_mem _ h
  refine B.asg 5 (T := L toldD) (E.lstD (hz := by decide) (ds := toldD) (.cons ((E.ok (ok_excess g x.kw x.kc x.iw x.ic x.hw x.hc x.wc) hr (c, wb0, half0, 2, ga) ⟨⟨wf0, wr, sub0⟩, kh0, u20, u21⟩ (.cons (E.var (T := webT Cw c wb0) 3) (.cons (E.var (T := chT Cc wb0.1 half0 2) 4) (.cons (E.tupD (ds := [.str "a", .str "c"]) (.cons E.str (.cons E.str .nil))) .nil))) (hq := m1)).imp fun v H w z => ?_) (.cons ((show E _ _ _ _ ((pm_objections Cw Cc tl).res (c, wb0, half0, 2)) from E.ok (ok_objections g x.kw x.kc x.iw x.ic x.hw x.hc hl (by decide)) hr (c, wb0, half0, 2) ⟨wf0, kh0⟩ (.cons (E.var (T := webT Cw c wb0) 3) (.cons (E.var (T := chT Cc wb0.1 half0 2) 4) .nil)) (hq := by exact tlq)).imp fun v H w z => ?_) (.cons ((show E _ _ _ _ ((pm_worst Cw Cc).res (c, wb0, half0, 2)) from E.ok (ok_worst g x.kw x.kc x.iw x.ic x.hw x.hc) hr (c, wb0, half0, 2) ⟨⟨wf0, wr⟩, kh0, u20, u21⟩ (.cons (E.var (T := webT Cw c wb0) 3) (.cons (E.var (T := chT Cc wb0.1 half0 2) 4) .nil)) (hq := m1)).imp fun v H w z => ?_) (.cons ((E.ok (ok_excess g x.kw x.kc x.iw x.ic x.hw x.hc x.wc) hr (c, wb0, half0, 2, []) ⟨⟨wf0, wr, List.nil_sublist _⟩, kh0, u20, u21⟩ (.cons (E.var (T := webT Cw c wb0) 3) (.cons (E.var (T := chT Cc wb0.1 half0 2) 4) (.cons E.tup0 .nil))) (hq := m1)).imp fun v H w z => ?_) .nil))))) ?_ hN
  · have z : (frac (lowest (paid half0 ga - 2 * col wb0 ga) 2)).P _ v H := z
    rw [due_half] at z
    exact z
  · have z : (U (((sortG (looseL wb0)).filter fun g => decide (2 < paid half0 g)).map gr)).P _ v H := z
    rw [obj_half] at z
    exact z
  · have z : (U [.tuple [.int (lowest (worstOf wb0 half0 2).2 2).1, .int (lowest (worstOf wb0 half0 2).2 2).2], gr (worstOf wb0 half0 2).1]).P _ v H := z
    rw [worst_half.1, worst_half.2] at z
    exact z
  · have z : (frac (lowest (paid half0 [] - 2 * col wb0 []) 2)).P _ v H := z
    rw [due_nil] at z
    exact z
  exact law_two x hl ho hr hR le
theorem ok_law {f : Addr} {fd : FuncData} (F : FunD K "law" "law" (defArgs s_law) (defBody s_law) (defScope s_law) [] [] f fd) (x : Fx K mg Cw Cc Cp) (hl : Ok P w K mg base 6 "loose_in" ["web"] (pm_loose_in Cw tl)) (ho : Ok P w K mg base 8 "over_group" ["web", "charge"] (pm_over_group Cw Cc tl)) : FnOk P w K mg base CX0 16 f fd ["_law_script"] (pm_law K tl).sp := by
  refine fn_pm (k := 15) F sc_law (fun _ => rfl) fun ns cdv A outer s H Ex ex lk En hp hlk hr hR hn => ?_
  obtain rfl := hlk rfl
  have hN := sc_law.nd
  have g := x.g
  have l63 : ns.length ≤ 63 := hp
  have oc : OkC P w K mg base 5 Cc (pm_charge_init.sp Cc) := ok_charge_init g x.k x.kp x.kc x.pi x.hp x.hkd x.ci
  refine B.forA (g := gName 1) (S := fun Ts => ∃ n, n ≤ 5 ∧ Ts = rgT 0 n) (fun _ : Unit => []) (fun _ => [some (Scr K ns), none, none, none, none, none, none]) (fun _ _ _ => True) (W.range1 (S := fun n => n ≤ 5) (g.bi "range") ((E.ex _ (E.max2 (g.bi "max") E.int (E.min2 (g.bi "min") E.int (E.lenScr (ns := ns) (g.bi "len") (E.var (T := Scr K ns) 0))))).nN fun i e => ?_) (fun n hn => by omega)) (pg_name hN rfl (.inl rfl) (.inr rfl)) (fun _ _ => ⟨(), trivial, fun _ _ l => l⟩) (fun Ts ⟨m, hm, e⟩ n T a hT _ => ?_) (fun Ts ⟨m, hm, e⟩ a _ => ?_)
  · have h : 1 ≤ i ∧ i ≤ 5 := by
      have e : i = _ := e
      rw [e]
      split <;> split <;> omega
    exact ⟨i.toNat, by omega, by omega⟩
  · subst e
    obtain ⟨rfl, hnm⟩ := rgT_get hT
    refine ⟨[1], _, Tg.name (by decide), fun b => ?_⟩
    refine B.newS' (cn := PotOk) (I := PotOk) (R := fun c => Ty.is (.ref c)) 2 (E.okF (ok_pot g) hr (ns, n) ⟨show ns.length ≤ 1000 by omega, show n ≤ 1000 by omega⟩ (.cons (E.var (T := Scr K ns) 0) (.cons ((E.var (T := I (0 + (n : Int))) 1).cast (by rw [Int.zero_add])) .nil))) (fun _ _ _ h => h) (fun c nc h0 nb px => ?_) hN
    have rt : ∀ {pn po p1 : Pos}, C (cxOf CX0 P w K mg base N_law (Str.ofString "law") (defScope s_law) f cdv A outer s H Ex).nox ({ Mf ex tl [] H with own := [], bs := b :: (Mf ex tl [] H).bs }.share c PotOk) [some (Scr K ns), some (I (0 + (n : Int))), some (Ty.is (.ref c)), none, none, none, none] (.Call (.Name "_law_right" pn) [.Name "_law_pot_here" p1] [] po) (· = true) := fun {pn po p1} => C.valB (E.ok (ok_right x hl ho) hr c trivial (.cons (E.var 2) .nil) (hq := fun z hz => hz) (hlk := fun _ => rfl))
    exact B.iteD (v := false) (CW.or (v := false) (u := false) (C.notD (v := true) rt) fun _ => CW.or1 (C.notD (v := true) rt)).c (fun z => by cases z) fun _ => B.skip (.nil fun σ H l => ⟨(), trivial, (l.unshare nc h0 nb px).wk (.keep (.drop (.drop (.keep (.keep (.keep (.keep .nil)))))))⟩)
  exact law_one x hl ho hr hR
end
end HB


namespace HB
open PySem L2 PyProof.Rows PySem.Spec
/-- an object known to the place -/
def ObjAt (a : Addr) (o : Obj) : HO := .ext fun h => h.get? a = some o
def ObjC (a : Addr) (o : Obj) : Cn := Cn.only (fun u => u = ObjAt a o) fun u e xs z => by
  rw [e] at z
  unfold ObjAt at z
  cases z
def lamPart : Arguments × Expr × Scope := match defBody s_loose_in with
  | [.Return (some (.Call _ [_, .Lambda p b sc _] _ _)) _] => (p, b, sc)
  | _ => (⟨[], [], none, [], [], none, []⟩, .Constant .none 0 ⟨0, 0, 0, 0⟩, defScope s_loose_in)
abbrev lamP : Arguments := lamPart.1
abbrev lamB : Expr := lamPart.2.1
abbrev lamS : Scope := lamPart.2.2
abbrev lamN : List Str := ["one", "other", "web"]
theorem sc_lam : NdefX.NScope lamN ["one", "other"] ["web"] lamS := ⟨rfl, rfl, rfl, by decide +kernel, rfl, by decide +kernel, by decide +kernel, by decide +kernel, by decide +kernel⟩
/-- a lambda of loose_in: its object f, its code object, the cell of the web, the web -/
structure Lm where
  f : Addr
  c' : Addr
  cw : Addr
  wa : Addr
  pm : Value
  ctv : Value
  q : Str
  co : Obj
def Lm.fo (L : Lm) : Obj := PySem.W.kla_obj "<lambda>" L.q lamP lamB lamS [("web", L.cw)] L.pm L.c' L.ctv
abbrev Lm.ph (L : Lm) : Ph := [(L.cw, ObjC L.cw L.co)]
def Lm.Ok (L : Lm) : Prop := L.co.data = .cell (some (.ref L.wa))
theorem objAt_frz {a : Addr} {o o' : Obj} {u : HO} : ObjAt a o ≠ .frz o' u := fun z => by unfold ObjAt at z; cases z
def lamT (Cw c : Addr) (w : Wb) (L : Lm) : Ty := ⟨fun ex v H => v = .ref L.f ∧ (H L.c' = some (LamX.CodeO L.c' L.q) ∧ ¬ ex L.c') ∧ (H L.f = some (ObjAt L.f L.fo) ∧ ¬ ex L.f) ∧ (webT Cw c w).P ex (.ref L.wa) H, fun k ⟨e, ⟨h, n⟩, ⟨h3, n3⟩, h2⟩ => ⟨e, k.hard _ _ h n rfl (fun _ _ z => by unfold LamX.CodeO at z; cases z), k.hard _ _ h3 n3 rfl (fun _ _ z => objAt_frz z), (webT Cw c w).fr k h2⟩⟩
section
variable {P : Program} {w : World} {K : PySem.W.Frag} {mg : Str → Option Value} {base : Heap} {Cw c : Addr}
def hide (H : Hp) (a : Addr) : Hp := fun b => if b = a then none else H b
theorem hide_ne {H : Hp} {a b : Addr} (h : b ≠ a) : hide H a b = H b := if_neg h
theorem hide_eq {H : Hp} {a : Addr} : hide H a a = none := if_pos rfl
theorem hide_some {H : Hp} {a b : Addr} {o : HO} (h : hide H a b = some o) : b ≠ a ∧ H b = some o := by
  by_cases e : b = a
  · rw [e, hide_eq] at h
    cases h
  · exact ⟨e, by rw [hide_ne e] at h; exact h⟩
theorem objAt_own {a x b : Addr} {o : Obj} : ObjAt a o ≠ .own x := fun z => by unfold ObjAt at z; cases z
theorem objAt_tup {a : Addr} {o : Obj} {xs : List V} : ObjAt a o ≠ .tup xs := fun z => by unfold ObjAt at z; cases z
theorem objAt_tbl {a : Addr} {o : Obj} {ps : Array Value} : ObjAt a o ≠ .tbl ps := fun z => by unfold ObjAt at z; cases z
theorem objAt_ok {H : Hp} {h : Heap} {a : Addr} {o : Obj} (e : h.get? a = some o) : ObjOk P w H h a (ObjAt a o) := ⟨e, ⟨o, e⟩, fun _ _ z st => st _ z⟩
theorem hok_hide {H : Hp} {h : Heap} {a : Addr} {o : Obj} (ok : HOk P w H h) (e : H a = some (ObjAt a o)) : HOk P w (hide H a) h := fun b u q => by
  obtain ⟨ne, q⟩ := hide_some q
  refine (ok b u q).stay (fun _ _ _ z => z) (fun d z => ?_) fun d xs z => ?_
  · rw [hide_ne fun y => by rw [y, e] at z; exact objAt_own (b := d) (Option.some.inj z)]
    exact z
  · rw [hide_ne fun y => by rw [y, e] at z; exact objAt_tup (Option.some.inj z)]
    exact z
theorem lam_run {M : Mx} {A : Around} {outer : List Env} {s : Shared} {H : Hp} {L : Lm} {wb : Wb} {y z : Str} {k : Nat} {us : List Value} (e0 : Env0 P w K mg base A outer s H) (hr : Room (k + 1) A) (kw : Gc K Cw webF) (hw : Hw M H) (hph : ∀ q ∈ L.ph, q ∈ M.ph) (ok : L.Ok)
    (hc : H L.c' = some (LamX.CodeO L.c' L.q)) (h2 : H L.f = some (ObjAt L.f L.fo)) (hweb : (webT Cw c wb).P M.ex (.ref L.wa) H) (hy : y ∈ wb.1) (rv : Vals [V.str y, V.str z] us) :
    codeAny (model P w) A (.call (.ref L.f) ⟨us, []⟩) (CR CX0 outer P w H s (fun v H' => St M H H' ∧ (Bo (!mates wb y z)).P M.ex v H') E0) s := by
  obtain ⟨xcw, o1, h1, e1⟩ := hw.ph _ (hph (L.cw, ObjC L.cw L.co) List.mem_cons_self)
  have e1 : o1 = ObjAt L.cw L.co := e1
  subst e1
  have h1 : H L.cw = some (ObjAt L.cw L.co) := h1
  obtain ⟨g1, _, _⟩ := e0.hok _ _ h1
  obtain ⟨g2, _, _⟩ := e0.hok _ _ h2
  have g1 : s.heap.get? L.cw = some L.co := g1
  have g2 : s.heap.get? L.f = some L.fo := g2
  have nolim : s.heap.NoLimit := e0.mod.nolimit.keeps fun b o e => (e0.bs b o e).1
  have hHe : ∀ {b}, H b = none → hide H L.cw b = none := fun {b} e => by
    by_cases q : b = L.cw
    · rw [q, hide_eq]
    · rw [hide_ne q]
      exact e
  have hokE : HOk P w (hide H L.cw) s.heap := hok_hide e0.hok h1
  have e0' : Env0 P w K mg base A outer s (hide H L.cw) := ⟨e0.frames, e0.mod, fun b o e => ⟨(e0.bs b o e).1, hHe (e0.bs b o e).2⟩, e0.bsz, e0.funs, fun b hb => hHe (e0.frf b hb), hokE, e0.bare⟩
  have nf : L.cw ∉ frs outer := fun z => by
    have := e0.frf _ z
    rw [h1] at this
    cases this
  have z1 : L.co.data = .cell (some (.ref L.wa)) := ok
  have hl : us.length = 2 := by rw [← rv.length]; rfl
  refine PySem.W.kla_callFunE hr.depth g2 rfl rfl rfl rfl (NdefX.codeO_at e0.hok hc) ?_
  rw [show bindArgs (PySem.W.kla_fn "<lambda>" L.q lamP lamB lamS [("web", L.cw)] L.pm (.ref L.c') L.ctv) ⟨us, []⟩ = pure ((["one", "other"] : List Str).zip us) from match us, hl with | [_, _], _ => rfl]
  refine wpAny_pure (wpAny_newFunctionEnv sc_lam.nocell (fun ⟨n, _⟩ hy => sc_lam.par n (List.of_mem_zip hy).1) (fun h₁ hns hsb => ⟨nolim.fresh _ hsb, ?_⟩) sc_lam.kind)
  have old : ∀ b o, s.heap.get? b = some o → h₁.get? b = some o := fun b o e => hsb.extBut b o (Nat.ne_of_lt (Heap.lt_size e)) (Heap.get?_push_of_some _ e)
  have C : NdefX.CellsAt [("web", L.cw)] ["web"] [some (.ref L.wa)] s.heap (hide H L.cw) := by
    have lk : ∀ {y' : Str} {d : Addr}, ([("web", L.cw)] : List (Str × Addr)).lookup y' = some d → y' = "web" ∧ d = L.cw := fun {y' d} e => by
      rw [List.lookup_cons] at e
      cases q : y' == ("web" : Str) with
      | true =>
        rw [q] at e
        exact ⟨beq_iff_eq.mp q, (Option.some.inj e).symm⟩
      | false =>
        rw [q] at e
        cases e
    refine ⟨rfl, fun y' d e => ?_, fun a b d ea eb => (lk ea).1.trans (lk eb).1.symm, fun i y' e => ?_⟩
    · rw [(lk e).2]
      exact ⟨hide_eq, _, L.co, g1, z1⟩
    · cases i with
      | zero =>
        cases e
        exact ⟨L.cw, rfl, fun v ev => by cases ev; exact ⟨.ref L.wa, rfl, L.co, g1, z1⟩⟩
      | succ i => cases e
  let F : NdefX.NF := ⟨"<lambda>", L.q, lamP, [], lamS, [("web", L.cw)], L.c'⟩
  have I0 : Inv (NdefX.ncx CX0 P w K mg base lamN F L.f A outer s (hide H L.cw) E0) [] (NdefX.startF lamN [V.str y, V.str z] [some (.ref L.wa)]) (hide H L.cw) { s with heap := h₁, toks := s.toks + ((["one", "other"] : List Str).zip us).length } := NdefX.inv_startN (F := F) sc_lam hr.hd e0' rfl rv C hns old
  have hr2 : Room k (A.deeper (NdefX.envF F L.f s.heap.objs.size)) := hr.deeper _
  let M' : Mx := Mf (fun a => M.ex a ∧ a ≠ L.cw) [] M.lk (hide H L.cw)
  have kpw : Kp M.ex M'.ex H (hide H L.cw) := .of fun a o e n => ⟨by rw [hide_ne fun q => n (by rw [q]; exact xcw)]; exact e, fun q => n q.1⟩
  have w' : Hw M' (hide H L.cw) := ⟨fun a q => by
    obtain ⟨o, e, n⟩ := hw.exin a q.1
    exact ⟨o, by rw [hide_ne q.2]; exact e, n⟩, fun p hp => (by cases hp), fun p hp => (by cases hp), fun p hp => (by cases hp), List.Pairwise.nil, fun a o e _ => e, fun b hb => (by cases hb), fun a o u e => e, fun a o u e su => by
    obtain ⟨_, e⟩ := hide_some e
    exact hw.nk a o u (hw.nf a o u e) su⟩
  have loc : L2.St → Prop := fun _ => True
  have lc : HB.Loc M' [some (S_ y), some (S_ z), some (webT Cw c wb)] (NdefX.startF lamN [V.str y, V.str z] [some (.ref L.wa)]) (hide H L.cw) := ⟨w', rfl, fun i T e => by
    match i, e with
    | 0, e => cases e; exact ⟨_, rfl, .str y⟩
    | 1, e => cases e; exact ⟨_, rfl, .str z⟩
    | 2, e => cases e; exact ⟨_, rfl, (webT Cw c wb).fr kpw hweb⟩⟩
  have eb : E (NdefX.ncx CX0 P w K mg base lamN F L.f A outer s (hide H L.cw) E0).nox M' [some (S_ y), some (S_ z), some (webT Cw c wb)] lamB (Bo (!mates wb y z)) := (E.ninU (xs := partners wb y) (E.var (T := S_ z) 1) (E.mates hr2 kw (E.var (T := webT Cw c wb) 2) (E.var (T := S_ y) 0) hy)).cast rfl
  show codeAny _ _ (.expr lamB (NdefX.envF F L.f s.heap.objs.size)) _ _
  refine PySem.W.kla_codeExpr (wpAny_mono (eb _ _ lc [] _ (I0.wish _)) (fun v s' hq => ?_) fun e s' hq => hq.elim)
  obtain ⟨x, H', J, rx, st, hx⟩ := hq
  have J := J.unwish
  have n' : H' L.cw = none := J.base.free L.cw L.co g1 hide_eq (by intro q; cases q)
  have g' : s'.heap.get? L.cw = some L.co := J.base.keep L.cw L.co g1 hide_eq nf (by intro q; cases q)
  have un : Un (frs outer) [] (hide H L.cw) H' s.heap s'.heap := J.base
  have neN : ∀ {b}, H b = none → b ≠ L.cw := fun {b} e q => by
    rw [q, h1] at e
    cases e
  refine ⟨x, upd H' L.cw (ObjAt L.cw L.co), J.os, J.bare, ⟨fun b o e n hb hx => un.keep b o e (hHe n) hb hx, fun b o e n hb hx => un.slot b o e (hHe n) hb hx, fun b o e n hx => ?_, un.there, fun b xs e => ?_, fun b o u e => ?_, fun b ps e => ?_⟩, fun b u e => ?_, rx, ⟨fun a o e n => ?_, fun p hp => ?_, fun a o u e => ?_⟩, ?_⟩
  · rw [upd_ne (neN n)]
    exact un.free b o e (hHe n) hx
  · have ne : b ≠ L.cw := fun q => by rw [q, h1] at e; exact objAt_tup (Option.some.inj e)
    rw [upd_ne ne]
    exact un.tups b xs (by rw [hide_ne ne]; exact e)
  · have ne : b ≠ L.cw := fun q => by rw [q, h1] at e; exact objAt_frz (Option.some.inj e)
    rw [upd_ne ne]
    exact un.frzs b o u (by rw [hide_ne ne]; exact e)
  · have ne : b ≠ L.cw := fun q => by rw [q, h1] at e; exact objAt_tbl (Option.some.inj e)
    rw [upd_ne ne]
    exact un.tbls b ps (by rw [hide_ne ne]; exact e)
  · by_cases q : b = L.cw
    · subst q
      rw [upd_same] at e
      cases e
      exact objAt_ok g'
    · rw [upd_ne q] at e
      refine (J.hok b u e).stay (fun _ _ _ z => z) (fun d z => ?_) fun d xs z => ?_
      · rw [upd_ne (ne_of_none z n')]
        exact z
      · rw [upd_ne (ne_of_none z n')]
        exact z
  · have ne : a ≠ L.cw := fun q => n _ (hph _ List.mem_cons_self) q.symm
    rw [upd_ne ne]
    exact st.keep a o (by rw [hide_ne ne]; exact e) fun q hq => by cases hq
  · have kk : Kp M.ex M.ex H (upd H' L.cw (ObjAt L.cw L.co)) := .of fun a o e n => by
      have ne : a ≠ L.cw := fun q => n (by rw [q]; exact xcw)
      exact ⟨by rw [upd_ne ne]; exact st.keep a o (by rw [hide_ne ne]; exact e) (fun q hq => by cases hq), n⟩
    by_cases q : p.1 = L.cw
    · obtain rfl := hw.fn p hp (L.cw, ObjC L.cw L.co) (hph _ List.mem_cons_self) q
      exact ⟨_, upd_same, rfl⟩
    · obtain ⟨_, o, e, f⟩ := hw.ph p hp
      exact ⟨o, by rw [upd_ne q]; exact st.keep p.1 o (by rw [hide_ne q]; exact e) (fun q hq => by cases hq), p.2.fr kk f⟩
  · have ne : a ≠ L.cw := fun q => by rw [q, upd_same] at e; exact objAt_frz (Option.some.inj e)
    rw [upd_ne ne] at e
    exact (hide_some (st.nf a o u e)).2
  · cases hx
    exact .bl _
end
end HB


namespace HB
open PySem L2 PyProof.Rows PySem.Spec
section
variable {X : Cx} {M : Mx} {Γ : Gm} {a b : Expr} {p pos : Pos} {x : Str} {L : Lm} {wb : Wb} {y z : Str} {k : Nat} {Cw c : Addr}
theorem lam_fnAt {pins : List (Addr × Obj)} {σ : L2.St} {H : Hp} {s : Shared} (I : Inv X pins σ H s) (h : H L.f = some (ObjAt L.f L.fo)) : PySem.W.FnAt L.f s.heap := by
  obtain ⟨g, _, _⟩ := I.hok _ _ h
  exact ⟨_, _, _, _, g⟩
/-- does_go(a, b) -/
theorem E.callLam (kw : Gc X.K Cw webF) (hr : Room (k + 1) X.A) (h : E X M Γ (.Name x p) (lamT Cw c wb L)) (ha : E X M Γ a (S_ y)) (hb : E X M Γ b (S_ z)) (hy : y ∈ wb.1) (ok : L.Ok) (hph : ∀ q ∈ L.ph, q ∈ M.ph)
    (s1 : starEach [a, b] X.env = (false, eval a X.env) :: starEach [b] X.env := by rfl) (s2 : starEach [b] X.env = (false, eval b X.env) :: starEach [] X.env := by rfl) (hpl : (backTo pos (starEach [b] X.env)).any (·.1) = false := by rfl) : E X M Γ (.Call (.Name x p) [a, b] [] pos) (Bo (!HB.mates wb y z)) := fun σ H l pins s I => by
  refine wpAny_Call_Name_kw (thn (h σ H l pins s I) fun u t1 ⟨v, H1, I1, r1, st1, hv⟩ => ?_)
  have ev : v = .ref L.f := hv.1
  subst ev
  obtain rfl : u = Value.ref L.f := r1
  have l1 := l.st st1
  have hA : A X M Γ [a, b] [S_ y, S_ z] := .cons ha (.cons hb .nil s2) s1
  refine PySem.W.callWith_F (first := []) (lam_fnAt I1 hv.2.2.1.1) (thn (hA σ H1 l1 pos pins t1 I1) fun us t2 ⟨vs, H2, I2, r, st2, tys⟩ => ⟨lam_fnAt I2 ((lamT Cw c wb L).fr (st2.kp l1.hw) hv).2.2.1.1, ?_⟩) s1 hpl
  have l2 := l1.st st2
  obtain ⟨_, ⟨hc, _⟩, ⟨hf, _⟩, hweb⟩ := (lamT Cw c wb L).fr (st2.kp l1.hw) hv
  cases tys with
  | cons ta tys =>
    cases tys with
    | cons tb tys =>
      cases tys
      cases ta
      cases tb
      show wpAny _ _ (PySem.call (.ref L.f) us) _ _ _
      refine wpAny_call (codeAny_mono (lam_run I2.env0 hr kw l2.hw hph ok hc hf hweb hy r) fun rs s' hq => ?_)
      cases rs with
      | error e => (exact (show False from hq).elim)
      | ok fl =>
        cases fl with
        | ret u =>
          obtain ⟨v', H', J, rv, st3, hv'⟩ := I2.after hq
          exact ⟨v', H', J, rv, (st1.trans st2).trans st3, hv'⟩
        | next => exact False.elim hq
        | brk => exact False.elim hq
        | cont => exact False.elim hq
end
/-- a table of code objects, each of the name q -/
def TabC (q : Str) : Cn := ⟨fun ex H o => ∃ ps : Array Value, o = .tbl ps ∧ TriplesOk ps.toList ∧ ∀ (p' : Pos) (cv : Value), codeAmong p' ps.toList = some cv → ∃ d, cv = .ref d ∧ H d = some (LamX.CodeO d q) ∧ ¬ ex d, fun ⟨ps, e, _⟩ xs z => (by rw [e] at z; cases z), fun kk ⟨ps, e, t, h⟩ => ⟨ps, e, t, fun p' cv hit => by
  obtain ⟨d, e1, e2, e3⟩ := h p' cv hit
  obtain ⟨e4, e5⟩ := kk.hard _ _ e2 e3 rfl (fun _ _ z => by unfold LamX.CodeO at z; cases z)
  exact ⟨d, e1, e4, e5⟩⟩⟩
theorem codeO_frz {d : Addr} {q : Str} {o : Obj} {u : HO} : LamX.CodeO d q ≠ .frz o u := fun z => by unfold LamX.CodeO at z; cases z
theorem codeO_tup {d : Addr} {q : Str} {xs : List V} : LamX.CodeO d q ≠ .tup xs := fun z => by unfold LamX.CodeO at z; cases z
/-- a lambda's object is made, it and its code object are known -/
theorem lam_new {X : Cx} {M : Mx} {pins : List (Addr × Obj)} {σ : L2.St} {H : Hp} {s : Shared} {ca P : Addr} {q : Str} {params : Arguments} {body : Expr} {scope : Scope} {pos : Pos} {Ee : Value → Shared → Prop} {Q : Value → Shared → Prop} (I : Inv X pins σ H s) (w : Hw M H) (TB : LamX.TabB X.base X.mg ca P) (hcode : X.env.code = .ref ca)
    (hP : (P, TabC q) ∈ M.ph) (hq : q = X.env.qual ++ "<lambda>") (hdef : defaultsOf params X.env = ([], [])) (hfree : ∀ y ∈ scope.names, y.2 = .free → ∃ c, X.env.cells.lookup y.1 = some c)
    (h : ∀ (f d : Addr) (pm ctv : Value) (H1 : Hp) (s' : Shared), Inv X pins σ H1 s' → St M H H1 → H1 f = some (ObjAt f (PySem.W.kla_obj "<lambda>" q params body scope (cloFrom X.env.cells scope.names []) pm d ctv)) → ¬ M.ex f → H1 d = some (LamX.CodeO d q) → ¬ M.ex d → Q (.ref f) s') :
    wpAny (model X.prog X.w) X.A (eval (.Lambda params body scope pos) X.env) Q Ee s := by
  obtain ⟨xP, o, eP, ps, rfl, tr, al⟩ := w.ph _ hP
  have eP : H P = some (.tbl ps) := eP
  have gP : s.heap.get? P = some { cls := .none, data := .fields ps } := I.hok P _ eP
  have atB : s.heap.BuiltinsAt X.mg P := TB.bm.keeps I.bk
  subst hq
  have lay : ∀ {Hy : Hp} {hh : Heap} {tk : Nat} {pm ctv : Value} {d : Addr}, Inv X pins σ Hy { s with heap := hh, toks := tk } → St M H Hy → Hy d = some (LamX.CodeO d (X.env.qual ++ "<lambda>")) → ¬ M.ex d →
      Q (.ref hh.objs.size) { s with heap := hh.push (PySem.W.kla_obj "<lambda>" (X.env.qual ++ "<lambda>") params body scope (cloFrom X.env.cells scope.names []) pm d ctv), toks := tk } := fun {Hy hh tk pm ctv d} J st hd nd => by
    have e : (hh.push (PySem.W.kla_obj "<lambda>" (X.env.qual ++ "<lambda>") params body scope (cloFrom X.env.cells scope.names []) pm d ctv)).get? hh.objs.size = some (PySem.W.kla_obj "<lambda>" (X.env.qual ++ "<lambda>") params body scope (cloFrom X.env.cells scope.names []) pm d ctv) := Heap.get?_push_size _ rfl
    have n0 : Hy hh.objs.size = none := J.hok.fresh (Nat.le_refl _)
    have w1 := w.st st
    have J2 := J.laid (a := hh.objs.size) (o := ObjAt hh.objs.size (PySem.W.kla_obj "<lambda>" (X.env.qual ++ "<lambda>") params body scope (cloFrom X.env.cells scope.names []) pm d ctv)) (t' := tk) (h' := hh.push (PySem.W.kla_obj "<lambda>" (X.env.qual ++ "<lambda>") params body scope (cloFrom X.env.cells scope.names []) pm d ctv)) (fun b u e => Heap.get?_push_of_some _ e) (Nat.le_refl _) (objAt_ok e)
    refine h hh.objs.size d pm ctv _ _ J2 (st.trans ⟨fun a o' e n => ?_, fun p hp => ?_, fun a o' u e => ?_⟩) upd_same (w1.fresh n0) ?_ nd
    · rw [upd_ne (ne_of_none e n0)]
      exact e
    · obtain ⟨_, o', e, f'⟩ := w1.ph p hp
      exact ⟨o', by rw [upd_ne (ne_of_none e n0)]; exact e, p.2.fr (.of fun a o2 e2 n2 => ⟨by rw [upd_ne (ne_of_none e2 n0)]; exact e2, n2⟩) f'⟩
    · by_cases z : a = hh.objs.size
      · rw [z, upd_same] at e
        exact absurd (Option.some.inj e) objAt_frz
      · rw [upd_ne z] at e
        exact e
    · rw [upd_ne (ne_of_none hd n0)]
      exact hd
  refine (PySem.W.kla_eval hdef ?_)
  cases hit : codeAmong pos ps.toList with
  | none =>
    refine PySem.W.kla_makeFunction (mg := X.mg) (c := ca) (P := P) (ps := ps) (closure_ok hfree) I.ok.glob (I.mod.glob.keeps I.bk) hcode (TB.code.keeps I.bk) gP tr hit TB.gP atB fun d ctv hh tk hx hge hlt hrec htb => ?_
    obtain ⟨d2, oc, vs, t, e2, hoc, hd, hv⟩ := hrec
    cases e2
    have nD : H d = none := I.hok.fresh hge
    have nPd : P ≠ d := ne_of_none eP nD
    have nxD : ¬ M.ex d := w.fresh nD
    have J := LamX.inv_table (t' := tk) (more := #[rawInt pos.line, rawInt pos.col, .ref d]) (h' := hh) I eP (fun b o' hb e => hx b o' hb e) htb hge ⟨oc, vs, t, hoc, hd, hv⟩
    have new : ∀ b, b ≠ P → b ≠ d → upd (upd H P (.tbl (ps ++ #[rawInt pos.line, rawInt pos.col, .ref d]))) d (LamX.CodeO d (X.env.qual ++ "<lambda>")) b = H b := fun b n1 n2 => by rw [upd_ne n2, upd_ne n1]
    have kk : Kp M.ex M.ex H (upd (upd H P (.tbl (ps ++ #[rawInt pos.line, rawInt pos.col, .ref d]))) d (LamX.CodeO d (X.env.qual ++ "<lambda>"))) := .of fun a o' e n => ⟨by rw [new a (fun z => n (by rw [z]; exact xP)) (ne_of_none e nD)]; exact e, n⟩
    have eL : (ps ++ #[rawInt pos.line, rawInt pos.col, .ref d]).toList = ps.toList ++ [rawInt pos.line, rawInt pos.col, .ref d] := by simp
    refine lay J ⟨fun a o' e n => ?_, fun p hp => ?_, fun a o' u e => ?_⟩ upd_same nxD
    · rw [new a (fun z => n _ hP z.symm) (ne_of_none e nD)]
      exact e
    · by_cases z : p.1 = P
      · obtain rfl := w.fn p hp _ hP z
        refine ⟨_, by rw [upd_ne nPd, upd_same], ps ++ #[rawInt pos.line, rawInt pos.col, .ref d], rfl, ?_, fun p' cv hcv => ?_⟩
        · rw [eL]
          exact PySem.TriplesOk_snoc _ _ _ _ tr
        · rw [eL] at hcv
          rcases LamX.among_app _ tr hcv with z | z
          · obtain ⟨d0, e1, e2, e3⟩ := al p' cv z
            obtain ⟨e4, e5⟩ := kk.hard _ _ e2 e3 rfl fun _ _ z => codeO_frz z
            exact ⟨d0, e1, e4, e5⟩
          · exact ⟨d, z, upd_same, nxD⟩
      · obtain ⟨_, o', e, f'⟩ := w.ph p hp
        exact ⟨o', by rw [new p.1 z (ne_of_none e nD)]; exact e, p.2.fr kk f'⟩
    · by_cases z : a = d
      · rw [z, upd_same] at e
        exact absurd (Option.some.inj e) codeO_frz
      · rw [upd_ne z] at e
        by_cases z2 : a = P
        · rw [z2, upd_same] at e
          cases e
        · rw [upd_ne z2] at e
          exact e
  | some cv =>
    obtain ⟨d, e, hco, nxD⟩ := al pos cv hit
    subst e
    refine PySem.W.kla_makeFunctionHit (mg := X.mg) (c := ca) (P := P) (ps := ps) (closure_ok hfree) I.ok.glob (I.mod.glob.keeps I.bk) hcode (TB.code.keeps I.bk) gP tr hit atB fun ctv hh tk hx hsz => ?_
    exact lay (I.kept hx) (St.refl w) hco nxD
end HB


namespace HB
open PySem L2 PyProof.Rows PySem.Spec
section
variable {P : Program} {w : World} {K : PySem.W.Frag} {mg : Str → Option Value} {base : Heap} {Cw Cc : Addr}
def pm_grown (Cw : Addr) : Pm (Addr × Wb × Lm) where
  pre := fun q => Wf q.2.1 ∧ q.2.2.Ok
  req := fun q => q.2.2.ph
  args := fun q => [G q.2.1.1, lamT Cw q.1 q.2.1 q.2.2]
  res := fun q => L ((looseL q.2.1).map gr)
def gfSc : Scope := { kind := .function, names := [(".0", .local), ("group", .local), ("all", .globalImplicit), ("does_go", .cell), ("one", .cell)], isGenerator := false, isCoroutine := false }
def gfSc2 : Scope := { kind := .function, names := [(".0", .local), ("other", .local), ("does_go", .free), ("one", .free)], isGenerator := false, isCoroutine := false }
theorem gf_blk : BlkOk N_grown_from gfSc gfSc2 [("other", 5)] := blkOk_by (by decide +kernel)
theorem ok_grown_from (g : Gs K mg) (kw : Gc K Cw webF) : Ok P w K mg base 2 "grown_from" ["things", "does_go"] (pm_grown Cw) := by
  refine Ok.of (k := 1) (g.df _ 45) sc_grown_from (fun _ => rfl) (fun _ _ _ _ _ _ us hl => match us, hl with | [_, _], _ => rfl) fun ⟨c, wb, L⟩ f cdv A outer s H Ex ex lk En hp hlk hr hR hn => ?_
  obtain ⟨h1, h2⟩ := hp
  have wf : Wf wb := h1
  have ok : L.Ok := h2
  have l5 := wf.len
  have hN := sc_grown_from.nd
  have gl : ∀ n, ((wb.1.take n).foldl (growStep wb) []).length ≤ 256 := fun n => by
    have := found_len wb (wb.1.take n) []
    have p := pow_le8 (n := (wb.1.take n).length) (by rw [List.length_take]; omega)
    simp at this
    simp at p
    omega
  have gsub : ∀ n, ∀ r ∈ (wb.1.take n).foldl (growStep wb) [], r.Sublist wb.1 := fun n r hr => by
    have := found_sub wb [] (wb.1.take n) [] (fun g hg => by cases hg) r hr
    rw [List.nil_append] at this
    exact this.trans (List.take_sublist _ _)
  refine B.new (c := cnL (([] : List (List Str)).map gr)) 2 (EF.lst (ds := []) .nil) (fun p np nb => ?_) hN
  refine B.forN (ds := wb.1.map .str) 3 (fun a : List (List Str) => [(p, cnL (a.map gr))]) (fun _ => [some (G wb.1), some (lamT Cw c wb L), some (Ty.is (.ref p)), none, none, none]) (fun n a => a = (wb.1.take n).foldl (growStep wb) []) (W.tup (E.var 0)) ⟨[], rfl, fun _ _ l => l⟩ (fun n d a hd iv b => ?_) (fun a iv => ?_) hN
  · rw [List.getElem?_map] at hd
    cases hx : wb.1[n]? with
    | none => rw [hx] at hd; cases hd
    | some x =>
      rw [hx] at hd
      cases hd
      have la : a.length ≤ 256 := by rw [iv]; exact gl n
      have sa : ∀ r ∈ a, r.Sublist wb.1 := fun r hrr => by rw [iv] at hrr; exact gsub n r hrr
      have xb : x ∈ wb.1 := List.mem_of_getElem? hx
      refine B.extend (p := p) (ds := a.map gr) (es := ((a.filter fun r => r.all fun y => !mates wb y x).map fun r => r ++ [x]).map gr) (E.var 2) List.mem_cons_self ((E.lcF (enc := gr) (xs := a) (fun r => r.all fun y => !mates wb y x) (fun r => gr (r ++ [x])) 4 (W.own (p := p) (E.var 2) List.mem_cons_self) [("group", 4)] (fun r hrr p' acc s H0 A' cl fp => ?_) (fun r hrr z p' acc s H0 A' cl fp => ?_) (by omega) (blkOk_by (N := N_grown_from) (sc := defScope s_grown_from) (by decide +kernel)) hN).castL (by rw [List.map_map]; rfl)) ?_ ?_
      · have lr := (sa r hrr).length_le
        exact C.valB ((E.all (bs := r.map fun y => !mates wb y x) (g.bi "all") ((E.lcM (enc := PyData.str) (xs := r) (fun y => .bool (!mates wb y x)) 5 (W.tup (E.var 4)) [("other", 5)] (fun y hy p acc s H0 A' cl fp => E.callLam kw hr (E.var (T := lamT Cw c wb L) 1) (E.var (T := S_ y) 5) (E.var (T := S_ x) 3) ((sa r hrr).subset hy) ok (by intro q hq; exact hq)) (by omega) gf_blk hN).castL (by rw [List.map_map]; rfl))).cast (by congr 1; rw [List.all_map]; rfl))
      · have lr := (sa r hrr).length_le
        have e : (r ++ [x]).map PyData.str = r.map .str ++ [.str x] := by rw [List.map_append]; rfl
        refine (E.tup (HB.A.star (E.var (T := D (gr r)) 4) (.cons (E.var (T := S_ x) 3) .nil)) (by simp; omega)).imp fun v H w z => ?_
        show Rp _ _ _ (.tuple ((r ++ [x]).map .str))
        rw [e]
        exact tupT_D (ds := r.map .str ++ [.str x]) (by rw [List.map_append]; exact z)
      · have := List.length_filter_le (fun r : List Str => r.all fun y => !mates wb y x) a
        simp only [List.length_map]
        omega
      · rw [show setO [(p, cnL (a.map gr))] p (cnL (a.map gr ++ ((a.filter fun r => r.all fun y => !mates wb y x).map fun r => r ++ [x]).map gr)) = [(p, cnL (a.map gr ++ ((a.filter fun r => r.all fun y => !mates wb y x).map fun r => r ++ [x]).map gr))] from setO_one]
        refine B.append (p := p) (ds := a.map gr ++ ((a.filter fun r => r.all fun y => !mates wb y x).map fun r => r ++ [x]).map gr) (d := gr [x]) (E.var 2) List.mem_cons_self (E.tupD (ds := [.str x]) (.cons (E.var (T := S_ x) 3) .nil)) ?_ (.nil fun σ H l => ⟨growStep wb a x, ?_, ?_⟩)
        · have := List.length_filter_le (fun r : List Str => r.all fun y => !mates wb y x) a
          simp only [List.length_append, List.length_map]
          omega
        · rw [take_snoc hx, List.foldl_append, ← iv]
          rfl
        · have l2 := l
          rw [show setO [(p, cnL (a.map gr ++ ((a.filter fun r => r.all fun y => !mates wb y x).map fun r => r ++ [x]).map gr))] p (cnL (a.map gr ++ ((a.filter fun r => r.all fun y => !mates wb y x).map fun r => r ++ [x]).map gr ++ [gr [x]])) = [(p, cnL ((growStep wb a x).map gr))] from by rw [setO_one]; unfold growStep; rw [List.map_append, List.map_append]; rfl] at l2
          exact l2.wk (.keep (.keep (.keep (.drop (.keep (.keep .nil))))))
  · have iv : a = (wb.1.take (wb.1.map PyData.str).length).foldl (growStep wb) [] := iv
    rw [List.length_map, List.take_length] at iv
    have iv : a = foundL wb := iv
    subst iv
    have lf : (foundL wb).length ≤ 256 := by
      have := gl wb.1.length
      rw [List.take_length] at this
      exact this
    refine B.drop (M := Mf ex L.ph lk H) (p := p) (ds := (foundL wb).map gr) 2 np nb rfl ?_
    exact B.ret hR (Le.refl _) (E.sortGs hr (g.bi "sorted") (E.var 2) (grs_ok fun gg hg => found_ne wb _ _ (fun g hg => by cases hg) gg hg) (by show (foundL wb).length ≤ 100000; omega))
end
end HB


namespace HB
open PySem L2 PyProof.Rows PySem.Spec
/-- the code object of a def by name stands at ca -/
structure Dc (K : PySem.W.Frag) (mg : Str → Option Value) (x : Str) (ca : Addr) : Prop where
  eq : ∀ (f : Addr) (oc : Value) (od : Option Addr) (fd : FuncData) (osl : Array (Option Value)), mg x = some (.ref f) → K.lookup f = some ⟨oc, od, .func fd, osl⟩ → fd.code = .ref ca
section
variable {P : Program} {w : World} {K : PySem.W.Frag} {mg : Str → Option Value} {base : Heap} {x : Str} {st : Stmt} {α : Type} {p : Pm α} {N ps : List Str} {k : Nat} {ca : Addr}
theorem Ok.ofC (d : Df K mg x st) (dc : Dc K mg x ca) (S : FnScope N ps (defScope st)) (hl : ∀ a, (p.args a).length = ps.length)
    (bn : ∀ (kV doc pm : Value) (an : Option Addr) (cdv ct : Value) (us : List Value), us.length = ps.length → bindArgs (PySem.W.fnOf x x (defArgs st) (defBody st) (defScope st) .none kV doc pm an cdv ct) ⟨us, []⟩ = pure (ps.zip us))
    (hb : ∀ (a : α) (f : Addr) (A : Around) (outer : List Env) (s : Shared) (H : Hp) (Ex : XK) (ex : Ads) (lk : List Addr) (D : Ends), p.pre a → (p.nolk = true → lk = []) → Room k (A.deeper (envOfC x (defScope st) s.heap.objs.size f (.ref ca))) →
      Ret (Mf ex (p.req a) lk H) (p.res a) D.rt → (∀ σ H', D.nx σ H' = D.rt .non H') → B (cxOf CX0 P w K mg base N x (defScope st) f (.ref ca) A outer s H Ex).nox (Mf ex (p.req a) lk H) (startG N (p.args a)) (defBody st) D) : Ok P w K mg base (k + 1) x ps p := by
  obtain ⟨f, fd, e, F⟩ := d.ex
  refine ⟨f, fd, e, F.kp, F.bindsN bn, ?_⟩
  obtain ⟨oc, od, dV, kV, doc, pm, an, cdv, ct, osl, rfl, look, hcd, _, _⟩ := F.ex
  have ec : cdv = .ref ca := dc.eq f oc od _ osl e look
  subst ec
  refine fn_of look hcd S (fun vs H Q Ex ⟨a, ex, lk, _, _, _, hp, _⟩ => by rw [← prd_len hp]; exact hl a) fun A outer s H vs Q Ex hr ⟨a, ex, lk, hpre, hw, hlk, hp, hQ⟩ => ?_
  refine ⟨_, PSs.nox pb_w, ?_⟩
  refine hb a f A outer s H Ex ex lk { nx := fun _ H' => Q .non H', rt := Q } hpre hlk hr (fun M v H' l w' h => ?_) (fun _ _ => rfl) (L2.start N vs) H ?_
  · exact hQ v H' (w'.back l) ((p.res a).fr (l.kp H') h)
  · refine ⟨hw, ?_, ?_⟩
    · unfold startG L2.start
      rw [List.length_append, List.length_append, List.length_map, List.length_map, List.length_replicate, List.length_replicate, prd_len hp]
    · unfold startG L2.start
      rw [← prd_len hp]
      exact start_vr _ hp
end
/-- the lambda's words -/
structure Lw where
  f : Addr
  d : Addr
  pm : Value
  ctv : Value
def lwT (q : Str) (cl : List (Str × Addr)) (L : Lw) : Ty := ⟨fun ex v H => v = .ref L.f ∧ (H L.f = some (ObjAt L.f (PySem.W.kla_obj "<lambda>" q lamP lamB lamS cl L.pm L.d L.ctv)) ∧ ¬ ex L.f) ∧ H L.d = some (LamX.CodeO L.d q) ∧ ¬ ex L.d, fun k ⟨e, ⟨h, n⟩, h2, n2⟩ =>
  ⟨e, k.hard _ _ h n rfl (fun _ _ z => objAt_frz z), k.hard _ _ h2 n2 rfl (fun _ _ z => codeO_frz z)⟩⟩
section
variable {X : Cx} {M : Mx} {Γ : Gm} {e : Expr} {p pos : Pos} {ca Pl : Addr} {q : Str}
theorem E.lam (TB : LamX.TabB X.base X.mg ca Pl) (hcode : X.env.code = .ref ca) (hP : (Pl, TabC q) ∈ M.ph) (hq : q = X.env.qual ++ "<lambda>") (hfree : ∀ y ∈ lamS.names, y.2 = .free → X.env.scope.names.lookup y.1 = some .cell ∨ X.env.scope.names.lookup y.1 = some .free) (hdef : defaultsOf lamP X.env = ([], []) := by rfl) :
    E X M Γ (.Lambda lamP lamB lamS pos) (.some (fun _ : Lw => True) (lwT q (cloFrom X.env.cells lamS.names []))) := fun σ H l pins s I =>
  lam_new I l.hw TB hcode hP hq hdef (fun y hy e => I.ok.has _ (hfree y hy e)) fun f d pm ctv H1 s' J st h1 n1 h2 n2 => ⟨.ref f, H1, J, rfl, st, ⟨f, d, pm, ctv⟩, trivial, rfl, ⟨h1, n1⟩, h2, n2⟩
end
end HB


namespace HB
open PySem L2 PyProof.Rows PySem.Spec
section
variable {X : Cx} {M : Mx} {Γ : Gm} {e1 e2 : Expr} {p pos : Pos} {q : Str} {Cw c cw : Addr} {wb : Wb} {m : Nat}
theorem E.grown (F : Ok X.prog X.w X.K X.mg X.base 2 "grown_from" ["things", "does_go"] (pm_grown Cw)) (hr : Room m X.A) (hm : 2 ≤ m) (wf : Wf wb) (hA : A X M Γ [e1, e2] [G wb.1, .some (fun _ : Lw => True) (lwT q [("web", cw)])]) (hΓ : Γ[0]? = some (some (webT Cw c wb))) (hN : X.N[0]? = some ("web" : Str)) (hk : X.env.scope.names.lookup ("web" : Str) = some .cell) (hcl : X.env.cells.lookup ("web" : Str) = some cw) (hfn : X.fn "web" = true)
    (hg : Gl X "grown_from" := by rfl) (hdb : ((("grown_from" : Str)) == ("__debug__" : Str)) = false := by decide) (he : starEach [e1, e2] X.env = (false, eval e1 X.env) :: starEach [e2] X.env := by rfl) (hpl : (backTo pos (starEach [e2] X.env)).any (·.1) = false := by rfl) : E X M Γ (.Call (.Name "grown_from" p) [e1, e2] [] pos) (L ((looseL wb).map gr)) := fun σ H l pins s I => by
  obtain ⟨fG, fdG, g1, g2, g3, g4⟩ := F.ex
  refine wpAny_Call_Name_kw (ld_glob I hg g1 ?_ hdb)
  refine PySem.W.callWith_K (h₀ := X.base) I.ok.mod.kin g2 (thn (hA σ H l pos pins s I) fun us s2 ⟨vs, H2, I2, r, st2, tys⟩ => ⟨I2.kIn, ?_⟩) he hpl
  show wpAny _ _ (PySem.call (.ref fG) us) _ _ _
  have l2 := l.st st2
  have w2 := l2.hw
  cases tys with
  | cons tg tys =>
    cases tys with
    | @cons _ vl _ _ tl tys =>
      cases tys
      obtain ⟨lw, _, ev, ⟨hf, nf⟩, hd, nd⟩ := tl
      obtain ⟨v0, ev0, hweb⟩ := l2.var 0 _ hΓ
      obtain ⟨wa, dx, fs, rfl, _⟩ := _root_.id hweb
      obtain ⟨mm, _, hloc⟩ := I2.loc
      obtain ⟨u0, r0, look⟩ := hloc 0 "web" _ hN ev0 (.inr (.inl hk))
      obtain rfl : u0 = Value.ref wa := r0
      have hcell : s2.heap.IsCell cw (some (.ref wa)) := by
        rcases look with ⟨z, _⟩ | ⟨_, c2, z, h⟩
        · have z : X.env.scope.names.lookup ("web" : Str) = some .local := z
          rw [hk] at z
          cases z
        · rw [hcl] at z
          cases z
          exact h
      obtain ⟨co, gco, dco⟩ := hcell
      have n0 : H2 cw = none := I2.freeC "web" cw hcl
      have nxc : ¬ M.ex cw := w2.fresh n0
      have nfc : lw.f ≠ cw := ne_of_none hf n0
      have abv : X.s_0.heap.objs.size ≤ cw := I2.ok.cab "web" cw hfn hcl
      have nfr : cw ∉ frs X.stack := fun z => by
        rcases List.mem_cons.mp (I2.stkSub _ z) with e | e
        · exact I2.cne "web" cw hcl e
        · obtain ⟨_, o, ho, _⟩ := I2.ok.funs.mem e
          exact absurd (Nat.lt_of_lt_of_le (Heap.lt_size ho) abv) (Nat.lt_irrefl _)
      let Lm0 : Lm := ⟨lw.f, lw.d, cw, wa, lw.pm, lw.ctv, q, co⟩
      let H3 : Hp := upd H2 cw (ObjAt cw co)
      have old : ∀ {a o}, H2 a = some o → H3 a = some o := fun {a o} e => by
        show upd H2 cw _ a = _
        rw [upd_ne (ne_of_none e n0)]
        exact e
      have off : ∀ {a}, a ≠ cw → H3 a = H2 a := fun {a} e => upd_ne e
      have hok3 : HOk X.prog X.w H3 s2.heap := fun b u e => by
        by_cases z : b = cw
        · subst z
          have e : upd H2 b (ObjAt b co) b = some u := e
          rw [upd_same] at e
          cases e
          exact objAt_ok gco
        · rw [off z] at e
          exact (I2.hok b u e).stay (fun _ _ _ z => z) (fun d z => old z) fun d xs z => old z
      have e0 := I2.env0
      have e03 : Env0 X.prog X.w X.K X.mg X.base X.A X.stack s2 H3 := ⟨e0.frames, e0.mod, fun b o e => ⟨(e0.bs b o e).1, by
        have ne : b ≠ cw := fun z => by
          have := (I2.ok.bs b o e).1
          rw [z] at this
          exact absurd (Nat.lt_of_lt_of_le (Heap.lt_size this) abv) (Nat.lt_irrefl _)
        rw [off ne]
        exact (e0.bs b o e).2⟩, e0.bsz, e0.funs, fun b hb => by
        rw [off fun z => nfr (z ▸ hb)]
        exact e0.frf b hb, hok3, e0.bare⟩
      let ex3 : Ads := fun b => M.ex b ∨ b = cw
      have w3 : Hw (Mf ex3 Lm0.ph M.lk H3) H3 := by
        refine ⟨fun a z => ?_, fun p1 h1 p2 h2 e => ?_, fun p hp => ?_, fun p hp => (by cases hp), List.Pairwise.nil, fun a o e _ => e, fun b hb => (by cases hb), fun a o u e => e, fun a o u e su => ?_⟩
        · rcases z with z | z
          · obtain ⟨o, e, n⟩ := w2.exin a z
            exact ⟨o, old e, n⟩
          · rw [z]
            exact ⟨_, upd_same, fun xs z => objAt_tup z⟩
        · rw [List.mem_singleton.mp h1, List.mem_singleton.mp h2]
        · (rw [List.mem_singleton.mp hp])
          exact ⟨.inr rfl, _, upd_same, rfl⟩
        · have ne : a ≠ cw := fun z => by
            have e : upd H2 cw _ a = _ := e
            rw [z, upd_same] at e
            exact objAt_frz (Option.some.inj e)
          have e : upd H2 cw _ a = _ := e
          rw [upd_ne ne] at e
          exact w2.nk a o u (w2.nf a o u e) su
      have kG : Kp M.ex ex3 H2 H3 := .of fun a o e n => ⟨old e, fun z => z.elim n (ne_of_none e n0)⟩
      have fin : ∀ (rs : Result) (s' : Shared), CR CX0 X.stack X.prog X.w H3 s2 (fun v H' => St (Mf ex3 Lm0.ph M.lk H3) H3 H' ∧ (L ((looseL wb).map gr)).P ex3 v H') E0 rs s' → CR CX0 X.stack X.prog X.w H2 s2 (fun v H' => St M H2 H' ∧ (L ((looseL wb).map gr)).P M.ex v H') E0 rs s' := fun rs s' hq => by
        cases rs with
        | error e => exact hq
        | ok fl =>
          cases fl with
          | next => exact hq
          | brk => exact hq
          | cont => exact hq
          | ret u =>
            obtain ⟨v, H', os, bare, un, hok, rv, st3, hv⟩ := hq
            obtain ⟨o', ec, eo⟩ := st3.ph (cw, ObjC cw co) List.mem_cons_self
            have eo : o' = ObjAt cw co := eo
            subst eo
            have ec : H' cw = some (ObjAt cw co) := ec
            obtain ⟨gc', _, _⟩ := hok _ _ ec
            have gc' : s'.heap.get? cw = some co := gc'
            have kept : ∀ a o, H2 a = some o → hide H' cw a = some o := fun a o e => by
              have ne : a ≠ cw := ne_of_none e n0
              rw [hide_ne ne]
              exact st3.keep a o (old e) fun r hr => by rw [List.mem_singleton.mp hr]; exact ne.symm
            have kk : Kp M.ex M.ex H2 (hide H' cw) := .of fun a o e n => ⟨kept a o e, n⟩
            have three : ∀ {b}, H2 b = none → b ≠ cw → H3 b = none := fun {b} e ne => by rw [off ne]; exact e
            refine ⟨v, hide H' cw, os, bare, ⟨fun b o e n hb hx => ?_, fun b o e n hb hx => ?_, fun b o e n hx => ?_, un.there, fun b xs e => kept b _ e, fun b o u e => kept b _ e, fun b ps e => ⟨#[], by rw [kept b _ e]; simp⟩⟩, hok_hide hok ec, rv, ⟨fun a o e n => kept a o e, fun p hp => ?_, fun a o u e => ?_⟩, (L ((looseL wb).map gr)).fr (.of fun a o e n => ⟨by rw [hide_ne fun z => n (.inr z)]; exact e, fun z => n (.inl z)⟩) hv⟩
            · by_cases z : b = cw
              · rw [z] at e ⊢
                rw [gco] at e
                cases e
                exact gc'
              · exact un.keep b o e (three n z) hb hx
            · by_cases z : b = cw
              · rw [z] at hb
                exact absurd hb nfr
              · exact un.slot b o e (three n z) hb hx
            · by_cases z : b = cw
              · rw [z]
                exact hide_eq
              · rw [hide_ne z]
                exact un.free b o e (three n z) hx
            · obtain ⟨_, o, e, f⟩ := w2.ph p hp
              exact ⟨o, kept _ _ e, p.2.fr kk f⟩
            · obtain ⟨ne, e⟩ := hide_some e
              have e := st3.nf a o u e
              rw [off ne] at e
              exact e
      have lenv : us.length = 2 := by rw [← r.length]; rfl
      have bt : BindsTo s2 fdG ⟨us, []⟩ ((["things", "does_go"] : List Str).zip us) := by
        have := g3 s2 us I2.kIn (by rw [List.append_nil]; exact lenv)
        rw [List.append_nil] at this
        exact this
      have hsp : (pm_grown Cw).sp _ H3 (fun v H' => St (Mf ex3 Lm0.ph M.lk H3) H3 H' ∧ (L ((looseL wb).map gr)).P ex3 v H') E0 := ⟨(c, wb, Lm0), ex3, M.lk, ⟨wf, dco⟩, w3, fun z => (by cases z), .cons ((G wb.1).fr kG tg) (.cons ⟨ev, ⟨(kG.hard _ _ hd nd rfl fun _ _ z => codeO_frz z).1, (kG.hard _ _ hd nd rfl fun _ _ z => codeO_frz z).2⟩, ⟨(kG.hard _ _ hf nf rfl fun _ _ z => objAt_frz z).1, (kG.hard _ _ hf nf rfl fun _ _ z => objAt_frz z).2⟩, (webT Cw c wb).fr kG hweb⟩ .nil), fun v H' s h => ⟨s, h⟩⟩
      refine wpAny_call (codeAny_mono ((g4.mono hm).run X.A X.stack s2 H3 ⟨us, []⟩ us _ _ E0 hr e03 bt r hsp) fun rs s' hq => ?_)
      have hq := fin rs s' hq
      cases rs with
      | error e => (exact (show False from hq).elim)
      | ok fl =>
        cases fl with
        | ret u =>
          obtain ⟨v', H', J, rv, st3, hv'⟩ := I2.after hq
          exact ⟨v', H', J, rv, st2.trans st3, hv'⟩
        | next => exact False.elim hq
        | brk => exact False.elim hq
        | cont => exact False.elim hq
end
section
variable {P : Program} {w : World} {K : PySem.W.Frag} {mg : Str → Option Value} {base : Heap} {Cw ca Pl : Addr} {tl : Ph}
theorem loose_body : ∃ p1 p2 p3 p4 p5 p6, defBody s_loose_in = [.Return (some (.Call (.Name "grown_from" p1) [.Attribute (.Name "web" p2) "own_things" p3, .Lambda lamP lamB lamS p4] [] p5)) p6] := ⟨_, _, _, _, _, _, rfl⟩
abbrev ql : Str := (envOfC "loose_in" (defScope s_loose_in) 0 0 .none).qual ++ "<lambda>"
theorem ok_loose_in (g : Gs K mg) (kw : Gc K Cw webF) (dc : Dc K mg "loose_in" ca) (TB : LamX.TabB base mg ca Pl) (hP : (Pl, TabC ql) ∈ tl) : Ok P w K mg base 3 "loose_in" ["web"] (pm_loose_in Cw tl) := by
  refine Ok.ofC (k := 2) (g.df _ 46) dc sc_loose_in (fun _ => rfl) (fun _ _ _ _ _ _ us hl => match us, hl with | [_], _ => rfl) fun ⟨c, wb⟩ f A outer s H Ex ex lk En hp hlk hr hR hn => ?_
  have wf : Wf wb := hp
  obtain ⟨p1, p2, p3, p4, p5, p6, eb⟩ := loose_body
  rw [eb]
  refine B.ret hR (Le.refl _) (E.grown (q := ql) (cw := s.heap.objs.size + 1) (c := c) (Cw := Cw) (wb := wb) (ok_grown_from g kw) hr (by decide) wf (.cons (E.fld (E.var (T := webT Cw c wb) 0) kw.cl (kw.na "own_things" (by decide))) (.cons (E.lam (q := ql) TB rfl hP rfl ?_) .nil)) rfl rfl rfl rfl rfl)
  intro y hy e
  have key : (lamS.names.all fun y => !decide (y.2 = .free) || decide ((defScope s_loose_in).names.lookup y.1 = some .cell)) = true := by decide +kernel
  have := List.all_eq_true.mp key y hy
  rw [e] at this
  have z : (defScope s_loose_in).names.lookup y.1 = some .cell := by simpa using this
  exact .inl z
end
end HB


namespace HB
open PySem L2 PyProof.Rows PySem.Spec
section
variable {A : Around} {elt iter cnd : Expr} {x : Str} {px gp : Pos} {sc : Scope} {it acc : Value} {env : Env}
abbrev gexp (elt iter cnd : Expr) (x : Str) (px : Pos) (sc : Scope) (gp : Pos) : Expr := .GeneratorExp elt [⟨.Name x px, iter, [cnd], 0⟩] sc gp
theorem over_genL : A.over (.compLoop (gexp elt iter cnd x px sc gp) 0 it acc env) [] = A.deeper env := by
  rfl
theorem over_genS : A.over (.compStart (gexp elt iter cnd x px sc gp) 0 it acc env) [] = A.deeper env := by
  rfl
end
/-- the frame of a generator expression, made by X's frame at s1 -/
def gcx (X : Cx) (A : Around) (s1 : Shared) (H1 : Hp) (cenv : Env) : Cx where
  prog := X.prog
  w := X.w
  K := X.K
  mg := X.mg
  base := X.base
  A := A.deeper cenv
  N := X.N
  s_0 := s1
  H_0 := H1
  env := cenv
  outer := X.stack
  stack := cenv :: X.stack
  ex := []
  fn := fun _ => false
  calm := true
  pn := []
  xe := fun _ _ => False
/-- where the run ends: behind the first thing of which p holds, or behind all -/
def GPost (X : Cx) (A : Around) (s1 : Shared) (H1 : Hp) (cenv : Env) (M : Mx) (Hs : Hp) {α : Type} (enc : α → PyData) (p : α → Bool) (gs : List α) (o : Option Value) (s : Shared) : Prop :=
  ∃ σ' H', Inv (gcx X A s1 H1 cenv) [] σ' H' s ∧ St M Hs H' ∧ match o with
    | none => gs.find? p = none
    | some v => ∃ y g, RelV y v ∧ gs.find? p = some g ∧ Rp M.ex H' y (enc g)
theorem find_drop {α : Type} {p : α → Bool} {gs : List α} {i : Nat} (h : ∀ g ∈ gs.take i, p g = false) : gs.find? p = (gs.drop i).find? p := by
  conv => lhs; rw [← List.take_append_drop i gs]
  rw [List.find?_append, List.find?_eq_none.mpr (fun g hg => by rw [h g hg]; exact Bool.false_ne_true)]
  rfl
section
variable {X : Cx} {A : Around} {s1 : Shared} {H1 : Hp} {cenv : Env} {M : Mx} {Γ : Gm} {iter cnd : Expr} {x : Str} {px pe gp : Pos} {sc : Scope} {it la : Addr} {α : Type} {enc : α → PyData} {p : α → Bool} {gs : List α} {j : Nat} {Hs : Hp}
theorem gen_loop (hN : X.N.Nodup) (hj : X.N[j]? = some x) (hx : cenv.scope.names.lookup x = some .local) (hco : cenv.scope.isCoroutine = false) (hd1 : (x == ("__debug__" : Str)) = false) (hd2 : (x == ("__classdict__" : Str)) = false) (hjΓ : Γ[j]? = some none)
    (test : ∀ g ∈ gs, C (gcx X A s1 H1 cenv) M (Γ.set j (some (D (enc g)))) cnd (· = p g)) : ∀ (r i : Nat) (s₀ s : Shared) (σ' : L2.St) (H' : Hp), i + r = gs.length → Inv (gcx X A s1 H1 cenv) [] σ' H' s → s.heap.IsListIter it la i → FpOk (gcx X A s1 H1 cenv) [] H' it → HB.Loc M Γ σ' H' → Rp M.ex H' (.ref la) (.list (gs.map enc)) → St M Hs H' → (∀ g ∈ gs.take i, p g = false) →
      Seg (model X.prog X.w) A (fun n s₀ r s₁ => r = .ok .next ∧ GPost X A s1 H1 cenv M Hs enc p gs none s₁) (fun n s₀ v s kap => GPost X A s1 H1 cenv M Hs enc p gs (some v) s) 1 s₀ (.compLoop (gexp (.Name x pe) iter cnd x px sc gp) 0 (.ref it) .none cenv)
        ((model X.prog X.w).den (.compLoop (gexp (.Name x pe) iter cnd x px sc gp) 0 (.ref it) .none cenv)) [] s := by
  intro r
  induction r with
  | zero =>
    intro i s₀ s σ' H' hi I tn fp l hl st no
    have hi : i = gs.length := by omega
    subst hi
    show Seg _ A _ _ _ s₀ _ ((compTurn (gexp (.Name x pe) iter cnd x px sc gp) 0 (.ref it) .none cenv).onRaise (leaving cenv)) [] s
    rw [compTurn_gen]
    rw [Sem.onRaise_eq_wrap]
    refine seg_bind_wrap (wpAny_standAt (seg_bind_wrap ?_))
    rw [over_genL]
    have T := turn_list (P := X.prog) (w := X.w) (K := X.K) (tg := .Name x px) la it
    cases hl with
    | @lst _ xs _ e n r =>
      refine thn (T.done (gcx X A s1 H1 cenv) rfl rfl rfl rfl gs.length [] s σ' H' _ I (fun b hb => by rw [List.mem_singleton.mp hb]; exact fp) tn ⟨xs, SqL.of e, by rw [r.length, List.length_map]; exact Nat.le_refl _⟩) fun o s2 ⟨eo, I2⟩ => ?_
      subst eo
      refine seg_end (.ok .next) ⟨rfl, σ', H', I2, st, ?_⟩
      show gs.find? p = none
      rw [List.find?_eq_none]
      intro g hg
      rw [no g (by rw [List.take_length]; exact hg)]
      exact Bool.false_ne_true
  | succ r ih =>
    intro i s₀ s σ' H' hi I tn fp l hl st no
    have hlt : i < gs.length := by omega
    have hgi : gs[i]? = some gs[i] := List.getElem?_eq_getElem hlt
    have mem : gs[i] ∈ gs := List.getElem_mem hlt
    show Seg _ A _ _ _ s₀ _ ((compTurn (gexp (.Name x pe) iter cnd x px sc gp) 0 (.ref it) .none cenv).onRaise (leaving cenv)) [] s
    rw [compTurn_gen]
    rw [Sem.onRaise_eq_wrap]
    refine seg_bind_wrap (wpAny_standAt (seg_bind_wrap ?_))
    rw [over_genL]
    have T := turn_list (P := X.prog) (w := X.w) (K := X.K) (tg := .Name x px) la it
    obtain ⟨xs, e, n, rr⟩ : ∃ xs, H' la = some (.lst xs) ∧ ¬ M.ex la ∧ RpAll M.ex H' xs (gs.map enc) := by
      cases hl with
      | lst e n r => exact ⟨_, e, n, r⟩
    obtain ⟨y, hy, ry⟩ := rr.get (i := i) (d := enc gs[i]) (by rw [List.getElem?_map, hgi]; rfl)
    refine thn (T.item (gcx X A s1 H1 cenv) rfl rfl rfl rfl i [] s σ' H' _ I (fun b hb => by rw [List.mem_singleton.mp hb]; exact fp) tn ⟨xs, y, SqL.of e, hy⟩) fun o s2 ⟨u, eo, h2⟩ => ?_
    subst eo
    refine seg_bind_wrap ?_
    rw [over_genL]
    refine thn h2 fun _ s3 ⟨z, H3, I3, rz, ⟨eH, yl⟩, tn3, fr3⟩ => ?_
    subst eH
    have ez : z = y := by
      have := yl xs (SqL.of e)
      rw [hy] at this
      (exact (Option.some.inj this).symm)
    subst ez
    have I4 := I3.pinned (fp := [it]) (fun b hb => by rw [List.mem_singleton.mp hb]; exact fp) (T.obj _ _ tn3)
    refine seg_bind_wrap ?_
    rw [over_genL]
    have pg : PG (gcx X A s1 H1 cenv) (.Name x px) (gName j) := pg_name hN hj (.inl hx) (.inr hx)
    refine wpAny_mono (pg.run _ s3 σ' H3 z u (fun σ5 H5 => σ5 = σ'.set j (some z) ∧ H5 = H3) I4 rz ⟨rfl, rfl⟩) (fun _ s5 ⟨σ5, H5, I5, eσ, eH⟩ => ?_) fun _ _ q => q.elim
    subst eσ
    subst eH
    have l5 : HB.Loc M (Γ.set j (some (D (enc gs[i])))) (σ'.set j (some z)) H5 := l.set ry
    refine seg_bind_wrap ?_
    rw [over_genL]
    refine wpAny_mono ((pts_one pt_w).run _ s5 _ H5 _ I5 (test _ mem _ _ l5)) (fun ok s6 ⟨H6, I6, st6, eok⟩ => ?_) fun _ _ q => q.elim
    subst eok
    have pinned := I6.pin
    obtain ⟨oi, hoi, doi⟩ := T.obj _ _ tn3 it (by simp)
    have keepI := (I6.pin (it, oi) (List.mem_append_right _ (List.mem_append_right _ (mem_pinsAt (fp := [it]) (by simp) hoi)))).1
    have noneI := (I6.pin (it, oi) (List.mem_append_right _ (List.mem_append_right _ (mem_pinsAt (fp := [it]) (by simp) hoi)))).2.1
    have tn6 : s6.heap.IsListIter it la (i + 1) := T.keep _ _ _ tn3 fun b hb o2 e2 => by
      have eb := List.mem_singleton.mp hb
      subst eb
      rw [hoi] at e2
      cases e2
      exact keepI
    have I7 : Inv (gcx X A s1 H1 cenv) [] (σ'.set j (some z)) H6 s6 := I6.unpinned
    have l7 := l5.st st6
    have nxt : ∀ g ∈ gs.take i, p g = false := no
    cases hp : p gs[i] with
    | false =>
      simp only [if_false, Bool.false_eq_true]
      refine seg_again rfl (ih (i + 1) s₀ s6 (σ'.set j (some z)) H6 (by omega) I7 tn6 ⟨noneI, fp.2⟩ (l7.weak (by rw [List.length_set]) fun k T' e' => ?_) ((HB.L (gs.map enc)).fr (st6.kp l5.hw) (.lst e n rr)) (st.trans st6) fun g hg => ?_)
      · by_cases q : j = k
        · subst q
          rw [hjΓ] at e'
          cases e'
        · exact ⟨T', by rw [List.getElem?_set_ne q]; exact e', fun _ h => h⟩
      · rw [take_snoc hgi] at hg
        rcases List.mem_append.mp hg with hg | hg
        · exact no g hg
        · rw [List.mem_singleton.mp hg]
          exact hp
    | true =>
      simp only [if_true]
      have plain : ∀ v, yieldOut cenv v = yieldValue v := fun v => by simp only [yieldOut, hco, Bool.false_eq_true, if_false]
      simp only [plain]
      simp only [Sem.bind_eq_wrap', Sem.wrap_wrap]
      refine seg_wrap ?_
      rw [over_genL]
      obtain ⟨v7, e7, r7⟩ := l7.var j (HB.D (enc gs[i])) (by rw [List.getElem?_set_self (by exact (List.getElem?_eq_some_iff.mp hjΓ).1)])
      have pv : PE (gcx X A s1 H1 cenv) (.Name x pe) (tVar j) := pe_var hj (.inl hx) hd1 hd2
      refine wpAny_mono (pv.run _ s6 _ H6 (fun v H' => v = v7 ∧ H' = H6) I7 ⟨v7, e7, rfl, rfl⟩) (fun yv s8 ⟨v8, H8, I8, r8, ev, eH⟩ => ?_) fun _ _ q => q.elim
      subst ev
      subst eH
      refine seg_at (seg_yield rfl rfl rfl ⟨_, H8, I8, st.trans st6, v8, gs[i], r8, ?_, r7⟩)
      rw [find_drop no, List.drop_eq_getElem_cons hlt, List.find?_cons, hp]
end
end HB


namespace HB
open PySem L2 PyProof.Rows PySem.Spec
section
variable {X : Cx} {A : Around} {s1 : Shared} {H1 : Hp} {cenv : Env} {M : Mx} {Γ : Gm} {iter cnd : Expr} {x : Str} {px pe gp : Pos} {sc : Scope} {it la : Addr} {α : Type} {enc : α → PyData} {p : α → Bool} {gs : List α} {j : Nat} {Hs : Hp}
theorem gen_start (hN : X.N.Nodup) (hj : X.N[j]? = some x) (hx : cenv.scope.names.lookup x = some .local) (hco : cenv.scope.isCoroutine = false) (hd1 : (x == ("__debug__" : Str)) = false) (hd2 : (x == ("__classdict__" : Str)) = false) (hjΓ : Γ[j]? = some none)
    (test : ∀ g ∈ gs, C (gcx X A s1 H1 cenv) M (Γ.set j (some (D (enc g)))) cnd (· = p g)) {s₀ s : Shared} {σ' : L2.St} {H' : Hp} (I : Inv (gcx X A s1 H1 cenv) [] σ' H' s) (tn : s.heap.IsListIter it la 0) (fp : FpOk (gcx X A s1 H1 cenv) [] H' it) (l : HB.Loc M Γ σ' H') (hl : Rp M.ex H' (.ref la) (.list (gs.map enc))) (st : St M Hs H') :
      Seg (model X.prog X.w) A (fun n s₀ r s₁ => r = .ok .next ∧ GPost X A s1 H1 cenv M Hs enc p gs none s₁) (fun n s₀ v s kap => GPost X A s1 H1 cenv M Hs enc p gs (some v) s) 1 s₀ (.compStart (gexp (.Name x pe) iter cnd x px sc gp) 0 (.ref it) .none cenv)
        ((model X.prog X.w).den (.compStart (gexp (.Name x pe) iter cnd x px sc gp) 0 (.ref it) .none cenv)) [] s := by
  have loop := gen_loop (iter := iter) (px := px) (pe := pe) (gp := gp) (sc := sc) hN hj hx hco hd1 hd2 hjΓ test gs.length 0 s₀ s σ' H' (Nat.zero_add _) I tn fp l hl st fun g hg => by simp at hg
  have T := turn_list (P := X.prog) (w := X.w) (K := X.K) (tg := .Name x px) la it
  show Seg _ A _ _ _ s₀ _ ((compStart (gexp (.Name x pe) iter cnd x px sc gp) 0 (.ref it) .none cenv).onRaise (leaving cenv)) [] s
  unfold compStart
  rw [Sem.onRaise_eq_wrap]
  show Seg (model X.prog X.w) A _ _ _ s₀ _ ((ask >>= _).wrap _ _ _ _) [] s
  refine seg_bind_wrap (wpAny_askSetting (?_))
  split
  · exact seg_again rfl loop
  · first
      | exact seg_bind_wrap (wpAny_rule (seg_bind_wrap (wpAny_standAt (seg_bind_wrap (T.self _ 0 s _ _ tn (seg_again rfl loop))))))
      | (refine seg_bind_wrap (wpAny_rule ?_); show Seg _ A _ _ _ s₀ _ ((standAt iter.pos >>= _).wrap _ _ _ _) [] s; exact seg_bind_wrap (wpAny_standAt (seg_bind_wrap (T.self _ 0 s _ _ tn (seg_again rfl loop)))))
end
/-- a table whose objects are of no matter -/
def TabGc : Cn := Cn.only (fun o => ∃ ps : Array Value, o = .tbl ps ∧ TriplesOk ps.toList) fun o ⟨ps, e, _⟩ xs z => by rw [e] at z; cases z
/-- the generator's frame begins -/
theorem inv_gen {X : Cx} {A : Around} {pins : List (Addr × Obj)} {σ : L2.St} {H1 : Hp} {s1 s5 : Shared} {P : Addr} {ps ps' : Array Value} {sc : Scope} {Lc : Addr} {code it : Value} (I1 : Inv X pins σ H1 s1) (hP : H1 P = some (.tbl ps)) (hm : ∃ more, ps' = ps ++ more) (I5 : Inv X pins σ (upd H1 P (.tbl ps')) s5) (k : ∀ b o, b ≠ P → s1.heap.get? b = some o → s5.heap.get? b = some o)
    (hkind : sc.kind = .function) (hcell : ∀ y ∈ sc.names, y.2 ≠ .cell) (hfree : ∀ y ∈ sc.names, y.2 = .free → X.env.scope.names.lookup y.1 = some .cell ∨ X.env.scope.names.lookup y.1 = some .free) (hL : s1.heap.objs.size ≤ Lc) (nL : H1 Lc = none) (hns : s5.heap.Ns Lc (fun y => if y = ".0" then some it else none)) (hfr : A.frames = some X.stack) (hh : A.handled = none)
    (hloc : ∀ (i : Nat) (y : Str) (v : V), X.N[i]? = some y → σ[i]? = some (some v) → sc.names.lookup y ≠ some .local) (hos : s5.os = s1.os) :
    Inv (gcx X A s1 H1 (genEnv sc (cloFrom X.env.cells sc.names []) Lc code builtinsNs X.env)) [] σ (upd H1 P (.tbl ps')) s5 := by
  have nP : ∀ {b}, H1 b = none → b ≠ P := fun {b} e z => by
    rw [z, hP] at e
    cases e
  have hf : ∀ y ∈ sc.names, y.2 = .free → ∃ c, X.env.cells.lookup y.1 = some c := fun y hy e => (hfree y hy e).elim (fun z => I1.ok.has _ (.inl z)) fun z => I1.ok.has _ (.inr z)
  have cm : ∀ {y c}, (cloFrom X.env.cells sc.names []).lookup y = some c → X.env.cells.lookup y = some c := fun {y c} e => NdefX.clo_cm hf e
  have noA : ∀ b : Addr, b ∉ ([] : List Addr) := fun b z => by cases z
  refine ⟨⟨I1.ok.mod, hkind, I1.ok.glob, rfl, hL, fun y z c e1 e2 => I1.ok.inj y z c (cm e1) (cm e2), fun y hy => ?_, fun y c e _ => (by cases e), fun _ => hh, Around.frames_deeper hfr, .inr ⟨rfl, rfl⟩, fun b z => absurd z (noA b), I1.bs, Nat.le_trans I1.ok.bsz I1.sz, fun b _ _ => noA b, fun b z => absurd z (noA b), I1.stack, I1.stkFree⟩,
    hos, I5.bare, ⟨fun b o e n _ _ => k b o (nP n) e, fun b o e n _ _ => ⟨o.slots, k b o (nP n) e⟩, fun b o e n _ => ?_, fun b o e _ => ?_, fun b xs e => ?_, fun b o u e => ?_, fun b qs e => ?_⟩, ⟨_, hns, fun i y v e1 e2 e3 => ?_⟩, fun y c e => ?_, ?_, fun y c e => ?_, fun q hq => (by cases hq), I5.hok, I5.len⟩
  · have hy : sc.names.lookup y = some .cell ∨ sc.names.lookup y = some .free := hy
    rcases hy with hy | hy
    · exact absurd rfl (hcell _ (PySem.mem_of_lookup hy))
    · obtain ⟨c, hc⟩ := hf _ (PySem.mem_of_lookup hy) rfl
      exact ⟨c, NdefX.clo_has hf (PySem.mem_of_lookup hy) hc⟩
  · rw [upd_ne (nP n)]
    exact n
  · by_cases z : b = P
    · have := I5.hok P _ upd_same
      rw [z]
      exact ⟨_, this⟩
    · exact ⟨o, k b o z e⟩
  · have e : H1 b = _ := e
    rw [upd_ne fun z => by rw [z, hP] at e; cases e]
    exact e
  · have e : H1 b = _ := e
    rw [upd_ne fun z => by rw [z, hP] at e; cases e]
    exact e
  · have e : H1 b = _ := e
    by_cases z : b = P
    · rw [z, hP] at e
      cases e
      obtain ⟨more, em⟩ := hm
      exact ⟨more, by rw [z, upd_same, em]⟩
    · exact ⟨#[], by rw [upd_ne z, e]; simp⟩
  · have e3 : Vis sc y := e3
    rcases e3 with q | q | q
    · exact absurd q (hloc i y v e1 e2)
    · exact absurd rfl (hcell _ (PySem.mem_of_lookup q))
    · obtain ⟨m, _, hl⟩ := I1.loc
      have hv : Vis X.env.scope y := (hfree _ (PySem.mem_of_lookup q) rfl).elim (fun z => .inr (.inl z)) fun z => .inr (.inr z)
      obtain ⟨u, r, look⟩ := hl i y v e1 e2 hv
      refine ⟨u, r, .inr ⟨.inr q, ?_⟩⟩
      rcases look with ⟨z, _⟩ | ⟨_, c, hc, o, ho, hd⟩
      · have z : X.env.scope.names.lookup y = some .local := z
        rcases hfree _ (PySem.mem_of_lookup q) rfl with w | w
        · rw [show X.env.scope.names.lookup y = some .cell from w] at z
          cases z
        · rw [show X.env.scope.names.lookup y = some .free from w] at z
          cases z
      · exact ⟨c, NdefX.clo_has hf (PySem.mem_of_lookup q) hc, o, k c o (nP (I1.freeC y c hc)) ho, hd⟩
  · obtain ⟨v, o, ho, hd⟩ := I1.cell y c (cm e)
    exact ⟨v, o, k c o (nP (I1.freeC y c (cm e))) ho, hd⟩
  · show upd H1 P _ Lc = none
    rw [upd_ne (nP nL)]
    exact nL
  · rw [upd_ne (nP (I1.freeC y c (cm e)))]
    exact I1.freeC y c (cm e)
end HB


namespace HB
open PySem L2 PyProof.Rows PySem.Spec
def findD {α : Type} (enc : α → PyData) (p : α → Bool) (gs : List α) : PyData := match gs.find? p with
  | none => .none
  | some g => enc g
section
variable {X : Cx} {M : Mx} {Γ : Gm} {iter cnd : Expr} {x : Str} {px pe gp p1 pn pos : Pos} {sc : Scope} {α : Type} {enc : α → PyData} {p : α → Bool} {gs : List α} {j jn : Nat} {ca P : Addr} {k : Nat}
/-- next(g, None), g just made -/
theorem next_two {prog : Program} {w : World} {A : Around} {E : Value → Shared → Prop} {s : Shared} {a : Addr} {g : Nat} {Q : Value → Shared → Prop} (hg : s.heap.IsGen a g) (h : wpAny (model prog w) A.in1 (pyNext (.ref a)) (fun r s' => match r with
    | some v => Q v s'
    | none => Q .none s') E s) : wpAny (model prog w) A (PySem.call (.builtin "next") [.ref a, .none]) Q E s := by
  refine PySem.Calls.call_function_entry (by decide +kernel) (by decide +kernel) PySem.W.kdk_entry_next (PySem.W.kdk_args_next2 _ _) ?_
  unfold Builtin.«next»
  refine wpAny_bind (m := someArgs "next" 1 2 _) (wpAny_of_eq (a := [Value.ref a, .none]) (by first | rfl | kernel_rfl!) ?_)
  dsimp only
  refine wpAny_bind (wpAny_specialOf (name := Str.ofString "__next__") hg.typeIs slot_gen_next.lookup ?_)
  refine wpAny_ite_split (fun z => absurd z (by decide)) fun _ => ?_
  refine wpAny_bind (wpAny_mono h (fun r s' hq => ?_) fun _ _ e => e)
  cases r with
  | some v => exact wpAny_pure ⟨_, rfl, hq⟩
  | none => exact wpAny_pure ⟨_, rfl, hq⟩
theorem un_frs_lt {pins : List (Addr × Obj)} {σ : L2.St} {H : Hp} {s : Shared} (I : Inv X pins σ H s) {b : Addr} (h : b ∈ frs X.stack) : b < s.heap.objs.size := by
  rcases List.mem_cons.mp (I.stkSub _ h) with e | e
  · rw [e]
    exact I.lt
  · obtain ⟨_, o, ho, _⟩ := I.ok.funs.mem e
    exact Nat.lt_of_lt_of_le (Heap.lt_size ho) I.sz
theorem gen_fin {pins : List (Addr × Obj)} {σ : L2.St} {H1 : Hp} {s1 s5 : Shared} {ps ps' : Array Value} {a it la Lc : Addr} {g : Nat} {code : Value} (hr : Room (k + 3) X.A) (hP : (P, TabGc) ∈ M.ph)
    (hkind : sc.kind = .function) (hco : sc.isCoroutine = false) (hcell : ∀ y ∈ sc.names, y.2 ≠ .cell) (hx : sc.names.lookup x = some .local) (hfree : ∀ y ∈ sc.names, y.2 = .free → X.env.scope.names.lookup y.1 = some .cell ∨ X.env.scope.names.lookup y.1 = some .free)
    (hloc : ∀ y ∈ X.N, sc.names.lookup y = some .local → y = x) (hN : X.N.Nodup) (hj : X.N[j]? = some x) (hjΓ : Γ[j]? = some none) (hd1 : (x == ("__debug__" : Str)) = false) (hd2 : (x == ("__classdict__" : Str)) = false)
    (test : ∀ (A : Around) (s1 : Shared) (H1 : Hp) (Lc : Addr) (code : Value), Room k (A.deeper (genEnv sc (cloFrom X.env.cells sc.names []) Lc code builtinsNs X.env)) → ∀ g ∈ gs, C (gcx X A s1 H1 (genEnv sc (cloFrom X.env.cells sc.names []) Lc code builtinsNs X.env)) M (Γ.set j (some (D (enc g)))) cnd (· = p g))
    (hc : X.calm = true) (I1 : Inv X pins σ H1 s1) (l1 : HB.Loc M Γ σ H1) (hl : Rp M.ex H1 (.ref la) (.list (gs.map enc))) (eP : H1 P = some (.tbl ps)) (hm : ∃ more, ps' = ps ++ more) (ht : TriplesOk ps'.toList)
    (hos : s5.os = s1.os) (kp : ∀ b o, b ≠ P → s1.heap.get? b = some o → s5.heap.get? b = some o) (hP5 : s5.heap.get? P = some { cls := .none, data := .fields ps' }) (hb : AllBare s5.gens)
    (hgen : s5.heap.IsGen a g) (hgs : s5.gens[g]? = some (.fresh (.compStart (gexp (.Name x pe) iter cnd x px sc gp) 0 (.ref it) .none (genEnv sc (cloFrom X.env.cells sc.names []) Lc code builtinsNs X.env))))
    (tn : s5.heap.IsListIter it la 0) (hit : s1.heap.objs.size ≤ it) (hLc : s1.heap.objs.size ≤ Lc) (hns : s5.heap.Ns Lc (fun y => if y = ".0" then some (.ref it) else none)) :
    wpAny (model X.prog X.w) X.A (PySem.call (.builtin "next") [.ref a, .none]) (EP X pins σ fun v H' => St M H1 H' ∧ (D (findD enc p gs)).P M.ex v H') X.xe s5 := by
  have w1 := l1.hw
  have nP : ∀ {b}, H1 b = none → b ≠ P := fun {b} e z => by
    rw [z, eP] at e
    cases e
  have xP : M.ex P := (w1.ph _ hP).1
  have new : ∀ b, b ≠ P → upd H1 P (.tbl ps') b = H1 b := fun b h => upd_ne h
  have kk : Kp M.ex M.ex H1 (upd H1 P (.tbl ps')) := .of fun b o e n => ⟨by rw [new b fun z => n (by rw [z]; exact xP)]; exact e, n⟩
  have st2 : St M H1 (upd H1 P (.tbl ps')) := by
    refine ⟨fun b o e n => ?_, fun q hq => ?_, fun b o u e => ?_⟩
    · rw [new b fun z => n _ hP z.symm]
      exact e
    · by_cases z : q.1 = P
      · obtain rfl := w1.fn q hq _ hP z
        exact ⟨_, upd_same, ps', rfl, ht⟩
      · obtain ⟨_, o', e, f'⟩ := w1.ph q hq
        exact ⟨o', by rw [new q.1 z]; exact e, q.2.fr kk f'⟩
    · by_cases z : b = P
      · rw [z, upd_same] at e
        cases e
      · rw [new b z] at e
        exact e
  have n5 : s5.heap.NoLimit := by
    obtain ⟨mc, hns', hnn⟩ := I1.nolimit
    refine ⟨mc, hns'.at' fun o e => kp _ o (fun z => ?_) e, hnn⟩
    obtain ⟨o', es, ep, ho, hd, _⟩ := hns'
    rw [z, I1.hok P _ eP] at ho
    cases ho
    cases hd
  have J1 : Inv X pins (σ.set j none) H1 s1 := I1.weak (by rw [List.length_set]) fun i v e => by
    by_cases q : j = i
    · subst q
      rw [List.getElem?_set] at e
      split at e
      · split at e
        · cases e
        · cases e
      · exact e
    · rw [List.getElem?_set_ne q] at e
      exact e
  have lj : HB.Loc M Γ (σ.set j none) H1 := ⟨w1, by rw [List.length_set]; exact l1.len, fun i T e => by
    obtain ⟨v, ev, hv⟩ := l1.var i T e
    by_cases q : j = i
    · subst q
      rw [hjΓ] at e
      cases e
    · exact ⟨v, by rw [List.getElem?_set_ne q]; exact ev, hv⟩⟩
  obtain ⟨more, em⟩ := hm
  subst em
  have J5 : Inv X pins (σ.set j none) (upd H1 P (.tbl (ps ++ more))) (s5.setGen g .running) := by
    have := GxR.inv_tab (more := more) (h' := (s5.setGen g .running).heap) (g' := (s5.setGen g .running).gens) (d' := (s5.setGen g .running).drawn) (t' := (s5.setGen g .running).toks) J1 eP kp hP5 (allBare_setGen hb rfl)
    rw [GxR.sh_eta s1 (s5.setGen g .running) hos] at this
    exact this
  have nL : H1 Lc = none := I1.hok.fresh hLc
  have nit : H1 it = none := I1.hok.fresh hit
  have G5 : ∀ A : Around, A.frames = some X.stack → A.handled = none → Inv (gcx X A s1 H1 (genEnv sc (cloFrom X.env.cells sc.names []) Lc code builtinsNs X.env)) [] (σ.set j none) (upd H1 P (.tbl (ps ++ more))) (s5.setGen g .running) := fun A hf hh =>
    inv_gen J1 eP ⟨more, rfl⟩ J5 kp hkind hcell hfree hLc nL hns hf hh (fun i y v e1 e2 z => by
      have ey := hloc y (List.mem_iff_getElem?.mpr ⟨i, e1⟩) z
      subst ey
      have := nodup_ix hN e1 hj
      subst this
      rw [List.getElem?_set] at e2
      split at e2
      · split at e2 <;> cases e2
      · exact absurd rfl ‹¬ _›) hos
  have hsz : ∀ {b}, b < s1.heap.objs.size → b ≠ it := fun {b} h z => by
    rw [z] at h
    exact absurd (Nat.lt_of_lt_of_le h hit) (Nat.lt_irrefl _)
  have hLit : Lc ≠ it := fun z => by
    obtain ⟨o, rows, n, ho, dat, _⟩ := hns
    obtain ⟨o2, ho2, _, hd2⟩ := tn
    rw [z, ho2] at ho
    cases ho
    rw [hd2] at dat
    cases dat
  have hf : ∀ y ∈ sc.names, y.2 = .free → ∃ c, X.env.cells.lookup y.1 = some c := fun y hy e => (hfree y hy e).elim (fun z => I1.ok.has _ (.inl z)) fun z => I1.ok.has _ (.inr z)
  have fp : ∀ A : Around, FpOk (gcx X A s1 H1 (genEnv sc (cloFrom X.env.cells sc.names []) Lc code builtinsNs X.env)) [] (upd H1 P (.tbl (ps ++ more))) it := fun A => by
    refine ⟨by rw [new it (nP nit)]; exact nit, hLit.symm, fun z => ?_, .inr hit, fun y c e => ?_, fun q hq => by cases hq⟩
    · exact hsz (un_frs_lt I1 z) rfl
    · obtain ⟨v, o, ho, _⟩ := I1.cell y c (NdefX.clo_cm hf e)
      exact hsz (Heap.lt_size ho)
  refine next_two hgen ?_
  refine wpAny_pyNext_genexpQ (A := X.A.in1) (n := 1) (P := fun _ _ s₁ => GPost X X.A.in1.in1 s1 H1 (genEnv sc (cloFrom X.env.cells sc.names []) Lc code builtinsNs X.env) M H1 enc p gs none s₁) (Y := fun n s₀ v s kap => GPost X X.A.in1.in1 s1 H1 (genEnv sc (cloFrom X.env.cells sc.names []) Lc code builtinsNs X.env) M H1 enc p gs (some v) s) (I1.ok.hd hc) n5 (by have := hr.dp; have := X.A.in1; simp only [Around.in1]; omega) hgen hgs
    ⟨rfl, gen_start hN hj hx hco hd1 hd2 hjΓ (fun q hq => test _ _ _ _ _ ?_ q hq) (G5 _ I1.ok.frames (I1.ok.hd hc)) tn (fp _) (lj.st st2) ((HB.L (gs.map enc)).fr kk hl) st2⟩ (fun v s₁ gs' hbb hv => ?_) fun s₁ hp h' hk => ?_
  · exact ⟨I1.ok.hd hc, by have := hr.dp; show X.A.depth + 1 + 3 * k + 5 < _; omega, by have := hr.un; show X.A.units + 1 + 1 + 3 + 16 * k + 200 < _; omega⟩
  · obtain ⟨σ', H', J, st, y, q, ry, ef, hy⟩ := hv
    have I6 := I1.call' (s' := s₁.setGen g gs') (ch := []) J.os J.base J.hok (allBare_setGen J.bare hbb) (fun b z => absurd z (by simp))
    refine ⟨y, H', I6, ry, st, ?_⟩
    show Rp M.ex H' y (findD enc p gs)
    unfold findD
    rw [ef]
    exact hy
  · obtain ⟨σ', H', J, st, ef⟩ := hp
    have I6 := I1.call' (s' := s₁.setGen g .finished) (ch := []) J.os J.base J.hok (allBare_setGen J.bare rfl) (fun b z => absurd z (by simp))
    refine ⟨.non, H', I6.kept hk, rfl, st, ?_⟩
    show Rp M.ex H' .non (findD enc p gs)
    unfold findD
    rw [ef]
    exact .non
/-- the rule -/
theorem E.nextGen (hr : Room (k + 3) X.A) (hm : X.mg "next" = none) (TB : LamX.TabB X.base X.mg ca P) (hcode : X.env.code = .ref ca) (hP : (P, TabGc) ∈ M.ph) (hi : E X M Γ iter (HB.L (gs.map enc)))
    (hkind : sc.kind = .function) (hco : sc.isCoroutine = false) (hcell : ∀ y ∈ sc.names, y.2 ≠ .cell) (hdot : sc.names.lookup (".0" : Str) = some .local) (hx : sc.names.lookup x = some .local) (hfree : ∀ y ∈ sc.names, y.2 = .free → X.env.scope.names.lookup y.1 = some .cell ∨ X.env.scope.names.lookup y.1 = some .free)
    (hloc : ∀ y ∈ X.N, sc.names.lookup y = some .local → y = x) (hN : X.N.Nodup) (hj : X.N[j]? = some x) (hjΓ : Γ[j]? = some none) (hd1 : (x == ("__debug__" : Str)) = false) (hd2 : (x == ("__classdict__" : Str)) = false)
    (test : ∀ (A : Around) (s1 : Shared) (H1 : Hp) (Lc : Addr) (code : Value), Room k (A.deeper (genEnv sc (cloFrom X.env.cells sc.names []) Lc code builtinsNs X.env)) → ∀ g ∈ gs, C (gcx X A s1 H1 (genEnv sc (cloFrom X.env.cells sc.names []) Lc code builtinsNs X.env)) M (Γ.set j (some (D (enc g)))) cnd (· = p g))
    (hs : ∀ v, genFold iter X.env v = pure v) (hc : X.calm = true) (hg : Gl X "next" := by rfl) (he : starEach [gexp (.Name x pe) iter cnd x px sc gp, .Constant .none jn pn] X.env = (false, eval (gexp (.Name x pe) iter cnd x px sc gp) X.env) :: starEach [.Constant .none jn pn] X.env := by rfl) (hpl : (backTo pos (starEach [.Constant .none jn pn] X.env)).any (·.1) = false := by rfl) :
    E X M Γ (.Call (.Name "next" p1) [gexp (.Name x pe) iter cnd x px sc gp, .Constant .none jn pn] [] pos) (D (findD enc p gs)) := fun σ H l pins s I => by
  have hf : ∀ y ∈ sc.names, y.2 = .free → ∃ c, X.env.cells.lookup y.1 = some c := fun y hy e => (hfree y hy e).elim (fun z => I.ok.has _ (.inl z)) fun z => I.ok.has _ (.inr z)
  refine wpAny_Call_Name_kw (ld_blt I hg hm (show bootBuiltins "next" = some (.builtin "next") by decide +kernel) ?_ (by decide) (by decide))
  refine PyProof.Rows.callWith_builtin1 ?_ he hpl
  rw [he]
  show wpAny _ _ (spliced ((false, eval (gexp (.Name x pe) iter cnd x px sc gp) X.env) :: backTo pos (starEach [.Constant .none jn pn] X.env))) _ _ s
  refine Calls.spliced_cons (wpAny_GeneratorExp_make hco (closure_ok hf) hcell hdot hkind (by have := hr.dp; omega) ?_ hs)
  refine thn (hi σ H l pins s I) fun xv s1 ⟨v, H1, I1, r1, st1, hv⟩ => ?_
  obtain ⟨la, xs, ev, e, n, rr⟩ : ∃ la xs, v = .ref la ∧ H1 la = some (.lst xs) ∧ ¬ M.ex la ∧ RpAll M.ex H1 xs (gs.map enc) := by
    cases hv with
    | lst e n r => exact ⟨_, _, rfl, e, n, r⟩
  subst ev
  obtain rfl : xv = Value.ref la := r1
  obtain ⟨its, rv, pl, hz⟩ := I1.list (SqL.of e)
  have l1 := l.st st1
  have key : ∀ (Q : Value → Shared → Prop), (∀ oi : Obj, (s1.heap.push oi).IsListIter s1.heap.objs.size la 0 → Q (.ref s1.heap.objs.size) { s1 with heap := s1.heap.push oi }) → wpAny (model X.prog X.w) X.A (pyIter (.ref la)) Q X.xe s1 := fun Q h => wpAny_pyIter_list pl.isList (h _ ⟨_, Heap.get?_push_size _ rfl, rfl, rfl⟩)
  refine key _ fun oi tn0 => ⟨I1.nolimit.push oi, ?_⟩
  obtain ⟨xP, o, eP, ps, rfl, ht⟩ := l1.hw.ph _ hP
  have eP : H1 P = some (.tbl ps) := eP
  have atP : s1.heap.get? P = some { cls := .none, data := .fields ps } := I1.hok P _ eP
  have lowP : P < s1.heap.objs.size := Heap.lt_size atP
  have hP2 : (s1.heap.push oi).get? P = some { cls := .none, data := .fields ps } := Heap.get?_push_of_some _ atP
  have cd : PySem.W.CodeHd (s1.heap.push oi) ca P := TB.code.keeps fun b u e => Heap.get?_push_of_some _ (I1.bk b u e)
  have gc : ∀ (Q : Value → Shared → Prop), (∀ (code : Value) (h3 : Heap) (tk : Nat) (ps' : Array Value), Heap.ExtBut P (s1.heap.push oi) h3 → (s1.heap.push oi).objs.size ≤ h3.objs.size → h3.get? P = some { cls := .none, data := .fields ps' } → (∃ more, ps' = ps ++ more) → TriplesOk ps'.toList → Q code { s1 with heap := h3, toks := tk }) →
      wpAny (model X.prog X.w) X.A (genexprCode X.env gp (X.env.qual ++ "<genexpr>") sc) Q X.xe { s1 with heap := s1.heap.push oi } := fun Q cont => by
    cases hfd : codeAmong gp ps.toList with
    | none =>
      refine wpAny_genexprCodeX hcode (cd.code hP2 ht) (cd.tab hP2) hfd fun c' h' tk hx hge hlt hco' _ htab' _ => ?_
      obtain ⟨_, _, _, _, _, _, _, _, _, _, _, _, _, _, _, _, _, _, _, triples, _⟩ := hco'
      exact cont _ h' tk _ hx (Nat.le_trans hge (Nat.le_of_lt hlt)) htab'.2 ⟨_, rfl⟩ triples
    | some cv =>
      refine wpAny_genexprCode_hit hcode (cd.code hP2 ht) hfd ?_
      exact cont cv (s1.heap.push oi) s1.toks ps (Heap.ExtBut.refl _ _) (Nat.le_refl _) hP2 ⟨#[], by simp⟩ ht
  refine gc _ fun code h3 tk ps' hx3 hsz hP3 hmore ht3 => ?_
  have sz2 : (s1.heap.push oi).objs.size = s1.heap.objs.size + 1 := Heap.size_push ..
  have keep3 : ∀ b u, b ≠ P → s1.heap.get? b = some u → h3.get? b = some u := fun b u hb e => hx3 b u hb (Heap.get?_push_of_some _ e)
  obtain ⟨nsB, oB, e1, e2, e3, e4, e5, e6, e7, e8⟩ := TB.bm
  refine wpAny_builtinsFor (m := X.mg) (by rw [I1.ok.glob]; exact ((I1.mod.glob.keeps I1.bk).push oi).extBut hx3 TB.gP) e1 e2 (keep3 _ _ e4 (I1.bk _ _ e5)) e6 e7 e8 ?_
  intro h' hn' hs'
  show wpAny _ _ (spliced ((false, eval (.Constant .none jn pn) X.env) :: backTo pos (starEach [] X.env))) _ _ _
  refine Calls.spliced_cons (Constant_none ?_)
  refine Calls.spliced_nil ?_
  have hn2 : h'.Ns h3.objs.size (fun y => if y = ".0" then some (.ref s1.heap.objs.size) else none) := hn'
  have szh : h'.objs.size = h3.objs.size + 1 := by
    have := hs'.1
    rw [Heap.size_push] at this
    exact this
  have keep5 : ∀ (go : Obj) b u, b ≠ P → (s1.heap.push oi).get? b = some u → (h'.push go).get? b = some u := fun go b u hb e => by
    have h4 := hx3 b u hb e
    exact Heap.get?_push_of_some _ (hs'.extBut b u (Nat.ne_of_lt (Heap.lt_size h4)) (Heap.get?_push_of_some _ h4))
  have st1' := st1
  have kk : ∀ b o, b ≠ P → s1.heap.get? b = some o → h'.get? b = some o := fun b o hb e => by
    have h4 := keep3 b o hb e
    exact hs'.extBut b o (Nat.ne_of_lt (Heap.lt_size h4)) (Heap.get?_push_of_some _ h4)
  have tn1 : ∀ go : Obj, (h'.push go).IsListIter s1.heap.objs.size la 0 := fun go => by
    obtain ⟨o, ho, r⟩ := tn0
    exact ⟨o, keep5 go _ o (Nat.ne_of_gt lowP) ho, r⟩
  refine wpAny_mono (gen_fin (iter := iter) (px := px) (pe := pe) (gp := gp) (P := P) (ps := ps) (ps' := ps') (it := s1.heap.objs.size) (la := la) (Lc := h3.objs.size) (g := s1.gens.size) (code := code) hr hP hkind hco hcell hx hfree hloc hN hj hjΓ hd1 hd2 test hc I1 l1 (.lst e n rr) eP hmore ht3 rfl (fun b o hb e => Heap.get?_push_of_some _ (kk b o hb e)) ?_ (I1.bare.push rfl) ⟨_, _, _, Heap.get?_push_size _ rfl, rfl, rfl, rfl⟩ ?_ ?_ (Nat.le_refl _) ?_ ?_) (fun u s' q => ?_) fun _ _ q => q
  · exact Heap.get?_push_of_some _ (hs'.extBut P _ (Nat.ne_of_lt (Heap.lt_size hP3)) (Heap.get?_push_of_some _ hP3))
  · exact Array.getElem?_push_size
  · exact tn1 _
  · omega
  · exact hn2.push _
  · obtain ⟨v, H', J, r, st, hv⟩ := q
    exact ⟨v, H', J, r, st1.trans st, hv⟩
end
end HB


namespace HB
open PySem L2 PyProof.Rows PySem.Spec
section
variable {P : Program} {w : World} {K : PySem.W.Frag} {mg : Str → Option Value} {base : Heap} {Cw Cc cl cg Pl Pg : Addr} {tl : Ph}
def ogS : Scope := { kind := .function, names := [(".0", .local), ("group", .local), ("charge", .free), ("pays_over", .globalImplicit)], isGenerator := true, isCoroutine := false }
theorem over_body : ∃ p1 pe q1 q2 q3 q4 q5 q6 q7 q8 px gp pn pos pr, defBody s_over_group = [.Return (some (.Call (.Name "next" p1) [gexp (.Name "group" pe) (.Call (.Name "loose_in" q1) [.Name "web" q2] [] q3) (.Call (.Name "pays_over" q4) [.Name "charge" q5, .Name "group" q6, .Constant (.int 1) 0 q7] [] q8) "group" px ogS gp, .Constant .none 0 pn] [] pos)) pr] := ⟨_, _, _, _, _, _, _, _, _, _, _, _, _, _, _, rfl⟩
theorem overD_find (wb : Wb) (ps : Py) (u : Int) : overD wb ps u = findD gr (fun g => decide (u < paid ps g)) (looseL wb) := by
  unfold overD findD overG
  cases (looseL wb).find? _ <;> rfl
theorem ok_over_group (g : Gs K mg) (kw : Gc K Cw webF) (kc : Gc K Cc chF) (dl : Dc K mg "loose_in" cl) (TBl : LamX.TabB base mg cl Pl) (hPl : (Pl, TabC ql) ∈ tl) (dc : Dc K mg "over_group" cg) (TB : LamX.TabB base mg cg Pg) (hPg : (Pg, TabGc) ∈ tl) : Ok P w K mg base 8 "over_group" ["web", "charge"] (pm_over_group Cw Cc tl) := by
  refine Ok.ofC (k := 7) (g.df _ 53) dc sc_over_group (fun _ => rfl) (fun _ _ _ _ _ _ us hl => match us, hl with | [_, _], _ => rfl) fun ⟨c, wb, ps, u⟩ f A outer s H Ex ex lk En hp hlk hr hR hn => ?_
  obtain ⟨h1, h2⟩ := hp
  have h1 : Wf wb := h1
  have h2 : ps.map (·.1) = wb.1 := h2
  obtain ⟨lf, ll⟩ := loose_facts (w := wb) (by have := h1.len; omega)
  obtain ⟨p1, pe, q1, q2, q3, q4, q5, q6, q7, q8, px, gp, pn, pos, pr, eb⟩ := over_body
  rw [eb]
  refine B.ret hR (Le.refl _) ?_
  show E _ _ _ _ (D (overD wb ps u))
  rw [overD_find]
  refine E.nextGen (k := 4) (ca := cg) (P := Pg) (j := 2) hr (g.bi "next") TB rfl hPg ?_ rfl rfl (by decide +kernel) rfl rfl ?_ ?_ sc_over_group.nd rfl rfl (by decide +kernel) (by decide +kernel) (fun A1 s1 H1 Lc code hr1 gg hg => ?_) (fun v => rfl) rfl
  · exact show E _ _ _ _ ((pm_loose_in Cw tl).res (c, wb)) from E.ok (ok_loose_in g kw dl TBl hPl) hr (c, wb) h1 (.cons (E.var (T := webT Cw c wb) 0) .nil)
  · intro y hy e
    have key : (ogS.names.all fun y => !decide (y.2 = .free) || decide ((defScope s_over_group).names.lookup y.1 = some .cell)) = true := by decide +kernel
    have := List.all_eq_true.mp key y hy
    rw [e] at this
    have z : (defScope s_over_group).names.lookup y.1 = some .cell := by simpa using this
    exact .inl z
  · intro y hy e
    have key : (N_over_group.all fun y => !decide (ogS.names.lookup y = some .local) || decide (y = "group")) = true := by decide +kernel
    have := List.all_eq_true.mp key y hy
    rw [e] at this
    simpa using this
  have sub := (lf gg hg).2
  exact C.valB (E.ok (ok_pays_over g kc) hr1 (wb.1, ps, u, gg) ⟨fun x hx => by show x ∈ ps.map (·.1); rw [h2]; exact sub.subset hx, by show gg.length ≤ 100; have := sub.length_le; have := h1.len; omega⟩ (.cons (E.var (T := chT Cc wb.1 ps u) 1) (.cons (E.var (T := D (gr gg)) 2) (.cons E.int .nil))))
end
end HB


namespace HB
open PySem L2 PyProof.Rows PySem.Spec
/-- a known dict -/
def SoftF (H : Hp) (b : Addr) : Prop := ∃ o u, H b = some (.frz o u) ∧ HB.soft u = true
open Classical in
/-- known dicts forgotten -/
noncomputable def cut (H : Hp) : Hp := fun b => if SoftF H b then none else H b
open Classical in
/-- known dicts put back -/
noncomputable def paste (H H1 : Hp) : Hp := fun b => if SoftF H b then H b else H1 b
section
variable {P : Program} {w : World} {K : PySem.W.Frag} {mg : Str → Option Value} {base : Heap} {H H1 : Hp} {h h' : Heap} {b : Addr}
theorem cut_soft (e : SoftF H b) : cut H b = none := if_pos e
theorem cut_hard (e : ¬ SoftF H b) : cut H b = H b := if_neg e
theorem paste_soft (e : SoftF H b) : paste H H1 b = H b := if_pos e
theorem paste_hard (e : ¬ SoftF H b) : paste H H1 b = H1 b := if_neg e
theorem cut_none (e : H b = none) : cut H b = none := by
  by_cases z : SoftF H b
  · exact cut_soft z
  · rw [cut_hard z]
    exact e
theorem cut_some {u : HO} (e : cut H b = some u) : H b = some u ∧ ¬ SoftF H b := by
  by_cases z : SoftF H b
  · rw [cut_soft z] at e
    cases e
  · rw [cut_hard z] at e
    exact ⟨e, z⟩
theorem cut_keep {u : HO} (e : H b = some u) (n : ∀ o v, u = .frz o v → HB.soft v = false) : cut H b = some u := by
  have z : ¬ SoftF H b := fun ⟨o, v, e2, sv⟩ => by
    rw [e] at e2
    have := n o v (Option.some.inj e2)
    rw [sv] at this
    cases this
  rw [cut_hard z]
  exact e
theorem cut_ok (k : HOk P w H h) : HOk P w (cut H) h := fun b u e => by
  obtain ⟨e, _⟩ := cut_some e
  exact (k b u e).stay (fun _ _ _ z => z) (fun d z => cut_keep z fun o v q => by cases q) fun d xs z => cut_keep z fun o v q => by cases q
theorem paste_un {fs : List Addr} (un : Un fs [] (cut H) H1 h h') : Un fs [] H (paste H H1) h h' := by
  have back : ∀ {b u}, H b = some u → (∀ o v, u = .frz o v → HB.soft v = false) → ∀ u', H1 b = some u' → paste H H1 b = some u' := fun {b u} e n u' e' => by
    have z : ¬ SoftF H b := fun ⟨o, v, e2, sv⟩ => by
      rw [e] at e2
      have := n o v (Option.some.inj e2)
      rw [sv] at this
      cases this
    rw [paste_hard z]
    exact e'
  refine ⟨fun b o e n hb hx => un.keep b o e (cut_none n) hb hx, fun b o e n hb hx => un.slot b o e (cut_none n) hb hx, fun b o e n hx => ?_, un.there, fun b xs e => ?_, fun b o u e => ?_, fun b ps e => ?_⟩
  · rw [paste_hard fun ⟨o, v, e2, _⟩ => by rw [n] at e2; cases e2]
    exact un.free b o e (cut_none n) hx
  · exact back e (fun o v q => by cases q) _ (un.tups b xs (cut_keep e fun o v q => by cases q))
  · by_cases z : SoftF H b
    · rw [paste_soft z]
      exact e
    · rw [paste_hard z]
      exact un.frzs b o u (by rw [cut_hard z]; exact e)
  · obtain ⟨more, q⟩ := un.tbls b ps (cut_keep e fun o v q => by cases q)
    exact ⟨more, back e (fun o v q => by cases q) _ q⟩
theorem paste_ok {fs : List Addr} (k : HOk P w H h) (un : Un fs [] (cut H) H1 h h') (k1 : HOk P w H1 h') (nf : ∀ b ∈ fs, H b = none) : HOk P w (paste H H1) h' := fun b u e => by
  have U := paste_un un
  by_cases z : SoftF H b
  · rw [paste_soft z] at e
    obtain ⟨o, v, e2, sv⟩ := z
    rw [e2] at e
    cases e
    obtain ⟨g, ok⟩ := k b _ e2
    have g' : h'.get? b = some o := un.keep b o g (cut_soft ⟨o, v, e2, sv⟩) (fun q => by rw [nf b q] at e2; cases e2) (by simp)
    refine ⟨g', ?_⟩
    cases v with
    | dK kvs =>
      obtain ⟨c1, c2, vs, c3, ob, es, ep, c4, c5⟩ := ok
      rw [g] at c4
      cases c4
      exact ⟨c1, c2, vs, c3, o, es, ep, g', c5⟩
    | dT kvs =>
      obtain ⟨c1, c2, xs, c3, ob, es, ep, c4, c5⟩ := ok
      rw [g] at c4
      cases c4
      exact ⟨c1, c2, xs, Paired.mapP c3 fun p q z => ⟨z.1, U.tups _ _ z.2.1, z.2.2⟩, o, es, ep, g', c5⟩
    | _ => cases sv
  · rw [paste_hard z] at e
    have back : ∀ {d u}, H1 d = some u → paste H H1 d = some u := fun {d u} e => by
      by_cases q : SoftF H d
      · obtain ⟨o, v, e2, sv⟩ := q
        obtain ⟨g, _⟩ := k d _ e2
        have := un.free d o g (cut_soft ⟨o, v, e2, sv⟩) (by simp)
        rw [this] at e
        cases e
      · rw [paste_hard q]
        exact e
    exact (k1 b u e).stay (fun _ _ _ z => z) (fun d z => back z) fun d xs z => back z
/-- the promise at the head: a script, empty tables -/
def topSp (K : PySem.W.Frag) (cs : List (Addr × Addr)) : Sp := fun vs H Q _ => ∃ (a : Addr) (ns : List Int), vs = [.ref a] ∧ ns.length ≤ 63 ∧ SqL K H a (ns.map V.int) ∧ (∀ p ∈ cs, H p.2 = some (.tbl #[])) ∧ ∀ H', Q (.bl true) H'
theorem top_fn {f cl cg Pl Pg : Addr} {fd : FuncData} (ne : Pl ≠ Pg) (F : FnOk P w K mg base CX0 16 f fd ["_law_script"] (pm_law K [(Pl, TabC ql), (Pg, TabGc)]).sp) : FnOk P w K mg base CX0 16 f fd ["_law_script"] (topSp K [(cl, Pl), (cg, Pg)]) := by
  refine ⟨fun vs H Q E ⟨a, ns, e, _⟩ => by rw [e]; rfl, fun A outer s H args us vs Q E hr e0 hb hv ⟨a, ns, ev, hl, hS, hT, hQ⟩ => ?_⟩
  subst ev
  have tP : H Pl = some (.tbl #[]) := hT (cl, Pl) (by simp)
  have tG : H Pg = some (.tbl #[]) := hT (cg, Pg) (by simp)
  have cP : cut H Pl = some (.tbl #[]) := cut_keep tP fun o v q => by cases q
  have cG : cut H Pg = some (.tbl #[]) := cut_keep tG fun o v q => by cases q
  let ex : Ads := fun b => b = Pl ∨ b = Pg
  have e1 : Env0 P w K mg base A outer s (cut H) := ⟨e0.frames, e0.mod, fun b o e => ⟨(e0.bs b o e).1, cut_none (e0.bs b o e).2⟩, e0.bsz, e0.funs, fun b hb => cut_none (e0.frf b hb), cut_ok e0.hok, e0.bare⟩
  have fP : (TabC ql).P ex (cut H) (.tbl #[]) := ⟨#[], rfl, trivial, fun p' cv z => by cases z⟩
  have fG : TabGc.P ex (cut H) (.tbl #[]) := ⟨#[], rfl, trivial⟩
  have w1 : Hw (Mf ex [(Pl, TabC ql), (Pg, TabGc)] [] (cut H)) (cut H) := by
    refine ⟨fun b z => ?_, fun p hp q hq e => ?_, fun p hp => ?_, fun p hp => (by cases hp), List.Pairwise.nil, fun b o e _ => e, fun b hb => (by cases hb), fun b o u e => e, fun b o u e su => ?_⟩
    · rcases z with z | z
      · rw [z]
        exact ⟨_, cP, fun xs q => by cases q⟩
      · rw [z]
        exact ⟨_, cG, fun xs q => by cases q⟩
    · have hp : p ∈ [(Pl, TabC ql), (Pg, TabGc)] := hp
      have hq : q ∈ [(Pl, TabC ql), (Pg, TabGc)] := hq
      simp only [List.mem_cons, List.not_mem_nil, or_false] at hp hq
      rcases hp with rfl | rfl <;> rcases hq with rfl | rfl
      · rfl
      · exact absurd e ne
      · exact absurd e.symm ne
      · rfl
    · have hp : p ∈ [(Pl, TabC ql), (Pg, TabGc)] := hp
      simp only [List.mem_cons, List.not_mem_nil, or_false] at hp
      rcases hp with rfl | rfl
      · exact ⟨.inl rfl, _, cP, fP⟩
      · exact ⟨.inr rfl, _, cG, fG⟩
    · obtain ⟨e2, z⟩ := cut_some e
      exact absurd ⟨o, u, e2, su⟩ z
  have na : ∀ {o : HO}, H a = some o → (∀ q, o ≠ .tbl q) → ¬ ex a := fun {o} e n z => by
    rcases z with z | z
    · rw [z, tP] at e
      exact n _ (Option.some.inj e).symm
    · rw [z, tG] at e
      exact n _ (Option.some.inj e).symm
  have sc : (Scr K ns).P ex (.ref a) (cut H) := by
    refine ⟨a, rfl, ?_⟩
    rcases hS with (z | ⟨o, z⟩) | z
    · exact .inl ⟨na z (fun q e => by cases e), cut_keep z (fun o v q => by cases q)⟩
    · exact .inr (.inl ⟨na z (fun q e => by cases e), o, cut_keep z (fun o v q => by cases q; rfl)⟩)
    · exact .inr (.inr z)
  refine codeAny_mono (F.run A outer s (cut H) args us [.ref a] (fun v _ => v = .bl true) E hr e1 hb hv ⟨ns, ex, [], hl, w1, fun _ => rfl, .cons sc .nil, fun v H' _ hr => ?_⟩) fun r s' q => ?_
  · have hr : (Bo true).P ex v H' := hr
    cases hr
    rfl
  · cases r with
    | error e => exact (show False from q).elim
    | ok fl =>
      cases fl with
      | next => exact False.elim q
      | brk => exact False.elim q
      | cont => exact False.elim q
      | ret u =>
        obtain ⟨v, H', os, bare, un, hok, r', hv'⟩ := q
        have hv' : v = .bl true := hv'
        subst hv'
        exact ⟨_, paste H H', os, bare, paste_un un, paste_ok e0.hok un hok e0.frf, r', hQ _⟩
end
end HB


namespace HB
open PySem L2 PyProof.Rows PySem.Spec
def dfn (q : Str × Nat) : He.DefD := { at_ := (q.1, none), name := q.1, qual := q.1, params := defArgs (top q.2), body := defBody (top q.2), scope := defScope (top q.2) }
def d_wi : He.DefD := { at_ := ("Web", some "__init__"), name := "__init__", qual := "Web.__init__", params := defArgs s_web_init, body := defBody s_web_init, scope := defScope s_web_init }
def d_wc : He.DefD := { at_ := ("Web", some "__contains__"), name := "__contains__", qual := "Web.__contains__", params := defArgs s_web_contains, body := defBody s_web_contains, scope := defScope s_web_contains }
def d_pi : He.DefD := { at_ := ("Pays", some "__init__"), name := "__init__", qual := "Pays.__init__", params := defArgs s_pays_init, body := defBody s_pays_init, scope := defScope s_pays_init }
def d_ci : He.DefD := { at_ := ("Charge", some "__init__"), name := "__init__", qual := "Charge.__init__", params := defArgs s_charge_init, body := defBody s_charge_init, scope := defScope s_charge_init, kwd := [("unit", .int 1)] }
def d_cc : He.DefD := { at_ := ("Charge", some "__contains__"), name := "__contains__", qual := "Charge.__contains__", params := defArgs s_charge_contains, body := defBody s_charge_contains, scope := defScope s_charge_contains }
def d_cg : He.DefD := { at_ := ("Charge", some "__getitem__"), name := "__getitem__", qual := "Charge.__getitem__", params := defArgs s_charge_getitem, body := defBody s_charge_getitem, scope := defScope s_charge_getitem }
def d_cs : He.DefD := { at_ := ("Charge", some "__str__"), name := "__str__", qual := "Charge.__str__", params := defArgs s_charge_str, body := defBody s_charge_str, scope := defScope s_charge_str }
def metL : List He.DefD := [d_wi, d_wc, d_pi, d_ci, d_cc, d_cg, d_cs]
def fnL : List He.DefD := fnTab.map dfn ++ metL
def moreFa : List He.Fa := [.int "GREATEST" (10 ^ 60 - 1), .int "MAX_NAME" 8, .int "MAX_THINGS" 8, .glo "Web", .glo "Charge", .glo "Pays", .cls "Web", .cls "Charge", .cls "Pays", .mkr "Web", .mkr "Charge", .mkr "Pays", .meth "Web" "__contains__", .meth "Charge" "__contains__", .meth "Charge" "__getitem__", .meth "Charge" "__str__"]
def faL : List He.Fa := fnTab.map (fun q => .glo q.1) ++ biTab.map .free ++ webF.map (.noat "Web") ++ chF.map (.noat "Charge") ++ payF.map (.noat "Pays") ++ moreFa
def tfL : List He.Defn := [("loose_in", none), ("over_group", none)]
def isB (K : PySem.W.Frag) (C : Addr) : Bool := decide (PySem.W.findIn K (.ref C) "__class__" = some (some (.builtin "object.__class__"))) && (decide (PySem.W.specialIn K (.builtin "object.__class__") "__get__" = some (some (.builtin "getset_descriptor.__get__"))) && (decide (PySem.W.takesIn K (.builtin "object.__class__") = some true) && decide (PySem.W.mroIn K C (.type "object") = some true)))
def kitL : List String := ["NoneType", "int", "dict", "str", "list"]
def exL (K : PySem.W.Frag) : Bool := isB K (He.ga K "Web") && (isB K (He.ga K "Charge") && (decide (PySem.W.kitOne K (.type "dict") (.ref (He.ga K "Pays")) = some false) && ((kitL.all fun t => decide (PySem.W.kitOne K (.type t) (.ref (He.ga K "Charge")) = some false)) && decide ((He.cT K ("loose_in", none)).2 ≠ (He.cT K ("over_group", none)).2))))
section
variable {K : PySem.W.Frag} {mg : Str → Option Value} {h : Heap} {w : World}
theorem isB_ok {C : Addr} (cl : Cls K C) (e : isB K C = true) : IsC K C := by
  obtain ⟨e1, e⟩ := He.ba e
  obtain ⟨e2, e⟩ := He.ba e
  obtain ⟨e3, e4⟩ := He.ba e
  exact ⟨cl, of_decide_eq_true e1, of_decide_eq_true e2, of_decide_eq_true e3, of_decide_eq_true e4⟩
theorem funD_code {x qual : Str} {params : Arguments} {body : List Stmt} {scope : Scope} {dvs : List V} {kws : List (Str × V)} {p : Str × Option Str} {fd : FuncData} (F : FunD K x qual params body scope dvs kws (He.fAd K p) fd) : fd.code = .ref (He.codeOf K p) ∧ PySem.W.fnIn K (He.fAd K p) = true ∧ ∀ (oc : Value) (od : Option Addr) (fd' : FuncData) (osl : Array (Option Value)), K.lookup (He.fAd K p) = some ⟨oc, od, .func fd', osl⟩ → fd' = fd := by
  obtain ⟨oc, od, dV, kV, doc, pm, an, cdv, ct, osl, e, lk, hcd, _, _⟩ := F.ex
  obtain ⟨c, rfl⟩ := He.codeIn_ref hcd
  have ec : fd.code = .ref c := by rw [e]
  refine ⟨by rw [ec, He.codeOf_eq lk ec], ?_, fun oc' od' fd' osl' lk' => ?_⟩
  · unfold PySem.W.fnIn
    rw [lk]
  · rw [lk] at lk'
    injection lk' with z
    injection z with z1 z2 z3 z4
    injection z3 with z3
    exact z3.symm
theorem dc_of {x qual : Str} {params : Arguments} {body : List Stmt} {scope : Scope} {dvs : List V} {kws : List (Str × V)} {fd : FuncData} (F : FunD K x qual params body scope dvs kws (He.fAd K (x, none)) fd) (e : mg x = some (.ref (He.ga K x))) : Dc K mg x (He.cT K (x, none)).1 := ⟨fun f oc od fd' osl e1 lk => by
  rw [e] at e1
  cases e1
  rw [(funD_code F).2.2 oc od fd' osl lk]
  exact (funD_code F).1⟩
theorem fx_of (X : K.In h) (G : h.Ns mainGlobals mg) (c : He.SaysX faL fnL [] tfL exL w h K) : Fx K mg (He.ga K "Web") (He.ga K "Charge") (He.ga K "Pays") := by
  have cd := c.t.d
  have fa : ∀ {f : He.Fa}, f ∈ faL → f.ok K = true := fun hf => cd.facts hf
  have mo : ∀ {f : He.Fa}, f ∈ moreFa → f ∈ faL := fun hf => List.mem_append_right _ hf
  have more := c.more
  obtain ⟨m1, more⟩ := He.ba more
  obtain ⟨m2, more⟩ := He.ba more
  obtain ⟨m3, more⟩ := He.ba more
  obtain ⟨m4, _⟩ := He.ba more
  have cw : Cls K (He.ga K "Web") := He.cls_ok (fa (mo (by simp [moreFa])))
  have cc : Cls K (He.ga K "Charge") := He.cls_ok (fa (mo (by simp [moreFa])))
  have cp : Cls K (He.ga K "Pays") := He.cls_ok (fa (mo (by simp [moreFa])))
  have df : ∀ {d : He.DefD}, d ∈ metL → ∃ fd, FunD K d.name d.qual d.params d.body d.scope (d.dvs K) (d.kws K) (He.fAd K d.at_) fd := fun hd => cd.defs (List.mem_append_right _ hd)
  refine ⟨⟨fun x hx => He.free_ok X G (fa ?_), fun q hq => ?_⟩, ⟨He.int_ok X G (fa (mo (by simp [moreFa]))), He.int_ok X G (fa (mo (by simp [moreFa]))), He.int_ok X G (fa (mo (by simp [moreFa])))⟩, ⟨cw, fun f hf => He.noat_ok (fa ?_)⟩, ⟨cc, fun f hf => He.noat_ok (fa ?_)⟩, ⟨cp, fun f hf => He.noat_ok (fa ?_)⟩, isB_ok cw m1, isB_ok cc m2, He.glo_ok X G (fa (mo (by simp [moreFa]))), He.glo_ok X G (fa (mo (by simp [moreFa]))), He.glo_ok X G (fa (mo (by simp [moreFa]))), of_decide_eq_true m3, fun t ht => of_decide_eq_true (List.all_eq_true.mp m4 t ht), ?_, ?_, ?_, ?_, ?_, ?_, ?_⟩
  · exact List.mem_append_left _ (List.mem_append_left _ (List.mem_append_left _ (List.mem_append_left _ (List.mem_append_right _ (List.mem_map.mpr ⟨x, hx, rfl⟩)))))
  · obtain ⟨fd, F⟩ := cd.defs (d := dfn q) (List.mem_append_left _ (List.mem_map.mpr ⟨q, hq, rfl⟩))
    exact ⟨_, fd, He.glo_ok X G (fa (List.mem_append_left _ (List.mem_append_left _ (List.mem_append_left _ (List.mem_append_left _ (List.mem_append_left _ (List.mem_map.mpr ⟨q, hq, rfl⟩))))))), F⟩
  · exact List.mem_append_left _ (List.mem_append_left _ (List.mem_append_left _ (List.mem_append_right _ (List.mem_map.mpr ⟨f, hf, rfl⟩))))
  · exact List.mem_append_left _ (List.mem_append_left _ (List.mem_append_right _ (List.mem_map.mpr ⟨f, hf, rfl⟩)))
  · exact List.mem_append_left _ (List.mem_append_right _ (List.mem_map.mpr ⟨f, hf, rfl⟩))
  · obtain ⟨fd, F⟩ := df (d := d_wi) (by simp [metL])
    exact ⟨_, fd, He.mkr_ok (fa (mo (by simp [moreFa]))), F⟩
  · obtain ⟨fd, F⟩ := df (d := d_wc) (by simp [metL])
    exact ⟨_, fd, He.meth_ok (fa (mo (by simp [moreFa]))), (funD_code (p := d_wc.at_) F).2.1, F⟩
  · obtain ⟨fd, F⟩ := df (d := d_pi) (by simp [metL])
    exact ⟨_, fd, He.mkr_ok (fa (mo (by simp [moreFa]))), F⟩
  · obtain ⟨fd, F⟩ := df (d := d_ci) (by simp [metL])
    exact ⟨_, fd, He.mkr_ok (fa (mo (by simp [moreFa]))), F⟩
  · obtain ⟨fd, F⟩ := df (d := d_cc) (by simp [metL])
    exact ⟨_, fd, He.meth_ok (fa (mo (by simp [moreFa]))), (funD_code (p := d_cc.at_) F).2.1, F⟩
  · obtain ⟨fd, F⟩ := df (d := d_cg) (by simp [metL])
    exact ⟨_, fd, He.meth_ok (fa (mo (by simp [moreFa]))), (funD_code (p := d_cg.at_) F).2.1, F⟩
  · obtain ⟨fd, F⟩ := df (d := d_cs) (by simp [metL])
    exact ⟨_, fd, He.meth_ok (fa (mo (by simp [moreFa]))), (funD_code (p := d_cs.at_) F).2.1, F⟩
theorem law_at {P : Program} {f : Addr} (X : K.In h) (G : h.Ns mainGlobals mg) (hf : mg ("law" : Str) = some (.ref f)) (c : He.SaysX faL fnL [] tfL exL w h K) :
    ∃ fd : FuncData, (∀ (s : Shared) (v : Value), BindsTo s fd ⟨[v], []⟩ [("_law_script", v)]) ∧ ∀ base : Heap, K.In base → base.Ns mainGlobals mg → (∀ p ∈ tfL.map (He.cT K), LamX.TabB base mg p.1 p.2) → FnOk P w K mg base CX0 16 f fd ["_law_script"] (topSp K (tfL.map (He.cT K))) := by
  have x := fx_of X G c
  have cd := c.t.d
  have glo : ∀ q ∈ fnTab, mg q.1 = some (.ref (He.ga K q.1)) := fun q hq => He.glo_ok X G (cd.facts (f := .glo q.1) (List.mem_append_left _ (List.mem_append_left _ (List.mem_append_left _ (List.mem_append_left _ (List.mem_append_left _ (List.mem_map.mpr ⟨q, hq, rfl⟩)))))))
  have dfd : ∀ q ∈ fnTab, ∃ fd, FunD K q.1 q.1 (defArgs (top q.2)) (defBody (top q.2)) (defScope (top q.2)) [] [] (He.fAd K (q.1, none)) fd := fun q hq => by
    obtain ⟨fd, F⟩ := cd.defs (d := dfn q) (List.mem_append_left _ (List.mem_map.mpr ⟨q, hq, rfl⟩))
    exact ⟨fd, F⟩
  have iL : (("law", 95) : Str × Nat) ∈ fnTab := by decide +kernel
  have il : (("loose_in", 46) : Str × Nat) ∈ fnTab := by decide +kernel
  have io : (("over_group", 53) : Str × Nat) ∈ fnTab := by decide +kernel
  obtain ⟨fd, F⟩ := dfd _ iL
  obtain ⟨fl, Fl⟩ := dfd _ il
  obtain ⟨fo, Fo⟩ := dfd _ io
  have ef := hf.symm.trans (glo _ iL)
  cases ef
  have dl := dc_of Fl (glo _ il)
  have dg := dc_of Fo (glo _ io)
  have ne := of_decide_eq_true (He.ba (He.ba (He.ba (He.ba c.more).2).2).2).2
  have b := FunD.bindsA (ps := ["_law_script"]) F fun _ _ _ _ _ _ us hl => match us, hl with | [_], _ => rfl
  refine ⟨fd, fun s v => b s [v] rfl, fun base Xb Gb TB => ?_⟩
  have Tl := TB (He.cT K ("loose_in", none)) (by simp [tfL])
  have Tg := TB (He.cT K ("over_group", none)) (by simp [tfL])
  exact top_fn ne (ok_law F x ((ok_loose_in x.g x.kw dl Tl List.mem_cons_self).mono (by decide)) (ok_over_group x.g x.kw x.kc dl Tl List.mem_cons_self dg Tg (List.mem_cons_of_mem _ List.mem_cons_self)))
end
end HB


namespace HBTop
open PySem PySem.Spec PyProof.Rows L2 HB
def ln0 : List Str := [("_wall" : Str), ("__name__" : Str), ("BillError" : Str), ("InvalidWeb" : Str), ("InvalidGroup" : Str), ("InvalidCharge" : Str), ("InvalidOperation" : Str), ("InvalidNumber" : Str), ("UnknownName" : Str), ("MAX_NAME" : Str), ("MAX_THINGS" : Str), ("GREATEST" : Str), ("is_integer" : Str), ("is_name" : Str), ("divisor_of" : Str), ("lowest_of" : Str), ("text_of" : Str), ("are_names" : Str), ("is_conflict" : Str), ("are_conflicts" : Str), ("Web" : Str), ("partners_of" : Str), ("part_of" : Str), ("is_group_of" : Str), ("require_web" : Str)]
def ln1 : List Str := [("require_thing" : Str), ("require_group" : Str), ("are_pays" : Str), ("greatest_common" : Str), ("Pays" : Str), ("checked_pays" : Str), ("Charge" : Str), ("charge_with" : Str), ("joint_charge" : Str), ("sum_of" : Str), ("require_share" : Str), ("require_like" : Str), ("is_charge_of" : Str), ("require_charge_of" : Str), ("all_groups" : Str), ("groups_in" : Str), ("grown_from" : Str), ("loose_in" : Str), ("can_grow" : Str), ("first_rooms" : Str), ("left_of" : Str), ("colours_of" : Str), ("pays_over" : Str), ("over_group" : Str), ("excess_of" : Str)]
def ln2 : List Str := [("excess" : Str), ("is_within" : Str), ("objection" : Str), ("objections" : Str), ("worst" : Str), ("_law_pot" : Str), ("_law_stir" : Str), ("_law_one_of" : Str), ("_law_shuffled" : Str), ("_law_some_of" : Str), ("_law_words" : Str), ("_law_all_pairs" : Str), ("_law_plain" : Str), ("_law_by_chance" : Str), ("_law_with_sides" : Str), ("_law_grown_web" : Str), ("_law_around" : Str), ("_law_knotty" : Str), ("_law_two_webs" : Str), ("_law_nearly" : Str), ("_law_web" : Str), ("_law_told_web" : Str), ("_law_number" : Str), ("_law_sums" : Str), ("_law_made_charge" : Str)]
def ln3 : List Str := [("_law_top_knots" : Str), ("_law_knot_shares" : Str), ("_law_bill_near" : Str), ("_law_are_tied" : Str), ("_law_all_groups" : Str), ("_law_is_loose" : Str), ("_law_is_knot" : Str), ("_law_colour_table" : Str), ("_law_low" : Str), ("_law_loose_of" : Str), ("_law_paid" : Str), ("_law_case" : Str), ("_law_worst" : Str), ("_law_right" : Str)]
def looseN : List Str := ln0 ++ (ln1 ++ (ln2 ++ (ln3)))
abbrev R : PySem.W.OpenRow := PySem.W.OpenLaw.row PySem.Challenge.rw_huebill_k11_whole_excesses
def nextA (g : Addr → Option Obj) (as : List Addr) : List Addr := as.flatMap fun a => match g a with
  | some o => He.refsD o
  | none => []
def layersA (g : Addr → Option Obj) : Nat → List Addr → List Addr
  | 0, as => as
  | n + 1, as => as ++ layersA g n (nextA g as)
/-- where we look -/
def asY (g : Addr → Option Obj) : List Addr := layersA g 4 [mainGlobals]
/-- a fragment laid out before use -/
def frcK {β : Type} : PySem.W.Frag → (PySem.W.Frag → β) → β
  | [], k => k []
  | (a, o) :: r, k => HandSHeadRun.frNat a fun a => frcK r fun r' => k ((a, o) :: r')
theorem frcK_eq {β : Type} : ∀ (l : PySem.W.Frag) (k : PySem.W.Frag → β), frcK l k = k l
  | [], k => rfl
  | (a, o) :: r, k => by
    show HandSHeadRun.frNat a (fun a => frcK r fun r' => k ((a, o) :: r')) = _
    rw [HandSHeadRun.frNat_eq, frcK_eq r]
/-- the module's facts, looked at -/
def obsY (g : Addr → Option Obj) : He.AlX := frcK (He.frT g (asY g)) fun K => (He.obsT faL fnL [] K, exL K && He.tabsB g tfL K)
theorem saysY {w : World} {h : Heap} (e : obsY h.get? = He.valX fnL [] w) : He.SaysX faL fnL [] tfL exL w h (He.frT h.get? (asY h.get?)) := by
  unfold obsY at e
  rw [frcK_eq] at e
  have e1 : He.obsT faL fnL [] (He.frT h.get? (asY h.get?)) = He.valT fnL [] w := congrArg Prod.fst e
  have e2 : (exL (He.frT h.get? (asY h.get?)) && He.tabsB h.get? tfL (He.frT h.get? (asY h.get?))) = true := congrArg Prod.snd e
  have tabs : ∀ p ∈ tfL, _ := fun p hp => He.ba (List.all_eq_true.mp (He.ba e2).2 p hp)
  have some_ : ∀ p ∈ tfL, ∃ o, h.get? (He.cT (He.frT h.get? (asY h.get?)) p).2 = some o ∧ He.emptyTab o = true := fun p hp => by
    have z := (tabs p hp).2
    split at z
    · exact ⟨_, ‹_›, z⟩
    · cases z
  refine ⟨e1, (He.ba e2).1, fun p hp => (tabs p hp).1, fun p hp => ?_, fun p hp => ?_⟩
  · obtain ⟨o, q, z⟩ := some_ p hp
    exact He.frT_none q z
  · obtain ⟨o, q, z⟩ := some_ p hp
    rw [q, He.emptyTab_eq z]
def hk : PySem.W.Hook where
  α := He.AlX
  obs := fun s => obsY s.heap.get?
  val := fun w => He.valX fnL [] w
  says := fun w h => ∃ K : PySem.W.Frag, K.In h ∧ He.SaysX faL fnL [] tfL exL w h K
  of := fun _ _ e => ⟨_, He.frT_in, saysY e⟩
  keeps := fun _ _ _ ⟨K, inK, says⟩ kept => ⟨K, PySem.W.Frag.In.keeps inK kept, ⟨says.t, says.more, says.hd, says.out, fun q hq => kept _ _ (says.empty q hq)⟩⟩
def ob (s : PySem.W.SharedT) : He.AlX := obsY (HandSHeadRun.getT s)
theorem ob_eq (s : PySem.W.SharedT) : ob s = hk.obs s.abs := by
  have e : HandSHeadRun.getT s = s.abs.heap.get? := funext (HandSHeadRun.getT_eq s)
  unfold ob
  rw [e]
  rfl
theorem run (w : World) : HandSHeadRun.RunEq R (PySem.W.view R.prog [95]) hk ob 20000 looseN w := by
  intro os
  kernel_rfl
end HBTop


open PySem PyProof.Rows PySem.Calls PySem.W
theorem PySem.Challenge.cw_huebill_k11_whole_excesses_holds : PySem.Challenge.rw_huebill_k11_whole_excesses.Holds := by
  w_on; o_law
  refine HandSHeadRun.head_any (r := OpenLaw.row PySem.Challenge.rw_huebill_k11_whole_excesses) (q := view (OpenLaw.row PySem.Challenge.rw_huebill_k11_whole_excesses).prog [95]) (H := HBTop.hk) (ob := HBTop.ob) (M := 20000) (loose := HBTop.looseN) (d := HandSHeadRun.topDef (OpenLaw.row PySem.Challenge.rw_huebill_k11_whole_excesses).prog 95) (kwd := []) HBTop.ob_eq
    (by kernel_rfl) (fun s => by kernel_rfl) HBTop.run (by kernel_rfl) (by kernel_rfl) (by kernel_rfl) (by rfl) (by first | assumption | decide +kernel) (by decide +kernel) ⟨rfl, rfl, rfl, rfl, rfl, by decide +kernel⟩ ?hw ?hc
  case hw => w_witness2
  case hc =>
    refine LamX.walk_ofTsE (l := PySem.Challenge.rw_huebill_k11_whole_excesses) (n := 63) (k := 16) (x := "_law_script") (CX := fun _ => L2.CX0) rfl (by decide) (by kernel_rfl) ⟨rfl, by decide, by decide⟩ ?F (fun _ _ _ _ _ z => z)
    intro w mg fa h Y G hmg0
    obtain ⟨K, KX, c⟩ := Y
    have at_law : mg ("law" : PySem.Str) = some (.ref fa) := by
      have e : (HandSHeadRun.topDef (OpenLaw.row PySem.Challenge.rw_huebill_k11_whole_excesses).prog 95).name = ("law" : PySem.Str) := by kernel_rfl
      rw [← e]
      exact hmg0
    obtain ⟨fd, hb, hF⟩ := HB.law_at (P := (PySem.Challenge.rw_huebill_k11_whole_excesses).prog) (w := w) KX G at_law c
    refine ⟨K, KX, fd, HB.tfL.map (He.cT K), HB.topSp K (HB.tfL.map (He.cT K)), fun p hp => ?_, fun p hp => ?_, fun p hp => ?_, hb, fun H a ns hl _ hT hS => ⟨a, ns, rfl, hl, hS, hT, fun _ => rfl⟩, hF⟩
    · obtain ⟨q, hq, rfl⟩ := List.mem_map.mp hp
      exact c.empty q hq
    · obtain ⟨q, hq, rfl⟩ := List.mem_map.mp hp
      exact c.out q hq
    · obtain ⟨q, hq, rfl⟩ := List.mem_map.mp hp
      exact PySem.W.codeHd_of_K KX (c.hd q hq)


