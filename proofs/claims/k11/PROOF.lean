import PyProof.Rows.All
import Wide.All
import OpenK.AllK
import Wide.FinOn
import HandS.ForMost
import HandS.ForExc
import HandS.Lambda
import HandS.EndTab
import HandS.HotCalls
import HandS.IsInst
import HandS.Conv
import HandS.Flow
import HandS.TupAny
import HandS.Style
import HandS.SortInts
import HandS.Deep
import HandS.Wide
import HandS.SetFor
import HandS.Dict
import KE.SortData
import HandS.ExcIs
import PySem.Challenge.RW_upanddowns_k11_rows_of_the_triangle
set_option Elab.async false
set_option linter.all false
set_option maxRecDepth 100000
set_option maxHeartbeats 4000000
set_option autoImplicit false
/-! PL1: heaps, data in heaps, slots. -/
namespace PL
open PySem PySem.Spec PyProof.Rows L2

/-! ### heaps -/
def NoT (B : Hp) : Prop := ∀ a ps, B a ≠ some (.tbl ps)
/-- something stands there, that is no table of code objects -/
def Occ (H : Hp) (a : Addr) : Prop := ∃ o, H a = some o ∧ ∀ ps, o ≠ .tbl ps
/-- from H to H': what is tracked stays, but that tables of code objects grow -/
structure Rl (T : List (Addr × Str)) (H H' : Hp) : Prop where
  ext : ∀ b o, H b = some o → (∀ ps, o ≠ .tbl ps) → H' b = some o
  tabs : LamX.Tabs T H → LamX.Tabs T H'
section
variable {T : List (Addr × Str)} {B B' H H' H1 H2 : Hp} {p : Addr} {o : HO}
theorem Rl.refl (H : Hp) : Rl T H H := ⟨fun _ _ h _ => h, fun h => h⟩
theorem Rl.of (s : Same H H') : Rl T H H' := ⟨fun b o h _ => s b o h, fun h => h.ext s⟩
theorem Rl.trans (a : Rl T H H1) (b : Rl T H1 H2) : Rl T H H2 := ⟨fun c o h n => b.ext c o (a.ext c o h n) n, fun h => b.tabs (a.tabs h)⟩
theorem Rl.new (h : H p = none) : Rl T H (upd H p o) := .of fun b u e => by rw [upd_ne (ne_of_none e h)]; exact e
theorem nocc (h : H p = none) : ¬ Occ H p := fun ⟨o, e, _⟩ => by rw [h] at e; cases e
theorem Rl.free (r : Rl T H H') (h : ¬ Occ H' p) : ¬ Occ H p := fun ⟨o, e, n⟩ => h ⟨o, r.ext p o e n, n⟩
theorem Rl.same (r : Rl T H H') (s : Same B H) (n : NoT B) : Same B H' := fun a u e => r.ext a u (s a u e) fun ps z => n a ps (by rw [e, z])
theorem occ_ne {a : Addr} (h : Occ H a) (n : ¬ Occ H p) : a ≠ p := fun z => n (z ▸ h)
/-- B, and what is new -/
def news : Option HO → Option HO
  | some (.tbl _) => none
  | some (.frz _ _) => none
  | u => u
/-- neither a table nor a locked thing -/
def Gd (o : HO) : Prop := (∀ ps, o ≠ .tbl ps) ∧ ∀ x u, o ≠ .frz x u
theorem news_gd {o : HO} (n : Gd o) : news (some o) = some o := by
  cases o <;> first | rfl | exact absurd rfl (n.1 _) | exact absurd rfl (n.2 _ _)
theorem news_inv {u : Option HO} {o : HO} (h : news u = some o) : u = some o ∧ Gd o := by
  unfold news at h
  split at h
  · cases h
  · cases h
  · rename_i n1 n2
    subst h
    exact ⟨rfl, fun ps e => n1 ps (by rw [e]), fun x u e => n2 x u (by rw [e])⟩
def grow (B H H' : Hp) : Hp := fun a => match H a with
  | none => news (H' a)
  | some (.tbl _) => news (H' a)
  | some _ => B a
theorem grow_old (h : Occ H p) : grow B H H' p = B p := by
  obtain ⟨o, h, n⟩ := h
  unfold grow; rw [h]
  cases o <;> first | rfl | exact absurd rfl (n _)
theorem tbl_of (n : ¬ ∀ ps, o ≠ .tbl ps) : ∃ ps, o = .tbl ps := Classical.byContradiction fun z => n fun ps e => z ⟨ps, e⟩
theorem free_cases (h : ¬ Occ H p) : H p = none ∨ ∃ ps, H p = some (.tbl ps) := by
  cases e : H p with
  | none => exact .inl rfl
  | some u =>
    by_cases n : ∀ ps, u ≠ .tbl ps
    · exact absurd ⟨u, e, n⟩ h
    · obtain ⟨ps, rfl⟩ := tbl_of n
      exact .inr ⟨ps, rfl⟩
theorem grow_free (h : ¬ Occ H p) : grow B H H' p = news (H' p) := by
  unfold grow
  rcases free_cases h with h | ⟨ps, h⟩ <;> rw [h]
theorem grow_new (h : ¬ Occ H p) (h' : H' p = some o) (n : Gd o) : grow B H H' p = some o := by rw [grow_free h, h', news_gd n]
theorem grow_none (h : ¬ Occ H p) (h' : H' p = none) : grow B H H' p = none := by rw [grow_free h, h']; rfl
theorem grow_inv {u : HO} (e : grow B H H' p = some u) : (B p = some u ∧ Occ H p) ∨ (¬ Occ H p ∧ H' p = some u ∧ Gd u) := by
  by_cases h : Occ H p
  · rw [grow_old h] at e; exact .inl ⟨e, h⟩
  · rw [grow_free h] at e
    obtain ⟨e1, e2⟩ := news_inv e
    exact .inr ⟨h, e1, e2⟩
theorem occ_of (s : Same B H) (n : NoT B) (e : B p = some o) : Occ H p := ⟨o, s p o e, fun ps z => n p ps (by rw [e, z])⟩
theorem sub_grow (s : Same B H) (n : NoT B) : Same B (grow B H H') := fun a o e => by rw [grow_old (occ_of s n e)]; exact e
theorem grow_le (s : Same B H) (n : NoT B) (r : Rl T H H') : Same (grow B H H') H' := fun a u e => by
  rcases grow_inv e with ⟨h, _⟩ | ⟨_, h, _⟩
  · exact r.same s n a u h
  · exact h
theorem grow_nt (n : NoT B) : NoT (grow B H H') := fun a ps e => by
  rcases grow_inv e with ⟨h, _⟩ | ⟨_, _, h⟩
  · exact n a ps h
  · exact h.1 ps rfl
theorem grow_grow (r1 : Rl T H H1) (r2 : Rl T H1 H2) : Same (grow (grow B H H1) H1 H2) (grow B H H2) := fun a u e => by
  rcases grow_inv e with ⟨h, h1⟩ | ⟨h1, h2, n⟩
  · rcases grow_inv h with ⟨hb, h0⟩ | ⟨h0, h1', n⟩
    · rw [grow_old h0]; exact hb
    · exact grow_new h0 (r2.ext a u h1' n.1) n
  · exact grow_new (r1.free h1) h2 n
theorem grow_mono (s : Same B B') : Same (grow B H H') (grow B' H H') := fun a u e => by
  rcases grow_inv e with ⟨h, h1⟩ | ⟨h1, h2, n⟩
  · rw [grow_old h1]; exact s a u h
  · exact grow_new h1 h2 n
end

/-! ### data in a heap -/
def kP : Key → PyData
  | .inl i => .int i
  | .inr s => .str s
mutual
inductive Den (K : PySem.W.Frag) (H : Hp) : V → PyData → Prop
  | non : Den K H .non .none
  | bl (b : Bool) : Den K H (.bl b) (.bool b)
  | int (i : Int) : Den K H (.int i) (.int i)
  | str (x : Str) : Den K H (.str x) (.str x)
  | lst {a : Addr} {xs : List V} {ds : List PyData} : Rd H a (.lst xs) → DenL K H xs ds → Den K H (.ref a) (.list ds)
  | tup {a : Addr} {xs : List V} {ds : List PyData} : SqT K H a xs → DenL K H xs ds → Den K H (.ref a) (.tuple ds)
  | dk {a : Addr} {kvs : List (Key × V)} {ds : List (PyData × PyData)} : H a = some (.dK kvs) → DenK K H kvs ds → Den K H (.ref a) (.dict ds)
  | dt {a : Addr} {kvs : List (List Key × V)} {ds : List (PyData × PyData)} : H a = some (.dT kvs) → DenT K H kvs ds → Den K H (.ref a) (.dict ds)
inductive DenL (K : PySem.W.Frag) (H : Hp) : List V → List PyData → Prop
  | nil : DenL K H [] []
  | cons {v : V} {vs : List V} {d : PyData} {ds : List PyData} : Den K H v d → DenL K H vs ds → DenL K H (v :: vs) (d :: ds)
inductive DenK (K : PySem.W.Frag) (H : Hp) : List (Key × V) → List (PyData × PyData) → Prop
  | nil : DenK K H [] []
  | cons {k : Key} {v : V} {vs : List (Key × V)} {d : PyData} {ds : List (PyData × PyData)} : Den K H v d → DenK K H vs ds → DenK K H ((k, v) :: vs) ((kP k, d) :: ds)
inductive DenT (K : PySem.W.Frag) (H : Hp) : List (List Key × V) → List (PyData × PyData) → Prop
  | nil : DenT K H [] []
  | cons {k : List Key} {v : V} {vs : List (List Key × V)} {d : PyData} {ds : List (PyData × PyData)} : Den K H v d → DenT K H vs ds → DenT K H ((k, v) :: vs) ((.tuple (k.map kP), d) :: ds)
end
theorem same_rd {H H' : Hp} {a : Addr} {u : HO} (e : Same H H') (h : Rd H a u) : Rd H' a u := by
  rcases h with h | ⟨o, h⟩
  · exact .inl (e _ _ h)
  · exact .inr ⟨o, e _ _ h⟩
theorem same_l {K : PySem.W.Frag} {H H' : Hp} {a : Addr} {xs : List V} (e : Same H H') (h : SqL K H a xs) : SqL K H' a xs := h.imp (same_rd e) id
theorem same_t {K : PySem.W.Frag} {H H' : Hp} {a : Addr} {xs : List V} (e : Same H H') (h : SqT K H a xs) : SqT K H' a xs := h.imp (same_rd e) id
section
variable {K : PySem.W.Frag} {B B' : Hp}
theorem Den.mono {v : V} {d : PyData} (h : Den K B v d) (s : Same B B') : Den K B' v d := by
  refine Den.rec (motive_1 := fun v d _ => Den K B' v d) (motive_2 := fun vs ds _ => DenL K B' vs ds) (motive_3 := fun vs ds _ => DenK K B' vs ds) (motive_4 := fun vs ds _ => DenT K B' vs ds)
    .non .bl .int .str (fun q _ r => .lst (same_rd s q) r) (fun q _ r => .tup (same_t s q) r) (fun q _ r => .dk (s _ _ q) r) (fun q _ r => .dt (s _ _ q) r) .nil (fun _ _ a b => .cons a b) .nil (fun _ _ a b => .cons a b) .nil (fun _ _ a b => .cons a b) h
theorem DenL.mono : ∀ {vs : List V} {ds : List PyData}, DenL K B vs ds → Same B B' → DenL K B' vs ds
  | _, _, .nil, _ => .nil
  | _, _, .cons h t, s => .cons (h.mono s) (DenL.mono t s)
theorem DenK.mono : ∀ {vs : List (Key × V)} {ds : List (PyData × PyData)}, DenK K B vs ds → Same B B' → DenK K B' vs ds
  | _, _, .nil, _ => .nil
  | _, _, .cons h t, s => .cons (h.mono s) (DenK.mono t s)
theorem DenT.mono : ∀ {vs : List (List Key × V)} {ds : List (PyData × PyData)}, DenT K B vs ds → Same B B' → DenT K B' vs ds
  | _, _, .nil, _ => .nil
  | _, _, .cons h t, s => .cons (h.mono s) (DenT.mono t s)
theorem DenL.length : ∀ {vs : List V} {ds : List PyData}, DenL K B vs ds → vs.length = ds.length
  | _, _, .nil => rfl
  | _, _, .cons _ t => by simp [DenL.length t]
theorem DenL.get : ∀ {vs : List V} {ds : List PyData} {i : Nat} {d : PyData}, DenL K B vs ds → ds[i]? = some d → ∃ v, vs[i]? = some v ∧ Den K B v d
  | _, _, i, _, .nil, e => by simp at e
  | _, _, 0, d, .cons h _, e => by simp at e; subst e; exact ⟨_, rfl, h⟩
  | _, _, i + 1, d, .cons _ t, e => by
    obtain ⟨v, h1, h2⟩ := DenL.get (i := i) (d := d) t (by simpa using e)
    exact ⟨v, by simpa using h1, h2⟩
theorem DenL.getV : ∀ {vs : List V} {ds : List PyData} {i : Nat} {v : V}, DenL K B vs ds → vs[i]? = some v → ∃ d, ds[i]? = some d ∧ Den K B v d
  | _, _, i, _, .nil, e => by simp at e
  | _, _, 0, d, .cons h _, e => by simp at e; subst e; exact ⟨_, rfl, h⟩
  | _, _, i + 1, d, .cons _ t, e => by
    obtain ⟨v, h1, h2⟩ := DenL.getV (i := i) (v := d) t (by simpa using e)
    exact ⟨v, by simpa using h1, h2⟩
theorem DenL.app : ∀ {vs ws : List V} {ds es : List PyData}, DenL K B vs ds → DenL K B ws es → DenL K B (vs ++ ws) (ds ++ es)
  | _, _, _, _, .nil, h => h
  | _, _, _, _, .cons a t, h => .cons a (DenL.app t h)
theorem DenL.snoc {vs : List V} {v : V} {ds : List PyData} {d : PyData} (h : DenL K B vs ds) (g : Den K B v d) : DenL K B (vs ++ [v]) (ds ++ [d]) := h.app (.cons g .nil)
theorem DenL.take : ∀ {vs : List V} {ds : List PyData} (n : Nat), DenL K B vs ds → DenL K B (vs.take n) (ds.take n)
  | _, _, 0, _ => by simp; exact .nil
  | _, _, _ + 1, .nil => .nil
  | _, _, n + 1, .cons h t => .cons h (DenL.take n t)
theorem DenL.drop : ∀ {vs : List V} {ds : List PyData} (n : Nat), DenL K B vs ds → DenL K B (vs.drop n) (ds.drop n)
  | _, _, 0, h => h
  | _, _, _ + 1, .nil => .nil
  | _, _, n + 1, .cons _ t => DenL.drop n t
theorem DenL.rev : ∀ {vs : List V} {ds : List PyData}, DenL K B vs ds → DenL K B vs.reverse ds.reverse
  | _, _, .nil => .nil
  | _, _, .cons h t => by simp only [List.reverse_cons]; exact (DenL.rev t).snoc h
theorem DenL.set : ∀ {vs : List V} {ds : List PyData} {v : V} {d : PyData} (i : Nat), DenL K B vs ds → Den K B v d → DenL K B (vs.set i v) (ds.set i d)
  | _, _, _, _, _, .nil, _ => .nil
  | _, _, _, _, 0, .cons _ t, g => .cons g t
  | _, _, _, _, i + 1, .cons h t, g => .cons h (DenL.set i t g)
theorem DenL.erase : ∀ {vs : List V} {ds : List PyData} (i : Nat), DenL K B vs ds → DenL K B (vs.eraseIdx i) (ds.eraseIdx i)
  | _, _, _, .nil => .nil
  | _, _, 0, .cons _ t => t
  | _, _, i + 1, .cons h t => .cons h (DenL.erase i t)
theorem DenL.ints : ∀ {vs : List V} {ns : List Int}, DenL K B vs (ns.map .int) → vs = ns.map V.int
  | _, [], .nil => rfl
  | _, n :: ns, .cons h t => by cases h; rw [DenL.ints t]; rfl
theorem DenL.ofInts : ∀ (ns : List Int), DenL K B (ns.map V.int) (ns.map .int)
  | [] => .nil
  | n :: ns => .cons (.int n) (DenL.ofInts ns)
theorem DenL.bools : ∀ {vs : List V} {ns : List Bool}, DenL K B vs (ns.map .bool) → vs = ns.map V.bl
  | _, [], .nil => rfl
  | _, n :: ns, .cons h t => by cases h; rw [DenL.bools t]; rfl
theorem DenL.strs : ∀ {vs : List V} {ns : List Str}, DenL K B vs (ns.map .str) → vs = ns.map V.str
  | _, [], .nil => rfl
  | _, n :: ns, .cons h t => by cases h; rw [DenL.strs t]; rfl
theorem DenL.ofStrs : ∀ (ns : List Str), DenL K B (ns.map V.str) (ns.map .str)
  | [] => .nil
  | n :: ns => .cons (.str n) (DenL.ofStrs ns)
mutual
/-- to the library's own data relation -/
theorem Den.dp : ∀ (d : PyData) {v : V}, Den K B v d → d.canLay0 = true → Dp K B v d
  | _, _, .non, _ => .non
  | _, _, .bl b, _ => .bl b
  | _, _, .int i, _ => .int i
  | _, _, .str x, _ => .str x
  | .list ds, _, .lst q r, h => .lst (.inl q) (DenL.dp ds r (by simpa [PyData.canLay0] using h))
  | .tuple ds, _, .tup q r, h => .tup q (DenL.dp ds r (by simpa [PyData.canLay0] using h))
  | .dict _, _, _, h => by simp [PyData.canLay0] at h
theorem DenL.dp : ∀ (ds : List PyData) {vs : List V}, DenL K B vs ds → PyData.canLayAll0 ds = true → DpAll K B vs ds
  | [], _, .nil, _ => .nil
  | d :: ds, _, .cons q r, h => by
    have h' : d.canLay0 = true ∧ PyData.canLayAll0 ds = true := by simpa [PyData.canLayAll0] using h
    exact .cons (Den.dp d q h'.1) (DenL.dp ds r h'.2)
end
end

/-! ### slots -/
inductive Sl where
  | no
  | d (x : PyData)
  | v (x : V)
  | own (xs : List PyData)
def SlOk (K : PySem.W.Frag) (H0 B H : Hp) : Sl → Option (Option V) → Prop
  | .no, _ => True
  | .d x, o => ∃ v, o = some (some v) ∧ Den K B v x
  | .v x, o => o = some (some x)
  | .own xs, o => ∃ p vs, o = some (some (.ref p)) ∧ ¬ Occ H0 p ∧ B p = none ∧ H p = some (.lst vs) ∧ DenL K B vs xs
structure Sat (K : PySem.W.Frag) (T : List (Addr × Str)) (H0 : Hp) (Γ : List Sl) (σ : L2.St) (B H : Hp) : Prop where
  sub : Same B H
  nt : NoT B
  tb : LamX.Tabs T H
  len : σ.length = Γ.length
  sl : ∀ (i : Nat) (s : Sl), Γ[i]? = some s → SlOk K H0 B H s σ[i]?
  ap : ∀ (i j : Nat) (d e : List PyData) (p : Addr), i ≠ j → Γ[i]? = some (.own d) → Γ[j]? = some (.own e) → σ[i]? = some (some (.ref p)) → σ[j]? = some (some (.ref p)) → False
structure Rel (T : List (Addr × Str)) (B0 H0 B H : Hp) : Prop where
  rl : Rl T H0 H
  inn : Same B (grow B0 H0 H)
theorem lst_ntbl {vs : List V} : ∀ ps, HO.lst vs ≠ .tbl ps := fun _ e => by cases e
theorem lst_gd {vs : List V} : Gd (.lst vs) := ⟨(fun _ e => by cases e), fun _ _ e => by cases e⟩
theorem tup_gd {vs : List V} : Gd (.tup vs) := ⟨(fun _ e => by cases e), fun _ _ e => by cases e⟩
section
variable {K : PySem.W.Frag} {T : List (Addr × Str)} {H0 B0 B B' H H' : Hp} {Γ : List Sl} {σ : L2.St} {i : Nat} {p : Addr} {v : V} {x : PyData} {xs ys : List PyData} {vs : List V}
theorem Sat.step (s : Sat K T H0 Γ σ B H) (r : Rl T H H') : Sat K T H0 Γ σ (grow B H H') H' := by
  refine ⟨grow_le s.sub s.nt r, grow_nt s.nt, r.tabs s.tb, s.len, fun i sl e => ?_, s.ap⟩
  have q := s.sl i sl e
  cases sl with
  | no => trivial
  | d x => obtain ⟨v, h1, h2⟩ := q; exact ⟨v, h1, h2.mono (sub_grow s.sub s.nt)⟩
  | v x => exact q
  | own xs =>
    obtain ⟨p, vs, h1, h0, h2, h3, h4⟩ := q
    exact ⟨p, vs, h1, h0, by rw [grow_old ⟨_, h3, lst_ntbl⟩]; exact h2, r.ext p _ h3 lst_ntbl, h4.mono (sub_grow s.sub s.nt)⟩
theorem get_set {α : Type} {l : List α} {a b : α} {i j : Nat} (h : (l.set i a)[j]? = some b) : (i = j ∧ b = a ∧ i < l.length) ∨ (i ≠ j ∧ l[j]? = some b) := by
  by_cases e : i = j
  · subst e
    by_cases hl : i < l.length
    · rw [List.getElem?_set_self hl] at h; cases h; exact .inl ⟨rfl, rfl, hl⟩
    · rw [List.getElem?_eq_none (by simpa using hl)] at h; cases h
  · rw [List.getElem?_set_ne e] at h; exact .inr ⟨e, h⟩
theorem Sat.setD (s : Sat K T H0 Γ σ B H) (hv : Den K B v x) : Sat K T H0 (Γ.set i (.d x)) (σ.set i (some v)) B H := by
  refine ⟨s.sub, s.nt, s.tb, by simp [s.len], fun j sl e => ?_, fun j k d e p hjk h1 h2 g1 g2 => ?_⟩
  · rcases get_set e with ⟨rfl, rfl, hl⟩ | ⟨hn, e⟩
    · exact ⟨v, List.getElem?_set_self (by rw [s.len]; exact hl), hv⟩
    · rw [List.getElem?_set_ne hn]; exact s.sl j sl e
  · rcases get_set h1 with ⟨_, z, _⟩ | ⟨n1, h1⟩
    · cases z
    · rcases get_set h2 with ⟨_, z, _⟩ | ⟨n2, h2⟩
      · cases z
      · rw [List.getElem?_set_ne n1] at g1; rw [List.getElem?_set_ne n2] at g2
        exact s.ap j k d e p hjk h1 h2 g1 g2
theorem Sat.setV (s : Sat K T H0 Γ σ B H) : Sat K T H0 (Γ.set i (.v v)) (σ.set i (some v)) B H := by
  refine ⟨s.sub, s.nt, s.tb, by simp [s.len], fun j sl e => ?_, fun j k d e p hjk h1 h2 g1 g2 => ?_⟩
  · rcases get_set e with ⟨rfl, rfl, hl⟩ | ⟨hn, e⟩
    · exact List.getElem?_set_self (by rw [s.len]; exact hl)
    · rw [List.getElem?_set_ne hn]; exact s.sl j sl e
  · rcases get_set h1 with ⟨_, z, _⟩ | ⟨n1, h1⟩
    · cases z
    · rcases get_set h2 with ⟨_, z, _⟩ | ⟨n2, h2⟩
      · cases z
      · rw [List.getElem?_set_ne n1] at g1; rw [List.getElem?_set_ne n2] at g2
        exact s.ap j k d e p hjk h1 h2 g1 g2
/-- a slot of which nothing is known any more -/
theorem Sat.setN {o : Option V} (s : Sat K T H0 Γ σ B H) : Sat K T H0 (Γ.set i .no) (σ.set i o) B H := by
  refine ⟨s.sub, s.nt, s.tb, by simp [s.len], fun j sl e => ?_, fun j k d e p hjk h1 h2 g1 g2 => ?_⟩
  · rcases get_set e with ⟨rfl, rfl, hl⟩ | ⟨hn, e⟩
    · trivial
    · rw [List.getElem?_set_ne hn]; exact s.sl j sl e
  · rcases get_set h1 with ⟨_, z, _⟩ | ⟨n1, h1⟩
    · cases z
    · rcases get_set h2 with ⟨_, z, _⟩ | ⟨n2, h2⟩
      · cases z
      · rw [List.getElem?_set_ne n1] at g1; rw [List.getElem?_set_ne n2] at g2
        exact s.ap j k d e p hjk h1 h2 g1 g2
theorem Sat.wk (s : Sat K T H0 Γ σ B H) : Sat K T H0 (Γ.set i .no) σ B H := by
  refine ⟨s.sub, s.nt, s.tb, by simp [s.len], fun j sl e => ?_, fun j k d e p hjk h1 h2 g1 g2 => ?_⟩
  · rcases get_set e with ⟨rfl, rfl, hl⟩ | ⟨hn, e⟩
    · trivial
    · exact s.sl j sl e
  · rcases get_set h1 with ⟨_, z, _⟩ | ⟨n1, h1⟩
    · cases z
    · rcases get_set h2 with ⟨_, z, _⟩ | ⟨n2, h2⟩
      · cases z
      · exact s.ap j k d e p hjk h1 h2 g1 g2
theorem Sat.setOwn (s : Sat K T H0 Γ σ B H) (h0 : ¬ Occ H0 p) (hb : B p = none) (hp : H p = some (.lst vs)) (hd : DenL K B vs xs) (hn : ∀ (j : Nat) (d : List PyData), j ≠ i → Γ[j]? = some (.own d) → σ[j]? ≠ some (some (.ref p))) :
    Sat K T H0 (Γ.set i (.own xs)) (σ.set i (some (.ref p))) B H := by
  refine ⟨s.sub, s.nt, s.tb, by simp [s.len], fun j sl e => ?_, fun j k d e q hjk h1 h2 g1 g2 => ?_⟩
  · rcases get_set e with ⟨rfl, rfl, hl⟩ | ⟨hn, e⟩
    · exact ⟨p, vs, List.getElem?_set_self (by rw [s.len]; exact hl), h0, hb, hp, hd⟩
    · rw [List.getElem?_set_ne hn]; exact s.sl j sl e
  · rcases get_set h1 with ⟨rfl, z, hl⟩ | ⟨n1, h1⟩
    · rcases get_set h2 with ⟨rfl, z, _⟩ | ⟨n2, h2⟩
      · exact hjk rfl
      · rw [List.getElem?_set_self (by rw [s.len]; exact hl)] at g1; cases g1
        rw [List.getElem?_set_ne n2] at g2
        exact hn k _ (Ne.symm hjk) h2 g2
    · rw [List.getElem?_set_ne n1] at g1
      rcases get_set h2 with ⟨rfl, z, hl⟩ | ⟨n2, h2⟩
      · rw [List.getElem?_set_self (by rw [s.len]; exact hl)] at g2; cases g2
        exact hn j _ hjk h1 g1
      · rw [List.getElem?_set_ne n2] at g2
        exact s.ap j k d e q hjk h1 h2 g1 g2
theorem Sat.own_ne (s : Sat K T H0 Γ σ B H) (h : ¬ Occ H p) : ∀ (j : Nat) (d : List PyData), Γ[j]? = some (.own d) → σ[j]? ≠ some (some (.ref p)) := fun j d e z => by
  obtain ⟨q, vs, h1, _, _, h3, _⟩ := s.sl j _ e
  rw [z] at h1; cases h1; exact h ⟨_, h3, lst_ntbl⟩
theorem Tabs.upd' {ho : HO} {vs : List V} (hp : H p = some (.lst vs)) (t : LamX.Tabs T H) : LamX.Tabs T (upd H p ho) := fun q hq => by
  obtain ⟨ps, h1, h2, h3⟩ := t q hq
  refine ⟨ps, by rw [upd_ne (ne_of h1 hp (by intro z; cases z))]; exact h1, h2, fun pos cv hc => ?_⟩
  obtain ⟨c, e1, e2⟩ := h3 pos cv hc
  exact ⟨c, e1, by rw [upd_ne (ne_of e2 hp (by unfold LamX.CodeO; intro z; cases z))]; exact e2⟩
/-- a list of the def's own is changed -/
theorem Sat.mut {ws : List V} (s : Sat K T H0 Γ σ B H) (hi : Γ[i]? = some (.own xs)) (hs : σ[i]? = some (some (.ref p))) (hp : H p = some (.lst vs)) (hb : B p = none) (h0 : ¬ Occ H0 p) (hd : DenL K B ws ys) :
    Sat K T H0 (Γ.set i (.own ys)) σ B (upd H p (.lst ws)) := by
  have hne : ∀ a o, B a = some o → a ≠ p := fun a o e z => by rw [z, hb] at e; cases e
  refine ⟨fun a o e => by rw [upd_ne (hne a o e)]; exact s.sub a o e, s.nt, Tabs.upd' hp s.tb, by simp [s.len], fun j sl e => ?_, fun j k d e q hjk h1 h2 g1 g2 => ?_⟩
  · rcases get_set e with ⟨rfl, rfl, hl⟩ | ⟨hn, e⟩
    · exact ⟨p, ws, hs, h0, hb, upd_same, hd⟩
    · have q := s.sl j sl e
      cases sl with
      | no => trivial
      | d x => exact q
      | v x => exact q
      | own zs =>
        obtain ⟨q, us, h1, h2, h3, h4, h5⟩ := q
        have : q ≠ p := fun z => s.ap i j _ _ p hn hi e hs (by rw [h1, z])
        exact ⟨q, us, h1, h2, h3, by rw [upd_ne this]; exact h4, h5⟩
  · have g : ∀ {j : Nat} {d : List PyData}, (Γ.set i (.own ys))[j]? = some (.own d) → ∃ d', Γ[j]? = some (.own d') := fun {j d} h => by
      rcases get_set h with ⟨rfl, _, _⟩ | ⟨_, h⟩
      · exact ⟨_, hi⟩
      · exact ⟨_, h⟩
    obtain ⟨_, h1⟩ := g h1
    obtain ⟨_, h2⟩ := g h2
    exact s.ap j k _ _ q hjk h1 h2 g1 g2
/-- a list of the def's own is left as it is from now on -/
theorem Sat.freeze (s : Sat K T H0 Γ σ B H) (hi : Γ[i]? = some (.own xs)) (r : Rel T B0 H0 B H) : ∃ B', Sat K T H0 (Γ.set i (.d (.list xs))) σ B' H ∧ Rel T B0 H0 B' H ∧ Same B B' := by
  obtain ⟨p, vs, h1, h0, hb, hp, hd⟩ := s.sl i _ hi
  have hsame : Same B (upd B p (.lst vs)) := fun a o e => by rw [upd_ne (ne_of_none e hb)]; exact e
  refine ⟨upd B p (.lst vs), ⟨fun a o e => ?_, fun a ps e => ?_, s.tb, by simp [s.len], fun j sl e => ?_, fun j k d e q hjk h1 h2 g1 g2 => ?_⟩, ⟨r.rl, fun a o e => ?_⟩, hsame⟩
  · by_cases ha : a = p
    · subst ha; rw [upd_same] at e; cases e; exact hp
    · rw [upd_ne ha] at e; exact s.sub a o e
  · by_cases ha : a = p
    · subst ha; rw [upd_same] at e; cases e
    · rw [upd_ne ha] at e; exact s.nt a ps e
  · rcases get_set e with ⟨rfl, rfl, hl⟩ | ⟨hn, e⟩
    · exact ⟨_, h1, .lst (.inl upd_same) (hd.mono hsame)⟩
    · have q := s.sl j sl e
      cases sl with
      | no => trivial
      | d x => obtain ⟨v, a, b⟩ := q; exact ⟨v, a, b.mono hsame⟩
      | v x => exact q
      | own zs =>
        obtain ⟨q, us, g1, g2, g3, g4, g5⟩ := q
        have : q ≠ p := fun z => s.ap i j _ _ p hn hi e h1 (by rw [g1, z])
        exact ⟨q, us, g1, g2, by rw [upd_ne this]; exact g3, g4, g5.mono hsame⟩
  · rcases get_set h1 with ⟨_, z, _⟩ | ⟨n1, h1⟩
    · cases z
    · rcases get_set h2 with ⟨_, z, _⟩ | ⟨n2, h2⟩
      · cases z
      · exact s.ap j k d e q hjk h1 h2 g1 g2
  · by_cases ha : a = p
    · subst ha; rw [upd_same] at e; cases e; exact grow_new h0 hp lst_gd
    · rw [upd_ne ha] at e; exact r.inn a o e
theorem Rel.refl (s : Same B H) (n : NoT B) : Rel T B H B H := ⟨.refl H, sub_grow s n⟩
theorem Rel.step (r : Rel T B0 H0 B H) (q : Rl T H H') : Rel T B0 H0 (grow B H H') H' := ⟨r.rl.trans q, fun a o e => grow_grow r.rl q a o (grow_mono r.inn a o e)⟩
theorem Rel.mut {ws : List V} (r : Rel T B0 H0 B H) (hp : H p = some (.lst vs)) (hb : B p = none) (h0 : ¬ Occ H0 p) : Rel T B0 H0 B (upd H p (.lst ws)) := by
  refine ⟨⟨fun b o e n => by rw [upd_ne (occ_ne ⟨o, e, n⟩ h0)]; exact r.rl.ext b o e n, fun t => Tabs.upd' hp (r.rl.tabs t)⟩, fun a o e => ?_⟩
  have ha : a ≠ p := ne_of_none e hb
  rcases grow_inv (r.inn a o e) with ⟨x, z⟩ | ⟨x, y, z⟩
  · rw [grow_old z]; exact x
  · exact grow_new x (by rw [upd_ne ha]; exact y) z
/-- data at the entry's end -/
theorem Rel.out (r : Rel T B0 H0 B H) (h : Den K B v x) : Den K (grow B0 H0 H) v x := h.mono r.inn
end
end PL

/-! PL2: what an expression gives, in data. -/
namespace PL
open PySem PySem.Spec PyProof.Rows L2

def WE (X : Cx) (e : Expr) : TE := fun σ H Q => ∀ (pins : List (Addr × Obj)) (s : Shared), Inv X pins σ H s → wpAny (model X.prog X.w) X.A (eval e X.env) (EP X pins σ Q) X.xe s
def WT (X : Cx) (e : Expr) : TT := fun σ H Q => ∀ (pins : List (Addr × Obj)) (s : Shared), Inv X pins σ H s → wpAny (model X.prog X.w) X.A (isTrue e X.env (eval e X.env)) (TP X pins σ Q) X.xe s
def WW (X : Cx) (e : Expr) : TT := fun σ H Q => ∀ (whole : Sem Value) (pins : List (Addr × Obj)) (s : Shared), Inv X pins σ H s → wpAny (model X.prog X.w) X.A (isTrue e X.env whole) (TP X pins σ Q) X.xe s
def WA (X : Cx) (es : List Expr) : TA := fun σ H Q => ∀ (pos : Pos) (pins : List (Addr × Obj)) (s : Shared), Inv X pins σ H s → wpAny (model X.prog X.w) X.A (spliced (backTo pos (starEach es X.env))) (AP X pins σ Q) X.xe s
section
variable {X : Cx} {e : Expr} {es : List Expr} {σ : L2.St} {H : Hp}
theorem pe_w : PE X e (WE X e) := ⟨fun pins s σ H Q I h => h pins s I⟩
theorem pt_w : PT X e (WT X e) := ⟨fun pins s σ H Q I h => h pins s I⟩
theorem pw_w : PW X e (WW X e) := ⟨fun wh pins s σ H Q I h => h wh pins s I⟩
theorem pa_w : PA X es (WA X es) := ⟨fun pos pins s σ H Q I h => h pos pins s I⟩
theorem we {t : TE} {Q : VK} (h : PE X e t) (q : t σ H Q) : WE X e σ H Q := fun pins s I => h.run pins s σ H Q I q
theorem wt {t : TT} {Q : Bool → Hp → Prop} (h : PT X e t) (q : t σ H Q) : WT X e σ H Q := fun pins s I => h.run pins s σ H Q I q
theorem ww {t : TT} {Q : Bool → Hp → Prop} (h : PW X e t) (q : t σ H Q) : WW X e σ H Q := fun wh pins s I => h.run wh pins s σ H Q I q
theorem wa {t : TA} {Q : List V → Hp → Prop} (h : PA X es t) (q : t σ H Q) : WA X es σ H Q := fun pos pins s I => h.run pos pins s σ H Q I q
theorem we_mono {Q Q' : VK} (h : WE X e σ H Q) (k : ∀ v H', Q v H' → Q' v H') : WE X e σ H Q' := fun pins s I => thn (h pins s I) fun v s' ⟨x, H', I', r, q⟩ => ⟨x, H', I', r, k _ _ q⟩
end

section
variable (T : List (Addr × Str)) (X : Cx) (Γ : List Sl)
/-- e gives the data d -/
def XE (e : Expr) (d : PyData) : Prop := ∀ (H0 : Hp) (σ : L2.St) (B H : Hp), Sat X.K T H0 Γ σ B H → ∀ Q : VK, (∀ v H', Rl T H H' → Den X.K (grow B H H') v d → Q v H') → WE X e σ H Q
/-- e gives a list whose items are the data xs; the list itself may be the def's own -/
def XL (e : Expr) (xs : List PyData) : Prop := ∀ (H0 : Hp) (σ : L2.St) (B H : Hp), Sat X.K T H0 Γ σ B H → ∀ Q : VK, (∀ a vs H', Rl T H H' → Rd H' a (.lst vs) → DenL X.K (grow B H H') vs xs → Q (.ref a) H') → WE X e σ H Q
/-- e gives a new list -/
def XN (e : Expr) (xs : List PyData) : Prop := ∀ (H0 : Hp) (σ : L2.St) (B H : Hp), Sat X.K T H0 Γ σ B H → ∀ Q : VK, (∀ p vs H1, Rl T H H1 → H1 p = none → DenL X.K (grow B H H1) vs xs → Q (.ref p) (upd H1 p (.lst vs))) → WE X e σ H Q
/-- e gives the value x -/
def XV (e : Expr) (x : V) : Prop := ∀ (H0 : Hp) (σ : L2.St) (B H : Hp), Sat X.K T H0 Γ σ B H → ∀ Q : VK, (∀ H', Rl T H H' → Q x H') → WE X e σ H Q
/-- data in the whole heap -/
def XD (e : Expr) (d : PyData) : Prop := ∀ (H0 : Hp) (σ : L2.St) (B H : Hp), Sat X.K T H0 Γ σ B H → ∀ Q : VK, (∀ v H', Rl T H H' → Den X.K H' v d → Q v H') → WE X e σ H Q
def XT (e : Expr) (b : Bool) : Prop := ∀ (H0 : Hp) (σ : L2.St) (B H : Hp), Sat X.K T H0 Γ σ B H → ∀ Q : Bool → Hp → Prop, (∀ H', Rl T H H' → Q b H') → WT X e σ H Q
def XW (e : Expr) (b : Bool) : Prop := ∀ (H0 : Hp) (σ : L2.St) (B H : Hp), Sat X.K T H0 Γ σ B H → ∀ Q : Bool → Hp → Prop, (∀ H', Rl T H H' → Q b H') → WW X e σ H Q
def XA (es : List Expr) (ds : List PyData) : Prop := ∀ (H0 : Hp) (σ : L2.St) (B H : Hp), Sat X.K T H0 Γ σ B H → ∀ Q : List V → Hp → Prop, (∀ vs H', Rl T H H' → DenL X.K (grow B H H') vs ds → Q vs H') → WA X es σ H Q
/-- raw argument values -/
def XAV (es : List Expr) (xs : List V) : Prop := ∀ (H0 : Hp) (σ : L2.St) (B H : Hp), Sat X.K T H0 Γ σ B H → ∀ Q : List V → Hp → Prop, (∀ H', Rl T H H' → Q xs H') → WA X es σ H Q
end

/-! ### data without a heap -/
def isN : PyData → Bool
  | .none => true
  | _ => false
def flat : PyData → Bool
  | .none => true | .bool _ => true | .int _ => true | .str _ => true
  | _ => false
theorem Den.flat {K : PySem.W.Frag} {B B' : Hp} {v : V} {d : PyData} (h : Den K B v d) (f : flat d = true) : Den K B' v d := by
  cases h with
  | non => exact .non
  | bl b => exact .bl b
  | int i => exact .int i
  | str x => exact .str x
  | _ => exact absurd f (by simp [PL.flat])
theorem rd_rl {T : List (Addr × Str)} {H H' : Hp} {a : Addr} {vs : List V} (r : Rl T H H') (h : Rd H a (.lst vs)) : Rd H' a (.lst vs) := by
  rcases h with h | ⟨o, h⟩
  · exact .inl (r.ext _ _ h lst_ntbl)
  · exact .inr ⟨o, r.ext _ _ h (by intro ps z; cases z)⟩
theorem sqL_rl {T : List (Addr × Str)} {K : PySem.W.Frag} {H H' : Hp} {a : Addr} {vs : List V} (r : Rl T H H') (h : SqL K H a vs) : SqL K H' a vs := by
  rcases h with (h | ⟨o, h⟩) | h
  · exact .inl (.inl (r.ext _ _ h lst_ntbl))
  · exact .inl (.inr ⟨o, r.ext _ _ h (by intro ps z; cases z)⟩)
  · exact .inr h
theorem sqT_rl {T : List (Addr × Str)} {K : PySem.W.Frag} {H H' : Hp} {a : Addr} {vs : List V} (r : Rl T H H') (h : SqT K H a vs) : SqT K H' a vs := by
  rcases h with (h | ⟨o, h⟩) | h
  · exact .inl (.inl (r.ext _ _ h (by intro ps z; cases z)))
  · exact .inl (.inr ⟨o, r.ext _ _ h (by intro ps z; cases z)⟩)
  · exact .inr h
theorem Den.rl {T : List (Addr × Str)} {K : PySem.W.Frag} {H H' : Hp} {v : V} {d : PyData} (h : Den K H v d) (r : Rl T H H') : Den K H' v d := by
  refine Den.rec (motive_1 := fun v d _ => Den K H' v d) (motive_2 := fun vs ds _ => DenL K H' vs ds) (motive_3 := fun vs ds _ => DenK K H' vs ds) (motive_4 := fun vs ds _ => DenT K H' vs ds)
    .non .bl .int .str (fun q _ z => .lst (rd_rl r q) z) (fun q _ z => .tup (sqT_rl r q) z) (fun q _ z => .dk (r.ext _ _ q (by intro ps z; cases z)) z) (fun q _ z => .dt (r.ext _ _ q (by intro ps z; cases z)) z) .nil (fun _ _ a b => .cons a b) .nil (fun _ _ a b => .cons a b) .nil (fun _ _ a b => .cons a b) h
theorem DenL.rl {T : List (Addr × Str)} {K : PySem.W.Frag} {H H' : Hp} : ∀ {vs : List V} {ds : List PyData}, DenL K H vs ds → Rl T H H' → DenL K H' vs ds
  | _, _, .nil, _ => .nil
  | _, _, .cons h t, s => .cons (h.rl s) (DenL.rl t s)
section
variable {T : List (Addr × Str)} {X : Cx} {Γ : List Sl} {e a b c : Expr} {es : List Expr} {d d1 d2 : PyData} {xs ys : List PyData} {pos p2 : Pos} {H0 B H H1 H2 : Hp} {σ : L2.St} {i j : Int} {x : V}
variable {K : PySem.W.Frag}
theorem Sat.up (s : Sat K T H0 Γ σ B H) (r1 : Rl T H H1) (r2 : Rl T H1 H2) : Same (grow B H H1) (grow B H H2) := fun a o q => grow_grow r1 r2 a o (sub_grow (grow_le s.sub s.nt r1) (grow_nt s.nt) a o q)
theorem Sat.le (s : Sat K T H0 Γ σ B H) (r : Rl T H H1) : Same (grow B H H1) H1 := grow_le s.sub s.nt r
theorem XE.two (ha : XE T X Γ a d1) (hb : XE T X Γ b d2) (s : Sat X.K T H0 Γ σ B H) {R : V → V → Hp → Prop} (k : ∀ v w H2, Rl T H H2 → Den X.K (grow B H H2) v d1 → Den X.K (grow B H H2) w d2 → R v w H2) :
    WE X a σ H fun v H1 => WE X b σ H1 fun w H2 => R v w H2 :=
  ha H0 σ B H s _ fun v H1 r1 h1 => hb H0 σ _ H1 (s.step r1) _ fun w H2 r2 h2 => k v w H2 (r1.trans r2) (h1.mono (s.up r1 r2)) (h2.mono (grow_grow r1 r2))
theorem XL.two (ha : XL T X Γ a xs) (hb : XE T X Γ b d2) (s : Sat X.K T H0 Γ σ B H) {R : V → V → Hp → Prop} (k : ∀ p vs w H2, Rl T H H2 → Rd H2 p (.lst vs) → DenL X.K (grow B H H2) vs xs → Den X.K (grow B H H2) w d2 → R (.ref p) w H2) :
    WE X a σ H fun v H1 => WE X b σ H1 fun w H2 => R v w H2 :=
  ha H0 σ B H s _ fun p vs H1 r1 q1 h1 => hb H0 σ _ H1 (s.step r1) _ fun w H2 r2 h2 => k p vs w H2 (r1.trans r2) (rd_rl r2 q1) (h1.mono (s.up r1 r2)) (h2.mono (grow_grow r1 r2))
theorem XD.two (ha : XD T X Γ a d1) (hb : XD T X Γ b d2) (s : Sat X.K T H0 Γ σ B H) {R : V → V → Hp → Prop} (k : ∀ v w H2, Rl T H H2 → Den X.K H2 v d1 → Den X.K H2 w d2 → R v w H2) :
    WE X a σ H fun v H1 => WE X b σ H1 fun w H2 => R v w H2 :=
  ha H0 σ B H s _ fun v H1 r1 h1 => hb H0 σ _ H1 (s.step r1) _ fun w H2 r2 h2 => k v w H2 (r1.trans r2) (h1.rl r2) h2

/-! ### from one kind to another -/
theorem XE.toL (h : XE T X Γ e (.list xs)) : XL T X Γ e xs := fun H0 σ B H s Q k => h H0 σ B H s Q fun v H' r hd => by
  cases hd with
  | lst q l => exact k _ _ H' r (same_rd (s.le r) q) l
theorem grow_keep {p : Addr} {o : HO} (r : Rl T H H1) (h : H1 p = none) : Same (grow B H H1) (grow B H (upd H1 p o)) := fun a u e => by
  rcases grow_inv e with ⟨x, z⟩ | ⟨y, z, n⟩
  · rw [grow_old z]; exact x
  · exact grow_new y (by rw [upd_ne (ne_of_none z h)]; exact z) n
theorem grow_at {p : Addr} {vs : List V} (r : Rl T H H1) (h : H1 p = none) : grow B H (upd H1 p (.lst vs)) p = some (.lst vs) := grow_new (r.free (nocc h)) upd_same lst_gd
theorem XN.toE (h : XN T X Γ e xs) : XE T X Γ e (.list xs) := fun H0 σ B H s Q k => h H0 σ B H s Q fun p vs H1 r hp hd =>
  k _ _ (r.trans (.new hp)) (.lst (.inl (grow_at r hp)) (hd.mono (grow_keep r hp)))
theorem XN.toL (h : XN T X Γ e xs) : XL T X Γ e xs := h.toE.toL
theorem XE.toD (h : XE T X Γ e d) : XD T X Γ e d := fun H0 σ B H s Q k => h H0 σ B H s Q fun v H' r hd => k v H' r (hd.mono (s.le r))
theorem XL.toD (h : XL T X Γ e xs) : XD T X Γ e (.list xs) := fun H0 σ B H s Q k => h H0 σ B H s Q fun a vs H' r q hd => k _ H' r (.lst q (hd.mono (s.le r)))
theorem XD.toE (h : XD T X Γ e d) (f : flat d = true) : XE T X Γ e d := fun H0 σ B H s Q k => h H0 σ B H s Q fun v H' r hd => k v H' r (hd.flat f)
theorem XV.toI (h : XV T X Γ e (.int i)) : XE T X Γ e (.int i) := fun H0 σ B H s Q k => h H0 σ B H s Q fun H' r => k _ H' r (.int i)
theorem XE.cast (h : XE T X Γ e d1) (q : d1 = d2) : XE T X Γ e d2 := q ▸ h
theorem XN.cast (h : XN T X Γ e xs) (q : xs = ys) : XN T X Γ e ys := q ▸ h
theorem XL.cast (h : XL T X Γ e xs) (q : xs = ys) : XL T X Γ e ys := q ▸ h
theorem XT.cast {k k' : Bool} (h : XT T X Γ e k) (q : k = k') : XT T X Γ e k' := q ▸ h

/-! ### names, constants -/
theorem xe_name (n : Nat) {y : Str} (h : Γ[n]? = some (.d d) := by rfl) (hN : X.N[n]? = some y := by rfl) (hv : Vis X.env.scope y := by first | exact Or.inl rfl | exact Or.inr (Or.inl rfl) | exact Or.inr (Or.inr rfl)) (hd : (y == ("__debug__" : Str)) = false := by decide) (hcd : (y == ("__classdict__" : Str)) = false := by decide) : XE T X Γ (.Name y pos) d := fun H0 σ B H s Q k => by
  obtain ⟨v, e, hd'⟩ := s.sl n _ h
  exact we (pe_var hN hv hd hcd) ⟨v, e, k v H (.refl H) (hd'.mono (sub_grow s.sub s.nt))⟩
theorem xl_own (n : Nat) {y : Str} (h : Γ[n]? = some (.own xs) := by rfl) (hN : X.N[n]? = some y := by rfl) (hv : Vis X.env.scope y := by first | exact Or.inl rfl | exact Or.inr (Or.inl rfl) | exact Or.inr (Or.inr rfl)) (hd : (y == ("__debug__" : Str)) = false := by decide) (hcd : (y == ("__classdict__" : Str)) = false := by decide) : XL T X Γ (.Name y pos) xs := fun H0 σ B H s Q k => by
  obtain ⟨p, vs, e, _, _, hp, hd'⟩ := s.sl n _ h
  exact we (pe_var hN hv hd hcd) ⟨_, e, k p vs H (.refl H) (.inl hp) (hd'.mono (sub_grow s.sub s.nt))⟩
theorem xv_name (n : Nat) {y : Str} (h : Γ[n]? = some (.v x) := by rfl) (hN : X.N[n]? = some y := by rfl) (hv : Vis X.env.scope y := by first | exact Or.inl rfl | exact Or.inr (Or.inl rfl) | exact Or.inr (Or.inr rfl)) (hd : (y == ("__debug__" : Str)) = false := by decide) (hcd : (y == ("__classdict__" : Str)) = false := by decide) : XV T X Γ (.Name y pos) x := fun H0 σ B H s Q k => by
  have e := s.sl n _ h
  exact we (pe_var hN hv hd hcd) ⟨_, e, k H (.refl H)⟩
theorem xe_int {k : Nat} : XE T X Γ (.Constant (.int i) k pos) (.int i) := fun H0 σ B H s Q k => we pe_int (k _ H (.refl H) (.int i))
theorem xe_str {y : Str} {k : Nat} : XE T X Γ (.Constant (.str y) k pos) (.str y) := fun H0 σ B H s Q k => we pe_str (k _ H (.refl H) (.str y))
theorem xe_bl {y : Bool} {k : Nat} : XE T X Γ (.Constant (.bool y) k pos) (.bool y) := fun H0 σ B H s Q k => we pe_bl (k _ H (.refl H) (.bl y))
theorem xe_non {k : Nat} : XE T X Γ (.Constant .none k pos) .none := fun H0 σ B H s Q k => we pe_non (k _ H (.refl H) .non)
theorem xv_glob {y : Str} {u : Value} (hg : Gl X y) (hm : X.mg y = some u) (r : RelV x u) (hd : (y == ("__debug__" : Str)) = false := by decide) : XV T X Γ (.Name y pos) x := fun H0 σ B H s Q k => we (pe_glob hg hm r hd) (k H (.refl H))
theorem xv_blt {y : Str} {u : Value} (hg : Gl X y) (hm : X.mg y = none) (hv : bootBuiltins y = some u) (r : RelV x u) (hn : y ≠ "__name__" := by decide) (hd : (y == ("__debug__" : Str)) = false := by decide) : XV T X Γ (.Name y pos) x := fun H0 σ B H s Q k => we (pe_bltn hg hm hv r hn hd) (k H (.refl H))
/-- a module's whole number | text -/
theorem xe_gint {y : Str} (hg : Gl X y) (hm : ∃ t, X.mg y = some (.int i t)) (hd : (y == ("__debug__" : Str)) = false := by decide) : XE T X Γ (.Name y pos) (.int i) := fun H0 σ B H s Q k => by
  obtain ⟨t, hm⟩ := hm
  exact we (pe_glob hg hm (show RelV (.int i) _ from ⟨t, rfl⟩) hd) (k _ H (.refl H) (.int i))
theorem xe_gstr {y z : Str} (hg : Gl X y) (hm : ∃ t, X.mg y = some (.str z t)) (hd : (y == ("__debug__" : Str)) = false := by decide) : XE T X Γ (.Name y pos) (.str z) := fun H0 σ B H s Q k => by
  obtain ⟨t, hm⟩ := hm
  exact we (pe_glob hg hm (show RelV (.str z) _ from ⟨t, rfl⟩) hd) (k _ H (.refl H) (.str z))

/-! ### arithmetic -/
theorem xe_add (ha : XE T X Γ a (.int i)) (hb : XE T X Γ b (.int j)) : XE T X Γ (.BinOp a .Add b pos) (.int (i + j)) := fun H0 σ B H s Q k =>
  we (pe_op op_add pe_w pe_w) (ha.two hb s fun v w H2 r h1 h2 => by cases h1; cases h2; exact ⟨i, j, rfl, rfl, k _ H2 r (.int _)⟩)
theorem xe_sub (ha : XE T X Γ a (.int i)) (hb : XE T X Γ b (.int j)) : XE T X Γ (.BinOp a .Sub b pos) (.int (i - j)) := fun H0 σ B H s Q k =>
  we (pe_op op_sub pe_w pe_w) (ha.two hb s fun v w H2 r h1 h2 => by cases h1; cases h2; exact ⟨i, j, rfl, rfl, k _ H2 r (.int _)⟩)
theorem xe_mul (ha : XE T X Γ a (.int i)) (hb : XE T X Γ b (.int j)) (hc : CMul i j) : XE T X Γ (.BinOp a .Mult b pos) (.int (i * j)) := fun H0 σ B H s Q k =>
  we (pe_op op_mul pe_w pe_w) (ha.two hb s fun v w H2 r h1 h2 => by cases h1; cases h2; exact ⟨i, j, rfl, rfl, hc, k _ H2 r (.int _)⟩)
theorem xe_mod (ha : XE T X Γ a (.int i)) (hb : XE T X Γ b (.int j)) (hc : 0 < j) : XE T X Γ (.BinOp a .Mod b pos) (.int (i % j)) := fun H0 σ B H s Q k =>
  we (pe_op op_mod pe_w pe_w) (ha.two hb s fun v w H2 r h1 h2 => by cases h1; cases h2; exact ⟨i, j, rfl, rfl, hc, k _ H2 r (.int _)⟩)
theorem xe_div (ha : XE T X Γ a (.int i)) (hb : XE T X Γ b (.int j)) (hc : CDiv i j) : XE T X Γ (.BinOp a .FloorDiv b pos) (.int (i / j)) := fun H0 σ B H s Q k =>
  we (pe_op op_fdiv pe_w pe_w) (ha.two hb s fun v w H2 r h1 h2 => by cases h1; cases h2; exact ⟨i, j, rfl, rfl, hc, k _ H2 r (.int _)⟩)
theorem xe_divW (ha : XE T X Γ a (.int i)) (hb : XE T X Γ b (.int j)) (hc : CDivW i j) : XE T X Γ (.BinOp a .FloorDiv b pos) (.int (i / j)) := fun H0 σ B H s Q k =>
  we (pe_op op_fdivW pe_w pe_w) (ha.two hb s fun v w H2 r h1 h2 => by cases h1; cases h2; exact ⟨i, j, rfl, rfl, hc, k _ H2 r (.int _)⟩)
theorem xe_mulW (ha : XE T X Γ a (.int i)) (hb : XE T X Γ b (.int j)) (hc : CMulW i j) : XE T X Γ (.BinOp a .Mult b pos) (.int (i * j)) := fun H0 σ B H s Q k =>
  we (pe_op op_mulW pe_w pe_w) (ha.two hb s fun v w H2 r h1 h2 => by cases h1; cases h2; exact ⟨i, j, rfl, rfl, hc, k _ H2 r (.int _)⟩)
theorem xe_pow (ha : XE T X Γ a (.int i)) (hb : XE T X Γ b (.int j)) (hc : CPow i j) : XE T X Γ (.BinOp a .Pow b pos) (.int (i ^ j.toNat)) := fun H0 σ B H s Q k =>
  we (pe_op op_pow pe_w pe_w) (ha.two hb s fun v w H2 r h1 h2 => by cases h1; cases h2; exact ⟨i, j, rfl, rfl, hc, k _ H2 r (.int _)⟩)
theorem xe_neg (ha : XE T X Γ a (.int i)) : XE T X Γ (.UnaryOp .USub a pos) (.int (-i)) := fun H0 σ B H s Q k =>
  we (pe_un un_neg pe_w) (ha H0 σ B H s _ fun v H2 r h1 => by cases h1; exact ⟨i, rfl, k _ H2 r (.int _)⟩)
/-- texts -/
theorem xe_adds {y z : Str} (ha : XE T X Γ a (.str y)) (hb : XE T X Γ b (.str z)) (hc : y.length + z.length ≤ sizeLine) : XE T X Γ (.BinOp a .Add b pos) (.str (y ++ z)) := fun H0 σ B H s Q k =>
  we (pe_op op_add_str pe_w pe_w) (ha.two hb s fun v w H2 r h1 h2 => by cases h1; cases h2; exact ⟨y, z, rfl, rfl, hc, k _ H2 r (.str _)⟩)

/-! ### comparisons -/
theorem xt_of {q : Expr} {k : Bool} (h : XE T X Γ q (.bool k)) (he : ∀ whole, isTrue q X.env whole = (do let v ← whole; standAt q.pos; holding [v] (truthy v)) := by intro _; rfl) : XT T X Γ q k := fun H0 σ B H s Q kk =>
  wt (pt_val pe_w he) (h H0 σ B H s _ fun v H2 r h1 => by cases h1; exact ⟨k, rfl, kk H2 r⟩)
/-- a comparison, by a rule on data -/
theorem xe_cmp {op : CmpOp} {r : R2} {k : Bool} (ho : OpR X (compareOp op) r) (ha : XE T X Γ a d1) (hb : XE T X Γ b d2) (hm : behindInMarks op b = false)
    (hr : ∀ (B H : Hp) (v w : V) (Q : VK), Same B H → Den X.K B v d1 → Den X.K B w d2 → Q (.bl k) H → r v w H Q) : XE T X Γ (.Compare a [op] [b] pos) (.bool k) := fun H0 σ B H s Q kk =>
  we (pe_cmpR ho pe_w pe_w hm) (ha.two hb s fun v w H2 q h1 h2 => hr _ H2 v w Q (s.le q) h1 h2 (kk _ H2 q (.bl _)))
theorem xt_cmp {op : CmpOp} {r : R2} {k : Bool} (ho : OpR X (compareOp op) r) (ha : XE T X Γ a d1) (hb : XE T X Γ b d2) (hm : behindInMarks op b = false)
    (hr : ∀ (B H : Hp) (v w : V) (Q : VK), Same B H → Den X.K B v d1 → Den X.K B w d2 → Q (.bl k) H → r v w H Q) : XT T X Γ (.Compare a [op] [b] pos) k := fun H0 σ B H s Q kk =>
  wt (pt_cmpR ho pe_w pe_w hm) (ha.two hb s fun v w H2 q h1 h2 => hr _ H2 v w _ (s.le q) h1 h2 ⟨k, rfl, kk H2 q⟩)
theorem rule_I0 {g : Int → Int → Bool} (B H : Hp) (v w : V) (Q : VK) (_ : Same B H) (h1 : Den K B v (.int i)) (h2 : Den K B w (.int j)) (q : Q (.bl (g i j)) H) : rI0 (fun i j => .bl (g i j)) v w H Q := by
  cases h1; cases h2; exact ⟨i, j, rfl, rfl, q⟩
theorem xe_lt (ha : XE T X Γ a (.int i)) (hb : XE T X Γ b (.int j)) : XE T X Γ (.Compare a [.Lt] [b] pos) (.bool (decide (i < j))) := xe_cmp op_lt ha hb (nomark _) (rule_I0 (g := fun i j => decide (i < j)))
theorem xe_le (ha : XE T X Γ a (.int i)) (hb : XE T X Γ b (.int j)) : XE T X Γ (.Compare a [.LtE] [b] pos) (.bool (decide (i ≤ j))) := xe_cmp op_le ha hb (nomark _) (rule_I0 (g := fun i j => decide (i ≤ j)))
theorem xe_gt (ha : XE T X Γ a (.int i)) (hb : XE T X Γ b (.int j)) : XE T X Γ (.Compare a [.Gt] [b] pos) (.bool (decide (j < i))) := xe_cmp op_gt ha hb (nomark _) (rule_I0 (g := fun i j => decide (j < i)))
theorem xe_ge (ha : XE T X Γ a (.int i)) (hb : XE T X Γ b (.int j)) : XE T X Γ (.Compare a [.GtE] [b] pos) (.bool (decide (j ≤ i))) := xe_cmp op_ge ha hb (nomark _) (rule_I0 (g := fun i j => decide (j ≤ i)))
theorem xt_lt (ha : XE T X Γ a (.int i)) (hb : XE T X Γ b (.int j)) : XT T X Γ (.Compare a [.Lt] [b] pos) (decide (i < j)) := xt_cmp op_lt ha hb (nomark _) (rule_I0 (g := fun i j => decide (i < j)))
theorem xt_le (ha : XE T X Γ a (.int i)) (hb : XE T X Γ b (.int j)) : XT T X Γ (.Compare a [.LtE] [b] pos) (decide (i ≤ j)) := xt_cmp op_le ha hb (nomark _) (rule_I0 (g := fun i j => decide (i ≤ j)))
theorem xt_gt (ha : XE T X Γ a (.int i)) (hb : XE T X Γ b (.int j)) : XT T X Γ (.Compare a [.Gt] [b] pos) (decide (j < i)) := xt_cmp op_gt ha hb (nomark _) (rule_I0 (g := fun i j => decide (j < i)))
theorem xt_ge (ha : XE T X Γ a (.int i)) (hb : XE T X Γ b (.int j)) : XT T X Γ (.Compare a [.GtE] [b] pos) (decide (j ≤ i)) := xt_cmp op_ge ha hb (nomark _) (rule_I0 (g := fun i j => decide (j ≤ i)))
/-- == of data -/
theorem xe_eqD (hu : X.A.units + 64 < cLine) (ha : XD T X Γ a d1) (hb : XD T X Γ b d2) (h1 : SeqAt.shaped d1 = true) (h2 : SeqAt.shaped d2 = true) : XE T X Γ (.Compare a [.Eq] [b] pos) (.bool (PyData.eqv d1 d2)) := fun H0 σ B H s Q k =>
  we (pe_cmpR (op_eqD hu) pe_w pe_w (nomark _)) (ha.two hb s fun v w H2 r q1 q2 => ⟨d1, d2, q1.dp d1 (SeqAt.canLay_of_shaped h1), q2.dp d2 (SeqAt.canLay_of_shaped h2), h1, h2, k _ H2 r (.bl _)⟩)
theorem xe_neD (hu : X.A.units + 64 < cLine) (ha : XD T X Γ a d1) (hb : XD T X Γ b d2) (h1 : SeqAt.shaped d1 = true) (h2 : SeqAt.shaped d2 = true) : XE T X Γ (.Compare a [.NotEq] [b] pos) (.bool (!PyData.eqv d1 d2)) := fun H0 σ B H s Q k =>
  we (pe_cmpR (op_neD hu) pe_w pe_w (nomark _)) (ha.two hb s fun v w H2 r q1 q2 => ⟨d1, d2, q1.dp d1 (SeqAt.canLay_of_shaped h1), q2.dp d2 (SeqAt.canLay_of_shaped h2), h1, h2, k _ H2 r (.bl _)⟩)
theorem xt_eqD (hu : X.A.units + 64 < cLine) (ha : XD T X Γ a d1) (hb : XD T X Γ b d2) (h1 : SeqAt.shaped d1 = true) (h2 : SeqAt.shaped d2 = true) : XT T X Γ (.Compare a [.Eq] [b] pos) (PyData.eqv d1 d2) := fun H0 σ B H s Q k =>
  wt (pt_cmpR (op_eqD hu) pe_w pe_w (nomark _)) (ha.two hb s fun v w H2 r q1 q2 => ⟨d1, d2, q1.dp d1 (SeqAt.canLay_of_shaped h1), q2.dp d2 (SeqAt.canLay_of_shaped h2), h1, h2, _, rfl, k H2 r⟩)
theorem xt_neD (hu : X.A.units + 64 < cLine) (ha : XD T X Γ a d1) (hb : XD T X Γ b d2) (h1 : SeqAt.shaped d1 = true) (h2 : SeqAt.shaped d2 = true) : XT T X Γ (.Compare a [.NotEq] [b] pos) (!PyData.eqv d1 d2) := fun H0 σ B H s Q k =>
  wt (pt_cmpR (op_neD hu) pe_w pe_w (nomark _)) (ha.two hb s fun v w H2 r q1 q2 => ⟨d1, d2, q1.dp d1 (SeqAt.canLay_of_shaped h1), q2.dp d2 (SeqAt.canLay_of_shaped h2), h1, h2, _, rfl, k H2 r⟩)
/-- == of whole numbers, of texts -/
theorem rule_eqI (B H : Hp) (v w : V) (Q : VK) (_ : Same B H) (h1 : Den K B v (.int i)) (h2 : Den K B w (.int j)) (q : Q (.bl (decide (i = j))) H) : rEq v w H Q := by
  cases h1; cases h2
  exact ⟨rfl, by rw [show decide (V.int i = V.int j) = decide (i = j) by simp]; exact q⟩
theorem rule_neI (B H : Hp) (v w : V) (Q : VK) (_ : Same B H) (h1 : Den K B v (.int i)) (h2 : Den K B w (.int j)) (q : Q (.bl (!decide (i = j))) H) : rNe v w H Q := by
  cases h1; cases h2
  exact ⟨rfl, by rw [show decide (V.int i = V.int j) = decide (i = j) by simp]; exact q⟩
theorem rule_eqS {y z : Str} (B H : Hp) (v w : V) (Q : VK) (_ : Same B H) (h1 : Den K B v (.str y)) (h2 : Den K B w (.str z)) (q : Q (.bl (decide (y = z))) H) : rEq v w H Q := by
  cases h1; cases h2
  exact ⟨rfl, by rw [show decide (V.str y = V.str z) = decide (y = z) by simp]; exact q⟩
theorem rule_neS {y z : Str} (B H : Hp) (v w : V) (Q : VK) (_ : Same B H) (h1 : Den K B v (.str y)) (h2 : Den K B w (.str z)) (q : Q (.bl (!decide (y = z))) H) : rNe v w H Q := by
  cases h1; cases h2
  exact ⟨rfl, by rw [show decide (V.str y = V.str z) = decide (y = z) by simp]; exact q⟩
theorem rule_eqB {y z : Bool} (B H : Hp) (v w : V) (Q : VK) (_ : Same B H) (h1 : Den K B v (.bool y)) (h2 : Den K B w (.bool z)) (q : Q (.bl (decide (y = z))) H) : rEq v w H Q := by
  cases h1; cases h2
  exact ⟨rfl, by rw [show decide (V.bl y = V.bl z) = decide (y = z) by simp]; exact q⟩
theorem rule_neB {y z : Bool} (B H : Hp) (v w : V) (Q : VK) (_ : Same B H) (h1 : Den K B v (.bool y)) (h2 : Den K B w (.bool z)) (q : Q (.bl (!decide (y = z))) H) : rNe v w H Q := by
  cases h1; cases h2
  exact ⟨rfl, by rw [show decide (V.bl y = V.bl z) = decide (y = z) by simp]; exact q⟩
theorem xe_eqI (ha : XE T X Γ a (.int i)) (hb : XE T X Γ b (.int j)) : XE T X Γ (.Compare a [.Eq] [b] pos) (.bool (decide (i = j))) := xe_cmp op_eq ha hb (nomark _) rule_eqI
theorem xt_eqI (ha : XE T X Γ a (.int i)) (hb : XE T X Γ b (.int j)) : XT T X Γ (.Compare a [.Eq] [b] pos) (decide (i = j)) := xt_cmp op_eq ha hb (nomark _) rule_eqI
theorem xe_neI (ha : XE T X Γ a (.int i)) (hb : XE T X Γ b (.int j)) : XE T X Γ (.Compare a [.NotEq] [b] pos) (.bool (!decide (i = j))) := xe_cmp op_ne ha hb (nomark _) rule_neI
theorem xt_neI (ha : XE T X Γ a (.int i)) (hb : XE T X Γ b (.int j)) : XT T X Γ (.Compare a [.NotEq] [b] pos) (!decide (i = j)) := xt_cmp op_ne ha hb (nomark _) rule_neI
theorem xe_eqS {y z : Str} (ha : XE T X Γ a (.str y)) (hb : XE T X Γ b (.str z)) : XE T X Γ (.Compare a [.Eq] [b] pos) (.bool (decide (y = z))) := xe_cmp op_eq ha hb (nomark _) rule_eqS
theorem xt_eqS {y z : Str} (ha : XE T X Γ a (.str y)) (hb : XE T X Γ b (.str z)) : XT T X Γ (.Compare a [.Eq] [b] pos) (decide (y = z)) := xt_cmp op_eq ha hb (nomark _) rule_eqS
theorem xe_neS {y z : Str} (ha : XE T X Γ a (.str y)) (hb : XE T X Γ b (.str z)) : XE T X Γ (.Compare a [.NotEq] [b] pos) (.bool (!decide (y = z))) := xe_cmp op_ne ha hb (nomark _) rule_neS
theorem xt_neS {y z : Str} (ha : XE T X Γ a (.str y)) (hb : XE T X Γ b (.str z)) : XT T X Γ (.Compare a [.NotEq] [b] pos) (!decide (y = z)) := xt_cmp op_ne ha hb (nomark _) rule_neS
theorem xe_eqB {y z : Bool} (ha : XE T X Γ a (.bool y)) (hb : XE T X Γ b (.bool z)) : XE T X Γ (.Compare a [.Eq] [b] pos) (.bool (decide (y = z))) := xe_cmp op_eq ha hb (nomark _) rule_eqB
theorem xt_eqB {y z : Bool} (ha : XE T X Γ a (.bool y)) (hb : XE T X Γ b (.bool z)) : XT T X Γ (.Compare a [.Eq] [b] pos) (decide (y = z)) := xt_cmp op_eq ha hb (nomark _) rule_eqB
theorem xe_neB {y z : Bool} (ha : XE T X Γ a (.bool y)) (hb : XE T X Γ b (.bool z)) : XE T X Γ (.Compare a [.NotEq] [b] pos) (.bool (!decide (y = z))) := xe_cmp op_ne ha hb (nomark _) rule_neB
theorem xt_neB {y z : Bool} (ha : XE T X Γ a (.bool y)) (hb : XE T X Γ b (.bool z)) : XT T X Γ (.Compare a [.NotEq] [b] pos) (!decide (y = z)) := xt_cmp op_ne ha hb (nomark _) rule_neB
/-- x is None, x is not None -/
theorem den_non {B : Hp} {v : V} (h : Den K B v d) : decide (v = V.non) = isN d := by cases h <;> simp [isN]
theorem xe_isN {k : Nat} {q : Pos} (ha : XE T X Γ a d) : XE T X Γ (.Compare a [.Is] [.Constant .none k q] pos) (.bool (isN d)) := fun H0 σ B H s Q kk =>
  we (pe_cmpR op_isN pe_w pe_non (nomark _)) (ha H0 σ B H s _ fun v H2 r h1 => ⟨rfl, by rw [den_non h1]; exact kk _ H2 r (.bl _)⟩)
theorem xt_isN {k : Nat} {q : Pos} (ha : XE T X Γ a d) : XT T X Γ (.Compare a [.Is] [.Constant .none k q] pos) (isN d) := fun H0 σ B H s Q kk =>
  wt (pt_cmpR op_isN pe_w pe_non (nomark _)) (ha H0 σ B H s _ fun v H2 r h1 => ⟨rfl, _, rfl, by rw [den_non h1]; exact kk H2 r⟩)
theorem xe_notN {k : Nat} {q : Pos} (ha : XE T X Γ a d) : XE T X Γ (.Compare a [.IsNot] [.Constant .none k q] pos) (.bool (!(isN d))) := fun H0 σ B H s Q kk =>
  we (pe_cmpR op_notN pe_w pe_non (nomark _)) (ha H0 σ B H s _ fun v H2 r h1 => ⟨rfl, by rw [den_non h1]; exact kk _ H2 r (.bl _)⟩)
theorem xt_notN {k : Nat} {q : Pos} (ha : XE T X Γ a d) : XT T X Γ (.Compare a [.IsNot] [.Constant .none k q] pos) (!(isN d)) := fun H0 σ B H s Q kk =>
  wt (pt_cmpR op_notN pe_w pe_non (nomark _)) (ha H0 σ B H s _ fun v H2 r h1 => ⟨rfl, _, rfl, by rw [den_non h1]; exact kk H2 r⟩)

/-! ### a op b op c of whole numbers -/
theorem xe_chain {op op' : CmpOp} {f g : Int → Int → Bool} {l : Int} (ho : OpR X (compareOp op) (rI0 fun i j => .bl (f i j))) (ho' : OpR X (compareOp op') (rI0 fun i j => .bl (g i j))) (ha : XE T X Γ a (.int i)) (hb : XE T X Γ b (.int j)) (hc : f i j = true → XE T X Γ c (.int l))
    (hm : lastMarks [op, op'] [b, c] = false := by with_unfolding_all rfl) : XE T X Γ (.Compare a [op, op'] [b, c] pos) (.bool (f i j && g j l)) := fun H0 σ B H s Q k =>
  we (pe_chain ho ho' pe_w pe_w pe_w hm) (ha.two hb s fun v w H2 r h1 h2 => by
    cases h1; cases h2
    refine ⟨i, j, rfl, rfl, f i j, rfl, ?_⟩
    cases e : f i j with
    | false => rw [if_neg Bool.false_ne_true]; rw [e] at k; exact k _ H2 r (.bl _)
    | true =>
      rw [if_pos rfl]
      rw [e] at k
      refine hc e H0 σ _ H2 (s.step r) _ fun u H3 r3 h3 => ?_
      cases h3
      exact ⟨j, l, rfl, rfl, k _ H3 (r.trans r3) (.bl _)⟩)
theorem xt_chain {op op' : CmpOp} {f g : Int → Int → Bool} {l : Int} (ho : OpR X (compareOp op) (rI0 fun i j => .bl (f i j))) (ho' : OpR X (compareOp op') (rI0 fun i j => .bl (g i j))) (ha : XE T X Γ a (.int i)) (hb : XE T X Γ b (.int j)) (hc : f i j = true → XE T X Γ c (.int l))
    (hm : lastMarks [op, op'] [b, c] = false := by with_unfolding_all rfl) : XT T X Γ (.Compare a [op, op'] [b, c] pos) (f i j && g j l) := fun H0 σ B H s Q k =>
  wt (pt_chain ho ho' pe_w pe_w pe_w hm) (ha.two hb s fun v w H2 r h1 h2 => by
    cases h1; cases h2
    refine ⟨i, j, rfl, rfl, f i j, rfl, ?_⟩
    cases e : f i j with
    | false => rw [if_neg Bool.false_ne_true]; rw [e] at k; exact ⟨_, rfl, k H2 r⟩
    | true =>
      rw [if_pos rfl]
      rw [e] at k
      refine hc e H0 σ _ H2 (s.step r) _ fun u H3 r3 h3 => ?_
      cases h3
      exact ⟨j, l, rfl, rfl, _, rfl, k H3 (r.trans r3)⟩)

/-! ### and, or, not, if -/
theorem xe_one {op : BoolOp} (h : XE T X Γ a d) : XE T X Γ (.BoolOp op [a] pos) d := fun H0 σ B H s Q k => we (pe_one pe_w) (h H0 σ B H s Q k)
theorem xe_and {k1 k2 : Bool} (ha : XE T X Γ a (.bool k1)) (hb : k1 = true → XE T X Γ (.BoolOp .And (b :: es) pos) (.bool k2)) : XE T X Γ (.BoolOp .And (a :: b :: es) pos) (.bool (k1 && k2)) := fun H0 σ B H s Q k =>
  we (pe_and pe_w pe_w) (ha H0 σ B H s _ fun v H2 r h1 => by
    cases h1
    refine ⟨k1, rfl, ?_⟩
    cases k1 with
    | false => rw [if_neg Bool.false_ne_true]; exact k _ H2 r (.bl _)
    | true => rw [if_pos rfl]; exact hb rfl H0 σ _ H2 (s.step r) _ fun u H3 r3 h3 => k u H3 (r.trans r3) (h3.mono (grow_grow r r3)))
theorem xe_or {k1 k2 : Bool} (ha : XE T X Γ a (.bool k1)) (hb : k1 = false → XE T X Γ (.BoolOp .Or (b :: es) pos) (.bool k2)) : XE T X Γ (.BoolOp .Or (a :: b :: es) pos) (.bool (k1 || k2)) := fun H0 σ B H s Q k =>
  we (pe_or pe_w pe_w) (ha H0 σ B H s _ fun v H2 r h1 => by
    cases h1
    refine ⟨k1, rfl, ?_⟩
    cases k1 with
    | true => rw [if_pos rfl]; exact k _ H2 r (.bl _)
    | false => rw [if_neg Bool.false_ne_true]; exact hb rfl H0 σ _ H2 (s.step r) _ fun u H3 r3 h3 => k u H3 (r.trans r3) (h3.mono (grow_grow r r3)))
theorem xe_not {k1 : Bool} (ha : XE T X Γ a (.bool k1)) : XE T X Γ (.UnaryOp .Not a pos) (.bool (!k1)) := fun H0 σ B H s Q k =>
  we (pe_not pe_w) (ha H0 σ B H s _ fun v H2 r h1 => by cases h1; exact ⟨k1, rfl, k _ H2 r (.bl _)⟩)
theorem xw_and1 {k1 : Bool} (h : XT T X Γ a k1) : XW T X Γ (.BoolOp .And [a] pos) k1 := fun H0 σ B H s Q k => ww (pw_and1 pt_w) (h H0 σ B H s Q k)
theorem xw_or1 {k1 : Bool} (h : XT T X Γ a k1) : XW T X Γ (.BoolOp .Or [a] pos) k1 := fun H0 σ B H s Q k => ww (pw_or1 pt_w) (h H0 σ B H s Q k)
theorem xw_and {k1 k2 : Bool} (ha : XT T X Γ a k1) (hb : k1 = true → XW T X Γ (.BoolOp .And (b :: es) pos) k2) : XW T X Γ (.BoolOp .And (a :: b :: es) pos) (k1 && k2) := fun H0 σ B H s Q k =>
  ww (pw_and pt_w pw_w) (ha H0 σ B H s _ fun H2 r => by
    cases k1 with
    | false => rw [if_neg Bool.false_ne_true]; exact k H2 r
    | true => rw [if_pos rfl]; exact hb rfl H0 σ _ H2 (s.step r) _ fun H3 r3 => k H3 (r.trans r3))
theorem xw_or {k1 k2 : Bool} (ha : XT T X Γ a k1) (hb : k1 = false → XW T X Γ (.BoolOp .Or (b :: es) pos) k2) : XW T X Γ (.BoolOp .Or (a :: b :: es) pos) (k1 || k2) := fun H0 σ B H s Q k =>
  ww (pw_or pt_w pw_w) (ha H0 σ B H s _ fun H2 r => by
    cases k1 with
    | true => rw [if_pos rfl]; exact k H2 r
    | false => rw [if_neg Bool.false_ne_true]; exact hb rfl H0 σ _ H2 (s.step r) _ fun H3 r3 => k H3 (r.trans r3))
theorem XW.toT {k1 : Bool} (h : XW T X Γ a k1) : XT T X Γ a k1 := fun H0 σ B H s Q k => wt pw_w.pt (h H0 σ B H s Q k)
theorem xt_not {k1 : Bool} (h : XT T X Γ a k1) : XT T X Γ (.UnaryOp .Not a pos) (!k1) := fun H0 σ B H s Q k => wt (pt_not pt_w) (h H0 σ B H s _ k)
theorem xe_if {k1 : Bool} (hc : XT T X Γ c k1) (ha : k1 = true → XE T X Γ a d) (hb : k1 = false → XE T X Γ b d) : XE T X Γ (.IfExp c a b pos) d := fun H0 σ B H s Q k =>
  we (pe_ifExp pt_w pe_w pe_w) (hc H0 σ B H s _ fun H2 r => by
    cases k1 with
    | true => rw [if_pos rfl]; exact ha rfl H0 σ _ H2 (s.step r) _ fun u H3 r3 h3 => k u H3 (r.trans r3) (h3.mono (grow_grow r r3))
    | false => rw [if_neg Bool.false_ne_true]; exact hb rfl H0 σ _ H2 (s.step r) _ fun u H3 r3 h3 => k u H3 (r.trans r3) (h3.mono (grow_grow r r3)))
/-- x or y, x a text -/
theorem xe_orS {y : Str} (ha : XE T X Γ a (.str y)) (hl : y.length ≤ sizeLine) (hb : y.length = 0 → XE T X Γ (.BoolOp .Or (b :: es) pos) d2) : XE T X Γ (.BoolOp .Or (a :: b :: es) pos) (if y.length = 0 then d2 else .str y) := fun H0 σ B H s Q k =>
  we (pe_orT pe_w pe_w) (ha H0 σ B H s _ fun v H2 r h1 => by
    cases h1
    refine ⟨(y.length : Int) != 0, ⟨hl, rfl⟩, ?_⟩
    by_cases h : y.length = 0
    · rw [if_neg (by simp [h])]
      rw [if_pos h] at k
      exact hb h H0 σ _ H2 (s.step r) _ fun u H3 r3 h3 => k u H3 (r.trans r3) (h3.mono (grow_grow r r3))
    · rw [if_pos (by simp; omega)]
      rw [if_neg h] at k
      exact k _ H2 r (.str y))

/-! ### arguments, displays -/
theorem xa_nil : XA T X Γ [] [] := fun H0 σ B H s Q k => wa pa_nil (k [] H (.refl H) .nil)
theorem xa_cons {ds : List PyData} (ha : XE T X Γ a d) (hb : XA T X Γ es ds) (hs : starEach (a :: es) X.env = (false, eval a X.env) :: starEach es X.env := by rfl) : XA T X Γ (a :: es) (d :: ds) := fun H0 σ B H s Q k =>
  wa (pa_cons pe_w pa_w hs) (ha H0 σ B H s _ fun v H1 r1 h1 => hb H0 σ _ H1 (s.step r1) _ fun vs H2 r2 h2 => k _ H2 (r1.trans r2) (.cons (h1.mono (s.up r1 r2)) (h2.mono (grow_grow r1 r2))))
theorem xav_nil : XAV T X Γ [] [] := fun H0 σ B H s Q k => wa pa_nil (k H (.refl H))
theorem xav_cons {vs : List V} (ha : XV T X Γ a x) (hb : XAV T X Γ es vs) (hs : starEach (a :: es) X.env = (false, eval a X.env) :: starEach es X.env := by rfl) : XAV T X Γ (a :: es) (x :: vs) := fun H0 σ B H s Q k =>
  wa (pa_cons pe_w pa_w hs) (ha H0 σ B H s _ fun H1 r1 => hb H0 σ _ H1 (s.step r1) _ fun H2 r2 => k H2 (r1.trans r2))
theorem xn_lst {ds : List PyData} (h : XA T X Γ es ds) (hl : ds.length ≤ sizeLine) : XN T X Γ (.List es pos) ds := fun H0 σ B H s Q k =>
  we (pe_lst pa_w) (h H0 σ B H s _ fun vs H1 r hd => ⟨by rw [hd.length]; exact hl, fun p hp => k p vs H1 r hp hd⟩)
theorem tup_ntbl {vs : List V} : ∀ ps, HO.tup vs ≠ .tbl ps := fun _ e => by cases e
/-- a new tuple -/
theorem new_tup {p : Addr} {vs : List V} {ds : List PyData} (r : Rl T H H1) (hp : H1 p = none) (h : DenL K (grow B H H1) vs ds) : Den K (grow B H (upd H1 p (.tup vs))) (.ref p) (.tuple ds) :=
  .tup (.of (grow_new (r.free (nocc hp)) upd_same tup_gd)) (h.mono (grow_keep r hp))
theorem xe_tup {ds : List PyData} {k : Nat} (h : XA T X Γ es ds) (hl : ds.length ≤ sizeLine) : XE T X Γ (.Tuple es k pos) (.tuple ds) := fun H0 σ B H s Q k =>
  we (pe_tup pa_w) (h H0 σ B H s _ fun vs H1 r hd => ⟨by rw [hd.length]; exact hl, fun p hp => k _ _ (r.trans (.new hp)) (new_tup r hp hd)⟩)

/-! ### subscripts -/
theorem atI_len {α β : Type} {l : List α} {m : List β} (h : l.length = m.length) {n : Int} {y : β} (e : atI m n = some y) : ∃ j, ixN l.length n = some j ∧ m[j]? = some y := by
  unfold atI at e
  cases q : ixN m.length n with
  | none => rw [q] at e; cases e
  | some j => rw [q] at e; exact ⟨j, by rw [h]; exact q, e⟩
theorem DenL.atI {B : Hp} {vs : List V} {n : Int} (h : DenL K B vs xs) (e : atI xs n = some d) : ∃ v, L2.atI vs n = some v ∧ Den K B v d := by
  obtain ⟨j, h1, h2⟩ := atI_len h.length e
  obtain ⟨v, h3, h4⟩ := h.get h2
  exact ⟨v, by unfold L2.atI; rw [h1]; exact h3, h4⟩
theorem xe_ixL (ha : XL T X Γ a xs) (hb : XE T X Γ b (.int i)) (h : atI xs i = some d) (hs : PlainIx b := by intro _ _; rfl) : XE T X Γ (.Subscript a b pos) d := fun H0 σ B H s Q k =>
  we (pe_ix ix_list pe_w pe_w hs) (ha.two hb s fun p vs w H2 r q h1 h2 => by
    cases h2
    obtain ⟨v, h3, h4⟩ := h1.atI h
    exact ⟨p, vs, i, v, rfl, rfl, .inl q, h3, k v H2 r h4⟩)
theorem xe_ixT (ha : XE T X Γ a (.tuple xs)) (hb : XE T X Γ b (.int i)) (h : atI xs i = some d) (hs : PlainIx b := by intro _ _; rfl) : XE T X Γ (.Subscript a b pos) d := fun H0 σ B H s Q k =>
  we (pe_ix ix_tup pe_w pe_w hs) (ha.two hb s fun v w H2 r h1 h2 => by
    cases h2
    cases h1 with
    | tup q l =>
      obtain ⟨v, h3, h4⟩ := l.atI h
      exact ⟨_, _, i, v, rfl, rfl, same_t (s.le r) q, h3, k v H2 r h4⟩)
theorem xe_ixS {y : Str} {n : Nat} (ha : XE T X Γ a (.str y)) (hb : XE T X Γ b (.int i)) (hl : y.length ≤ sizeLine) (h : atI y.cps.toList i = some n) (hs : PlainIx b := by intro _ _; rfl) : XE T X Γ (.Subscript a b pos) (.str ⟨#[n]⟩) := fun H0 σ B H s Q k =>
  we (pe_ix ix_str pe_w pe_w hs) (ha.two hb s fun v w H2 r h1 h2 => by
    cases h1; cases h2
    exact ⟨y, i, n, rfl, rfl, hl, h, k _ H2 r (.str _)⟩)

/-! ### slices -/
def WO (X : Cx) (o : Option Expr) : TO := fun σ H Q => ∀ (pins : List (Addr × Obj)) (s : Shared), Inv X pins σ H s → wpAny (model X.prog X.w) X.A (evalPart o X.env) (fun u s' => ∃ o H', Inv X pins σ H' s' ∧ IsPart u o ∧ Q o H') X.xe s
theorem po_w {o : Option Expr} : PO X o (WO X o) := ⟨fun pins s σ H Q I h => h pins s I⟩
variable (T X Γ) in
def XO (o : Option Expr) (l : Option Int) : Prop := ∀ (H0 : Hp) (σ : L2.St) (B H : Hp), Sat X.K T H0 Γ σ B H → ∀ Q : Option Int → Hp → Prop, (∀ H', Rl T H H' → Q l H') → WO X o σ H Q
theorem xo_none : XO T X Γ none none := fun H0 σ B H s Q k pins st I => po_none.run pins st σ H Q I (k H (.refl H))
theorem xo_some (h : XE T X Γ e (.int i)) : XO T X Γ (some e) (some i) := fun H0 σ B H s Q k pins st I => (po_some pe_w).run pins st σ H Q I (h H0 σ B H s _ fun v H1 r h1 => by cases h1; exact ⟨i, rfl, k H1 r⟩)
/-- the items of xs[lo:hi] -/
def cut {α : Type} (xs : List α) (lo hi : Option Int) : List α := (xs.drop (HT.sIx xs.length 0 lo)).take (HT.sIx xs.length xs.length hi - HT.sIx xs.length 0 lo)
theorem DenL.cut {B : Hp} {vs : List V} (h : DenL K B vs xs) (lo hi : Option Int) : DenL K B (cutV vs lo hi) (PL.cut xs lo hi) := by
  unfold cutV PL.cut
  rw [h.length]
  exact (h.drop _).take _
theorem xn_sl {lo hi : Option Expr} {l u : Option Int} (ha : XL T X Γ a xs) (h1 : XO T X Γ lo l) (h2 : XO T X Γ hi u) (hz : PL.cut xs l u = ys := by rfl) : XN T X Γ (.Subscript a (.Slice lo hi none p2) pos) ys := hz ▸ fun H0 σ B H s Q k =>
  we (pe_slice sl_list pe_w po_w po_w) (ha H0 σ B H s _ fun p vs H1 r1 q1 hd => h1 H0 σ _ H1 (s.step r1) _ fun H2 r2 => h2 H0 σ _ H2 ((s.step r1).step r2) _ fun H3 r3 =>
    ⟨p, vs, rfl, .inl (rd_rl (r2.trans r3) q1), fun p' hp => k p' _ H3 (r1.trans (r2.trans r3)) hp ((hd.cut l u).mono (s.up r1 (r2.trans r3)))⟩)
theorem xe_slT {lo hi : Option Expr} {l u : Option Int} (ha : XE T X Γ a (.tuple xs)) (h1 : XO T X Γ lo l) (h2 : XO T X Γ hi u) (hz : PL.cut xs l u = ys := by rfl) : XE T X Γ (.Subscript a (.Slice lo hi none p2) pos) (.tuple ys) := hz ▸ fun H0 σ B H s Q k =>
  we (pe_slice sl_tupA pe_w po_w po_w) (ha H0 σ B H s _ fun v H1 r1 hd => h1 H0 σ _ H1 (s.step r1) _ fun H2 r2 => h2 H0 σ _ H2 ((s.step r1).step r2) _ fun H3 r3 => by
    have r := r1.trans (r2.trans r3)
    have hd3 := hd.mono (s.up r1 (r2.trans r3))
    cases hd3 with
    | @tup p vs _ q dl =>
      refine ⟨p, vs, rfl, same_t (s.le r) q, fun hw => ?_, fun hw p' hp => ?_⟩
      · have e : PL.cut xs l u = xs := by
          rw [dl.length] at hw
          unfold PL.cut
          rw [hw.1, hw.2]; simp
        rw [e] at k
        exact k _ H3 r (.tup q dl)
      · exact k _ _ (r.trans (.new hp)) (new_tup r hp (dl.cut l u)))
theorem xe_slS {y : Str} {lo hi : Option Expr} {l u : Option Int} (ha : XE T X Γ a (.str y)) (h1 : XO T X Γ lo l) (h2 : XO T X Γ hi u) (hl : y.length ≤ sizeLine) : XE T X Γ (.Subscript a (.Slice lo hi none p2) pos) (.str (cutS y l u)) := fun H0 σ B H s Q k =>
  we (pe_slice sl_str pe_w po_w po_w) (ha H0 σ B H s _ fun v H1 r1 hd => h1 H0 σ _ H1 (s.step r1) _ fun H2 r2 => h2 H0 σ _ H2 ((s.step r1).step r2) _ fun H3 r3 => by
    cases hd
    exact ⟨y, rfl, hl, k _ H3 (r1.trans (r2.trans r3)) (.str _)⟩)
/-- xs[::-1] -/
theorem xn_rev {k : Nat} {p1 p2 p3 pos : Pos} (ha : XL T X Γ a xs) (hz : xs.reverse = ys := by rfl) : XN T X Γ (.Subscript a (.Slice none none (some (.UnaryOp .USub (.Constant (.int 1) k p1) p2)) p3) pos) ys := hz ▸ fun H0 σ B H s Q kk =>
  we (pe_revL pe_w) (ha H0 σ B H s _ fun p vs H1 r q hd => ⟨p, vs, rfl, .inl q, fun p' hp => kk p' _ H1 r hp hd.rev⟩)

/-! ### operators on lists, tuples -/
theorem xe_catT (ha : XE T X Γ a (.tuple xs)) (hb : XE T X Γ b (.tuple ys)) {zs : List PyData} (hl : xs.length + ys.length ≤ sizeLine) (hz : xs ++ ys = zs := by rfl) : XE T X Γ (.BinOp a .Add b pos) (.tuple zs) := hz ▸ fun H0 σ B H s Q k =>
  we (pe_op op_catA pe_w pe_w) (ha.two hb s fun v w H2 r h1 h2 => by
    cases h1 with
    | @tup p vs _ q1 l1 =>
      cases h2 with
      | @tup p' ws _ q2 l2 =>
        refine ⟨p, p', vs, ws, rfl, rfl, same_t (s.le r) q1, same_t (s.le r) q2, by rw [l1.length, l2.length]; exact hl, fun z => ?_, fun _ z => ?_, fun _ _ p hp => k _ _ (r.trans (.new hp)) (new_tup r hp (l1.app l2))⟩
        · subst z; cases l1
          exact k _ H2 r (.tup q2 l2)
        · subst z; cases l2
          rw [List.append_nil] at k
          exact k _ H2 r (.tup q1 l1))
end
end PL

/-! PL3: built-in calls, calls of defs, what is walked, comprehensions. -/
namespace PL
open PySem PySem.Spec PyProof.Rows L2
section
variable {T : List (Addr × Str)} {X : Cx} {Γ Γ' : List Sl} {e a b c : Expr} {es : List Expr} {d d1 d2 : PyData} {xs ys : List PyData} {pos p2 : Pos} {H0 B H H1 H2 : Hp} {σ : L2.St} {i j : Int} {x : V}
variable {K : PySem.W.Frag} {y : Str} {p : Pos}

/-! ### built-in calls -/
/-- a built-in function of one argument -/
theorem we_B1 {id : String} {r : List V → Hp → VK → Prop} {Q : VK} {t : TE} (hc : CallR X (.builtin id) r) (hg : Gl X y) (hm : X.mg y = none) (hv : bootBuiltins y = some (.builtin id)) (hs : starEach [a] X.env = (false, eval a X.env) :: starEach [] X.env) (hn : y ≠ "__name__") (hdb : (y == ("__debug__" : Str)) = false)
    (h : WE X a σ H fun v H1 => r [v] H1 Q) : WE X (.Call (.Name y p) [a] [] pos) σ H Q :=
  we (pe_callB hc hg hm hv (pa_cons pe_w pa_nil hs) hn hdb hs rfl) h
theorem we_T1 {id : String} {r : List V → Hp → VK → Prop} {Q : VK} (hc : CallR X (.type id) r) (hg : Gl X y) (hm : X.mg y = none) (hv : bootBuiltins y = some (.type id)) (hs : starEach [a] X.env = (false, eval a X.env) :: starEach [] X.env) (hn : y ≠ "__name__") (hdb : (y == ("__debug__" : Str)) = false)
    (h : WE X a σ H fun v H1 => r [v] H1 Q) : WE X (.Call (.Name y p) [a] [] pos) σ H Q :=
  we (pe_callTy hc hg hm hv (pa_cons pe_w pa_nil hs) hn hdb hs rfl) h
theorem we_B2 {id : String} {r : List V → Hp → VK → Prop} {Q : VK} (hc : CallR X (.builtin id) r) (hg : Gl X y) (hm : X.mg y = none) (hv : bootBuiltins y = some (.builtin id)) (hs : starEach [a, b] X.env = (false, eval a X.env) :: starEach [b] X.env) (hs2 : starEach [b] X.env = (false, eval b X.env) :: starEach [] X.env) (hn : y ≠ "__name__") (hdb : (y == ("__debug__" : Str)) = false)
    (h : WE X a σ H fun v H1 => WE X b σ H1 fun w H2 => r [v, w] H2 Q) : WE X (.Call (.Name y p) [a, b] [] pos) σ H Q :=
  we (pe_callB hc hg hm hv (pa_cons pe_w (pa_cons pe_w pa_nil hs2) hs) hn hdb hs (by rw [hs2]; rfl)) h
theorem xe_len {m : Int} (hg : Gl X "len") (hm : X.mg "len" = none) (ha : XL T X Γ a xs) (hz : (xs.length : Int) = m := by rfl) (hs : starEach [a] X.env = (false, eval a X.env) :: starEach [] X.env := by rfl) : XE T X Γ (.Call (.Name "len" p) [a] [] pos) (.int m) := hz ▸ fun H0 σ B H s Q k =>
  we_B1 (t := WE X a) call_len_seq hg hm PySem.boot_len hs (by decide) (by decide) (ha H0 σ B H s _ fun q vs H1 r hq hd => ⟨q, vs, rfl, .inl (.inl hq), by rw [hd.length]; exact k _ H1 r (.int _)⟩)
theorem xe_lenT {m : Int} (hg : Gl X "len") (hm : X.mg "len" = none) (ha : XE T X Γ a (.tuple xs)) (hz : (xs.length : Int) = m := by rfl) (hs : starEach [a] X.env = (false, eval a X.env) :: starEach [] X.env := by rfl) : XE T X Γ (.Call (.Name "len" p) [a] [] pos) (.int m) := hz ▸ fun H0 σ B H s Q k =>
  we_B1 (t := WE X a) call_len_seq hg hm PySem.boot_len hs (by decide) (by decide) (ha H0 σ B H s _ fun v H1 r h1 => by
    cases h1 with
    | tup q l => exact ⟨_, _, rfl, .inr (same_t (s.le r) q), by rw [l.length]; exact k _ H1 r (.int _)⟩)
theorem xe_lenS {z : Str} {m : Int} (hg : Gl X "len") (hm : X.mg "len" = none) (ha : XE T X Γ a (.str z)) (hl : z.length ≤ sizeLine) (hz : (z.length : Int) = m := by rfl) (hs : starEach [a] X.env = (false, eval a X.env) :: starEach [] X.env := by rfl) : XE T X Γ (.Call (.Name "len" p) [a] [] pos) (.int m) := hz ▸ fun H0 σ B H s Q k =>
  we_B1 (t := WE X a) call_len_str hg hm PySem.boot_len hs (by decide) (by decide) (ha H0 σ B H s _ fun v H1 r h1 => by
    cases h1
    exact ⟨z, rfl, hl, k _ H1 r (.int _)⟩)
theorem xe_sum {ns : List Int} (hc : X.calm = true) (hg : Gl X "sum") (hm : X.mg "sum" = none) (ha : XL T X Γ a (ns.map .int)) (hs : starEach [a] X.env = (false, eval a X.env) :: starEach [] X.env := by rfl) : XE T X Γ (.Call (.Name "sum" p) [a] [] pos) (.int ns.sum) := fun H0 σ B H s Q k =>
  we_B1 (t := WE X a) (cr_sum hc) hg hm boot_sum hs (by decide) (by decide) (ha H0 σ B H s _ fun q vs H1 r hq hd => ⟨q, ns, rfl, by rw [← hd.ints]; exact .inl hq, k _ H1 r (.int _)⟩)
theorem xe_all {bs : List Bool} (hc : X.calm = true) (hg : Gl X "all") (hm : X.mg "all" = none) (ha : XL T X Γ a (bs.map .bool)) (hs : starEach [a] X.env = (false, eval a X.env) :: starEach [] X.env := by rfl) : XE T X Γ (.Call (.Name "all" p) [a] [] pos) (.bool (bs.all id)) := fun H0 σ B H s Q k =>
  we_B1 (t := WE X a) (cr_all hc) hg hm boot_all hs (by decide) (by decide) (ha H0 σ B H s _ fun q vs H1 r hq hd => ⟨q, bs, rfl, by rw [← hd.bools]; exact .inl hq, k _ H1 r (.bl _)⟩)
theorem xe_any {bs : List Bool} (hc : X.calm = true) (hg : Gl X "any") (hm : X.mg "any" = none) (ha : XL T X Γ a (bs.map .bool)) (hs : starEach [a] X.env = (false, eval a X.env) :: starEach [] X.env := by rfl) : XE T X Γ (.Call (.Name "any" p) [a] [] pos) (.bool (bs.any id)) := fun H0 σ B H s Q k =>
  we_B1 (t := WE X a) (cr_any hc) hg hm boot_any hs (by decide) (by decide) (ha H0 σ B H s _ fun q vs H1 r hq hd => ⟨q, bs, rfl, by rw [← hd.bools]; exact .inl hq, k _ H1 r (.bl _)⟩)
theorem xe_max2 (hc : X.calm = true) (hg : Gl X "max") (hm : X.mg "max" = none) (ha : XE T X Γ a (.int i)) (hb : XE T X Γ b (.int j)) (hs : starEach [a, b] X.env = (false, eval a X.env) :: starEach [b] X.env := by rfl) (hs2 : starEach [b] X.env = (false, eval b X.env) :: starEach [] X.env := by rfl) :
    XE T X Γ (.Call (.Name "max" p) [a, b] [] pos) (.int (max i j)) := fun H0 σ B H s Q k =>
  we_B2 (call_max2 hc) hg hm boot_max hs hs2 (by decide) (by decide) (ha.two hb s fun v w H2 r h1 h2 => by
    cases h1; cases h2
    exact ⟨i, j, rfl, by rw [show (if j > i then j else i) = max i j by split <;> omega]; exact k _ H2 r (.int _)⟩)
theorem xe_min2 (hc : X.calm = true) (hg : Gl X "min") (hm : X.mg "min" = none) (ha : XE T X Γ a (.int i)) (hb : XE T X Γ b (.int j)) (hs : starEach [a, b] X.env = (false, eval a X.env) :: starEach [b] X.env := by rfl) (hs2 : starEach [b] X.env = (false, eval b X.env) :: starEach [] X.env := by rfl) :
    XE T X Γ (.Call (.Name "min" p) [a, b] [] pos) (.int (min i j)) := fun H0 σ B H s Q k =>
  we_B2 (call_min2 hc) hg hm boot_min hs hs2 (by decide) (by decide) (ha.two hb s fun v w H2 r h1 h2 => by
    cases h1; cases h2
    exact ⟨i, j, rfl, by rw [show (if j < i then j else i) = min i j by split <;> omega]; exact k _ H2 r (.int _)⟩)
theorem xe_abs (hg : Gl X "abs") (hm : X.mg "abs" = none) (ha : XE T X Γ a (.int i)) (hs : starEach [a] X.env = (false, eval a X.env) :: starEach [] X.env := by rfl) : XE T X Γ (.Call (.Name "abs" p) [a] [] pos) (.int (if i < 0 then -i else i)) := fun H0 σ B H s Q k =>
  we_B1 (t := WE X a) call_abs hg hm boot_abs hs (by decide) (by decide) (ha H0 σ B H s _ fun v H1 r h1 => by cases h1; exact ⟨i, rfl, k _ H1 r (.int _)⟩)
theorem xe_intB {q : Bool} (hg : Gl X "int") (hm : X.mg "int" = none) (ha : XE T X Γ a (.bool q)) (hs : starEach [a] X.env = (false, eval a X.env) :: starEach [] X.env := by rfl) : XE T X Γ (.Call (.Name "int" p) [a] [] pos) (.int (if q then 1 else 0)) := fun H0 σ B H s Q k =>
  we_T1 call_int1 hg hm PyProof.Rows.boot_int hs (by decide) (by decide) (ha H0 σ B H s _ fun v H1 r h1 => by cases h1; exact .inr ⟨q, rfl, k _ H1 r (.int _)⟩)
theorem xe_strI (hg : Gl X "str") (hm : X.mg "str" = none) (ha : XE T X Γ a (.int i)) (hl : i.natAbs.log2 < 1920) (hs : starEach [a] X.env = (false, eval a X.env) :: starEach [] X.env := by rfl) : XE T X Γ (.Call (.Name "str" p) [a] [] pos) (.str (toString i)) := fun H0 σ B H s Q k =>
  we_T1 call_str_int hg hm PyProof.Rows.boot_str hs (by decide) (by decide) (ha H0 σ B H s _ fun v H1 r h1 => by cases h1; exact ⟨i, rfl, hl, k _ H1 r (.str _)⟩)
theorem xn_list (hg : Gl X "list") (hm : X.mg "list" = none) (ha : XL T X Γ a xs) (hs : starEach [a] X.env = (false, eval a X.env) :: starEach [] X.env := by rfl) : XN T X Γ (.Call (.Name "list" p) [a] [] pos) xs := fun H0 σ B H s Q k =>
  we_T1 call_list_of hg hm PyProof.Rows.boot_list hs (by decide) (by decide) (ha H0 σ B H s _ fun q vs H1 r hq hd => ⟨q, vs, rfl, .inl (.inl hq), fun l hl => k l vs H1 r hl hd⟩)
theorem xn_listT (hg : Gl X "list") (hm : X.mg "list" = none) (ha : XE T X Γ a (.tuple xs)) (hs : starEach [a] X.env = (false, eval a X.env) :: starEach [] X.env := by rfl) : XN T X Γ (.Call (.Name "list" p) [a] [] pos) xs := fun H0 σ B H s Q k =>
  we_T1 call_list_of hg hm PyProof.Rows.boot_list hs (by decide) (by decide) (ha H0 σ B H s _ fun v H1 r h1 => by
    cases h1 with
    | tup q l => exact ⟨_, _, rfl, .inr (same_t (s.le r) q), fun p hp => k p _ H1 r hp l⟩)
theorem xe_tupL (hg : Gl X "tuple") (hm : X.mg "tuple" = none) (ha : XL T X Γ a xs) (hs : starEach [a] X.env = (false, eval a X.env) :: starEach [] X.env := by rfl) : XE T X Γ (.Call (.Name "tuple" p) [a] [] pos) (.tuple xs) := fun H0 σ B H s Q k =>
  we_T1 call_tuple_of hg hm PyProof.Rows.boot_tuple hs (by decide) (by decide) (ha H0 σ B H s _ fun q vs H1 r hq hd => ⟨q, vs, rfl, .inl ⟨.inl hq, fun l hl => k _ _ (r.trans (.new hl)) (new_tup r hl hd)⟩⟩)
/-- the ints a .. b - 1 -/
def rg (a b : Int) : List Int := (List.range (b - a).toNat).map fun i => a + (i : Nat)
theorem rgV_eq (a b : Int) : rgV a b = (rg a b).map V.int := by unfold rgV rg; rw [List.map_map]; rfl
theorem xn_listR1 (hc : X.calm = true) (hg : Gl X "list") (hm : X.mg "list" = none) (hg2 : Gl X "range") (hm2 : X.mg "range" = none) (ha : XE T X Γ a (.int i)) (hr : -(2 ^ 62) ≤ i ∧ i ≤ 2 ^ 24) {q q2 : Pos} (hs : starEach [a] X.env = (false, eval a X.env) :: starEach [] X.env := by rfl) :
    XN T X Γ (.Call (.Name "list" p) [.Call (.Name "range" q) [a] [] q2] [] pos) ((rg 0 i).map .int) := fun H0 σ B H s Q k =>
  we (pe_listRg hc hg hm (prg_1 hg2 hm2 pe_w hs) rfl) (ha H0 σ B H s _ fun v H1 r h1 => by
    cases h1
    exact ⟨i, rfl, ⟨by omega, by omega, by omega, by omega, by omega⟩, fun p hp => by rw [rgV_eq]; exact k p _ H1 r hp (DenL.ofInts _)⟩)
theorem xn_listR2 (hc : X.calm = true) (hg : Gl X "list") (hm : X.mg "list" = none) (hg2 : Gl X "range") (hm2 : X.mg "range" = none) (ha : XE T X Γ a (.int i)) (hb : XE T X Γ b (.int j)) (hr : RgOk i j) {q q2 : Pos} (hs : starEach [a, b] X.env = (false, eval a X.env) :: starEach [b] X.env := by rfl) (hs2 : starEach [b] X.env = (false, eval b X.env) :: starEach [] X.env := by rfl)
    (hp : (backTo q2 (starEach [b] X.env)).any (·.1) = false := by rfl) :
    XN T X Γ (.Call (.Name "list" p) [.Call (.Name "range" q) [a, b] [] q2] [] pos) ((rg i j).map .int) := fun H0 σ B H s Q k =>
  we (pe_listRg hc hg hm (prg_2 hg2 hm2 pe_w pe_w hs hs2 hp) rfl) (ha.two hb s fun v w H1 r h1 h2 => by
    cases h1; cases h2
    exact ⟨i, j, rfl, rfl, hr, fun p hp => by rw [rgV_eq]; exact k p _ H1 r hp (DenL.ofInts _)⟩)
theorem xe_tupR2 (hc : X.calm = true) (hg : Gl X "tuple") (hm : X.mg "tuple" = none) (hg2 : Gl X "range") (hm2 : X.mg "range" = none) (ha : XE T X Γ a (.int i)) (hb : XE T X Γ b (.int j)) (hr : RgOk i j) {q q2 : Pos} (hs : starEach [a, b] X.env = (false, eval a X.env) :: starEach [b] X.env := by rfl) (hs2 : starEach [b] X.env = (false, eval b X.env) :: starEach [] X.env := by rfl)
    (hp : (backTo q2 (starEach [b] X.env)).any (·.1) = false := by rfl) :
    XE T X Γ (.Call (.Name "tuple" p) [.Call (.Name "range" q) [a, b] [] q2] [] pos) (.tuple ((rg i j).map .int)) := fun H0 σ B H s Q k =>
  we (pe_tupRg hc hg hm (prg_2 hg2 hm2 pe_w pe_w hs hs2 hp) rfl) (ha.two hb s fun v w H1 r h1 h2 => by
    cases h1; cases h2
    exact ⟨i, j, rfl, rfl, hr, fun p hp => by rw [rgV_eq]; exact k _ _ (r.trans (.new hp)) (new_tup r hp (DenL.ofInts _))⟩)
/-- sorted of whole numbers -/
def srt (ns : List Int) : List Int := ns.mergeSort fun a b => decide (a ≤ b)
theorem srt_eq {ns ms : List Int} (h : ms.Perm ns) (s : ms.Pairwise (· ≤ ·)) : ms = srt ns := by
  refine List.Perm.eq_of_pairwise (le := (· ≤ ·)) (fun a b _ _ h1 h2 => Int.le_antisymm h1 h2) s ?_ (h.trans (List.mergeSort_perm ns _).symm)
  have := List.pairwise_mergeSort (le := fun a b : Int => decide (a ≤ b)) (fun a b c h1 h2 => by simp at *; omega) (fun a b => by simp; omega) ns
  exact this.imp (by simp)
theorem xn_sorted {ns : List Int} (hg : Gl X "sorted") (hm : X.mg "sorted" = none) (ha : XL T X Γ a (ns.map .int)) (hs : starEach [a] X.env = (false, eval a X.env) :: starEach [] X.env := by rfl) : XN T X Γ (.Call (.Name "sorted" p) [a] [] pos) ((srt ns).map .int) := fun H0 σ B H s Q k =>
  we_B1 (t := WE X a) cr_sortedI hg hm boot_sorted hs (by decide) (by decide) (ha H0 σ B H s _ fun q vs H1 r hq hd => ⟨q, ns, rfl, by rw [← hd.ints]; exact .inl hq, fun ns' p hp1 hp2 hp => by
    rw [srt_eq hp1 hp2]
    exact k p _ H1 r hp (DenL.ofInts _)⟩)

/-! ### isinstance -/
def tyN : PyData → String
  | .none => "NoneType" | .bool _ => "bool" | .int _ => "int" | .str _ => "str" | .list _ => "list" | .tuple _ => "tuple" | .dict _ => "dict"
theorem den_ty {v : V} (h : Den K H v d) : TyX K H v (.type (tyN d)) := by
  cases h with
  | non => exact .base .non
  | bl b => exact .base (.bl b)
  | int i => exact .base (.int i)
  | str z => exact .base (.str z)
  | lst q _ =>
    rcases q with q | ⟨o, q⟩
    · exact .base (.lst q)
    · exact .base (.frz q)
  | tup q _ =>
    rcases q with (q | ⟨o, q⟩) | ⟨o, its, n, q, c, _⟩
    · exact .base (.tup q)
    · exact .fTuple q
    · exact .kTuple q c
  | dk q _ => exact .base (.dK q)
  | dt q _ => exact .base (.dT q)
theorem xe_isi {n : String} {q : Bool} (hg : Gl X "isinstance") (hm : X.mg "isinstance" = none) (ha : XD T X Γ a d) (hb : XV T X Γ b (.ty n)) (hk : kitB (tyN d) n = some q) (hs : starEach [a, b] X.env = (false, eval a X.env) :: starEach [b] X.env := by rfl) (hs2 : starEach [b] X.env = (false, eval b X.env) :: starEach [] X.env := by rfl) :
    XE T X Γ (.Call (.Name "isinstance" p) [a, b] [] pos) (.bool q) := fun H0 σ B H s Q k =>
  we_B2 call_isi hg hm boot_isinstance hs hs2 (by decide) (by decide) (ha H0 σ B H s _ fun v H1 r1 h1 => hb H0 σ _ H1 (s.step r1) _ fun H2 r2 =>
    ⟨v, .ty n, _, _, q, rfl, .ty n, den_ty (h1.rl r2), kit_ty hk, k _ H2 (r1.trans r2) (.bl q)⟩)

/-! ### a def's promise in data, its call -/
inductive Res where
  | ok (d : PyData)
  | ex (c : Value)
def spP (K : PySem.W.Frag) (T : List (Addr × Str)) (M : List PyData → Res → Prop) : Sp := fun vs H Q E => ∃ (B : Hp) (ds : List PyData) (r : Res), Same B H ∧ NoT B ∧ LamX.Tabs T H ∧ DenL K B vs ds ∧ M ds r ∧
  (∀ d v H', r = .ok d → Rl T H H' → Den K (grow B H H') v d → Q v H') ∧ (∀ c H', r = .ex c → Rl T H H' → E c none H')
/-- where a def stands, and what it promises -/
structure Cal (P : Program) (w : World) (K : PySem.W.Frag) (mg : Str → Option Value) (base : Heap) (T : List (Addr × Str)) (x : Str) (k : Nat) (M : List PyData → Res → Prop) : Prop where
  ex : ∃ (f : Addr) (fd : FuncData) (ps : List Str), FnOk P w K mg base (L2.CX P w) k f fd ps (spP K T M) ∧ mg x = some (.ref f) ∧ PySem.W.keepIn K (.ref f) = true ∧ Binds K fd ps []
theorem xe_call {k jj : Nat} {M : List PyData → Res → Prop} {ds : List PyData} (C : Cal X.prog X.w X.K X.mg X.base T y k M) (hr : Room jj X.A) (hk : k ≤ jj) (hg : Gl X y) (ha : XA T X Γ (e :: es) ds) (hM : M ds (.ok d)) (hdb : (y == ("__debug__" : Str)) = false := by decide)
    (he : starEach (e :: es) X.env = (false, eval e X.env) :: starEach es X.env := by rfl) (hpl : (backTo pos (starEach es X.env)).any (·.1) = false := by rfl) : XE T X Γ (.Call (.Name y p) (e :: es) [] pos) d := fun H0 σ B H s Q kk => by
  obtain ⟨f, fd, ps, F, m, kp, bi⟩ := C.ex
  refine we (pe_call F (hr.mono hk) hg m kp bi .nil passL pa_w hdb he hpl) ?_
  refine ha H0 σ B H s _ fun vs H1 r1 h1 => ?_
  show spP X.K T M (vs ++ []) H1 Q E0
  rw [List.append_nil]
  exact ⟨grow B H H1, ds, .ok d, s.le r1, grow_nt s.nt, r1.tabs s.tb, h1, hM, fun d' v H' e r2 hd => by cases e; exact kk v H' (r1.trans r2) (hd.mono (grow_grow r1 r2)), fun c H' e => by cases e⟩
/-- a call that may raise: the wish W is taken by what is around -/
def XR (T : List (Addr × Str)) (X : Cx) (Γ : List Sl) (e : Expr) (r : Res) : Prop := ∀ (H0 : Hp) (σ : L2.St) (B H : Hp), Sat X.K T H0 Γ σ B H → ∀ (Q : VK) (W : WX), Takes X W →
  (∀ d v H', r = .ok d → Rl T H H' → Den X.K (grow B H H') v d → Q v H') → (∀ c H', r = .ex c → Rl T H H' → W c none σ H') → WE X e σ H Q
theorem XE.toR (h : XE T X Γ e d) : XR T X Γ e (.ok d) := fun H0 σ B H s Q W _ k _ => h H0 σ B H s Q fun v H' r hd => k d v H' rfl r hd
theorem xr_call {k jj : Nat} {M : List PyData → Res → Prop} {ds : List PyData} {r : Res} (C : Cal X.prog X.w X.K X.mg X.base T y k M) (hr : Room jj X.A) (hk : k ≤ jj) (hg : Gl X y) (ha : XA T X Γ (e :: es) ds) (hM : M ds r) (hdb : (y == ("__debug__" : Str)) = false := by decide)
    (he : starEach (e :: es) X.env = (false, eval e X.env) :: starEach es X.env := by rfl) (hpl : (backTo pos (starEach es X.env)).any (·.1) = false := by rfl) : XR T X Γ (.Call (.Name y p) (e :: es) [] pos) r := fun H0 σ B H s Q W tk kk kx => by
  obtain ⟨f, fd, ps, F, m, kp, bi⟩ := C.ex
  intro pins st I
  refine wpAny_Call_Name_kw (ld_glob I hg m ?_ hdb)
  refine PySem.W.callWith_K (h₀ := X.base) I.ok.mod.kin kp (thn (ha H0 σ B H s (fun vs H1 => Rl T H H1 ∧ DenL X.K (grow B H H1) vs ds) (fun vs H1 r1 h1 => ⟨r1, h1⟩) pos pins st I) fun us s1 ⟨vs, H1, I1, rv, r1, h1⟩ => ⟨I1.kIn, ?_⟩) he hpl
  have hl : us.length = ps.length := by rw [← rv.length]; exact F.len _ _ Q (fun _ _ _ => True) ⟨grow B H H1, ds, r, s.le r1, grow_nt s.nt, r1.tabs s.tb, h1, hM, fun _ _ _ e r2 hd => kk _ _ _ e (r1.trans r2) (hd.mono (grow_grow r1 r2)), fun _ _ _ _ => trivial⟩
  have hb' := bi s1 us I1.kIn (by rw [List.append_nil]; exact hl)
  rw [List.append_nil] at hb'
  refine wpAny_call (codeAny_mono (F.run X.A X.stack s1 H1 ⟨us, []⟩ us vs Q (fun cls d H' => W cls d σ H') (hr.mono hk) I1.env0 hb' rv ⟨grow B H H1, ds, r, s.le r1, grow_nt s.nt, r1.tabs s.tb, h1, hM,
    fun d v H' e r2 hd => kk d v H' e (r1.trans r2) (hd.mono (grow_grow r1 r2)), fun c H' e r2 => kx c H' e (r1.trans r2)⟩) fun rr s' hq => ?_)
  cases rr with
  | error e => exact tk e s' (XE.of_call I1 (fun _ _ _ h => h) hq)
  | ok fl =>
    cases fl with
    | ret u => exact I1.after hq
    | next => exact False.elim hq
    | brk => exact False.elim hq
    | cont => exact False.elim hq
end
end PL

/-! PL4: targets, what is walked, comprehensions, statements. -/
namespace PL
open PySem PySem.Spec PyProof.Rows L2

/-! ### targets -/
def WG (X : Cx) (tg : Expr) : TG := fun v σ H Q => ∀ (pins : List (Addr × Obj)) (s : Shared) (u : Value), Inv X pins σ H s → RelV v u → wpAny (model X.prog X.w) X.A (assign tg X.env u) (fun _ s' => ∃ σ' H', Inv X pins σ' H' s' ∧ Q σ' H') X.xe s
def WGs (X : Cx) (ts : List Expr) : TGs := fun vs σ H Q => ∀ (pins : List (Addr × Obj)) (s : Shared) (us : List Value), Inv X pins σ H s → Vals vs us → wpAny (model X.prog X.w) X.A (assignInOrder ((assignEach ts X.env).map (·.2)) us) (fun _ s' => ∃ σ' H', Inv X pins σ' H' s' ∧ Q σ' H') X.xe s
theorem pg_w {X : Cx} {tg : Expr} : PG X tg (WG X tg) := ⟨fun pins s σ H v u Q I r h => h pins s u I r⟩
theorem pgs_w {X : Cx} {ts : List Expr} : PGs X ts (WGs X ts) := ⟨fun pins s σ H vs us Q I r h => h pins s us I r⟩
theorem wg {X : Cx} {tg : Expr} {t : TG} {v : V} {σ : L2.St} {H : Hp} {Q : L2.St → Hp → Prop} (h : PG X tg t) (q : t v σ H Q) : WG X tg v σ H Q := fun pins s u I r => h.run pins s σ H v u Q I r q
theorem wgs {X : Cx} {ts : List Expr} {t : TGs} {vs : List V} {σ : L2.St} {H : Hp} {Q : L2.St → Hp → Prop} (h : PGs X ts t) (q : t vs σ H Q) : WGs X ts vs σ H Q := fun pins s us I r => h.run pins s σ H vs us Q I r q
/-- only the slots vs may have changed -/
def Only (vs : List Nat) (σ σ' : L2.St) : Prop := σ'.length = σ.length ∧ ∀ m : Nat, m ∉ vs → σ'[m]? = σ[m]?
theorem Only.trans {vs : List Nat} {σ σ' σ'' : L2.St} (a : Only vs σ σ') (b : Only vs σ' σ'') : Only vs σ σ'' := ⟨b.1.trans a.1, fun m h => (b.2 m h).trans (a.2 m h)⟩
section
variable (T : List (Addr × Str)) (X : Cx) (vs : List Nat)
def XG (tg : Expr) (d : PyData) (Γ Γ' : List Sl) : Prop := ∀ (H0 : Hp) (σ : L2.St) (B H : Hp) (v : V), Sat X.K T H0 Γ σ B H → Den X.K B v d → ∀ Q : L2.St → Hp → Prop, (∀ σ', Sat X.K T H0 Γ' σ' B H → Only vs σ σ' → Q σ' H) → WG X tg v σ H Q
def XGs (ts : List Expr) (ds : List PyData) (Γ Γ' : List Sl) : Prop := ∀ (H0 : Hp) (σ : L2.St) (B H : Hp) (ws : List V), Sat X.K T H0 Γ σ B H → DenL X.K B ws ds → ∀ Q : L2.St → Hp → Prop, (∀ σ', Sat X.K T H0 Γ' σ' B H → Only vs σ σ' → Q σ' H) → WGs X ts ws σ H Q
end
section
variable {T : List (Addr × Str)} {X : Cx} {vs : List Nat} {Γ Γ' Γ'' : List Sl} {d : PyData} {ds : List PyData} {y : Str} {pos : Pos} {n : Nat} {tg : Expr} {ts : List Expr}
theorem only_set {σ : L2.St} {o : Option V} (h : n ∈ vs) : Only vs σ (σ.set n o) := ⟨by simp, fun m hm => List.getElem?_set_ne (by intro e; subst e; exact hm h)⟩
theorem xg_name (n : Nat) (hN : X.N.Nodup) (hi : X.N[n]? = some y := by rfl) (hx : Loc X.env.scope y := by first | exact Or.inl rfl | exact Or.inr rfl) (hv : n ∈ vs := by decide) (hf : X.fn y = true ∨ X.env.scope.names.lookup y = some .local := by first | exact .inl rfl | exact .inr rfl | assumption) : XG T X vs (.Name y pos) d Γ (Γ.set n (.d d)) := fun H0 σ B H v s hd Q k =>
  wg (pg_name hN hi hx hf) (k _ (s.setD hd) (only_set hv))
theorem xgs_nil : XGs T X vs [] [] Γ Γ := fun H0 σ B H ws s hd Q k => wgs pgs_nil (by cases hd; exact ⟨rfl, k σ s ⟨rfl, fun _ _ => rfl⟩⟩)
theorem xgs_cons (h1 : XG T X vs tg d Γ Γ') (h2 : XGs T X vs ts ds Γ' Γ'') (hs : (assignEach (tg :: ts) X.env).map (·.2) = assign tg X.env :: (assignEach ts X.env).map (·.2) := by rfl) : XGs T X vs (tg :: ts) (d :: ds) Γ Γ'' := fun H0 σ B H ws s hd Q k =>
  wgs (pgs_cons pg_w pgs_w hs) (by
    cases hd with
    | cons a b => exact ⟨_, _, rfl, h1 H0 σ B H _ s a _ fun σ' s' o => h2 H0 σ' B H _ s' b _ fun σ'' s'' o' => k σ'' s'' (o.trans o')⟩)
theorem xg_tup {k : Nat} (hc : X.calm = true) (h : XGs T X vs ts ds Γ Γ') (hn : (assignEach ts X.env).length = ds.length := by rfl) (hst : (assignEach ts X.env).findIdx? (·.1) = none := by rfl) : XG T X vs (.Tuple ts k pos) (.tuple ds) Γ Γ' := fun H0 σ B H v s hd Q kk =>
  wg (pg_tup hc pgs_w hn hst) (by
    cases hd with
    | tup q l => exact ⟨_, _, rfl, same_t s.sub q, l.length, h H0 σ B H _ s l _ kk⟩)
end

/-! ### what is walked -/
structure ItOk (K : PySem.W.Frag) (T : List (Addr × Str)) (J : It) (xs : List PyData) (B1 : Hp) : Prop where
  go : ∀ (i : Nat) (H : Hp), Same B1 H → i < xs.length → J.go i H
  stop : ∀ H : Hp, Same B1 H → J.stop xs.length H
  yld : ∀ (i : Nat) (v : V) (H H' : Hp) (d : PyData), Same B1 H → xs[i]? = some d → J.yld i H v H' → Rl T H H' ∧ ∀ B : Hp, Same B1 B → Same B H → NoT B → Den K (grow B H H') v d
def WI (X : Cx) (tg iter : Expr) : TI := fun σ H R => ∀ (pins : List (Addr × Obj)) (s : Shared), Inv X pins σ H s → wpAny (model X.prog X.w) X.A (eval iter X.env) (fun v s1 => wpAny (model X.prog X.w) X.A (pyIter v) (PIE X pins σ tg R) X.xe s1) X.xe s
theorem pi_w {X : Cx} {tg iter : Expr} : PI X tg iter (WI X tg iter) := ⟨fun pins s σ H R I h => h pins s I⟩
theorem wi {X : Cx} {tg iter : Expr} {t : TI} {σ : L2.St} {H : Hp} {R : It → Hp → Prop} (h : PI X tg iter t) (q : t σ H R) : WI X tg iter σ H R := fun pins s I => h.run pins s σ H R I q
def XI (T : List (Addr × Str)) (X : Cx) (Γ : List Sl) (tg iter : Expr) (xs : List PyData) : Prop := ∀ (H0 : Hp) (σ : L2.St) (B H : Hp), Sat X.K T H0 Γ σ B H → ∀ R : It → Hp → Prop, (∀ J H1, Rl T H H1 → ItOk X.K T J xs (grow B H H1) → R J H1) → WI X tg iter σ H R
section
variable {T : List (Addr × Str)} {X : Cx} {Γ : List Sl} {e a b tg : Expr} {xs ys : List PyData} {i j : Int} {p pos : Pos}
theorem itok_l {K : PySem.W.Frag} {B1 : Hp} {q : Addr} {vs : List V} (h : Rd B1 q (.lst vs)) (hd : DenL K B1 vs xs) : ItOk K T (Itl K q) xs B1 where
  go := fun i H s hi => ⟨vs, vs[i]'(by rw [hd.length]; exact hi), (.inl (same_rd s h)), by simp⟩
  stop := fun H s => ⟨vs, (.inl (same_rd s h)), by rw [hd.length]; exact Nat.le_refl _⟩
  yld := fun i v H H' d s hi hy => by
    obtain ⟨e, hy⟩ := hy
    subst e
    refine ⟨.refl _, fun B s1 s2 nt => ?_⟩
    obtain ⟨w, h1, h2⟩ := hd.get hi
    have z := hy vs ((.inl (same_rd s h)))
    rw [h1] at z; cases z
    exact (h2.mono s1).mono (sub_grow s2 nt)
theorem itok_t {K : PySem.W.Frag} {B1 : Hp} {q : Addr} {vs : List V} (h : SqT K B1 q vs) (hd : DenL K B1 vs xs) : ItOk K T (Itt K q) xs B1 where
  go := fun i H s hi => ⟨vs, vs[i]'(by rw [hd.length]; exact hi), same_t s h, by simp⟩
  stop := fun H s => ⟨vs, same_t s h, by rw [hd.length]; exact Nat.le_refl _⟩
  yld := fun i v H H' d s hi hy => by
    obtain ⟨e, hy⟩ := hy
    subst e
    refine ⟨.refl _, fun B s1 s2 nt => ?_⟩
    obtain ⟨w, h1, h2⟩ := hd.get hi
    have z := hy vs (same_t s h)
    rw [h1] at z; cases z
    exact (h2.mono s1).mono (sub_grow s2 nt)
theorem rg_length (a b : Int) : (rg a b).length = (b - a).toNat := by unfold rg; simp
theorem rg_get {a b : Int} {n : Nat} (h : n < (b - a).toNat) : (rg a b)[n]? = some (a + n) := by unfold rg; rw [List.getElem?_map, List.getElem?_range h]; rfl
theorem rg_get' {a b z : Int} {n : Nat} (h : (rg a b)[n]? = some z) : z = a + n ∧ n < (b - a).toNat := by
  have hl := (List.getElem?_eq_some_iff.mp h).1
  rw [rg_length] at hl
  rw [rg_get hl] at h; cases h; exact ⟨rfl, hl⟩
theorem rg_mem {a b z : Int} : z ∈ rg a b ↔ a ≤ z ∧ z < b := by
  unfold rg
  simp only [List.mem_map, List.mem_range]
  constructor
  · rintro ⟨n, h, rfl⟩; omega
  · intro h; exact ⟨(z - a).toNat, by omega, by omega⟩
theorem itok_r {K : PySem.W.Frag} {B1 : Hp} : ItOk K T (Itr i (j - i).toNat) ((rg i j).map .int) B1 where
  go := fun n H s hi => by
    rw [List.length_map, rg_length] at hi
    exact hi
  stop := fun H s => by
    rw [List.length_map, rg_length]
    exact Nat.le_refl _
  yld := fun n v H H' d s hi hy => by
    obtain ⟨e, hy⟩ := hy
    subst e
    refine ⟨.refl _, fun B s1 s2 nt => ?_⟩
    rw [List.getElem?_map] at hi
    cases hq : (rg i j)[n]? with
    | none => rw [hq] at hi; cases hi
    | some z =>
      rw [hq] at hi; cases hi
      obtain ⟨rfl, _⟩ := rg_get' hq
      rw [hy]; exact .int _
theorem xi_list (h : XE T X Γ e (.list xs)) : XI T X Γ tg e xs := fun H0 σ B H s R k => wi (pi_list pe_w) (h H0 σ B H s _ fun v H1 r hd => by
  cases hd with
  | lst q l => exact ⟨_, rfl, ⟨_, .inl (same_rd (s.le r) q)⟩, k _ H1 r (itok_l q l)⟩)
theorem xi_tup (h : XE T X Γ e (.tuple xs)) : XI T X Γ tg e xs := fun H0 σ B H s R k => wi (pi_tup pe_w) (h H0 σ B H s _ fun v H1 r hd => by
  cases hd with
  | tup q l => exact ⟨_, rfl, ⟨_, same_t (s.le r) q⟩, k _ H1 r (itok_t q l)⟩)
theorem xi_range1 (hg : Gl X "range") (hm : X.mg "range" = none) (ha : XE T X Γ a (.int j)) (hr : -(2 ^ 62) ≤ j ∧ j < 2 ^ 62) (hs : starEach [a] X.env = (false, eval a X.env) :: starEach [] X.env := by rfl) : XI T X Γ tg (.Call (.Name "range" p) [a] [] pos) ((rg 0 j).map .int) := fun H0 σ B H s R k =>
  wi (pi_range1 hg hm (pa_cons pe_w pa_nil hs) hs) (ha H0 σ B H s _ fun v H1 r hd => by
    cases hd
    have q := itok_r (T := T) (K := X.K) (B1 := grow B H H1) (i := 0) (j := j)
    rw [Int.sub_zero] at q
    exact ⟨j, rfl, hr.1, hr.2, k _ H1 r q⟩)
theorem xi_range2 (hg : Gl X "range") (hm : X.mg "range" = none) (ha : XE T X Γ a (.int i)) (hb : XE T X Γ b (.int j)) (hr : -(2 ^ 62) ≤ i ∧ i < 2 ^ 62 ∧ -(2 ^ 62) ≤ j ∧ j < 2 ^ 62) (hs : starEach [a, b] X.env = (false, eval a X.env) :: starEach [b] X.env := by rfl) (hs2 : starEach [b] X.env = (false, eval b X.env) :: starEach [] X.env := by rfl) :
    XI T X Γ tg (.Call (.Name "range" p) [a, b] [] pos) ((rg i j).map .int) := fun H0 σ B H s R k =>
  wi (pi_range2 hg hm (pa_cons pe_w (pa_cons pe_w pa_nil hs2) hs) (by rw [hs, hs2]; rfl) (by rw [hs2]; rfl)) (ha.two hb s fun v w H1 r h1 h2 => by
    cases h1; cases h2
    exact ⟨i, j, rfl, hr, k _ H1 r itok_r⟩)
end

/-! ### comprehensions -/
def wipeG (Γ : List Sl) : List Nat → List Sl
  | [] => Γ
  | v :: vs => (wipeG Γ vs).set v .no
section
variable {K : PySem.W.Frag} {T : List (Addr × Str)} {H0 B0 B H H1 : Hp} {Γ : List Sl} {σ σ' : L2.St} {p : Addr} {us ws : List V}
theorem Sat.wipe (s : Sat K T H0 Γ σ B H) : ∀ vs : List Nat, Sat K T H0 (wipeG Γ vs) (wipe σ vs) B H
  | [] => s
  | v :: vs => (Sat.wipe s vs).setN
theorem wipe_get (σ : L2.St) : ∀ (vs : List Nat) (m : Nat), (wipe σ vs)[m]? = if m ∈ vs then (if m < σ.length then some none else none) else σ[m]?
  | [], m => by simp [L2.wipe]
  | v :: vs, m => by
    unfold L2.wipe
    by_cases h : v = m
    · subst h
      rw [List.getElem?_set]
      simp [wipe_length]
    · rw [List.getElem?_set_ne h, wipe_get σ vs m]
      have e : (m ∈ v :: vs) ↔ m ∈ vs := by simp [Ne.symm h]
      simp only [e]
theorem wipe_only {vs : List Nat} (h : Only vs (wipe σ vs) σ') : wipe σ' vs = wipe σ vs := by
  have hl : σ'.length = σ.length := by rw [h.1, wipe_length]
  apply List.ext_getElem?
  intro m
  rw [wipe_get, wipe_get, hl]
  by_cases hm : m ∈ vs
  · simp [hm]
  · have q := h.2 m hm
    rw [wipe_get] at q
    simp only [hm, if_false] at q ⊢
    exact q
/-- a list that no slot holds as its own, and that is in no data, is changed -/
theorem Sat.poke (s : Sat K T H0 Γ σ B H) (hb : B p = none) (hp : H p = some (.lst us)) (hn : ∀ (j : Nat) (d : List PyData), Γ[j]? = some (.own d) → σ[j]? ≠ some (some (.ref p))) : Sat K T H0 Γ σ B (upd H p (.lst ws)) := by
  refine ⟨fun a o e => by rw [upd_ne (ne_of_none e hb)]; exact s.sub a o e, s.nt, Tabs.upd' hp s.tb, s.len, fun j sl e => ?_, s.ap⟩
  have q := s.sl j sl e
  cases sl with
  | no => trivial
  | d x => exact q
  | v x => exact q
  | own zs =>
    obtain ⟨q, us', h1, h2, h3, h4, h5⟩ := q
    have : q ≠ p := fun z => hn j _ e (by rw [h1, z])
    exact ⟨q, us', h1, h2, h3, by rw [upd_ne this]; exact h4, h5⟩
/-- a new list is laid -/
theorem Sat.lay (s : Sat K T H0 Γ σ B H) (hp : H p = none) : Sat K T H0 Γ σ B (upd H p (.lst us)) := by
  have r : Rl T H (upd H p (.lst us)) := .new hp
  refine ⟨r.same s.sub s.nt, s.nt, r.tabs s.tb, s.len, fun j sl e => ?_, s.ap⟩
  have q := s.sl j sl e
  cases sl with
  | no => trivial
  | d x => exact q
  | v x => exact q
  | own zs =>
    obtain ⟨q, us', h1, h2, h3, h4, h5⟩ := q
    exact ⟨q, us', h1, h2, h3, r.ext q _ h4 lst_ntbl, h5⟩
theorem wipeG_own {j : Nat} {d : List PyData} : ∀ {vs : List Nat}, (wipeG Γ vs)[j]? = some (.own d) → Γ[j]? = some (.own d)
  | [], h => h
  | v :: vs, h => by
    unfold wipeG at h
    rcases get_set h with ⟨_, z, _⟩ | ⟨_, h⟩
    · cases z
    · exact wipeG_own h
theorem wipe_ref {j : Nat} {vs : List Nat} {q : Addr} (h : (wipe σ vs)[j]? = some (some (.ref q))) : σ[j]? = some (some (.ref q)) := by
  rw [wipe_get] at h
  split at h
  · split at h <;> cases h
  · exact h
end
def hide (p : Addr) (H : Hp) : Hp := fun a => if a = p then none else H a
theorem upd_hide {p : Addr} {H : Hp} {o : HO} (h : H p = some o) : upd (hide p H) p o = H := by
  funext a; unfold upd hide
  by_cases e : a = p
  · subst e; rw [if_pos rfl, h]
  · rw [if_neg e, if_neg e]
section
variable {T : List (Addr × Str)} {X : Cx} {Γ : List Sl} {elt tg iter e : Expr} {ifs : List Expr} {scope : Scope} {own : List (Str × Nat)} {pos : Pos}
/-- a clause's tests -/
def WTs (X : Cx) (ifs : List Expr) : TT := fun σ H Q => ∀ (pins : List (Addr × Obj)) (s : Shared), Inv X pins σ H s →
  wpAny (model X.prog X.w) X.A (forIn ifs true fun c r => if r = true then do let ok ← isTrue c X.env (eval c X.env); pure (ForInStep.yield ok) else pure (ForInStep.yield r)) (TP X pins σ Q) X.xe s
def XTs (T : List (Addr × Str)) (X : Cx) (Γ : List Sl) (ifs : List Expr) (b : Bool) : Prop := ∀ (H0 : Hp) (σ : L2.St) (B H : Hp), Sat X.K T H0 Γ σ B H → ∀ Q : Bool → Hp → Prop, (∀ H', Rl T H H' → Q b H') → WTs X ifs σ H Q
theorem xts_nil : XTs T X Γ [] true := fun H0 σ B H s Q k pins st I => pts_nil.run pins st σ H Q I (k H (.refl H))
theorem xts_one {b : Bool} (h : XT T X Γ e b) : XTs T X Γ [e] b := fun H0 σ B H s Q k pins st I => (pts_one pt_w).run pins st σ H Q I (h H0 σ B H s Q k)
abbrev Blk (X : Cx) (scope : Scope) (s : Shared) (H : Hp) (C : Addr) (cl : List (Str × Addr)) (fp : List Addr) : Cx := X.blk s H scope (compEnvC scope cl C X.env) fp
/-- what a comprehension asks -/
structure LcOk (T : List (Addr × Str)) (X : Cx) (Γ : List Sl) (elt tg iter : Expr) (ifs : List Expr) (scope : Scope) (own : List (Str × Nat)) {α : Type} (ys : List α) (g f : α → PyData) (t : α → Bool) : Prop where
  it : XI T X Γ tg iter (ys.map g)
  ok : BlkOk X.N X.env.scope scope own
  body : ∀ y ∈ ys, ∃ Γ' : List Sl, (∀ s H C cl fp, XG T (Blk X scope s H C cl fp) (own.map (·.2)) tg (g y) (wipeG Γ (own.map (·.2))) Γ') ∧ (∀ s H C cl fp, XTs T (Blk X scope s H C cl fp) Γ' ifs (t y)) ∧
    (t y = true → ∀ s H C cl fp, XE T (Blk X scope s H C cl fp) Γ' elt (f y))
  len : ys.length < sizeLine
def gB (X : Cx) (scope : Scope) (tg : Expr) : TG := fun v σ H Q => ∀ s H' C cl fp, WG (Blk X scope s H' C cl fp) tg v σ H Q
def tB' (X : Cx) (scope : Scope) (ifs : List Expr) : TT := fun σ H Q => ∀ s H' C cl fp, WTs (Blk X scope s H' C cl fp) ifs σ H Q
def eB (X : Cx) (scope : Scope) (elt : Expr) : TE := fun σ H Q => ∀ s H' C cl fp, WE (Blk X scope s H' C cl fp) elt σ H Q
theorem pg_b (s : Shared) (H : Hp) (C : Addr) (cl : List (Str × Addr)) (fp : List Addr) : PG (Blk X scope s H C cl fp) tg (gB X scope tg) := ⟨fun pins st σ H' v u Q I r h => h s H C cl fp pins st u I r⟩
theorem pt_b (s : Shared) (H : Hp) (C : Addr) (cl : List (Str × Addr)) (fp : List Addr) : PTs (Blk X scope s H C cl fp) ifs (tB' X scope ifs) := ⟨fun pins st σ H' Q I h => h s H C cl fp pins st I⟩
theorem pe_b (s : Shared) (H : Hp) (C : Addr) (cl : List (Str × Addr)) (fp : List Addr) : PE (Blk X scope s H C cl fp) elt (eB X scope elt) := ⟨fun pins st σ H' Q I h => h s H C cl fp pins st I⟩
/-- the contexts' quantifiers, pulled in -/
theorem gB_of {v : V} {σ : L2.St} {H : Hp} {Q : L2.St → Hp → Prop} (h : ∀ s H' C cl fp, WG (Blk X scope s H' C cl fp) tg v σ H Q) : gB X scope tg v σ H Q := h
theorem lc_read {α : Type} {ys : List α} {g f : α → PyData} {t : α → Bool} (L : LcOk T X Γ elt tg iter ifs scope own ys g f t) {H0 B H : Hp} {σ : L2.St} (s : Sat X.K T H0 Γ σ B H) {Q : VK}
    (k : ∀ p vs H1, Rl T H H1 → H1 p = none → DenL X.K (grow B H H1) vs ((ys.filter t).map f) → Q (.ref p) (upd H1 p (.lst vs))) :
    tLc (WI X tg iter) (gB X scope tg) (tB' X scope ifs) (eB X scope elt) (own.map (·.2)) σ H Q := by
  refine L.it H0 σ B H s _ fun J H1 r1 J1 D hD => ?_
  have S1 := s.step r1
  have hDH : ¬ Occ H D := r1.free (nocc hD)
  have own0 := s.own_ne hDH
  generalize hvs : own.map (·.2) = vs at *
  refine ⟨fun i m Hi => m = ys.length - i ∧ i ≤ ys.length ∧ ∃ (Bi : Hp) (acc : List V), Sat X.K T H0 (wipeG Γ vs) (wipe σ vs) Bi Hi ∧ Same (grow B H H1) Bi ∧ Hi D = some (.lst acc) ∧ Bi D = none ∧ Rel T B H Bi Hi ∧ DenL X.K Bi acc (((ys.take i).filter t).map f),
    ⟨ys.length, by simp, Nat.zero_le _, grow B H H1, [], (S1.lay hD).wipe vs, fun _ _ h => h, upd_same, grow_none hDH hD, ⟨r1.trans (.new hD), grow_keep r1 hD⟩, by simp; exact .nil⟩, ?_⟩
  rintro i m Hi ⟨rfl, hi, Bi, acc, Si, sub, hDi, hBD, rel, dl⟩
  have sH : Same (grow B H H1) Hi := fun a o e => Si.sub a o (sub a o e)
  by_cases hlt : i < ys.length
  · refine .inr ⟨J1.go i Hi sH (by simpa using hlt), fun Hn => ∃ (Bi : Hp) (acc : List V), Sat X.K T H0 (wipeG Γ vs) (wipe σ vs) Bi Hn ∧ Same (grow B H H1) Bi ∧ Hn D = some (.lst acc) ∧ Bi D = none ∧ Rel T B H Bi Hn ∧ DenL X.K Bi acc (((ys.take (i + 1)).filter t).map f),
      fun Hn h => ⟨ys.length - (i + 1), by omega, rfl, hlt, h⟩, fun x H' hy => ?_⟩
    obtain ⟨y, ey⟩ : ∃ y, ys[i]? = some y := ⟨ys[i], by simp [hlt]⟩
    have hmem : y ∈ ys := List.mem_of_getElem? ey
    obtain ⟨rl, den⟩ := J1.yld i x Hi H' (g y) sH (by rw [List.getElem?_map, ey]; rfl) hy
    have dx := den Bi sub Si.sub Si.nt
    have S2 := Si.step rl
    have e1 : ys.take (i + 1) = ys.take i ++ [y] := by rw [List.take_add_one, ey]; rfl
    obtain ⟨Γ', hg, ht, he⟩ := L.body y hmem
    simp only [hvs] at hg
    have rel2 := rel.step rl
    have nap : ∀ (j : Nat) (d : List PyData), (wipeG Γ vs)[j]? = some (.own d) → (wipe σ vs)[j]? ≠ some (some (.ref D)) := fun j d h z => own0 j d (wipeG_own h) (wipe_ref z)
    -- the target, the tests, the element: in every context
    suffices h : ∀ s' H'' C cl fp, WG (Blk X scope s' H'' C cl fp) tg x (wipe σ vs) H' fun σ2 H2 => wipe σ2 vs = wipe σ vs ∧ tB' X scope ifs σ2 H2 fun b H3 =>
        if b = true then eB X scope elt σ2 H3 fun y H4 => ∃ acc, H4 D = some (.lst acc) ∧ acc.length < sizeLine ∧ (∃ (Bi : Hp) (acc' : List V), Sat X.K T H0 (wipeG Γ vs) (wipe σ vs) Bi (upd H4 D (.lst (acc ++ [y]))) ∧ Same (grow B H H1) Bi ∧ (upd H4 D (.lst (acc ++ [y]))) D = some (.lst acc') ∧ Bi D = none ∧ Rel T B H Bi (upd H4 D (.lst (acc ++ [y]))) ∧ DenL X.K Bi acc' (((ys.take (i + 1)).filter t).map f))
        else (∃ (Bi : Hp) (acc : List V), Sat X.K T H0 (wipeG Γ vs) (wipe σ vs) Bi H3 ∧ Same (grow B H H1) Bi ∧ H3 D = some (.lst acc) ∧ Bi D = none ∧ Rel T B H Bi H3 ∧ DenL X.K Bi acc (((ys.take (i + 1)).filter t).map f)) from h
    intro s' H'' C cl fp
    refine hg s' H'' C cl fp H0 _ _ H' x S2 dx _ fun σ2 S3 on => ⟨wipe_only on, ?_⟩
    suffices h : ∀ s' H'' C cl fp, WTs (Blk X scope s' H'' C cl fp) ifs σ2 H' fun b H3 =>
        if b = true then eB X scope elt σ2 H3 fun y H4 => ∃ acc, H4 D = some (.lst acc) ∧ acc.length < sizeLine ∧ (∃ (Bi : Hp) (acc' : List V), Sat X.K T H0 (wipeG Γ vs) (wipe σ vs) Bi (upd H4 D (.lst (acc ++ [y]))) ∧ Same (grow B H H1) Bi ∧ (upd H4 D (.lst (acc ++ [y]))) D = some (.lst acc') ∧ Bi D = none ∧ Rel T B H Bi (upd H4 D (.lst (acc ++ [y]))) ∧ DenL X.K Bi acc' (((ys.take (i + 1)).filter t).map f))
        else (∃ (Bi : Hp) (acc : List V), Sat X.K T H0 (wipeG Γ vs) (wipe σ vs) Bi H3 ∧ Same (grow B H H1) Bi ∧ H3 D = some (.lst acc) ∧ Bi D = none ∧ Rel T B H Bi H3 ∧ DenL X.K Bi acc (((ys.take (i + 1)).filter t).map f)) from h
    intro s' H'' C cl fp
    refine ht s' H'' C cl fp H0 _ _ H' S3 _ fun H3 r3 => ?_
    have S4 := S2.step r3
    have rel3 := rel2.step r3
    have sub3 : Same Bi (grow (grow Bi Hi H') H' H3) := fun a o e => sub_grow S2.sub S2.nt a o (sub_grow Si.sub Si.nt a o e)
    have hD' : H' D = some (.lst acc) := rl.ext D _ hDi lst_ntbl
    have hD3 : H3 D = some (.lst acc) := r3.ext D _ hD' lst_ntbl
    have hB3 : grow (grow Bi Hi H') H' H3 D = none := by rw [grow_old ⟨_, hD', lst_ntbl⟩, grow_old ⟨_, hDi, lst_ntbl⟩]; exact hBD
    cases ety : t y with
    | false =>
      rw [if_neg Bool.false_ne_true]
      refine ⟨_, acc, S4, fun a o e => sub3 a o (sub a o e), hD3, hB3, rel3, ?_⟩
      rw [e1, List.filter_append, List.filter_cons, if_neg (by rw [ety]; exact Bool.false_ne_true)]
      simp only [List.filter_nil, List.append_nil]
      exact dl.mono sub3
    | true =>
      rw [if_pos rfl]
      intro s' H'' C cl fp
      refine he ety s' H'' C cl fp H0 _ _ H3 (S3.step r3) _ fun v H4 r4 dv => ?_
      have S5 := S4.step r4
      have rel4 := rel3.step r4
      have hD4 : H4 D = some (.lst acc) := r4.ext D _ hD3 lst_ntbl
      have hB4 : grow (grow (grow Bi Hi H') H' H3) H3 H4 D = none := by rw [grow_old ⟨_, hD3, lst_ntbl⟩]; exact hB3
      have sub4 : Same Bi (grow (grow (grow Bi Hi H') H' H3) H3 H4) := fun a o e => sub_grow S4.sub S4.nt a o (sub3 a o e)
      have hl := dl.length
      refine ⟨acc, hD4, ?_, _, acc ++ [v], S5.poke hB4 hD4 nap, fun a o e => sub4 a o (sub a o e), upd_same, hB4, rel4.mut hD4 hB4 hDH, ?_⟩
      · rw [hl, List.length_map]
        have h1 := List.length_filter_le t (ys.take i)
        have h2 : (ys.take i).length ≤ ys.length := by rw [List.length_take]; omega
        have h3 := L.len
        omega
      · rw [e1, List.filter_append, List.filter_cons, if_pos ety]
        simp only [List.filter_nil, List.map_append, List.map_cons, List.map_nil]
        exact (dl.mono sub4).snoc dv
  · have e : i = ys.length := by omega
    subst e
    have hst := J1.stop Hi sH
    rw [List.length_map] at hst
    refine .inl ⟨hst, ?_⟩
    rw [List.take_length] at dl
    have hh : Rl T H (hide D Hi) := ⟨fun b o e n => by
        have := rel.rl.ext b o e n
        unfold hide; rw [if_neg (occ_ne ⟨o, e, n⟩ hDH)]; exact this, fun tt q hq => by
        obtain ⟨ps, a1, a2, a3⟩ := rel.rl.tabs tt q hq
        refine ⟨ps, by unfold hide; rw [if_neg (ne_of a1 hDi (by intro z; cases z))]; exact a1, a2, fun pos cv hc => ?_⟩
        obtain ⟨c, e1, e2⟩ := a3 pos cv hc
        exact ⟨c, e1, by unfold hide; rw [if_neg (ne_of e2 hDi (by unfold LamX.CodeO; intro z; cases z))]; exact e2⟩⟩
    have q := k D acc (hide D Hi) hh (by unfold hide; rw [if_pos rfl]) (dl.mono fun a o e => by
      have ha : a ≠ D := ne_of_none e hBD
      rcases grow_inv (rel.inn a o e) with ⟨x, z⟩ | ⟨x, y, z⟩
      · rw [grow_old z]; exact x
      · exact grow_new x (by unfold hide; rw [if_neg ha]; exact y) z)
    rw [upd_hide hDi] at q
    exact q
theorem xn_lc {α : Type} {ys : List α} {g f : α → PyData} {t : α → Bool} (hc : X.calm = true) (hN : X.N.Nodup) (L : LcOk T X Γ elt tg iter ifs scope own ys g f t) {zs : List PyData} (hz : (ys.filter t).map f = zs := by rfl) (hs : ∀ x, foldedSetIterable iter X.env x = pure x := by intro _; rfl) :
    XN T X Γ (.ListComp elt [⟨tg, iter, ifs, 0⟩] scope pos) zs := hz ▸ fun H0 σ B H s Q k => we (pe_lc hc hN pi_w L.ok pg_b pt_b pe_b hs) (lc_read L s k)
/-- [elt for tg in iter] -/
theorem xn_map {α : Type} {ys : List α} {g f : α → PyData} {zs : List PyData} (hc : X.calm = true) (hN : X.N.Nodup) (it : XI T X Γ tg iter (ys.map g)) (ok : BlkOk X.N X.env.scope scope own)
    (body : ∀ y ∈ ys, ∃ Γ' : List Sl, (∀ s H C cl fp, XG T (Blk X scope s H C cl fp) (own.map (·.2)) tg (g y) (wipeG Γ (own.map (·.2))) Γ') ∧ ∀ s H C cl fp, XE T (Blk X scope s H C cl fp) Γ' elt (f y)) (hl : ys.length < sizeLine)
    (hz : ys.map f = zs := by rfl) (hs : ∀ x, foldedSetIterable iter X.env x = pure x := by intro _; rfl) : XN T X Γ (.ListComp elt [⟨tg, iter, [], 0⟩] scope pos) zs :=
  xn_lc (t := fun _ => true) hc hN ⟨it, ok, fun y hy => let ⟨Γ', h1, h2⟩ := body y hy; ⟨Γ', h1, fun _ _ _ _ _ => xts_nil, fun _ => h2⟩, hl⟩ (by rw [← hz, List.filter_eq_self.mpr (fun _ _ => rfl)]) hs
theorem LcOk.map {α : Type} {ys : List α} {g f : α → PyData} (it : XI T X Γ tg iter (ys.map g)) (ok : BlkOk X.N X.env.scope scope own)
    (body : ∀ y ∈ ys, ∃ Γ' : List Sl, (∀ s H C cl fp, XG T (Blk X scope s H C cl fp) (own.map (·.2)) tg (g y) (wipeG Γ (own.map (·.2))) Γ') ∧ ∀ s H C cl fp, XE T (Blk X scope s H C cl fp) Γ' elt (f y)) (hl : ys.length < sizeLine) : LcOk T X Γ elt tg iter [] scope own ys g f fun _ => true :=
  ⟨it, ok, fun y hy => let ⟨Γ', h1, h2⟩ := body y hy; ⟨Γ', h1, fun _ _ _ _ _ => xts_nil, fun _ => h2⟩, hl⟩
end
end PL

/-! PL5: statements. -/
namespace PL
open PySem PySem.Spec PyProof.Rows L2

inductive Out where
  | nx (Γ : List Sl)
  | bk (Γ : List Sl)
  | ct (Γ : List Sl)
  | rt (d : PyData)
  | ex (c : Value)
def WSs (X : Cx) (sts : List Stmt) : TS := fun D σ H => ∀ (pins : List (Addr × Obj)) (s : Shared), Inv X pins σ H s → wpAny (model X.prog X.w) X.A (execs sts X.env) (SP X pins D) X.xe s
def WS (X : Cx) (st : Stmt) : TS := fun D σ H => ∀ (pins : List (Addr × Obj)) (s : Shared), Inv X pins σ H s → wpAny (model X.prog X.w) X.A (exec st X.env) (SP X pins D) X.xe s
theorem pss_w {X : Cx} {sts : List Stmt} : PSs X sts (WSs X sts) := ⟨fun pins s σ H D I h => h pins s I⟩
theorem ps_w {X : Cx} {st : Stmt} : PS X st (WS X st) := ⟨fun pins s σ H D I h => h pins s I⟩
theorem wss {X : Cx} {sts : List Stmt} {t : TS} {D : Ends} {σ : L2.St} {H : Hp} (h : PSs X sts t) (q : t D σ H) : WSs X sts D σ H := fun pins s I => h.run pins s σ H D I q
theorem ws {X : Cx} {st : Stmt} {t : TS} {D : Ends} {σ : L2.St} {H : Hp} (h : PS X st t) (q : t D σ H) : WS X st D σ H := fun pins s I => h.run pins s σ H D I q
structure Post (K : PySem.W.Frag) (T : List (Addr × Str)) (B0 H0 Bs : Hp) (R : Out → Prop) (W : WX) (D : Ends) : Prop where
  nx : ∀ Γ σ B H, R (.nx Γ) → Sat K T H0 Γ σ B H → Rel T B0 H0 B H → Same Bs B → D.nx σ H
  bk : ∀ Γ σ B H, R (.bk Γ) → Sat K T H0 Γ σ B H → Rel T B0 H0 B H → Same Bs B → D.bk σ H
  ct : ∀ Γ σ B H, R (.ct Γ) → Sat K T H0 Γ σ B H → Rel T B0 H0 B H → Same Bs B → D.ct σ H
  rt : ∀ d v B H, R (.rt d) → Same B H → NoT B → LamX.Tabs T H → Den K B v d → Rel T B0 H0 B H → D.rt v H
  ex : ∀ c σ B H, R (.ex c) → Rel T B0 H0 B H → W c none σ H
def XS (T : List (Addr × Str)) (X : Cx) (Γ : List Sl) (sts : List Stmt) (R : Out → Prop) : Prop := ∀ (B0 H0 : Hp) (σ : L2.St) (B H : Hp), Sat X.K T H0 Γ σ B H → Rel T B0 H0 B H → ∀ (D : Ends) (W : WX), Takes X W → Post X.K T B0 H0 B R W D → WSs X sts D σ H
def X1 (T : List (Addr × Str)) (X : Cx) (Γ : List Sl) (st : Stmt) (R : Out → Prop) : Prop := ∀ (B0 H0 : Hp) (σ : L2.St) (B H : Hp), Sat X.K T H0 Γ σ B H → Rel T B0 H0 B H → ∀ (D : Ends) (W : WX), Takes X W → Post X.K T B0 H0 B R W D → WS X st D σ H
/-- behind a statement -/
def seqR (T : List (Addr × Str)) (X : Cx) (rest : List Stmt) (R : Out → Prop) : Out → Prop
  | .nx Γ => XS T X Γ rest R
  | o => R o
def loopR (N : List Sl → Prop) (R : Out → Prop) : Out → Prop
  | .nx Γ => N Γ
  | .ct Γ => N Γ
  | .bk Γ => R (.nx Γ)
  | .rt d => R (.rt d)
  | .ex c => R (.ex c)
section
variable {T : List (Addr × Str)} {X : Cx} {Γ Γ' : List Sl} {st : Stmt} {rest body orelse : List Stmt} {R R' : Out → Prop} {e a b c tg iter : Expr} {d : PyData} {xs ys : List PyData} {n : Nat} {y : Str} {pos pos' : Pos}
theorem XS.mono (h : XS T X Γ rest R) (q : ∀ o, R o → R' o) : XS T X Γ rest R' := fun B0 H0 σ B H s r D W tk p => h B0 H0 σ B H s r D W tk
  ⟨fun Γ σ B H z => p.nx Γ σ B H (q _ z), fun Γ σ B H z => p.bk Γ σ B H (q _ z), fun Γ σ B H z => p.ct Γ σ B H (q _ z), fun d v B H z => p.rt d v B H (q _ z), fun c σ B H z => p.ex c σ B H (q _ z)⟩
theorem X1.mono (h : X1 T X Γ st R) (q : ∀ o, R o → R' o) : X1 T X Γ st R' := fun B0 H0 σ B H s r D W tk p => h B0 H0 σ B H s r D W tk
  ⟨fun Γ σ B H z => p.nx Γ σ B H (q _ z), fun Γ σ B H z => p.bk Γ σ B H (q _ z), fun Γ σ B H z => p.ct Γ σ B H (q _ z), fun d v B H z => p.rt d v B H (q _ z), fun c σ B H z => p.ex c σ B H (q _ z)⟩
theorem xs_nil (h : R (.nx Γ)) : XS T X Γ [] R := fun B0 H0 σ B H s r D W tk p => wss pss_nil (p.nx Γ σ B H h s r fun _ _ q => q)
theorem xs_cons (h : X1 T X Γ st (seqR T X rest R)) : XS T X Γ (st :: rest) R := fun B0 H0 σ B H s r D W tk p =>
  wss (pss_cons ps_w pss_w) (h B0 H0 σ B H s r { D with nx := WSs X rest D } W tk
    ⟨fun Γ' σ' B' H' q s' r' sub => q B0 H0 σ' B' H' s' r' D W tk ⟨fun Γ σ B H z s r u => p.nx Γ σ B H z s r fun a o w => u a o (sub a o w), fun Γ σ B H z s r u => p.bk Γ σ B H z s r fun a o w => u a o (sub a o w), fun Γ σ B H z s r u => p.ct Γ σ B H z s r fun a o w => u a o (sub a o w), p.rt, p.ex⟩,
      p.bk, p.ct, p.rt, p.ex⟩)
/-- a slot's own list is left as it is from now on -/
theorem xs_freeze (n : Nat) (hn : Γ[n]? = some (.own xs)) (h : XS T X (Γ.set n (.d (.list xs))) rest R) : XS T X Γ rest R := fun B0 H0 σ B H s r D W tk p => by
  obtain ⟨B', s', r', sub⟩ := s.freeze hn r
  exact h B0 H0 σ B' H s' r' D W tk ⟨fun Γ σ B H z s r u => p.nx Γ σ B H z s r fun a o w => u a o (sub a o w), fun Γ σ B H z s r u => p.bk Γ σ B H z s r fun a o w => u a o (sub a o w), fun Γ σ B H z s r u => p.ct Γ σ B H z s r fun a o w => u a o (sub a o w), p.rt, p.ex⟩
theorem x1_freeze (n : Nat) (hn : Γ[n]? = some (.own xs)) (h : X1 T X (Γ.set n (.d (.list xs))) st R) : X1 T X Γ st R := fun B0 H0 σ B H s r D W tk p => by
  obtain ⟨B', s', r', sub⟩ := s.freeze hn r
  exact h B0 H0 σ B' H s' r' D W tk ⟨fun Γ σ B H z s r u => p.nx Γ σ B H z s r fun a o w => u a o (sub a o w), fun Γ σ B H z s r u => p.bk Γ σ B H z s r fun a o w => u a o (sub a o w), fun Γ σ B H z s r u => p.ct Γ σ B H z s r fun a o w => u a o (sub a o w), p.rt, p.ex⟩
theorem xs_wk (n : Nat) (h : XS T X (Γ.set n .no) rest R) : XS T X Γ rest R := fun B0 H0 σ B H s r D W tk p => h B0 H0 σ B H s.wk r D W tk p
theorem xs_to (e : Γ = Γ') (h : XS T X Γ' rest R) : XS T X Γ rest R := e ▸ h

/-! ### small statements -/
theorem x1_pass (h : R (.nx Γ)) : X1 T X Γ (.Pass pos) R := fun B0 H0 σ B H s r D W tk p => ws ps_pass (p.nx Γ σ B H h s r fun _ _ q => q)
theorem x1_break (h : R (.bk Γ)) : X1 T X Γ (.Break pos) R := fun B0 H0 σ B H s r D W tk p => ws ps_break (p.bk Γ σ B H h s r fun _ _ q => q)
theorem x1_continue (h : R (.ct Γ)) : X1 T X Γ (.Continue pos) R := fun B0 H0 σ B H s r D W tk p => ws ps_continue (p.ct Γ σ B H h s r fun _ _ q => q)
theorem x1_set (n : Nat) (hN : X.N.Nodup) (he : XE T X Γ e d) (h : R (.nx (Γ.set n (.d d)))) (hi : X.N[n]? = some y := by rfl) (hx : Loc X.env.scope y := by first | exact Or.inl rfl | exact Or.inr rfl) (hs : swapsWith e (some (.Name y pos')) pos.line X.env = pure false := by rfl) (hf : X.fn y = true ∨ X.env.scope.names.lookup y = some .local := by first | exact .inl rfl | exact .inr rfl | assumption) :
    X1 T X Γ (.Assign [.Name y pos'] e pos) R := fun B0 H0 σ B H s r D W tk p => ws (ps_set hN hi hx pe_w hs hf) (he H0 σ B H s _ fun v H' q hd => p.nx _ _ _ H' h ((s.step q).setD hd) (r.step q) (sub_grow s.sub s.nt))
theorem x1_setV {x : V} (n : Nat) (hN : X.N.Nodup) (he : XV T X Γ e x) (h : R (.nx (Γ.set n (.v x)))) (hi : X.N[n]? = some y := by rfl) (hx : Loc X.env.scope y := by first | exact Or.inl rfl | exact Or.inr rfl) (hs : swapsWith e (some (.Name y pos')) pos.line X.env = pure false := by rfl) (hf : X.fn y = true ∨ X.env.scope.names.lookup y = some .local := by first | exact .inl rfl | exact .inr rfl | assumption) :
    X1 T X Γ (.Assign [.Name y pos'] e pos) R := fun B0 H0 σ B H s r D W tk p => ws (ps_set hN hi hx pe_w hs hf) (he H0 σ B H s _ fun H' q => p.nx _ _ _ H' h (s.step q).setV (r.step q) (sub_grow s.sub s.nt))
/-- behind a new list: it is the slot's own -/
theorem own_post {B0 H0 B H H1 Bs : Hp} {σ : L2.St} {D : Ends} {W : WX} {q : Addr} {vs : List V} (s : Sat X.K T H0 Γ σ B H) (r : Rel T B0 H0 B H) (p : Post X.K T B0 H0 B R W D) (h : R (.nx (Γ.set n (.own xs)))) (r1 : Rl T H H1) (hq : H1 q = none) (hd : DenL X.K (grow B H H1) vs xs) :
    D.nx (σ.set n (some (.ref q))) (upd H1 q (.lst vs)) := by
  have hH : ¬ Occ H q := r1.free (nocc hq)
  have s1 := s.step r1
  have rr := r.step r1
  have nb : grow B H H1 q = none := grow_none hH hq
  have h0 : ¬ Occ H0 q := r.rl.free hH
  refine p.nx _ _ (grow B H H1) _ h (Sat.setOwn (s1.lay hq) h0 nb upd_same hd fun j d _ hj => s1.own_ne (nocc hq) j d hj) ⟨rr.rl.trans (.new hq), fun a o e => ?_⟩ (sub_grow s.sub s.nt)
  exact grow_keep rr.rl hq a o (rr.inn a o e)
theorem x1_setN (n : Nat) (hN : X.N.Nodup) (he : XN T X Γ e xs) (h : R (.nx (Γ.set n (.own xs)))) (hi : X.N[n]? = some y := by rfl) (hx : Loc X.env.scope y := by first | exact Or.inl rfl | exact Or.inr rfl) (hs : swapsWith e (some (.Name y pos')) pos.line X.env = pure false := by rfl) (hf : X.fn y = true ∨ X.env.scope.names.lookup y = some .local := by first | exact .inl rfl | exact .inr rfl | assumption) :
    X1 T X Γ (.Assign [.Name y pos'] e pos) R := fun B0 H0 σ B H s r D W tk p => ws (ps_set hN hi hx pe_w hs hf) (he H0 σ B H s _ fun q vs H1 r1 hq hd => own_post (Bs := B) s r p h r1 hq hd)
theorem x1_setR {rr : Res} (n : Nat) (hN : X.N.Nodup) (he : XR T X Γ e rr) (h : ∀ d, rr = .ok d → R (.nx (Γ.set n (.d d)))) (hE : ∀ c, rr = .ex c → R (.ex c)) (hi : X.N[n]? = some y := by rfl) (hx : Loc X.env.scope y := by first | exact Or.inl rfl | exact Or.inr rfl) (hs : swapsWith e (some (.Name y pos')) pos.line X.env = pure false := by rfl) (hf : X.fn y = true ∨ X.env.scope.names.lookup y = some .local := by first | exact .inl rfl | exact .inr rfl | assumption) :
    X1 T X Γ (.Assign [.Name y pos'] e pos) R := fun B0 H0 σ B H s r D W tk p => ws (ps_set hN hi hx pe_w hs hf) (he H0 σ B H s _ W tk (fun d v H' z q hd => p.nx _ _ _ H' (h d z) ((s.step q).setD hd) (r.step q) (sub_grow s.sub s.nt)) fun c H' z q => p.ex c σ _ H' (hE c z) (r.step q))
theorem x1_expr (he : XE T X Γ e d) (h : R (.nx Γ)) (hs : swapsWith e none pos.line X.env = pure false := by rfl) : X1 T X Γ (.Expr e pos) R := fun B0 H0 σ B H s r D W tk p =>
  ws (ps_expr pe_w hs) (he H0 σ B H s _ fun v H' q hd => p.nx _ _ _ H' h (s.step q) (r.step q) (sub_grow s.sub s.nt))
theorem x1_exprR {rr : Res} (he : XR T X Γ e rr) (h : ∀ d, rr = .ok d → R (.nx Γ)) (hE : ∀ c, rr = .ex c → R (.ex c)) (hs : swapsWith e none pos.line X.env = pure false := by rfl) : X1 T X Γ (.Expr e pos) R := fun B0 H0 σ B H s r D W tk p =>
  ws (ps_expr pe_w hs) (he H0 σ B H s _ W tk (fun d v H' z q hd => p.nx _ _ _ H' (h d z) (s.step q) (r.step q) (sub_grow s.sub s.nt)) fun c H' z q => p.ex c σ _ H' (hE c z) (r.step q))
theorem x1_ret (he : XE T X Γ e d) (h : R (.rt d)) : X1 T X Γ (.Return (some e) pos) R := fun B0 H0 σ B H s r D W tk p =>
  ws (ps_ret pe_w) (he H0 σ B H s _ fun v H' q hd => p.rt d v _ H' h (s.le q) (grow_nt s.nt) (q.tabs s.tb) hd (r.step q))
theorem x1_retR {rr : Res} (he : XR T X Γ e rr) (h : ∀ d, rr = .ok d → R (.rt d)) (hE : ∀ c, rr = .ex c → R (.ex c)) : X1 T X Γ (.Return (some e) pos) R := fun B0 H0 σ B H s r D W tk p =>
  ws (ps_ret pe_w) (he H0 σ B H s _ W tk (fun d v H' z q hd => p.rt d v _ H' (h d z) (s.le q) (grow_nt s.nt) (q.tabs s.tb) hd (r.step q)) fun c H' z q => p.ex c σ _ H' (hE c z) (r.step q))
theorem x1_retN (h : R (.rt .none)) : X1 T X Γ (.Return none pos) R := fun B0 H0 σ B H s r D W tk p => ws ps_retN (p.rt .none _ B H h s.sub s.nt s.tb .non r)
theorem x1_if {k : Bool} (hc : XT T X Γ c k) (h1 : k = true → XS T X Γ body R) (h2 : k = false → XS T X Γ orelse R) : X1 T X Γ (.If c body orelse pos) R := fun B0 H0 σ B H s r D W tk p =>
  ws (ps_if pt_w pss_w pss_w) (hc H0 σ B H s _ fun H' q => by
    have pp : Post X.K T B0 H0 (grow B H H') R W D := ⟨fun Γ σ B H z s' r u => p.nx Γ σ B H z s' r fun a o w => u a o (sub_grow s.sub s.nt a o w), fun Γ σ B H z s' r u => p.bk Γ σ B H z s' r fun a o w => u a o (sub_grow s.sub s.nt a o w), fun Γ σ B H z s' r u => p.ct Γ σ B H z s' r fun a o w => u a o (sub_grow s.sub s.nt a o w), p.rt, p.ex⟩
    cases k with
    | true => rw [if_pos rfl]; exact h1 rfl B0 H0 σ _ H' (s.step q) (r.step q) D W tk pp
    | false => rw [if_neg Bool.false_ne_true]; exact h2 rfl B0 H0 σ _ H' (s.step q) (r.step q) D W tk pp)
/-- an if whose branches are known only by cases -/
theorem x1_for (P : Nat → List Sl → Prop) (vs : List Nat) (hp : PassesOwn (model X.prog X.w) X.A X.env X.xe) (hc : X.calm = true) (hi : XI T X Γ tg iter xs) (h0 : P 0 Γ)
    (hs : ∀ i d Γ, xs[i]? = some d → P i Γ → ∃ Γ', XG T X vs tg d Γ Γ' ∧ XS T X Γ' body (loopR (P (i + 1)) R)) (hd : ∀ Γ, P xs.length Γ → R (.nx Γ)) (hF : ∀ x, foldedSetIterable iter X.env x = pure x := by intro _; rfl) : X1 T X Γ (.For tg iter body [] pos) R := fun B0 H0 σ B H s r D W tk p =>
  ws (ps_for hp hc pi_w pg_w pss_w hF) (hi H0 σ B H s _ fun J H1 r1 J1 => by
    have S1 := s.step r1
    have R1 := r.step r1
    refine ⟨fun i m σ' H' => m = xs.length - i ∧ i ≤ xs.length ∧ ∃ Γ' B', P i Γ' ∧ Sat X.K T H0 Γ' σ' B' H' ∧ Rel T B0 H0 B' H' ∧ Same (grow B H H1) B', ⟨xs.length, by simp, Nat.zero_le _, Γ, _, h0, S1, R1, fun _ _ q => q⟩, ?_⟩
    rintro i m σ' H' ⟨rfl, hi, Γ', B', hP, S', R', sub⟩
    have sH : Same (grow B H H1) H' := fun a o e => S'.sub a o (sub a o e)
    by_cases hlt : i < xs.length
    · obtain ⟨d, ed⟩ : ∃ d, xs[i]? = some d := ⟨xs[i], by simp [hlt]⟩
      refine .inr ⟨J1.go i H' sH hlt, fun σ2 H2 => ∃ Γ2 B2, P (i + 1) Γ2 ∧ Sat X.K T H0 Γ2 σ2 B2 H2 ∧ Rel T B0 H0 B2 H2 ∧ Same (grow B H H1) B2, fun σ2 H2 h => ⟨xs.length - (i + 1), by omega, rfl, hlt, h⟩, fun x H2 hy => ?_⟩
      obtain ⟨rl, den⟩ := J1.yld i x H' H2 d sH ed hy
      have dx := den B' sub S'.sub S'.nt
      obtain ⟨Γ2, hg, hb⟩ := hs i d Γ' ed hP
      refine hg H0 σ' _ H2 x (S'.step rl) dx _ fun σ3 S3 _ => ?_
      have sub2 : Same (grow B H H1) (grow B' H' H2) := fun a o e => sub_grow S'.sub S'.nt a o (sub a o e)
      have sub0 : Same B (grow B' H' H2) := fun a o e => sub2 a o (sub_grow s.sub s.nt a o e)
      exact hb B0 H0 σ3 _ H2 S3 (R'.step rl) _ W tk ⟨fun Γ3 σ3 B3 H3 z s3 r3 u => ⟨Γ3, B3, z, s3, r3, fun a o e => u a o (sub2 a o e)⟩, fun Γ3 σ3 B3 H3 z s3 r3 u => p.nx Γ3 σ3 B3 H3 z s3 r3 fun a o e => u a o (sub0 a o e), fun Γ3 σ3 B3 H3 z s3 r3 u => ⟨Γ3, B3, z, s3, r3, fun a o e => u a o (sub2 a o e)⟩, p.rt, p.ex⟩
    · have e : i = xs.length := by omega
      subst e
      exact .inl ⟨J1.stop H' sH, p.nx Γ' σ' B' H' (hd Γ' hP) S' R' fun a o e => sub a o (sub_grow s.sub s.nt a o e)⟩)
theorem x1_while (P : Nat → List Sl → Prop) (hp : PassesOwn (model X.prog X.w) X.A X.env X.xe) (h0 : ∃ m, P m Γ)
    (hs : ∀ m Γ, P m Γ → ∃ k, XT T X Γ c k ∧ (k = true → XS T X Γ body (loopR (fun Γ' => ∃ m', m' < m ∧ P m' Γ') R)) ∧ (k = false → R (.nx Γ))) : X1 T X Γ (.While c body [] pos) R := fun B0 H0 σ B H s r D W tk p =>
  ws (ps_while hp pt_w pss_w) (by
    obtain ⟨m0, h0⟩ := h0
    refine ⟨fun m σ' H' => ∃ Γ' B', P m Γ' ∧ Sat X.K T H0 Γ' σ' B' H' ∧ Rel T B0 H0 B' H' ∧ Same B B', ⟨m0, Γ, B, h0, s, r, fun _ _ q => q⟩, ?_⟩
    rintro m σ' H' ⟨Γ', B', hP, S', R', sub⟩
    obtain ⟨k, hc, h1, h2⟩ := hs m Γ' hP
    refine hc H0 σ' B' H' S' _ fun H2 rl => ?_
    have sub2 : Same B (grow B' H' H2) := fun a o e => sub_grow S'.sub S'.nt a o (sub a o e)
    cases k with
    | true =>
      rw [if_pos rfl]
      refine ⟨fun σ2 H2 => ∃ m', m' < m ∧ ∃ Γ' B', P m' Γ' ∧ Sat X.K T H0 Γ' σ2 B' H2 ∧ Rel T B0 H0 B' H2 ∧ Same B B', fun σ2 H2 h => h, ?_⟩
      exact h1 rfl B0 H0 σ' _ H2 (S'.step rl) (R'.step rl) _ W tk ⟨fun Γ3 σ3 B3 H3 ⟨m', hm, z⟩ s3 r3 u => ⟨m', hm, Γ3, B3, z, s3, r3, fun a o e => u a o (sub2 a o e)⟩, fun Γ3 σ3 B3 H3 z s3 r3 u => p.nx Γ3 σ3 B3 H3 z s3 r3 fun a o e => u a o (sub2 a o e), fun Γ3 σ3 B3 H3 ⟨m', hm, z⟩ s3 r3 u => ⟨m', hm, Γ3, B3, z, s3, r3, fun a o e => u a o (sub2 a o e)⟩, p.rt, p.ex⟩
    | false =>
      rw [if_neg Bool.false_ne_true]
      exact p.nx Γ' σ' _ H2 (h2 rfl) (S'.step rl) (R'.step rl) sub2)
/-- y = [..], a comprehension on its line: the list is the slot's own -/
theorem x1_setLc (n : Nat) {α : Type} {zs : List α} {g f : α → PyData} {t : α → Bool} {elt : Expr} {ifs : List Expr} {scope : Scope} {own : List (Str × Nat)} {spos : Pos} (hc : X.calm = true) (hN : X.N.Nodup) (L : LcOk T X Γ elt tg iter ifs scope own zs g f t) (h : R (.nx (Γ.set n (.own ((zs.filter t).map f))))) (hi : X.N[n]? = some y := by rfl) (hyl : X.env.scope.names.lookup y = some .local := by rfl) (hsw : swapsWith (.ListComp elt [⟨tg, iter, ifs, 0⟩] scope pos) (some (.Name y pos')) spos.line X.env = pure true := by exact sw_true rfl rfl rfl (by decide +kernel)) (hF : ∀ x, foldedSetIterable iter X.env x = pure x := by intro _; rfl) :
    X1 T X Γ (.Assign [.Name y pos'] (.ListComp elt [⟨tg, iter, ifs, 0⟩] scope pos) spos) R := fun B0 H0 σ B H s r D W tk p =>
  ws (ps_setLc hc hN hi hyl hsw pi_w L.ok pg_b pt_b pe_b hF) (lc_read (Q := fun x H1 => gName n x σ H1 D.nx) L s fun q vs H1 r1 hq hd => own_post (Bs := B) s r p h r1 hq hd)

/-! ### a list of the def's own is changed -/
/-- the slot's own list, where the frame holds it -/
theorem own_at {K : PySem.W.Frag} {H0 B H H1 : Hp} {σ : L2.St} (s : Sat K T H0 Γ σ B H) (hn : Γ[n]? = some (.own xs)) (r : Rl T H H1) : ∃ q vs, σ[n]? = some (some (.ref q)) ∧ ¬ Occ H0 q ∧ grow B H H1 q = none ∧ H1 q = some (.lst vs) ∧ DenL K (grow B H H1) vs xs := by
  obtain ⟨q, vs, h1, h0, hb, hp, hd⟩ := s.sl n _ hn
  exact ⟨q, vs, h1, h0, by rw [grow_old ⟨_, hp, lst_ntbl⟩]; exact hb, r.ext q _ hp lst_ntbl, hd.mono (sub_grow s.sub s.nt)⟩
theorem mut_post {B0 H0 B H H1 : Hp} {σ : L2.St} {D : Ends} {W : WX} {q : Addr} {vs ws : List V} (s : Sat X.K T H0 Γ σ B H) (r : Rel T B0 H0 B H) (p : Post X.K T B0 H0 B R W D) (r1 : Rl T H H1) (hn : Γ[n]? = some (.own xs)) (hs : σ[n]? = some (some (.ref q))) (h0 : ¬ Occ H0 q) (hb : grow B H H1 q = none) (hp : H1 q = some (.lst vs)) (hd : DenL X.K (grow B H H1) ws ys) (h : R (.nx (Γ.set n (.own ys)))) : D.nx σ (upd H1 q (.lst ws)) :=
  p.nx _ σ (grow B H H1) _ h ((s.step r1).mut hn hs hp hb h0 hd) ((r.step r1).mut hp hb h0) (sub_grow s.sub s.nt)
end
end PL

/-! PL6: methods of built-in types. -/
namespace PL
open PySem PySem.Spec PyProof.Rows L2
section
variable {X : Cx} {o a b e : Expr} {σ : L2.St} {H : Hp} {Q : VK} {name : Str} {ty id : String} {r : V → List V → Hp → VK → Prop} {apos cpos : Pos}
theorem we_M0 (pa : PlainAttrs ty) (slot : Slot ty name id) (hty : typeOf (.builtin id) = pure (.type "method_descriptor")) (hm : MtR X id r) (hbase : attributeBase o name X.env (eval o X.env) = eval o X.env) (hline : (apos.endLine == cpos.line) = true)
    (h : WE X o σ H fun x H1 => tyV X.K ty x H1 ∧ r x [] H1 Q) : WE X (.Call (.Attribute o name apos) [] [] cpos) σ H Q := we (pe_bm0 pa slot hty hm pe_w hbase hline) h
theorem we_M1 (pa : PlainAttrs ty) (slot : Slot ty name id) (hty : typeOf (.builtin id) = pure (.type "method_descriptor")) (hm : MtR X id r) (hbase : attributeBase o name X.env (eval o X.env) = eval o X.env) (hline : (apos.endLine == cpos.line) = true)
    (hs : starEach [a] X.env = (false, eval a X.env) :: starEach [] X.env) (h : WE X o σ H fun x H1 => tyV X.K ty x H1 ∧ WE X a σ H1 fun v H2 => r x [v] H2 Q) : WE X (.Call (.Attribute o name apos) [a] [] cpos) σ H Q :=
  we (pe_bm pa slot hty hm pe_w (pa_cons pe_w pa_nil hs) hbase (by rw [hs]; rfl) hline hs rfl) h
theorem we_M2 (pa : PlainAttrs ty) (slot : Slot ty name id) (hty : typeOf (.builtin id) = pure (.type "method_descriptor")) (hm : MtR X id r) (hbase : attributeBase o name X.env (eval o X.env) = eval o X.env) (hline : (apos.endLine == cpos.line) = true)
    (hs : starEach [a, b] X.env = (false, eval a X.env) :: starEach [b] X.env) (hs2 : starEach [b] X.env = (false, eval b X.env) :: starEach [] X.env) (h : WE X o σ H fun x H1 => tyV X.K ty x H1 ∧ WE X a σ H1 fun v H2 => WE X b σ H2 fun w H3 => r x [v, w] H3 Q) : WE X (.Call (.Attribute o name apos) [a, b] [] cpos) σ H Q :=
  we (pe_bm pa slot hty hm pe_w (pa_cons pe_w (pa_cons pe_w pa_nil hs2) hs) hbase (by rw [hs, hs2]; rfl) hline hs (by rw [hs2]; rfl)) h
theorem tyV_l {K : PySem.W.Frag} {q : Addr} {vs : List V} (h : SqL K H q vs) : tyV K "list" (.ref q) H := .inl ⟨rfl, vs, h⟩
end
/-! ### an expression that changes a slot's own list -/
def XM (T : List (Addr × Str)) (X : Cx) (Γ : List Sl) (e : Expr) (d : PyData) (Γ' : List Sl) : Prop := ∀ (B0 H0 : Hp) (σ : L2.St) (B H : Hp), Sat X.K T H0 Γ σ B H → Rel T B0 H0 B H → ∀ Q : VK, (∀ v B' H', Sat X.K T H0 Γ' σ B' H' → Rel T B0 H0 B' H' → Same B B' → Den X.K B' v d → Q v H') → WE X e σ H Q
section
variable {T : List (Addr × Str)} {X : Cx} {Γ Γ' Γ1 Γ2 : List Sl} {R : Out → Prop} {e a b tg : Expr} {d d1 d2 : PyData} {xs ys : List PyData} {n m : Nat} {y z : Str} {pos pos' apos p1 : Pos} {i j : Int}
theorem XE.toM (h : XE T X Γ e d) : XM T X Γ e d Γ := fun B0 H0 σ B H s r Q k => h H0 σ B H s Q fun v H' q hd => k v _ H' (s.step q) (r.step q) (sub_grow s.sub s.nt) hd
/-- target = e -/
theorem x1_asg (vs : List Nat) (he : XM T X Γ e d Γ1) (hg : XG T X vs tg d Γ1 Γ2) (h : R (.nx Γ2)) (hs : swapsWithSole [tg] e pos.line X.env = pure false := by rfl) (hw : swappedStores [tg] e X.env = pure none := by rfl)
    (h1 : (assignEach [tg] X.env).map (·.2) = [assign tg X.env] := by rfl) : X1 T X Γ (.Assign [tg] e pos) R := fun B0 H0 σ B H s r D W tk p =>
  ws (ps_asg pe_w pg_w hs hw h1) (he B0 H0 σ B H s r _ fun v B' H' s' r' sub hd => hg H0 σ B' H' v s' hd _ fun σ' s2 _ => p.nx _ σ' B' H' h s2 r' sub)
theorem x1_exprM (he : XM T X Γ e d Γ1) (h : R (.nx Γ1)) (hs : swapsWith e none pos.line X.env = pure false := by rfl) : X1 T X Γ (.Expr e pos) R := fun B0 H0 σ B H s r D W tk p =>
  ws (ps_expr pe_w hs) (he B0 H0 σ B H s r _ fun v B' H' s' r' sub hd => p.nx _ σ B' H' h s' r' sub)
theorem x1_setM (n : Nat) (hN : X.N.Nodup) (he : XM T X Γ e d Γ1) (h : R (.nx (Γ1.set n (.d d)))) (hi : X.N[n]? = some y := by rfl) (hx : Loc X.env.scope y := by first | exact Or.inl rfl | exact Or.inr rfl) (hs : swapsWith e (some (.Name y pos')) pos.line X.env = pure false := by rfl) (hf : X.fn y = true ∨ X.env.scope.names.lookup y = some .local := by first | exact .inl rfl | exact .inr rfl | assumption) :
    X1 T X Γ (.Assign [.Name y pos'] e pos) R := fun B0 H0 σ B H s r D W tk p => ws (ps_set hN hi hx pe_w hs hf) (he B0 H0 σ B H s r _ fun v B' H' s' r' sub hd => p.nx _ _ _ H' h (s'.setD hd) r' sub)
/-- the change of an own list, as a state -/
theorem mut_st {B0 H0 B H : Hp} {σ : L2.St} {q : Addr} {vs ws : List V} (s : Sat X.K T H0 Γ σ B H) (r : Rel T B0 H0 B H) (hn : Γ[n]? = some (.own xs)) (hs : σ[n]? = some (some (.ref q))) (h0 : ¬ Occ H0 q) (hb : B q = none) (hp : H q = some (.lst vs)) (hd : DenL X.K B ws ys) :
    Sat X.K T H0 (Γ.set n (.own ys)) σ B (upd H q (.lst ws)) ∧ Rel T B0 H0 B (upd H q (.lst ws)) := ⟨s.mut hn hs hp hb h0 hd, r.mut hp hb h0⟩
theorem own_get {K : PySem.W.Frag} {H0 B H : Hp} {σ : L2.St} (s : Sat K T H0 Γ σ B H) (hn : Γ[n]? = some (.own xs)) : ∃ q vs, σ[n]? = some (some (.ref q)) ∧ ¬ Occ H0 q ∧ B q = none ∧ H q = some (.lst vs) ∧ DenL K B vs xs := s.sl n _ hn
/-- x.append(e): e may change other own lists -/
theorem xm_append (n : Nat) (hn : ∃ zs, Γ[n]? = some (.own zs)) (hn1 : Γ1[n]? = some (.own xs)) (he : XM T X Γ e d Γ1) (hl : xs.length < sizeLine) (hN : X.N[n]? = some y := by rfl) (hv : Vis X.env.scope y := by first | exact Or.inl rfl | exact Or.inr (Or.inl rfl) | exact Or.inr (Or.inr rfl)) (ha : starEach [e] X.env = (false, eval e X.env) :: starEach [] X.env := by rfl) (hd1 : (y == ("__debug__" : Str)) = false := by decide) (hcd : (y == ("__classdict__" : Str)) = false := by decide) (hline : (apos.endLine == pos.line) = true := by rfl) :
    XM T X Γ (.Call (.Attribute (.Name y p1) "append" apos) [e] [] pos) .none (Γ1.set n (.own (xs ++ [d]))) := fun B0 H0 σ B H s r Q k =>
  we_M1 PySem.F.plainAttrs_list PySem.F.slot_list_append PySem.F.type_list_append mt_append rfl hline ha (we (pe_var hN hv hd1 hcd) (by
    obtain ⟨zs, hn⟩ := hn
    obtain ⟨q, vs, h1, _, _, hp, _⟩ := own_get s hn
    refine ⟨_, h1, tyV_l (.of hp), he B0 H0 σ B H s r _ fun v B' H' s' r' sub hd => ?_⟩
    obtain ⟨q', vs', g1, g0, gb, gp, gd⟩ := own_get s' hn1
    rw [h1] at g1; cases g1
    obtain ⟨a1, a2⟩ := mut_st s' r' hn1 h1 g0 gb gp (gd.snoc hd)
    exact ⟨q, vs', v, rfl, rfl, gp, by rw [gd.length]; exact hl, k _ B' _ a1 a2 sub .non⟩))
theorem x1_append (n : Nat) (he : XE T X Γ e d) (hl : xs.length < sizeLine) (h : R (.nx (Γ.set n (.own (xs ++ [d]))))) (hn : Γ[n]? = some (.own xs) := by rfl) (hN : X.N[n]? = some y := by rfl) (hv : Vis X.env.scope y := by first | exact Or.inl rfl | exact Or.inr (Or.inl rfl) | exact Or.inr (Or.inr rfl)) (ha : starEach [e] X.env = (false, eval e X.env) :: starEach [] X.env := by rfl) (hd1 : (y == ("__debug__" : Str)) = false := by decide) (hcd : (y == ("__classdict__" : Str)) = false := by decide) (hline : (apos.endLine == pos.line) = true := by rfl) (hs : swapsWith (.Call (.Attribute (.Name y p1) "append" apos) [e] [] pos) none pos'.line X.env = pure false := by rfl) :
    X1 T X Γ (.Expr (.Call (.Attribute (.Name y p1) "append" apos) [e] [] pos) pos') R := x1_exprM (xm_append n ⟨_, hn⟩ hn he.toM hl (hN := hN) (hv := hv) (ha := ha) (hd1 := hd1) (hcd := hcd) (hline := hline)) h hs
/-- x.extend(e), e a new list -/
theorem xm_extend (n : Nat) (he : XN T X Γ e ys) (hl : xs.length + ys.length ≤ sizeLine) (hn : Γ[n]? = some (.own xs) := by rfl) (hN : X.N[n]? = some y := by rfl) (hv : Vis X.env.scope y := by first | exact Or.inl rfl | exact Or.inr (Or.inl rfl) | exact Or.inr (Or.inr rfl)) (ha : starEach [e] X.env = (false, eval e X.env) :: starEach [] X.env := by rfl) (hd1 : (y == ("__debug__" : Str)) = false := by decide) (hcd : (y == ("__classdict__" : Str)) = false := by decide) (hline : (apos.endLine == pos.line) = true := by rfl) :
    XM T X Γ (.Call (.Attribute (.Name y p1) "extend" apos) [e] [] pos) .none (Γ.set n (.own (xs ++ ys))) := fun B0 H0 σ B H s r Q k =>
  we_M1 PySem.F.plainAttrs_list PySem.F.slot_list_extend PySem.F.type_list_extend mt_extend rfl hline ha (we (pe_var hN hv hd1 hcd) (by
    obtain ⟨q, vs, h1, _, _, hp, _⟩ := own_get s hn
    refine ⟨_, h1, tyV_l (.of hp), he H0 σ B H s _ fun p ws H1 r1 hq hd => ?_⟩
    have s1 := s.step r1
    have rr := r.step r1
    obtain ⟨q', vs', g1, g0, gb, gp, gd⟩ := own_get s1 hn
    rw [h1] at g1; cases g1
    have npq : q ≠ p := ne_of_none gp hq
    have s2 := s1.lay (us := ws) hq
    have r2 : Rel T B0 H0 (grow B H H1) (upd H1 p (.lst ws)) := ⟨rr.rl.trans (.new hq), fun a o e => grow_keep rr.rl hq a o (rr.inn a o e)⟩
    have gp2 : (upd H1 p (.lst ws)) q = some (.lst vs') := by rw [upd_ne npq]; exact gp
    obtain ⟨a1, a2⟩ := mut_st s2 r2 hn h1 g0 gb gp2 (gd.app hd)
    exact ⟨q, p, vs', ws, rfl, rfl, gp2, upd_same, by rw [gd.length, hd.length]; exact hl, k _ _ _ a1 a2 (sub_grow s.sub s.nt) .non⟩))
theorem x1_extend (n : Nat) (he : XN T X Γ e ys) (hl : xs.length + ys.length ≤ sizeLine) (h : R (.nx (Γ.set n (.own (xs ++ ys))))) (hn : Γ[n]? = some (.own xs) := by rfl) (hN : X.N[n]? = some y := by rfl) (hv : Vis X.env.scope y := by first | exact Or.inl rfl | exact Or.inr (Or.inl rfl) | exact Or.inr (Or.inr rfl)) (ha : starEach [e] X.env = (false, eval e X.env) :: starEach [] X.env := by rfl) (hd1 : (y == ("__debug__" : Str)) = false := by decide) (hcd : (y == ("__classdict__" : Str)) = false := by decide) (hline : (apos.endLine == pos.line) = true := by rfl) (hs : swapsWith (.Call (.Attribute (.Name y p1) "extend" apos) [e] [] pos) none pos'.line X.env = pure false := by rfl) :
    X1 T X Γ (.Expr (.Call (.Attribute (.Name y p1) "extend" apos) [e] [] pos) pos') R := x1_exprM (xm_extend n he hl (hn := hn) (hN := hN) (hv := hv) (ha := ha) (hd1 := hd1) (hcd := hcd) (hline := hline)) h hs
/-- x.pop(i) -/
theorem xm_popAt (n : Nat) {k : Nat} (he : XE T X Γ e (.int i)) (h0 : -(2 ^ 63) ≤ i) (h1 : i < 2 ^ 63) (hk : seqIndex? i xs.length = some k) (hd : xs[k]? = some d) (hn : Γ[n]? = some (.own xs) := by rfl) (hN : X.N[n]? = some y := by rfl) (hv : Vis X.env.scope y := by first | exact Or.inl rfl | exact Or.inr (Or.inl rfl) | exact Or.inr (Or.inr rfl)) (ha : starEach [e] X.env = (false, eval e X.env) :: starEach [] X.env := by rfl) (hd1 : (y == ("__debug__" : Str)) = false := by decide) (hcd : (y == ("__classdict__" : Str)) = false := by decide) (hline : (apos.endLine == pos.line) = true := by rfl) :
    XM T X Γ (.Call (.Attribute (.Name y p1) "pop" apos) [e] [] pos) d (Γ.set n (.own (xs.eraseIdx k))) := fun B0 H0 σ B H s r Q kk =>
  we_M1 PySem.F.plainAttrs_list PySem.F.slot_list_pop PySem.F.type_list_pop mt_popAt rfl hline ha (we (pe_var hN hv hd1 hcd) (by
    obtain ⟨q, vs, g1, _, _, hp, _⟩ := own_get s hn
    refine ⟨_, g1, tyV_l (.of hp), he H0 σ B H s _ fun v H1 r1 hv => ?_⟩
    cases hv
    have s1 := s.step r1
    have rr := r.step r1
    obtain ⟨q', vs', f1, f0, fb, fp, fd⟩ := own_get s1 hn
    rw [g1] at f1; cases f1
    obtain ⟨w, hw, dw⟩ := fd.get hd
    obtain ⟨a1, a2⟩ := mut_st s1 rr hn g1 f0 fb fp (fd.erase k)
    exact ⟨q, vs', i, k, w, rfl, rfl, fp, h0, h1, by rw [fd.length]; exact hk, hw, kk _ _ _ a1 a2 (sub_grow s.sub s.nt) dw⟩))
/-- x.pop() -/
theorem xm_pop (n : Nat) (hn : Γ[n]? = some (.own (xs ++ [d])) := by rfl) (hN : X.N[n]? = some y := by rfl) (hv : Vis X.env.scope y := by first | exact Or.inl rfl | exact Or.inr (Or.inl rfl) | exact Or.inr (Or.inr rfl)) (hd1 : (y == ("__debug__" : Str)) = false := by decide) (hcd : (y == ("__classdict__" : Str)) = false := by decide) (hline : (apos.endLine == pos.line) = true := by rfl) :
    XM T X Γ (.Call (.Attribute (.Name y p1) "pop" apos) [] [] pos) d (Γ.set n (.own xs)) := fun B0 H0 σ B H s r Q kk =>
  we_M0 PySem.F.plainAttrs_list PySem.F.slot_list_pop PySem.F.type_list_pop mt_pop rfl hline (we (pe_var hN hv hd1 hcd) (by
    obtain ⟨q, vs, g1, g0, gb, hp, gd⟩ := own_get s hn
    have hl := gd.length
    rw [List.length_append, List.length_singleton] at hl
    obtain ⟨w, hw, dw⟩ := gd.get (i := vs.length - 1) (d := d) (by rw [hl]; simp)
    have e : vs.dropLast = vs.take xs.length := by rw [List.dropLast_eq_take, hl]; simp
    have gt := gd.take xs.length
    rw [List.take_left] at gt
    obtain ⟨a1, a2⟩ := mut_st s r hn g1 g0 gb hp gt
    exact ⟨_, g1, tyV_l (.of hp), q, vs, w, rfl, rfl, hp, hw, by rw [e]; exact kk _ _ _ a1 a2 (fun _ _ q => q) dw⟩))
/-- x.insert(i, e) -/
theorem xm_insert (n : Nat) (ha : XE T X Γ a (.int i)) (he : XE T X Γ e d) (h0 : 0 ≤ i) (h1 : i < 2 ^ 63) (hl : xs.length < sizeLine) (hn : Γ[n]? = some (.own xs) := by rfl) (hN : X.N[n]? = some y := by rfl) (hv : Vis X.env.scope y := by first | exact Or.inl rfl | exact Or.inr (Or.inl rfl) | exact Or.inr (Or.inr rfl)) (hs : starEach [a, e] X.env = (false, eval a X.env) :: starEach [e] X.env := by rfl) (hs2 : starEach [e] X.env = (false, eval e X.env) :: starEach [] X.env := by rfl) (hd1 : (y == ("__debug__" : Str)) = false := by decide) (hcd : (y == ("__classdict__" : Str)) = false := by decide) (hline : (apos.endLine == pos.line) = true := by rfl) :
    XM T X Γ (.Call (.Attribute (.Name y p1) "insert" apos) [a, e] [] pos) .none (Γ.set n (.own (xs.take i.toNat ++ [d] ++ xs.drop i.toNat))) := fun B0 H0 σ B H s r Q kk =>
  we_M2 PySem.F.plainAttrs_list PySem.F.slot_list_insert PySem.F.type_list_insert mt_insert rfl hline hs hs2 (we (pe_var hN hv hd1 hcd) (by
    obtain ⟨q, vs, g1, _, _, hp, _⟩ := own_get s hn
    refine ⟨_, g1, tyV_l (.of hp), ha.two he s fun v w H1 r1 hv hw => ?_⟩
    cases hv
    have s1 := s.step r1
    have rr := r.step r1
    obtain ⟨q', vs', f1, f0, fb, fp, fd⟩ := own_get s1 hn
    rw [g1] at f1; cases f1
    obtain ⟨a1, a2⟩ := mut_st s1 rr hn g1 f0 fb fp (((fd.take i.toNat).app (.cons hw .nil)).app (fd.drop i.toNat))
    exact ⟨q, vs', i, w, rfl, rfl, fp, by rw [fd.length]; exact hl, h0, h1, kk _ _ _ a1 a2 (sub_grow s.sub s.nt) .non⟩))
/-- x[i] = e, x an own list -/
theorem x1_setItem (n : Nat) (he : XE T X Γ e d) (ha : XE T X Γ a (.int i)) {k : Nat} (hk : ixN xs.length i = some k) (h : R (.nx (Γ.set n (.own (xs.set k d))))) (hn : Γ[n]? = some (.own xs) := by rfl) (hN : X.N[n]? = some y := by rfl) (hv : Vis X.env.scope y := by first | exact Or.inl rfl | exact Or.inr (Or.inl rfl) | exact Or.inr (Or.inr rfl)) (hd1 : (y == ("__debug__" : Str)) = false := by decide) (hcd : (y == ("__classdict__" : Str)) = false := by decide) (hg : ∀ v, assign (.Subscript (.Name y p1) a pos) X.env v = (do
      let ov ← holding [v] (eval (.Name y p1) X.env)
      let iv ← holding [v, ov] (eval a X.env)
      standAt pos
      holding [v, ov, iv] (setItem ov iv v)
      release [v, ov, iv] []) := by intro _; rfl) (hs : swapsWithSole [.Subscript (.Name y p1) a pos] e pos'.line X.env = pure false := by rfl) (hw : swappedStores [.Subscript (.Name y p1) a pos] e X.env = pure none := by rfl) (h1 : (assignEach [.Subscript (.Name y p1) a pos] X.env).map (·.2) = [assign (.Subscript (.Name y p1) a pos) X.env] := by rfl) : X1 T X Γ (.Assign [.Subscript (.Name y p1) a pos] e pos') R := fun B0 H0 σ B H s r D W tk p =>
  ws (ps_asg pe_w (pg_sub (pe_var hN hv hd1 hcd) pe_w set_list hg) hs hw h1) (he H0 σ B H s _ fun v H1 r1 hdv => by
    have s1 := s.step r1
    obtain ⟨q, vs, g1, _, _, _, _⟩ := own_get s1 hn
    refine ⟨_, g1, ha H0 σ _ H1 s1 _ fun w H2 r2 hw => ?_⟩
    cases hw
    have s2 := s1.step r2
    obtain ⟨q', vs', f1, f0, fb, fp, fd⟩ := own_get s2 hn
    rw [g1] at f1; cases f1
    obtain ⟨a1, a2⟩ := mut_st s2 ((r.step r1).step r2) hn g1 f0 fb fp (fd.set k (hdv.mono (sub_grow s1.sub s1.nt)))
    exact ⟨q, vs', i, k, rfl, rfl, fp, by rw [fd.length]; exact hk, p.nx _ σ _ _ h a1 a2 fun a o e => sub_grow s1.sub s1.nt a o (sub_grow s.sub s.nt a o e)⟩)

/-! ### methods that change nothing -/
theorem xe_join {zs : List Str} (ho : XE T X Γ a (.str z)) (he : XL T X Γ e (zs.map .str)) (hl : (zs.map (·.length)).sum + zs.length * z.length ≤ 16777216)
    (ha : starEach [e] X.env = (false, eval e X.env) :: starEach [] X.env := by rfl) (hbase : attributeBase a "join" X.env (eval a X.env) = eval a X.env := by rfl) (hline : (apos.endLine == pos.line) = true := by rfl) : XE T X Γ (.Call (.Attribute a "join" apos) [e] [] pos) (.str (Txt.join z zs)) := fun H0 σ B H s Q k =>
  we (L2.pe_join pe_w pe_w ha hbase hline) (ho H0 σ B H s _ fun v H1 r1 h1 => ⟨by cases h1; exact ⟨z, rfl⟩, he H0 σ _ H1 (s.step r1) _ fun q vs H2 r2 hq hd => by
    cases h1
    exact ⟨z, q, zs, rfl, rfl, .inl (by rw [← hd.strs]; exact .inl hq), hl, k _ H2 (r1.trans r2) (.str _)⟩⟩)
end
end PL

/-! PL7: a def by its body; raise. -/
namespace PL
open PySem PySem.Spec PyProof.Rows L2

/-- built-in names that the module does not bind -/
structure Bl (mg : Str → Option Value) : Prop where
  len : mg "len" = none
  sum : mg "sum" = none
  range : mg "range" = none
  list : mg "list" = none
  tuple : mg "tuple" = none
  dict : mg "dict" = none
  set : mg "set" = none
  int : mg "int" = none
  str : mg "str" = none
  bool : mg "bool" = none
  sorted : mg "sorted" = none
  isinstance : mg "isinstance" = none
  enumerate : mg "enumerate" = none
  zip : mg "zip" = none
  max : mg "max" = none
  min : mg "min" = none
  all : mg "all" = none
  any : mg "any" = none
  abs : mg "abs" = none
  ve : mg "ValueError" = none
def G0 (N : List Str) (ds : List PyData) : List Sl := ds.map .d ++ List.replicate (N.length - ds.length) .no
def retR (r : Res) : Out → Prop
  | .rt d => r = .ok d
  | .nx _ => r = .ok .none
  | .ex c => r = .ex c
  | _ => False
abbrev DX (P : Program) (w : World) (K : PySem.W.Frag) (mg : Str → Option Value) (base : Heap) (N : List Str) (qual : Str) (st : Stmt) (f : Addr) (cdv : Value) (A : Around) (outer : List Env) (s : Shared) (H : Hp) (E : XK) : Cx :=
  cxOf (L2.CX P w) P w K mg base N qual (defScope st) f cdv A outer s H E
section
variable {P : Program} {w : World} {K : PySem.W.Frag} {mg : Str → Option Value} {base : Heap} {T : List (Addr × Str)}
theorem start_get {N : List Str} {vs : List V} {i : Nat} {v : V} (h : vs[i]? = some v) : (L2.start N vs)[i]? = some (some v) := by
  unfold L2.start
  have hl : i < vs.length := (List.getElem?_eq_some_iff.mp h).1
  rw [List.getElem?_append_left (by simpa using hl), List.getElem?_map, h]; rfl
theorem sat_start {N : List Str} {vs : List V} {ds : List PyData} {B H : Hp} (hN : ds.length ≤ N.length) (sub : Same B H) (nt : NoT B) (tb : LamX.Tabs T H) (hd : DenL K B vs ds) : Sat K T H (G0 N ds) (L2.start N vs) B H := by
  refine ⟨sub, nt, tb, ?_, fun i sl e => ?_, fun i j d e p _ h1 => ?_⟩
  · unfold L2.start G0; simp [hd.length]
  · unfold G0 at e
    by_cases hi : i < ds.length
    · rw [List.getElem?_append_left (by simpa using hi), List.getElem?_map] at e
      obtain ⟨d, hd1⟩ : ∃ d, ds[i]? = some d := ⟨ds[i], by simp [hi]⟩
      rw [hd1] at e; cases e
      obtain ⟨v, h1, h2⟩ := hd.get hd1
      exact ⟨v, start_get h1, h2⟩
    · rw [List.getElem?_append_right (by simpa using hi), List.getElem?_replicate] at e
      split at e <;> cases e
      trivial
  · exfalso
    unfold G0 at h1
    by_cases hi : i < ds.length
    · rw [List.getElem?_append_left (by simpa using hi), List.getElem?_map] at h1
      cases q : ds[i]? with
      | none => rw [q] at h1; cases h1
      | some d => rw [q] at h1; cases h1
    · rw [List.getElem?_append_right (by simpa using hi), List.getElem?_replicate] at h1
      split at h1 <;> cases h1
/-- THE RULE for a def: its body, from its parameters' data -/
theorem okP {x qual : Str} {st : Stmt} {f : Addr} {fd : FuncData} {N ps : List Str} {k : Nat} {M : List PyData → Res → Prop} (F : Fun K x qual st f fd) (S : FnScope N ps (defScope st)) (hl : ∀ ds r, M ds r → ds.length = ps.length)
    (hb : ∀ (cdv : Value) (A : Around) (outer : List Env) (s : Shared) (H : Hp) (E : XK), Room k (A.deeper (envOfC qual (defScope st) s.heap.objs.size f cdv)) → ∀ ds r, M ds r →
      XS T (DX P w K mg base N qual st f cdv A outer s H E) (G0 N ds) (defBody st) (retR r)) : FnOk P w K mg base (L2.CX P w) (k + 1) f fd ps (spP K T M) := by
  refine F.okX S (fun vs H Q E h => ?_) (fun cdv A outer s H vs Q E hr h => ?_)
  · obtain ⟨B, ds, r, _, _, _, hd, hM, _⟩ := h
    rw [hd.length]; exact hl ds r hM
  · obtain ⟨B, ds, r, sub, nt, tb, hd, hM, kq, kx⟩ := h
    refine ⟨WSs (DX P w K mg base N qual st f cdv A outer s H E) (defBody st), pss_w, ?_⟩
    have hN : ds.length ≤ N.length := by
      rw [hl ds r hM]
      have := congrArg List.length S.pre
      rw [List.length_take] at this; omega
    refine hb cdv A outer s H E hr ds r hM B H _ B H (sat_start hN sub nt tb hd) (.refl sub nt) _ (fun cls d _ H => E cls d H) (takes_of rfl rfl rfl rfl) ?_
    exact ⟨fun Γ σ B' H' z s' r' u => kq .none .non H' z r'.rl .non, fun _ _ _ _ z => z.elim, fun _ _ _ _ z => z.elim, fun d v B' H' z _ _ _ hv r' => kq d v H' z r'.rl (r'.out hv), fun c σ B' H' z r' => kx c H' z r'.rl⟩
/-- a def, as it is called -/
theorem Cal.mk' {x : Str} {k : Nat} {M : List PyData → Res → Prop} {f : Addr} {fd : FuncData} {ps : List Str} (F : FnOk P w K mg base (L2.CX P w) k f fd ps (spP K T M)) (m : mg x = some (.ref f)) (kp : PySem.W.keepIn K (.ref f) = true) (b : Binds K fd ps []) : Cal P w K mg base T x k M := ⟨f, fd, ps, F, m, kp, b⟩
end
section
variable {T : List (Addr × Str)} {X : Cx} {Γ : List Sl} {R : Out → Prop} {y m : Str} {C : Addr} {j : Nat} {p p2 pos pos' : Pos}
/-- raise C("..") of a class of the program's own over ValueError -/
theorem x1_raise (hc : X.calm = true) (q : PySem.W.excIn X.K C [.type "ValueError", .type "Exception", .type "BaseException", .type "object"] "ValueError.__new__" = true) (gC : X.mg y = some (.ref C)) (kC : PySem.W.keepIn X.K (.ref C) = true) (r : Raises X (.ref C)) (hg : Gl X y) (h : R (.ex (.ref C)))
    (hdb : (y == ("__debug__" : Str)) = false := by decide) : X1 T X Γ (.Raise (some (.Call (.Name y p) [.Constant (.str m) j p2] [] pos)) none pos') R := fun B0 H0 σ B H s r' D W tk p =>
  ws (ps_raise hc tk (pmk_own PySem.F.excBase_ValueError q gC kC r hg hdb)) (p.ex _ σ B H h r')
end
end PL

/-! PL8: small facts about data; the classes of refusals. -/
namespace PL
open PySem PySem.Spec PyProof.Rows L2

def isInt : PyData → Bool
  | .int _ => true | .bool _ => true | _ => false
def isBool : PyData → Bool
  | .bool _ => true | _ => false
def isStr : PyData → Bool
  | .str _ => true | _ => false
def isTup : PyData → Bool
  | .tuple _ => true | _ => false
def isLst : PyData → Bool
  | .list _ => true | _ => false
def isDct : PyData → Bool
  | .dict _ => true | _ => false
theorem kit_int (d : PyData) : kitB (tyN d) "int" = some (isInt d) := by cases d <;> (dsimp only [tyN, isInt]; decide +kernel)
theorem kit_bool (d : PyData) : kitB (tyN d) "bool" = some (isBool d) := by cases d <;> (dsimp only [tyN, isBool]; decide +kernel)
theorem kit_str (d : PyData) : kitB (tyN d) "str" = some (isStr d) := by cases d <;> (dsimp only [tyN, isStr]; decide +kernel)
theorem kit_tup (d : PyData) : kitB (tyN d) "tuple" = some (isTup d) := by cases d <;> (dsimp only [tyN, isTup]; decide +kernel)
theorem kit_lst (d : PyData) : kitB (tyN d) "list" = some (isLst d) := by cases d <;> (dsimp only [tyN, isLst]; decide +kernel)
theorem kit_dct (d : PyData) : kitB (tyN d) "dict" = some (isDct d) := by cases d <;> (dsimp only [tyN, isDct]; decide +kernel)
/-- a whole number: an int that is neither True nor False -/
def isWhole : PyData → Bool
  | .int _ => true | _ => false
theorem isWhole_eq (d : PyData) : (isInt d && !isBool d) = isWhole d := by cases d <;> rfl
theorem isWhole_ex {d : PyData} (h : isWhole d = true) : ∃ i, d = .int i := by cases d <;> first | exact ⟨_, rfl⟩ | cases h
def isNum (d : PyData) (lo hi : Int) : Bool := match d with
  | .int i => decide (lo ≤ i) && decide (i ≤ hi)
  | _ => false
theorem isNum_of {d : PyData} {lo hi : Int} (h : isNum d lo hi = true) : ∃ i, d = .int i ∧ lo ≤ i ∧ i ≤ hi := by
  cases d with
  | int i => unfold isNum at h; simp at h; exact ⟨i, rfl, h.1, h.2⟩
  | _ => cases h
theorem isNum_int {i lo hi : Int} (h1 : lo ≤ i) (h2 : i ≤ hi) : isNum (.int i) lo hi = true := by unfold isNum; simp [h1, h2]
/-- the classes of refusals -/
structure EC where
  (order number row updown pattern tree ring text deed line loose fraction turn : Addr)
/-- a class of refusals, as the top has made it: it may be raised -/
structure RaiseC (K : PySem.W.Frag) (mg : Str → Option Value) (x : Str) (C : Addr) : Prop where
  g : mg x = some (.ref C)
  e : PySem.W.excIn K C [.type "ValueError", .type "Exception", .type "BaseException", .type "object"] "ValueError.__new__" = true
  k : PySem.W.keepIn K (.ref C) = true
  b : PySem.W.subIn K (.ref C) (.type "BaseException") = some true
  t : PySem.W.typeIn K (.ref C) = some (.type "type")
section
variable {T : List (Addr × Str)} {X : Cx} {Γ : List Sl} {R : Out → Prop} {y m : Str} {C : Addr} {j : Nat} {p p2 pos pos' : Pos}
theorem x1_raiseC (c : RaiseC X.K X.mg y C) (hc : X.calm = true) (hg : Gl X y) (h : R (.ex (.ref C))) (hdb : (y == ("__debug__" : Str)) = false := by decide) :
    X1 T X Γ (.Raise (some (.Call (.Name y p) [.Constant (.str m) j p2] [] pos)) none pos') R := x1_raise hc c.e c.g c.k (raises_own c.b c.t) hg h hdb
end
/-- lists of whole numbers, of such lists; tuples of whole numbers -/
def dLI (ns : List Int) : PyData := .list (ns.map .int)
def dTI (ns : List Int) : PyData := .tuple (ns.map .int)
theorem cut_map {α β : Type} (f : α → β) (l : List α) (a b : Option Int) : cut (l.map f) a b = (cut l a b).map f := by unfold cut; rw [List.length_map, List.map_take, List.map_drop]
theorem atI_map {α β : Type} (f : α → β) (l : List α) (i : Int) : atI (l.map f) i = (atI l i).map f := by
  unfold atI
  rw [List.length_map]
  cases ixN l.length i with
  | none => rfl
  | some j => show (l.map f)[j]? = (l[j]?).map f; rw [List.getElem?_map]
theorem atI_get' {α : Type} {l : List α} {i : Int} {x : α} (h0 : 0 ≤ i) (h : l[i.toNat]? = some x) : atI l i = some x := by
  have hl := (List.getElem?_eq_some_iff.mp h).1
  unfold atI ixN
  rw [if_pos h0, if_pos (by omega)]
  exact h
end PL

/-! PL9: list + list, sorted of tuples, count, index, in, {}. -/
namespace PL
open PySem PySem.Spec PyProof.Rows L2
section
variable {T : List (Addr × Str)} {X : Cx} {Γ Γ' : List Sl} {e a b c o : Expr} {es : List Expr} {d d1 d2 : PyData} {xs ys zs : List PyData} {pos p2 apos : Pos} {H0 B H H1 H2 : Hp} {σ : L2.St} {i j : Int} {x : V}
variable {K : PySem.W.Frag} {y : Str} {p : Pos}
/-! ### list + list -/
def rCatL (K : PySem.W.Frag) : R2 := fun x y H Q => ∃ l b xs zs, x = .ref l ∧ y = .ref b ∧ SqL K H l xs ∧ SqL K H b zs ∧ xs.length + zs.length ≤ sizeLine ∧ ∀ p, H p = none → Q (.ref p) (upd H p (.lst (xs ++ zs)))
theorem op_catL : OpR X (binaryOp .Add) (rCatL X.K) := by
  intro pins s σ H x y v u Q I rx ry h
  obtain ⟨l, b, xs, zs, rfl, rfl, hL, hB, hz, q⟩ := h
  cases rx
  cases ry
  obtain ⟨its, r, ⟨⟨cls, dd, data, sl⟩, n, ho, hc, hdn, hd⟩, _⟩ := I.list hL
  obtain ⟨its2, r2, ⟨⟨cls2, dd2, data2, sl2⟩, n2, ho2, hc2, hdn2, hd2⟩, _⟩ := I.list hB
  simp only at hc hd hc2 hd2
  subst hc hd hc2 hd2
  refine concat_meets ⟨_, ho, rfl⟩ ⟨_, ho2, rfl⟩ noFill_list_add seq_list_add PySem.F.slot_list_add PySem.F.entry_list_add (PySem.F.args_list_add_2 _ _) (PyProof.Rows.list_addW l b its.toArray its2.toArray n n2 dd dd2 sl sl2 (by rw [List.size_toArray, List.size_toArray, ← r.length, ← r2.length]; exact hz)) ⟨ho, ho2, ?_⟩
  have ea : its.toArray ++ its2.toArray = (its ++ its2).toArray := by simp
  rw [ea]
  exact ⟨.ref _, _, I.lnew (t' := s.toks) (r.append r2) (by rw [List.length_append]; exact hz), rfl, q _ I.fresh⟩
theorem xn_cat (ha : XL T X Γ a xs) (hb : XL T X Γ b ys) (hl : xs.length + ys.length ≤ sizeLine) (hz : xs ++ ys = zs := by rfl) : XN T X Γ (.BinOp a .Add b pos) zs := hz ▸ fun H0 σ B H s Q k =>
  we (pe_op op_catL pe_w pe_w) (ha H0 σ B H s _ fun p vs H1 r1 q1 h1 => hb H0 σ _ H1 (s.step r1) _ fun p2 ws H2 r2 q2 h2 =>
    ⟨p, p2, vs, ws, rfl, rfl, .inl (rd_rl r2 q1), .inl q2, by rw [h1.length, h2.length]; exact hl, fun p' hp => k p' _ H2 (r1.trans r2) hp ((h1.mono (s.up r1 r2)).app (h2.mono (grow_grow r1 r2)))⟩)
/-! ### sorted of tuples of whole numbers -/
def srtT (bs : List (List Int)) : List (List Int) := bs.mergeSort fun p q => decide (p ≤ q)
theorem dataLe_tups : PySem.W.dataLe false dTI = fun p q => decide (p ≤ q) := by
  funext p q
  show (!PySem.W.dataLt (.tuple (q.map .int)) (.tuple (p.map .int))) = _
  have e : PySem.W.dataLt (.tuple (q.map .int)) (.tuple (p.map .int)) = decide (q < p) := PySem.W.dataLt_ints q p
  rw [e]
  by_cases h : q < p
  · have h' : ¬ p ≤ q := fun r => List.not_lt.mpr r h
    simp [h, h']
  · have h' : p ≤ q := List.not_lt.mp h
    simp [h, h']
theorem alike_ints : ∀ xs ys : List Int, PySem.W.alikeAll (xs.map .int) (ys.map .int) = true
  | [], _ => by simp [PySem.W.alikeAll]
  | _ :: _, [] => by simp [PySem.W.alikeAll]
  | x :: xs, y :: ys => by simp [PySem.W.alikeAll, PySem.W.alike, alike_ints xs ys]
theorem canLay_ints : ∀ ns : List Int, PyData.canLayAll0 (ns.map .int) = true
  | [] => by simp [PyData.canLayAll0]
  | n :: ns => by simp [PyData.canLayAll0, PyData.canLay0, canLay_ints ns]
theorem depth_ints : ∀ ns : List Int, PyData.depthAll (ns.map .int) = 0
  | [] => by simp [PyData.depthAll]
  | n :: ns => by simp [PyData.depthAll, PyData.depth, depth_ints ns]
theorem each_of {R : Value → List Int → Prop} (hR : ∀ x v b, RelV x v → Den K H x (dTI b) → R v b) : ∀ {xs : List V} {us : List Value} {bs : List (List Int)}, Vals xs us → DenL K H xs (bs.map dTI) → PySem.W.EachIs R us bs
  | _, _, [], .nil, .nil => .nil
  | _, _, b :: bs, .cons r t, .cons h k => .cons (hR _ _ _ r h) (each_of hR t k)
theorem each_to : ∀ {us : List Value} {bs : List (List Int)}, PySem.W.EachIs (fun v b => ∃ x, RelV x v ∧ Den K H x (dTI b)) us bs → ∃ xs, Vals xs us ∧ DenL K H xs (bs.map dTI)
  | _, _, .nil => ⟨[], .nil, .nil⟩
  | _, _, .cons ⟨x, r, h⟩ t => let ⟨xs, r', h'⟩ := each_to t; ⟨x :: xs, .cons r r', .cons h h'⟩
def rSortTup (K : PySem.W.Frag) : List V → Hp → VK → Prop := fun vs H Q => ∃ (B : Hp) (a : Addr) (xs : List V) (bs : List (List Int)), Same B H ∧ vs = [.ref a] ∧ SqL K H a xs ∧ DenL K B xs (bs.map dTI) ∧ (∀ b ∈ bs, b ≠ []) ∧ ∀ ys p, DenL K B ys ((srtT bs).map dTI) → H p = none → Q (.ref p) (upd H p (.lst ys))
theorem cr_sortTup (hu : X.A.units + 10 < cLine) : CallR X (.builtin "sorted") (rSortTup X.K) := by
  intro pins s σ H vs us Q I r h
  obtain ⟨B, a, xs, bs, sB, rfl, hs, hd, hne, q⟩ := h
  obtain ⟨its, rv, hl, hz⟩ := I.list hs
  rw [Vals.ref1 r]
  have hlen := hd.length
  rw [List.length_map] at hlen
  have lay : ∀ b : List Int, (dTI b).canLay0 = true := fun b => by unfold dTI; simp [PyData.canLay0, canLay_ints]
  have e1 : PySem.W.EachIs (fun v b => ∃ x, RelV x v ∧ Den X.K B x (dTI b)) its bs := each_of (fun x v b r h => ⟨x, r, h⟩) rv hd
  have e2 : PySem.W.EachIs (fun v b => ∃ as, Reads s.heap v (dTI b) as) its bs := each_of (fun x v b r h => Dp.reads I _ x v (Den.dp _ (h.mono sB) (lay b)) r) rv hd
  refine PySem.W.sorted_data (enc := dTI) hl.isList e1 e2 (PySem.W.AllAlike.of fun b b' => by unfold dTI; simp [PySem.W.alike, alike_ints]) (.inl fun d hd => ?_) (by omega) (fun b _ => by unfold dTI; simp [PyData.depth, depth_ints]; omega) fun out ho eo => ?_
  · obtain ⟨b, hb, rfl⟩ := List.mem_map.mp hd
    cases b with
    | nil => exact absurd rfl (hne _ hb)
    | cons x r => exact ⟨_, _, rfl⟩
  · rw [dataLe_tups] at eo
    obtain ⟨ys, r', h'⟩ := each_to eo
    obtain ⟨ep, he'⟩ := PyProof.Rows.sortedAll_at s.heap its out.toArray
    have hlen2 : ys.length ≤ sizeLine := by rw [r'.length, ho]; omega
    exact ⟨.ref _, upd H (s.heap.objs.size + 1) (.lst ys), I.laid (t' := s.toks) (fun _ _ => PyProof.Rows.sortedAll_old) (Nat.le_succ _) ⟨hlen2, out, ep, r', he'⟩, rfl, q _ _ h' (I.hok.fresh (Nat.le_succ _))⟩
theorem xn_sortedT {bs : List (List Int)} (hu : X.A.units + 10 < cLine) (hne : ∀ b ∈ bs, b ≠ []) (hg : Gl X "sorted") (hm : X.mg "sorted" = none) (ha : XL T X Γ a (bs.map dTI)) (hs : starEach [a] X.env = (false, eval a X.env) :: starEach [] X.env := by rfl) : XN T X Γ (.Call (.Name "sorted" p) [a] [] pos) ((srtT bs).map dTI) := fun H0 σ B H s Q k =>
  we_B1 (t := WE X a) (cr_sortTup hu) hg hm boot_sorted hs (by decide) (by decide) (ha H0 σ B H s _ fun q vs H1 r hq hd => ⟨grow B H H1, q, vs, bs, s.le r, rfl, .inl hq, hd, hne, fun ys p h hp => k p ys H1 r hp h⟩)
theorem srtT_perm (bs : List (List Int)) : (srtT bs).Perm bs := List.mergeSort_perm bs _
/-! ### count, index, in -/
def rCountD (K : PySem.W.Frag) : V → List V → Hp → VK → Prop := fun x xs H Q => ∃ (a : Addr) (y : V) (d : PyData) (ds : List PyData), x = V.ref a ∧ xs = [y] ∧ Dp K H (V.ref a) (.list ds) ∧ Dp K H y d ∧
  SeqAt.shaped (.list ds) = true ∧ SeqAt.shaped d = true ∧ Q (.int (ds.countP (fun z => PyData.eqv z d) : Nat)) H
theorem mt_countD (hu : X.A.units + 65 < cLine) : MtR X "list.count" (rCountD X.K) := by
  intro pins s σ H x xs v us Q I rx rxs h
  obtain ⟨a, y, d, ds, rfl, rfl, hl, hy, sl, sd, q⟩ := h
  cases rx
  cases rxs with
  | cons ry rt =>
    rename_i uy ut
    cases rt
    obtain ⟨bs, r1⟩ := Dp.reads I d y uy hy ry
    have hxs : PyData.canLayAll0 ds = true := SeqAt.canLay_of_shaped sl
    have hroom : X.A.units + 1 + min (PyData.depthAll ds) d.depth < cLine := room_in_shaped sd hu
    cases hl with
    | lst hs ha =>
      obtain ⟨its, rv, ⟨⟨cls, dd, data, sls⟩, n, ho, hc, hdn, hdt⟩, hlen⟩ := I.list hs
      simp only at hc hdt
      subst hc hdt
      obtain ⟨as, h4⟩ := Dp.readsAll I ds _ its ha rv
      have hmap : its.map (SeqAt.readOf s.heap) = ds := SeqAt.readsAll_map ds its as hxs h4
      refine call_meets PySem.F.slot_list_count ⟨_, ho, rfl⟩ PySem.F.entry_list_count (PySem.F.args_list_count_2 _ _)
        (SeqAt.list_countAt a its.toArray n dd sls uy (fun u => PyData.eqv (SeqAt.readOf s.heap u) d)) ⟨ho, SeqAt.items_eqAt (vs := its.toArray) (show ReadsAll s.heap its.toArray.toList ds as from h4) r1 hxs (SeqAt.canLay_of_shaped sd) hroom, ?_⟩
      have ec : its.toArray.toList.countP (fun u => PyData.eqv (SeqAt.readOf s.heap u) d) = ds.countP (fun z => PyData.eqv z d) := by
        rw [← hmap, List.countP_map]; rfl
      rw [ec]
      exact ⟨.int _, H, I.tok _, ⟨_, rfl⟩, q⟩
theorem xe_countD {n : Int} (hu : X.A.units + 65 < cLine) (ha : XL T X Γ o xs) (hb : XD T X Γ a d) (h1 : SeqAt.shaped (.list xs) = true) (h2 : SeqAt.shaped d = true) (hz : ((xs.countP (fun z => PyData.eqv z d) : Nat) : Int) = n := by rfl) (hbase : attributeBase o "count" X.env (eval o X.env) = eval o X.env := by rfl) (hline : (apos.endLine == pos.line) = true := by rfl) (hs : starEach [a] X.env = (false, eval a X.env) :: starEach [] X.env := by rfl) :
    XE T X Γ (.Call (.Attribute o "count" apos) [a] [] pos) (.int n) := hz ▸ fun H0 σ B H s Q k =>
  we_M1 PySem.F.plainAttrs_list PySem.F.slot_list_count PySem.F.type_list_count (mt_countD hu) hbase hline hs (ha H0 σ B H s _ fun p vs H1 r1 q1 hd => ⟨tyV_l (.inl q1), hb H0 σ _ H1 (s.step r1) _ fun v H2 r2 hv =>
    ⟨p, v, d, xs, rfl, rfl, .lst (.inl (rd_rl r2 q1)) (DenL.dp xs (DenL.rl (hd.mono (s.le r1)) r2) (SeqAt.canLay_of_shaped h1)), hv.dp d (SeqAt.canLay_of_shaped h2), h1, h2, k _ H2 (r1.trans r2) (.int _)⟩⟩)
theorem xe_indexD {n : Int} {j : Nat} {z : PyData} (hu : X.A.units + 65 < cLine) (ha : XL T X Γ o xs) (hb : XD T X Γ a d) (h1 : SeqAt.shaped (.list xs) = true) (h2 : SeqAt.shaped d = true) (hj : xs[j]? = some z) (hzj : PyData.eqv z d = true) (hno : ∀ (m : Nat) (z' : PyData), m < j → xs[m]? = some z' → PyData.eqv z' d = false) (hz : ((j : Nat) : Int) = n := by rfl) (hbase : attributeBase o "index" X.env (eval o X.env) = eval o X.env := by rfl) (hline : (apos.endLine == pos.line) = true := by rfl) (hs : starEach [a] X.env = (false, eval a X.env) :: starEach [] X.env := by rfl) :
    XE T X Γ (.Call (.Attribute o "index" apos) [a] [] pos) (.int n) := hz ▸ fun H0 σ B H s Q k =>
  we_M1 PySem.F.plainAttrs_list PySem.F.slot_list_index PySem.F.type_list_index (mt_indexD hu) hbase hline hs (ha H0 σ B H s _ fun p vs H1 r1 q1 hd => ⟨tyV_l (.inl q1), hb H0 σ _ H1 (s.step r1) _ fun v H2 r2 hv =>
    ⟨p, v, d, xs, j, z, rfl, rfl, .lst (.inl (rd_rl r2 q1)) (DenL.dp xs (DenL.rl (hd.mono (s.le r1)) r2) (SeqAt.canLay_of_shaped h1)), hv.dp d (SeqAt.canLay_of_shaped h2), h1, h2, hj, hzj, hno, k _ H2 (r1.trans r2) (.int _)⟩⟩)
theorem xt_inD (hu : X.A.units + 65 < cLine) (ha : XD T X Γ a d) (hb : XD T X Γ b (.list xs)) (h1 : SeqAt.shaped d = true) (h2 : SeqAt.shaped (.list xs) = true) (hm : behindInMarks .In b = false := by rfl) : XT T X Γ (.Compare a [.In] [b] pos) (xs.any fun z => PyData.eqv z d) := fun H0 σ B H s Q k =>
  wt (pt_cmpR (op_inD hu) pe_w pe_w hm) (ha.two hb s fun v w H2 r q1 q2 => ⟨d, xs, q1.dp d (SeqAt.canLay_of_shaped h1), q2.dp _ (SeqAt.canLay_of_shaped h2), h1, h2, _, rfl, k H2 r⟩)
theorem xt_notInD (hu : X.A.units + 65 < cLine) (ha : XD T X Γ a d) (hb : XD T X Γ b (.list xs)) (h1 : SeqAt.shaped d = true) (h2 : SeqAt.shaped (.list xs) = true) (hm : behindInMarks .NotIn b = false := by rfl) : XT T X Γ (.Compare a [.NotIn] [b] pos) (!xs.any fun z => PyData.eqv z d) := fun H0 σ B H s Q k =>
  wt (pt_cmpR (op_notInD hu) pe_w pe_w hm) (ha.two hb s fun v w H2 r q1 q2 => ⟨d, xs, q1.dp d (SeqAt.canLay_of_shaped h1), q2.dp _ (SeqAt.canLay_of_shaped h2), h1, h2, _, rfl, k H2 r⟩)
theorem xe_inD (hu : X.A.units + 65 < cLine) (ha : XD T X Γ a d) (hb : XD T X Γ b (.list xs)) (h1 : SeqAt.shaped d = true) (h2 : SeqAt.shaped (.list xs) = true) (hm : behindInMarks .In b = false := by rfl) : XE T X Γ (.Compare a [.In] [b] pos) (.bool (xs.any fun z => PyData.eqv z d)) := fun H0 σ B H s Q k =>
  we (pe_cmpR (op_inD hu) pe_w pe_w hm) (ha.two hb s fun v w H2 r q1 q2 => ⟨d, xs, q1.dp d (SeqAt.canLay_of_shaped h1), q2.dp _ (SeqAt.canLay_of_shaped h2), h1, h2, k _ H2 r (.bl _)⟩)
theorem xe_dict0 : XE T X Γ (.Dict [] [] pos) (.dict []) := fun H0 σ B H s Q k => we pe_dnewK fun p hp =>
  k _ _ (.new hp) (.dk (grow_new (nocc hp) upd_same ⟨(by intro ps z; cases z), (by intro x u z; cases z)⟩) .nil)
/-! ### shapes -/
/-- None, a bool, an int -/
def fltN : PyData → Bool
  | .none => true | .bool _ => true | .int _ => true
  | _ => false
theorem shaped_flat {d : PyData} (h : fltN d = true) : SeqAt.shaped d = true := by
  cases d <;> first | rfl | cases h | skip
  all_goals (unfold SeqAt.shaped; simp [PyData.canLay0, PyData.depth])
theorem canLay_all {xs : List PyData} (h : ∀ x ∈ xs, x.canLay0 = true) : PyData.canLayAll0 xs = true := by
  induction xs with
  | nil => simp [PyData.canLayAll0]
  | cons x xs ih => simp [PyData.canLayAll0, h x (by simp), ih fun y hy => h y (by simp [hy])]
theorem depth_all {xs : List PyData} {n : Nat} (h : ∀ x ∈ xs, x.depth ≤ n) : PyData.depthAll xs ≤ n := by
  induction xs with
  | nil => simp [PyData.depthAll]
  | cons x xs ih =>
    have h1 := h x (by simp)
    have h2 := ih fun y hy => h y (by simp [hy])
    simp only [PyData.depthAll]
    omega
def shp (n : Nat) (d : PyData) : Prop := d.canLay0 = true ∧ d.depth ≤ n
theorem shp_to {n : Nat} {d : PyData} (h : shp n d) (hn : n ≤ 64) : SeqAt.shaped d = true := by
  unfold SeqAt.shaped
  rw [h.1]
  have := h.2
  simp; omega
theorem shp_flat {d : PyData} (h : fltN d = true) : shp 0 d := by
  cases d <;> first | cases h | skip
  all_goals exact ⟨by simp [PyData.canLay0], by simp [PyData.depth]⟩
theorem shp_list {n : Nat} {xs : List PyData} (h : ∀ x ∈ xs, shp n x) : shp (n + 1) (.list xs) := ⟨by simp [PyData.canLay0, canLay_all fun x hx => (h x hx).1], by
  have := depth_all fun x hx => (h x hx).2
  simp only [PyData.depth]; omega⟩
theorem shp_tup {n : Nat} {xs : List PyData} (h : ∀ x ∈ xs, shp n x) : shp (n + 1) (.tuple xs) := ⟨by simp [PyData.canLay0, canLay_all fun x hx => (h x hx).1], by
  have := depth_all fun x hx => (h x hx).2
  simp only [PyData.depth]; omega⟩
theorem shp_map {α : Type} {n : Nat} {f : α → PyData} {xs : List α} (h : ∀ x, shp n (f x)) : ∀ x ∈ xs.map f, shp n x := fun x hx => by
  obtain ⟨y, _, rfl⟩ := List.mem_map.mp hx
  exact h y
theorem shp_li (ns : List Int) : shp 1 (dLI ns) := shp_list (shp_map fun _ => shp_flat rfl)
theorem shp_ti (ns : List Int) : shp 1 (dTI ns) := shp_tup (shp_map fun _ => shp_flat rfl)
theorem shp_bl (ns : List Bool) : shp 1 (.list (ns.map .bool)) := shp_list (shp_map fun _ => shp_flat rfl)
theorem eqv_ints : ∀ ns ms : List Int, PyData.eqvAll (ns.map .int) (ms.map .int) = decide (ns = ms)
  | [], [] => by simp [PyData.eqvAll]
  | [], _ :: _ => by simp [PyData.eqvAll]
  | _ :: _, [] => by simp [PyData.eqvAll]
  | n :: ns, m :: ms => by
    simp only [List.map_cons, PyData.eqvAll, PyData.eqv, eqv_ints ns ms]
    by_cases h : n = m
    · subst h; by_cases h2 : ns = ms <;> simp [h2]
    · simp [h]
theorem eqv_li (ns ms : List Int) : PyData.eqv (dLI ns) (dLI ms) = decide (ns = ms) := by unfold dLI; simp only [PyData.eqv]; exact eqv_ints ns ms
theorem eqv_ti (ns ms : List Int) : PyData.eqv (dTI ns) (dTI ms) = decide (ns = ms) := by unfold dTI; simp only [PyData.eqv]; exact eqv_ints ns ms
theorem eqv_map {α : Type} [DecidableEq α] {f : α → PyData} (h : ∀ a b, PyData.eqv (f a) (f b) = decide (a = b)) : ∀ xs ys : List α, PyData.eqvAll (xs.map f) (ys.map f) = decide (xs = ys)
  | [], [] => by simp [PyData.eqvAll]
  | [], _ :: _ => by simp [PyData.eqvAll]
  | _ :: _, [] => by simp [PyData.eqvAll]
  | n :: ns, m :: ms => by
    simp only [List.map_cons, PyData.eqvAll, h, eqv_map h ns ms]
    by_cases h : n = m
    · subst h; by_cases h2 : ns = ms <;> simp [h2]
    · simp [h]
end
end PL
namespace PL
open PySem PySem.Spec PyProof.Rows L2
theorem hu10 {k : Nat} {A : Around} (r : Room k A) : A.units + 10 < cLine := by have := r.un; omega
theorem hu64 {k : Nat} {A : Around} (r : Room k A) : A.units + 64 < cLine := by have := r.un; omega
theorem hu65 {k : Nat} {A : Around} (r : Room k A) : A.units + 65 < cLine := by have := r.un; omega
theorem cut_to {α : Type} {xs : List α} {i : Int} (h : 0 ≤ i) : cut xs none (some i) = xs.take i.toNat := by
  unfold cut
  have e : HT.sIx xs.length xs.length (some i) = min i.toNat xs.length := by
    show (if i < 0 then (i + (xs.length : Int)).toNat else min i.toNat xs.length) = _
    rw [if_neg (by omega)]
  rw [e, HT.sIx_none, List.drop_zero, Nat.sub_zero]
  rcases Nat.le_total i.toNat xs.length with q | q
  · rw [Nat.min_eq_left q]
  · rw [Nat.min_eq_right q, List.take_length, List.take_of_length_le q]
theorem cut_from {α : Type} {xs : List α} {i : Int} (h : 0 ≤ i) : cut xs (some i) none = xs.drop i.toNat := by
  unfold cut
  have e : HT.sIx xs.length 0 (some i) = min i.toNat xs.length := by
    show (if i < 0 then (i + (xs.length : Int)).toNat else min i.toNat xs.length) = _
    rw [if_neg (by omega)]
  rw [e, HT.sIx_none]
  rcases Nat.le_total i.toNat xs.length with q | q
  · rw [Nat.min_eq_left q, List.take_of_length_le (by rw [List.length_drop]; exact Nat.le_refl _)]
  · rw [Nat.min_eq_right q, List.drop_length, List.drop_of_length_le q]; simp
end PL

/-! PL10: a refusal's class told; a lambda handed to a def that tells it. -/
namespace PL
open PySem PySem.Spec PyProof.Rows L2
abbrev Zc := @L2.Zc
/-! ### isinstance of a caught error, where it stands as a pin -/
theorem call_isP {X : Cx} {a D : Addr} {oe : Obj} (hp : (a, oe) ∈ X.pn) (C : ExcC X.K D) (hz : L2.Zc (.ref D) none oe) (hf : ∃ vs, oe.data = .fields vs) : CallR X (.builtin "isinstance") (rIsE X.K D a) := by
  intro pins s σ H xs us Q I r h
  obtain ⟨c, cv, b, rfl, hcv, e, q⟩ := h
  cases r with
  | cons rx rr =>
    cases rr with
    | cons rt rr =>
      cases rr
      cases rx
      have ec := hcv _ rt
      subst ec
      obtain ⟨hget, _⟩ := I.pin (a, oe) (List.mem_append.mpr (.inl hp))
      obtain ⟨vs, hv⟩ := hf
      have J : PySem.W.InstAt s.heap a oe D none := by
        obtain ⟨oc, od, oda, osl⟩ := oe
        obtain ⟨h1, h2⟩ := hz
        dsimp only at h1 h2 hv
        subst h1 h2 hv
        exact ⟨hget, rfl, rfl, trivial⟩
      exact PySem.W.kia_one (PySem.W.handS_kitx_exc C.hg C.hk C.hs C.hd C.ha C.hn C.ht C.hm) I.kIn J e (fun z => nomatch z) fun tk => ⟨.bl b, H, I.kept (t' := tk) fun _ _ z => z, rfl, q⟩
section
variable {T : List (Addr × Str)} {X : Cx} {Γ : List Sl} {e c' : Expr} {a D : Addr} {oe : Obj} {p pos : Pos}
theorem xe_isE {c : V} {cv : Value} {q : Bool} (hp : (a, oe) ∈ X.pn) (C : ExcC X.K D) (hz : L2.Zc (.ref D) none oe) (hf : ∃ vs, oe.data = .fields vs) (hg : Gl X "isinstance") (hm : X.mg "isinstance" = none) (ha : XV T X Γ e (.ref a)) (hb : XV T X Γ c' c) (hcv : ∀ u, RelV c u → u = cv) (hk : PySem.W.kitOne X.K (.ref D) cv = some q)
    (hs : starEach [e, c'] X.env = (false, eval e X.env) :: starEach [c'] X.env := by rfl) (hs2 : starEach [c'] X.env = (false, eval c' X.env) :: starEach [] X.env := by rfl) : XE T X Γ (.Call (.Name "isinstance" p) [e, c'] [] pos) (.bool q) := fun H0 σ B H s Q k =>
  we_B2 (call_isP hp C hz hf) hg hm boot_isinstance hs hs2 (by decide) (by decide) (ha H0 σ B H s _ fun H1 r1 => hb H0 σ _ H1 (s.step r1) _ fun H2 r2 =>
    ⟨c, cv, q, rfl, hcv, hk, k _ H2 (r1.trans r2) (.bl q)⟩)
end
/-! ### the classes -/
def EC.at (ec : EC) : Nat → Addr
  | 0 => ec.order | 1 => ec.number | 2 => ec.row | 3 => ec.updown | 4 => ec.pattern | 5 => ec.tree | 6 => ec.ring | 7 => ec.text | 8 => ec.deed | 9 => ec.line | 10 => ec.loose | 11 => ec.fraction
  | _ => ec.turn
def ecName : Nat → Str
  | 0 => "NoOrder" | 1 => "NoNumber" | 2 => "NoRow" | 3 => "NotUpDown" | 4 => "NoPattern" | 5 => "NoTree" | 6 => "NoRing" | 7 => "NoText" | 8 => "NoDeed" | 9 => "NoLine" | 10 => "NoLoose" | 11 => "NoFraction"
  | _ => "TurnError"
def ecWord : Nat → Str
  | 0 => "order" | 1 => "number" | 2 => "line of numbers" | 3 => "updown" | 4 => "pattern" | 5 => "tree" | 6 => "ring" | 7 => "text" | 8 => "deed" | 9 => "line" | 10 => "loose" | 11 => "fraction"
  | _ => "odd"
/-- the module's names of the classes -/
structure ClsN (mg : Str → Option Value) (ec : EC) : Prop where
  c : ∀ i, i < 12 → mg (ecName i) = some (.ref (ec.at i))
  t : mg "TurnError" = some (.ref ec.turn)
  v : mg "ValueError" = none
/-- what is known of the i-th class, which is raised -/
structure Knd (K : PySem.W.Frag) (ec : EC) (i : Nat) : Prop where
  lt : i < 12
  exc : ExcC K (ec.at i)
  t : PySem.W.kitOne K (.ref (ec.at i)) (.ref ec.turn) = some true
  v : PySem.W.kitOne K (.ref (ec.at i)) (.type "ValueError") = some true
  k : ∀ j, j < 12 → PySem.W.kitOne K (.ref (ec.at i)) (.ref (ec.at j)) = some (decide (i = j))
  x : PySem.W.exmOne K (.ref (ec.at i)) (.ref ec.turn) = some true
def H00 : Hp := fun _ => none
theorem same00 {H : Hp} : Same H00 H := fun a o h => by have h : (none : Option HO) = some o := h; cases h
theorem nt00 : NoT H00 := fun a ps h => by have h : (none : Option HO) = some (.tbl ps) := h; cases h
theorem sat0 {K : PySem.W.Frag} {T : List (Addr × Str)} {H : Hp} {Γ : List Sl} {σ : L2.St} (tb : LamX.Tabs T H) (len : σ.length = Γ.length) (sl : ∀ (i : Nat) (s : Sl), Γ[i]? = some s → SlOk K H H00 H s σ[i]?) (no : ∀ (i : Nat) (d : List PyData), Γ[i]? ≠ some (.own d)) : Sat K T H Γ σ H00 H :=
  ⟨same00, nt00, tb, len, sl, fun i j d e p _ h => absurd h (no i d)⟩
/-- what a def that tells a caught error's class promises -/
def PClass (P : Program) (w : World) (K : PySem.W.Frag) (mg : Str → Option Value) (base : Heap) (T : List (Addr × Str)) (ec : EC) (f : Addr) (fd : FuncData) (x : Str) : Prop :=
  ∀ (A : Around) (outer : List Env) (s : Shared) (H : Hp) (args : Args) (Q : VK) (a : Addr) (oe : Obj) (i : Nat), L2H.RoomH 1 A → L2H.PinOk outer H s (a, oe) → Env0 P w K mg base A outer s H → BindsTo s fd args [(x, .ref a)] → L2.Zc (.ref (ec.at i)) none oe → (∃ vs, oe.data = .fields vs) →
    Knd K ec i → LamX.Tabs T H → (∀ H', Rl T H H' → Q (.str (ecWord i)) H') → codeAny (model P w) A (.call (.ref f) args) (CR C8.CX0 outer P w H s Q C8.E0) s
theorem okClass {P : Program} {w : World} {K : PySem.W.Frag} {mg : Str → Option Value} {base : Heap} {T : List (Addr × Str)} {ec : EC} {x qual : Str} {st : Stmt} {f : Addr} {fd : FuncData} {N : List Str} {y : Str} (F : Fun K x qual st f fd) (S : FnScope N [y] (defScope st))
    (hb : ∀ (cdv : Value) (A : Around) (outer : List Env) (s : Shared) (H : Hp) (a : Addr) (oe : Obj) (i : Nat), L2H.RoomH 0 (A.deeper (envOfC qual (defScope st) s.heap.objs.size f cdv)) → L2.Zc (.ref (ec.at i)) none oe → (∃ vs, oe.data = .fields vs) → Knd K ec i →
      XS T (L2H.cxH C8.CX0 P w K mg base N qual (defScope st) f cdv A outer s H C8.E0 (a, oe)) (.v (.ref a) :: List.replicate (N.length - 1) .no) (defBody st) (retR (.ok (.str (ecWord i))))) : PClass P w K mg base T ec f fd y := by
  obtain ⟨oc, od, kV, doc, pm, an, cdv, ct, osl, rfl, lk, hcd⟩ := F.ex
  intro A outer s H args Q a oe i hr hpin e0 hbind hz hf hk tb q
  have KX : K.In s.heap := e0.mod.kin.keeps fun b o e => (e0.bs b o e).1
  have lim : s.heap.NoLimit := e0.mod.nolimit.keeps fun b o e => (e0.bs b o e).1
  have hkind : ∀ z ∈ [y].zip [Value.ref a], (defScope st).names.lookup z.1 = some .local ∨ ((defScope st).names.lookup z.1 = some .cell ∧ ((cellsFrom (s.heap.objs.size + 1) (defScope st).names []).lookup z.1).isSome = true) := fun ⟨n, v⟩ hy => by
    rcases S.par n (List.of_mem_zip hy).1 with q | q
    · exact .inl q
    · exact .inr ⟨q, PySem.W.cellsFrom_some _ _ _ (.inl q)⟩
  refine codeAny_call_function hr.depth (KX _ _ lk) rfl S.co S.gen rfl (PySem.W.codeRec_of KX hcd) (hbind _ _ _ _ ?_)
  refine wpAny_newFunctionEnv_cells S.kind hkind fun env he s1 x => ?_
  subst he
  refine ⟨lim.keeps x.toInCall.keep, codeAny_func ?_⟩
  have I : Inv (L2H.cxH C8.CX0 P w K mg base N qual (defScope st) f cdv A outer s H C8.E0 (a, oe)) [] (L2.start N [.ref a]) H s1 := L2H.inv_startH (ps := [y]) (us := [.ref a]) (vs := [.ref a]) S hpin e0 rfl (.cons rfl .nil) x
  have hN : 1 ≤ N.length := by
    have := congrArg List.length S.pre
    rw [List.length_take] at this
    simp at this; omega
  have hS : Sat K T H (.v (.ref a) :: List.replicate (N.length - 1) .no) (L2.start N [.ref a]) H00 H := by
    refine sat0 tb ?_ (fun j sl e => ?_) fun j d e => ?_
    · unfold L2.start; simp
    · cases j with
      | zero => cases e; exact start_get (i := 0) rfl
      | succ j =>
        rw [List.getElem?_cons_succ, List.getElem?_replicate] at e
        split at e <;> cases e
        trivial
    · cases j with
      | zero => cases e
      | succ j =>
        rw [List.getElem?_cons_succ, List.getElem?_replicate] at e
        split at e <;> cases e
  have body := hb cdv A outer s H a oe i (hr.deeper _) hz hf hk H00 H _ _ H hS (Rel.refl hS.sub hS.nt) { nx := fun _ H' => Q .non H', rt := Q } (fun _ _ _ _ => False) takes0
    ⟨fun Γ σ B' H' z s' r' u => (show False from nomatch (show Res.ok (.str (ecWord i)) = Res.ok .none from z)).elim, fun _ _ _ _ z => z.elim, fun _ _ _ _ z => z.elim, fun d v B' H' z s1 n1 t1 hv r' => by
      have e : PyData.str (ecWord i) = d := by cases (show Res.ok (.str (ecWord i)) = Res.ok d from z); rfl
      subst e
      cases hv
      exact q H' r'.rl, fun c σ B' H' z r' => nomatch (show Res.ok (.str (ecWord i)) = Res.ex c from z)⟩
  refine wpAny_mono (body [] s1 I) (fun fl s' hs => ?_) fun e s' hs => hs
  have fin : ∀ {σ' : L2.St} {H' : Hp} {v : V} {u : Value}, Inv (L2H.cxH C8.CX0 P w K mg base N qual (defScope st) f cdv A outer s H C8.E0 (a, oe)) [] σ' H' s' → RelV v u → Q v H' → CE outer P w H s Q u s' :=
    fun {σ' H' v u} J rv q => ⟨v, H', J.os, J.bare, J.base, J.hok, rv, q⟩
  cases fl with
  | ret u =>
    obtain ⟨v, σ', H', J, rv, q⟩ := hs
    exact fin J rv q
  | next =>
    obtain ⟨σ', H', J, q⟩ := hs
    exact fin (v := V.non) (u := Value.none) J rfl q
  | brk =>
    obtain ⟨_, _, _, q⟩ := hs
    exact False.elim q
  | cont =>
    obtain ⟨_, _, _, q⟩ := hs
    exact False.elim q
theorem hu65H {k : Nat} {A : Around} (r : L2H.RoomH k A) : A.units + 65 < cLine := by have := r.un; omega
def kB (i : Nat) : List Bool := [decide (i = 0), decide (i = 1), decide (i = 2), decide (i = 3), decide (i = 4), decide (i = 5), decide (i = 6), decide (i = 7), decide (i = 8), decide (i = 9), decide (i = 10), decide (i = 11)]
def kL (i : Nat) : List PyData := (kB i).map .bool
theorem lt12 {i : Nat} (h : i < 12) : i = 0 ∨ i = 1 ∨ i = 2 ∨ i = 3 ∨ i = 4 ∨ i = 5 ∨ i = 6 ∨ i = 7 ∨ i = 8 ∨ i = 9 ∨ i = 10 ∨ i = 11 := by omega
theorem kL_count {i : Nat} (h : i < 12) : (((kL i).countP fun z => PyData.eqv z (.bool true) : Nat) : Int) = 1 := by
  rcases lt12 h with rfl | rfl | rfl | rfl | rfl | rfl | rfl | rfl | rfl | rfl | rfl | rfl <;> rfl
theorem kL_at {i : Nat} (h : i < 12) : (kL i)[i]? = some (.bool true) := by
  rcases lt12 h with rfl | rfl | rfl | rfl | rfl | rfl | rfl | rfl | rfl | rfl | rfl | rfl <;> rfl
theorem kL_get {i m : Nat} (h : m < 12) : (kL i)[m]? = some (.bool (decide (i = m))) := by
  rcases lt12 h with rfl | rfl | rfl | rfl | rfl | rfl | rfl | rfl | rfl | rfl | rfl | rfl <;> rfl
theorem kL_no {i : Nat} (h : i < 12) (m : Nat) (z : PyData) (hm : m < i) (e : (kL i)[m]? = some z) : PyData.eqv z (.bool true) = false := by
  rw [kL_get (by omega)] at e
  cases e
  rw [decide_eq_false (by omega)]
  simp [PyData.eqv]
def kW : List PyData := [.str "order", .str "number", .str "line of numbers", .str "updown", .str "pattern", .str "tree", .str "ring", .str "text", .str "deed"] ++ [.str "line", .str "loose", .str "fraction"]
theorem kW_at {i : Nat} (h : i < 12) : atI kW (i : Int) = some (.str (ecWord i)) := by
  rcases lt12 h with rfl | rfl | rfl | rfl | rfl | rfl | rfl | rfl | rfl | rfl | rfl | rfl <;> rfl
end PL

/-! PL11: word(lambda: call). -/
namespace PL
open PySem PySem.Spec PyProof.Rows L2
section
variable {T : List (Addr × Str)} {X : Cx} {ec : EC} {fc g : Addr} {fdc : FuncData} {cl n y : Str} {j : Nat} {p1 p2 pos : Pos} {a : Addr} {oe : Obj} {cls : Value} {d : Option Addr}
theorem pe_clsCall (hp : (a, oe) ∈ X.pn) (hz : L2.Zc cls d oe) (hf : ∃ vs, oe.data = .fields vs) (PC : PClass X.prog X.w X.K X.mg X.base T ec fc fdc y) (hr : L2H.RoomH 1 X.A) (hg : Gl X cl) (hm : X.mg cl = some (.ref fc)) (kp : PySem.W.keepIn X.K (.ref fc) = true) (bc : Binds X.K fdc [y] []) (hN : X.N[j]? = some n) (hv : Vis X.env.scope n)
    (hd : (n == ("__debug__" : Str)) = false) (hcd : (n == ("__classdict__" : Str)) = false) (hdb : (cl == ("__debug__" : Str)) = false) :
    PE X (.Call (.Name cl p1) [.Name n p2] [] pos) (fun σ H Q => σ[j]? = some (some (.ref a)) ∧ LamX.Tabs T H ∧ ∃ i, cls = .ref (ec.at i) ∧ d = none ∧ Knd X.K ec i ∧ ∀ H', Rl T H H' → Q (.str (ecWord i)) H') := by
  refine ⟨fun pins s σ H Q I h => ?_⟩
  obtain ⟨hs, hT, i, rfl, rfl, hk, q⟩ := h
  refine wpAny_Call_Name_kw (ld_glob I hg hm ?_ hdb)
  refine PySem.W.callWith_K (h₀ := X.base) I.ok.mod.kin kp (thn ((pa_cons (pe_var hN hv hd hcd) pa_nil (by rfl)).run pos pins s σ H (fun vs H1 => vs = [.ref a] ∧ H1 = H) I ⟨.ref a, hs, rfl, rfl⟩) fun us s1 ⟨vs, H1, I1, r, e1, e2⟩ => ⟨I1.kIn, ?_⟩) (by rfl) (by rfl)
  subst e1 e2
  cases r with
  | cons r rr =>
    cases rr
    cases r
    have P1 := I1.pin (a, oe) (List.mem_append_left _ hp)
    have hpin : L2H.PinOk X.stack H1 s1 (a, oe) := ⟨P1.1, P1.2.1, fun hm => (List.mem_cons.mp (I1.stkSub a hm)).elim P1.2.2.1 P1.2.2.2.1, P1.2.2.2.2⟩
    have b := bc s1 [.ref a] I1.kIn rfl
    refine wpAny_call (codeAny_mono (PC X.A X.stack s1 H1 ⟨[.ref a], []⟩ Q a oe i hr hpin I1.env0 b hz hf hk hT q) fun r s' hq => ?_)
    cases r with
    | error e => exact (show False from hq).elim
    | ok fl =>
      cases fl with
      | ret u => exact I1.after hq
      | next => exact False.elim hq
      | brk => exact False.elim hq
      | cont => exact False.elim hq
def TRef (K : PySem.W.Frag) (T : List (Addr × Str)) (ec : EC) (told : Str) : (XK → Hp → VK → Prop) → Hp → VK → Prop := fun tl H Q =>
  ∀ (E : XK) (Q' : VK), (∀ cls d H', d = none → LamX.Tabs T H' → (∃ i, cls = .ref (ec.at i) ∧ Knd K ec i ∧ ∀ H'', Rl T H' H'' → Q (.str (ecWord i)) H'') → E cls d H') → (∀ v H', Q (.str told) H' → Q' v H') → tl E H Q'
/-- what stands and is known of the def that tells a lambda's refusal -/
theorem refused_gives {x e wd told q an : Str} {Ng : List Str} {sg : Scope} {cdg : Value} {jj : Nat} {q1 q2 q3 q4 q5 q6 q7 q8 q9 q10 q11 q12 q13 q14 q15 q16 : Pos}
    (hN : Ng.Nodup) (h1 : Ng[1]? = some wd) (h2 : Ng[2]? = some n) (hl : Ng.length = 3) (kw : sg.names.lookup wd = some .local) (kn : sg.names.lookup n = some .local) (ke : sg.names.lookup e = some .globalImplicit) (kc : sg.names.lookup cl = some .globalImplicit)
    (hme : X.mg e = some (.ref ec.turn)) (hmc : X.mg cl = some (.ref fc)) (kpc : PySem.W.keepIn X.K (.ref fc) = true) (bc : Binds X.K fdc [y] []) (PC : PClass X.prog X.w X.K X.mg X.base T ec fc fdc y) (hr : Room 3 X.A)
    (dw : (wd == ("__debug__" : Str)) = false) (dn : (n == ("__debug__" : Str)) = false) (de : (e == ("__debug__" : Str)) = false) (dc : (cl == ("__debug__" : Str)) = false) (cw : (wd == ("__classdict__" : Str)) = false) (cn : (n == ("__classdict__" : Str)) = false)
    (hs1 : ∀ env : Env, swapsWith (.Constant (.str told) jj q2) (some (.Name wd q1)) q3.line env = pure false) (hs2 : ∀ env : Env, swapsWith (.Call (.Name cl q9) [.Name n q10] [] q11) (some (.Name wd q8)) q12.line env = pure false) (hs3 : ∀ env : Env, swapsWith (.Call (.Name an q4) [] [] q5) none q6.line env = pure false) :
    LamX.GivesTo X Ng x sg g cdg [.Assign [.Name wd q1] (.Constant (.str told) jj q2) q3, .Try [.Expr (.Call (.Name an q4) [] [] q5) q6] [.ExceptHandler (some (.Name e q7)) (some n) [.Assign [.Name wd q8] (.Call (.Name cl q9) [.Name n q10] [] q11) q12] q13] [] [] q14, .Return (some (.Name wd q15)) q16] an q (TRef X.K T ec told) := by
  intro f c' s H Q tl act hc h
  have hgl : Gl (cxOf C8.CX0 X.prog X.w X.K X.mg X.base Ng x sg g cdg X.A X.stack s H C8.E0).nox e := ke
  have hst : L2.start Ng [V.ref f] = [some (.ref f), none, none] := by unfold L2.start; rw [hl]; rfl
  refine ⟨_, pss_cons (ps_set (i := 1) hN h1 (.inl kw) pe_str (hs1 _) (.inr kw)) (pss_cons (ps_try_as (X := (cxOf C8.CX0 X.prog X.w X.K X.mg X.base Ng x sg g cdg X.A X.stack s H C8.E0).nox) (c := .ref ec.turn) (i := 2)
      (tb := fun W D σ H => ∃ Ech : XK, (∀ cls d (σ' : L2.St) H', Ech cls d H' → σ'.length = 3 → W cls d σ' H') ∧ σ[0]? = some (some (.ref f)) ∧ H c' = some (LamX.CodeO c' q) ∧ tl Ech H fun _ H' => D.nx σ H')
      (ts := fun a cls d D σ H => (σ[2]? = some (some (.ref a)) ∧ LamX.Tabs T H ∧ ∃ i, cls = .ref (ec.at i) ∧ d = none ∧ Knd X.K ec i ∧ ∀ H', Rl T H H' → D.nx (σ.set 1 (some (.str (ecWord i)))) H'))
      rfl rfl hN h2 kn ⟨hgl, de, .inl hme⟩ LamX.takes0 (fun W pn xe tk _ => ?_) (fun a oe cls d pn hz hf => ?_)) (pss_one (ps_ret (pe_var (i := 1) h1 (.inl kw) dw cw)))), ?_⟩
  · refine ⟨fun pins s' σ H' D I h' => ?_⟩
    obtain ⟨Ech, hW, g1, g2, g3⟩ := h'
    have tk' : Takes ((cxOf C8.CX0 X.prog X.w X.K X.mg X.base Ng x sg g cdg X.A X.stack s H C8.E0).tr pn xe) (fun cls d σ H => σ.length = 3 → W cls d σ H) := fun u s' ⟨a, B, sI, pins, σ, H, cls, d, e, I, nb, up, sky, na, os, ag, w⟩ =>
      tk u s' ⟨a, B, sI, pins, σ, H, cls, d, e, I, nb, up, sky, na, os, ag, w (I.len.trans hl)⟩
    have hp := act _ pn xe Ech q4 q5 tk' hW
    have hq := pss_one (ps_expr (pos := q6) hp (hs3 _))
    exact hq.run pins s' σ H' D I ⟨g1, g2, g3⟩
  · refine pss_one ?_
    have hrH : L2H.RoomH 1 ((cxOf C8.CX0 X.prog X.w X.K X.mg X.base Ng x sg g cdg X.A X.stack s H C8.E0).nox.suite a ((a, oe) :: pn)).A := by
      have q := L2H.roomH_of ((hr.deeper (envOfC x sg s.heap.objs.size g cdg)).mono (by decide : 1 ≤ 2))
      exact ⟨q.dp, q.un⟩
    exact ps_set (i := 1) hN h1 (.inl kw) (pe_clsCall (X := (cxOf C8.CX0 X.prog X.w X.K X.mg X.base Ng x sg g cdg X.A X.stack s H C8.E0).nox.suite a ((a, oe) :: pn)) List.mem_cons_self hz hf PC hrH kc hmc kpc bc h2 (.inl kn) dn cn dc) (hs2 _) (.inr kw)
  · rw [hst]
    refine ⟨fun cls d H' => d = none ∧ LamX.Tabs T H' ∧ ∃ i, cls = .ref (ec.at i) ∧ Knd X.K ec i ∧ ∀ H'', Rl T H' H'' → Q (.str (ecWord i)) H'', (fun cls d σ' H' ⟨hd, hT, i, ec1, hk, hq⟩ hlen => ?_), rfl, hc, h _ _ (fun cls d H' z1 z2 z3 => ⟨z1, z2, z3⟩) fun v H' hq => ⟨_, rfl, hq⟩⟩
    refine ⟨true, by rw [ec1]; exact hk.x, fun _ a na => ⟨?_, hT, i, ec1, hd, hk, fun H'' r => ?_⟩, fun z => by cases z⟩
    · exact List.getElem?_set_self (by omega)
    · exact ⟨_, by rw [List.getElem?_set_ne (by decide), List.getElem?_set_self (by rw [List.length_set]; omega)], hq H'' r⟩
end
section
variable {T : List (Addr × Str)} {X : Cx} {Γ : List Sl} {ec : EC} {g c P : Addr} {fdg : FuncData} {x a told word : Str} {st : Stmt} {Ng : List Str} {params : Arguments} {body : Expr} {scope : Scope} {p lpos pos : Pos} {r : Res} {k : Nat}
/-- where the lambda's code objects go -/
structure LamT (X : Cx) (T : List (Addr × Str)) (c P : Addr) : Prop where
  tb : LamX.TabB X.base X.mg c P
  code : X.env.code = .ref c
  eq : T = [(P, X.env.qual ++ "<lambda>")]
/-- the word that is told -/
def Tells (K : PySem.W.Frag) (ec : EC) (told : Str) (r : Res) (word : Str) : Prop := match r with
  | .ok _ => word = told
  | .ex c => ∃ i, c = .ref (ec.at i) ∧ Knd K ec i ∧ word = ecWord i
theorem xe_refused (F : Fun X.K x x st g fdg) (hb : Binds X.K fdg [a] []) (Sg : FnScope Ng [a] (defScope st)) (hm : X.mg x = some (.ref g)) (hk : PySem.W.keepIn X.K (.ref g) = true) (hG : ∀ cdv, LamX.GivesTo X Ng x (defScope st) g cdv (defBody st) a (X.env.qual ++ "<lambda>") (TRef X.K T ec told))
    (LT : LamT X T c P) (hr : Room (k + 2) X.A) (hN0 : Ng[0]? = some a) (hva : Vis (defScope st) a)
    (hbody : ∀ (A : Around) (outer : List Env) (s : Shared) (H : Hp) (E : XK) (f c' : Addr), Room k (LamX.lamCx X A outer s H E scope f c').A → XR T (LamX.lamCx X A outer s H E scope f c') Γ body r) (hw : Tells X.K ec told r word)
    (hg : Gl X x) (L : LamX.lamSB X.env.scope scope = true) (hdef : defaultsOf params X.env = ([], []) := by rfl)
    (hbind : ∀ (q : Str) (cl : List (Str × Addr)) (pm cv ctv : Value), bindArgs (PySem.W.kla_fn "<lambda>" q params body scope cl pm cv ctv) ⟨[], []⟩ = pure [] := by intro _ _ _ _ _; rfl)
    (hdb : (x == ("__debug__" : Str)) = false := by decide) (hd : (a == ("__debug__" : Str)) = false := by decide) (hcd : (a == ("__classdict__" : Str)) = false := by decide) :
    XE T X Γ (.Call (.Name x p) [.Lambda params body scope lpos] [] pos) (.str word) := fun H0 σ B H s Q k0 => by
  obtain ⟨oc, od, kV, doc, pm, an, cdv, ct, osl, rfl, lk, hcd'⟩ := F.ex
  obtain ⟨tb, code, eqT⟩ := LT
  refine we (LamX.pe_lamcall (T := T) (t := fun E σ H Q => ∀ (A : Around) (outer : List Env) (st : Shared) (Hs : Hp) (f c' : Addr), Room k (LamX.lamCx X A outer st Hs E scope f c').A → WE (LamX.lamCx X A outer st Hs E scope f c') body σ H Q) hg hm hk lk hcd' hb Sg hN0 hva (hG cdv) tb code (by rw [eqT]; exact List.mem_singleton_self _) (fun q hq hq2 => by
    rw [eqT] at hq; rw [List.mem_singleton.mp hq]) hr (LamX.lamS_by L) hdef hbind (fun A outer st Hs E f c' hroom => ⟨fun pins st' σ H Q I h => h A outer st Hs f c' hroom pins st' I⟩) hdb hd hcd) ⟨s.tb, fun H1 eN T1 => ?_⟩
  intro E Q' hE hQ A outer st' Hs f c' hroom
  have r1 : Rl T H H1 := ⟨eN, fun _ => T1⟩
  refine hbody A outer st' Hs E f c' hroom H0 σ _ H1 (s.step r1) Q' (fun cls d σ H => E cls d H) (takes_of rfl rfl rfl rfl) (fun d v H' e r2 hd => hQ v H' ?_) (fun cc H' e r2 => hE cc none H' rfl (r2.tabs T1) ?_)
  · subst e
    have hw' : word = told := hw
    rw [← hw']
    exact k0 _ H' (r1.trans r2) (.str _)
  · subst e
    obtain ⟨i, e1, e2, e3⟩ := (show ∃ i, cc = .ref (ec.at i) ∧ Knd X.K ec i ∧ word = ecWord i from hw)
    refine ⟨i, e1, e2, fun H'' r3 => ?_⟩
    rw [← e3]
    exact k0 _ H'' (r1.trans (r2.trans r3)) (.str _)
end
section
variable {P : Program} {w : World} {K : PySem.W.Frag} {mg : Str → Option Value} {base : Heap} {T : List (Addr × Str)}
/-- as okP, the def's code object known -/
theorem okPc {x qual : Str} {st : Stmt} {f c : Addr} {fd : FuncData} {N ps : List Str} {k : Nat} {M : List PyData → Res → Prop} (F : Fun K x qual st f fd) (hc : fd.code = .ref c) (S : FnScope N ps (defScope st)) (hl : ∀ ds r, M ds r → ds.length = ps.length)
    (hb : ∀ (A : Around) (outer : List Env) (s : Shared) (H : Hp) (E : XK), Room k (A.deeper (envOfC qual (defScope st) s.heap.objs.size f (.ref c))) → ∀ ds r, M ds r →
      XS T (DX P w K mg base N qual st f (.ref c) A outer s H E) (G0 N ds) (defBody st) (retR r)) : FnOk P w K mg base (L2.CX P w) (k + 1) f fd ps (spP K T M) := by
  obtain ⟨oc, od, kV, doc, pm, an, cdv, ct, osl, rfl, lk, hcd⟩ := F.ex
  obtain rfl : cdv = .ref c := hc
  refine fn_of lk hcd S (fun vs H Q E h => ?_) fun A outer s H vs Q E hr h => ?_
  · obtain ⟨B, ds, r, _, _, _, hd, hM, _⟩ := h
    rw [hd.length]; exact hl ds r hM
  · obtain ⟨B, ds, r, sub, nt, tb, hd, hM, kq, kx⟩ := h
    refine ⟨WSs (DX P w K mg base N qual st f (.ref c) A outer s H E) (defBody st), pss_w, ?_⟩
    have hN : ds.length ≤ N.length := by
      rw [hl ds r hM]
      have := congrArg List.length S.pre
      rw [List.length_take] at this; omega
    refine hb A outer s H E hr ds r hM B H _ B H (sat_start hN sub nt tb hd) (.refl sub nt) _ (fun cls d _ H => E cls d H) (takes_of rfl rfl rfl rfl) ?_
    exact ⟨fun Γ σ B' H' z s' r' u => kq .none .non H' z r'.rl .non, fun _ _ _ _ z => z.elim, fun _ _ _ _ z => z.elim, fun d v B' H' z _ _ _ hv r' => kq d v H' z r'.rl (r'.out hv), fun c σ B' H' z r' => kx c H' z r'.rl⟩
/-- the law's promise at the end -/
def noTbl (H : Hp) : Hp := fun a => match H a with
  | some (.tbl _) => none
  | u => u
theorem noTbl_same {H : Hp} : Same (noTbl H) H := fun a o e => by
  unfold noTbl at e
  split at e
  · cases e
  · exact e
theorem noTbl_nt {H : Hp} : NoT (noTbl H) := fun a ps e => by
  unfold noTbl at e
  split at e
  · cases e
  · rename_i h; exact h ps e
theorem noTbl_keep {H : Hp} {a : Addr} {o : HO} (h : H a = some o) (n : ∀ ps, o ≠ .tbl ps) : noTbl H a = some o := by
  unfold noTbl; rw [h]
  cases o <;> first | rfl | exact absurd rfl (n _)
theorem law_sp {M : List PyData → Res → Prop} {H : Hp} {a : Addr} {ns : List Int} (hT : LamX.Tabs T H) (hs : Rd H a (.lst (ns.map V.int))) (hM : M [dLI ns] (.ok (.bool true))) : spP K T M [.ref a] H (fun v _ => v = .bl true) fun _ _ _ => False := by
  have hs' : Rd (noTbl H) a (.lst (ns.map V.int)) := by
    rcases hs with h | ⟨o, h⟩
    · exact .inl (noTbl_keep h lst_ntbl)
    · exact .inr ⟨o, noTbl_keep h (by intro ps z; cases z)⟩
  refine ⟨noTbl H, [dLI ns], .ok (.bool true), noTbl_same, noTbl_nt, hT, .cons (.lst hs' (DenL.ofInts ns)) .nil, hM, fun d v H' e _ hd => ?_, fun c H' e => by cases e⟩
  cases e
  cases hd
  rfl
end
end PL

/-! PL12: results that are new through and through; an own list read for a while as data. -/
namespace PL
open PySem PySem.Spec PyProof.Rows L2
/-- no list, no dict within -/
def lfP : PyData → Prop
  | .list _ => False
  | .dict _ => False
  | .tuple ds => lfPs ds
  | _ => True
where lfPs : List PyData → Prop
  | [] => True
  | d :: ds => lfP d ∧ lfPs ds
theorem lf_ints : ∀ ns : List Int, lfP.lfPs (ns.map .int)
  | [] => by simp [lfP.lfPs]
  | n :: ns => by simp [lfP.lfPs, lfP, lf_ints ns]
theorem lf_all {ds : List PyData} (h : ∀ d ∈ ds, lfP d) : lfP.lfPs ds := by
  induction ds with
  | nil => simp [lfP.lfPs]
  | cons d ds ih => exact ⟨h d (by simp), ih fun x hx => h x (by simp [hx])⟩
section
variable {K : PySem.W.Frag} {G G' : Hp}
mutual
theorem Den.lf (m : ∀ a us, Rd G a (.tup us) → Rd G' a (.tup us)) : ∀ (d : PyData) {v : V}, lfP d → Den K G v d → Den K G' v d
  | .none, _, _, h => by cases h; exact .non
  | .bool _, _, _, h => by cases h; exact .bl _
  | .int _, _, _, h => by cases h; exact .int _
  | .str _, _, _, h => by cases h; exact .str _
  | .tuple ds, _, l, h => by
    cases h with
    | tup q r => exact .tup (q.imp (m _ _) id) (DenL.lf m ds (by simpa [lfP] using l) r)
  | .list _, _, l, _ => by simp [lfP] at l
  | .dict _, _, l, _ => by simp [lfP] at l
theorem DenL.lf (m : ∀ a us, Rd G a (.tup us) → Rd G' a (.tup us)) : ∀ (ds : List PyData) {vs : List V}, lfP.lfPs ds → DenL K G vs ds → DenL K G' vs ds
  | [], _, _, h => by cases h; exact .nil
  | d :: ds, _, l, h => by
    have l' : lfP d ∧ lfP.lfPs ds := by simpa [lfP.lfPs] using l
    cases h with
    | cons q r => exact .cons (Den.lf m d l'.1 q) (DenL.lf m ds l'.2 r)
end
theorem DenL.flatL {vs : List V} {ds : List PyData} (f : ∀ d ∈ ds, flat d = true) (h : DenL K G vs ds) : DenL K G' vs ds := by
  induction ds generalizing vs with
  | nil => cases h; exact .nil
  | cons d ds ih =>
    cases h with
    | cons q r => exact .cons (q.flat (f d (by simp))) (ih (fun x hx => f x (by simp [hx])) r)
end
section
variable {T : List (Addr × Str)} {X : Cx} {Γ : List Sl} {e a b c : Expr} {es : List Expr} {d : PyData} {xs : List PyData} {pos p : Pos} {H0 B H H1 H' : Hp} {σ : L2.St} {q : Addr} {vs : List V} {n : Nat} {y : Str} {k : Bool}
theorem rl_hide (r : Rl T H H') (h : ¬ Occ H q) (h' : H' q = some (.lst vs)) : Rl T H (hide q H') := ⟨fun b o e n => by
    have := r.ext b o e n
    unfold hide; rw [if_neg (occ_ne ⟨o, e, n⟩ h)]; exact this, fun tt z hz => by
    obtain ⟨ps, a1, a2, a3⟩ := r.tabs tt z hz
    refine ⟨ps, by unfold hide; rw [if_neg (ne_of a1 h' (by intro z; cases z))]; exact a1, a2, fun pos cv hc => ?_⟩
    obtain ⟨c, e1, e2⟩ := a3 pos cv hc
    exact ⟨c, e1, by unfold hide; rw [if_neg (ne_of e2 h' (by unfold LamX.CodeO; intro z; cases z))]; exact e2⟩⟩
variable (T X Γ) in
/-- e gives d, new through and through (tuples of the text aside) -/
def XF (e : Expr) (d : PyData) : Prop := ∀ (H0 : Hp) (σ : L2.St) (B H : Hp), Sat X.K T H0 Γ σ B H → ∀ Q : VK, (∀ v H', Rl T H H' → Den X.K (grow H00 H H') v d → Q v H') → WE X e σ H Q
theorem XF.toE (h : XF T X Γ e d) : XE T X Γ e d := fun H0 σ B H s Q k => h H0 σ B H s Q fun v H' r hd => k v H' r (hd.mono (grow_mono same00))
theorem new_later (r : Rl T H H1) : Same (grow H00 H1 H') (grow H00 H H') := fun a u e => by
  rcases grow_inv e with ⟨z, _⟩ | ⟨h1, h2, n⟩
  · exact absurd z (by intro z; cases (show (none : Option HO) = some u from z))
  · exact grow_new (r.free h1) h2 n
/-- a call of a def with flat arguments -/
theorem xf_call {k jj : Nat} {M : List PyData → Res → Prop} {ds : List PyData} (C : Cal X.prog X.w X.K X.mg X.base T y k M) (hr : Room jj X.A) (hk : k ≤ jj) (hg : Gl X y) (ha : XA T X Γ (e :: es) ds) (hM : M ds (.ok d)) (hf : ∀ d ∈ ds, flat d = true) (hdb : (y == ("__debug__" : Str)) = false := by decide)
    (he : starEach (e :: es) X.env = (false, eval e X.env) :: starEach es X.env := by rfl) (hpl : (backTo pos (starEach es X.env)).any (·.1) = false := by rfl) : XF T X Γ (.Call (.Name y p) (e :: es) [] pos) d := fun H0 σ B H s Q kk => by
  obtain ⟨f, fd, ps, F, m, kp, bi⟩ := C.ex
  refine we (pe_call F (hr.mono hk) hg m kp bi .nil passL pa_w hdb he hpl) ?_
  refine ha H0 σ B H s _ fun vs H1 r1 h1 => ?_
  show spP X.K T M (vs ++ []) H1 Q E0
  rw [List.append_nil]
  exact ⟨H00, ds, .ok d, same00, nt00, r1.tabs s.tb, h1.flatL hf, hM, fun d' v H' e r2 hd => by cases e; exact kk v H' (r1.trans r2) (hd.mono (new_later r1)), fun c H' e => by cases e⟩
/-- a new list of what has no list within -/
theorem XF.toN (h : XF T X Γ e (.list xs)) (lf : lfP.lfPs xs) : XN T X Γ e xs := fun H0 σ B H s Q k => h H0 σ B H s Q fun v H' r hd => by
  cases hd with
  | @lst p vs _ q l =>
    have new : ∀ {a : Addr} {u : HO}, grow H00 H H' a = some u → ¬ Occ H a ∧ H' a = some u ∧ Gd u := fun {a u} e => by
      rcases grow_inv e with ⟨z, _⟩ | z
      · exact absurd z (by intro z; cases (show (none : Option HO) = some u from z))
      · exact z
    have q' : ¬ Occ H p ∧ H' p = some (.lst vs) := by
      rcases q with q | ⟨o, q⟩
      · exact ⟨(new q).1, (new q).2.1⟩
      · exact absurd rfl ((new q).2.2.2 _ _)
    have z := k p vs (hide p H') (rl_hide r q'.1 q'.2) (by unfold hide; rw [if_pos rfl]) (DenL.lf (fun a us ht => by
      rcases ht with ht | ⟨o, ht⟩
      · obtain ⟨h1, h2, h3⟩ := new ht
        refine .inl (grow_new h1 ?_ h3)
        unfold hide; rw [if_neg (ne_of h2 q'.2 (by intro z; cases z))]; exact h2
      · exact absurd rfl ((new ht).2.2.2 _ _)) xs lf l)
    rw [upd_hide q'.2] at z
    exact z
/-- an own list as data, for an expression -/
theorem Sat.freezeS {K : PySem.W.Frag} {i : Nat} (s : Sat K T H0 Γ σ B H) (hi : Γ[i]? = some (.own xs)) : ∃ B', Sat K T H0 (Γ.set i (.d (.list xs))) σ B' H ∧ Same B B' := by
  obtain ⟨p, vs, h1, h0, hb, hp, hd⟩ := s.sl i _ hi
  have hsame : Same B (upd B p (.lst vs)) := fun a o e => by rw [upd_ne (ne_of_none e hb)]; exact e
  refine ⟨upd B p (.lst vs), ⟨fun a o e => ?_, fun a ps e => ?_, s.tb, by simp [s.len], fun j sl e => ?_, fun j k d e q hjk h1 h2 g1 g2 => ?_⟩, hsame⟩
  · by_cases ha : a = p
    · subst ha; rw [upd_same] at e; cases e; exact hp
    · rw [upd_ne ha] at e; exact s.sub a o e
  · by_cases ha : a = p
    · subst ha; rw [upd_same] at e; cases e
    · rw [upd_ne ha] at e; exact s.nt a ps e
  · rcases get_set e with ⟨rfl, rfl, hl⟩ | ⟨hn, e⟩
    · exact ⟨_, h1, .lst (.inl upd_same) (hd.mono hsame)⟩
    · have q := s.sl j sl e
      cases sl with
      | no => trivial
      | d x => obtain ⟨v, a, b⟩ := q; exact ⟨v, a, b.mono hsame⟩
      | v x => exact q
      | own zs =>
        obtain ⟨q, us, g1, g2, g3, g4, g5⟩ := q
        have : q ≠ p := fun z => s.ap i j _ _ p hn hi e h1 (by rw [g1, z])
        exact ⟨q, us, g1, g2, by rw [upd_ne this]; exact g3, g4, g5.mono hsame⟩
  · rcases get_set h1 with ⟨_, z, _⟩ | ⟨n1, h1⟩
    · cases z
    · rcases get_set h2 with ⟨_, z, _⟩ | ⟨n2, h2⟩
      · cases z
      · exact s.ap j k d e q hjk h1 h2 g1 g2
theorem xt_frz (n : Nat) (h : XT T X (Γ.set n (.d (.list xs))) e k) (hn : Γ[n]? = some (.own xs) := by rfl) : XT T X Γ e k := fun H0 σ B H s Q kk => by
  obtain ⟨B', s', _⟩ := s.freezeS hn
  exact h H0 σ B' H s' Q kk
theorem xw_frz (n : Nat) (h : XW T X (Γ.set n (.d (.list xs))) e k) (hn : Γ[n]? = some (.own xs) := by rfl) : XW T X Γ e k := fun H0 σ B H s Q kk => by
  obtain ⟨B', s', _⟩ := s.freezeS hn
  exact h H0 σ B' H s' Q kk
theorem xe_frz (n : Nat) (h : XE T X (Γ.set n (.d (.list xs))) e d) (f : flat d = true) (hn : Γ[n]? = some (.own xs) := by rfl) : XE T X Γ e d := fun H0 σ B H s Q kk => by
  obtain ⟨B', s', _⟩ := s.freezeS hn
  exact h H0 σ B' H s' Q fun v H' r hd => kk v H' r (hd.flat f)
end
end PL

/-! PL13: the end. -/
namespace PL
open PySem PySem.Spec PyProof.Rows L2
theorem nl_of {K : PySem.W.Frag} (h : (K.all fun p => !(p.2.cls == Value.type "list")) = true) {H : Hp} {a : Addr} {xs : List V} (s : SqL K H a xs) : Rd H a (.lst xs) := by
  rcases s with s | ⟨o, its, n, hk, hc, _⟩
  · exact s
  · have h2 := List.all_eq_true.mp h (a, o) (PySem.W.mem_of_lookupK hk)
    have h3 : (!(o.cls == Value.type "list")) = true := h2
    rw [hc] at h3
    exact absurd h3 (by decide)
theorem walk_PL {l : PySem.W.OpenLaw} {n k : Nat} {q : Program} {loose : List Str} {XP : (Str → Option Value) → Heap → Prop} {YP : World → Heap → Prop} {d : DefRec} {K : Params → PySem.W.Frag} {x : Str}
    (hn : l.most = some n) (hn2 : n ≤ sizeLine) (hdf : d.params.defaults = []) (hr : Room k callerA) (hY : ∀ (w : World) (h : Heap), YP w h → (K w.params).In h)
    (F : ∀ (w : World) (mg : Str → Option Value) (fa : Addr) (h : Heap), (K w.params).In h → h.Ns mainGlobals mg → mg d.name = some (.ref fa) → (∃ (loose' : List Str) (mean : ExcName → Option Value) (mb : Str → Option Value), Top q loose' mean mg mb h) → LamX.LawAtS l w (K w.params) (L2.CX l.prog w) k n x mg fa h) :
    PySem.W.WalkO q loose XP YP l.row.toRowW d [] (fun f vs => PySem.call f vs) := by
  refine Att.attach_callB hn hdf fun w s₀ s₁ mg mb fa o pm cd doc a vs ns G Y ho hd hcd hmg hobj hints hlen hbits hg => ?_
  have KX := hY w _ Y
  obtain ⟨fd, cs, sp, hT, nT, C, hb, hsp, hF⟩ := F w mg fa _ KX G.T.g hmg ⟨_, _, _, G.T⟩
  exact LamX.law_callTs KX G.T.g G.T.b G.T.builtins G.T.nolimit hg hT nT C G.T.bmain hobj hints (Nat.le_trans hlen hn2) hr hF hb (fun H hH hS => hsp H a ns hlen hbits hH hS) fun H e s' z => by
    obtain ⟨a, B, H', cls, d, _, _, _, _, _, _, _, z⟩ := z
    exact z
/-- what the top has left of a def -/
structure DefK (K : PySem.W.Frag) (mg : Str → Option Value) (x y : Str) (st : Stmt) (f : Addr) (fd : FuncData) : Prop where
  fn : Fun K y y st f fd
  m : mg x = some (.ref f)
  k : PySem.W.keepIn K (.ref f) = true
theorem defK {K : PySem.W.Frag} {h : Heap} {mg : Str → Option Value} {x y : Str} {st : Stmt} {f : Addr} {od an : Option Addr} {sl : Array (Option Value)} {oc kV dc pm cd ct : Value} (X : K.In h) (G : h.Ns mainGlobals mg) (a : PySem.W.nsIn K mainGlobals x = some (some (.ref f)))
    (l : K.lookup f = some ⟨oc, od, .func (PySem.W.fnOf y y (defArgs st) (defBody st) (defScope st) .none kV dc pm an cd ct), sl⟩) (c : PySem.W.codeIn K cd y = true) (k : PySem.W.keepIn K (.ref f) = true) : DefK K mg x y st f (PySem.W.fnOf y y (defArgs st) (defBody st) (defScope st) .none kV dc pm an cd ct) :=
  ⟨fun_mk l c k, PySem.W.mg_of X G a, k⟩
/-- the class facts, each a fact that the kernel sees -/
theorem excC {K : PySem.W.Frag} {D : Addr} (h1 : PySem.W.findIn K (.ref D) "__getattribute__" = some (some (.builtin "BaseException.__getattribute__"))) (h2 : PySem.W.findIn K (.ref D) "__getattr__" = some none) (h3 : PySem.W.subIn K (.ref D) (.type "BaseException") = some true) (h4 : PySem.W.hasDictIn K D = true)
    (h5 : PySem.W.findIn K (.ref D) "__class__" = some (some (.builtin "object.__class__"))) (h6 : PySem.W.specialIn K (.builtin "object.__class__") "__get__" = some (some (.builtin "getset_descriptor.__get__"))) (h7 : PySem.W.takesIn K (.builtin "object.__class__") = some true) (h8 : PySem.W.mroIn K D (.type "object") = some true) : ExcC K D := ⟨h1, h2, h3, h4, h5, h6, h7, h8⟩
theorem knd_of {K : PySem.W.Frag} {ec : EC} {i : Nat} (lt : i < 12) (e : ExcC K (ec.at i)) (t : PySem.W.kitOne K (.ref (ec.at i)) (.ref ec.turn) = some true) (v : PySem.W.kitOne K (.ref (ec.at i)) (.type "ValueError") = some true) (x : PySem.W.exmOne K (.ref (ec.at i)) (.ref ec.turn) = some true)
    (k : (List.range 12).map (fun j => PySem.W.kitOne K (.ref (ec.at i)) (.ref (ec.at j))) = (List.range 12).map fun j => some (decide (i = j))) : Knd K ec i :=
  ⟨lt, e, t, v, fun j hj => by
    have := congrArg (fun l => l[j]?) k
    simp only [List.getElem?_map, List.getElem?_range hj, Option.map_some, Option.some.injEq] at this
    exact this, x⟩
theorem tabIn_of {K : PySem.W.Frag} {x : Str} {f c P : Addr} {oc occ : Value} {od odc : Option Addr} {fd : FuncData} {sl slc : Array (Option Value)} {vs : Array Value} (a : PySem.W.nsIn K mainGlobals x = some (some (.ref f))) (l : K.lookup f = some ⟨oc, od, .func fd, sl⟩) (hc : fd.code = .ref c)
    (lc : K.lookup c = some ⟨occ, odc, .fields vs, slc⟩) (hv : vs[11]? = some (.ref P)) : PySem.W.tabIn K x = some (c, P) := by
  unfold PySem.W.tabIn
  rw [a]
  simp only [l, hc, lc, hv]
end PL

namespace PL
open PySem PySem.Spec PyProof.Rows L2
def topS (i : Nat) : Stmt := PySem.Challenge.pw_upanddowns_k11_rows_of_the_triangle.main.body.getD i (.Pass ⟨0, 0, 0, 0⟩)
abbrev s_is_whole : Stmt := topS 15
abbrev N_is_whole : List Str := ["thing"]
theorem sc_is_whole : FnScope N_is_whole ["thing"] (defScope s_is_whole) := ⟨rfl, rfl, rfl, by decide +kernel, rfl, by decide +kernel, by decide +kernel⟩
abbrev s_is_number : Stmt := topS 16
abbrev N_is_number : List Str := ["thing", "least", "most"]
theorem sc_is_number : FnScope N_is_number ["thing", "least", "most"] (defScope s_is_number) := ⟨rfl, rfl, rfl, by decide +kernel, rfl, by decide +kernel, by decide +kernel⟩
abbrev s_need_number : Stmt := topS 17
abbrev N_need_number : List Str := ["thing", "least", "most"]
theorem sc_need_number : FnScope N_need_number ["thing", "least", "most"] (defScope s_need_number) := ⟨rfl, rfl, rfl, by decide +kernel, rfl, by decide +kernel, by decide +kernel⟩
abbrev s_rows_to : Stmt := topS 20
abbrev N_rows_to : List Str := ["n", "found", "ahead", "k"]
theorem sc_rows_to : FnScope N_rows_to ["n"] (defScope s_rows_to) := ⟨rfl, rfl, rfl, by decide +kernel, rfl, by decide +kernel, by decide +kernel⟩
abbrev s_need_n_triangle : Stmt := topS 21
abbrev N_need_n_triangle : List Str := ["n"]
theorem sc_need_n_triangle : FnScope N_need_n_triangle ["n"] (defScope s_need_n_triangle) := ⟨rfl, rfl, rfl, by decide +kernel, rfl, by decide +kernel, by decide +kernel⟩
abbrev s_row : Stmt := topS 22
abbrev N_row : List Str := ["n"]
theorem sc_row : FnScope N_row ["n"] (defScope s_row) := ⟨rfl, rfl, rfl, by decide +kernel, rfl, by decide +kernel, by decide +kernel⟩
abbrev s_l_cell_at : Stmt := topS 24
abbrev N_l_cell_at : List Str := ["_law_script", "_law_k"]
theorem sc_l_cell_at : FnScope N_l_cell_at ["_law_script", "_law_k"] (defScope s_l_cell_at) := ⟨rfl, rfl, rfl, by decide +kernel, rfl, by decide +kernel, by decide +kernel⟩
abbrev s_l_draw : Stmt := topS 25
abbrev N_l_draw : List Str := ["_law_cell", "_law_k", "_law_bound", "_law_left", "_law_j", "_law_stir"]
theorem sc_l_draw : FnScope N_l_draw ["_law_cell", "_law_k", "_law_bound"] (defScope s_l_draw) := ⟨rfl, rfl, rfl, by decide +kernel, rfl, by decide +kernel, by decide +kernel⟩
abbrev s_l_turns_of : Stmt := topS 26
abbrev N_l_turns_of : List Str := ["_law_some", "_law_found", "_law_k"]
theorem sc_l_turns_of : FnScope N_l_turns_of ["_law_some"] (defScope s_l_turns_of) := ⟨rfl, rfl, rfl, by decide +kernel, rfl, by decide +kernel, by decide +kernel⟩
abbrev s_l_by_turns : Stmt := topS 27
abbrev N_l_by_turns : List Str := ["_law_size", "_law_first", "_law_found", "_law_k"]
theorem sc_l_by_turns : FnScope N_l_by_turns ["_law_size", "_law_first"] (defScope s_l_by_turns) := ⟨rfl, rfl, rfl, by decide +kernel, rfl, by decide +kernel, by decide +kernel⟩
abbrev s_l_orders : Stmt := topS 28
abbrev N_l_orders : List Str := ["_law_size", "_law_found", "_law_one", "_law_longer", "_law_some", "_law_k"]
theorem sc_l_orders : FnScope N_l_orders ["_law_size"] (defScope s_l_orders) := ⟨rfl, rfl, rfl, by decide +kernel, rfl, by decide +kernel, by decide +kernel⟩
abbrev s_l_rows : Stmt := topS 29
abbrev N_l_rows : List Str := ["_law_most", "_law_found", "_law_here", "_law_size", "_law_later", "_law_one"]
theorem sc_l_rows : FnScope N_l_rows ["_law_most"] (defScope s_l_rows) := ⟨rfl, rfl, rfl, by decide +kernel, rfl, by decide +kernel, by decide +kernel⟩
abbrev s_l_no_number : Stmt := topS 30
abbrev N_l_no_number : List Str := ["_law_cell", "_law_at", "_law_least", "_law_most", "_law_some"]
theorem sc_l_no_number : FnScope N_l_no_number ["_law_cell", "_law_at", "_law_least", "_law_most"] (defScope s_l_no_number) := ⟨rfl, rfl, rfl, by decide +kernel, rfl, by decide +kernel, by decide +kernel⟩
abbrev s_l_class : Stmt := topS 31
abbrev N_l_class : List Str := ["_law_error", "_law_kinds", "_law_words"]
theorem sc_l_class : FnScope N_l_class ["_law_error"] (defScope s_l_class) := ⟨rfl, rfl, rfl, by decide +kernel, rfl, by decide +kernel, by decide +kernel⟩
abbrev s_l_refused : Stmt := topS 32
abbrev N_l_refused : List Str := ["_law_call", "_law_word", "_law_error"]
theorem sc_l_refused : FnScope N_l_refused ["_law_call"] (defScope s_l_refused) := ⟨rfl, rfl, rfl, by decide +kernel, rfl, by decide +kernel, by decide +kernel⟩
abbrev s_law : Stmt := topS 33
abbrev N_law : List Str := ["_law_script", "_law_due", "_law_n", "_law_some", "_law_one", "_law_first", "_law_k", "_law_cell", "_law_turn", "_law_found", "_law_bad"]
theorem sc_law : FnScope N_law ["_law_script"] (defScope s_law) := ⟨rfl, rfl, rfl, by decide +kernel, rfl, by decide +kernel, by decide +kernel⟩
end PL

namespace PL
open PySem PySem.Spec PyProof.Rows L2
def MIsWhole : List PyData → Res → Prop := fun ds r => ∃ d, ds = [d] ∧ r = .ok (.bool (isWhole d))
theorem ok_is_whole {P : Program} {w : World} {K : PySem.W.Frag} {mg : Str → Option Value} {base : Heap} {T : List (Addr × Str)} {f : Addr} {fd : FuncData} (b : Bl mg) (F : Fun K "is_whole" "is_whole" s_is_whole f fd) :
    FnOk P w K mg base (L2.CX P w) 1 f fd ["thing"] (spP K T MIsWhole) := by
  refine okP F sc_is_whole (fun ds r h => by obtain ⟨d, rfl, _⟩ := h; rfl) fun cdv A outer s H E hr ds r h => ?_
  obtain ⟨d, rfl, rfl⟩ := h
  refine xs_to (Γ' := [.d d]) rfl (xs_cons (x1_ret (xe_and (xe_isi (by rfl) b.isinstance (XE.toD (xe_name 0)) (xv_blt (by rfl) b.int PyProof.Rows.boot_int rfl) (kit_int d)) fun _ => xe_one (xe_not (xe_isi (by rfl) b.isinstance (XE.toD (xe_name 0)) (xv_blt (by rfl) b.bool PyProof.Rows.boot_bool rfl) (kit_bool d)))) ?_))
  rw [isWhole_eq]; rfl
end PL


namespace PL
open PySem PySem.Spec PyProof.Rows L2
def MIsNumber : List PyData → Res → Prop := fun ds r => ∃ d lo hi, ds = [d, .int lo, .int hi] ∧ r = .ok (.bool (isNum d lo hi))
theorem ok_is_number {P : Program} {w : World} {K : PySem.W.Frag} {mg : Str → Option Value} {base : Heap} {T : List (Addr × Str)} {f : Addr} {fd : FuncData} (b : Bl mg) (c1 : Cal P w K mg base T "is_whole" 1 MIsWhole) (F : Fun K "is_number" "is_number" s_is_number f fd) :
    FnOk P w K mg base (L2.CX P w) 2 f fd ["thing", "least", "most"] (spP K T MIsNumber) := by
  refine okP F sc_is_number (fun ds r h => by obtain ⟨d, lo, hi, rfl, _⟩ := h; rfl) fun cdv A outer s H E hr ds r h => ?_
  obtain ⟨d, lo, hi, rfl, rfl⟩ := h
  refine xs_to (Γ' := [.d d, .d (.int lo), .d (.int hi)]) rfl ?_
  by_cases hw : isWhole d = true
  · obtain ⟨i, rfl⟩ := isWhole_ex hw
    refine xs_cons (x1_ret (xe_and (xe_call c1 hr (Nat.le_refl _) (by rfl) (xa_cons (xe_name 0) xa_nil) ⟨_, rfl, rfl⟩) fun _ => xe_one (xe_chain op_le op_le (xe_name 1) (xe_name 0) fun _ => xe_name 2)) ?_)
    rfl
  · have hw : isWhole d = false := by simpa using hw
    refine xs_cons (x1_ret (xe_and (k2 := false) (xe_call c1 hr (Nat.le_refl _) (by rfl) (xa_cons (xe_name 0) xa_nil) ⟨_, rfl, rfl⟩) fun h => by rw [hw] at h; cases h) ?_)
    show Res.ok _ = Res.ok _
    rw [hw]; cases d <;> first | rfl | cases hw
end PL


namespace PL
open PySem PySem.Spec PyProof.Rows L2
def MNeedNumber (ec : EC) : List PyData → Res → Prop := fun ds r => ∃ d lo hi, ds = [d, .int lo, .int hi] ∧ r = if isNum d lo hi then .ok .none else .ex (.ref ec.number)
theorem ok_need_number {P : Program} {w : World} {K : PySem.W.Frag} {mg : Str → Option Value} {base : Heap} {T : List (Addr × Str)} {f : Addr} {fd : FuncData} {ec : EC} (b : Bl mg) (cN : RaiseC K mg "NoNumber" ec.number) (c1 : Cal P w K mg base T "is_number" 2 MIsNumber) (F : Fun K "need_number" "need_number" s_need_number f fd) :
    FnOk P w K mg base (L2.CX P w) 3 f fd ["thing", "least", "most"] (spP K T (MNeedNumber ec)) := by
  refine okP F sc_need_number (fun ds r h => by obtain ⟨d, lo, hi, rfl, _⟩ := h; rfl) fun cdv A outer s H E hr ds r h => ?_
  obtain ⟨d, lo, hi, rfl, rfl⟩ := h
  refine xs_to (Γ' := [.d d, .d (.int lo), .d (.int hi)]) rfl ?_
  refine xs_cons (x1_if (xt_not (xt_of (xe_call c1 hr (Nat.le_refl _) (by rfl) (xa_cons (xe_name 0) (xa_cons (xe_name 1) (xa_cons (xe_name 2) xa_nil))) ⟨_, _, _, rfl, rfl⟩))) (fun hk => ?_) fun hk => ?_)
  · refine xs_cons (x1_raiseC cN rfl (by rfl) ?_)
    have : isNum d lo hi = false := by simpa using hk
    show _ = Res.ex _
    rw [this]; rfl
  · refine xs_nil (xs_nil ?_)
    have : isNum d lo hi = true := by simpa using hk
    show _ = Res.ok _
    rw [this]; rfl
end PL


namespace PL
open PySem PySem.Spec PyProof.Rows L2
def MNeedNT (ec : EC) : List PyData → Res → Prop := fun ds r => ∃ d, ds = [d] ∧ r = if isNum d 1 60 then .ok .none else .ex (.ref ec.number)
theorem ok_need_n_triangle {P : Program} {w : World} {K : PySem.W.Frag} {mg : Str → Option Value} {base : Heap} {T : List (Addr × Str)} {f : Addr} {fd : FuncData} {ec : EC} (g1 : ∃ t, mg "MOST_ROWS" = some (.int 60 t)) (c1 : Cal P w K mg base T "need_number" 3 (MNeedNumber ec)) (F : Fun K "need_n" "need_n" s_need_n_triangle f fd) :
    FnOk P w K mg base (L2.CX P w) 4 f fd ["n"] (spP K T (MNeedNT ec)) := by
  refine okP F sc_need_n_triangle (fun ds r h => by obtain ⟨d, rfl, _⟩ := h; rfl) fun cdv A outer s H E hr ds r h => ?_
  obtain ⟨d, rfl, rfl⟩ := h
  refine xs_to (Γ' := [.d d]) rfl (xs_cons (x1_exprR (xr_call c1 hr (Nat.le_refl _) (by rfl) (xa_cons (xe_name 0) (xa_cons xe_int (xa_cons (xe_gint (by rfl) g1) xa_nil))) ⟨_, _, _, rfl, rfl⟩) (fun d' h => xs_nil ?_) fun c h => h))
  show _ = Res.ok _
  split at h <;> first | rfl | cases h
  all_goals (rename_i q; rw [q]; rfl)
end PL


namespace PL
open PySem PySem.Spec PyProof.Rows L2
def rowStep (r : List Int) : List Int := (rg 0 (r.length + 1)).map fun k => (cut r none (some (r.length - k))).sum
def rowLast : Nat → List Int
  | 0 => [1]
  | n + 1 => rowStep (rowLast n)
def rowsN : Nat → List (List Int)
  | 0 => [[1]]
  | n + 1 => rowsN n ++ [rowLast (n + 1)]
theorem rowStep_len (r : List Int) : (rowStep r).length = r.length + 1 := by unfold rowStep; rw [List.length_map, rg_length]; omega
theorem rowLast_len (n : Nat) : (rowLast n).length = n + 1 := by induction n with
  | zero => rfl
  | succ n ih => rw [rowLast, rowStep_len, ih]
theorem rowsN_len (n : Nat) : (rowsN n).length = n + 1 := by induction n with
  | zero => rfl
  | succ n ih => rw [rowsN, List.length_append, ih]; rfl
theorem rowsN_last (n : Nat) : ∃ l, rowsN n = l ++ [rowLast n] := by cases n with
  | zero => exact ⟨[], rfl⟩
  | succ n => exact ⟨rowsN n, rfl⟩
def MRowsTo : List PyData → Res → Prop := fun ds r => ∃ n : Int, ds = [.int n] ∧ n ≤ 1000 ∧ r = .ok (.list ((rowsN (n.toNat - 1)).map dLI))
theorem ok_rows_to {P : Program} {w : World} {K : PySem.W.Frag} {mg : Str → Option Value} {base : Heap} {T : List (Addr × Str)} {f : Addr} {fd : FuncData} (b : Bl mg) (F : Fun K "rows_to" "rows_to" s_rows_to f fd) : FnOk P w K mg base (L2.CX P w) 1 f fd ["n"] (spP K T MRowsTo) := by
  refine okP F sc_rows_to (fun ds r h => by obtain ⟨n, rfl, _⟩ := h; rfl) fun cdv A outer s H E hr ds r h => ?_
  obtain ⟨n, rfl, hn, rfl⟩ := h
  have nd := sc_rows_to.nd
  refine xs_to (Γ' := [.d (.int n), .no, .no, .no]) rfl ?_
  refine xs_cons (x1_setN 1 nd (xn_lst (xa_cons (XN.toE (xn_lst (xa_cons xe_int xa_nil) (by show 1 ≤ sizeLine; decide))) xa_nil) (by show 1 ≤ sizeLine; decide)) ?_)
  refine xs_cons (x1_while (fun m Γ => ∃ j : Nat, Γ = [.d (.int n), .own ((rowsN j).map dLI), .no, .no] ∧ (j : Int) + 1 ≤ max 1 n ∧ m = (n - j).toNat) (passes_of rfl) ⟨_, 0, rfl, by omega, rfl⟩ ?_)
  rintro m Γ ⟨j, rfl, hj, rfl⟩
  refine ⟨_, xt_lt (xe_len (m := (j : Int) + 1) (by rfl) b.len (xl_own 1) (by rw [List.length_map, rowsN_len]; rfl)) (xe_name 0), fun hlt => ?_, fun hge => ?_⟩
  · have hlt' : (j : Int) + 1 < n := of_decide_eq_true hlt
    obtain ⟨l, hl⟩ := rowsN_last j
    have hL := rowLast_len j
    refine xs_cons (x1_set 2 (d := dLI (rowLast j)) nd (xe_ixL (xl_own 1) (xe_neg xe_int) (by rw [hl, List.map_append]; exact atI_last _ _)) ?_)
    refine xs_cons (x1_append 1 (d := dLI (rowStep (rowLast j))) ?_ ?_ ?_)
    · refine XN.toE (xn_map (own := [("k", 3)]) (ys := rg 0 ((rowLast j).length + 1)) (g := .int) (f := fun k => .int (cut (rowLast j) none (some ((rowLast j).length - k))).sum) rfl nd ?_ (blkOk_by (N := N_rows_to) (sc := defScope s_rows_to) (by decide +kernel)) ?_ ?_ ?_)
      · exact xi_range1 (by rfl) b.range (xe_add (xe_len (by rfl) b.len (XE.toL (xe_name 2)) (by rw [List.length_map])) xe_int) (by omega)
      · intro k hk
        refine ⟨_, fun s H C cl fp => xg_name 3 nd, fun s H C cl fp => ?_⟩
        exact xe_sum rfl (by rfl) b.sum (XN.toL (xn_sl (XE.toL (xe_name 2)) xo_none (xo_some (xe_sub (xe_len (by rfl) b.len (XE.toL (xe_name 2))) (xe_name 3))) (by rw [cut_map, List.length_map])))
      · rw [rg_length, sizeLine_eq]; omega
      · unfold rowStep; rw [List.map_map]; rfl
    · rw [List.length_map, rowsN_len, sizeLine_eq]; omega
    · refine xs_wk 2 (xs_nil ⟨_, ?_, j + 1, ?_, by omega, rfl⟩)
      · omega
      · show [Sl.d (.int n), .own ((rowsN j).map dLI ++ [dLI (rowStep (rowLast j))]), .no, .no] = _
        rw [rowsN, List.map_append]; rfl
  · have hge' : ¬ (j : Int) + 1 < n := of_decide_eq_false hge
    refine xs_freeze 1 rfl (xs_cons (x1_ret (xe_name 1) ?_))
    show Res.ok _ = Res.ok _
    rw [show n.toNat - 1 = j by omega]
end PL


namespace PL
open PySem PySem.Spec PyProof.Rows L2
def MRow (ec : EC) : List PyData → Res → Prop := fun ds r => ∃ d, ds = [d] ∧ ((∃ n : Int, d = .int n ∧ 1 ≤ n ∧ n ≤ 60 ∧ r = .ok (dLI (rowLast (n.toNat - 1)))) ∨ (isNum d 1 60 = false ∧ r = .ex (.ref ec.number)))
theorem ok_row {P : Program} {w : World} {K : PySem.W.Frag} {mg : Str → Option Value} {base : Heap} {T : List (Addr × Str)} {f : Addr} {fd : FuncData} {ec : EC} (c1 : Cal P w K mg base T "need_n" 4 (MNeedNT ec)) (c2 : Cal P w K mg base T "rows_to" 1 MRowsTo) (F : Fun K "row" "row" s_row f fd) :
    FnOk P w K mg base (L2.CX P w) 5 f fd ["n"] (spP K T (MRow ec)) := by
  refine okP F sc_row (fun ds r h => by obtain ⟨d, rfl, _⟩ := h; rfl) fun cdv A outer s H E hr ds r h => ?_
  obtain ⟨d, rfl, ⟨n, rfl, h1, h2, rfl⟩ | ⟨hn, rfl⟩⟩ := h
  · refine xs_to (Γ' := [.d (.int n)]) rfl (xs_cons (x1_exprR (xr_call c1 hr (Nat.le_refl _) (by rfl) (xa_cons (xe_name 0) xa_nil) ⟨_, rfl, rfl⟩) (fun d' h => ?_) fun c h => ?_))
    · obtain ⟨l, hl⟩ := rowsN_last (n.toNat - 1)
      refine xs_cons (x1_ret (d := dLI (rowLast (n.toNat - 1))) (xe_ixL (XE.toL (xe_call c2 hr (by decide) (by rfl) (xa_cons (xe_name 0) xa_nil) ⟨_, rfl, by omega, rfl⟩)) (xe_neg xe_int) (by rw [hl, List.map_append]; exact atI_last _ _)) rfl)
    · rw [isNum_int h1 h2] at h; cases h
  · refine xs_to (Γ' := [.d d]) rfl (xs_cons (x1_exprR (xr_call c1 hr (Nat.le_refl _) (by rfl) (xa_cons (xe_name 0) xa_nil) ⟨_, rfl, rfl⟩) (fun d' h => ?_) fun c h => ?_))
    · rw [hn] at h; cases h
    · rw [hn] at h; exact h
end PL


namespace PL
open PySem PySem.Spec PyProof.Rows L2
def MCellAt : List PyData → Res → Prop := fun ds r => ∃ (ns : List Int) (k : Nat), ds = [dLI ns, .int k] ∧ r = .ok (.int (ns.getD k 0))
theorem ok_l_cell_at {P : Program} {w : World} {K : PySem.W.Frag} {mg : Str → Option Value} {base : Heap} {T : List (Addr × Str)} {f : Addr} {fd : FuncData} (b : Bl mg) (F : Fun K "_law_cell_at" "_law_cell_at" s_l_cell_at f fd) :
    FnOk P w K mg base (L2.CX P w) 1 f fd ["_law_script", "_law_k"] (spP K T MCellAt) := by
  refine okP F sc_l_cell_at (fun ds r h => by obtain ⟨ns, k, rfl, _⟩ := h; rfl) fun cdv A outer s H E hr ds r h => ?_
  obtain ⟨ns, k, rfl, rfl⟩ := h
  refine xs_to (Γ' := [.d (dLI ns), .d (.int k)]) rfl (xs_cons (x1_if (xt_lt (xe_name 1) (xe_len (m := ns.length) (by rfl) b.len (XE.toL (xe_name 0)) (by rw [List.length_map]))) (fun h => ?_) fun h => ?_))
  · have h' : (k : Int) < ns.length := of_decide_eq_true h
    refine xs_cons (x1_ret (d := .int (ns.getD k 0)) (xe_ixL (XE.toL (xe_name 0)) (xe_name 1) ?_) rfl)
    rw [atI_map, atI_nat (v := ns.getD k 0) (by rw [List.getD_eq_getElem?_getD, List.getElem?_eq_getElem (by omega)]; rfl)]; rfl
  · have h' : ¬ (k : Int) < ns.length := of_decide_eq_false h
    refine xs_nil (xs_cons (x1_ret xe_int ?_))
    show Res.ok _ = Res.ok _
    rw [List.getD_eq_getElem?_getD, List.getElem?_eq_none (by omega)]; rfl
end PL


namespace PL
open PySem PySem.Spec PyProof.Rows L2
def stir1 (c k : Int) : Int := (c % 1000000007 + 1009 * k + 17) * 69621 % 2147483647
def stir2 (c k : Int) : Int := (stir1 c k * stir1 c k + 40503 * k + 5) % 2147483629
def drawV (c k b : Int) : Int := if 10 ^ 18 ≤ c then c / b ^ k.toNat % b else stir2 c k * 48271 % 2147483647 / 32 % b
theorem drawV_nn {c k b : Int} (h : 0 < b) : 0 ≤ drawV c k b := by unfold drawV; split <;> exact Int.emod_nonneg _ (by omega)
theorem drawV_lt {c k b : Int} (h : 0 < b) : drawV c k b < b := by unfold drawV; split <;> exact Int.emod_lt_of_pos _ h
theorem stir1_mul (c k : Int) : CMul (stir1 c k) (stir1 c k) := by
  have h1 : 0 ≤ stir1 c k := Int.emod_nonneg _ (by decide)
  have h2 : stir1 c k < 2147483647 := Int.emod_lt_of_pos _ (by decide)
  exact .inl ⟨by omega, by omega⟩
theorem div_step {c b : Int} (h : 0 < b) (i : Nat) : c / b ^ i / b = c / b ^ (i + 1) := by
  rw [Int.pow_succ, Int.ediv_ediv_of_nonneg (Int.le_of_lt (Int.pow_pos h))]
theorem div_zero_up {c b : Int} (h : 0 < b) {i : Nat} (hi : c / b ^ i = 0) : ∀ j : Nat, c / b ^ (i + j) = 0
  | 0 => hi
  | j + 1 => by rw [← Nat.add_assoc, ← div_step h, div_zero_up h hi j, Int.zero_ediv]
def CB (b : Int) : Prop := 0 < b ∧ b.natAbs.log2 < 9000
theorem cb_small {b : Int} (h : 0 < b) (h2 : b < 2 ^ 64) : CB b := ⟨h, by
  have : b.natAbs < 2 ^ 64 := by omega
  have := PySem.Flt.log2_lt_of (by decide : 0 < 64) this
  omega⟩
def MDraw : List PyData → Res → Prop := fun ds r => ∃ c k b : Int, ds = [.int c, .int k, .int b] ∧ 0 ≤ k ∧ k ≤ 100000 ∧ CB b ∧ r = .ok (.int (drawV c k b))
end PL


namespace PL
open PySem PySem.Spec PyProof.Rows L2
theorem ok_l_draw {P : Program} {w : World} {K : PySem.W.Frag} {mg : Str → Option Value} {base : Heap} {T : List (Addr × Str)} {f : Addr} {fd : FuncData} (b : Bl mg) (F : Fun K "_law_draw" "_law_draw" s_l_draw f fd) :
    FnOk P w K mg base (L2.CX P w) 1 f fd ["_law_cell", "_law_k", "_law_bound"] (spP K T MDraw) := by
  refine okP F sc_l_draw (fun ds r h => by obtain ⟨c, k, b, rfl, _⟩ := h; rfl) fun cdv A outer s H E hr ds r h => ?_
  obtain ⟨c, k, bd, rfl, hk0, hk1, hb, rfl⟩ := h
  have nd := sc_l_draw.nd
  refine xs_to (Γ' := [.d (.int c), .d (.int k), .d (.int bd), .no, .no, .no]) rfl (xs_cons (x1_if (xt_ge (xe_name 0) (xe_pow xe_int xe_int ⟨by decide, by decide, by decide⟩)) (fun h => ?_) fun h => ?_))
  · have h' : (10 : Int) ^ 18 ≤ c := of_decide_eq_true h
    refine xs_cons (x1_set 3 nd (xe_name 0) ?_)
    refine xs_cons (x1_for (fun i Γ => Γ = [.d (.int c), .d (.int k), .d (.int bd), .d (.int (c / bd ^ i)), .no, .no]) [4] (passes_of rfl) rfl (xi_range1 (by rfl) b.range (xe_name 1) (by omega)) (by simp) ?_ ?_)
    · rintro i d Γ hi rfl
      refine ⟨_, xg_name 4 nd, xs_cons (x1_if (xt_eqI (xe_name 3) xe_int) (fun hz => ?_) fun hz => ?_)⟩
      · have hz' : c / bd ^ i = 0 := of_decide_eq_true hz
        refine xs_cons (x1_ret xe_int ?_)
        have hlt := (List.getElem?_eq_some_iff.mp hi).1
        rw [List.length_map, rg_length] at hlt
        have e := div_zero_up hb.1 hz' (k.toNat - i)
        rw [show i + (k.toNat - i) = k.toNat by omega] at e
        show Res.ok _ = Res.ok _
        unfold drawV
        rw [if_pos h', e]; rfl
      · refine xs_nil (xs_cons (x1_set 3 nd (xe_divW (xe_name 3) (xe_name 2) hb) (xs_wk 4 (xs_nil ?_))))
        show [Sl.d (.int c), .d (.int k), .d (.int bd), .d (.int (c / bd ^ i / bd)), .no, .no] = _
        rw [div_step hb.1]
    · rintro Γ rfl
      rw [List.length_map, rg_length, Int.sub_zero]
      refine xs_cons (x1_ret (xe_mod (xe_name 3) (xe_name 2) hb.1) ?_)
      show Res.ok _ = Res.ok _
      unfold drawV; rw [if_pos h']
  · have h' : ¬ (10 : Int) ^ 18 ≤ c := of_decide_eq_false h
    refine xs_nil (xs_cons (x1_set 5 (d := .int (stir1 c k)) nd (xe_mod (xe_mul (xe_add (xe_add (xe_mod (xe_name 0) xe_int (by decide)) (xe_mul xe_int (xe_name 1) (.inl (by decide)))) xe_int) xe_int (.inr (by decide))) xe_int (by decide)) ?_))
    refine xs_cons (x1_set 5 (d := .int (stir2 c k)) nd (xe_mod (xe_add (xe_add (xe_mul (xe_name 5) (xe_name 5) (stir1_mul c k)) (xe_mul xe_int (xe_name 1) (.inl (by decide)))) xe_int) xe_int (by decide)) ?_)
    refine xs_cons (x1_ret (xe_mod (xe_div (xe_mod (xe_mul (xe_name 5) xe_int (.inr (by decide))) xe_int (by decide)) xe_int ⟨by decide, by decide⟩) (xe_name 2) hb.1) ?_)
    show Res.ok _ = Res.ok _
    unfold drawV; rw [if_neg h']
end PL


namespace PL
open PySem PySem.Spec PyProof.Rows L2
/-- texts of signs: true is u, false is d -/
def cU (b : Bool) : Nat := if b then 117 else 100
def txU (l : List Bool) : Str := ⟨(l.map cU).toArray⟩
theorem txU_app (l m : List Bool) : txU l ++ txU m = txU (l ++ m) := by
  show (⟨(l.map cU).toArray ++ (m.map cU).toArray⟩ : Str) = ⟨((l ++ m).map cU).toArray⟩
  simp
theorem txU_len (l : List Bool) : (txU l).length = l.length := by
  show (l.map cU).toArray.size = _
  simp
theorem txU_list (l : List Bool) : (txU l).cps.toList = l.map cU := by unfold txU; simp
theorem cU_inj : ∀ {a b : Bool}, cU a = cU b → a = b := by decide
theorem txU_inj {l m : List Bool} (h : txU l = txU m) : l = m := by
  have h1 : l.map cU = m.map cU := by rw [← txU_list, ← txU_list, h]
  exact List.map_inj_right (fun _ _ => cU_inj) |>.mp h1
theorem txU_eq (l m : List Bool) : decide (txU l = txU m) = decide (l = m) := by
  by_cases h : l = m
  · subst h; simp
  · rw [decide_eq_false h, decide_eq_false fun z => h (txU_inj z)]
/-- how the numbers go: up or down -/
def turnsB (ns : List Int) : List Bool := (List.range (ns.length - 1)).map fun k => decide (ns.getD k 0 < ns.getD (k + 1) 0)
theorem turnsB_len (ns : List Int) : (turnsB ns).length = ns.length - 1 := by unfold turnsB; simp
theorem turnsB_get {ns : List Int} {k : Nat} (h : k < ns.length - 1) : (turnsB ns)[k]? = some (decide (ns.getD k 0 < ns.getD (k + 1) 0)) := by
  unfold turnsB; rw [List.getElem?_map, List.getElem?_range h]; rfl
/-- by turns, the first one given -/
def byB (n : Nat) (f : Bool) : List Bool := (List.range n).map fun k => if k % 2 = 0 then f else !f
theorem byB_len (n : Nat) (f : Bool) : (byB n f).length = n := by unfold byB; simp
theorem byB_succ (n : Nat) (f : Bool) : byB (n + 1) f = byB n f ++ [if n % 2 = 0 then f else !f] := by unfold byB; rw [List.range_succ, List.map_append]; rfl
theorem ints_at {ns : List Int} {k : Nat} (h : k < ns.length) : atI (ns.map PyData.int) (k : Int) = some (.int (ns.getD k 0)) := by
  rw [atI_map, atI_nat (v := ns.getD k 0) (by rw [List.getD_eq_getElem?_getD, List.getElem?_eq_getElem h]; rfl)]; rfl
end PL


namespace PL
open PySem PySem.Spec PyProof.Rows L2
def MTurns : List PyData → Res → Prop := fun ds r => ∃ ns : List Int, ds = [dTI ns] ∧ ns.length ≤ 100000 ∧ r = .ok (.str (txU (turnsB ns)))
theorem ok_l_turns_of {P : Program} {w : World} {K : PySem.W.Frag} {mg : Str → Option Value} {base : Heap} {T : List (Addr × Str)} {f : Addr} {fd : FuncData} (b : Bl mg) (F : Fun K "_law_turns_of" "_law_turns_of" s_l_turns_of f fd) :
    FnOk P w K mg base (L2.CX P w) 1 f fd ["_law_some"] (spP K T MTurns) := by
  refine okP F sc_l_turns_of (fun ds r h => by obtain ⟨ns, rfl, _⟩ := h; rfl) fun cdv A outer s H E hr ds r h => ?_
  obtain ⟨ns, rfl, hl, rfl⟩ := h
  have nd := sc_l_turns_of.nd
  refine xs_to (Γ' := [.d (dTI ns), .no, .no]) rfl (xs_cons (x1_set 1 (d := .str (txU [])) nd xe_str ?_))
  refine xs_cons (x1_for (fun i Γ => Γ = [.d (dTI ns), .d (.str (txU ((turnsB ns).take i))), .no]) [2] (passes_of rfl) rfl (xi_range1 (j := (ns.length : Int) - 1) (by rfl) b.range (xe_sub (xe_lenT (by rfl) b.len (xe_name 0) (by rw [List.length_map])) xe_int) (by omega)) (by simp) ?_ ?_)
  · rintro i d Γ hi rfl
    have hlt := (List.getElem?_eq_some_iff.mp hi).1
    rw [List.length_map, rg_length] at hlt
    rw [List.getElem?_map, rg_get hlt] at hi
    cases hi
    refine ⟨_, xg_name 2 nd, xs_cons (x1_set 1 (d := .str (txU ((turnsB ns).take (i + 1)))) nd ?_ (xs_wk 2 (xs_nil rfl)))⟩
    have ht := turnsB_get (ns := ns) (k := i) (by omega)
    have e : (turnsB ns).take (i + 1) = (turnsB ns).take i ++ [decide (ns.getD i 0 < ns.getD (i + 1) 0)] := by rw [List.take_add_one, ht]; rfl
    rw [e, ← txU_app]
    refine xe_adds (xe_name 1) (xe_ixL (XN.toL (xn_lst (xa_cons xe_str (xa_cons xe_str xa_nil)) (by show 2 ≤ sizeLine; decide))) (xe_intB (by rfl) b.int (xe_lt (i := ns.getD i 0) (j := ns.getD (i + 1) 0) (xe_ixT (xe_name 0) (xe_name 2) ?_) (xe_ixT (xe_name 0) (xe_add (xe_name 2) xe_int) ?_))) ?_) ?_
    · rw [Int.zero_add]; exact ints_at (by omega)
    · rw [Int.zero_add]; exact ints_at (k := i + 1) (by omega)
    · cases decide (ns.getD i 0 < ns.getD (i + 1) 0) <;> rfl
    · rw [txU_len, txU_len, List.length_take, sizeLine_eq, turnsB_len]; simp; omega
  · rintro Γ rfl
    rw [List.length_map, rg_length]
    refine xs_cons (x1_ret (xe_name 1) ?_)
    show Res.ok _ = Res.ok _
    rw [List.take_of_length_le (by rw [turnsB_len]; omega)]
end PL


namespace PL
open PySem PySem.Spec PyProof.Rows L2
def MBy : List PyData → Res → Prop := fun ds r => ∃ (n : Nat) (f : Bool), ds = [.int n, .str (txU [f])] ∧ n ≤ 100000 ∧ r = .ok (.str (txU (byB n f)))
theorem ok_l_by_turns {P : Program} {w : World} {K : PySem.W.Frag} {mg : Str → Option Value} {base : Heap} {T : List (Addr × Str)} {f : Addr} {fd : FuncData} (b : Bl mg) (F : Fun K "_law_by_turns" "_law_by_turns" s_l_by_turns f fd) :
    FnOk P w K mg base (L2.CX P w) 1 f fd ["_law_size", "_law_first"] (spP K T MBy) := by
  refine okP F sc_l_by_turns (fun ds r h => by obtain ⟨n, f, rfl, _⟩ := h; rfl) fun cdv A outer s H E hr ds r h => ?_
  obtain ⟨n, u, rfl, hl, rfl⟩ := h
  have nd := sc_l_by_turns.nd
  refine xs_to (Γ' := [.d (.int n), .d (.str (txU [u])), .no, .no]) rfl (xs_cons (x1_set 2 (d := .str (txU [])) nd xe_str ?_))
  refine xs_cons (x1_for (fun i Γ => Γ = [.d (.int n), .d (.str (txU [u])), .d (.str (txU (byB i u))), .no]) [3] (passes_of rfl) rfl (xi_range1 (by rfl) b.range (xe_name 0) (by omega)) rfl ?_ ?_)
  · rintro i d Γ hi rfl
    have hlt := (List.getElem?_eq_some_iff.mp hi).1
    rw [List.length_map, rg_length] at hlt
    rw [List.getElem?_map, rg_get hlt] at hi
    cases hi
    refine ⟨_, xg_name 3 nd, xs_cons (x1_set 2 (d := .str (txU (byB (i + 1) u))) nd ?_ (xs_wk 3 (xs_nil rfl)))⟩
    rw [byB_succ, ← txU_app]
    refine xe_adds (z := txU [if i % 2 = 0 then u else !u]) (xe_name 2) (xe_ixS (y := txU [u, !u]) (xe_ixL (XN.toL (xn_lst (xa_cons xe_str (xa_cons xe_str xa_nil)) (by show 2 ≤ sizeLine; decide))) (xe_intB (by rfl) b.int (xe_eqS (xe_name 1) xe_str)) ?_) (xe_mod (xe_name 3) xe_int (by decide)) ?_ ?_) ?_
    · cases u <;> rfl
    · rw [txU_len, sizeLine_eq]; simp
    · rw [Int.zero_add, txU_list]
      have : (i : Int) % 2 = ((i % 2 : Nat) : Int) := by omega
      rw [this]
      rcases Nat.mod_two_eq_zero_or_one i with e | e <;> rw [e] <;> rfl
    · rw [txU_len, txU_len, byB_len, sizeLine_eq]; simp; omega
  · rintro Γ rfl
    rw [List.length_map, rg_length]
    refine xs_cons (x1_ret (xe_name 2) ?_)
    show Res.ok _ = Res.ok _
    rw [show ((n : Int) - 0).toNat = n by omega]
end PL


namespace PL
open PySem PySem.Spec PyProof.Rows L2
def insAll (n : Nat) (s : List Int) : List (List Int) := (List.range (n + 1)).map fun k => s.take k ++ [((n : Int) + 1)] ++ s.drop k
/-- all orders of 1 .. n -/
def ordsN : Nat → List (List Int)
  | 0 => [[]]
  | n + 1 => (ordsN n).flatMap (insAll n)
def facN : Nat → Nat
  | 0 => 1
  | n + 1 => facN n * (n + 1)
theorem facN_le {m n : Nat} (h : m ≤ n) : facN m ≤ facN n := by
  induction h with
  | refl => exact Nat.le_refl _
  | step _ ih => exact Nat.le_trans ih (Nat.le_mul_of_pos_right _ (Nat.succ_pos _))
theorem insAll_len (n : Nat) (s : List Int) : (insAll n s).length = n + 1 := by unfold insAll; simp
theorem flat_len (n : Nat) : ∀ l : List (List Int), (l.flatMap (insAll n)).length = l.length * (n + 1)
  | [] => by simp
  | s :: l => by rw [List.flatMap_cons, List.length_append, insAll_len, flat_len n l, List.length_cons, Nat.succ_mul]; omega
theorem ordsN_len (n : Nat) : (ordsN n).length = facN n := by induction n with
  | zero => rfl
  | succ n ih => rw [ordsN, flat_len, ih]; rfl
theorem ordsN_mem {n : Nat} {s : List Int} (h : s ∈ ordsN n) : s.length = n := by
  induction n generalizing s with
  | zero => simp [ordsN] at h; subst h; rfl
  | succ n ih =>
    rw [ordsN, List.mem_flatMap] at h
    obtain ⟨t, h1, h2⟩ := h
    unfold insAll at h2
    obtain ⟨k, hk, rfl⟩ := List.mem_map.mp h2
    have := ih h1
    simp
    have := List.mem_range.mp hk
    omega
def MOrders : List PyData → Res → Prop := fun ds r => ∃ n : Nat, ds = [.int n] ∧ 1 ≤ n ∧ n ≤ 8 ∧ r = .ok (.list ((srtT (ordsN n)).map dTI))
theorem ok_l_orders {P : Program} {w : World} {K : PySem.W.Frag} {mg : Str → Option Value} {base : Heap} {T : List (Addr × Str)} {f : Addr} {fd : FuncData} (b : Bl mg) (F : Fun K "_law_orders" "_law_orders" s_l_orders f fd) :
    FnOk P w K mg base (L2.CX P w) 1 f fd ["_law_size"] (spP K T MOrders) := by
  refine okP F sc_l_orders (fun ds r h => by obtain ⟨n, rfl, _⟩ := h; rfl) fun cdv A outer s H E hr ds r h => ?_
  obtain ⟨n, rfl, h1, h8, rfl⟩ := h
  have nd := sc_l_orders.nd
  have f8 : facN 8 = 40320 := by decide
  refine xs_to (Γ' := [.d (.int n), .no, .no, .no, .no, .no]) rfl (xs_cons (x1_set 1 (d := .list ((ordsN 0).map dTI)) nd (XN.toE (xn_lst (xa_cons (xe_tup xa_nil (by show 0 ≤ sizeLine; decide)) xa_nil) (by show 1 ≤ sizeLine; decide))) ?_))
  refine xs_cons (x1_for (fun i Γ => Γ = [.d (.int n), .d (.list ((ordsN i).map dTI)), .no, .no, .no, .no]) [2] (passes_of rfl) rfl (xi_range2 (by rfl) b.range xe_int (xe_add (xe_name 0) xe_int) (by omega)) rfl ?_ ?_)
  · rintro i d Γ hi rfl
    have hlt := (List.getElem?_eq_some_iff.mp hi).1
    rw [List.length_map, rg_length] at hlt
    rw [List.getElem?_map, rg_get hlt] at hi
    cases hi
    have hf : facN (i + 1) ≤ facN 8 := facN_le (by omega)
    refine ⟨_, xg_name 2 nd, xs_cons (x1_setN 3 (xs := []) nd (xn_lst xa_nil (by show 0 ≤ sizeLine; decide)) ?_)⟩
    refine xs_cons (x1_for (fun j Γ => Γ = [.d (.int n), .d (.list ((ordsN i).map dTI)), .d (.int (1 + (i : Int))), .own ((((ordsN i).take j).flatMap (insAll i)).map dTI), .no, .no]) [4] (passes_of rfl) rfl (xi_list (xe_name 1)) rfl ?_ ?_)
    · rintro j d Γ hj rfl
      rw [List.getElem?_map] at hj
      cases ho : (ordsN i)[j]? with
      | none => rw [ho] at hj; cases hj
      | some t =>
        rw [ho] at hj; cases hj
        have hjl : j < (ordsN i).length := (List.getElem?_eq_some_iff.mp ho).1
        have ht : t.length = i := ordsN_mem (List.mem_of_getElem? ho)
        have e : (ordsN i).take (j + 1) = (ordsN i).take j ++ [t] := by rw [List.take_add_one, ho]; rfl
        have hsz : (((ordsN i).take j).flatMap (insAll i)).length + (i + 1) ≤ facN (i + 1) := by
          rw [flat_len, List.length_take, Nat.min_eq_left (by omega), ← Nat.succ_mul]
          exact Nat.mul_le_mul_right _ (by rw [← ordsN_len]; omega)
        refine ⟨_, xg_name 4 nd, xs_cons (x1_extend 3 (ys := (insAll i t).map dTI) ?_ ?_ ?_)⟩
        · refine xn_map (own := [("_law_k", 5)]) (ys := rg 0 (1 + i)) (g := .int) (f := fun k => dTI (t.take k.toNat ++ [(i : Int) + 1] ++ t.drop k.toNat)) rfl nd (xi_range1 (by rfl) b.range (xe_name 2) (by omega)) (blkOk_by (N := N_l_orders) (sc := defScope s_l_orders) (by decide +kernel)) ?_ ?_ ?_
          · intro k hk
            have hk' := rg_mem.mp hk
            refine ⟨_, fun s H C cl fp => xg_name 5 nd, fun s H C cl fp => ?_⟩
            refine xe_catT (xs := (t.take k.toNat ++ [(i : Int) + 1]).map .int) (ys := (t.drop k.toNat).map .int) (xe_catT (xs := (t.take k.toNat).map .int) (ys := [.int ((i : Int) + 1)]) (xe_slT (xe_name 4) xo_none (xo_some (xe_name 5)) ?_) (xe_tup (xa_cons (XE.cast (xe_name 2) (by rw [Int.add_comm])) xa_nil) (by show 1 ≤ sizeLine; decide)) ?_ ?_) (xe_slT (xe_name 4) (xo_some (xe_name 5)) xo_none ?_) ?_ ?_
            · rw [cut_map, cut_to (by omega)]
            · rw [List.length_map, List.length_take, sizeLine_eq]; simp; omega
            · rw [List.map_append]; rfl
            · rw [cut_map, cut_from (by omega)]
            · rw [List.length_map, List.length_map, List.length_append, List.length_take, List.length_drop, sizeLine_eq]; simp; omega
            · rw [← List.map_append]
          · rw [rg_length, sizeLine_eq]; omega
          · unfold insAll rg; rw [List.map_map, List.map_map, show (1 + (i : Int) - 0).toNat = i + 1 by omega]
            refine List.map_congr_left fun k _ => ?_
            show dTI (t.take (0 + (k : Int)).toNat ++ _ ++ t.drop (0 + (k : Int)).toNat) = _
            rw [show (0 + (k : Int)).toNat = k by omega]; rfl
        · rw [List.length_map, List.length_map, insAll_len, sizeLine_eq]; omega
        · refine xs_wk 4 (xs_nil ?_)
          show [Sl.d (.int n), .d (.list ((ordsN i).map dTI)), .d (.int (1 + (i : Int))), .own (_ ++ _), .no, .no] = _
          rw [e, List.flatMap_append, List.map_append]
          simp
    · rintro Γ rfl
      rw [List.length_map, List.take_length]
      refine xs_freeze 3 rfl (xs_cons (x1_set 1 nd (xe_name 3) (xs_wk 2 (xs_wk 3 (xs_nil ?_)))))
      rfl
  · rintro Γ rfl
    rw [List.length_map, rg_length, show ((n : Int) + 1 - 1).toNat = n by omega]
    refine xs_cons (x1_ret (XN.toE (xn_sortedT (hu10 hr) (fun b hb z => ?_) (by rfl) b.sorted (XE.toL (xe_name 1)))) rfl)
    have := ordsN_mem hb
    rw [z] at this
    simp at this
    omega
end PL


namespace PL
open PySem PySem.Spec PyProof.Rows L2
/-- sums from the left, begun at acc -/
def psum (acc : Int) : List Int → List Int
  | [] => []
  | x :: xs => (acc + x) :: psum (acc + x) xs
theorem psum_snoc (x : Int) : ∀ (acc : Int) (l : List Int), psum acc (l ++ [x]) = psum acc l ++ [(acc + l.sum) + x]
  | acc, [] => by simp [psum]
  | acc, y :: l => by simp [psum, psum_snoc x (acc + y) l, Int.add_assoc]
theorem psum_len : ∀ (acc : Int) (l : List Int), (psum acc l).length = l.length
  | _, [] => rfl
  | acc, y :: l => by simp [psum, psum_len (acc + y) l]
/-- the rows by sums to and fro: the one that is gone on with -/
def hereN : Nat → List Int
  | 0 => [1]
  | n + 1 => 0 :: psum 0 (hereN n).reverse
theorem hereN_len (n : Nat) : (hereN n).length = n + 1 := by induction n with
  | zero => rfl
  | succ n ih => rw [hereN, List.length_cons, psum_len, List.length_reverse, ih]
theorem take_sum_psum : ∀ (acc : Int) (l : List Int), acc :: psum acc l = (List.range (l.length + 1)).map fun k => acc + (l.take k).sum
  | acc, [] => by simp [psum]
  | acc, x :: l => by
    rw [List.length_cons, List.range_succ_eq_map, List.map_cons, List.map_map, psum, take_sum_psum (acc + x) l]
    simp only [List.take_zero, List.sum_nil, Int.add_zero, List.cons.injEq, true_and]
    refine List.map_congr_left fun k _ => ?_
    simp [Int.add_assoc]
theorem rowStep_eq (r : List Int) : rowStep r = (0 :: psum 0 r).reverse := by
  rw [take_sum_psum]
  apply List.ext_getElem?
  intro k
  unfold rowStep
  rw [List.getElem?_map]
  by_cases h : k < r.length + 1
  · rw [rg_get (by omega), List.getElem?_reverse (by simp; omega), List.getElem?_map, List.length_map, List.length_range, List.getElem?_range (by omega)]
    simp only [Option.map_some, Int.zero_add]
    rw [cut_to (by omega)]
    congr 3
    omega
  · rw [List.getElem?_eq_none (by rw [rg_length]; omega), List.getElem?_eq_none (by simp; omega)]; rfl
theorem rowLast_here (n : Nat) : rowLast n = (hereN n).reverse := by induction n with
  | zero => rfl
  | succ n ih => rw [rowLast, rowStep_eq, ih, hereN]
def MLRows : List PyData → Res → Prop := fun ds r => ∃ n : Nat, ds = [.int n] ∧ 1 ≤ n ∧ n ≤ 1000 ∧ r = .ok (.list ((rowsN (n - 1)).map dLI))
theorem ok_l_rows {P : Program} {w : World} {K : PySem.W.Frag} {mg : Str → Option Value} {base : Heap} {T : List (Addr × Str)} {f : Addr} {fd : FuncData} (b : Bl mg) (F : Fun K "_law_rows" "_law_rows" s_l_rows f fd) :
    FnOk P w K mg base (L2.CX P w) 1 f fd ["_law_most"] (spP K T MLRows) := by
  refine okP F sc_l_rows (fun ds r h => by obtain ⟨n, rfl, _⟩ := h; rfl) fun cdv A outer s H E hr ds r h => ?_
  obtain ⟨n, rfl, h1, h2, rfl⟩ := h
  have nd := sc_l_rows.nd
  refine xs_to (Γ' := [.d (.int n), .no, .no, .no, .no, .no]) rfl ?_
  refine xs_cons (x1_setN 1 nd (xn_lst (xa_cons (XN.toE (xn_lst (xa_cons xe_int xa_nil) (by show 1 ≤ sizeLine; decide))) xa_nil) (by show 1 ≤ sizeLine; decide)) ?_)
  refine xs_cons (x1_set 2 (d := dLI (hereN 0)) nd (XN.toE (xn_lst (xa_cons xe_int xa_nil) (by show 1 ≤ sizeLine; decide))) ?_)
  refine xs_cons (x1_for (fun i Γ => Γ = [.d (.int n), .own ((rowsN i).map dLI), .d (dLI (hereN i)), .no, .no, .no]) [3] (passes_of rfl) rfl (xi_range2 (by rfl) b.range xe_int (xe_add (xe_name 0) xe_int) (by omega)) rfl ?_ ?_)
  · rintro i d Γ hi rfl
    have hlt := (List.getElem?_eq_some_iff.mp hi).1
    rw [List.length_map, rg_length] at hlt
    have hL := hereN_len i
    refine ⟨_, xg_name 3 nd, xs_wk 3 (xs_cons (x1_setN 4 (xs := [.int 0]) nd (xn_lst (xa_cons xe_int xa_nil) (by show 1 ≤ sizeLine; decide)) ?_))⟩
    refine xs_cons (x1_for (fun j Γ => Γ = [.d (.int n), .own ((rowsN i).map dLI), .d (dLI (hereN i)), .no, .own ((0 :: psum 0 ((hereN i).reverse.take j)).map .int), .no]) [5] (passes_of rfl) rfl (xi_list (XN.toE (xn_rev (XE.toL (xe_name 2)) (List.map_reverse.symm)))) rfl ?_ ?_)
    · rintro j d Γ hj rfl
      rw [List.getElem?_map] at hj
      cases ho : (hereN i).reverse[j]? with
      | none => rw [ho] at hj; cases hj
      | some t =>
        rw [ho] at hj; cases hj
        have hjl : j < (hereN i).reverse.length := (List.getElem?_eq_some_iff.mp ho).1
        rw [List.length_reverse] at hjl
        have e : (hereN i).reverse.take (j + 1) = (hereN i).reverse.take j ++ [t] := by rw [List.take_add_one, ho]; rfl
        generalize hq : (hereN i).reverse.take j = q at e
        have hql : q.length = j := by rw [← hq, List.length_take, List.length_reverse]; omega
        have hlast : ∃ l, (0 :: psum 0 q) = l ++ [q.sum] := by
          rcases List.eq_nil_or_concat q with rfl | ⟨q', z, rfl⟩
          · exact ⟨[], rfl⟩
          · rw [List.concat_eq_append, psum_snoc]
            exact ⟨0 :: psum 0 q', by simp⟩
        obtain ⟨l, hl⟩ := hlast
        refine ⟨_, xg_name 5 nd, xs_cons (x1_append 4 (d := .int (q.sum + t)) (xe_add (xe_ixL (xl_own 4) (xe_neg xe_int) (by rw [hl, List.map_append]; exact atI_last _ _)) (xe_name 5)) ?_ (xs_wk 5 (xs_nil ?_)))⟩
        · rw [List.length_map, List.length_cons, psum_len, sizeLine_eq]; omega
        · rw [e, psum_snoc, Int.zero_add, ← List.cons_append, List.map_append]; rfl
    · rintro Γ rfl
      rw [List.length_map, List.take_length]
      refine xs_freeze 4 rfl (xs_cons (x1_set 2 (d := dLI (hereN (i + 1))) nd (xe_name 4) ?_))
      refine xs_cons (x1_append 1 (d := dLI (rowLast (i + 1))) (XN.toE (xn_rev (XE.toL (xe_name 2)) (by rw [rowLast_here, List.map_reverse]))) ?_ (xs_wk 4 (xs_nil ?_)))
      · rw [List.length_map, rowsN_len, sizeLine_eq]; omega
      · show [Sl.d (.int n), .own ((rowsN i).map dLI ++ [dLI (rowLast (i + 1))]), _, _, _, _] = _
        rw [rowsN, List.map_append]; rfl
  · rintro Γ rfl
    rw [List.length_map, rg_length]
    refine xs_freeze 1 rfl (xs_cons (x1_ret (xe_name 1) ?_))
    show Res.ok _ = Res.ok _
    rw [show ((n : Int) + 1 - 2).toNat = n - 1 by omega]
end PL


namespace PL
open PySem PySem.Spec PyProof.Rows L2
def badL (lo hi : Int) : List PyData := [.int (lo - 1), .int (hi + 1), .bool true, .bool false, .none, .str (toString lo), .tuple [.int lo], .list [.int lo], .dict [], .int (-10 ^ 30), .int (10 ^ 40)]
def badV (lo hi : Int) (n : Int) : PyData := (badL lo hi).getD n.toNat .none
theorem badV_not {lo hi n : Int} (h0 : -1000 ≤ lo) (h1 : hi ≤ 10 ^ 39) : isNum (badV lo hi n) lo hi = false := by
  unfold badV
  generalize n.toNat = k
  unfold badL
  match k with
  | 0 => show (decide (lo ≤ lo - 1) && _) = false; rw [decide_eq_false (by omega)]; rfl
  | 1 => show (_ && decide (hi + 1 ≤ hi)) = false; rw [decide_eq_false (show ¬ hi + 1 ≤ hi by omega)]; exact Bool.and_false _
  | 2 => rfl
  | 3 => rfl
  | 4 => rfl
  | 5 => rfl
  | 6 => rfl
  | 7 => rfl
  | 8 => rfl
  | 9 => show (decide (lo ≤ -10 ^ 30) && _) = false; rw [decide_eq_false (by omega)]; rfl
  | 10 => show (_ && decide ((10 : Int) ^ 40 ≤ hi)) = false; rw [decide_eq_false (show ¬ (10 : Int) ^ 40 ≤ hi by omega)]; exact Bool.and_false _
  | k + 11 => rfl
def MNoNumber : List PyData → Res → Prop := fun ds r => ∃ c k lo hi : Int, ds = [.int c, .int k, .int lo, .int hi] ∧ 0 ≤ k ∧ k ≤ 100000 ∧ -1000 ≤ lo ∧ lo ≤ 1000 ∧ r = .ok (badV lo hi (drawV c k 11))
theorem ok_l_no_number {P : Program} {w : World} {K : PySem.W.Frag} {mg : Str → Option Value} {base : Heap} {T : List (Addr × Str)} {f : Addr} {fd : FuncData} (b : Bl mg) (c1 : Cal P w K mg base T "_law_draw" 1 MDraw) (F : Fun K "_law_no_number" "_law_no_number" s_l_no_number f fd) :
    FnOk P w K mg base (L2.CX P w) 2 f fd ["_law_cell", "_law_at", "_law_least", "_law_most"] (spP K T MNoNumber) := by
  refine okP F sc_l_no_number (fun ds r h => by obtain ⟨c, k, lo, hi, rfl, _⟩ := h; rfl) fun cdv A outer s H E hr ds r h => ?_
  obtain ⟨c, k, lo, hi, rfl, hk0, hk1, hl0, hl1, rfl⟩ := h
  have nd := sc_l_no_number.nd
  have hlog : lo.natAbs.log2 < 1920 := by
    have : lo.natAbs < 2 ^ 64 := by omega
    have := PySem.Flt.log2_lt_of (by decide : 0 < 64) this
    omega
  refine xs_to (Γ' := [.d (.int c), .d (.int k), .d (.int lo), .d (.int hi), .no]) rfl ?_
  refine xs_cons (x1_set 4 (d := .list (badL lo hi)) nd (XN.toE (xn_lst (xa_cons (xe_sub (xe_name 2) xe_int) (xa_cons (xe_add (xe_name 3) xe_int) (xa_cons xe_bl (xa_cons xe_bl (xa_cons xe_non (xa_cons (xe_strI (by rfl) b.str (xe_name 2) hlog)
    (xa_cons (xe_tup (xa_cons (xe_name 2) xa_nil) (by show 1 ≤ sizeLine; decide)) (xa_cons (XN.toE (xn_lst (xa_cons (xe_name 2) xa_nil) (by show 1 ≤ sizeLine; decide))) (xa_cons xe_dict0 (xa_cons (xe_neg (xe_pow xe_int xe_int ⟨by decide, by decide, by decide⟩)) (xa_cons (xe_pow xe_int xe_int ⟨by decide, by decide, by decide⟩) xa_nil))))))))))) (by show 11 ≤ sizeLine; decide))) ?_)
  have h0 := drawV_nn (c := c) (k := k) (b := 11) (by decide)
  have h1 := drawV_lt (c := c) (k := k) (b := 11) (by decide)
  refine xs_cons (x1_ret (d := badV lo hi (drawV c k 11)) (xe_ixL (XE.toL (xe_name 4)) (xe_call c1 hr (Nat.le_refl _) (by rfl) (xa_cons (xe_name 0) (xa_cons (xe_name 1) (xa_cons xe_int xa_nil))) ⟨_, _, _, rfl, hk0, hk1, cb_small (by decide) (by decide), rfl⟩) ?_) rfl)
  have hlt : (drawV c k 11).toNat < (badL lo hi).length := by show _ < 11; omega
  refine atI_get' h0 ?_
  unfold badV
  rw [List.getD_eq_getElem?_getD, List.getElem?_eq_getElem hlt]; rfl
end PL


namespace PL
open PySem PySem.Spec PyProof.Rows L2
theorem ok_l_class {P : Program} {w : World} {K : PySem.W.Frag} {mg : Str → Option Value} {base : Heap} {T : List (Addr × Str)} {ec : EC} {f : Addr} {fd : FuncData} (b : Bl mg) (cn : ClsN mg ec) (F : Fun K "_law_class" "_law_class" s_l_class f fd) :
    PClass P w K mg base T ec f fd "_law_error" := by
  refine okClass F sc_l_class fun cdv A outer s H a oe i hr hz hf hk => ?_
  have nd := sc_l_class.nd
  have hp : (a, oe) ∈ (L2H.cxH C8.CX0 P w K mg base N_l_class "_law_class" (defScope s_l_class) f cdv A outer s H C8.E0 (a, oe)).pn := List.mem_singleton_self _
  have is : ∀ {Γ : List Sl} {y : Str} {j : Nat} {p1 p2 p3 p4 : Pos}, Γ[0]? = some (.v (.ref a)) → j < 12 → ecName j = y → Gl (L2H.cxH C8.CX0 P w K mg base N_l_class "_law_class" (defScope s_l_class) f cdv A outer s H C8.E0 (a, oe)) y → (y == ("__debug__" : Str)) = false →
      XE T (L2H.cxH C8.CX0 P w K mg base N_l_class "_law_class" (defScope s_l_class) f cdv A outer s H C8.E0 (a, oe)) Γ (.Call (.Name "isinstance" p1) [.Name "_law_error" p2, .Name y p3] [] p4) (.bool (decide (i = j))) := by
    intro Γ y j p1 p2 p3 p4 h0 hj hy hg hd
    subst hy
    exact xe_isE hp hk.exc hz hf (by rfl) b.isinstance (xv_name 0 h0) (xv_glob (x := .ref (ec.at j)) (u := .ref (ec.at j)) hg (cn.c j hj) rfl hd) (fun u r => r) (hk.k j hj)
  refine xs_to (Γ' := [.v (.ref a), .no, .no]) rfl (xs_cons (x1_if (k := false) (XW.toT (xw_or (k1 := false) (k2 := false) (xt_not (xt_of (xe_isE (q := true) hp hk.exc hz hf (by rfl) b.isinstance (xv_name 0) (xv_glob (x := .ref ec.turn) (u := .ref ec.turn) (by rfl) cn.t rfl) (fun u r => r) hk.t)))
    fun _ => xw_or1 (xt_not (xt_of (xe_isE (q := true) hp hk.exc hz hf (by rfl) b.isinstance (xv_name 0) (xv_blt (by rfl) cn.v (x := .ty "ValueError") (u := .type "ValueError") (by decide +kernel) rfl) (fun u r => r) hk.v))))) (fun h => by cases h) fun _ => xs_nil ?_))
  have l3 : (3 : Nat) ≤ sizeLine := by decide
  refine xs_cons (x1_set 1 (d := .list ((kL i).take 3)) nd (XN.toE (xn_lst (xa_cons (is rfl (j := 0) (by decide) rfl (by rfl) (by decide)) (xa_cons (is rfl (j := 1) (by decide) rfl (by rfl) (by decide)) (xa_cons (is rfl (j := 2) (by decide) rfl (by rfl) (by decide)) xa_nil))) l3)) ?_)
  refine xs_cons (x1_set 1 (d := .list ((kL i).take 6)) nd (XN.toE (xn_cat (XE.toL (xe_name 1)) (XN.toL (xn_lst (xa_cons (is rfl (j := 3) (by decide) rfl (by rfl) (by decide)) (xa_cons (is rfl (j := 4) (by decide) rfl (by rfl) (by decide)) (xa_cons (is rfl (j := 5) (by decide) rfl (by rfl) (by decide)) xa_nil))) l3)) (by show 6 ≤ sizeLine; decide))) ?_)
  refine xs_cons (x1_set 1 (d := .list ((kL i).take 9)) nd (XN.toE (xn_cat (XE.toL (xe_name 1)) (XN.toL (xn_lst (xa_cons (is rfl (j := 6) (by decide) rfl (by rfl) (by decide)) (xa_cons (is rfl (j := 7) (by decide) rfl (by rfl) (by decide)) (xa_cons (is rfl (j := 8) (by decide) rfl (by rfl) (by decide)) xa_nil))) l3)) (by show 9 ≤ sizeLine; decide))) ?_)
  refine xs_cons (x1_set 1 (d := .list (kL i)) nd (XN.toE (xn_cat (XE.toL (xe_name 1)) (XN.toL (xn_lst (xa_cons (is rfl (j := 9) (by decide) rfl (by rfl) (by decide)) (xa_cons (is rfl (j := 10) (by decide) rfl (by rfl) (by decide)) (xa_cons (is rfl (j := 11) (by decide) rfl (by rfl) (by decide)) xa_nil))) l3)) (by show 12 ≤ sizeLine; decide))) ?_)
  refine xs_cons (x1_if (k := false) (xt_neI (xe_countD (n := 1) (hu65H hr) (XE.toL (xe_name 1)) (XE.toD xe_bl) (shp_to (shp_bl _) (by decide)) (shaped_flat rfl) (kL_count hk.lt)) xe_int) (fun h => by cases h) fun _ => xs_nil ?_)
  refine xs_cons (x1_set 2 nd (XN.toE (xn_lst (xa_cons xe_str (xa_cons xe_str (xa_cons xe_str (xa_cons xe_str (xa_cons xe_str (xa_cons xe_str (xa_cons xe_str (xa_cons xe_str (xa_cons xe_str xa_nil))))))))) (by show 9 ≤ sizeLine; decide))) ?_)
  refine xs_cons (x1_ret (d := .str (ecWord i)) (xe_ixL (XN.toL (xn_cat (zs := kW) (XE.toL (xe_name 2)) (XN.toL (xn_lst (xa_cons xe_str (xa_cons xe_str (xa_cons xe_str xa_nil))) l3)) (by show 12 ≤ sizeLine; decide))) (xe_indexD (n := i) (hu65H hr) (XE.toL (xe_name 1)) (XE.toD xe_bl) (shp_to (shp_bl _) (by decide)) (shaped_flat rfl) (kL_at hk.lt) (by simp [PyData.eqv]) (kL_no hk.lt)) (kW_at hk.lt)) rfl)
end PL


namespace PL
open PySem PySem.Spec PyProof.Rows L2
structure RefB (P : Program) (w : World) (K : PySem.W.Frag) (mg : Str → Option Value) (base : Heap) (T : List (Addr × Str)) (ec : EC) : Prop where
  ex : ∃ (g fc : Addr) (fdg fdc : FuncData), Fun K "_law_refused" "_law_refused" s_l_refused g fdg ∧ Binds K fdg ["_law_call"] [] ∧ mg "_law_refused" = some (.ref g) ∧ PySem.W.keepIn K (.ref g) = true ∧ mg "_law_class" = some (.ref fc) ∧ PySem.W.keepIn K (.ref fc) = true ∧ Binds K fdc ["_law_error"] [] ∧ PClass P w K mg base T ec fc fdc "_law_error"
  t : mg "TurnError" = some (.ref ec.turn)
theorem xe_ref {T : List (Addr × Str)} {X : Cx} {Γ : List Sl} {ec : EC} {c P : Addr} {word : Str} {params : Arguments} {body : Expr} {scope : Scope} {p lpos pos : Pos} {r : Res} {k : Nat} (R : RefB X.prog X.w X.K X.mg X.base T ec) (LT : LamT X T c P) (hr : Room (k + 2) X.A) (hk : 1 ≤ k)
    (hbody : ∀ (A : Around) (outer : List Env) (s : Shared) (H : Hp) (E : XK) (f c' : Addr), Room k (LamX.lamCx X A outer s H E scope f c').A → XR T (LamX.lamCx X A outer s H E scope f c') Γ body r) (hw : Tells X.K ec "told" r word) (hg : Gl X "_law_refused") (L : LamX.lamSB X.env.scope scope = true) (hdef : defaultsOf params X.env = ([], []) := by rfl)
    (hbind : ∀ (q : Str) (cl : List (Str × Addr)) (pm cv ctv : Value), bindArgs (PySem.W.kla_fn "<lambda>" q params body scope cl pm cv ctv) ⟨[], []⟩ = pure [] := by intro _ _ _ _ _; rfl) :
    XE T X Γ (.Call (.Name "_law_refused" p) [.Lambda params body scope lpos] [] pos) (.str word) := by
  obtain ⟨⟨g, fc, fdg, fdc, F, bg, mg, kg, mc, kc, bc, PC⟩, ht⟩ := R
  refine xe_refused (told := "told") F bg sc_l_refused mg kg (fun cdv => ?_) LT hr rfl (.inl rfl) hbody hw hg L hdef hbind
  exact refused_gives (cl := "_law_class") (n := "_law_error") (e := "TurnError") (wd := "_law_word") (an := "_law_call") sc_l_refused.nd rfl rfl rfl rfl rfl rfl rfl ht mc kc bc PC (hr.mono (by omega)) (by decide) (by decide) (by decide) (by decide) (by decide) (by decide) (fun _ => rfl) (fun _ => rfl) (fun _ => rfl)
end PL


namespace PL
open PySem PySem.Spec PyProof.Rows L2
/-- how many up-downs begin with first, by all orders -/
def cntR (n : Nat) (first : Int) : Int := (((srtT (ordsN n)).filter fun s => decide (turnsB s = byB (n - 1) true)).filter fun s => decide (s.getD 0 0 = first)).length
def cntO (n : Nat) (first : Int) : Int := (((ordsN n).filter fun s => decide (turnsB s = byB (n - 1) true)).filter fun s => decide (s.getD 0 0 = first)).length
theorem cntR_eq (n : Nat) (first : Int) : cntR n first = cntO n first := by
  unfold cntR cntO
  rw [(((srtT_perm (ordsN n)).filter _).filter _).length_eq]
theorem rows_orders : ∀ i, i < 7 → (hereN i).reverse = (rg 1 ((i : Int) + 2)).map (cntO (i + 1)) := by decide +kernel
theorem rowsN_get {n k : Nat} (h : k ≤ n) : (rowsN n)[k]? = some (rowLast k) := by
  induction n with
  | zero => obtain rfl : k = 0 := by omega
            rfl
  | succ n ih =>
    rw [rowsN]
    by_cases e : k ≤ n
    · rw [List.getElem?_append_left (by rw [rowsN_len]; omega)]; exact ih e
    · obtain rfl : k = n + 1 := by omega
      rw [List.getElem?_append_right (by rw [rowsN_len]; exact Nat.le_refl _), rowsN_len, Nat.sub_self]; rfl
theorem due_at {k : Nat} (h : k < 60) : atI ((rowsN 59).map dLI) (k : Int) = some (dLI (rowLast k)) := by
  rw [atI_map, atI_nat (rowsN_get (by omega))]; rfl
/-- the n that a cell gives -/
def nsOf (c : Int) : List Int := [1, 60, 1 + drawV c 0 60, 1 + drawV c 1 12]
theorem nsOf_in {c n : Int} (h : n ∈ nsOf c) : 1 ≤ n ∧ n ≤ 60 := by
  have h1 := drawV_nn (c := c) (k := 0) (b := 60) (by decide)
  have h2 := drawV_lt (c := c) (k := 0) (b := 60) (by decide)
  have h3 := drawV_nn (c := c) (k := 1) (b := 12) (by decide)
  have h4 := drawV_lt (c := c) (k := 1) (b := 12) (by decide)
  unfold nsOf at h
  simp at h
  omega
def MLaw : List PyData → Res → Prop := fun ds r => ∃ ns : List Int, ds = [dLI ns] ∧ ns.length ≤ 63 ∧ r = .ok (.bool true)
abbrev M_row_ok (ec : EC) (m : Nat) (L : List Int) : Prop := MRow ec [.int ((m : Int) + 1)] (.ok (dLI L))
structure CalsK11 (P : Program) (w : World) (K : PySem.W.Frag) (mg : Str → Option Value) (base : Heap) (T : List (Addr × Str)) (ec : EC) : Prop where
  rows : Cal P w K mg base T "_law_rows" 1 MLRows
  orders : Cal P w K mg base T "_law_orders" 1 MOrders
  turns : Cal P w K mg base T "_law_turns_of" 1 MTurns
  byt : Cal P w K mg base T "_law_by_turns" 1 MBy
  cell : Cal P w K mg base T "_law_cell_at" 1 MCellAt
  draw : Cal P w K mg base T "_law_draw" 1 MDraw
  row : Cal P w K mg base T "row" 5 (MRow ec)
  bad : Cal P w K mg base T "_law_no_number" 2 MNoNumber
  ref : RefB P w K mg base T ec
theorem ok_law {P : Program} {w : World} {K : PySem.W.Frag} {mg : Str → Option Value} {base : Heap} {T : List (Addr × Str)} {f c Pt : Addr} {fd : FuncData} {ec : EC} (b : Bl mg) (C : CalsK11 P w K mg base T ec) (kn : Knd K ec 1) (F : Fun K "law" "law" s_law f fd) (hc : fd.code = .ref c)
    (tb : LamX.TabB base mg c Pt) (hT : T = [(Pt, (envOfC "law" (defScope s_law) 0 f (.ref c)).qual ++ "<lambda>")]) :
    FnOk P w K mg base (L2.CX P w) 8 f fd ["_law_script"] (spP K T MLaw) := by
  refine okPc F hc sc_law (fun ds r h => by obtain ⟨ns, rfl, _⟩ := h; rfl) fun A outer s H E hr ds r h => ?_
  obtain ⟨ns, rfl, hlen, rfl⟩ := h
  have nd := sc_law.nd
  have LT : LamT (DX P w K mg base N_law "law" s_law f (.ref c) A outer s H E) T c Pt := ⟨tb, rfl, hT⟩
  refine xs_to (Γ' := [.d (dLI ns), .no, .no, .no, .no, .no, .no, .no, .no, .no, .no]) rfl ?_
  refine xs_cons (x1_set 1 (d := .list ((rowsN 59).map dLI)) nd (xe_call C.rows hr (by decide) (by rfl) (xa_cons xe_int xa_nil) ⟨60, rfl, by decide, by decide, rfl⟩) ?_)
  refine xs_cons (x1_for (fun i Γ => Γ = [.d (dLI ns), .d (.list ((rowsN 59).map dLI)), .no, .no, .no, .no, .no, .no, .no, .no, .no]) [2] (passes_of rfl) rfl (xi_range2 (by rfl) b.range xe_int xe_int (by decide)) rfl ?_ ?_)
  · rintro i d Γ hi rfl
    have hlt := (List.getElem?_eq_some_iff.mp hi).1
    rw [List.length_map, rg_length] at hlt
    rw [List.getElem?_map, rg_get hlt] at hi
    cases hi
    have hi7 : i < 7 := by simpa using hlt
    refine ⟨_, xg_name 2 nd, xs_cons (x1_setN 3 nd (xn_lc (own := [("_law_one", 4)]) (ys := srtT (ordsN (i + 1))) (g := dTI) (f := dTI) (t := fun s => decide (turnsB s = byB i true)) rfl nd ?_) ?_)⟩
    · refine ⟨xi_list (xe_call C.orders hr (by decide) (by rfl) (xa_cons (xe_name 2) xa_nil) ⟨i + 1, by rw [show ((i + 1 : Nat) : Int) = 1 + (i : Int) by omega], by omega, by omega, rfl⟩), blkOk_by (N := N_law) (sc := defScope s_law) (by decide +kernel), ?_, ?_⟩
      · intro t ht
        have htl : t.length = i + 1 := ordsN_mem ((srtT_perm _).mem_iff.mp ht)
        refine ⟨_, fun s H C cl fp => xg_name 4 nd, fun s' H' C' cl fp => xts_one ?_, fun _ s' H' C' cl fp => xe_name 4⟩
        rw [← txU_eq]
        refine xt_eqS (xe_call C.turns hr (by decide) (by rfl) (xa_cons (xe_name 4) xa_nil) ⟨t, rfl, by omega, rfl⟩) (xe_call C.byt hr (by decide) (by rfl) (xa_cons (xe_sub (xe_name 2) xe_int) (xa_cons xe_str xa_nil)) ⟨i, true, ?_, by omega, rfl⟩)
        rw [show (1 + (i : Int)) - 1 = (i : Int) by omega]; rfl
      · rw [(srtT_perm _).length_eq, ordsN_len, sizeLine_eq]
        have : facN (i + 1) ≤ facN 7 := facN_le (by omega)
        have f7 : facN 7 = 5040 := by decide
        omega
    refine xs_freeze 3 rfl (xs_cons (x1_if (k := !PyData.eqv (dLI (rowLast i)) (dLI ((rg 1 ((i : Int) + 2)).map (cntR (i + 1))))) (xt_neD (hu64 hr) (XE.toD (xe_ixL (XE.toL (xe_name 1)) (xe_sub (xe_name 2) xe_int) ?_)) (XE.toD (XN.toE (xn_map (own := [("_law_first", 5)]) (ys := rg 1 ((i : Int) + 2)) (g := .int) (f := fun z => .int (cntR (i + 1) z)) rfl nd ?_ (blkOk_by (N := N_law) (sc := defScope s_law) (by decide +kernel)) ?_ ?_ ?_))) (shp_to (shp_li _) (by decide)) (shp_to (shp_li _) (by decide))) (fun hk => ?_) fun hk => ?_))
    · rw [show (1 + (i : Int)) - 1 = (i : Int) by omega]; exact due_at (by omega)
    · exact xi_range2 (by rfl) b.range xe_int (XE.cast (xe_add (xe_name 2) xe_int) (by rw [show 1 + (i : Int) + 1 = (i : Int) + 2 by omega])) (by omega)
    · intro z hz
      refine ⟨_, fun s H C cl fp => xg_name 5 nd, fun s' H' C' cl fp => ?_⟩
      refine xe_len (by rfl) b.len (XN.toL (xn_lc (own := [("_law_one", 4)]) (ys := (srtT (ordsN (i + 1))).filter fun s => decide (turnsB s = byB i true)) (g := dTI) (f := dTI) (t := fun s => decide (s.getD 0 0 = z)) rfl nd ⟨xi_list (xe_name 3), blkOk_by (N := N_law) (by rfl), ?_, ?_⟩)) ?_
      · intro t ht
        have htl : t.length = i + 1 := ordsN_mem ((srtT_perm _).mem_iff.mp (List.mem_filter.mp ht).1)
        refine ⟨_, fun s H C cl fp => xg_name 4 nd, fun s' H' C' cl fp => xts_one (xt_eqI (xe_ixT (xe_name 4) xe_int ?_) (xe_name 5)), fun _ s' H' C' cl fp => xe_name 4⟩
        exact ints_at (k := 0) (by omega)
      · have h1 := List.length_filter_le (fun s => decide (turnsB s = byB i true)) (srtT (ordsN (i + 1)))
        rw [(srtT_perm _).length_eq, ordsN_len] at h1
        have : facN (i + 1) ≤ facN 7 := facN_le (by omega)
        have f7 : facN 7 = 5040 := by decide
        rw [sizeLine_eq]; omega
      · rw [List.length_map]; rfl
    · rw [rg_length, sizeLine_eq]; omega
    · rw [List.map_map]; rfl
    · rw [eqv_li, rowLast_here, rows_orders i hi7, List.map_congr_left (fun z _ => cntR_eq (i + 1) z), decide_eq_true rfl] at hk
      cases hk
    · exact xs_nil (xs_wk 2 (xs_wk 3 (xs_nil rfl)))
  · rintro Γ rfl
    refine xs_cons (x1_for (fun i Γ => Γ = [.d (dLI ns), .d (.list ((rowsN 59).map dLI)), .no, .no, .no, .no, .no, .no, .no, .no, .no]) [6] (passes_of rfl) rfl
      (xi_range1 (by rfl) b.range (xe_max2 rfl (by rfl) b.max xe_int (xe_min2 rfl (by rfl) b.min (xe_len (m := ns.length) (by rfl) b.len (XE.toL (xe_name 0)) (by rw [List.length_map])) xe_int)) (by omega)) rfl ?_ ?_)
    · rintro i d Γ hi rfl
      have hlt := (List.getElem?_eq_some_iff.mp hi).1
      rw [List.length_map, rg_length] at hlt
      rw [List.getElem?_map, rg_get hlt] at hi
      cases hi
      generalize hcell : ns.getD i 0 = cv
      refine ⟨_, xg_name 6 nd, xs_cons (x1_set 7 (d := .int cv) nd (xe_call C.cell hr (by decide) (by rfl) (xa_cons (xe_name 0) (xa_cons (xe_name 6) xa_nil)) ⟨ns, i, by rw [Int.zero_add], by rw [hcell]⟩) ?_)⟩
      refine xs_cons (x1_for (fun j Γ => Γ = [.d (dLI ns), .d (.list ((rowsN 59).map dLI)), .no, .no, .no, .no, .d (.int (0 + (i : Int))), .d (.int cv), .no, .no, .no]) [2] (passes_of rfl) rfl (xs := (nsOf cv).map .int)
        (xi_list (XN.toE (xn_lst (xa_cons xe_int (xa_cons xe_int (xa_cons (xe_add xe_int (xe_call C.draw hr (by decide) (by rfl) (xa_cons (xe_name 7) (xa_cons xe_int (xa_cons xe_int xa_nil))) ⟨_, _, _, rfl, by decide, by decide, cb_small (by decide) (by decide), rfl⟩)) (xa_cons (xe_add xe_int (xe_call C.draw hr (by decide) (by rfl) (xa_cons (xe_name 7) (xa_cons xe_int (xa_cons xe_int xa_nil))) ⟨_, _, _, rfl, by decide, by decide, cb_small (by decide) (by decide), rfl⟩)) xa_nil)))) (by show 4 ≤ sizeLine; decide)))) rfl ?_ ?_)
      · rintro j d Γ hj rfl
        rw [List.getElem?_map] at hj
        cases hn : (nsOf cv)[j]? with
        | none => rw [hn] at hj; cases hj
        | some n =>
          rw [hn] at hj; cases hj
          obtain ⟨hn1, hn2⟩ := nsOf_in (List.mem_of_getElem? hn)
          obtain ⟨m, rfl⟩ : ∃ m : Nat, n = (m : Int) + 1 := ⟨(n - 1).toNat, by omega⟩
          refine ⟨_, xg_name 2 nd, ?_⟩
          refine xs_cons (x1_for (fun k Γ => Γ = [.d (dLI ns), .d (.list ((rowsN 59).map dLI)), .d (.int ((m : Int) + 1)), .no, .no, .no, .d (.int (0 + (i : Int))), .d (.int cv), .no, .no, .no]) [8] (passes_of rfl) rfl (xi_range1 (by rfl) b.range xe_int (by decide)) rfl ?_ ?_)
          · rintro k d Γ _ rfl
            refine ⟨_, xg_name 8 nd, xs_wk 8 (xs_cons (x1_setN 9 (xs := (rowLast m).map .int) nd (XF.toN (xf_call C.row hr (by decide) (by rfl) (xa_cons (xe_name 2) xa_nil) ⟨_, rfl, .inl ⟨(m : Int) + 1, rfl, hn1, hn2, by rw [show ((m : Int) + 1).toNat - 1 = m by omega]; rfl⟩⟩ (by simp [flat])) (lf_ints _)) ?_))⟩
            refine xs_cons (x1_if (k := false) (XW.toT (xw_or (k1 := false) (k2 := false) (xt_not (xt_of (xe_isi (q := true) (by rfl) b.isinstance (XL.toD (xl_own 9)) (xv_blt (by rfl) b.list PyProof.Rows.boot_list rfl) (kit_lst _)))) fun _ => xw_or1 (XT.cast (xt_neD (hu64 hr) (XL.toD (xl_own 9)) (XE.toD (d := dLI (rowLast m)) (xe_ixL (XE.toL (xe_name 1)) (xe_sub (xe_name 2) xe_int) ?_)) (shp_to (shp_li _) (by decide)) (shp_to (shp_li _) (by decide))) ?_))) (fun h => by cases h) fun _ => xs_nil ?_)
            · rw [show (m : Int) + 1 - 1 = (m : Int) by omega]; exact due_at (by omega)
            · rw [show PyData.eqv (.list ((rowLast m).map .int)) (dLI (rowLast m)) = _ from eqv_li _ _, decide_eq_true rfl]; rfl
            refine xs_cons (x1_if (k := false) (xt_frz 9 (XT.cast (xt_inD (xs := (rowLast m).map fun _ => .bool false) (hu65 hr) (XE.toD xe_bl) (XE.toD (XN.toE (xn_map (own := [("_law_one", 4)]) (ys := rowLast m) (g := .int) (f := fun _ => .bool false) rfl nd (xi_list (xe_name 9)) (blkOk_by (N := N_law) (sc := defScope s_law) (by decide +kernel)) ?_ ?_))) (shaped_flat rfl) (shp_to (shp_list (shp_map fun _ => shp_flat rfl)) (by decide))) ?_)) (fun h => by cases h) fun _ => xs_nil ?_)
            · intro z hz
              refine ⟨_, fun s H C cl fp => xg_name 4 nd, fun s' H' C' cl fp => ?_⟩
              exact xe_isi (by rfl) b.isinstance (XE.toD (xe_name 4)) (xv_blt (by rfl) b.bool PyProof.Rows.boot_bool rfl) (kit_bool _)
            · rw [rowLast_len, sizeLine_eq]; omega
            · rw [List.any_map]; simp [PyData.eqv]
            refine xs_cons (x1_append 9 xe_int ?_ (xs_wk 9 (xs_nil rfl)))
            rw [List.length_map, rowLast_len, sizeLine_eq]; omega
          · rintro Γ rfl
            exact xs_wk 2 (xs_nil rfl)
      · rintro Γ rfl
        refine xs_cons (x1_set 10 nd (xe_call C.bad hr (by decide) (by rfl) (xa_cons (xe_name 7) (xa_cons xe_int (xa_cons xe_int (xa_cons xe_int xa_nil)))) ⟨_, _, _, _, rfl, by decide, by decide, by decide, by decide, rfl⟩) ?_)
        refine xs_cons (x1_if (k := false) (xt_neS (y := "number") (xe_ref (k := 5) C.ref LT hr (by decide) (r := .ex (.ref ec.number)) (fun A' outer' s' H' E' f' c' hr' => xr_call C.row hr' (by decide) (by rfl) (xa_cons (xe_name 10) xa_nil) ⟨_, rfl, .inr ⟨badV_not (by decide) (by decide), rfl⟩⟩) ⟨1, rfl, kn, rfl⟩ (by rfl) (by rfl)) xe_str) (fun h => by cases h) fun _ => xs_nil (xs_wk 6 (xs_wk 7 (xs_wk 10 (xs_nil rfl)))))
    · rintro Γ rfl
      have one : ∀ (m : Nat) (L : List Int), m < 60 → rowLast m = L → M_row_ok ec m L := fun m L hm e => ⟨_, rfl, .inl ⟨(m : Int) + 1, rfl, by omega, by omega, by rw [show ((m : Int) + 1).toNat - 1 = m by omega, e]⟩⟩
      refine xs_cons (x1_ret (d := .bool true) (XE.cast (xe_and (k1 := true) (k2 := true) (XE.cast (xe_eqD (hu64 hr) (XE.toD (xe_call C.row hr (by decide) (by rfl) (xa_cons xe_int xa_nil) (one 0 [1] (by decide) rfl))) (XE.toD (XN.toE (xn_lst (xa_cons xe_int xa_nil) (by show 1 ≤ sizeLine; decide)))) (shp_to (shp_li [1]) (by decide)) (shp_to (shp_li [1]) (by decide))) rfl)
        fun _ => xe_one (XE.cast (xe_eqD (hu64 hr) (XE.toD (xe_call C.row hr (by decide) (by rfl) (xa_cons xe_int xa_nil) (one 3 [2, 2, 1, 0] (by decide) (by rw [rowLast_here]; rfl)))) (XE.toD (XN.toE (xn_lst (xa_cons xe_int (xa_cons xe_int (xa_cons xe_int (xa_cons xe_int xa_nil)))) (by show 4 ≤ sizeLine; decide)))) (shp_to (shp_li [2, 2, 1, 0]) (by decide)) (shp_to (shp_li [2, 2, 1, 0]) (by decide))) rfl)) rfl) rfl)
end PL


namespace PL
open PySem PySem.Spec PyProof.Rows L2
theorem all_mk {l : PySem.W.OpenLaw} {q : Program} {w : World} {K : PySem.W.Frag} {h : Heap} {mg : Str → Option Value} {fa : Addr} {f_is_whole : Addr} {od_is_whole an_is_whole : Option Addr} {sl_is_whole : Array (Option Value)} {oc_is_whole kV_is_whole dc_is_whole pm_is_whole cd_is_whole ct_is_whole : Value} {f_is_number : Addr} {od_is_number an_is_number : Option Addr} {sl_is_number : Array (Option Value)} {oc_is_number kV_is_number dc_is_number pm_is_number cd_is_number ct_is_number : Value} {f_need_number : Addr} {od_need_number an_need_number : Option Addr} {sl_need_number : Array (Option Value)} {oc_need_number kV_need_number dc_need_number pm_need_number cd_need_number ct_need_number : Value} {f_need_n_triangle : Addr} {od_need_n_triangle an_need_n_triangle : Option Addr} {sl_need_n_triangle : Array (Option Value)} {oc_need_n_triangle kV_need_n_triangle dc_need_n_triangle pm_need_n_triangle cd_need_n_triangle ct_need_n_triangle : Value} {f_rows_to : Addr} {od_rows_to an_rows_to : Option Addr} {sl_rows_to : Array (Option Value)} {oc_rows_to kV_rows_to dc_rows_to pm_rows_to cd_rows_to ct_rows_to : Value} {f_row : Addr} {od_row an_row : Option Addr} {sl_row : Array (Option Value)} {oc_row kV_row dc_row pm_row cd_row ct_row : Value} {f_l_cell_at : Addr} {od_l_cell_at an_l_cell_at : Option Addr} {sl_l_cell_at : Array (Option Value)} {oc_l_cell_at kV_l_cell_at dc_l_cell_at pm_l_cell_at cd_l_cell_at ct_l_cell_at : Value} {f_l_draw : Addr} {od_l_draw an_l_draw : Option Addr} {sl_l_draw : Array (Option Value)} {oc_l_draw kV_l_draw dc_l_draw pm_l_draw cd_l_draw ct_l_draw : Value} {f_l_turns_of : Addr} {od_l_turns_of an_l_turns_of : Option Addr} {sl_l_turns_of : Array (Option Value)} {oc_l_turns_of kV_l_turns_of dc_l_turns_of pm_l_turns_of cd_l_turns_of ct_l_turns_of : Value} {f_l_by_turns : Addr} {od_l_by_turns an_l_by_turns : Option Addr} {sl_l_by_turns : Array (Option Value)} {oc_l_by_turns kV_l_by_turns dc_l_by_turns pm_l_by_turns cd_l_by_turns ct_l_by_turns : Value} {f_l_orders : Addr} {od_l_orders an_l_orders : Option Addr} {sl_l_orders : Array (Option Value)} {oc_l_orders kV_l_orders dc_l_orders pm_l_orders cd_l_orders ct_l_orders : Value} {f_l_rows : Addr} {od_l_rows an_l_rows : Option Addr} {sl_l_rows : Array (Option Value)} {oc_l_rows kV_l_rows dc_l_rows pm_l_rows cd_l_rows ct_l_rows : Value} {f_l_no_number : Addr} {od_l_no_number an_l_no_number : Option Addr} {sl_l_no_number : Array (Option Value)} {oc_l_no_number kV_l_no_number dc_l_no_number pm_l_no_number cd_l_no_number ct_l_no_number : Value} {f_l_class : Addr} {od_l_class an_l_class : Option Addr} {sl_l_class : Array (Option Value)} {oc_l_class kV_l_class dc_l_class pm_l_class cd_l_class ct_l_class : Value} {f_l_refused : Addr} {od_l_refused an_l_refused : Option Addr} {sl_l_refused : Array (Option Value)} {oc_l_refused kV_l_refused dc_l_refused pm_l_refused cd_l_refused ct_l_refused : Value} {f_law : Addr} {od_law an_law : Option Addr} {sl_law : Array (Option Value)} {oc_law kV_law dc_law pm_law cd_law ct_law : Value} {E_order : Addr} {E_number : Addr} {E_row : Addr} {E_updown : Addr} {E_pattern : Addr} {E_tree : Addr} {E_ring : Addr} {E_text : Addr} {E_deed : Addr} {E_line : Addr} {E_loose : Addr} {E_fraction : Addr} {E_turn : Addr} {t_MOST_ROWS : Tok} {c P : Addr} {dd : DefRec} {occ : Value} {odc : Option Addr} {vsc : Array Value} {slc : Array (Option Value)} (X : K.In h) (G : h.Ns mainGlobals mg) (hfa : mg "law" = some (.ref fa)) (TT : ∃ (loose' : List Str) (mean : ExcName → Option Value) (mb : Str → Option Value), Top q loose' mean mg mb h)
    (a_is_whole : PySem.W.nsIn K mainGlobals "is_whole" = some (some (.ref f_is_whole)))
    (l_is_whole : K.lookup f_is_whole = some ⟨oc_is_whole, od_is_whole, .func (PySem.W.fnOf "is_whole" "is_whole" (defArgs s_is_whole) (defBody s_is_whole) (defScope s_is_whole) .none kV_is_whole dc_is_whole pm_is_whole an_is_whole cd_is_whole ct_is_whole), sl_is_whole⟩)
    (c_is_whole : PySem.W.codeIn K cd_is_whole "is_whole" = true)
    (k_is_whole : PySem.W.keepIn K (.ref f_is_whole) = true)
    (a_is_number : PySem.W.nsIn K mainGlobals "is_number" = some (some (.ref f_is_number)))
    (l_is_number : K.lookup f_is_number = some ⟨oc_is_number, od_is_number, .func (PySem.W.fnOf "is_number" "is_number" (defArgs s_is_number) (defBody s_is_number) (defScope s_is_number) .none kV_is_number dc_is_number pm_is_number an_is_number cd_is_number ct_is_number), sl_is_number⟩)
    (c_is_number : PySem.W.codeIn K cd_is_number "is_number" = true)
    (k_is_number : PySem.W.keepIn K (.ref f_is_number) = true)
    (a_need_number : PySem.W.nsIn K mainGlobals "need_number" = some (some (.ref f_need_number)))
    (l_need_number : K.lookup f_need_number = some ⟨oc_need_number, od_need_number, .func (PySem.W.fnOf "need_number" "need_number" (defArgs s_need_number) (defBody s_need_number) (defScope s_need_number) .none kV_need_number dc_need_number pm_need_number an_need_number cd_need_number ct_need_number), sl_need_number⟩)
    (c_need_number : PySem.W.codeIn K cd_need_number "need_number" = true)
    (k_need_number : PySem.W.keepIn K (.ref f_need_number) = true)
    (a_need_n_triangle : PySem.W.nsIn K mainGlobals "need_n" = some (some (.ref f_need_n_triangle)))
    (l_need_n_triangle : K.lookup f_need_n_triangle = some ⟨oc_need_n_triangle, od_need_n_triangle, .func (PySem.W.fnOf "need_n" "need_n" (defArgs s_need_n_triangle) (defBody s_need_n_triangle) (defScope s_need_n_triangle) .none kV_need_n_triangle dc_need_n_triangle pm_need_n_triangle an_need_n_triangle cd_need_n_triangle ct_need_n_triangle), sl_need_n_triangle⟩)
    (c_need_n_triangle : PySem.W.codeIn K cd_need_n_triangle "need_n" = true)
    (k_need_n_triangle : PySem.W.keepIn K (.ref f_need_n_triangle) = true)
    (a_rows_to : PySem.W.nsIn K mainGlobals "rows_to" = some (some (.ref f_rows_to)))
    (l_rows_to : K.lookup f_rows_to = some ⟨oc_rows_to, od_rows_to, .func (PySem.W.fnOf "rows_to" "rows_to" (defArgs s_rows_to) (defBody s_rows_to) (defScope s_rows_to) .none kV_rows_to dc_rows_to pm_rows_to an_rows_to cd_rows_to ct_rows_to), sl_rows_to⟩)
    (c_rows_to : PySem.W.codeIn K cd_rows_to "rows_to" = true)
    (k_rows_to : PySem.W.keepIn K (.ref f_rows_to) = true)
    (a_row : PySem.W.nsIn K mainGlobals "row" = some (some (.ref f_row)))
    (l_row : K.lookup f_row = some ⟨oc_row, od_row, .func (PySem.W.fnOf "row" "row" (defArgs s_row) (defBody s_row) (defScope s_row) .none kV_row dc_row pm_row an_row cd_row ct_row), sl_row⟩)
    (c_row : PySem.W.codeIn K cd_row "row" = true)
    (k_row : PySem.W.keepIn K (.ref f_row) = true)
    (a_l_cell_at : PySem.W.nsIn K mainGlobals "_law_cell_at" = some (some (.ref f_l_cell_at)))
    (l_l_cell_at : K.lookup f_l_cell_at = some ⟨oc_l_cell_at, od_l_cell_at, .func (PySem.W.fnOf "_law_cell_at" "_law_cell_at" (defArgs s_l_cell_at) (defBody s_l_cell_at) (defScope s_l_cell_at) .none kV_l_cell_at dc_l_cell_at pm_l_cell_at an_l_cell_at cd_l_cell_at ct_l_cell_at), sl_l_cell_at⟩)
    (c_l_cell_at : PySem.W.codeIn K cd_l_cell_at "_law_cell_at" = true)
    (k_l_cell_at : PySem.W.keepIn K (.ref f_l_cell_at) = true)
    (a_l_draw : PySem.W.nsIn K mainGlobals "_law_draw" = some (some (.ref f_l_draw)))
    (l_l_draw : K.lookup f_l_draw = some ⟨oc_l_draw, od_l_draw, .func (PySem.W.fnOf "_law_draw" "_law_draw" (defArgs s_l_draw) (defBody s_l_draw) (defScope s_l_draw) .none kV_l_draw dc_l_draw pm_l_draw an_l_draw cd_l_draw ct_l_draw), sl_l_draw⟩)
    (c_l_draw : PySem.W.codeIn K cd_l_draw "_law_draw" = true)
    (k_l_draw : PySem.W.keepIn K (.ref f_l_draw) = true)
    (a_l_turns_of : PySem.W.nsIn K mainGlobals "_law_turns_of" = some (some (.ref f_l_turns_of)))
    (l_l_turns_of : K.lookup f_l_turns_of = some ⟨oc_l_turns_of, od_l_turns_of, .func (PySem.W.fnOf "_law_turns_of" "_law_turns_of" (defArgs s_l_turns_of) (defBody s_l_turns_of) (defScope s_l_turns_of) .none kV_l_turns_of dc_l_turns_of pm_l_turns_of an_l_turns_of cd_l_turns_of ct_l_turns_of), sl_l_turns_of⟩)
    (c_l_turns_of : PySem.W.codeIn K cd_l_turns_of "_law_turns_of" = true)
    (k_l_turns_of : PySem.W.keepIn K (.ref f_l_turns_of) = true)
    (a_l_by_turns : PySem.W.nsIn K mainGlobals "_law_by_turns" = some (some (.ref f_l_by_turns)))
    (l_l_by_turns : K.lookup f_l_by_turns = some ⟨oc_l_by_turns, od_l_by_turns, .func (PySem.W.fnOf "_law_by_turns" "_law_by_turns" (defArgs s_l_by_turns) (defBody s_l_by_turns) (defScope s_l_by_turns) .none kV_l_by_turns dc_l_by_turns pm_l_by_turns an_l_by_turns cd_l_by_turns ct_l_by_turns), sl_l_by_turns⟩)
    (c_l_by_turns : PySem.W.codeIn K cd_l_by_turns "_law_by_turns" = true)
    (k_l_by_turns : PySem.W.keepIn K (.ref f_l_by_turns) = true)
    (a_l_orders : PySem.W.nsIn K mainGlobals "_law_orders" = some (some (.ref f_l_orders)))
    (l_l_orders : K.lookup f_l_orders = some ⟨oc_l_orders, od_l_orders, .func (PySem.W.fnOf "_law_orders" "_law_orders" (defArgs s_l_orders) (defBody s_l_orders) (defScope s_l_orders) .none kV_l_orders dc_l_orders pm_l_orders an_l_orders cd_l_orders ct_l_orders), sl_l_orders⟩)
    (c_l_orders : PySem.W.codeIn K cd_l_orders "_law_orders" = true)
    (k_l_orders : PySem.W.keepIn K (.ref f_l_orders) = true)
    (a_l_rows : PySem.W.nsIn K mainGlobals "_law_rows" = some (some (.ref f_l_rows)))
    (l_l_rows : K.lookup f_l_rows = some ⟨oc_l_rows, od_l_rows, .func (PySem.W.fnOf "_law_rows" "_law_rows" (defArgs s_l_rows) (defBody s_l_rows) (defScope s_l_rows) .none kV_l_rows dc_l_rows pm_l_rows an_l_rows cd_l_rows ct_l_rows), sl_l_rows⟩)
    (c_l_rows : PySem.W.codeIn K cd_l_rows "_law_rows" = true)
    (k_l_rows : PySem.W.keepIn K (.ref f_l_rows) = true)
    (a_l_no_number : PySem.W.nsIn K mainGlobals "_law_no_number" = some (some (.ref f_l_no_number)))
    (l_l_no_number : K.lookup f_l_no_number = some ⟨oc_l_no_number, od_l_no_number, .func (PySem.W.fnOf "_law_no_number" "_law_no_number" (defArgs s_l_no_number) (defBody s_l_no_number) (defScope s_l_no_number) .none kV_l_no_number dc_l_no_number pm_l_no_number an_l_no_number cd_l_no_number ct_l_no_number), sl_l_no_number⟩)
    (c_l_no_number : PySem.W.codeIn K cd_l_no_number "_law_no_number" = true)
    (k_l_no_number : PySem.W.keepIn K (.ref f_l_no_number) = true)
    (a_l_class : PySem.W.nsIn K mainGlobals "_law_class" = some (some (.ref f_l_class)))
    (l_l_class : K.lookup f_l_class = some ⟨oc_l_class, od_l_class, .func (PySem.W.fnOf "_law_class" "_law_class" (defArgs s_l_class) (defBody s_l_class) (defScope s_l_class) .none kV_l_class dc_l_class pm_l_class an_l_class cd_l_class ct_l_class), sl_l_class⟩)
    (c_l_class : PySem.W.codeIn K cd_l_class "_law_class" = true)
    (k_l_class : PySem.W.keepIn K (.ref f_l_class) = true)
    (a_l_refused : PySem.W.nsIn K mainGlobals "_law_refused" = some (some (.ref f_l_refused)))
    (l_l_refused : K.lookup f_l_refused = some ⟨oc_l_refused, od_l_refused, .func (PySem.W.fnOf "_law_refused" "_law_refused" (defArgs s_l_refused) (defBody s_l_refused) (defScope s_l_refused) .none kV_l_refused dc_l_refused pm_l_refused an_l_refused cd_l_refused ct_l_refused), sl_l_refused⟩)
    (c_l_refused : PySem.W.codeIn K cd_l_refused "_law_refused" = true)
    (k_l_refused : PySem.W.keepIn K (.ref f_l_refused) = true)
    (a_law : PySem.W.nsIn K mainGlobals "law" = some (some (.ref f_law)))
    (l_law : K.lookup f_law = some ⟨oc_law, od_law, .func (PySem.W.fnOf "law" "law" (defArgs s_law) (defBody s_law) (defScope s_law) .none kV_law dc_law pm_law an_law cd_law ct_law), sl_law⟩)
    (c_law : PySem.W.codeIn K cd_law "law" = true)
    (k_law : PySem.W.keepIn K (.ref f_law) = true)
    (e_order : PySem.W.nsIn K mainGlobals "NoOrder" = some (some (.ref E_order)))
    (e_number : PySem.W.nsIn K mainGlobals "NoNumber" = some (some (.ref E_number)))
    (e_row : PySem.W.nsIn K mainGlobals "NoRow" = some (some (.ref E_row)))
    (e_updown : PySem.W.nsIn K mainGlobals "NotUpDown" = some (some (.ref E_updown)))
    (e_pattern : PySem.W.nsIn K mainGlobals "NoPattern" = some (some (.ref E_pattern)))
    (e_tree : PySem.W.nsIn K mainGlobals "NoTree" = some (some (.ref E_tree)))
    (e_ring : PySem.W.nsIn K mainGlobals "NoRing" = some (some (.ref E_ring)))
    (e_text : PySem.W.nsIn K mainGlobals "NoText" = some (some (.ref E_text)))
    (e_deed : PySem.W.nsIn K mainGlobals "NoDeed" = some (some (.ref E_deed)))
    (e_line : PySem.W.nsIn K mainGlobals "NoLine" = some (some (.ref E_line)))
    (e_loose : PySem.W.nsIn K mainGlobals "NoLoose" = some (some (.ref E_loose)))
    (e_fraction : PySem.W.nsIn K mainGlobals "NoFraction" = some (some (.ref E_fraction)))
    (e_turn : PySem.W.nsIn K mainGlobals "TurnError" = some (some (.ref E_turn)))
    (e_ve : PySem.W.nsIn K mainGlobals "ValueError" = some none)
    (z_len : PySem.W.nsIn K mainGlobals "len" = some none)
    (z_sum : PySem.W.nsIn K mainGlobals "sum" = some none)
    (z_range : PySem.W.nsIn K mainGlobals "range" = some none)
    (z_list : PySem.W.nsIn K mainGlobals "list" = some none)
    (z_tuple : PySem.W.nsIn K mainGlobals "tuple" = some none)
    (z_dict : PySem.W.nsIn K mainGlobals "dict" = some none)
    (z_set : PySem.W.nsIn K mainGlobals "set" = some none)
    (z_int : PySem.W.nsIn K mainGlobals "int" = some none)
    (z_str : PySem.W.nsIn K mainGlobals "str" = some none)
    (z_bool : PySem.W.nsIn K mainGlobals "bool" = some none)
    (z_sorted : PySem.W.nsIn K mainGlobals "sorted" = some none)
    (z_isinstance : PySem.W.nsIn K mainGlobals "isinstance" = some none)
    (z_enumerate : PySem.W.nsIn K mainGlobals "enumerate" = some none)
    (z_zip : PySem.W.nsIn K mainGlobals "zip" = some none)
    (z_max : PySem.W.nsIn K mainGlobals "max" = some none)
    (z_min : PySem.W.nsIn K mainGlobals "min" = some none)
    (z_all : PySem.W.nsIn K mainGlobals "all" = some none)
    (z_any : PySem.W.nsIn K mainGlobals "any" = some none)
    (z_abs : PySem.W.nsIn K mainGlobals "abs" = some none)
    (g_MOST_ROWS : PySem.W.nsIn K mainGlobals "MOST_ROWS" = some (some (.int 60 t_MOST_ROWS)))
    (r1_number : PySem.W.excIn K E_number [.type "ValueError", .type "Exception", .type "BaseException", .type "object"] "ValueError.__new__" = true)
    (r2_number : PySem.W.keepIn K (.ref E_number) = true)
    (r3_number : PySem.W.subIn K (.ref E_number) (.type "BaseException") = some true)
    (r4_number : PySem.W.typeIn K (.ref E_number) = some (.type "type"))
    (n1_number : PySem.W.findIn K (.ref E_number) "__getattribute__" = some (some (.builtin "BaseException.__getattribute__")))
    (n2_number : PySem.W.findIn K (.ref E_number) "__getattr__" = some none)
    (n4_number : PySem.W.hasDictIn K E_number = true)
    (n5_number : PySem.W.findIn K (.ref E_number) "__class__" = some (some (.builtin "object.__class__")))
    (n8_number : PySem.W.mroIn K E_number (.type "object") = some true)
    (n9_number : PySem.W.kitOne K (.ref E_number) (.ref E_turn) = some true)
    (n10_number : PySem.W.kitOne K (.ref E_number) (.type "ValueError") = some true)
    (n11_number : PySem.W.exmOne K (.ref E_number) (.ref E_turn) = some true)
    (n12_number : (List.range 12).map (fun j => PySem.W.kitOne K (.ref E_number) (.ref ((⟨E_order, E_number, E_row, E_updown, E_pattern, E_tree, E_ring, E_text, E_deed, E_line, E_loose, E_fraction, E_turn⟩ : EC).at j))) = (List.range 12).map fun j => some (decide (1 = j)))
    (n6 : PySem.W.specialIn K (.builtin "object.__class__") "__get__" = some (some (.builtin "getset_descriptor.__get__")))
    (n7 : PySem.W.takesIn K (.builtin "object.__class__") = some true)
    (nl : (K.all fun p => !(p.2.cls == Value.type "list")) = true)
    (hcd : cd_law = .ref c)
    (hlc : K.lookup c = some ⟨occ, odc, .fields vsc, slc⟩)
    (hv : vsc[11]? = some (.ref P))
    (hrec : (recsOf q).find? (fun e => e.name == ("law" : Str)) = some dd)
    (nT : (K.lookup P).isNone = true) :
    LamX.LawAtS l w K (L2.CX l.prog w) 8 63 "_law_script" mg fa h := by
  obtain ⟨_, _, _, T0⟩ := TT
  have e := hfa.symm.trans (PySem.W.mg_of X G a_law)
  cases e
  obtain ⟨ec, hec⟩ : ∃ ec : EC, ec = ⟨E_order, E_number, E_row, E_updown, E_pattern, E_tree, E_ring, E_text, E_deed, E_line, E_loose, E_fraction, E_turn⟩ := ⟨_, rfl⟩
  have cn : ClsN mg ec := ⟨fun i hi => by
    rcases lt12 hi with rfl | rfl | rfl | rfl | rfl | rfl | rfl | rfl | rfl | rfl | rfl | rfl
    · rw [hec]; exact PySem.W.mg_of X G e_order
    · rw [hec]; exact PySem.W.mg_of X G e_number
    · rw [hec]; exact PySem.W.mg_of X G e_row
    · rw [hec]; exact PySem.W.mg_of X G e_updown
    · rw [hec]; exact PySem.W.mg_of X G e_pattern
    · rw [hec]; exact PySem.W.mg_of X G e_tree
    · rw [hec]; exact PySem.W.mg_of X G e_ring
    · rw [hec]; exact PySem.W.mg_of X G e_text
    · rw [hec]; exact PySem.W.mg_of X G e_deed
    · rw [hec]; exact PySem.W.mg_of X G e_line
    · rw [hec]; exact PySem.W.mg_of X G e_loose
    · rw [hec]; exact PySem.W.mg_of X G e_fraction
    , by rw [hec]; exact PySem.W.mg_of X G e_turn, PySem.W.mg_none_of X G e_ve⟩
  have b : Bl mg := ⟨PySem.W.mg_none_of X G z_len, PySem.W.mg_none_of X G z_sum, PySem.W.mg_none_of X G z_range, PySem.W.mg_none_of X G z_list, PySem.W.mg_none_of X G z_tuple, PySem.W.mg_none_of X G z_dict, PySem.W.mg_none_of X G z_set, PySem.W.mg_none_of X G z_int, PySem.W.mg_none_of X G z_str, PySem.W.mg_none_of X G z_bool, PySem.W.mg_none_of X G z_sorted, PySem.W.mg_none_of X G z_isinstance, PySem.W.mg_none_of X G z_enumerate, PySem.W.mg_none_of X G z_zip, PySem.W.mg_none_of X G z_max, PySem.W.mg_none_of X G z_min, PySem.W.mg_none_of X G z_all, PySem.W.mg_none_of X G z_any, PySem.W.mg_none_of X G z_abs, PySem.W.mg_none_of X G e_ve⟩
  have g_MOST_ROWS := (⟨_, PySem.W.mg_of X G g_MOST_ROWS⟩ : ∃ t, mg "MOST_ROWS" = some (.int 60 t))
  have R_number : RaiseC K mg "NoNumber" ec.number := by rw [hec]; exact ⟨PySem.W.mg_of X G e_number, r1_number, r2_number, r3_number, r4_number⟩
  have K_number : Knd K ec 1 := by rw [hec]; exact knd_of (by decide) (excC n1_number n2_number r3_number n4_number n5_number n6 n7 n8_number) n9_number n10_number n11_number n12_number
  have D_is_whole := defK X G a_is_whole l_is_whole c_is_whole k_is_whole
  have B_is_whole : Binds K _ ["thing"] [] := D_is_whole.fn.binds fun _ _ _ _ _ _ us hl => match us, hl with | [_], _ => rfl
  have D_is_number := defK X G a_is_number l_is_number c_is_number k_is_number
  have B_is_number : Binds K _ ["thing", "least", "most"] [] := D_is_number.fn.binds fun _ _ _ _ _ _ us hl => match us, hl with | [_, _, _], _ => rfl
  have D_need_number := defK X G a_need_number l_need_number c_need_number k_need_number
  have B_need_number : Binds K _ ["thing", "least", "most"] [] := D_need_number.fn.binds fun _ _ _ _ _ _ us hl => match us, hl with | [_, _, _], _ => rfl
  have D_need_n_triangle := defK X G a_need_n_triangle l_need_n_triangle c_need_n_triangle k_need_n_triangle
  have B_need_n_triangle : Binds K _ ["n"] [] := D_need_n_triangle.fn.binds fun _ _ _ _ _ _ us hl => match us, hl with | [_], _ => rfl
  have D_rows_to := defK X G a_rows_to l_rows_to c_rows_to k_rows_to
  have B_rows_to : Binds K _ ["n"] [] := D_rows_to.fn.binds fun _ _ _ _ _ _ us hl => match us, hl with | [_], _ => rfl
  have D_row := defK X G a_row l_row c_row k_row
  have B_row : Binds K _ ["n"] [] := D_row.fn.binds fun _ _ _ _ _ _ us hl => match us, hl with | [_], _ => rfl
  have D_l_cell_at := defK X G a_l_cell_at l_l_cell_at c_l_cell_at k_l_cell_at
  have B_l_cell_at : Binds K _ ["_law_script", "_law_k"] [] := D_l_cell_at.fn.binds fun _ _ _ _ _ _ us hl => match us, hl with | [_, _], _ => rfl
  have D_l_draw := defK X G a_l_draw l_l_draw c_l_draw k_l_draw
  have B_l_draw : Binds K _ ["_law_cell", "_law_k", "_law_bound"] [] := D_l_draw.fn.binds fun _ _ _ _ _ _ us hl => match us, hl with | [_, _, _], _ => rfl
  have D_l_turns_of := defK X G a_l_turns_of l_l_turns_of c_l_turns_of k_l_turns_of
  have B_l_turns_of : Binds K _ ["_law_some"] [] := D_l_turns_of.fn.binds fun _ _ _ _ _ _ us hl => match us, hl with | [_], _ => rfl
  have D_l_by_turns := defK X G a_l_by_turns l_l_by_turns c_l_by_turns k_l_by_turns
  have B_l_by_turns : Binds K _ ["_law_size", "_law_first"] [] := D_l_by_turns.fn.binds fun _ _ _ _ _ _ us hl => match us, hl with | [_, _], _ => rfl
  have D_l_orders := defK X G a_l_orders l_l_orders c_l_orders k_l_orders
  have B_l_orders : Binds K _ ["_law_size"] [] := D_l_orders.fn.binds fun _ _ _ _ _ _ us hl => match us, hl with | [_], _ => rfl
  have D_l_rows := defK X G a_l_rows l_l_rows c_l_rows k_l_rows
  have B_l_rows : Binds K _ ["_law_most"] [] := D_l_rows.fn.binds fun _ _ _ _ _ _ us hl => match us, hl with | [_], _ => rfl
  have D_l_no_number := defK X G a_l_no_number l_l_no_number c_l_no_number k_l_no_number
  have B_l_no_number : Binds K _ ["_law_cell", "_law_at", "_law_least", "_law_most"] [] := D_l_no_number.fn.binds fun _ _ _ _ _ _ us hl => match us, hl with | [_, _, _, _], _ => rfl
  have D_l_class := defK X G a_l_class l_l_class c_l_class k_l_class
  have B_l_class : Binds K _ ["_law_error"] [] := D_l_class.fn.binds fun _ _ _ _ _ _ us hl => match us, hl with | [_], _ => rfl
  have D_l_refused := defK X G a_l_refused l_l_refused c_l_refused k_l_refused
  have B_l_refused : Binds K _ ["_law_call"] [] := D_l_refused.fn.binds fun _ _ _ _ _ _ us hl => match us, hl with | [_], _ => rfl
  have D_law := defK X G a_law l_law c_law k_law
  have B_law : Binds K _ ["_law_script"] [] := D_law.fn.binds fun _ _ _ _ _ _ us hl => match us, hl with | [_], _ => rfl
  have ht : PySem.W.tabIn K "law" = some (c, P) := tabIn_of a_law l_law hcd hlc hv
  have hcode : (PySem.W.fnOf "law" "law" (defArgs s_law) (defBody s_law) (defScope s_law) .none kV_law dc_law pm_law an_law cd_law ct_law).code = .ref c := PySem.W.law_code X G ht hfa (X _ _ l_law) rfl
  obtain ⟨hC, hP⟩ := PySem.W.tab_of T0 X hrec ht
  have nT' : K.lookup P = none := by cases z : K.lookup P <;> first | rfl | (rw [z] at nT; cases nT)
  refine ⟨PySem.W.fnOf "law" "law" (defArgs s_law) (defBody s_law) (defScope s_law) .none kV_law dc_law pm_law an_law cd_law ct_law, [(c, P)], spP K [(P, (envOfC "law" (defScope s_law) 0 fa (.ref c)).qual ++ "<lambda>")] MLaw, fun p hp => by rw [List.mem_singleton.mp hp]; exact hP, fun p hp => by rw [List.mem_singleton.mp hp]; exact nT', fun p hp => by rw [List.mem_singleton.mp hp]; exact hC, fun s v => .of_eq rfl,
    fun H a ns hl _ hT hS => law_sp (fun p hp => by rw [List.mem_singleton.mp hp]; exact LamX.TabS.nil (hT (c, P) (List.mem_singleton_self _))) (nl_of nl hS) ⟨ns, rfl, hl, rfl⟩, fun base KB GB TB => ?_⟩
  generalize hT : [(P, (envOfC "law" (defScope s_law) 0 fa (.ref c)).qual ++ "<lambda>")] = T
  have C_is_whole : Cal l.prog w K mg base T "is_whole" 1 MIsWhole := Cal.mk' (ok_is_whole b D_is_whole.fn) D_is_whole.m D_is_whole.k B_is_whole
  have C_is_number : Cal l.prog w K mg base T "is_number" 2 MIsNumber := Cal.mk' (ok_is_number b C_is_whole D_is_number.fn) D_is_number.m D_is_number.k B_is_number
  have C_need_number : Cal l.prog w K mg base T "need_number" 3 (MNeedNumber ec) := Cal.mk' (ok_need_number b R_number C_is_number D_need_number.fn) D_need_number.m D_need_number.k B_need_number
  have C_need_n_triangle : Cal l.prog w K mg base T "need_n" 4 (MNeedNT ec) := Cal.mk' (ok_need_n_triangle g_MOST_ROWS C_need_number D_need_n_triangle.fn) D_need_n_triangle.m D_need_n_triangle.k B_need_n_triangle
  have C_rows_to : Cal l.prog w K mg base T "rows_to" 1 MRowsTo := Cal.mk' (ok_rows_to b D_rows_to.fn) D_rows_to.m D_rows_to.k B_rows_to
  have C_row : Cal l.prog w K mg base T "row" 5 (MRow ec) := Cal.mk' (ok_row C_need_n_triangle C_rows_to D_row.fn) D_row.m D_row.k B_row
  have C_l_cell_at : Cal l.prog w K mg base T "_law_cell_at" 1 MCellAt := Cal.mk' (ok_l_cell_at b D_l_cell_at.fn) D_l_cell_at.m D_l_cell_at.k B_l_cell_at
  have C_l_draw : Cal l.prog w K mg base T "_law_draw" 1 MDraw := Cal.mk' (ok_l_draw b D_l_draw.fn) D_l_draw.m D_l_draw.k B_l_draw
  have C_l_turns_of : Cal l.prog w K mg base T "_law_turns_of" 1 MTurns := Cal.mk' (ok_l_turns_of b D_l_turns_of.fn) D_l_turns_of.m D_l_turns_of.k B_l_turns_of
  have C_l_by_turns : Cal l.prog w K mg base T "_law_by_turns" 1 MBy := Cal.mk' (ok_l_by_turns b D_l_by_turns.fn) D_l_by_turns.m D_l_by_turns.k B_l_by_turns
  have C_l_orders : Cal l.prog w K mg base T "_law_orders" 1 MOrders := Cal.mk' (ok_l_orders b D_l_orders.fn) D_l_orders.m D_l_orders.k B_l_orders
  have C_l_rows : Cal l.prog w K mg base T "_law_rows" 1 MLRows := Cal.mk' (ok_l_rows b D_l_rows.fn) D_l_rows.m D_l_rows.k B_l_rows
  have C_l_no_number : Cal l.prog w K mg base T "_law_no_number" 2 MNoNumber := Cal.mk' (ok_l_no_number b C_l_draw D_l_no_number.fn) D_l_no_number.m D_l_no_number.k B_l_no_number
  have RB : RefB l.prog w K mg base T ec := ⟨⟨_, _, _, _, D_l_refused.fn, B_l_refused, D_l_refused.m, D_l_refused.k, D_l_class.m, D_l_class.k, B_l_class, ok_l_class b cn D_l_class.fn⟩, cn.t⟩
  exact ok_law b ⟨C_l_rows, C_l_orders, C_l_turns_of, C_l_by_turns, C_l_cell_at, C_l_draw, C_row, C_l_no_number, RB⟩ K_number D_law.fn hcode (TB (c, P) (List.mem_singleton_self _)) hT.symm
end PL
open PySem PySem.W PyProof.Rows
set_option maxRecDepth 100000 in
set_option maxHeartbeats 0 in
theorem PySem.Challenge.cw_upanddowns_k11_rows_of_the_triangle_holds : PySem.Challenge.rw_upanddowns_k11_rows_of_the_triangle.Holds := by
  w_on; o_law; k_head; (case hw => w_witness2)
  k_fill
  refine PL.walk_PL (l := PySem.Challenge.rw_upanddowns_k11_rows_of_the_triangle) (n := 63) (k := 8) (x := "_law_script") rfl (by decide) rfl ⟨rfl, by decide, by decide⟩ (fun w h Y => by first | exact PySem.W.kIn_of Y | exact Y.1) ?F
  case F =>
    intro w mg fa h KX G hmg TT
    refine' PL.all_mk KX G hmg TT ?a_is_whole ?l_is_whole ?c_is_whole ?k_is_whole ?a_is_number ?l_is_number ?c_is_number ?k_is_number ?a_need_number ?l_need_number ?c_need_number ?k_need_number ?a_need_n_triangle ?l_need_n_triangle ?c_need_n_triangle ?k_need_n_triangle ?a_rows_to ?l_rows_to ?c_rows_to ?k_rows_to ?a_row ?l_row ?c_row ?k_row ?a_l_cell_at ?l_l_cell_at ?c_l_cell_at ?k_l_cell_at ?a_l_draw ?l_l_draw ?c_l_draw ?k_l_draw ?a_l_turns_of ?l_l_turns_of ?c_l_turns_of ?k_l_turns_of ?a_l_by_turns ?l_l_by_turns ?c_l_by_turns ?k_l_by_turns ?a_l_orders ?l_l_orders ?c_l_orders ?k_l_orders ?a_l_rows ?l_l_rows ?c_l_rows ?k_l_rows ?a_l_no_number ?l_l_no_number ?c_l_no_number ?k_l_no_number ?a_l_class ?l_l_class ?c_l_class ?k_l_class ?a_l_refused ?l_l_refused ?c_l_refused ?k_l_refused ?a_law ?l_law ?c_law ?k_law ?e_order ?e_number ?e_row ?e_updown ?e_pattern ?e_tree ?e_ring ?e_text ?e_deed ?e_line ?e_loose ?e_fraction ?e_turn ?e_ve ?z_len ?z_sum ?z_range ?z_list ?z_tuple ?z_dict ?z_set ?z_int ?z_str ?z_bool ?z_sorted ?z_isinstance ?z_enumerate ?z_zip ?z_max ?z_min ?z_all ?z_any ?z_abs ?g_MOST_ROWS ?r1_number ?r2_number ?r3_number ?r4_number ?n1_number ?n2_number ?n4_number ?n5_number ?n8_number ?n9_number ?n10_number ?n11_number ?n12_number ?n6 ?n7 ?nl ?hcd ?hlc ?hv ?hrec ?nT
    (case a_is_whole => k_is)
    (case l_is_whole => k_is)
    (case c_is_whole => k_is)
    (case k_is_whole => k_is)
    (case a_is_number => k_is)
    (case l_is_number => k_is)
    (case c_is_number => k_is)
    (case k_is_number => k_is)
    (case a_need_number => k_is)
    (case l_need_number => k_is)
    (case c_need_number => k_is)
    (case k_need_number => k_is)
    (case a_need_n_triangle => k_is)
    (case l_need_n_triangle => k_is)
    (case c_need_n_triangle => k_is)
    (case k_need_n_triangle => k_is)
    (case a_rows_to => k_is)
    (case l_rows_to => k_is)
    (case c_rows_to => k_is)
    (case k_rows_to => k_is)
    (case a_row => k_is)
    (case l_row => k_is)
    (case c_row => k_is)
    (case k_row => k_is)
    (case a_l_cell_at => k_is)
    (case l_l_cell_at => k_is)
    (case c_l_cell_at => k_is)
    (case k_l_cell_at => k_is)
    (case a_l_draw => k_is)
    (case l_l_draw => k_is)
    (case c_l_draw => k_is)
    (case k_l_draw => k_is)
    (case a_l_turns_of => k_is)
    (case l_l_turns_of => k_is)
    (case c_l_turns_of => k_is)
    (case k_l_turns_of => k_is)
    (case a_l_by_turns => k_is)
    (case l_l_by_turns => k_is)
    (case c_l_by_turns => k_is)
    (case k_l_by_turns => k_is)
    (case a_l_orders => k_is)
    (case l_l_orders => k_is)
    (case c_l_orders => k_is)
    (case k_l_orders => k_is)
    (case a_l_rows => k_is)
    (case l_l_rows => k_is)
    (case c_l_rows => k_is)
    (case k_l_rows => k_is)
    (case a_l_no_number => k_is)
    (case l_l_no_number => k_is)
    (case c_l_no_number => k_is)
    (case k_l_no_number => k_is)
    (case a_l_class => k_is)
    (case l_l_class => k_is)
    (case c_l_class => k_is)
    (case k_l_class => k_is)
    (case a_l_refused => k_is)
    (case l_l_refused => k_is)
    (case c_l_refused => k_is)
    (case k_l_refused => k_is)
    (case a_law => k_is)
    (case l_law => k_is)
    (case c_law => k_is)
    (case k_law => k_is)
    (case e_order => k_is)
    (case e_number => k_is)
    (case e_row => k_is)
    (case e_updown => k_is)
    (case e_pattern => k_is)
    (case e_tree => k_is)
    (case e_ring => k_is)
    (case e_text => k_is)
    (case e_deed => k_is)
    (case e_line => k_is)
    (case e_loose => k_is)
    (case e_fraction => k_is)
    (case e_turn => k_is)
    (case e_ve => k_is)
    (case z_len => k_is)
    (case z_sum => k_is)
    (case z_range => k_is)
    (case z_list => k_is)
    (case z_tuple => k_is)
    (case z_dict => k_is)
    (case z_set => k_is)
    (case z_int => k_is)
    (case z_str => k_is)
    (case z_bool => k_is)
    (case z_sorted => k_is)
    (case z_isinstance => k_is)
    (case z_enumerate => k_is)
    (case z_zip => k_is)
    (case z_max => k_is)
    (case z_min => k_is)
    (case z_all => k_is)
    (case z_any => k_is)
    (case z_abs => k_is)
    (case g_MOST_ROWS => k_is)
    (case r1_number => kernel_rfl)
    (case r2_number => k_is)
    (case r3_number => k_is)
    (case r4_number => k_is)
    (case n1_number => k_is)
    (case n2_number => k_is)
    (case n4_number => k_is)
    (case n5_number => k_is)
    (case n8_number => k_is)
    (case n9_number => kernel_rfl)
    (case n10_number => kernel_rfl)
    (case n11_number => kernel_rfl)
    (case n12_number => kernel_rfl)
    (case n6 => k_is)
    (case n7 => k_is)
    (case nl => kernel_rfl)
    (case hcd => rfl)
    (case hlc => k_is)
    (case hv => rfl)
    (case hrec => rfl)
    (case nT => kernel_rfl)
