import PyProof.Rows.All
import Wide.All
import OpenK.AllK
import Wide.FinOn
import HandS.ForMost
import HandS.Flow
import HandS.TupAny
import HandS.IsInst
import HandS.Deep
import HandS.Strs
import HandS.Lambda
import KE.SortKeyHeap
import KE.KDictPairs
import KE.KRevSl
import PyProof.CollectStr
import HandS.Style
import HandS.More
import KE.DataMinKey
import KE.KLam
import HandS.SortKw
import HandS.DictComp
import HandS.Star
import HandS.Zip
import HandS.Walk
import HandS.RevTup
import HandS.EndTab
import PySem.Challenge.RW_ownlists_k28_whole_payers_that_are_kept
set_option Elab.async false
set_option linter.all false
set_option maxRecDepth 100000
set_option maxHeartbeats 4000000
namespace K28
open PySem PySem.Spec PyProof.Rows L2 LamX

/-! ### values that stand for data -/
/-- how its tuples stand: any way; known with their objects, which have no dict (their methods may be called); plainly (they may be keys) -/
inductive Md | any | z | p
  deriving DecidableEq
def TupAt : Md → Hp → Addr → List V → Prop
  | .any, H, a, xs => Rd H a (.tup xs)
  | .z, H, a, xs => ∃ o, H a = some (.frz o (.tup xs)) ∧ o.dict = none
  | .p, H, a, xs => H a = some (.tup xs)
theorem TupAt.up {H H' : Hp} {a : Addr} {xs : List V} (e : ExtN H H') : ∀ {m : Md}, TupAt m H a xs → TupAt m H' a xs
  | .any, .inl h => .inl (e _ _ h fun ps z => by cases z)
  | .any, .inr ⟨o, h⟩ => .inr ⟨o, e _ _ h fun ps z => by cases z⟩
  | .z, ⟨o, h, d⟩ => ⟨o, e _ _ h (fun ps z => by cases z), d⟩
  | .p, h => e _ _ h fun ps z => by cases z
theorem TupAt.any {H : Hp} {a : Addr} {xs : List V} : ∀ {m : Md}, TupAt m H a xs → TupAt .any H a xs
  | .any, h => h
  | .z, ⟨o, h, _⟩ => .inr ⟨o, h⟩
  | .p, h => .inl h
theorem TupAt.sq {K : PySem.W.Frag} {m : Md} {H : Hp} {a : Addr} {xs : List V} (h : TupAt m H a xs) : SqT K H a xs := .inl h.any
theorem TupAt.plain {H : Hp} {a : Addr} {xs : List V} (h : H a = some (.tup xs)) : ∀ {m : Md}, m ≠ .z → TupAt m H a xs
  | .any, _ => .inl h
  | .z, n => absurd rfl n
  | .p, _ => h
mutual
inductive Rp (m : Md) (H : Hp) : V → PyData → Prop
  | non : Rp m H .non .none
  | bl (b : Bool) : Rp m H (.bl b) (.bool b)
  | int (i : Int) : Rp m H (.int i) (.int i)
  | str (x : Str) : Rp m H (.str x) (.str x)
  | lst {a : Addr} {xs : List V} {ds : List PyData} : H a = some (.lst xs) → RpL m H xs ds → Rp m H (.ref a) (.list ds)
  | tup {a : Addr} {xs : List V} {ds : List PyData} : TupAt m H a xs → RpL m H xs ds → Rp m H (.ref a) (.tuple ds)
inductive RpL (m : Md) (H : Hp) : List V → List PyData → Prop
  | nil : RpL m H [] []
  | cons {v : V} {vs : List V} {d : PyData} {ds : List PyData} : Rp m H v d → RpL m H vs ds → RpL m H (v :: vs) (d :: ds)
end
mutual
theorem Rp.ext {m : Md} {H H' : Hp} (e : ExtN H H') : ∀ (d : PyData) (v : V), Rp m H v d → Rp m H' v d
  | .none, _, h => by cases h; exact .non
  | .bool b, _, h => by cases h; exact .bl b
  | .int i, _, h => by cases h; exact .int i
  | .str x, _, h => by cases h; exact .str x
  | .list ds, _, h => by
    cases h with
    | lst h1 h2 => exact .lst (e _ _ h1 fun ps z => by cases z) (RpL.ext e ds _ h2)
  | .tuple ds, _, h => by
    cases h with
    | tup h1 h2 => exact .tup (h1.up e) (RpL.ext e ds _ h2)
  | .dict _, _, h => by cases h
theorem RpL.ext {m : Md} {H H' : Hp} (e : ExtN H H') : ∀ (ds : List PyData) (vs : List V), RpL m H vs ds → RpL m H' vs ds
  | [], _, h => by cases h; exact .nil
  | d :: ds, _, h => by
    cases h with
    | cons h1 h2 => exact .cons (Rp.ext e d _ h1) (RpL.ext e ds _ h2)
end
theorem Rp.up {m : Md} {H H' : Hp} {v : V} {d : PyData} (h : Rp m H v d) (e : ExtN H H') : Rp m H' v d := Rp.ext e d v h
theorem RpL.up {m : Md} {H H' : Hp} {vs : List V} {ds : List PyData} (h : RpL m H vs ds) (e : ExtN H H') : RpL m H' vs ds := RpL.ext e ds vs h
mutual
theorem Rp.dp' {K : PySem.W.Frag} {m : Md} {H : Hp} : ∀ (d : PyData) (v : V), Rp m H v d → Dp K H v d
  | .none, _, h => by cases h; exact .non
  | .bool b, _, h => by cases h; exact .bl b
  | .int i, _, h => by cases h; exact .int i
  | .str x, _, h => by cases h; exact .str x
  | .list ds, _, h => by
    cases h with
    | lst h1 h2 => exact .lst (SqL.of h1) (RpL.dp' ds _ h2)
  | .tuple ds, _, h => by
    cases h with
    | tup h1 h2 => exact .tup h1.sq (RpL.dp' ds _ h2)
  | .dict _, _, h => by cases h
theorem RpL.dp' {K : PySem.W.Frag} {m : Md} {H : Hp} : ∀ (ds : List PyData) (vs : List V), RpL m H vs ds → DpAll K H vs ds
  | [], _, h => by cases h; exact .nil
  | d :: ds, _, h => by
    cases h with
    | cons h1 h2 => exact .cons (Rp.dp' d _ h1) (RpL.dp' ds _ h2)
end
theorem Rp.dp {K : PySem.W.Frag} {m : Md} {H : Hp} {v : V} {d : PyData} (h : Rp m H v d) : Dp K H v d := Rp.dp' d v h
theorem RpL.dp {K : PySem.W.Frag} {m : Md} {H : Hp} {vs : List V} {ds : List PyData} (h : RpL m H vs ds) : DpAll K H vs ds := RpL.dp' ds vs h

section
variable {m : Md} {H : Hp}
theorem RpL.length : ∀ {vs : List V} {ds : List PyData}, RpL m H vs ds → vs.length = ds.length
  | _, _, .nil => rfl
  | _, _, .cons _ t => by rw [List.length_cons, List.length_cons, RpL.length t]
theorem RpL.get : ∀ {vs : List V} {ds : List PyData} {i : Nat} {d : PyData}, RpL m H vs ds → ds[i]? = some d → ∃ v, vs[i]? = some v ∧ Rp m H v d
  | _, _, _, _, .nil, e => by simp at e
  | _, _, 0, _, .cons r _, e => by simp at e; subst e; exact ⟨_, rfl, r⟩
  | _, _, i + 1, d, .cons _ t, e => by
    obtain ⟨u, h1, h2⟩ := RpL.get (i := i) (d := d) t (by simpa using e)
    exact ⟨u, by simpa using h1, h2⟩
theorem RpL.getV : ∀ {vs : List V} {ds : List PyData} {i : Nat} {v : V}, RpL m H vs ds → vs[i]? = some v → ∃ d, ds[i]? = some d ∧ Rp m H v d
  | _, _, _, _, .nil, e => by simp at e
  | _, _, 0, _, .cons r _, e => by simp at e; subst e; exact ⟨_, rfl, r⟩
  | _, _, i + 1, d, .cons _ t, e => by
    obtain ⟨u, h1, h2⟩ := RpL.getV (i := i) (v := d) t (by simpa using e)
    exact ⟨u, by simpa using h1, h2⟩
theorem RpL.append : ∀ {vs ws : List V} {ds es : List PyData}, RpL m H vs ds → RpL m H ws es → RpL m H (vs ++ ws) (ds ++ es)
  | _, _, _, _, .nil, s => s
  | _, _, _, _, .cons r t, s => .cons r (RpL.append t s)
theorem RpL.snoc {vs : List V} {v : V} {ds : List PyData} {d : PyData} (r : RpL m H vs ds) (q : Rp m H v d) : RpL m H (vs ++ [v]) (ds ++ [d]) := r.append (.cons q .nil)
theorem RpL.take : ∀ {vs : List V} {ds : List PyData} (n : Nat), RpL m H vs ds → RpL m H (vs.take n) (ds.take n)
  | _, _, 0, _ => by rw [List.take_zero, List.take_zero]; exact .nil
  | _, _, _ + 1, .nil => .nil
  | _, _, n + 1, .cons r t => .cons r (RpL.take n t)
theorem RpL.drop : ∀ {vs : List V} {ds : List PyData} (n : Nat), RpL m H vs ds → RpL m H (vs.drop n) (ds.drop n)
  | _, _, 0, r => r
  | _, _, _ + 1, .nil => .nil
  | _, _, n + 1, .cons _ t => RpL.drop n t
theorem RpL.reverse : ∀ {vs : List V} {ds : List PyData}, RpL m H vs ds → RpL m H vs.reverse ds.reverse
  | _, _, .nil => .nil
  | _, _, .cons r t => by rw [List.reverse_cons, List.reverse_cons]; exact (RpL.reverse t).snoc r
theorem RpL.eraseIdx : ∀ {vs : List V} {ds : List PyData} (n : Nat), RpL m H vs ds → RpL m H (vs.eraseIdx n) (ds.eraseIdx n)
  | _, _, _, .nil => .nil
  | _, _, 0, .cons _ t => t
  | _, _, n + 1, .cons r t => .cons r (RpL.eraseIdx n t)
theorem RpL.strs : ∀ {ss : List Str} {vs : List V}, RpL m H vs (ss.map .str) → vs = ss.map V.str
  | [], _, h => by cases h; rfl
  | s :: ss, _, h => by
    cases h with
    | cons r t =>
      cases r
      rw [RpL.strs t]; rfl
theorem RpL.ofStrs : ∀ (ss : List Str), RpL m H (ss.map V.str) (ss.map .str)
  | [] => .nil
  | s :: ss => .cons (.str s) (RpL.ofStrs ss)
theorem RpL.ints : ∀ {ss : List Int} {vs : List V}, RpL m H vs (ss.map .int) → vs = ss.map V.int
  | [], _, h => by cases h; rfl
  | s :: ss, _, h => by
    cases h with
    | cons r t =>
      cases r
      rw [RpL.ints t]; rfl
theorem RpL.ofInts : ∀ (ss : List Int), RpL m H (ss.map V.int) (ss.map .int)
  | [] => .nil
  | s :: ss => .cons (.int s) (RpL.ofInts ss)
theorem RpL.bools : ∀ {ss : List Bool} {vs : List V}, RpL m H vs (ss.map .bool) → vs = ss.map V.bl
  | [], _, h => by cases h; rfl
  | s :: ss, _, h => by
    cases h with
    | cons r t =>
      cases r
      rw [RpL.bools t]; rfl
theorem Rp.listInv {v : V} {ds : List PyData} (h : Rp m H v (.list ds)) : ∃ a xs, v = .ref a ∧ H a = some (.lst xs) ∧ RpL m H xs ds := by
  cases h with
  | lst h1 h2 => exact ⟨_, _, rfl, h1, h2⟩
theorem Rp.tupInv {v : V} {ds : List PyData} (h : Rp m H v (.tuple ds)) : ∃ a xs, v = .ref a ∧ TupAt m H a xs ∧ RpL m H xs ds := by
  cases h with
  | tup h1 h2 => exact ⟨_, _, rfl, h1, h2⟩
end

mutual
theorem Rp.anyD {m : Md} {H : Hp} : ∀ (d : PyData) (v : V), Rp m H v d → Rp .any H v d
  | .none, _, h => by cases h; exact .non
  | .bool b, _, h => by cases h; exact .bl b
  | .int i, _, h => by cases h; exact .int i
  | .str x, _, h => by cases h; exact .str x
  | .list ds, _, h => by
    cases h with
    | lst h1 h2 => exact .lst h1 (RpL.anyD ds _ h2)
  | .tuple ds, _, h => by
    cases h with
    | tup h1 h2 => exact .tup h1.any (RpL.anyD ds _ h2)
  | .dict _, _, h => by cases h
theorem RpL.anyD {m : Md} {H : Hp} : ∀ (ds : List PyData) (vs : List V), RpL m H vs ds → RpL .any H vs ds
  | [], _, h => by cases h; exact .nil
  | d :: ds, _, h => by
    cases h with
    | cons h1 h2 => exact .cons (Rp.anyD d _ h1) (RpL.anyD ds _ h2)
end
theorem Rp.any {m : Md} {H : Hp} {v : V} {d : PyData} (h : Rp m H v d) : Rp .any H v d := Rp.anyD d v h
theorem RpL.any {m : Md} {H : Hp} {vs : List V} {ds : List PyData} (h : RpL m H vs ds) : RpL .any H vs ds := RpL.anyD ds vs h

/-! ### part of the heap hidden -/
def hide (S : List Addr) (H : Hp) : Hp := fun b => if b ∈ S then none else H b
theorem hide_in {S : List Addr} {H : Hp} {b : Addr} (h : b ∈ S) : hide S H b = none := if_pos h
theorem hide_out {S : List Addr} {H : Hp} {b : Addr} (h : b ∉ S) : hide S H b = H b := if_neg h
theorem hide_le {S : List Addr} {H : Hp} : ExtN (hide S H) H := fun b o e _ => by
  by_cases h : b ∈ S
  · rw [hide_in h] at e; cases e
  · rw [hide_out h] at e; exact e
theorem hide_nil {H : Hp} : hide [] H = H := by
  funext b; exact hide_out (by simp)
theorem hide_ext {S : List Addr} {H H' : Hp} (e : ExtN H H') : ExtN (hide S H) (hide S H') := fun b o h n => by
  by_cases hb : b ∈ S
  · rw [hide_in hb] at h; cases h
  · rw [hide_out hb] at h ⊢; exact e b o h n
/-- an object of S may change -/
theorem hide_upd {S : List Addr} {H : Hp} {a : Addr} {o : HO} (h : a ∈ S) : hide S (upd H a o) = hide S H := by
  funext b
  by_cases hb : b ∈ S
  · rw [hide_in hb, hide_in hb]
  · rw [hide_out hb, hide_out hb, upd_ne (fun z => hb (by rw [z]; exact h))]
theorem hide_cons {S : List Addr} {H : Hp} {p : Addr} {o : HO} (h : H p = none) : hide (p :: S) (upd H p o) = hide S H := by
  funext b
  by_cases hp : b = p
  · subst hp
    rw [hide_in List.mem_cons_self]
    by_cases hb : b ∈ S
    · rw [hide_in hb]
    · rw [hide_out hb, h]
  · by_cases hb : b ∈ S
    · rw [hide_in hb, hide_in (List.mem_cons_of_mem _ hb)]
    · rw [hide_out hb, hide_out (by intro z; rcases List.mem_cons.mp z with z | z; exact hp z; exact hb z), upd_ne hp]
theorem hide_more {S S' : List Addr} {H : Hp} (h : ∀ b ∈ S, b ∈ S') : ExtN (hide S' H) (hide S H) := fun b o e _ => by
  by_cases hb : b ∈ S'
  · rw [hide_in hb] at e; cases e
  · rw [hide_out hb] at e
    rw [hide_out (fun z => hb (h b z))]; exact e
/-- what may be hidden: no table, no tuple -/
def Nt (o : HO) : Prop := (∀ ps, o ≠ .tbl ps) ∧ ∀ xs, o ≠ .tup xs
theorem nt_lst (xs : List V) : Nt (.lst xs) := ⟨fun _ z => (by cases z), fun _ z => (by cases z)⟩
theorem nt_dT (kvs : List (List Key × V)) : Nt (.dT kvs) := ⟨fun _ z => (by cases z), fun _ z => (by cases z)⟩
def Dom (S : List Addr) (H : Hp) : Prop := ∀ a ∈ S, ∃ o, H a = some o ∧ Nt o
theorem Dom.ext {S : List Addr} {H H' : Hp} (d : Dom S H) (e : ExtN H H') : Dom S H' := fun a h => let ⟨o, q, n⟩ := d a h; ⟨o, e a o q n.1, n⟩
theorem Dom.nin {S : List Addr} {H : Hp} {p : Addr} (d : Dom S H) (h : H p = none) : p ∉ S := fun z => by
  obtain ⟨o, q, _⟩ := d p z
  rw [h] at q; cases q

/-- the heap grows: what stands stays, but the code tables may grow -/
structure Gd (T : List (Addr × Str)) (H H' : Hp) : Prop where
  ext : ExtN H H'
  tab : Tabs T H'
theorem Gd.trans {T : List (Addr × Str)} {H H1 H2 : Hp} (a : Gd T H H1) (b : Gd T H1 H2) : Gd T H H2 := ⟨a.ext.trans b.ext, b.tab⟩
theorem Gd.refl {T : List (Addr × Str)} {H : Hp} (t : Tabs T H) : Gd T H H := ⟨ExtN.refl H, t⟩
theorem Gd.new {T : List (Addr × Str)} {H : Hp} {p : Addr} {o : HO} (t : Tabs T H) (h : H p = none) : Gd T H (upd H p o) :=
  have e : ∀ b u, H b = some u → upd H p o b = some u := fun b u q => by rw [upd_ne (ne_of_none q h)]; exact q
  ⟨ExtN.of e, t.ext e⟩

/-! ### what a slot is known to hold -/
inductive En
  | no
  | m (m : Md) (d : PyData)
  | k (m : Md) (ps : List (Str × PyData))
  | t (ks : List (List Str))
  | r (ks : List (List Str))
  | v (v : V)
  | s (K : PySem.W.Frag) (xs : List V)
abbrev En.d (d : PyData) : En := .m .any d
def KvR (m : Md) (H : Hp) (kvs : List (Key × V)) (ps : List (Str × PyData)) : Prop := Paired (fun (a : Key × V) (b : Str × PyData) => a.1 = Sum.inr b.1 ∧ Rp m H a.2 b.2) kvs ps
def EnR (H : Hp) : En → V → Prop
  | .no, _ => True
  | .m m d, v => Rp m H v d
  | .k m ps, v => ∃ a kvs, v = .ref a ∧ H a = some (.dK kvs) ∧ KvR m H kvs ps
  | .t ks, v => ∃ a kvs, v = .ref a ∧ H a = some (.dT kvs) ∧ kvs.map (·.1) = ks.map (·.map Sum.inr)
  | .r ks, v => ∃ a kvs, v = .ref a ∧ Rd H a (.dT kvs) ∧ kvs.map (·.1) = ks.map (·.map Sum.inr)
  | .v w, v => v = w
  | .s K xs, v => ∃ a, v = .ref a ∧ SqL K H a xs
theorem KvR.up {m : Md} {H H' : Hp} {kvs : List (Key × V)} {ps : List (Str × PyData)} (r : KvR m H kvs ps) (e : ExtN H H') : KvR m H' kvs ps := Paired.mapP r fun _ _ ⟨a, b⟩ => ⟨a, b.up e⟩
theorem EnR.up {H H' : Hp} (e : ExtN H H') : ∀ {x : En} {v : V}, EnR H x v → EnR H' x v
  | .no, _, _ => True.intro
  | .m _ d, _, h => Rp.ext e d _ h
  | .k _ ps, _, h => let ⟨a, kvs, h1, h2, h3⟩ := h; ⟨a, kvs, h1, e _ _ h2 (fun ps z => by cases z), h3.up e⟩
  | .t ks, _, h => let ⟨a, kvs, h1, h2, h3⟩ := h; ⟨a, kvs, h1, e _ _ h2 (fun ps z => by cases z), h3⟩
  | .r ks, _, h => let ⟨a, kvs, h1, h2, h3⟩ := h; ⟨a, kvs, h1, h2.elim (fun h2 => .inl (e _ _ h2 fun ps z => by cases z)) (fun ⟨o, h2⟩ => .inr ⟨o, e _ _ h2 fun ps z => by cases z⟩), h3⟩
  | .v w, _, h => h
  | .s K xs, _, h => let ⟨a, h1, h2⟩ := h; ⟨a, h1, h2.elim (fun h2 => .inl (h2.elim (fun h2 => .inl (e _ _ h2 fun ps z => by cases z)) fun ⟨o, h2⟩ => .inr ⟨o, e _ _ h2 fun ps z => by cases z⟩)) .inr⟩
inductive Fit (H : Hp) : L2.St → List En → Prop
  | nil : Fit H [] []
  | no {o : Option V} {σ : L2.St} {env : List En} : Fit H σ env → Fit H (o :: σ) (.no :: env)
  | cons {v : V} {e : En} {σ : L2.St} {env : List En} : EnR H e v → Fit H σ env → Fit H (some v :: σ) (e :: env)
theorem Fit.up {H H' : Hp} (e : ExtN H H') : ∀ {σ : L2.St} {env : List En}, Fit H σ env → Fit H' σ env
  | _, _, .nil => .nil
  | _, _, .no f => .no (f.up e)
  | _, _, .cons r f => .cons (r.up e) (f.up e)
theorem Fit.get {H : Hp} : ∀ {σ : L2.St} {env : List En} {i : Nat} {e : En}, Fit H σ env → env[i]? = some e → e ≠ .no → ∃ v, σ[i]? = some (some v) ∧ EnR H e v
  | _, _, _, _, .nil, h, _ => by simp at h
  | _, _, 0, _, .no f, h, n => by simp at h; exact absurd h.symm n
  | _, _, 0, _, .cons r f, h, n => by simp at h; subst h; exact ⟨_, rfl, r⟩
  | _, _, i + 1, _, .no f, h, n => by simpa using f.get (i := i) (by simpa using h) n
  | _, _, i + 1, _, .cons r f, h, n => by simpa using f.get (i := i) (by simpa using h) n
theorem Fit.set {H : Hp} {v : V} {e : En} (r : EnR H e v) : ∀ {σ : L2.St} {env : List En} (i : Nat), Fit H σ env → Fit H (σ.set i (some v)) (env.set i e)
  | _, _, _, .nil => .nil
  | _, _, 0, .no f => .cons r f
  | _, _, 0, .cons _ f => .cons r f
  | _, _, i + 1, .no f => .no (f.set r i)
  | _, _, i + 1, .cons q f => .cons q (f.set r i)
theorem Fit.none {H : Hp} {o : Option V} : ∀ {σ : L2.St} {env : List En} (i : Nat), Fit H σ env → Fit H (σ.set i o) (env.set i .no)
  | _, _, _, .nil => .nil
  | _, _, 0, .no f => .no f
  | _, _, 0, .cons _ f => .no f
  | _, _, i + 1, .no f => .no (f.none i)
  | _, _, i + 1, .cons q f => .cons q (f.none i)
def wipeE (env : List En) : List Nat → List En
  | [] => env
  | v :: vs => (wipeE env vs).set v .no
theorem Fit.wipe {H : Hp} {σ : L2.St} {env : List En} (f : Fit H σ env) : ∀ vs : List Nat, Fit H (L2.wipe σ vs) (wipeE env vs)
  | [] => f
  | v :: vs => (f.wipe vs).none v
theorem Fit.len {H : Hp} : ∀ {σ : L2.St} {env : List En}, Fit H σ env → σ.length = env.length
  | _, _, .nil => rfl
  | _, _, .no f => by rw [List.length_cons, List.length_cons, f.len]
  | _, _, .cons _ f => by rw [List.length_cons, List.length_cons, f.len]

/-- where one stands -/
structure At (T : List (Addr × Str)) (S : List Addr) (H : Hp) (σ : L2.St) (env : List En) : Prop where
  dom : Dom S H
  tab : Tabs T H
  fit : Fit (hide S H) σ env
section
variable {T : List (Addr × Str)} {S : List Addr} {H H' H0 : Hp} {σ : L2.St} {env : List En}
theorem At.gd (c : At T S H σ env) : Gd T H H := .refl c.tab
theorem At.up (c : At T S H σ env) (g : Gd T H H') : At T S H' σ env := ⟨c.dom.ext g.ext, g.tab, c.fit.up (hide_ext g.ext)⟩
theorem At.get (c : At T S H σ env) {i : Nat} {e : En} (h : env[i]? = some e) (n : e ≠ .no) : ∃ v, σ[i]? = some (some v) ∧ EnR (hide S H) e v := c.fit.get h n
theorem At.set (c : At T S H σ env) {v : V} {e : En} (r : EnR (hide S H) e v) (i : Nat) : At T S H (σ.set i (some v)) (env.set i e) := ⟨c.dom, c.tab, c.fit.set r i⟩
theorem At.wipe (c : At T S H σ env) (vs : List Nat) : At T S H (L2.wipe σ vs) (wipeE env vs) := ⟨c.dom, c.tab, c.fit.wipe vs⟩
end

/-! ### what a reading evaluates to -/
def ED (T : List (Addr × Str)) (env : List En) (te : TE) (e : En) : Prop :=
  ∀ S H σ, At T S H σ env → ∀ Q : VK, (∀ v H', Gd T H H' → EnR (hide S H') e v → Q v H') → te σ H Q
def ET (T : List (Addr × Str)) (env : List En) (tt : TT) (b : Bool) : Prop :=
  ∀ S H σ, At T S H σ env → ∀ Q : Bool → Hp → Prop, (∀ H', Gd T H H' → Q b H') → tt σ H Q
def EA (T : List (Addr × Str)) (env : List En) (ta : TA) (m : Md) (ds : List PyData) : Prop :=
  ∀ S H σ, At T S H σ env → ∀ Q : List V → Hp → Prop, (∀ vs H', Gd T H H' → RpL m (hide S H') vs ds → Q vs H') → ta σ H Q
inductive EnL (H : Hp) : List V → List En → Prop
  | nil : EnL H [] []
  | cons {v : V} {vs : List V} {e : En} {es : List En} : EnR H e v → EnL H vs es → EnL H (v :: vs) (e :: es)
theorem EnL.up {H H' : Hp} (x : ExtN H H') : ∀ {vs : List V} {es : List En}, EnL H vs es → EnL H' vs es
  | _, _, .nil => .nil
  | _, _, .cons r t => .cons (r.up x) (t.up x)
theorem EnL.length {H : Hp} : ∀ {vs : List V} {es : List En}, EnL H vs es → vs.length = es.length
  | _, _, .nil => rfl
  | _, _, .cons _ t => by rw [List.length_cons, List.length_cons, t.length]
def EN (T : List (Addr × Str)) (env : List En) (ta : TA) (es : List En) : Prop :=
  ∀ S H σ, At T S H σ env → ∀ Q : List V → Hp → Prop, (∀ vs H', Gd T H H' → EnL (hide S H') vs es → Q vs H') → ta σ H Q
def EO (T : List (Addr × Str)) (env : List En) (to : TO) (o : Option Int) : Prop :=
  ∀ S H σ, At T S H σ env → ∀ Q : Option Int → Hp → Prop, (∀ H', Gd T H H' → Q o H') → to σ H Q
/-- the promise of a def whose arguments and result are data -/
def PrR (T : List (Addr × Str)) (R : List En → En → Prop) : Sp := fun vs H Q _ => ∃ S es e, Dom S H ∧ Tabs T H ∧ EnL (hide S H) vs es ∧ R es e ∧ ∀ v H', Gd T H H' → EnR (hide S H') e v → Q v H'

theorem new_tup {S : List Addr} {H : Hp} {m : Md} {ds : List PyData} {vs : List V} {p : Addr} (d : Dom S H) (hp : H p = none) (r : RpL m (hide S H) vs ds) (hm : m ≠ .z) : Rp m (hide S (upd H p (.tup vs))) (.ref p) (.tuple ds) := by
  have e : ExtN H (upd H p (.tup vs)) := fun b o q _ => by rw [upd_ne (ne_of_none q hp)]; exact q
  exact .tup (TupAt.plain (by rw [hide_out (d.nin hp), upd_same]) hm) (r.up (hide_ext e))
theorem new_tupZ {S : List Addr} {H : Hp} {m : Md} {ds : List PyData} {vs : List V} {p : Addr} {o : Obj} (d : Dom S H) (hp : H p = none) (r : RpL m (hide S H) vs ds) (ho : o.dict = none) (hm : m ≠ .p) : Rp m (hide S (upd H p (.frz o (.tup vs)))) (.ref p) (.tuple ds) := by
  have e : ExtN H (upd H p (.frz o (.tup vs))) := fun b u q _ => by rw [upd_ne (ne_of_none q hp)]; exact q
  have h1 : hide S (upd H p (.frz o (.tup vs))) p = some (.frz o (.tup vs)) := by rw [hide_out (d.nin hp), upd_same]
  refine .tup ?_ (r.up (hide_ext e))
  cases m with
  | any => exact .inr ⟨o, h1⟩
  | z => exact ⟨o, h1, ho⟩
  | p => exact absurd rfl hm
theorem new_lst {S : List Addr} {H : Hp} {ds : List PyData} {vs : List V} {m : Md} {p : Addr} (d : Dom S H) (hp : H p = none) (r : RpL m (hide S H) vs ds) : Rp m (hide S (upd H p (.lst vs))) (.ref p) (.list ds) := by
  have e : ExtN H (upd H p (.lst vs)) := fun b o q _ => by rw [upd_ne (ne_of_none q hp)]; exact q
  exact .lst (by rw [hide_out (d.nin hp), upd_same]) (r.up (hide_ext e))
theorem small {n : Nat} (h : n ≤ 100000) : n ≤ sizeLine := Nat.le_trans h (by decide)
theorem smallS {n : Nat} (h : n < 100000) : n < sizeLine := Nat.lt_of_lt_of_le h (by decide)
section
variable {T : List (Addr × Str)} {env : List En} {K : PySem.W.Frag} {ta tb te tx : TE} {t u : TT} {aa ar : TA} {m m' : Md}
theorem ED.is {e e' : En} (h : ED T env te e) (q : e = e') : ED T env te e' := q ▸ h
theorem ET.is {b b' : Bool} (h : ET T env t b) (q : b = b') : ET T env t b' := q ▸ h
theorem ed_c {v : V} {e : En} (h : ∀ H, EnR H e v) : ED T env (tC v) e := fun S H σ c Q q => q v H c.gd (h _)
theorem ed_int {i : Int} : ED T env (tC (.int i)) (.m m (.int i)) := ed_c fun _ => Rp.int i
theorem ed_str {x : Str} : ED T env (tC (.str x)) (.m m (.str x)) := ed_c fun _ => Rp.str x
theorem ed_bl {b : Bool} : ED T env (tC (.bl b)) (.m m (.bool b)) := ed_c fun _ => Rp.bl b
theorem ed_non : ED T env (tC .non) (.m m .none) := ed_c fun _ => Rp.non
theorem ED.any {d : PyData} (h : ED T env te (.m m d)) : ED T env te (.d d) := fun S H σ c Q q => h S H σ c _ fun v H1 g1 r1 => q v H1 g1 (Rp.any r1)
/-- numbers, texts .. have no mode -/
theorem ED.atI {i : Int} (h : ED T env te (.m m (.int i))) : ED T env te (.m m' (.int i)) := fun S H σ c Q q => h S H σ c _ fun v H1 g1 r1 => q v H1 g1 (by
  have r : Rp m _ v (.int i) := r1
  cases r
  exact Rp.int i)
theorem ED.atS {x : Str} (h : ED T env te (.m m (.str x))) : ED T env te (.m m' (.str x)) := fun S H σ c Q q => h S H σ c _ fun v H1 g1 r1 => q v H1 g1 (by
  have r : Rp m _ v (.str x) := r1
  cases r
  exact Rp.str x)
theorem ed_var {i : Nat} {e : En} (h : env[i]? = some e := by rfl) (n : e ≠ .no := by intro z; cases z) : ED T env (tVar i) e := fun S H σ c Q q => by
  obtain ⟨v, h1, h2⟩ := c.get h n
  exact ⟨v, h1, q v H c.gd h2⟩
theorem ea_nil : EA T env tNil m [] := fun S H σ c Q q => q [] H c.gd .nil
theorem ea_cons {d : PyData} {ds : List PyData} (h : ED T env te (.m m d)) (hr : EA T env ar m ds) : EA T env (tCons te ar) m (d :: ds) := fun S H σ c Q q =>
  h S H σ c _ fun v H1 g1 r1 => hr S H1 σ (c.up g1) _ fun vs H2 g2 r2 => q _ H2 (g1.trans g2) (.cons (Rp.up r1 (hide_ext g2.ext)) r2)
theorem ea_one {d : PyData} (h : ED T env te (.m m d)) : EA T env (tCons te tNil) m [d] := ea_cons h ea_nil
theorem ea_two {d d' : PyData} (h : ED T env ta (.m m d)) (h' : ED T env tb (.m m d')) : EA T env (tCons ta (tCons tb tNil)) m [d, d'] := ea_cons h (ea_one h')
theorem en_nil : EN T env tNil [] := fun S H σ c Q q => q [] H c.gd .nil
theorem en_cons {e : En} {es : List En} (h : ED T env te e) (hr : EN T env ar es) : EN T env (tCons te ar) (e :: es) := fun S H σ c Q q =>
  h S H σ c _ fun v H1 g1 r1 => hr S H1 σ (c.up g1) _ fun vs H2 g2 r2 => q _ H2 (g1.trans g2) (.cons (EnR.up (hide_ext g2.ext) r1) r2)
theorem en_one {e : En} (h : ED T env te e) : EN T env (tCons te tNil) [e] := en_cons h en_nil
theorem en_two {e e' : En} (h : ED T env ta e) (h' : ED T env tb e') : EN T env (tCons ta (tCons tb tNil)) [e, e'] := en_cons h (en_one h')
theorem ed_tupM {ds : List PyData} (h : EA T env aa m ds) (hm : m ≠ .z) (hl : ds.length ≤ 100000) : ED T env (tTup aa) (.m m (.tuple ds)) := fun S H σ c Q q =>
  h S H σ c _ fun vs H1 g1 r1 => ⟨by rw [r1.length]; exact small hl, fun p hp => q _ _ (g1.trans (Gd.new g1.tab hp)) (new_tup (c.up g1).dom hp r1 hm)⟩
theorem ed_tup {ds : List PyData} (h : EA T env aa .any ds) (hl : ds.length ≤ 100000 := by first | decide | (simp; done) | assumption) : ED T env (tTup aa) (.d (.tuple ds)) := ed_tupM h (by intro z; cases z) hl
theorem ed_lst {ds : List PyData} (h : EA T env aa m ds) (hl : ds.length ≤ 100000 := by first | decide | (simp; done) | assumption) : ED T env (tLst aa) (.m m (.list ds)) := fun S H σ c Q q =>
  h S H σ c _ fun vs H1 g1 r1 => ⟨by rw [r1.length]; exact small hl, fun p hp => q _ _ (g1.trans (Gd.new g1.tab hp)) (new_lst (c.up g1).dom hp r1)⟩
theorem ed_call {R : List En → En → Prop} {E : XK} {es : List En} {e : En} (h : EN T env aa es) (hR : R es e) : ED T env (tCall (PrR T R) [] E aa) e := fun S H σ c Q q =>
  h S H σ c _ fun vs H1 g1 r1 => ⟨S, es, e, (c.up g1).dom, g1.tab, by rw [List.append_nil]; exact r1, hR, fun v H2 g2 r2 => q v H2 (g1.trans g2) r2⟩
theorem ed_call0 {R : List En → En → Prop} {E : XK} {e : En} (hR : R [] e) : ED T env (tCall (PrR T R) [] E tNil) e := ed_call en_nil hR

/-! ### operators on ints -/
theorem ed_opI0 {g : Int → Int → V} {i j : Int} {e : En} (ha : ED T env ta (.m m (.int i))) (hb : ED T env tb (.m m' (.int j))) (he : ∀ H, EnR H e (g i j)) : ED T env (tOp (rI0 g) ta tb) e := fun S H σ c Q q =>
  ha S H σ c _ fun v H1 g1 r1 => hb S H1 σ (c.up g1) _ fun u H2 g2 r2 => by
    cases (show Rp m _ v (.int i) from r1); cases (show Rp m' _ u (.int j) from r2)
    exact ⟨i, j, rfl, rfl, q _ H2 (g1.trans g2) (he _)⟩
theorem ed_opI {C : Int → Int → Prop} {g : Int → Int → V} {i j : Int} {e : En} (ha : ED T env ta (.m m (.int i))) (hb : ED T env tb (.m m' (.int j))) (hc : C i j) (he : ∀ H, EnR H e (g i j)) : ED T env (tOp (rI C g) ta tb) e := fun S H σ c Q q =>
  ha S H σ c _ fun v H1 g1 r1 => hb S H1 σ (c.up g1) _ fun u H2 g2 r2 => by
    cases (show Rp m _ v (.int i) from r1); cases (show Rp m' _ u (.int j) from r2)
    exact ⟨i, j, rfl, rfl, hc, q _ H2 (g1.trans g2) (he _)⟩
theorem ed_add {i j : Int} (ha : ED T env ta (.m m (.int i))) (hb : ED T env tb (.m m' (.int j))) : ED T env (tOp (rI0 fun i j => .int (i + j)) ta tb) (.d (.int (i + j))) := ed_opI0 ha hb fun _ => Rp.int _
theorem ed_sub {i j : Int} (ha : ED T env ta (.m m (.int i))) (hb : ED T env tb (.m m' (.int j))) : ED T env (tOp (rI0 fun i j => .int (i - j)) ta tb) (.d (.int (i - j))) := ed_opI0 ha hb fun _ => Rp.int _
theorem ed_un {g : Int → V} {i : Int} {e : En} (ha : ED T env ta (.m m (.int i))) (he : ∀ H, EnR H e (g i)) : ED T env (tUn (rU g) ta) e := fun S H σ c Q q =>
  ha S H σ c _ fun v H1 g1 r1 => by
    cases (show Rp m _ v (.int i) from r1)
    exact ⟨i, rfl, q _ H1 g1 (he _)⟩
/-! ### tests -/
theorem et_test {b : Bool} (h : ED T env te (.m m (.bool b))) : ET T env (tTest te) b := fun S H σ c Q q => h S H σ c _ fun v H1 g1 r1 => by
  cases (show Rp m _ v (.bool b) from r1)
  exact ⟨b, rfl, q H1 g1⟩
theorem et_B {b : Bool} (h : ED T env te (.m m (.bool b))) : ET T env (tB te) b := fun S H σ c Q q => h S H σ c _ fun v H1 g1 r1 => by
  cases (show Rp m _ v (.bool b) from r1)
  exact ⟨b, rfl, q H1 g1⟩
theorem et_and {a b : Bool} (h1 : ET T env t a) (h2 : a = true → ET T env u b) : ET T env (tAnd t u) (a && b) := fun S H σ c Q q => h1 S H σ c _ fun H1 g1 => by
  cases a with
  | true =>
    show u σ H1 Q
    exact h2 rfl S H1 σ (c.up g1) Q fun H2 g2 => q H2 (g1.trans g2)
  | false =>
    show Q false H1
    exact q H1 g1
theorem et_or {a b : Bool} (h1 : ET T env t a) (h2 : a = false → ET T env u b) : ET T env (tOr t u) (a || b) := fun S H σ c Q q => h1 S H σ c _ fun H1 g1 => by
  cases a with
  | true =>
    show Q true H1
    exact q H1 g1
  | false =>
    show u σ H1 Q
    exact h2 rfl S H1 σ (c.up g1) Q fun H2 g2 => q H2 (g1.trans g2)
theorem et_not {a : Bool} (h : ET T env t a) : ET T env (tNot t) (!a) := fun S H σ c Q q => h S H σ c _ fun H1 g1 => q H1 g1
theorem ed_andV {a b : Bool} (h1 : ED T env ta (.m m (.bool a))) (h2 : a = true → ED T env tb (.m m' (.bool b))) : ED T env (tAndV ta tb) (.d (.bool (a && b))) := fun S H σ c Q q => h1 S H σ c _ fun v H1 g1 r1 => by
  cases (show Rp m _ v (.bool a) from r1)
  refine ⟨a, rfl, ?_⟩
  cases a with
  | true =>
    show tb σ H1 Q
    exact h2 rfl S H1 σ (c.up g1) Q fun v H2 g2 r2 => q v H2 (g1.trans g2) (Rp.any r2)
  | false =>
    show Q (.bl false) H1
    exact q _ H1 g1 (Rp.bl false)
theorem ed_notV {a : Bool} (h : ED T env ta (.m m (.bool a))) : ED T env (tNotV ta) (.d (.bool (!a))) := fun S H σ c Q q => h S H σ c _ fun v H1 g1 r1 => by
  cases (show Rp m _ v (.bool a) from r1)
  exact ⟨a, rfl, q _ H1 g1 (Rp.bl _)⟩
theorem ed_if {b : Bool} {e : En} (h : ET T env t b) (h1 : b = true → ED T env ta e) (h2 : b = false → ED T env tb e) : ED T env (tIf t ta tb) e := fun S H σ c Q q => h S H σ c _ fun H1 g1 => by
  cases b with
  | true =>
    show ta σ H1 Q
    exact h1 rfl S H1 σ (c.up g1) Q fun v H2 g2 r2 => q v H2 (g1.trans g2) r2
  | false =>
    show tb σ H1 Q
    exact h2 rfl S H1 σ (c.up g1) Q fun v H2 g2 r2 => q v H2 (g1.trans g2) r2
/-! ### == of any data -/
theorem ed_eqD {d e : PyData} (ha : ED T env ta (.m m d)) (hb : ED T env tb (.m m' e)) (sd : SeqAt.shaped d = true) (se : SeqAt.shaped e = true) : ED T env (tOp (rEqD K) ta tb) (.d (.bool (PyData.eqv d e))) := fun S H σ c Q q =>
  ha S H σ c _ fun v H1 g1 r1 => hb S H1 σ (c.up g1) _ fun u H2 g2 r2 =>
    ⟨d, e, ((Rp.up (show Rp m _ v _ from r1) hide_le).up g2.ext).dp, (Rp.up (show Rp m' _ u _ from r2) hide_le).dp, sd, se, q _ H2 (g1.trans g2) (Rp.bl _)⟩
theorem ed_neD {d e : PyData} (ha : ED T env ta (.m m d)) (hb : ED T env tb (.m m' e)) (sd : SeqAt.shaped d = true) (se : SeqAt.shaped e = true) : ED T env (tOp (rNeD K) ta tb) (.d (.bool (!PyData.eqv d e))) := fun S H σ c Q q =>
  ha S H σ c _ fun v H1 g1 r1 => hb S H1 σ (c.up g1) _ fun u H2 g2 r2 =>
    ⟨d, e, ((Rp.up (show Rp m _ v _ from r1) hide_le).up g2.ext).dp, (Rp.up (show Rp m' _ u _ from r2) hide_le).dp, sd, se, q _ H2 (g1.trans g2) (Rp.bl _)⟩
/-- x in a list of data -/
theorem ed_inD {d : PyData} {ds : List PyData} (ha : ED T env ta (.m m d)) (hb : ED T env tb (.m m' (.list ds))) (sd : SeqAt.shaped d = true) (se : SeqAt.shaped (.list ds) = true) :
    ED T env (tOp (rInD K) ta tb) (.d (.bool (ds.any fun z => PyData.eqv z d))) := fun S H σ c Q q =>
  ha S H σ c _ fun v H1 g1 r1 => hb S H1 σ (c.up g1) _ fun u H2 g2 r2 =>
    ⟨d, ds, ((Rp.up (show Rp m _ v _ from r1) hide_le).up g2.ext).dp, (Rp.up (show Rp m' _ u _ from r2) hide_le).dp, sd, se, q _ H2 (g1.trans g2) (Rp.bl _)⟩
/-! ### in, for texts -/
theorem any_str (x : Str) : ∀ ys : List Str, inV (.str x) (ys.map V.str) = decide (x ∈ ys)
  | [] => rfl
  | y :: ys => by
    have ih := any_str x ys
    unfold inV at ih ⊢
    rw [List.map_cons, List.any_cons, ih]
    show ((y == x) || decide (x ∈ ys)) = decide (x ∈ y :: ys)
    by_cases h : x = y
    · subst h; simp
    · have h' : ¬ y = x := fun z => h z.symm
      simp [h, h']
theorem all_flat : ∀ ys : List Str, (ys.map V.str).all flatV = true
  | [] => rfl
  | y :: ys => by rw [List.map_cons, List.all_cons, all_flat ys]; rfl
theorem ed_inS {neg : Bool} {x : Str} {ys : List Str} (ha : ED T env ta (.m m (.str x))) (hb : ED T env tb (.m m' (.tuple (ys.map .str))) ∨ ED T env tb (.m m' (.list (ys.map .str)))) :
    ED T env (tOp (rIn K neg) ta tb) (.d (.bool (if neg then !decide (x ∈ ys) else decide (x ∈ ys)))) := fun S H σ c Q q =>
  ha S H σ c _ fun v H1 g1 r1 => by
    cases (show Rp m _ v (.str x) from r1)
    have fin : ∀ p xs H2, Gd T H1 H2 → (SqL K H2 p xs ∨ SqT K H2 p xs) → RpL m' (hide S H2) xs (ys.map .str) → rIn K neg (.str x) (.ref p) H2 Q := fun p xs H2 g2 hs hr => by
      have e := hr.strs
      subst e
      refine ⟨p, _, rfl, hs, rfl, all_flat ys, ?_⟩
      rw [any_str]
      exact q _ H2 (g1.trans g2) (Rp.bl _)
    rcases hb with hb | hb
    · refine hb S H1 σ (c.up g1) _ fun u H2 g2 r2 => ?_
      obtain ⟨a, xs, rfl, h1, h2⟩ := Rp.tupInv (show Rp m' _ u _ from r2)
      exact fin a xs H2 g2 (.inr (h1.up hide_le).sq) h2
    · refine hb S H1 σ (c.up g1) _ fun u H2 g2 r2 => ?_
      obtain ⟨a, xs, rfl, h1, h2⟩ := Rp.listInv (show Rp m' _ u _ from r2)
      exact fin a xs H2 g2 (.inl (SqL.of (hide_le _ _ h1 fun ps z => by cases z))) h2
theorem ed_inT {x : Str} {ys : List Str} (ha : ED T env ta (.m m (.str x))) (hb : ED T env tb (.m m' (.tuple (ys.map .str)))) : ED T env (tOp (rIn K false) ta tb) (.d (.bool (decide (x ∈ ys)))) := ed_inS (neg := false) ha (.inl hb)
theorem ed_niT {x : Str} {ys : List Str} (ha : ED T env ta (.m m (.str x))) (hb : ED T env tb (.m m' (.tuple (ys.map .str)))) : ED T env (tOp (rIn K true) ta tb) (.d (.bool (!decide (x ∈ ys)))) := ed_inS (neg := true) ha (.inl hb)
/-! ### items, slices -/
theorem ed_ixL {ds : List PyData} {j : Nat} {d : PyData} {i : Int} (ha : ED T env ta (.m m (.list ds))) (hb : ED T env tb (.m m' (.int i))) (hi : i = (j : Int)) (h : ds[j]? = some d) : ED T env (tOp (rIxL K) ta tb) (.m m d) := fun S H σ c Q q =>
  ha S H σ c _ fun v H1 g1 r1 => hb S H1 σ (c.up g1) _ fun u H2 g2 r2 => by
    obtain ⟨a, xs, rfl, h1, h2⟩ := Rp.listInv (Rp.up (show Rp m _ v _ from r1) (hide_ext g2.ext))
    cases (show Rp m' _ u (.int i) from r2)
    obtain ⟨w, e1, e2⟩ := h2.get h
    exact ⟨a, xs, i, w, rfl, rfl, SqL.of (hide_le _ _ h1 fun ps z => by cases z), by rw [hi]; exact atI_nat e1, q _ H2 (g1.trans g2) e2⟩
theorem ed_ixT {ds : List PyData} {j : Nat} {d : PyData} {i : Int} (ha : ED T env ta (.m m (.tuple ds))) (hb : ED T env tb (.m m' (.int i))) (hi : i = (j : Int)) (h : ds[j]? = some d) : ED T env (tOp (rIxT K) ta tb) (.m m d) := fun S H σ c Q q =>
  ha S H σ c _ fun v H1 g1 r1 => hb S H1 σ (c.up g1) _ fun u H2 g2 r2 => by
    obtain ⟨a, xs, rfl, h1, h2⟩ := Rp.tupInv (Rp.up (show Rp m _ v _ from r1) (hide_ext g2.ext))
    cases (show Rp m' _ u (.int i) from r2)
    obtain ⟨w, e1, e2⟩ := h2.get h
    exact ⟨a, xs, i, w, rfl, rfl, (h1.up hide_le).sq, by rw [hi]; exact atI_nat e1, q _ H2 (g1.trans g2) e2⟩
def cutD (xs : List PyData) (lo hi : Option Int) : List PyData := (xs.drop (HT.sIx xs.length 0 lo)).take (HT.sIx xs.length xs.length hi - HT.sIx xs.length 0 lo)
theorem RpL.cut {H : Hp} {vs : List V} {ds : List PyData} (r : RpL m H vs ds) (lo hi : Option Int) : RpL m H (cutV vs lo hi) (cutD ds lo hi) := by
  unfold cutV cutD
  rw [r.length]
  exact (r.drop _).take _
theorem cutD_from (xs : List PyData) (k : Nat) : cutD xs (some (k : Int)) none = xs.drop k := by
  unfold cutD
  rw [HT.sIx_nat, HT.sIx_none]
  rcases Nat.le_total k xs.length with h | h
  · rw [Nat.min_eq_left h]
    exact List.take_of_length_le (by rw [List.length_drop]; exact Nat.le_refl _)
  · rw [Nat.min_eq_right h, Nat.sub_self, List.take_zero]
    exact (List.drop_eq_nil_of_le h).symm
theorem cutD_to (xs : List PyData) (k : Nat) : cutD xs none (some (k : Int)) = xs.take k := by
  unfold cutD
  rw [HT.sIx_nat, HT.sIx_none, List.drop_zero, Nat.sub_zero]
  rcases Nat.le_total k xs.length with h | h
  · rw [Nat.min_eq_left h]
  · rw [Nat.min_eq_right h, List.take_of_length_le (Nat.le_refl _), List.take_of_length_le h]
theorem cutD_whole {xs : List PyData} {lo hi : Option Int} (h1 : HT.sIx xs.length 0 lo = 0) (h2 : HT.sIx xs.length xs.length hi = xs.length) : cutD xs lo hi = xs := by
  unfold cutD
  rw [h1, h2, List.drop_zero, Nat.sub_zero, List.take_of_length_le (Nat.le_refl _)]
theorem eo_none : EO T env tNoPart none := fun S H σ c Q q => q H c.gd
theorem eo_some {i : Int} (h : ED T env te (.m m (.int i))) : EO T env (tPart te) (some i) := fun S H σ c Q q => h S H σ c _ fun v H1 g1 r1 => by
  cases (show Rp m _ v (.int i) from r1)
  exact ⟨i, rfl, q H1 g1⟩
theorem ed_slT {tl th : TO} {ds : List PyData} {lo hi : Option Int} (h : ED T env te (.m m (.tuple ds))) (hm : m ≠ .z) (hl : EO T env tl lo) (hh : EO T env th hi) : ED T env (tSl (rSlA K) te tl th) (.m m (.tuple (cutD ds lo hi))) := fun S H σ c Q q =>
  h S H σ c _ fun v H1 g1 r1 => hl S H1 σ (c.up g1) _ fun H2 g2 => hh S H2 σ ((c.up g1).up g2) _ fun H3 g3 => by
    have r3 := (Rp.up (show Rp m _ v _ from r1) (hide_ext g2.ext)).up (hide_ext g3.ext)
    obtain ⟨a, xs, rfl, h1, h2⟩ := Rp.tupInv r3
    refine ⟨a, xs, rfl, (h1.up hide_le).sq, fun ⟨e1, e2⟩ => ?_, fun _ p hp => ?_⟩
    · rw [h2.length] at e1 e2
      refine q _ H3 ((g1.trans g2).trans g3) ?_
      show Rp m _ _ _
      rw [cutD_whole e1 e2]
      exact r3
    · exact q _ _ (((g1.trans g2).trans g3).trans (Gd.new g3.tab hp)) (new_tup (((c.up g1).up g2).up g3).dom hp (h2.cut lo hi) hm)
theorem ed_slL {tl th : TO} {ds : List PyData} {lo hi : Option Int} (h : ED T env te (.m m (.list ds))) (hl : EO T env tl lo) (hh : EO T env th hi) : ED T env (tSl (rSlL K) te tl th) (.m m (.list (cutD ds lo hi))) := fun S H σ c Q q =>
  h S H σ c _ fun v H1 g1 r1 => hl S H1 σ (c.up g1) _ fun H2 g2 => hh S H2 σ ((c.up g1).up g2) _ fun H3 g3 => by
    have r3 := (Rp.up (show Rp m _ v _ from r1) (hide_ext g2.ext)).up (hide_ext g3.ext)
    obtain ⟨a, xs, rfl, h1, h2⟩ := Rp.listInv r3
    exact ⟨a, xs, rfl, SqL.of (hide_le _ _ h1 fun ps z => by cases z), fun p hp => q _ _ (((g1.trans g2).trans g3).trans (Gd.new g3.tab hp)) (new_lst (((c.up g1).up g2).up g3).dom hp (h2.cut lo hi))⟩
theorem ed_slS {tl th : TO} {xs : List V} {ds : List PyData} {lo hi : Option Int} (h : ED T env te (.s K xs)) (hr : ∀ HH : Hp, RpL m HH xs ds) (hl : EO T env tl lo) (hh : EO T env th hi) : ED T env (tSl (rSlL K) te tl th) (.m m (.list (cutD ds lo hi))) := fun S H σ c Q q =>
  h S H σ c _ fun v H1 g1 r1 => hl S H1 σ (c.up g1) _ fun H2 g2 => hh S H2 σ ((c.up g1).up g2) _ fun H3 g3 => by
    obtain ⟨a, rfl, h1⟩ := EnR.up hide_le (EnR.up (hide_ext g3.ext) (EnR.up (hide_ext g2.ext) r1))
    exact ⟨a, xs, rfl, h1, fun p hp => q _ _ (((g1.trans g2).trans g3).trans (Gd.new g3.tab hp)) (new_lst (((c.up g1).up g2).up g3).dom hp ((hr _).cut lo hi))⟩
/-! ### + of lists, of tuples; a list * k -/
theorem ed_catL {ds es : List PyData} (ha : ED T env ta (.m m (.list ds))) (hb : ED T env tb (.m m (.list es))) (hz : ds.length + es.length ≤ 100000) : ED T env (tOp rCat ta tb) (.m m (.list (ds ++ es))) := fun S H σ c Q q =>
  ha S H σ c _ fun v H1 g1 r1 => hb S H1 σ (c.up g1) _ fun u H2 g2 r2 => by
    obtain ⟨a, xs, rfl, h1, h2⟩ := Rp.listInv (Rp.up (show Rp m _ v _ from r1) (hide_ext g2.ext))
    obtain ⟨b, ys, rfl, h3, h4⟩ := Rp.listInv (show Rp m _ u _ from r2)
    exact ⟨a, b, xs, ys, rfl, rfl, hide_le _ _ h1 fun ps z => (by cases z), hide_le _ _ h3 fun ps z => (by cases z), by rw [h2.length, h4.length]; exact small hz, fun p hp => q _ _ ((g1.trans g2).trans (Gd.new g2.tab hp)) (new_lst ((c.up g1).up g2).dom hp (h2.append h4))⟩
end
end K28
set_option Elab.async false
set_option linter.all false
set_option maxRecDepth 100000
set_option maxHeartbeats 4000000
/-! sorted of lists and tuples that read as data -/
namespace K28
open PySem PySem.Spec PyProof.Rows L2 LamX PySem.W PySem.Calls

section
variable {prog : Program} {w : World} {A : Around} {E : Value → Shared → Prop} {s : Shared}
theorem collect_tuple {l : Addr} {vs : List Value} {Q : List Value → Shared → Prop} (hl : IsTup s.heap l vs.toArray)
    (h : Q vs { s with heap := (s.heap.push (seqObj "list" #[] 0)).update s.heap.objs.size (Obj.mapSeq (· ++ vs.toArray)) }) (hsz : vs.length ≤ sizeLine) :
    wpAny (model prog w) A (collect (.ref l)) Q E s := by
  obtain ⟨o, ho, hc, n, hd⟩ := id hl
  unfold collect
  refine wpAny_bind (wpAny_runValue (codeAny_builtin entry_proto_collect' ?_))
  show wpAny _ _ (do again (.builtin "list.__iadd__" ⟨[← newList [], .ref l], []⟩)) _ _ s
  refine wpAny_bind (wpAny_newList (wpAny_pure ⟨Code.quiet_builtin _ (by decide +kernel), codeAny_builtin entry_list_iadd' ?_⟩))
  show wpAny _ _ (Builtin.List.listExtendWith (.ref s.heap.objs.size) (.ref l) (.ref s.heap.objs.size)) _ _ { s with heap := s.heap.push (seqObj "list" #[] 0) }
  unfold Builtin.List.listExtendWith
  have ho' : (s.heap.push (seqObj "list" #[] 0)).get? l = some o := Heap.get?_push_of_some _ ho
  refine wpAny_bind (wpAny_typeOf (T := "tuple") ⟨o, ho', hc⟩ ?_)
  have ht : (Value.type "tuple" == Value.type "tuple") = true := by rfl
  rw [if_pos (by rw [ht]; simp)]
  refine wpAny_bind (listItems_at ho' hd ?_)
  refine wpAny_bind (listItems_at (xs := #[]) (n := 0) (Heap.get?_push_size _ rfl) rfl ?_)
  rw [if_neg (by simp)]
  refine wpAny_bind (listUpdate_at (xs := #[]) (n := 0) (Heap.get?_push_size _ rfl) rfl ?_ (Nat.zero_le _) (by show (#[] ++ vs.toArray).size ≤ sizeLine + 1; simp only [Array.size_append, List.size_toArray, List.length_nil]; omega))
  refine wpAny_pure ?_
  show wpAny (model prog w) A (do
      let o ← load s.heap.objs.size
      match o.data with
      | .seq xs _ => pure xs.toList
      | _ => unsupported "internal:collect") Q E { s with heap := (s.heap.push (seqObj "list" #[] 0)).update s.heap.objs.size (Obj.mapSeq (· ++ vs.toArray)) }
  refine wpAny_bind (wpAny_load (get?_update_seq (Heap.get?_push_size _ rfl) _) ?_)
  show wpAny _ _ (pure ((#[] : Array Value) ++ vs.toArray).toList) Q E _
  rw [show ((#[] : Array Value) ++ vs.toArray).toList = vs by simp]
  exact wpAny_pure h

theorem sorted_of_sortT {l : Addr} {vs : List Value} {kw : List (Str × Value)} {Q : Value → Shared → Prop} (hl : IsTup s.heap l vs.toArray) (hL : vs.length ≤ sizeLine) (ha1 : argsOk "sorted" ⟨[.ref l], kw⟩) (ha2 : ∀ x, argsOk "list.sort" ⟨[.ref x], kw⟩)
    (body : ∀ E' : Value → Shared → Prop, wpAny (model prog w) A.in1.in1 (Builtin.«list.sort» ⟨[.ref (s.heap.objs.size + 1)], kw⟩) (fun f s' => f = .done (.ret .none) ∧ Q (.ref (s.heap.objs.size + 1)) s') E' { s with heap := copyHeap s.heap vs }) :
    wpAny (model prog w) A (call (.builtin "sorted") [.ref l] kw) Q E s := by
  refine call_function_entry_kw kind_sorted plain_sorted entry_sorted ha1 ?_
  unfold Builtin.«sorted»
  refine wpAny_bind (m := checkCount "sorted" 1 1 _) (wpAny_pure ?_)
  refine wpAny_bind (collect_tuple hl ?_ hL)
  refine wpAny_bind (wpAny_newList ?_ hL)
  have hsz : ((s.heap.push (seqObj "list" #[] 0)).update s.heap.objs.size (Obj.mapSeq (· ++ vs.toArray))).objs.size = s.heap.objs.size + 1 := by
    rw [Heap.size_update, size_push']
  show wpAny _ _ _ _ _ { s with heap := copyHeap s.heap vs }
  rw [hsz]
  refine wpAny_bind (wpAny_holding (wpAny_call_entry_kw slot_list_sort ⟨_, copyHeap_at s.heap vs, rfl⟩ entry_list_sort ?body (ha2 _)))
  case body =>
    show wpAny (model prog w) A.in1.in1 (Builtin.«list.sort» ⟨[.ref (s.heap.objs.size + 1)], kw⟩) _ _ _
    refine wpAny_mono (body _) (fun f s' hf => ?_) fun _ _ e => e
    obtain ⟨rfl, hq⟩ := hf
    exact ⟨_, rfl, wpAny_pure ⟨_, rfl, hq⟩⟩

/-- at most one value: any alike data -/
theorem sortsAt_short {vs : List Value} {ds : List PyData} (e : EachIs (fun v d => ∃ as, Reads s.heap v d as) vs ds) (hal : AllAlike ds) (hn : ∀ d ∈ ds, d ≠ .none) (h1 : ds.length ≤ 1) (hu : ∀ d, d ∈ ds → A.units + d.depth < cLine) : SortsAt prog w A s (dataKind s.heap ds) vs := by
  have room : ∀ {d d' : PyData}, d ∈ ds → A.units + min d.depth d'.depth < cLine := fun {d d'} hd => Nat.lt_of_le_of_lt (Nat.add_le_add_left (Nat.min_le_left _ _) _) (hu d hd)
  refine ⟨fun v hv => ?_, general', ?_, fun h2 => ?_⟩
  · obtain ⟨d, hd, as, r⟩ := e.left v hv
    exact ⟨_, dataKind_some hal hd r⟩
  · intro E x y a b Q ha hb hq
    obtain ⟨d, as, hd, ra, rfl⟩ := dataKind_inv ha
    obtain ⟨d', as', hd', rb, rfl⟩ := dataKind_inv hb
    show wpAny _ _ (oneLt' false x y) _ _ _
    exact oneLt_alike (fun z => Bool.noConfusion z) ra rb (hal d hd d' hd') (hn d hd) (room hd) hq
  · have q := e.length
    omega
end

/-! ### V and data together -/
/-- items and their data, sorted by a key of the data -/
def sortV (k : PyData → PyData) (xs : List V) (ds : List PyData) : List V := ((xs.zip ds).mergeSort (dataLe false fun p => k p.2)).map (·.1)
theorem RpL.zip {m : Md} {H : Hp} : ∀ {xs : List V} {ds : List PyData}, RpL m H xs ds → ∀ p ∈ xs.zip ds, Rp m H p.1 p.2
  | _, _, .nil => fun p hp => by cases hp
  | _, _, .cons r t => fun p hp => by
    rcases List.mem_cons.mp hp with rfl | hp
    · exact r
    · exact RpL.zip t p hp
theorem RpL.unzip {m : Md} {H : Hp} : ∀ {l : List (V × PyData)}, (∀ p ∈ l, Rp m H p.1 p.2) → RpL m H (l.map (·.1)) (l.map (·.2))
  | [], _ => .nil
  | p :: l, h => .cons (h p List.mem_cons_self) (RpL.unzip fun q hq => h q (List.mem_cons_of_mem _ hq))
theorem RpL.sort {m : Md} {H : Hp} {xs : List V} {ds : List PyData} (k : PyData → PyData) (r : RpL m H xs ds) : RpL m H (sortV k xs ds) (ds.mergeSort (dataLe false k)) := by
  have e : (((xs.zip ds).mergeSort (dataLe false fun p => k p.2)).map (·.2)) = ds.mergeSort (dataLe false k) := by
    rw [sort_maps (r := dataLe false fun p : V × PyData => k p.2) (s := dataLe false k) (fun p : V × PyData => p.2) (fun _ _ _ _ => rfl)]
    rw [List.map_snd_zip (by rw [r.length]; exact Nat.le_refl _)]
  have q := RpL.unzip (m := m) (H := H) (l := (xs.zip ds).mergeSort (dataLe false fun p => k p.2)) fun p hp => r.zip p ((List.mergeSort_perm _ _).mem_iff.mp hp)
  rw [e] at q
  exact q
theorem sortV_length {k : PyData → PyData} {xs : List V} {ds : List PyData} (h : xs.length = ds.length) : (sortV k xs ds).length = xs.length := by
  unfold sortV
  rw [List.length_map, List.length_mergeSort, List.length_zip]
  omega
/-- each value, with what it stands for -/
theorem each_zip {h : Heap} : ∀ {xs : List V} {us : List Value} {ds : List PyData} {as : List Addr}, Vals xs us → ReadsAll h us ds as → EachIs (fun (u : Value) (p : V × PyData) => RelV p.1 u ∧ ∃ as, Reads h u p.2 as) us (xs.zip ds)
  | _, _, _, _, .nil, .nil => .nil
  | _, _, _, _, .cons r t, .cons q s => .cons ⟨r, _, q⟩ (each_zip t s)
theorem vals_of_each {l : List (V × PyData)} : ∀ {us : List Value}, EachIs (fun (u : Value) (p : V × PyData) => RelV p.1 u) us l → Vals (l.map (·.1)) us := by
  induction l with
  | nil => intro us h; cases h; exact .nil
  | cons p l ih => intro us h; cases h with | cons r t => exact .cons r (ih t)

section
variable {X : Cx}
def rSortG (K : PySem.W.Frag) : List V → Hp → VK → Prop := fun vs H Q => ∃ (a : Addr) (xs : List V) (ds : List PyData), vs = [V.ref a] ∧ (SqL K H a xs ∨ SqT K H a xs) ∧ DpAll K H xs ds ∧ AllAlike ds ∧ (Sortable ds ∨ (ds.length ≤ 1 ∧ ∀ d ∈ ds, d ≠ .none)) ∧ (∀ d ∈ ds, d.depth ≤ 60) ∧
  ∀ p, H p = none → Q (.ref p) (upd H p (.lst (sortV id xs ds)))
theorem cr_sortG (hu : X.A.units + 64 < cLine) : CallR X (.builtin "sorted") (rSortG X.K) := by
  intro pins s σ H vs us Q I r h
  obtain ⟨a, xs, ds, rfl, hs, hd, hal, hk, hdep, q⟩ := h
  rw [Vals.ref1 r]
  obtain ⟨its, rv, hl, hz⟩ : ∃ its : List Value, Vals xs its ∧ (s.heap.IsList a its.toArray ∨ IsTup s.heap a its.toArray) ∧ xs.length ≤ sizeLine := by
    rcases hs with hs | hs
    · obtain ⟨its, rv, hl, hz⟩ := I.list hs
      exact ⟨its, rv, .inl hl.isList, hz⟩
    · obtain ⟨its, rv, hl, hz⟩ := I.tuple hs
      exact ⟨its, rv, .inr hl, hz⟩
  obtain ⟨as, hr⟩ := Dp.readsAll I ds xs its hd rv
  have lenV := rv.length
  have lenD : its.length = ds.length := SeqAt.ReadsAll.length _ _ _ hr
  have ez := each_zip rv hr
  have esnd : (xs.zip ds).map (·.2) = ds := List.map_snd_zip (by omega)
  have fin : ∀ out : List Value, out.length = (xs.zip ds).length → EachIs (fun (u : Value) (p : V × PyData) => RelV p.1 u) out ((xs.zip ds).mergeSort (dataLe false fun p => p.2)) →
      EP X pins σ Q (.ref (s.heap.objs.size + 1)) { s with heap := PyProof.Rows.sortedAll s.heap its (List.toArray out) } := fun out hlo he => by
    obtain ⟨ep, he'⟩ := PyProof.Rows.sortedAll_at s.heap its out.toArray
    have hv : Vals (sortV id xs ds) out := vals_of_each he
    have hlen : (sortV id xs ds).length ≤ sizeLine := by rw [sortV_length (by omega)]; exact hz
    exact ⟨.ref _, upd H (s.heap.objs.size + 1) (.lst (sortV id xs ds)), I.laid (t' := s.toks) (fun _ _ => PyProof.Rows.sortedAll_old) (Nat.le_succ _) ⟨hlen, out, ep, hv, he'⟩, rfl, q _ (I.hok.fresh (Nat.le_succ _))⟩
  have er' : EachIs (fun u (p : V × PyData) => ∃ as, Reads (sortingHeap (copyHeap s.heap its) (s.heap.objs.size + 1) its) u p.2 as) its (xs.zip ds) := ez.mono fun _ _ ⟨_, as, r⟩ => ⟨as, PyProof.Rows.Reads.keeps (fun _ _ => sorting_copy_old) r⟩
  have er2 : EachIs (fun u (d : PyData) => ∃ as, Reads (sortingHeap (copyHeap s.heap its) (s.heap.objs.size + 1) its) u d as) its ds := by
    have q := each_map (R := fun u (d : PyData) => ∃ as, Reads (sortingHeap (copyHeap s.heap its) (s.heap.objs.size + 1) its) u d as) (fun p : V × PyData => p.2) er'
    rw [esnd] at q
    exact q
  have hu2 : ∀ d, d ∈ ds → X.A.in1.in1.units + d.depth < cLine := fun d hd => by
    have h1 := hdep d hd
    have e : X.A.in1.in1.units = X.A.units + 2 := rfl
    rw [e]; omega
  have S : SortsAt X.prog X.w X.A.in1.in1 { s with heap := sortingHeap (copyHeap s.heap its) (s.heap.objs.size + 1) its } (dataKind (sortingHeap (copyHeap s.heap its) (s.heap.objs.size + 1) its) ds) its := by
    rcases hk with hk | ⟨hk, hn⟩
    · exact SortsAt.data (s := { s with heap := sortingHeap (copyHeap s.heap its) (s.heap.objs.size + 1) its }) er2 hal hk hu2
    · exact sortsAt_short (s := { s with heap := sortingHeap (copyHeap s.heap its) (s.heap.objs.size + 1) its }) er2 hal hn hk hu2
  have hsv : EachIs (fun (u : Value) (p : V × PyData) => RelV p.1 u) (sortVals (dataKind (sortingHeap (copyHeap s.heap its) (s.heap.objs.size + 1) its) ds) false its its) ((xs.zip ds).mergeSort (dataLe false fun p => p.2)) := by
    have q := sortVals_data (R := fun (u : Value) (p : V × PyData) => RelV p.1 u) (enc := fun p : V × PyData => p.2) false (ez.mono fun _ _ x => x.1) er' (by rw [esnd]; exact hal)
    rw [esnd] at q
    exact q
  have hlo : (sortVals (dataKind (sortingHeap (copyHeap s.heap its) (s.heap.objs.size + 1) its) ds) false its its).length = (xs.zip ds).length := by rw [sortVals_length false rfl, List.length_zip]; omega
  rcases hl with hl | hl
  · exact sorted_vals hl S (by omega) (fin _ hlo hsv)
  · exact sorted_of_sortT hl (by omega) (args_sorted1 _) (fun _ => args_list_sort _) fun _ => list_sort_vals (s := { s with heap := copyHeap s.heap its }) (copyHeap_at s.heap its) S (by omega) ⟨rfl, fin _ hlo hsv⟩
end

section
variable {T : List (Addr × Str)} {env : List En} {K : PySem.W.Frag} {te : TE} {m : Md}
theorem ed_sortG {ds : List PyData} (h : ED T env te (.m m (.list ds)) ∨ ED T env te (.m m (.tuple ds))) (hal : AllAlike ds) (hk : Sortable ds ∨ (ds.length ≤ 1 ∧ ∀ d ∈ ds, d ≠ .none)) (hd : ∀ d ∈ ds, d.depth ≤ 60) :
    ED T env (tCB (rSortG K) (tCons te tNil)) (.m m (.list (ds.mergeSort (dataLe false id)))) := fun S H σ c Q q => by
  have fin : ∀ a xs H1, Gd T H H1 → (SqL K H1 a xs ∨ SqT K H1 a xs) → RpL m (hide S H1) xs ds → rSortG K [.ref a] H1 Q := fun a xs H1 g1 hs hr =>
    ⟨a, xs, ds, rfl, hs, (hr.up hide_le).dp, hal, hk, hd, fun p hp => q _ _ (g1.trans (Gd.new g1.tab hp)) (new_lst (c.up g1).dom hp (hr.sort id))⟩
  rcases h with h | h
  · refine h S H σ c _ fun v H1 g1 r1 => ?_
    obtain ⟨a, xs, rfl, h1, h2⟩ := Rp.listInv (show Rp m _ v _ from r1)
    exact fin a xs H1 g1 (.inl (SqL.of (hide_le _ _ h1 fun ps z => by cases z))) h2
  · refine h S H σ c _ fun v H1 g1 r1 => ?_
    obtain ⟨a, xs, rfl, h1, h2⟩ := Rp.tupInv (show Rp m _ v _ from r1)
    exact fin a xs H1 g1 (.inr (h1.up hide_le).sq) h2
end
end K28
set_option Elab.async false
set_option linter.all false
set_option maxRecDepth 100000
set_option maxHeartbeats 4000000
/-! comprehensions, calls of built-ins, statements -/
namespace K28
open PySem PySem.Spec PyProof.Rows L2 LamX

theorem wipe_get (σ : L2.St) (i : Nat) : ∀ vs : List Nat, (L2.wipe σ vs)[i]? = if i ∈ vs then σ[i]?.map (fun _ => (none : Option V)) else σ[i]?
  | [] => by rw [if_neg (by simp)]; rfl
  | v :: vs => by
    have ih := wipe_get σ i vs
    show ((L2.wipe σ vs).set v none)[i]? = _
    rw [List.getElem?_set]
    by_cases hv : v = i
    · subst hv
      rw [if_pos rfl, if_pos List.mem_cons_self, wipe_length]
      by_cases hl : v < σ.length
      · rw [if_pos hl, List.getElem?_eq_getElem hl]; rfl
      · rw [if_neg hl, List.getElem?_eq_none (by omega)]; rfl
    · rw [if_neg hv, ih]
      by_cases hm : i ∈ vs
      · rw [if_pos hm, if_pos (List.mem_cons_of_mem _ hm)]
      · rw [if_neg hm, if_neg (by intro z; rcases List.mem_cons.mp z with z | z; exact hv z.symm; exact hm z)]
theorem wipe_set {σ : L2.St} {j : Nat} {o : Option V} {vs : List Nat} (h : j ∈ vs) : L2.wipe (σ.set j o) vs = L2.wipe σ vs := by
  apply List.ext_getElem?
  intro i
  rw [wipe_get, wipe_get, List.getElem?_set]
  by_cases hi : j = i
  · subst hi
    rw [if_pos h, if_pos h, if_pos rfl]
    by_cases hl : j < σ.length
    · rw [if_pos hl, List.getElem?_eq_getElem hl]; rfl
    · rw [if_neg hl, List.getElem?_eq_none (by omega)]
  · rw [if_neg hi]
theorem wipe_wipe (σ : L2.St) (vs : List Nat) : L2.wipe (L2.wipe σ vs) vs = L2.wipe σ vs := by
  apply List.ext_getElem?
  intro i
  rw [wipe_get, wipe_get]
  by_cases h : i ∈ vs
  · rw [if_pos h, if_pos h]
    cases σ[i]? <;> rfl
  · rw [if_neg h, if_neg h]

theorem hide_grow {S : List Addr} {H1 H' : Hp} {p : Addr} (hp : H1 p = none) (e : ExtN H1 H') : ExtN (hide S H1) (hide (p :: S) H') := fun b o h n => by
  by_cases hb : b ∈ S
  · rw [hide_in hb] at h; cases h
  · rw [hide_out hb] at h
    rw [hide_out (by intro z; rcases List.mem_cons.mp z with z | z; · subst z; rw [hp] at h; cases h
                     · exact hb z)]
    exact e b o h n
theorem Dom.cons {S : List Addr} {H : Hp} {p : Addr} {xs : List V} (d : Dom S H) (h : H p = some (.lst xs)) : Dom (p :: S) H := fun a ha => by
  rcases List.mem_cons.mp ha with z | z
  · subst z; exact ⟨_, h, nt_lst _⟩
  · exact d a z
theorem Gd.mut {T : List (Addr × Str)} {H1 H' : Hp} {p : Addr} {o : HO} {xs : List V} (hp : H1 p = none) (g : Gd T H1 H') (hx : H' p = some (.lst xs)) (n : ∀ ps, o ≠ .tbl ps) : Gd T H1 (upd H' p o) := by
  refine ⟨fun b u e nu => ?_, fun q hq => ?_⟩
  · have hb : b ≠ p := fun z => by rw [z, hp] at e; cases e
    rw [upd_ne hb]; exact g.ext b u e nu
  · obtain ⟨ps, h1, h2, h3⟩ := g.tab q hq
    have hb : ∀ b u, H' b = some u → (∀ ys, u ≠ .lst ys) → b ≠ p := fun b u e nl z => by
      subst z; rw [hx] at e; cases e; exact nl _ rfl
    refine ⟨ps, by rw [upd_ne (hb _ _ h1 fun ys z => by cases z)]; exact h1, h2, fun pos cv hc => ?_⟩
    obtain ⟨c, e1, e2⟩ := h3 pos cv hc
    exact ⟨c, e1, by rw [upd_ne (hb _ _ e2 fun ys z => by unfold CodeO at z; cases z)]; exact e2⟩

section
variable {T : List (Addr × Str)} {env : List En} {K : PySem.W.Frag} {ta tb te tx tl : TE} {t u tt : TT} {aa ar : TA} {g : TG} {vs : List Nat} {β : Type} {bs : List β} {enc : β → PyData} {env2 : β → List En} {p : β → Bool} {f : β → PyData} {m m' : Md}

/-- what a comprehension's target does -/
def EG (T : List (Addr × Str)) (env : List En) (g : TG) (vs : List Nat) (m : Md) (d : PyData) (env2 : List En) : Prop :=
  ∀ S H σ, At T S H σ env → ∀ v, Rp m (hide S H) v d → ∀ Q : L2.St → Hp → Prop, (∀ σ2, L2.wipe σ2 vs = L2.wipe σ vs → At T S H σ2 env2 → Q σ2 H) → g v (L2.wipe σ vs) H Q
theorem eg_name {j : Nat} {d : PyData} (hj : j ∈ vs) : EG T env (gName j) vs m d ((wipeE env vs).set j (.m m d)) := fun S H σ c v r Q q =>
  q _ (by rw [wipe_set hj, wipe_wipe]) ((c.wipe vs).set (e := .m m d) r j)
theorem eg_pair {i j : Nat} {d e : PyData} (hi : i ∈ vs) (hj : j ∈ vs) : EG T env (gTup K 2 (gCons (gName i) (gCons (gName j) gNil))) vs m (.tuple [d, e]) (((wipeE env vs).set i (.m m d)).set j (.m m e)) := fun S H σ c v r Q q => by
  obtain ⟨a, xs, rfl, h1, h2⟩ := Rp.tupInv r
  cases h2 with
  | cons r1 h2 =>
    cases h2 with
    | cons r2 h2 =>
      cases h2
      exact ⟨a, _, rfl, (h1.up hide_le).sq, rfl, _, _, rfl, _, _, rfl, rfl, q _ (by rw [wipe_set hj, wipe_set hi, wipe_wipe]) (((c.wipe vs).set (e := .m m d) r1 i).set (e := .m m e) r2 j)⟩

/-- what stands between two turns of a comprehension -/
def LcP (T : List (Addr × Str)) (m' : Md) (S : List Addr) (H1 : Hp) (D : Addr) (bs : List β) (p : β → Bool) (f : β → PyData) (i : Nat) (H' : Hp) : Prop :=
  Gd T H1 H' ∧ ∃ acc, H' D = some (.lst acc) ∧ RpL m' (hide (D :: S) H') acc (((bs.take i).filter p).map f)
theorem lcp_zero {S : List Addr} {H1 : Hp} {D : Addr} (t1 : Tabs T H1) (hD : H1 D = none) : LcP T m' S H1 D bs p f 0 (upd H1 D (.lst [])) :=
  ⟨Gd.new t1 hD, [], upd_same, .nil⟩
theorem lcp_at {S : List Addr} {H1 H' : Hp} {D : Addr} {σ : L2.St} {i : Nat} (c : At T S H1 σ env) (hD : H1 D = none) (P : LcP T m' S H1 D bs p f i H') : At T (D :: S) H' σ env := by
  obtain ⟨g, acc, h1, _⟩ := P
  exact ⟨(c.dom.ext g.ext).cons h1, g.tab, c.fit.up (hide_grow hD g.ext)⟩
theorem lcp_turn {S : List Addr} {H1 H' : Hp} {D : Addr} {σ : L2.St} {i : Nat} {b : β} {v : V} (c : At T S H1 σ env) (hD : H1 D = none) (hz : bs.length ≤ 40000) (hb : bs[i]? = some b) (P : LcP T m' S H1 D bs p f i H')
    (rv : Rp m (hide (D :: S) H') v (enc b)) (hg : EG T env g vs m (enc b) (env2 b)) (ht : ET T (env2 b) tt (p b)) (he : p b = true → ED T (env2 b) te (.m m' (f b))) :
    g v (L2.wipe σ vs) H' fun σ2 H2 => L2.wipe σ2 vs = L2.wipe σ vs ∧ tt σ2 H2 fun b H3 =>
      if b = true then te σ2 H3 fun y H4 => ∃ acc, H4 D = some (.lst acc) ∧ acc.length < sizeLine ∧ LcP T m' S H1 D bs p f (i + 1) (upd H4 D (.lst (acc ++ [y]))) else LcP T m' S H1 D bs p f (i + 1) H3 := by
  have c' := lcp_at c hD P
  obtain ⟨g0, acc, hacc, racc⟩ := P
  refine hg _ _ _ c' v rv _ fun σ2 e2 c2 => ⟨e2, ht _ _ _ c2 _ fun H3 g3 => ?_⟩
  have htk : bs.take (i + 1) = bs.take i ++ [b] := by rw [List.take_add_one, hb]; rfl
  have hacc3 : H3 D = some (.lst acc) := g3.ext _ _ hacc fun ps z => by cases z
  cases hp : p b with
  | true =>
    show te σ2 H3 fun y H4 => _
    refine he hp _ _ _ (c2.up g3) _ fun y H4 g4 r4 => ?_
    have hacc4 : H4 D = some (.lst acc) := g4.ext _ _ hacc3 fun ps z => by cases z
    refine ⟨acc, hacc4, ?_, Gd.mut hD ((g0.trans g3).trans g4) hacc4 (fun ps z => by cases z), _, upd_same, ?_⟩
    · rw [racc.length, List.length_map]
      refine smallS (Nat.lt_of_le_of_lt (List.length_filter_le _ _) ?_)
      rw [List.length_take]
      omega
    · rw [hide_upd List.mem_cons_self, htk, List.filter_append, List.map_append, List.filter_cons, if_pos hp]
      exact (racc.up (hide_ext (g3.trans g4).ext)).snoc r4
  | false =>
    show LcP T m' S H1 D bs p f (i + 1) H3
    refine ⟨g0.trans g3, acc, hacc3, ?_⟩
    rw [htk, List.filter_append, List.map_append, List.filter_cons, if_neg (by rw [hp]; decide)]
    show RpL m' _ _ (_ ++ [])
    rw [List.append_nil]
    exact racc.up (hide_ext g3.ext)
theorem lcp_end {S : List Addr} {H1 H' : Hp} {D : Addr} (d : Dom S H1) (hD : H1 D = none) {n : Nat} (hn : n = bs.length) (P : LcP T m' S H1 D bs p f n H') : Gd T H1 H' ∧ Rp m' (hide S H') (.ref D) (.list ((bs.filter p).map f)) := by
  obtain ⟨g0, acc, hacc, racc⟩ := P
  rw [hn, List.take_of_length_le (Nat.le_refl _)] at racc
  exact ⟨g0, .lst (by rw [hide_out (d.nin hD)]; exact hacc) (racc.up (hide_more fun b hb => List.mem_cons_of_mem _ hb))⟩
theorem get_map {xs : List V} {H : Hp} {i : Nat} {x : V} (h2 : RpL m H xs (bs.map enc)) (hx : xs[i]? = some x) : ∃ b, bs[i]? = some b ∧ b ∈ bs ∧ Rp m H x (enc b) := by
  obtain ⟨d, e1, r⟩ := h2.getV hx
  rw [List.getElem?_map] at e1
  cases q : bs[i]? with
  | none => rw [q] at e1; cases e1
  | some b =>
    rw [q] at e1
    have e2 : enc b = d := Option.some.inj e1
    exact ⟨b, rfl, List.mem_of_getElem? q, by rw [e2]; exact r⟩
theorem ed_lcLG (h : ED T env tl (.m m (.list (bs.map enc)))) (hz : bs.length ≤ 40000) (hg : ∀ b ∈ bs, EG T env g vs m (enc b) (env2 b)) (ht : ∀ b ∈ bs, ET T (env2 b) tt (p b)) (he : ∀ b ∈ bs, p b = true → ED T (env2 b) te (.m m' (f b))) :
    ED T env (tLc (iList K tl) g tt te vs) (.m m' (.list ((bs.filter p).map f))) := fun S H σ c Q q => h S H σ c _ fun v H1 g1 r1 => by
  obtain ⟨a, xs, rfl, h1, h2⟩ := Rp.listInv (show Rp m _ v _ from r1)
  have h1' : H1 a = some (.lst xs) := hide_le _ _ h1 fun ps z => by cases z
  have c1 := c.up g1
  refine ⟨a, rfl, ⟨xs, SqL.of h1'⟩, fun D hD => lc_list (xs := xs) (LcP T m' S H1 D bs p f) (lcp_zero g1.tab hD) (fun i H' _ P => SqL.of (P.1.ext _ _ h1' fun ps z => by cases z)) (fun i x H' hx P => ?_) fun H' P => ?_⟩
  · obtain ⟨b, e1, hm, r⟩ := get_map h2 hx
    exact lcp_turn c1 hD hz e1 P (r.up (hide_grow hD P.1.ext)) (hg b hm) (ht b hm) (he b hm)
  · obtain ⟨g2, r2⟩ := lcp_end c1.dom hD (by rw [h2.length, List.length_map]) P
    exact q _ H' (g1.trans g2) r2
theorem ed_lcTG (h : ED T env tl (.m m (.tuple (bs.map enc)))) (hz : bs.length ≤ 40000) (hg : ∀ b ∈ bs, EG T env g vs m (enc b) (env2 b)) (ht : ∀ b ∈ bs, ET T (env2 b) tt (p b)) (he : ∀ b ∈ bs, p b = true → ED T (env2 b) te (.m m' (f b))) :
    ED T env (tLc (iTup K tl) g tt te vs) (.m m' (.list ((bs.filter p).map f))) := fun S H σ c Q q => h S H σ c _ fun v H1 g1 r1 => by
  obtain ⟨a, xs, rfl, h1, h2⟩ := Rp.tupInv (show Rp m _ v _ from r1)
  have h1' : TupAt m H1 a xs := h1.up hide_le
  have c1 := c.up g1
  refine ⟨a, rfl, ⟨xs, h1'.sq⟩, fun D hD => lc_tup (xs := xs) (LcP T m' S H1 D bs p f) (lcp_zero g1.tab hD) (fun i H' _ P => (h1'.up P.1.ext).sq) (fun i x H' hx P => ?_) fun H' P => ?_⟩
  · obtain ⟨b, e1, hm, r⟩ := get_map h2 hx
    exact lcp_turn c1 hD hz e1 P (r.up (hide_grow hD P.1.ext)) (hg b hm) (ht b hm) (he b hm)
  · obtain ⟨g2, r2⟩ := lcp_end c1.dom hD (by rw [h2.length, List.length_map]) P
    exact q _ H' (g1.trans g2) r2
theorem et_yes : ET T env tYes true := fun S H σ c Q q => q H c.gd
theorem filter_yes {l : List β} : l.filter (fun _ => true) = l := List.filter_eq_self.mpr fun _ _ => rfl
/-- name targets; with a test, without one -/
theorem ed_lcL {j : Nat} (p : β → Bool) (f : β → PyData) (h : ED T env tl (.m m (.list (bs.map enc)))) (hj : j ∈ vs) (hz : bs.length ≤ 40000) (ht : ∀ b ∈ bs, ET T ((wipeE env vs).set j (.m m (enc b))) tt (p b)) (he : ∀ b ∈ bs, p b = true → ED T ((wipeE env vs).set j (.m m (enc b))) te (.m m' (f b))) :
    ED T env (tLc (iList K tl) (gName j) tt te vs) (.m m' (.list ((bs.filter p).map f))) := ed_lcLG h hz (fun b _ => eg_name hj) ht he
theorem ed_lcT {j : Nat} (p : β → Bool) (f : β → PyData) (h : ED T env tl (.m m (.tuple (bs.map enc)))) (hj : j ∈ vs) (hz : bs.length ≤ 40000) (ht : ∀ b ∈ bs, ET T ((wipeE env vs).set j (.m m (enc b))) tt (p b)) (he : ∀ b ∈ bs, p b = true → ED T ((wipeE env vs).set j (.m m (enc b))) te (.m m' (f b))) :
    ED T env (tLc (iTup K tl) (gName j) tt te vs) (.m m' (.list ((bs.filter p).map f))) := ed_lcTG h hz (fun b _ => eg_name hj) ht he
theorem ed_lcL1 {j : Nat} (f : β → PyData) (h : ED T env tl (.m m (.list (bs.map enc)))) (hj : j ∈ vs) (hz : bs.length ≤ 40000) (he : ∀ b ∈ bs, ED T ((wipeE env vs).set j (.m m (enc b))) te (.m m' (f b))) :
    ED T env (tLc (iList K tl) (gName j) tYes te vs) (.m m' (.list (bs.map f))) := by
  have q := ed_lcL (K := K) (fun _ => true) f h hj hz (fun b _ => et_yes) (fun b hb _ => he b hb)
  rw [filter_yes] at q
  exact q
theorem ed_lcT1 {j : Nat} (f : β → PyData) (h : ED T env tl (.m m (.tuple (bs.map enc)))) (hj : j ∈ vs) (hz : bs.length ≤ 40000) (he : ∀ b ∈ bs, ED T ((wipeE env vs).set j (.m m (enc b))) te (.m m' (f b))) :
    ED T env (tLc (iTup K tl) (gName j) tYes te vs) (.m m' (.list (bs.map f))) := by
  have q := ed_lcT (K := K) (fun _ => true) f h hj hz (fun b _ => et_yes) (fun b hb _ => he b hb)
  rw [filter_yes] at q
  exact q
/-- over range(n) -/
theorem ed_lcR1 {j : Nat} {n : Nat} (f : Nat → PyData) (h : EA T env aa m [.int (n : Int)]) (hj : j ∈ vs) (hz : n ≤ 40000) (he : ∀ i, i < n → ED T ((wipeE env vs).set j (.m m (.int (i : Int)))) te (.m m' (f i))) :
    ED T env (tLc (iRng1 aa) (gName j) tYes te vs) (.m m' (.list ((List.range n).map f))) := fun S H σ c Q q => h S H σ c _ fun us H1 g1 r1 => by
  cases r1 with
  | cons r r1 =>
    cases r1
    cases r
    have c1 := c.up g1
    refine ⟨n, rfl, by omega, by omega, fun D hD => lc_range (lo := 0) (n := ((n : Int)).toNat) (LcP T m' S H1 D (List.range n) (fun _ => true) f) (lcp_zero g1.tab hD) (fun i H' hi P => ?_) fun H' P => ?_⟩
    · have hi' : i < n := by omega
      have e0 : (0 : Int) + (i : Int) = (i : Int) := Int.zero_add _
      rw [e0]
      exact lcp_turn (enc := fun i : Nat => PyData.int (i : Int)) (env2 := fun i : Nat => (wipeE env vs).set j (.m m (.int (i : Int)))) (b := i) c1 hD (by rw [List.length_range]; exact hz) (by rw [List.getElem?_range hi']) P (Rp.int _) (eg_name hj) et_yes fun _ => he i hi'
    · obtain ⟨g2, r2⟩ := lcp_end c1.dom hD (by rw [List.length_range]; omega) P
      rw [filter_yes] at r2
      exact q _ H' (g1.trans g2) r2

/-! ### built-ins -/
def rLenD (K : PySem.W.Frag) : List V → Hp → VK → Prop := fun xs H Q => ∃ x n, xs = [x] ∧ LenV K x H n ∧ Q (.int n) H
theorem ed_lenL {ds : List PyData} (h : ED T env te (.m m (.list ds))) : ED T env (tCB (fun xs H Q => ∃ p ys, xs = [V.ref p] ∧ (SqL K H p ys ∨ SqT K H p ys) ∧ Q (.int ys.length) H) (tCons te tNil)) (.d (.int (ds.length : Int))) := fun S H σ c Q q => h S H σ c _ fun v H1 g1 r1 => by
  obtain ⟨a, xs, rfl, h1, h2⟩ := Rp.listInv (show Rp m _ v _ from r1)
  exact ⟨a, xs, rfl, .inl (SqL.of (hide_le _ _ h1 fun ps z => by cases z)), by rw [h2.length]; exact q _ H1 g1 (Rp.int _)⟩
theorem ed_lenT {ds : List PyData} (h : ED T env te (.m m (.tuple ds))) : ED T env (tCB (fun xs H Q => ∃ p ys, xs = [V.ref p] ∧ (SqL K H p ys ∨ SqT K H p ys) ∧ Q (.int ys.length) H) (tCons te tNil)) (.d (.int (ds.length : Int))) := fun S H σ c Q q => h S H σ c _ fun v H1 g1 r1 => by
  obtain ⟨a, xs, rfl, h1, h2⟩ := Rp.tupInv (show Rp m _ v _ from r1)
  exact ⟨a, xs, rfl, .inr (h1.up hide_le).sq, by rw [h2.length]; exact q _ H1 g1 (Rp.int _)⟩
/-- tuple(list), tuple(tuple), list(either) -/
theorem ed_tupL {ds : List PyData} (hm : m ≠ .z) (h : ED T env te (.m m (.list ds))) : ED T env (tCB (fun xs H Q => ∃ p ys, xs = [V.ref p] ∧ ((SqL K H p ys ∧ ∀ l, H l = none → Q (.ref l) (upd H l (.tup ys))) ∨ (SqT K H p ys ∧ Q (.ref p) H))) (tCons te tNil)) (.m m (.tuple ds)) := fun S H σ c Q q => h S H σ c _ fun v H1 g1 r1 => by
  obtain ⟨a, xs, rfl, h1, h2⟩ := Rp.listInv (show Rp m _ v _ from r1)
  exact ⟨a, xs, rfl, .inl ⟨SqL.of (hide_le _ _ h1 fun ps z => by cases z), fun l hl => q _ _ (g1.trans (Gd.new g1.tab hl)) (new_tup (c.up g1).dom hl h2 hm)⟩⟩
theorem ed_listL {ds : List PyData} (h : ED T env te (.m m (.list ds))) : ED T env (tCB (fun xs H Q => ∃ p ys, xs = [V.ref p] ∧ (SqL K H p ys ∨ SqT K H p ys) ∧ ∀ l, H l = none → Q (.ref l) (upd H l (.lst ys))) (tCons te tNil)) (.m m (.list ds)) := fun S H σ c Q q => h S H σ c _ fun v H1 g1 r1 => by
  obtain ⟨a, xs, rfl, h1, h2⟩ := Rp.listInv (show Rp m _ v _ from r1)
  exact ⟨a, xs, rfl, .inl (SqL.of (hide_le _ _ h1 fun ps z => by cases z)), fun l hl => q _ _ (g1.trans (Gd.new g1.tab hl)) (new_lst (c.up g1).dom hl h2)⟩
theorem ed_any {bl : List Bool} (h : ED T env te (.m m (.list (bl.map .bool)))) : ED T env (tCB (rAny K) (tCons te tNil)) (.d (.bool (bl.any id))) := fun S H σ c Q q => h S H σ c _ fun v H1 g1 r1 => by
  obtain ⟨a, xs, rfl, h1, h2⟩ := Rp.listInv (show Rp m _ v _ from r1)
  have e := h2.bools
  subst e
  exact ⟨a, bl, rfl, SqL.of (hide_le _ _ h1 fun ps z => by cases z), q _ H1 g1 (Rp.bl _)⟩
theorem ed_all {bl : List Bool} (h : ED T env te (.m m (.list (bl.map .bool)))) : ED T env (tCB (rAll K) (tCons te tNil)) (.d (.bool (bl.all id))) := fun S H σ c Q q => h S H σ c _ fun v H1 g1 r1 => by
  obtain ⟨a, xs, rfl, h1, h2⟩ := Rp.listInv (show Rp m _ v _ from r1)
  have e := h2.bools
  subst e
  exact ⟨a, bl, rfl, SqL.of (hide_le _ _ h1 fun ps z => by cases z), q _ H1 g1 (Rp.bl _)⟩
/-! ### + of tuples -/
theorem ed_catA {ds es : List PyData} (hm : m ≠ .z) (ha : ED T env ta (.m m (.tuple ds))) (hb : ED T env tb (.m m (.tuple es))) (hz : ds.length + es.length ≤ 100000) : ED T env (tOp (rCatA K) ta tb) (.m m (.tuple (ds ++ es))) := fun S H σ c Q q =>
  ha S H σ c _ fun v H1 g1 r1 => hb S H1 σ (c.up g1) _ fun u H2 g2 r2 => by
    have r1' := Rp.up (show Rp m _ v _ from r1) (hide_ext g2.ext)
    obtain ⟨a, xs, rfl, h1, h2⟩ := Rp.tupInv r1'
    obtain ⟨b, ys, rfl, h3, h4⟩ := Rp.tupInv (show Rp m _ u _ from r2)
    refine ⟨a, b, xs, ys, rfl, rfl, (h1.up hide_le).sq, (h3.up hide_le).sq, by rw [h2.length, h4.length]; exact small hz, fun e => ?_, fun _ e => ?_, fun _ _ p hp => ?_⟩
    · subst e
      cases h2
      exact q _ H2 (g1.trans g2) r2
    · subst e
      cases h4
      refine q _ H2 (g1.trans g2) ?_
      show Rp m _ _ _
      rw [List.append_nil]
      exact r1'
    · exact q _ _ ((g1.trans g2).trans (Gd.new g2.tab hp)) (new_tup ((c.up g1).up g2).dom hp (h2.append h4) hm)
/-! ### dicts of texts -/
theorem KvR.val {H : Hp} : ∀ {kvs : List (Key × V)} {ps : List (Str × PyData)} {x : Str} {d : PyData}, KvR m H kvs ps → (ps.find? fun q => decide (q.1 = x)).map (·.2) = some d → ∃ v, valV kvs (Sum.inr x : Key) = some v ∧ Rp m H v d
  | _, _, x, d, .nil, h => by simp at h
  | (k, v) :: kvs, (y, e) :: ps, x, d, .cons ⟨h1, h2⟩ t, h => by
    have h1 : k = Sum.inr y := h1
    subst h1
    by_cases hx : y = x
    · subst hx
      rw [List.find?_cons, decide_eq_true rfl] at h
      have e1 : e = d := Option.some.inj h
      subst e1
      exact ⟨v, valV_pos rfl, h2⟩
    · rw [List.find?_cons, decide_eq_false (show ¬ (y, e).1 = x from hx)] at h
      obtain ⟨w, e1, e2⟩ := KvR.val t h
      exact ⟨w, by rw [valV_neg (show ¬ (Sum.inr y : Key) = Sum.inr x from fun z => hx (Sum.inr.inj z))]; exact e1, e2⟩
theorem ed_dget {ps : List (Str × PyData)} {x : Str} {d : PyData} (ha : ED T env ta (.k m ps)) (hb : ED T env tb (.m m' (.str x))) (h : (ps.find? fun q => decide (q.1 = x)).map (·.2) = some d) : ED T env (tDGet ta tb) (.m m d) := fun S H σ c Q q =>
  ha S H σ c _ fun v H1 g1 r1 => hb S H1 σ (c.up g1) _ fun u H2 g2 r2 => by
    obtain ⟨a, kvs, rfl, h1, h2⟩ := EnR.up (hide_ext g2.ext) r1
    cases (show Rp m' _ u (.str x) from r2)
    obtain ⟨w, e1, e2⟩ := h2.val h
    exact ⟨a, w, rfl, .inl ⟨kvs, Sum.inr x, .inl (hide_le _ _ h1 fun ps z => by cases z), rfl, e1.symm⟩, q _ H2 (g1.trans g2) e2⟩
end

/-! ### statements -/
section
variable {m m' : Md} {T : List (Addr × Str)} {S : List Addr} {H : Hp} {σ : L2.St} {env : List En} {K : PySem.W.Frag} {ta tb te : TE} {t : TT} {tu tw tz : TS} {D : Ends}
theorem sd_set {i : Nat} {e : En} (c : At T S H σ env) (h : ED T env te e) (k : ∀ σ' H', Gd T H H' → At T S H' σ' (env.set i e) → tz D σ' H') : tSeq (tAsg te (gName i)) tz D σ H :=
  h S H σ c _ fun v H1 g1 r1 => k _ H1 g1 ((c.up g1).set r1 i)
theorem sd_ret {e : En} (c : At T S H σ env) (h : ED T env te e) (k : ∀ v H', Gd T H H' → EnR (hide S H') e v → D.rt v H') : tRet te D σ H := h S H σ c _ fun v H1 g1 r1 => k v H1 g1 r1
theorem sd_if {b : Bool} (c : At T S H σ env) (h : ET T env t b) (h1 : b = true → ∀ H', Gd T H H' → At T S H' σ env → tu { D with nx := tz D } σ H') (h2 : b = false → ∀ H', Gd T H H' → At T S H' σ env → tw { D with nx := tz D } σ H') : tSeq (tIfS t tu tw) tz D σ H :=
  h S H σ c _ fun H1 g1 => by
    cases b with
    | true => exact h1 rfl H1 g1 (c.up g1)
    | false => exact h2 rfl H1 g1 (c.up g1)
theorem sd_ifE {b : Bool} (c : At T S H σ env) (h : ET T env t b) (h1 : b = true → ∀ H', Gd T H H' → At T S H' σ env → tu D σ H') (h2 : b = false → ∀ H', Gd T H H' → At T S H' σ env → tw D σ H') : tIfS t tu tw D σ H :=
  h S H σ c _ fun H1 g1 => by
    cases b with
    | true => exact h1 rfl H1 g1 (c.up g1)
    | false => exact h2 rfl H1 g1 (c.up g1)
/-- a, b = x, y: a tuple is made and taken apart -/
theorem sd_asg2 {i j : Nat} {e e' : En} (c : At T S H σ env) (ha : ED T env ta e) (hb : ED T env tb e') (k : ∀ σ' H', Gd T H H' → At T S H' σ' ((env.set i e).set j e') → tz D σ' H') :
    tSeq (tAsg (tTup (tCons ta (tCons tb tNil))) (gTup K 2 (gCons (gName i) (gCons (gName j) gNil)))) tz D σ H :=
  ha S H σ c _ fun v H1 g1 r1 => hb S H1 σ (c.up g1) _ fun u H2 g2 r2 => by
    refine ⟨small (by decide : 2 ≤ 100000), fun p hp => ?_⟩
    have g3 : Gd T H2 (upd H2 p (.tup [v, u])) := Gd.new g2.tab hp
    exact ⟨p, _, rfl, SqT.of upd_same, rfl, _, _, rfl, _, _, rfl, rfl, k _ _ ((g1.trans g2).trans g3) (((((c.up g1).up g2).up g3).set (EnR.up (hide_ext g3.ext) (EnR.up (hide_ext g2.ext) r1)) i).set (EnR.up (hide_ext g3.ext) r2) j)⟩
theorem sd_par {i j : Nat} {e e' : En} (c : At T S H σ env) (ha : ED T env ta e) (hb : ED T env tb e') (k : ∀ σ' H', Gd T H H' → At T S H' σ' ((env.set i e).set j e') → tz D σ' H') :
    tSeq (tPar i j (tCons ta (tCons tb tNil))) tz D σ H :=
  ha S H σ c _ fun v H1 g1 r1 => hb S H1 σ (c.up g1) _ fun u H2 g2 r2 =>
    ⟨v, u, rfl, k _ _ (g1.trans g2) ((((c.up g1).up g2).set (EnR.up (hide_ext g2.ext) r1) i).set r2 j)⟩
end
/-- a def's entry -/
theorem fit_es {H : Hp} : ∀ {vs : List V} {es : List En} (n : Nat), EnL H vs es → Fit H (vs.map some ++ List.replicate n none) (es ++ List.replicate n .no)
  | _, _, n, .nil => by
    induction n with
    | zero => exact .nil
    | succ n ih => exact .no ih
  | _, _, n, .cons r t => .cons r (fit_es n t)
theorem at_start {T : List (Addr × Str)} {S : List Addr} {H : Hp} {vs : List V} {es : List En} {N : List Str} (d : Dom S H) (t : Tabs T H) (r : EnL (hide S H) vs es) : At T S H (L2.start N vs) (es ++ List.replicate (N.length - es.length) .no) := by
  rw [← r.length]
  exact ⟨d, t, fit_es _ r⟩
end K28
set_option Elab.async false
set_option linter.all false
set_option maxRecDepth 100000
set_option maxHeartbeats 4000000
/-! tuples known with their objects: made, cut, asked; dict(tuple of pairs); tuple(text); t[::-1] -/
namespace K28
open PySem PySem.Spec PyProof.Rows L2 LamX

section
variable {X : Cx} {o e : Expr} {es : List Expr} {to te tb : TE} {t : TA} {name : Str} {apos cpos pos : Pos} {id : String} {r : V → List V → Hp → VK → Prop}
def tBMZ (r : V → List V → Hp → VK → Prop) (to : TE) (t : TA) : TE := fun σ H Q => to σ H fun x H1 => (∃ p ob xs, x = V.ref p ∧ H1 p = some (.frz ob (.tup xs)) ∧ ob.dict = none) ∧ t σ H1 fun xs H2 => r x xs H2 Q
theorem pe_bmZ (pa : PlainAttrs "tuple") (slot : Slot "tuple" name id) (hty : typeOf (.builtin id) = pure (.type "method_descriptor")) (hm : MtR X id r) (ho : PE X o to) (ha : PA X (e :: es) t)
    (hbase : attributeBase o name X.env (eval o X.env) = eval o X.env := by rfl)
    (hfew : ((backTo cpos (starEach (e :: es) X.env)).all (fun x => !x.1) && (backToKw cpos (keywordEach [] X.env)).all (fun x => x.1.isSome)
      && decide ((e :: es).length + ([] : List Keyword).length + (if ([] : List Keyword).isEmpty then 0 else 1) < 30)) = true := by rfl)
    (hline : (apos.endLine == cpos.line) = true := by rfl) (hs : starEach (e :: es) X.env = (false, eval e X.env) :: starEach es X.env := by rfl) (hplain : (backTo cpos (starEach es X.env)).any (·.1) = false := by rfl) :
    PE X (.Call (.Attribute o name apos) (e :: es) [] cpos) (tBMZ r to t) := by
  refine ⟨fun pins s σ H Q I h => ?_⟩
  refine wpAny_Call_method_late hbase hfew hline rfl (thn (ho.run pins s σ H _ I h) fun v s1 ⟨x, H1, I1, r1, ty, q1⟩ => ?_)
  have hh : s1.TypeIs v "tuple" ∧ ∀ a, v = .ref a → ∃ ob, s1.heap.get? a = some ob ∧ ob.dict = none := by
    obtain ⟨p, ob, xs, e1, e2, e3⟩ := ty
    subst e1
    cases r1
    obtain ⟨g1, _, its, _, o', g2, g3, _⟩ := I1.hok p _ e2
    rw [g1] at g2; cases g2
    exact ⟨⟨ob, g1, g3⟩, fun a ea => by cases ea; exact ⟨ob, g1, e3⟩⟩
  refine ⟨"tuple", id, pa, slot, hty, hh.1, hh.2, ?_⟩
  have hA := ha.run cpos pins s1 σ H1 _ I1 q1
  rw [hs] at hA ⊢
  refine Calls.callWith_builtin (by show (false || (backTo cpos (starEach es X.env)).any (·.1)) = false; rw [hplain] <;> rfl) (Calls.evalArgs_plain ?_)
  exact thn hA fun us s2 ⟨vs, H2, I2, r2, q2⟩ => hm pins s2 σ H2 x vs v us Q I2 r1 r2 q2

def tTupZ (t : TA) : TE := fun σ H Q => t σ H fun xs H1 => xs.length ≤ sizeLine ∧ ∀ (p : Addr) (ob : Obj), H1 p = none → ob.dict = none → Q (.ref p) (upd H1 p (.frz ob (.tup xs)))
theorem pe_tupZ {x1} (h : PA X es t) : PE X (.Tuple es x1 pos) (tTupZ t) := by
  refine ⟨fun pins s σ H Q I hq => ?_⟩
  refine wpAny_Tuple_spliced (thn (h.run pos pins s σ H _ I hq) fun us s1 ⟨xs, H1, I1, r, z, q⟩ => ⟨by rw [← r.length]; exact z, ?_⟩)
  have hf : H1 s1.heap.objs.size = none := I1.hok.fresh (Nat.le_refl _)
  refine ⟨.ref s1.heap.objs.size, upd H1 s1.heap.objs.size (.frz { cls := .type "tuple", data := .seq us.toArray } (.tup xs)), I1.laid (t' := s1.toks) (fun b u e => Heap.get?_push_of_some _ e) (Nat.le_refl _) ?_, rfl, q _ _ hf rfl⟩
  exact ⟨Heap.get?_push_size _ rfl, z, us, r, ⟨_, Heap.get?_push_size _ rfl, rfl, _, rfl⟩⟩
theorem call_tuple_ofZ : CallR X (.type "tuple") (fun xs H Q => ∃ p ys, xs = [.ref p] ∧ SqL X.K H p ys ∧ ∀ (l : Addr) (ob : Obj), H l = none → ob.dict = none → Q (.ref l) (upd H l (.frz ob (.tup ys)))) := by
  intro pins s σ H xs us Q I r h
  obtain ⟨p, ys, rfl, hq, q⟩ := h
  obtain ⟨u, rfl, rx⟩ := vals1 r
  cases rx
  obtain ⟨its, r', pl, hz⟩ := I.list hq
  have hlen := r'.length
  refine call_tuple_list pl.isList (fun h' kp => ?_) (by simp only [List.size_toArray] <;> omega)
  have I1 : Inv X pins σ H { s with heap := h' } := I.kept (t' := s.toks) kp
  have I2 : Inv X pins σ (upd H h'.objs.size (.frz { cls := .type "tuple", data := .seq its.toArray } (.tup ys))) { s with heap := h'.push { cls := .type "tuple", data := .seq its.toArray } } :=
    I1.laid (t' := s.toks) (fun b o e => Heap.get?_push_of_some _ e) (Nat.le_refl _) (show ObjOk X.prog X.w _ _ _ (.frz _ (.tup ys)) from ⟨Heap.get?_push_size _ rfl, hz, its, r', IsTup.new _ _⟩)
  exact ⟨.ref h'.objs.size, _, I2, rfl, q _ _ (I1.hok.fresh (Nat.le_refl _)) rfl⟩
def rSlZ (K : PySem.W.Frag) : V → Option Int → Option Int → Hp → VK → Prop := fun x lo hi H Q => ∃ a xs, x = .ref a ∧ SqT K H a xs ∧
  (HT.sIx xs.length 0 lo = 0 ∧ HT.sIx xs.length xs.length hi = xs.length → Q (.ref a) H) ∧ (¬ (HT.sIx xs.length 0 lo = 0 ∧ HT.sIx xs.length xs.length hi = xs.length) → ∀ (p : Addr) (ob : Obj), H p = none → ob.dict = none → Q (.ref p) (upd H p (.frz ob (.tup (cutV xs lo hi)))))
theorem sl_tupZ : SlR X (rSlZ X.K) := by
  intro pins s σ H x v vl vu lo hi sl Q I rx hs pl pu h
  obtain ⟨a, xs, rfl, hx, q1, q2⟩ := h
  cases rx
  obtain ⟨its, r, ht, hz⟩ := I.tuple hx
  have hlen : its.toArray.size = xs.length := by rw [List.size_toArray]; exact r.length.symm
  refine ⟨"tuple", _, PyProof.Rows.slot_tuple_getitem.lookup, ht.typeIs, ?_⟩
  by_cases hw : HT.sIx xs.length 0 lo = 0 ∧ HT.sIx xs.length xs.length hi = xs.length
  · exact L2.getItem_tuple_whole ht hs pl pu (by rw [hlen]; exact hw) ⟨.ref a, H, I, rfl, q1 hw⟩
  · refine HT.getItem_tuple_cut ht hs pl pu (by rw [hlen]; exact hw) ?_ (by rw [hlen]; exact hz)
    rw [hlen]
    refine ⟨.ref s.heap.objs.size, _, I.laid (t' := s.toks) (o := .frz { cls := .type "tuple", data := .seq ((its.toArray.toList.drop (HT.sIx xs.length 0 lo)).take (HT.sIx xs.length xs.length hi - HT.sIx xs.length 0 lo)).toArray } (.tup (cutV xs lo hi))) (fun b ob q => Heap.get?_push_of_some _ q) (Nat.le_refl _) ?_, rfl, q2 hw _ _ (I.hok.fresh (Nat.le_refl _)) rfl⟩
    exact ⟨Heap.get?_push_size _ rfl, Nat.le_trans (cutV_length xs lo hi) hz, _, (r.drop (HT.sIx xs.length 0 lo)).take (HT.sIx xs.length xs.length hi - HT.sIx xs.length 0 lo), IsTup.new _ _⟩

/-! ### dict(t), t a tuple of pairs -/
theorem pairs_ofV {pins : List (Addr × Obj)} {σ : L2.St} {H : Hp} {s : Shared} (I : Inv X pins σ H s) : ∀ {ps : List Addr} {kvs : List (Key × V)}, Paired (fun p kv => SqT X.K H p [kV kv.1, kv.2]) ps kvs →
    ∃ (prs : List (Key × Value)) (pv : List (Value × Value)), KV kvs prs ∧ prs.length = ps.length ∧ pv.length = ps.length ∧ (∀ (j : Nat) (k v : Value), pv[j]? = some (k, v) → ∃ b, ps[j]? = some b ∧ s.heap.IsTuple b #[k, v]) ∧
      ∀ (j : Nat) (k v : Value), pv[j]? = some (k, v) → ∃ key, prs[j]? = some (key, v) ∧ keyIs key k = true
  | _, _, .nil => ⟨[], [], .nil, rfl, rfl, fun j k v e => by simp at e, fun j k v e => by simp at e⟩
  | _, _, .cons (a := p) (b := kv) h t => by
    obtain ⟨prs, pv, r, hl, hl2, hp, hk⟩ := pairs_ofV I t
    obtain ⟨its, rv, ht, _⟩ := I.tuple h
    obtain ⟨u, y, ei, ru, ry⟩ := vals2 rv
    subst ei
    refine ⟨(kv.1, y) :: prs, (u, y) :: pv, .cons ⟨rfl, ry⟩ r, by rw [List.length_cons, List.length_cons, hl], by rw [List.length_cons, List.length_cons, hl2], fun j k v e => ?_, fun j k v e => ?_⟩
    · cases j with
      | zero =>
        have e' : (u, y) = (k, v) := Option.some.inj e
        cases e'
        exact ⟨p, rfl, ht⟩
      | succ j => simpa using hp j k v (by simpa using e)
    · cases j with
      | zero =>
        have e' : (u, y) = (k, v) := Option.some.inj e
        cases e'
        exact ⟨kv.1, rfl, kV_is (P := X.prog) (w := X.w) ru⟩
      | succ j => simpa using hk j k v (by simpa using e)
theorem call_dictZ (hcalm : X.calm = true) : CallR X (.type "dict") (fun xs H Q => ∃ (a : Addr) (ob : Obj) (ps : List Addr) (kvs : List (Key × V)), xs = [.ref a] ∧ H a = some (.frz ob (.tup (ps.map V.ref))) ∧ ob.dict = none ∧ Paired (fun p kv => SqT X.K H p [kV kv.1, kv.2]) ps kvs ∧
    ∀ p, H p = none → Q (.ref p) (upd H p (.dK (mergeK [] kvs)))) := by
  intro pins s σ H xs us Q I r h
  obtain ⟨a, ob, ps, kvs, rfl, hq, hdn, hp, q⟩ := h
  obtain ⟨u, rfl, rx⟩ := vals1 r
  cases rx
  obtain ⟨g1, hz, its, rv, o', g2, g3, n, g4⟩ := I.hok a _ hq
  rw [g1] at g2; cases g2
  have ei := refs_at rv
  subst ei
  rw [List.length_map] at hz
  obtain ⟨prs, pv, rel, hl, hl2, hpr, hkk⟩ := pairs_ofV I hp
  have ok : PySem.PlainSeq "tuple" s.heap a (ps.map Value.ref).toArray ∧ PySem.PairItems s.heap (ps.map Value.ref).toArray (fun j => ps.getD j 0) pv := by
    refine ⟨⟨ob, n, g1, g3, hdn, g4⟩, by simp [hl2], fun j k v e => ?_⟩
    obtain ⟨b, e1, e2⟩ := hpr j k v e
    have e3 : ps.getD j 0 = b := by rw [List.getD_eq_getElem?_getD, e1]; rfl
    refine ⟨by simp [e1], ?_⟩
    show PairAt s.heap (ps.getD j 0) k v
    rw [e3]
    exact .inl e2
  refine PySem.call_dict_pairs (knd := mixKind X.prog X.w) (kvs := prs) (PySem.PairArg.tuple (prog := X.prog) (w := X.w) a (ps.map Value.ref).toArray (fun j => ps.getD j 0) pv) (I.ok.hd hcalm) ok ⟨by rw [hl, hl2], fun i key v e => ?_⟩ (by rw [hl2]; exact hz) fun h' tk hd' k => ?_
  · obtain ⟨kk, e1, e2⟩ := hkk i key v e
    exact ⟨kk, e1, e2⟩
  · have hm : (s.heap.objs.size == sysModules) = false := beq_eq_false_iff_ne.mpr (Nat.ne_of_gt I.big)
    have hlen : (mergeK [] kvs).length ≤ sizeLine := by
      refine Nat.le_trans (length_mergeK kvs []) ?_
      rw [List.length_nil, Nat.zero_add, rel.length, hl]
      exact hz
    exact ⟨.ref s.heap.objs.size, upd H s.heap.objs.size (.dK (mergeK [] kvs)), I.laid (t' := tk) (fun b o e => k b o (by simp) e) (Nat.le_refl _) (show ObjOk X.prog X.w _ _ _ (.dK (mergeK [] kvs)) from ⟨hlen, hm, merged [] prs, KV.merge rel .nil, hd'⟩), rfl, q _ (I.hok.fresh (Nat.le_refl _))⟩
end

/-! ### their readings -/
section
variable {T : List (Addr × Str)} {env : List En} {K : PySem.W.Frag} {ta te tl : TE} {aa : TA} {m m' : Md}
theorem Gd.newF {T : List (Addr × Str)} {H : Hp} {p : Addr} {ob : Obj} {u : HO} (t : Tabs T H) (h : H p = none) : Gd T H (upd H p (.frz ob u)) := Gd.new t h
theorem ed_tupZ {ds : List PyData} (h : EA T env aa m ds) (hm : m ≠ .p) (hl : ds.length ≤ 100000 := by first | decide | (simp; done) | assumption) : ED T env (tTupZ aa) (.m m (.tuple ds)) := fun S H σ c Q q =>
  h S H σ c _ fun vs H1 g1 r1 => ⟨by rw [r1.length]; exact small hl, fun p ob hp hd => q _ _ (g1.trans (Gd.new g1.tab hp)) (new_tupZ (c.up g1).dom hp r1 hd hm)⟩
theorem ed_tupLZ {ds : List PyData} (hm : m ≠ .p) (h : ED T env te (.m m (.list ds))) : ED T env (tCB (fun xs H Q => ∃ p ys, xs = [V.ref p] ∧ SqL K H p ys ∧ ∀ (l : Addr) (ob : Obj), H l = none → ob.dict = none → Q (.ref l) (upd H l (.frz ob (.tup ys)))) (tCons te tNil)) (.m m (.tuple ds)) := fun S H σ c Q q => h S H σ c _ fun v H1 g1 r1 => by
  obtain ⟨a, xs, rfl, h1, h2⟩ := Rp.listInv (show Rp m _ v _ from r1)
  exact ⟨a, xs, rfl, SqL.of (hide_le _ _ h1 fun ps z => by cases z), fun l ob hl hd => q _ _ (g1.trans (Gd.new g1.tab hl)) (new_tupZ (c.up g1).dom hl h2 hd hm)⟩
theorem ed_slZ {tl th : TO} {ds : List PyData} {lo hi : Option Int} (h : ED T env te (.m m (.tuple ds))) (hm : m ≠ .p) (hl : EO T env tl lo) (hh : EO T env th hi) : ED T env (tSl (rSlZ K) te tl th) (.m m (.tuple (cutD ds lo hi))) := fun S H σ c Q q =>
  h S H σ c _ fun v H1 g1 r1 => hl S H1 σ (c.up g1) _ fun H2 g2 => hh S H2 σ ((c.up g1).up g2) _ fun H3 g3 => by
    have r3 := (Rp.up (show Rp m _ v _ from r1) (hide_ext g2.ext)).up (hide_ext g3.ext)
    obtain ⟨a, xs, rfl, h1, h2⟩ := Rp.tupInv r3
    refine ⟨a, xs, rfl, (h1.up hide_le).sq, fun ⟨e1, e2⟩ => ?_, fun _ p ob hp hd => ?_⟩
    · rw [h2.length] at e1 e2
      refine q _ H3 ((g1.trans g2).trans g3) ?_
      show Rp m _ _ _
      rw [cutD_whole e1 e2]
      exact r3
    · exact q _ _ (((g1.trans g2).trans g3).trans (Gd.new g3.tab hp)) (new_tupZ (((c.up g1).up g2).up g3).dom hp (h2.cut lo hi) hd hm)
/-- the first place of a text -/
def ixOf : List Str → Str → Nat
  | [], _ => 0
  | y :: ys, x => if y = x then 0 else ixOf ys x + 1
theorem ixOf_get : ∀ {ys : List Str} {x : Str}, x ∈ ys → ys[ixOf ys x]? = some x
  | y :: ys, x, h => by
    unfold ixOf
    by_cases e : y = x
    · rw [if_pos e, e]; rfl
    · rw [if_neg e, List.getElem?_cons_succ]
      rcases List.mem_cons.mp h with z | z
      · exact absurd z.symm e
      · exact ixOf_get z
theorem ixOf_first : ∀ {ys : List Str} {x : Str} {j : Nat}, j < ixOf ys x → ys[j]? ≠ some x
  | [], x, j, h => absurd h (Nat.not_lt_zero _)
  | y :: ys, x, j, h => by
    unfold ixOf at h
    by_cases e : y = x
    · rw [if_pos e] at h; exact absurd h (Nat.not_lt_zero _)
    · rw [if_neg e] at h
      cases j with
      | zero => intro z; exact e (Option.some.inj z)
      | succ j => rw [List.getElem?_cons_succ]; exact ixOf_first (by omega)
/-- t.index(x): the first place -/
theorem ed_index {ys : List Str} {x : Str} (h : ED T env te (.m .z (.tuple (ys.map .str)))) (hx : ED T env ta (.m m (.str x))) (hm : x ∈ ys) :
    ED T env (tBMZ (fun x xs H Q => ∃ p, ∃ ys : List Str, ∃ z j, x = V.ref p ∧ xs = [V.str z] ∧ SqT K H p (ys.map V.str) ∧ ys[j]? = some z ∧ (∀ m, m < j → ys[m]? ≠ some z) ∧ Q (.int (j : Nat)) H) te (tCons ta tNil)) (.m m' (.int ((ixOf ys x : Nat) : Int))) := fun S H σ c Q q =>
  h S H σ c _ fun v H1 g1 r1 => by
    obtain ⟨a, xs, rfl, h1, h2⟩ := Rp.tupInv (show Rp .z _ v _ from r1)
    obtain ⟨ob, h1a, h1b⟩ := h1
    have h1c := hide_le _ _ h1a fun ps z => by cases z
    have e := h2.strs
    subst e
    refine ⟨⟨a, ob, _, rfl, h1c, h1b⟩, hx S H1 σ (c.up g1) _ fun u H2 g2 r2 => ?_⟩
    cases (show Rp m _ u (.str x) from r2)
    exact ⟨a, ys, x, ixOf ys x, rfl, rfl, .inl (.inr ⟨ob, g2.ext _ _ h1c fun ps z => by cases z⟩), ixOf_get hm, fun j hj => ixOf_first hj, q _ H2 (g1.trans g2) (Rp.int _)⟩
end
end K28
set_option Elab.async false
set_option linter.all false
set_option maxRecDepth 100000
set_option maxHeartbeats 4000000
/-! rules with the written part told outright (for blocks of comprehensions) -/
namespace K28
open PySem PySem.Spec PyProof.Rows L2 LamX
abbrev rLenK (K : PySem.W.Frag) : List V → Hp → VK → Prop := fun xs H Q => ∃ p ys, xs = [V.ref p] ∧ (SqL K H p ys ∨ SqT K H p ys) ∧ Q (.int ys.length) H
abbrev rTupK (K : PySem.W.Frag) : List V → Hp → VK → Prop := fun xs H Q => ∃ p ys, xs = [V.ref p] ∧ ((SqL K H p ys ∧ ∀ l, H l = none → Q (.ref l) (upd H l (.tup ys))) ∨ (SqT K H p ys ∧ Q (.ref p) H))
abbrev rTupZK (K : PySem.W.Frag) : List V → Hp → VK → Prop := fun xs H Q => ∃ p ys, xs = [V.ref p] ∧ SqL K H p ys ∧ ∀ (l : Addr) (ob : Obj), H l = none → ob.dict = none → Q (.ref l) (upd H l (.frz ob (.tup ys)))
abbrev rListK (K : PySem.W.Frag) : List V → Hp → VK → Prop := fun xs H Q => ∃ p ys, xs = [V.ref p] ∧ (SqL K H p ys ∨ SqT K H p ys) ∧ ∀ l, H l = none → Q (.ref l) (upd H l (.lst ys))
abbrev rIdxK (K : PySem.W.Frag) : V → List V → Hp → VK → Prop := fun x xs H Q => ∃ p, ∃ ys : List Str, ∃ z j, x = V.ref p ∧ xs = [V.str z] ∧ SqT K H p (ys.map V.str) ∧ ys[j]? = some z ∧ (∀ m, m < j → ys[m]? ≠ some z) ∧ Q (.int (j : Nat)) H
section
variable (K : PySem.W.Frag) {X : Cx}
theorem op_inK (h : X.K = K := by rfl) : OpR X (compareOp .In) (rIn K false) := by subst h; exact op_in_seq
theorem op_niK (h : X.K = K := by rfl) : OpR X (compareOp .NotIn) (rIn K true) := by subst h; exact op_notIn_seq
theorem op_eqDK (hu : X.A.units + 64 < cLine) (h : X.K = K := by rfl) : OpR X (compareOp .Eq) (rEqD K) := by subst h; exact op_eqD hu
theorem op_neDK (hu : X.A.units + 64 < cLine) (h : X.K = K := by rfl) : OpR X (compareOp .NotEq) (rNeD K) := by subst h; exact op_neD hu
theorem op_inDK (hu : X.A.units + 65 < cLine) (h : X.K = K := by rfl) : OpR X (compareOp .In) (rInD K) := by subst h; exact op_inD hu
theorem op_catAK (h : X.K = K := by rfl) : OpR X (binaryOp .Add) (rCatA K) := by subst h; exact op_catA
theorem ix_listK (h : X.K = K := by rfl) : IxR X (rIxL K) := by subst h; exact ix_list
theorem ix_tupK (h : X.K = K := by rfl) : IxR X (rIxT K) := by subst h; exact ix_tup
theorem sl_listK (h : X.K = K := by rfl) : SlR X (rSlL K) := by subst h; exact sl_list
theorem sl_tupK (h : X.K = K := by rfl) : SlR X (rSlA K) := by subst h; exact sl_tupA
theorem sl_tupZK (h : X.K = K := by rfl) : SlR X (rSlZ K) := by subst h; exact sl_tupZ
theorem call_lenK (h : X.K = K := by rfl) : CallR X (.builtin "len") (rLenK K) := by subst h; exact call_len_seq
theorem call_tupK (h : X.K = K := by rfl) : CallR X (.type "tuple") (rTupK K) := by subst h; exact call_tuple_of
theorem call_tupZK (h : X.K = K := by rfl) : CallR X (.type "tuple") (rTupZK K) := by subst h; exact call_tuple_ofZ
theorem call_listK (h : X.K = K := by rfl) : CallR X (.type "list") (rListK K) := by subst h; exact call_list_of
theorem cr_sortK (hu : X.A.units + 64 < cLine) (h : X.K = K := by rfl) : CallR X (.builtin "sorted") (rSortG K) := by subst h; exact cr_sortG hu
theorem cr_anyK (hc : X.calm = true) (h : X.K = K := by rfl) : CallR X (.builtin "any") (rAny K) := by subst h; exact cr_any hc
theorem cr_allK (hc : X.calm = true) (h : X.K = K := by rfl) : CallR X (.builtin "all") (rAll K) := by subst h; exact cr_all hc
theorem call_isiK1 (h : X.K = K := by rfl) : CallR X (.builtin "isinstance") (rIsi K) := by subst h; exact call_isi
theorem call_isiK2 (h : X.K = K := by rfl) : CallR X (.builtin "isinstance") (rIsiT K) := by subst h; exact call_isiT
theorem mt_idxK (h : X.K = K := by rfl) : MtR X "tuple.index" (rIdxK K) := by subst h; exact mt_tup_index
theorem pi_tupK {tg l : Expr} {tl : TE} (hl : PE X l tl) (h : X.K = K := by rfl) : PI X tg l (iTup K tl) := by subst h; exact pi_tup hl
theorem pi_listK {tg l : Expr} {tl : TE} (hl : PE X l tl) (h : X.K = K := by rfl) : PI X tg l (iList K tl) := by subst h; exact pi_list hl
theorem pg_tupK {es : List Expr} {k : Nat} {t : TGs} {n : Nat} {pos : Pos} (hc : X.calm = true) (hp : PGs X es t) (hn : (assignEach es X.env).length = n := by rfl) (hst : (assignEach es X.env).findIdx? (·.1) = none := by rfl) (h : X.K = K := by rfl) : PG X (.Tuple es k pos) (gTup K n t) := by
  subst h; exact pg_tup hc hp hn hst
end
end K28
set_option Elab.async false
set_option linter.all false
set_option maxRecDepth 100000
set_option maxHeartbeats 4000000
/-! the text, its defs, the names of built-ins -/
namespace K28
open PySem PySem.Spec PyProof.Rows L2 LamX
def topS (i : Nat) : Stmt := PySem.Challenge.pw_ownlists_k28_whole_payers_that_are_kept.main.body.getD i (.Pass ⟨0, 0, 0, 0⟩)

abbrev s_tupled : Stmt := topS 1
theorem sc_tupled : FnScope ["value", "part"] ["value"] (defScope s_tupled) := ⟨rfl, rfl, rfl, by decide +kernel, rfl, by decide +kernel, by decide +kernel⟩
abbrev s_lists_table : Stmt := topS 3
theorem sc_lists_table : FnScope ["book"] ["book"] (defScope s_lists_table) := ⟨rfl, rfl, rfl, by decide +kernel, rfl, by decide +kernel, by decide +kernel⟩
abbrev s_rest_of : Stmt := topS 5
theorem sc_rest_of : FnScope ["one", "other", "bill", "hidden", "mate"] ["one", "other", "bill"] (defScope s_rest_of) := ⟨rfl, rfl, rfl, by decide +kernel, rfl, by decide +kernel, by decide +kernel⟩
abbrev s_odd_bills : Stmt := topS 6
theorem sc_odd_bills : FnScope ["one", "other", "mine", "its", "shared", "bill"] ["one", "other"] (defScope s_odd_bills) := ⟨rfl, rfl, rfl, by decide +kernel, rfl, by decide +kernel, by decide +kernel⟩
abbrev s_agree : Stmt := topS 7
theorem sc_agree : FnScope ["one", "other"] ["one", "other"] (defScope s_agree) := ⟨rfl, rfl, rfl, by decide +kernel, rfl, by decide +kernel, by decide +kernel⟩
abbrev s_odd_pairs : Stmt := topS 8
theorem sc_odd_pairs : FnScope ["book", "table", "names", "pairs", "k", "one", "other", "pair"] ["book"] (defScope s_odd_pairs) := ⟨rfl, rfl, rfl, by decide +kernel, rfl, by decide +kernel, by decide +kernel⟩
abbrev s_sets_of : Stmt := topS 10
theorem sc_sets_of : FnScope ["names", "found", "name", "some"] ["names"] (defScope s_sets_of) := ⟨rfl, rfl, rfl, by decide +kernel, rfl, by decide +kernel, by decide +kernel⟩
abbrev s_kept_sets : Stmt := topS 11
theorem sc_kept_sets : FnScope ["book", "odd", "every", "some", "one", "other"] ["book"] (defScope s_kept_sets) := ⟨rfl, rfl, rfl, by decide +kernel, rfl, by decide +kernel, by decide +kernel⟩
abbrev s_most_kept : Stmt := topS 12
theorem sc_most_kept : FnScope ["book"] ["book"] (defScope s_most_kept) := ⟨rfl, rfl, rfl, by decide +kernel, rfl, by decide +kernel, by decide +kernel⟩
abbrev s_whole_kept : Stmt := topS 13
theorem sc_whole_kept : FnScope ["book", "names", "found", "some", "every", "name"] ["book"] (defScope s_whole_kept) := ⟨rfl, rfl, rfl, by decide +kernel, rfl, by decide +kernel, by decide +kernel⟩
abbrev s_w_box : Stmt := topS 15
theorem sc_w_box : FnScope ["_law_script", "_law_k", "_law_cell"] ["_law_script", "_law_k"] (defScope s_w_box) := ⟨rfl, rfl, rfl, by decide +kernel, rfl, by decide +kernel, by decide +kernel⟩
abbrev s_w_take : Stmt := topS 16
theorem sc_w_take : FnScope ["_law_tub", "_law_top_to", "_law_drawn", "_law_once", "_law_odd", "_law_twice"] ["_law_tub", "_law_top_to"] (defScope s_w_take) := ⟨rfl, rfl, rfl, by decide +kernel, rfl, by decide +kernel, by decide +kernel⟩
abbrev s_w_cells : Stmt := topS 17
theorem sc_w_cells : FnScope ["_law_script", "_law_most_so", "_law_cells_so", "_law_k", "_law_far_so", "_law_spot_so"] ["_law_script", "_law_most_so"] (defScope s_w_cells) := ⟨rfl, rfl, rfl, by decide +kernel, rfl, by decide +kernel, by decide +kernel⟩
abbrev s_w_of : Stmt := topS 18
theorem sc_w_of : FnScope ["_law_tub", "_law_few_so"] ["_law_tub", "_law_few_so"] (defScope s_w_of) := ⟨rfl, rfl, rfl, by decide +kernel, rfl, by decide +kernel, by decide +kernel⟩
abbrev s_w_pick : Stmt := topS 19
theorem sc_w_pick : FnScope ["_law_tub", "_law_few_so", "_law_much_so", "_law_left", "_law_found", "_law_turn"] ["_law_tub", "_law_few_so", "_law_much_so"] (defScope s_w_pick) := ⟨rfl, rfl, rfl, by decide +kernel, rfl, by decide +kernel, by decide +kernel⟩
abbrev s_w_same : Stmt := topS 20
theorem sc_w_same : FnScope ["_law_got", "_law_due", "_law_like", "_law_mine", "_law_its"] ["_law_got", "_law_due"] (defScope s_w_same) := ⟨rfl, rfl, rfl, by decide +kernel, rfl, by decide +kernel, by decide +kernel⟩
abbrev s_w_lists : Stmt := topS 21
theorem sc_w_lists : FnScope ["_law_matter", "_law_bit"] ["_law_matter"] (defScope s_w_lists) := ⟨rfl, rfl, rfl, by decide +kernel, rfl, by decide +kernel, by decide +kernel⟩
abbrev s_w_half : Stmt := topS 22
theorem sc_w_half : FnScope ["_law_matter", "_law_bit"] ["_law_matter"] (defScope s_w_half) := ⟨rfl, rfl, rfl, by decide +kernel, rfl, by decide +kernel, by decide +kernel⟩
abbrev s_w_subs : Stmt := topS 23
theorem sc_w_subs : FnScope ["_law_goods_so", "_law_found", "_law_own", "_law_bit"] ["_law_goods_so"] (defScope s_w_subs) := ⟨rfl, rfl, rfl, by decide +kernel, rfl, by decide +kernel, by decide +kernel⟩
abbrev s_w_line : Stmt := topS 24
theorem sc_w_line : FnScope ["_law_tub", "_law_tags_here", "_law_most_so"] ["_law_tub", "_law_tags_here", "_law_most_so"] (defScope s_w_line) := ⟨rfl, rfl, rfl, by decide +kernel, rfl, by decide +kernel, by decide +kernel⟩
abbrev s_w_tags : Stmt := topS 25
theorem sc_w_tags : FnScope ["_law_tub", "_law_many_so"] ["_law_tub", "_law_many_so"] (defScope s_w_tags) := ⟨rfl, rfl, rfl, by decide +kernel, rfl, by decide +kernel, by decide +kernel⟩
abbrev s_w_book : Stmt := topS 26
theorem sc_w_book : FnScope ["_law_tub", "_law_many_so", "_law_wide_so", "_law_tags_here", "_law_found", "_law_tag", "_law_line_so", "_law_far_so"] ["_law_tub", "_law_many_so", "_law_wide_so"] (defScope s_w_book) := ⟨rfl, rfl, rfl, by decide +kernel, rfl, by decide +kernel, by decide +kernel⟩
abbrev s_w_rest : Stmt := topS 27
theorem sc_w_rest : FnScope ["_law_near", "_law_far", "_law_tag", "_law_found", "_law_own"] ["_law_near", "_law_far", "_law_tag"] (defScope s_w_rest) := ⟨rfl, rfl, rfl, by decide +kernel, rfl, by decide +kernel, by decide +kernel⟩
abbrev s_w_odds : Stmt := topS 28
theorem sc_w_odds : FnScope ["_law_near", "_law_far", "_law_both_so", "_law_tag"] ["_law_near", "_law_far"] (defScope s_w_odds) := ⟨rfl, rfl, rfl, by decide +kernel, rfl, by decide +kernel, by decide +kernel⟩
abbrev s_w_kit : Stmt := topS 29
theorem sc_w_kit : FnScope [] [] (defScope s_w_kit) := ⟨rfl, rfl, rfl, by decide +kernel, rfl, by decide +kernel, by decide +kernel⟩
abbrev s_w_by_hand_right : Stmt := topS 30
theorem sc_w_by_hand_right : FnScope ["_law_web", "_law_six_so", "_law_pair_so", "_law_folk_so", "_law_got", "_law_due", "_law_round_so", "_law_odd_so", "_law_back_so", "_law_cross_so", "_law_said_so", "_law_soft", "_law_own", "_law_k", "_law_tag"] [] (defScope s_w_by_hand_right) := ⟨rfl, rfl, rfl, by decide +kernel, rfl, by decide +kernel, by decide +kernel⟩
abbrev s_w_right : Stmt := topS 31
theorem sc_w_right : FnScope ["_law_tub", "_law_turn", "_law_web", "_law_own", "_law_folk_so", "_law_lines_so", "_law_bad_so", "_law_k", "_law_tag", "_law_fine", "_law_whole_so", "_law_near", "_law_due", "_law_got", "_law_mate", "_law_far"] ["_law_tub"] (defScope s_w_right) := ⟨rfl, rfl, rfl, by decide +kernel, rfl, by decide +kernel, by decide +kernel⟩
abbrev s_law : Stmt := topS 32
theorem sc_law : FnScope ["_law_script", "_law_cells_so", "_law_k"] ["_law_script"] (defScope s_law) := ⟨rfl, rfl, rfl, by decide +kernel, rfl, by decide +kernel, by decide +kernel⟩
/-- the names of built-ins are not the module's own -/
structure Blt (mg : Str → Option Value) : Prop where
  len : mg "len" = none
  tuple : mg "tuple" = none
  list : mg "list" = none
  isinstance : mg "isinstance" = none
  sorted : mg "sorted" = none
  dict : mg "dict" = none
  any : mg "any" = none
  all : mg "all" = none
  min : mg "min" = none
  range : mg "range" = none
  abs : mg "abs" = none
  int : mg "int" = none
  enumerate : mg "enumerate" = none
  zip : mg "zip" = none
  bool : mg "bool" = none
  str : mg "str" = none
theorem bt_len : bootBuiltins "len" = some (.builtin "len") := by decide +kernel
theorem bt_tuple : bootBuiltins "tuple" = some (.type "tuple") := by decide +kernel
theorem bt_list : bootBuiltins "list" = some (.type "list") := by decide +kernel
theorem bt_isinstance : bootBuiltins "isinstance" = some (.builtin "isinstance") := by decide +kernel
theorem bt_sorted : bootBuiltins "sorted" = some (.builtin "sorted") := by decide +kernel
theorem bt_dict : bootBuiltins "dict" = some (.type "dict") := by decide +kernel
theorem bt_any : bootBuiltins "any" = some (.builtin "any") := by decide +kernel
theorem bt_all : bootBuiltins "all" = some (.builtin "all") := by decide +kernel
theorem bt_min : bootBuiltins "min" = some (.builtin "min") := by decide +kernel
theorem bt_range : bootBuiltins "range" = some (.type "range") := by decide +kernel
theorem bt_abs : bootBuiltins "abs" = some (.builtin "abs") := by decide +kernel
theorem bt_int : bootBuiltins "int" = some (.type "int") := by decide +kernel
theorem bt_enumerate : bootBuiltins "enumerate" = some (.type "enumerate") := by decide +kernel
theorem bt_zip : bootBuiltins "zip" = some (.type "zip") := by decide +kernel
theorem bt_bool : bootBuiltins "bool" = some (.type "bool") := by decide +kernel
theorem bt_str : bootBuiltins "str" = some (.type "str") := by decide +kernel
/-- a def of the module that may be called -/
structure Cal (P : Program) (w : World) (K : PySem.W.Frag) (mg : Str → Option Value) (base : Heap) (x : Str) (k : Nat) (ps : List Str) (sp : Sp) (f : Addr) (fd : FuncData) : Prop where
  ok : FnOk P w K mg base CX0 k f fd ps sp
  g : mg x = some (.ref f)
  kp : PySem.W.keepIn K (.ref f) = true
  b : Binds K fd ps []
theorem pe_never {X : Cx} {e : Expr} : PE X e (fun _ _ _ => False) := ⟨fun _ _ _ _ _ _ h => h.elim⟩
theorem pt_never {X : Cx} {e : Expr} : PT X e (fun _ _ _ => False) := ⟨fun _ _ _ _ _ _ h => h.elim⟩
end K28
set_option Elab.async false
set_option linter.all false
set_option maxRecDepth 100000
set_option maxHeartbeats 4000000
/-! tupled, lists_table -/
namespace K28
open PySem PySem.Spec PyProof.Rows L2 LamX
/-! ### tuples for lists -/
mutual
def tupD : PyData → PyData
  | .list xs => .tuple (tupDs xs)
  | .tuple xs => .tuple (tupDs xs)
  | .none => .none
  | .bool b => .bool b
  | .int i => .int i
  | .str x => .str x
  | .dict k => .dict k
def tupDs : List PyData → List PyData
  | [] => []
  | d :: ds => tupD d :: tupDs ds
end
theorem tupDs_map : ∀ ds : List PyData, tupDs ds = ds.map tupD
  | [] => by rw [tupDs]; rfl
  | d :: ds => by rw [tupDs, tupDs_map ds]; rfl
/-- nested at most n deep, short at each place -/
def shp : Nat → PyData → Bool
  | 0, .list _ => false
  | 0, .tuple _ => false
  | n + 1, .list xs => decide (xs.length ≤ 1000) && xs.all (shp n)
  | n + 1, .tuple xs => decide (xs.length ≤ 1000) && xs.all (shp n)
  | _, _ => true
theorem shp_list {n : Nat} {xs : List PyData} (h : shp (n + 1) (.list xs) = true) : xs.length ≤ 1000 ∧ ∀ x ∈ xs, shp n x = true := by
  have h : (decide (xs.length ≤ 1000) && xs.all (shp n)) = true := h
  rw [Bool.and_eq_true] at h
  exact ⟨of_decide_eq_true h.1, List.all_eq_true.mp h.2⟩
theorem shp_tup {n : Nat} {xs : List PyData} (h : shp (n + 1) (.tuple xs) = true) : xs.length ≤ 1000 ∧ ∀ x ∈ xs, shp n x = true := shp_list (xs := xs) h
def tyD : PyData → String
  | .none => "NoneType"
  | .bool _ => "bool"
  | .int _ => "int"
  | .str _ => "str"
  | .list _ => "list"
  | .tuple _ => "tuple"
  | .dict _ => "dict"
theorem Rp.ty {K : PySem.W.Frag} {m : Md} {H : Hp} {v : V} {d : PyData} (h : Rp m H v d) : TyX K H v (.type (tyD d)) := by
  cases h with
  | non => exact .base .non
  | bl b => exact .base (.bl b)
  | int i => exact .base (.int i)
  | str x => exact .base (.str x)
  | lst h1 _ => exact .base (.lst h1)
  | tup h1 _ =>
    rcases h1.any with z | ⟨o, z⟩
    · exact .base (.tup z)
    · exact .fTuple z
section
variable {T : List (Addr × Str)} {env : List En} {K : PySem.W.Frag} {te : TE} {m : Md}
theorem ed_isi1 {d : PyData} {n : String} {b : Bool} (h : ED T env te (.m m d)) (hb : kitB (tyD d) n = some b) : ED T env (tCB (rIsi K) (tCons te (tCons (tC (.ty n)) tNil))) (.d (.bool b)) := fun S H σ c Q q =>
  h S H σ c _ fun v H1 g1 r1 => ⟨v, .ty n, .type (tyD d), .type n, b, rfl, .ty n, Rp.ty (Rp.up (show Rp m _ v d from r1) hide_le), kit_ty hb, q _ H1 g1 (Rp.bl b)⟩
theorem ed_isi2 {d : PyData} {n1 n2 : String} {b1 b2 : Bool} (h : ED T env te (.m m d)) (h1 : kitB (tyD d) n1 = some b1) (h2 : kitB (tyD d) n2 = some b2) :
    ED T env (tCB (rIsiT K) (tCons te (tCons (tTup (tCons (tC (.ty n1)) (tCons (tC (.ty n2)) tNil))) tNil))) (.d (.bool (b1 || b2))) := fun S H σ c Q q =>
  h S H σ c _ fun v H1 g1 r1 => by
    refine ⟨small (by decide : 2 ≤ 100000), fun p hp => ?_⟩
    have g2 : Gd T H1 (upd H1 p (.tup [.ty n1, .ty n2])) := Gd.new g1.tab hp
    refine ⟨v, p, [.ty n1, .ty n2], .type (tyD d), [.type n1, .type n2], b1 || b2, rfl, upd_same, .cons (.ty n1) (.cons (.ty n2) .nil), Rp.ty ((Rp.up (show Rp m _ v d from r1) hide_le).up g2.ext), ?_, q _ _ (g1.trans g2) (Rp.bl _)⟩
    refine kitAny_cons (kit_ty h1) (fun e => ?_) fun e => by rw [e]; rfl
    rw [e]
    refine kitAny_cons (kit_ty h2) (fun e => ?_) fun e => by rw [e]; rfl
    rw [e]
    exact kitAny_nil
end
theorem kb_ll : kitB "list" "list" = some true := by decide +kernel
theorem kb_lt : kitB "list" "tuple" = some false := by decide +kernel
theorem kb_tl : kitB "tuple" "list" = some false := by decide +kernel
theorem kb_tt : kitB "tuple" "tuple" = some true := by decide +kernel
/-- neither a list nor a tuple -/
def atomD : PyData → Bool
  | .list _ => false
  | .tuple _ => false
  | _ => true
theorem kb_atom {d : PyData} (h : atomD d = true) : kitB (tyD d) "list" = some false ∧ kitB (tyD d) "tuple" = some false := by
  cases d with
  | none => exact ⟨(by decide +kernel : kitB "NoneType" "list" = some false), (by decide +kernel : kitB "NoneType" "tuple" = some false)⟩
  | bool _ => exact ⟨(by decide +kernel : kitB "bool" "list" = some false), (by decide +kernel : kitB "bool" "tuple" = some false)⟩
  | int _ => exact ⟨(by decide +kernel : kitB "int" "list" = some false), (by decide +kernel : kitB "int" "tuple" = some false)⟩
  | str _ => exact ⟨(by decide +kernel : kitB "str" "list" = some false), (by decide +kernel : kitB "str" "tuple" = some false)⟩
  | dict _ => exact ⟨(by decide +kernel : kitB "dict" "list" = some false), (by decide +kernel : kitB "dict" "tuple" = some false)⟩
  | list _ => exact Bool.noConfusion h
  | tuple _ => exact Bool.noConfusion h
theorem Rp.atom {m m' : Md} {H : Hp} {v : V} {d : PyData} (h : Rp m H v d) (a : atomD d = true) : Rp m' H v d := by
  cases h with
  | non => exact .non
  | bl b => exact .bl b
  | int i => exact .int i
  | str x => exact .str x
  | lst _ _ => exact Bool.noConfusion a
  | tup _ _ => exact Bool.noConfusion a
theorem ED.atom {T : List (Addr × Str)} {env : List En} {te : TE} {m m' : Md} {d : PyData} (h : ED T env te (.m m d)) (a : atomD d = true) : ED T env te (.m m' d) := fun S H σ c Q q => h S H σ c _ fun v H1 g1 r1 => q v H1 g1 (Rp.atom (show Rp m _ v d from r1) a)
theorem tupD_atom {d : PyData} (h : atomD d = true) : tupD d = d := by
  cases d <;> first | rfl | exact Bool.noConfusion h
theorem map_id1 {β : Type} (l : List β) : l.map (fun x => x) = l := List.map_id' l
section
variable {P : Program} {w : World} {K : PySem.W.Frag} {mg : Str → Option Value} {base : Heap} {T : List (Addr × Str)}
def R_tupled (n : Nat) : List En → En → Prop := fun es e => ∃ m d, es = [.m m d] ∧ shp n d = true ∧ e = .m .z (tupD d)
theorem len_tupled {n : Nat} {ps : List Str} (hl : ps.length = 1) (vs : List V) (H : Hp) (Q : VK) (E : XK) (h : PrR T (R_tupled n) vs H Q E) : vs.length = ps.length := by
  obtain ⟨S, es, e, _, _, r, ⟨m, d, rfl, _⟩, _⟩ := h
  rw [hl]; exact r.length
theorem ok_tupled (B : Blt mg) {f : Addr} {fd : FuncData} (F : Fun K "tupled" "tupled" s_tupled f fd) (g : mg "tupled" = some (.ref f)) (b : Binds K fd ["value"] []) : ∀ n : Nat, FnOk P w K mg base CX0 (n + 1) f fd ["value"] (PrR T (R_tupled n)) := by
  have atom : ∀ (n : Nat) (k : Nat) (cdv : Value) (A : Around) (outer : List Env) (s : Shared) (H : Hp) (vs : List V) (Q : VK) (E : XK) (S : List Addr) (m : Md) (d : PyData), Dom S H → Tabs T H → EnL (hide S H) vs [.m m d] → atomD d = true → (∀ v H', Gd T H H' → EnR (hide S H') (.m .z (tupD d)) v → Q v H') →
      ∃ t, PSs (cxOf CX0 P w K mg base ["value", "part"] "tupled" (defScope s_tupled) f cdv A outer s H E).nox (defBody s_tupled) t ∧ t { nx := fun _ H' => Q .non H', rt := Q } (L2.start ["value", "part"] vs) H := by
    intro n k cdv A outer s H vs Q E S m d dom tab r ha q
    have c := at_start (N := ["value", "part"]) dom tab r
    refine ⟨_, pss_one (ps_ret (pe_ifExp (pt_val (pe_callB call_isiT (by rfl) B.isinstance bt_isinstance (pa_cons (pv 0) (pa_cons (pe_tup (pa_cons (pe_bltn (v := .ty "list") (by rfl) B.list bt_list rfl) (pa_cons (pe_bltn (v := .ty "tuple") (by rfl) B.tuple bt_tuple rfl) pa_nil))) pa_nil)))) pe_never (pv 0))), ?_⟩
    rw [tupD_atom ha] at q
    exact sd_ret c (ed_if (e := .m .z d) (et_B (ed_isi2 (ed_var (e := .m m d)) (kb_atom ha).1 (kb_atom ha).2)) (fun h => Bool.noConfusion h) (fun h => (ed_var (e := .m m d)).atom ha)) q
  intro n
  induction n with
  | zero =>
    refine F.ok sc_tupled (len_tupled rfl) (fun cdv A outer s H vs Q E hr h => ?_)
    obtain ⟨S, es, e, dom, tab, r, ⟨m, d, rfl, hd, rfl⟩, q⟩ := h
    exact atom 0 0 cdv A outer s H vs Q E S m d dom tab r (by cases d <;> first | rfl | exact Bool.noConfusion hd) q
  | succ n ih =>
    have C_tupled : Cal P w K mg base "tupled" (n + 1) ["value"] (PrR T (R_tupled n)) f fd := ⟨ih, g, F.kp, b⟩
    refine F.ok sc_tupled (len_tupled rfl) (fun cdv A outer s H vs Q E hr h => ?_)
    obtain ⟨S, es, e, dom, tab, r, ⟨m, d, rfl, hd, rfl⟩, q⟩ := h
    have c := at_start (N := ["value", "part"]) dom tab r
    cases d with
    | list ds =>
      obtain ⟨hz, hm⟩ := shp_list hd
      refine ⟨_, pss_one (ps_ret (pe_ifExp (pt_val (pe_callB call_isiT (by rfl) B.isinstance bt_isinstance (pa_cons (pv 0) (pa_cons (pe_tup (pa_cons (pe_bltn (v := .ty "list") (by rfl) B.list bt_list rfl) (pa_cons (pe_bltn (v := .ty "tuple") (by rfl) B.tuple bt_tuple rfl) pa_nil))) pa_nil)))) (pe_callTy call_tuple_ofZ (by rfl) B.tuple bt_tuple (pa_cons (pe_lc (own := [("part", 1)]) (by rfl) sc_tupled.nd (pi_list (pv 0)) (blkOk_by (N := ["value", "part"]) (sc := defScope s_tupled) (by decide +kernel)) (fun _ _ _ _ _ => (pg_name (i := 1) sc_tupled.nd rfl (by first | exact .inl rfl | exact .inr rfl))) (fun _ _ _ _ _ => pts_nil) (fun _ _ _ _ _ => (pe_call C_tupled.ok hr (by rfl) C_tupled.g C_tupled.kp C_tupled.b .nil pass0 (pa_cons (pv 1) pa_nil)))) pa_nil)) (pv 0))), ?_⟩
      have e1 : ED T _ (tVar 0) (.m m (.list (ds.map fun x => x))) := ed_var (env := [.m m (.list ds), .no]) (by rw [map_id1]; rfl)
      refine sd_ret c (ed_if (e := .m .z (tupD (.list ds))) (et_B (ed_isi2 (ed_var (e := .m m (.list ds))) kb_ll kb_lt)) (fun _ => ?_) (fun h => Bool.noConfusion h)) q
      rw [tupD, tupDs_map]
      exact ed_tupLZ (by intro z; cases z) (ed_lcL1 tupD e1 (by decide) (by omega) fun b hb => ed_call (en_one ed_var) ⟨m, b, rfl, hm b hb, rfl⟩)
    | tuple ds =>
      obtain ⟨hz, hm⟩ := shp_tup hd
      refine ⟨_, pss_one (ps_ret (pe_ifExp (pt_val (pe_callB call_isiT (by rfl) B.isinstance bt_isinstance (pa_cons (pv 0) (pa_cons (pe_tup (pa_cons (pe_bltn (v := .ty "list") (by rfl) B.list bt_list rfl) (pa_cons (pe_bltn (v := .ty "tuple") (by rfl) B.tuple bt_tuple rfl) pa_nil))) pa_nil)))) (pe_callTy call_tuple_ofZ (by rfl) B.tuple bt_tuple (pa_cons (pe_lc (own := [("part", 1)]) (by rfl) sc_tupled.nd (pi_tup (pv 0)) (blkOk_by (N := ["value", "part"]) (sc := defScope s_tupled) (by decide +kernel)) (fun _ _ _ _ _ => (pg_name (i := 1) sc_tupled.nd rfl (by first | exact .inl rfl | exact .inr rfl))) (fun _ _ _ _ _ => pts_nil) (fun _ _ _ _ _ => (pe_call C_tupled.ok hr (by rfl) C_tupled.g C_tupled.kp C_tupled.b .nil pass0 (pa_cons (pv 1) pa_nil)))) pa_nil)) (pv 0))), ?_⟩
      have e1 : ED T _ (tVar 0) (.m m (.tuple (ds.map fun x => x))) := ed_var (env := [.m m (.tuple ds), .no]) (by rw [map_id1]; rfl)
      refine sd_ret c (ed_if (e := .m .z (tupD (.tuple ds))) (et_B (ed_isi2 (ed_var (e := .m m (.tuple ds))) kb_tl kb_tt)) (fun _ => ?_) (fun h => Bool.noConfusion h)) q
      rw [tupD, tupDs_map]
      exact ed_tupLZ (by intro z; cases z) (ed_lcT1 tupD e1 (by decide) (by omega) fun b hb => ed_call (en_one ed_var) ⟨m, b, rfl, hm b hb, rfl⟩)
    | none => exact atom 0 0 cdv A outer s H vs Q E S m _ dom tab r rfl q
    | bool _ => exact atom 0 0 cdv A outer s H vs Q E S m _ dom tab r rfl q
    | int _ => exact atom 0 0 cdv A outer s H vs Q E S m _ dom tab r rfl q
    | str _ => exact atom 0 0 cdv A outer s H vs Q E S m _ dom tab r rfl q
    | dict _ => exact atom 0 0 cdv A outer s H vs Q E S m _ dom tab r rfl q
end
end K28
set_option Elab.async false
set_option linter.all false
set_option maxRecDepth 100000
set_option maxHeartbeats 4000000
/-! lists_table, rest_of, odd_bills, agree -/
namespace K28
open PySem PySem.Spec PyProof.Rows L2 LamX PySem.W

/-! ### data of texts -/
abbrev eT (xs : List Str) : PyData := .tuple (xs.map .str)
abbrev eL (xs : List Str) : PyData := .list (xs.map .str)
abbrev eRow (p : Str × List Str) : PyData := .tuple [.str p.1, eT p.2]
abbrev ePs (ps : List (Str × List Str)) : PyData := .tuple (ps.map eRow)
theorem tupDs_strs : ∀ xs : List Str, tupDs (xs.map .str) = xs.map .str
  | [] => by rw [List.map_nil, tupDs]
  | x :: xs => by rw [List.map_cons, tupDs, tupDs_strs xs, tupD]
theorem tupD_eT (xs : List Str) : tupD (eT xs) = eT xs := by rw [tupD, tupDs_strs]
theorem shp_eT {n : Nat} {xs : List Str} (h : xs.length ≤ 1000) : shp (n + 1) (eT xs) = true := by
  show (decide ((xs.map PyData.str).length ≤ 1000) && (xs.map PyData.str).all (shp n)) = true
  rw [List.length_map, decide_eq_true h, Bool.true_and, List.all_eq_true]
  intro x hx
  obtain ⟨y, _, rfl⟩ := List.mem_map.mp hx
  cases n <;> rfl
def okS (x : Str) : Bool := (PyData.str x).canLay0
def okL (xs : List Str) : Bool := xs.all okS
theorem okL_mem {xs : List Str} (h : okL xs = true) {x : Str} (hx : x ∈ xs) : okS x = true := List.all_eq_true.mp h x hx
theorem okL_of {xs : List Str} (h : ∀ x ∈ xs, okS x = true) : okL xs = true := List.all_eq_true.mpr h
theorem lay_strs : ∀ {xs : List Str}, okL xs = true → PyData.canLayAll0 (xs.map .str) = true
  | [], _ => by simp [PyData.canLayAll0]
  | x :: xs, h => by
    rw [List.map_cons, PyData.canLayAll0, lay_strs (okL_of fun y hy => okL_mem h (List.mem_cons_of_mem _ hy))]
    rw [show (PyData.str x).canLay0 = true from okL_mem h List.mem_cons_self]
    rfl
theorem depth_strs : ∀ xs : List Str, PyData.depthAll (xs.map .str) = 0
  | [] => by simp [PyData.depthAll]
  | x :: xs => by rw [List.map_cons, PyData.depthAll, depth_strs xs]; simp [PyData.depth]
theorem shaped_eT {xs : List Str} (h : okL xs = true) : SeqAt.shaped (eT xs) = true := by
  show ((eT xs).canLay0 && decide ((eT xs).depth ≤ 64)) = true
  rw [Bool.and_eq_true]
  refine ⟨?_, decide_eq_true ?_⟩
  · rw [PyData.canLay0]; exact lay_strs h
  · rw [PyData.depth, depth_strs]; decide
theorem eqvAll_strs : ∀ xs ys : List Str, PyData.eqvAll (xs.map .str) (ys.map .str) = decide (xs = ys)
  | [], [] => by simp [PyData.eqvAll]
  | [], y :: ys => by simp [PyData.eqvAll]
  | x :: xs, [] => by simp [PyData.eqvAll]
  | x :: xs, y :: ys => by
    rw [List.map_cons, List.map_cons, PyData.eqvAll, eqvAll_strs xs ys, PyData.eqv]
    by_cases h1 : x = y
    · by_cases h2 : xs = ys
      · simp [h1, h2]
      · simp [h1, h2]
    · simp [h1]
theorem eqv_eT (xs ys : List Str) : PyData.eqv (eT xs) (eT ys) = decide (xs = ys) := by rw [PyData.eqv, eqvAll_strs]
/-- the texts in order -/
def sortS (xs : List Str) : List Str := xs.mergeSort (dataLe false PyData.str)
theorem sort_strs (xs : List Str) : (xs.map PyData.str).mergeSort (dataLe false id) = (sortS xs).map PyData.str :=
  (sort_maps (r := dataLe false PyData.str) (s := dataLe false id) PyData.str fun _ _ _ _ => rfl).symm
theorem alike_strs (xs : List Str) : AllAlike (xs.map PyData.str) := AllAlike.of fun _ _ => by simp [alike]
theorem sortable_strs (xs : List Str) : Sortable (xs.map PyData.str) := Sortable.others fun _ => ⟨by simp, fun _ => by simp⟩
theorem depth_str {xs : List Str} : ∀ d ∈ xs.map PyData.str, d.depth ≤ 60 := by
  intro d hd
  obtain ⟨y, _, rfl⟩ := List.mem_map.mp hd
  rw [PyData.depth]; decide
theorem cutD_map {xs : List Str} {lo hi : Option Int} {ys : List Str} (h : cutD (xs.map .str) lo hi = ys.map .str) : PyData.tuple (cutD (xs.map .str) lo hi) = eT ys := by rw [h]
section
variable {T : List (Addr × Str)} {env : List En} {K : PySem.W.Frag} {ta tb te : TE} {m m' : Md}
theorem ed_sortS {xs : List Str} (h : ED T env te (.m m (eL xs)) ∨ ED T env te (.m m (eT xs))) : ED T env (tCB (rSortG K) (tCons te tNil)) (.m m (eL (sortS xs))) := by
  have q := ed_sortG (K := K) h (alike_strs xs) (.inl (sortable_strs xs)) depth_str
  rw [sort_strs] at q
  exact q
/-- == of the same number, text, truth value, None -/
theorem Rp.atomInj {m m' : Md} {H H' : Hp} {v u : V} {d : PyData} (h : Rp m H v d) (h' : Rp m' H' u d) (a : atomD d = true) : v = u ∧ scal v u = true := by
  cases h with
  | non => cases h'; exact ⟨rfl, rfl⟩
  | bl b => cases h'; exact ⟨rfl, rfl⟩
  | int i => cases h'; exact ⟨rfl, rfl⟩
  | str x => cases h'; exact ⟨rfl, rfl⟩
  | lst _ _ => exact Bool.noConfusion a
  | tup _ _ => exact Bool.noConfusion a
theorem ed_eqA {d : PyData} (a : atomD d = true) (ha : ED T env ta (.m m d)) (hb : ED T env tb (.m m' d)) : ED T env (tOp rEq ta tb) (.d (.bool true)) := fun S H σ c Q q =>
  ha S H σ c _ fun v H1 g1 r1 => hb S H1 σ (c.up g1) _ fun u H2 g2 r2 => by
    obtain ⟨e, s⟩ := Rp.atomInj (show Rp m _ v d from r1) (show Rp m' _ u d from r2) a
    refine ⟨s, ?_⟩
    rw [decide_eq_true e]
    exact q _ H2 (g1.trans g2) (Rp.bl true)
theorem ed_neA {d : PyData} (a : atomD d = true) (ha : ED T env ta (.m m d)) (hb : ED T env tb (.m m' d)) : ED T env (tOp rNe ta tb) (.d (.bool false)) := fun S H σ c Q q =>
  ha S H σ c _ fun v H1 g1 r1 => hb S H1 σ (c.up g1) _ fun u H2 g2 r2 => by
    obtain ⟨e, s⟩ := Rp.atomInj (show Rp m _ v d from r1) (show Rp m' _ u d from r2) a
    refine ⟨s, ?_⟩
    rw [decide_eq_true e]
    exact q _ H2 (g1.trans g2) (Rp.bl false)
theorem ed_eqI {i j : Int} (ha : ED T env ta (.m m (.int i))) (hb : ED T env tb (.m m' (.int j))) : ED T env (tOp rEq ta tb) (.d (.bool (decide (i = j)))) := fun S H σ c Q q =>
  ha S H σ c _ fun v H1 g1 r1 => hb S H1 σ (c.up g1) _ fun u H2 g2 r2 => by
    cases (show Rp m _ v (.int i) from r1)
    cases (show Rp m' _ u (.int j) from r2)
    refine ⟨rfl, ?_⟩
    have e : decide (V.int i = V.int j) = decide (i = j) := by
      by_cases h : i = j
      · rw [decide_eq_true h, decide_eq_true (by rw [h])]
      · rw [decide_eq_false h, decide_eq_false (fun z => h (V.int.inj z))]
    rw [e]
    exact q _ H2 (g1.trans g2) (Rp.bl _)
/-! ### a dict of the pairs -/
theorem pairs_rp : ∀ {ps : List (Str × List Str)} {H : Hp} {xs : List V}, RpL .z H xs (ps.map eRow) →
    ∃ (bs : List Addr) (kvs : List (Key × V)), xs = bs.map V.ref ∧ Paired (fun p (kv : Key × V) => SqT K H p [kV kv.1, kv.2]) bs kvs ∧ KvR .z H kvs (ps.map fun p => (p.1, eT p.2))
  | [], H, _, h => by
    cases h
    exact ⟨[], [], rfl, .nil, .nil⟩
  | p :: ps, H, _, h => by
    cases h with
    | cons r t =>
      obtain ⟨bs, kvs, rfl, h1, h2⟩ := pairs_rp t
      obtain ⟨a, ys, rfl, h3, h4⟩ := Rp.tupInv r
      cases h4 with
      | cons r1 h4 =>
        cases h4 with
        | cons r2 h4 =>
          cases h4
          cases r1
          exact ⟨a :: bs, (Sum.inr p.1, _) :: kvs, rfl, .cons h3.sq h1, .cons ⟨rfl, r2⟩ h2⟩
theorem KvR.keys {m : Md} {H : Hp} : ∀ {kvs : List (Key × V)} {ps : List (Str × PyData)}, KvR m H kvs ps → kvs.map (·.1) = ps.map (fun p => (Sum.inr p.1 : Key))
  | _, _, .nil => rfl
  | _, _, .cons h t => by
    rw [List.map_cons, List.map_cons, KvR.keys t]
    exact congrArg (· :: _) h.1
theorem valV_notin {kvs : List (Key × V)} {k : Key} (h : k ∉ kvs.map (·.1)) : valV kvs k = none := by
  unfold valV
  rw [List.find?_eq_none.mpr]
  · rfl
  · intro q hq
    simp only [decide_eq_true_eq]
    intro e
    exact h (List.mem_map.mpr ⟨q, hq, e⟩)
theorem mergeK_nodup : ∀ (kvs acc : List (Key × V)), ((acc ++ kvs).map (·.1)).Nodup → mergeK acc kvs = acc ++ kvs
  | [], acc, _ => by rw [List.append_nil]; rfl
  | kv :: kvs, acc, h => by
    have h1 : kv.1 ∉ acc.map (·.1) := by
      rw [List.map_append, List.nodup_append] at h
      intro z
      exact h.2.2 _ z _ (by rw [List.map_cons]; exact List.mem_cons_self) rfl
    show mergeK (putK acc kv.1 kv.2) kvs = _
    rw [putK_new kv.2 (valV_notin h1)]
    have h2 : ((acc ++ [(kv.1, kv.2)] ++ kvs).map (·.1)).Nodup := by
      rw [List.append_assoc]
      exact h
    rw [mergeK_nodup kvs _ h2, List.append_assoc]
    rfl
theorem nodup_inr {l : List Str} (h : l.Nodup) : (l.map (Sum.inr : Str → Key)).Nodup := by
  rw [List.Nodup, List.pairwise_map]
  exact List.Pairwise.imp (fun h z => h (Sum.inr.inj z)) h
theorem ed_dictZ {ps : List (Str × List Str)} (h : ED T env te (.m .z (ePs ps))) (nd : (ps.map (·.1)).Nodup) :
    ED T env (tCB (fun xs H Q => ∃ (a : Addr) (ob : Obj) (ps : List Addr) (kvs : List (Key × V)), xs = [.ref a] ∧ H a = some (.frz ob (.tup (ps.map V.ref))) ∧ ob.dict = none ∧ Paired (fun p kv => SqT K H p [kV kv.1, kv.2]) ps kvs ∧ ∀ p, H p = none → Q (.ref p) (upd H p (.dK (mergeK [] kvs)))) (tCons te tNil)) (.k .z (ps.map fun p => (p.1, eT p.2))) := fun S H σ c Q q =>
  h S H σ c _ fun v H1 g1 r1 => by
    obtain ⟨a, xs, rfl, h1, h2⟩ := Rp.tupInv (show Rp .z _ v _ from r1)
    obtain ⟨ob, h1a, h1b⟩ := h1
    obtain ⟨bs, kvs, rfl, h3, _⟩ := pairs_rp (K := K) (h2.up hide_le)
    obtain ⟨bs', kvs', e', h3', h4⟩ := pairs_rp (K := K) h2
    have eb : bs = bs' := by
      have inj : ∀ l l' : List Addr, l.map V.ref = l'.map V.ref → l = l' := by
        intro l
        induction l with
        | nil => intro l' e; cases l' with
          | nil => rfl
          | cons _ _ => cases e
        | cons x l ih => intro l' e; cases l' with
          | nil => cases e
          | cons y l' =>
            rw [List.map_cons, List.map_cons] at e
            injection e with e1 e2
            injection e1 with e1
            rw [e1, ih _ e2]
      exact inj _ _ e'
    subst eb
    have h3'' : Paired (fun p (kv : Key × V) => SqT K H1 p [kV kv.1, kv.2]) bs kvs' := Paired.mapP h3' fun _ _ z => by
      rcases z with z | z
      · rcases z with z | ⟨o, z⟩
        · exact .inl (.inl (hide_le _ _ z fun ps z => by cases z))
        · exact .inl (.inr ⟨o, hide_le _ _ z fun ps z => by cases z⟩)
      · exact .inr z
    refine ⟨a, ob, bs, kvs', rfl, hide_le _ _ h1a (fun ps z => by cases z), h1b, h3'', fun p hp => ?_⟩
    have em : mergeK [] kvs' = kvs' := by
      refine mergeK_nodup kvs' [] ?_
      rw [List.nil_append, h4.keys, List.map_map]
      have q := nodup_inr nd
      rw [List.map_map] at q
      exact q
    rw [em]
    have g2 : Gd T H1 (upd H1 p (.dK kvs')) := Gd.new g1.tab hp
    refine q _ _ (g1.trans g2) ⟨p, kvs', rfl, by rw [hide_out ((c.up g1).dom.nin hp), upd_same], h4.up (hide_ext g2.ext)⟩
end

/-! ### the plain functions -/
def restOf (one other : List Str) (bill : Str) : List Str := (one.drop (ixOf one bill + 1)).filter fun x => !decide (x ∈ other.take (ixOf other bill))
def sharedOf (one other : List Str) : List Str := one.filter fun x => decide (x ∈ other)
def oddBills (one other : List Str) : List Str := sortS ((sharedOf one other).filter fun b => !decide (restOf one other b = restOf other one b))
def agreeB (one other : List Str) : Bool := decide (((oddBills one other).length : Int) = 0)
theorem restOf_len (one other : List Str) (bill : Str) : (restOf one other bill).length ≤ one.length := by
  unfold restOf
  refine Nat.le_trans (List.length_filter_le _ _) ?_
  rw [List.length_drop]; omega
theorem restOf_ok {one other : List Str} {bill : Str} (h : okL one = true) : okL (restOf one other bill) = true := okL_of fun x hx => okL_mem h (List.mem_of_mem_drop (List.mem_filter.mp hx).1)
theorem sortS_length (xs : List Str) : (sortS xs).length = xs.length := List.length_mergeSort _

/-! ### the defs -/
def BookD (B : PyData) (ps : List (Str × List Str)) : Prop := ∃ b0 b1, (B = .tuple [b0, b1] ∨ B = .list [b0, b1]) ∧ tupD b1 = ePs ps ∧ shp 3 b1 = true ∧ (ps.map (·.1)).Nodup
def R_table : List En → En → Prop := fun es e => ∃ m B ps, es = [.m m B] ∧ BookD B ps ∧ e = .k .z (ps.map fun p => (p.1, eT p.2))
def R_rest : List En → En → Prop := fun es e => ∃ m one other bill, es = [.m .z (eT one), .m .z (eT other), .m m (.str bill)] ∧ bill ∈ one ∧ bill ∈ other ∧ one.length ≤ 1000 ∧ other.length ≤ 1000 ∧ e = .d (eT (restOf one other bill))
def R_odd : List En → En → Prop := fun es e => ∃ m m' one other, es = [.m m (eT one), .m m' (eT other)] ∧ okL one = true ∧ okL other = true ∧ one.length ≤ 1000 ∧ other.length ≤ 1000 ∧ e = .d (eT (oddBills one other))
def R_agree : List En → En → Prop := fun es e => ∃ m m' one other, es = [.m m (eT one), .m m' (eT other)] ∧ okL one = true ∧ okL other = true ∧ one.length ≤ 1000 ∧ other.length ≤ 1000 ∧ e = .d (.bool (agreeB one other))
theorem PrR.len {T : List (Addr × Str)} {R : List En → En → Prop} {n : Nat} (hR : ∀ es e, R es e → es.length = n) {ps : List Str} (hp : ps.length = n) (vs : List V) (H : Hp) (Q : VK) (E : XK) (h : PrR T R vs H Q E) : vs.length = ps.length := by
  obtain ⟨S, es, e, _, _, r, hr, _⟩ := h
  rw [r.length, hR _ _ hr, hp]
section
variable {P : Program} {w : World} {K : PySem.W.Frag} {mg : Str → Option Value} {base : Heap} {T : List (Addr × Str)}
theorem ok_lists_table (B : Blt mg) {f ft : Addr} {fd fdt : FuncData} (F : Fun K "lists_table" "lists_table" s_lists_table f fd) (C_tupled : Cal P w K mg base "tupled" 4 ["value"] (PrR T (R_tupled 3)) ft fdt) : FnOk P w K mg base CX0 5 f fd ["book"] (PrR T R_table) := by
  refine F.ok sc_lists_table (PrR.len (n := 1) (fun es e ⟨_, _, _, h, _⟩ => by rw [h]; rfl) rfl) (fun cdv A outer s H vs Q E hr h => ?_)
  obtain ⟨S, es, e, dom, tab, r, ⟨m, Bk, ps, rfl, ⟨b0, b1, hB, ht, hs, nd⟩, rfl⟩, q⟩ := h
  have c := at_start (N := ["book"]) dom tab r
  rcases hB with rfl | rfl
  · refine ⟨_, (pss_one (ps_ret (pe_callTy (call_dictZ rfl) (by rfl) B.dict bt_dict (pa_cons (pe_call C_tupled.ok (hr.mono (by decide)) (by rfl) C_tupled.g C_tupled.kp C_tupled.b .nil pass0 (pa_cons (pe_ix (ix_tupK K) (pv 0) pe_int (fun _ _ => rfl)) pa_nil)) pa_nil)))), ?_⟩
    exact sd_ret c (ed_dictZ (ed_call (en_one (ed_ixT (j := 1) (m' := .any) (d := b1) (ed_var (e := .m m (.tuple [b0, b1]))) ed_int rfl rfl)) ⟨m, b1, rfl, hs, by rw [ht]⟩) nd) q
  · refine ⟨_, (pss_one (ps_ret (pe_callTy (call_dictZ rfl) (by rfl) B.dict bt_dict (pa_cons (pe_call C_tupled.ok (hr.mono (by decide)) (by rfl) C_tupled.g C_tupled.kp C_tupled.b .nil pass0 (pa_cons (pe_ix (ix_listK K) (pv 0) pe_int (fun _ _ => rfl)) pa_nil)) pa_nil)))), ?_⟩
    exact sd_ret c (ed_dictZ (ed_call (en_one (ed_ixL (j := 1) (m' := .any) (d := b1) (ed_var (e := .m m (.list [b0, b1]))) ed_int rfl rfl)) ⟨m, b1, rfl, hs, by rw [ht]⟩) nd) q
theorem ok_rest_of (B : Blt mg) {f : Addr} {fd : FuncData} (F : Fun K "rest_of" "rest_of" s_rest_of f fd) : FnOk P w K mg base CX0 1 f fd ["one", "other", "bill"] (PrR T R_rest) := by
  refine F.ok sc_rest_of (PrR.len (n := 3) (fun es e ⟨_, _, _, _, h, _⟩ => by rw [h]; rfl) rfl) (fun cdv A outer s H vs Q E hr h => ?_)
  obtain ⟨S, es, e, dom, tab, r, ⟨m, one, other, bill, rfl, h1, h2, hz1, hz2, rfl⟩, q⟩ := h
  have c := at_start (N := ["one", "other", "bill", "hidden", "mate"]) dom tab r
  refine ⟨_, (pss_cons (ps_set (i := 3) sc_rest_of.nd rfl (.inr rfl) (pe_slice (sl_tupK K) (pv 1) po_none (po_some (pe_bmZ PySem.F.plainAttrs_tuple PySem.F.slot_tuple_index PySem.F.type_tuple_index (mt_idxK K) (pv 1) (pa_cons (pv 2) pa_nil)))))
    (pss_one (ps_ret (pe_callTy (call_tupK K) (by rfl) B.tuple bt_tuple (pa_cons (pe_lc (own := [("mate", 4)]) (by rfl) sc_rest_of.nd (pi_tupK K (pe_slice (sl_tupK K) (pv 0) (po_some (pe_op op_add (pe_bmZ PySem.F.plainAttrs_tuple PySem.F.slot_tuple_index PySem.F.type_tuple_index (mt_idxK K) (pv 0) (pa_cons (pv 2) pa_nil)) pe_int)) po_none)) (blkOk_by (N := ["one", "other", "bill", "hidden", "mate"]) (sc := defScope s_rest_of) (by decide +kernel)) (fun _ _ _ _ _ => (pg_name (i := 4) sc_rest_of.nd rfl (by first | exact .inl rfl | exact .inr rfl))) (fun _ _ _ _ _ => (pts_one (pt_cmpR (op_niK K) (pv 4) (pv 3) (by rfl)))) (fun _ _ _ _ _ => (pv 4))) pa_nil))))), ?_⟩
  refine sd_set c (e := .d (eT (other.take (ixOf other bill)))) (ED.is (ed_slT (m := .any) (ED.any ed_var) (by intro z; cases z) eo_none (eo_some (m := .any) (ed_index ed_var ed_var h2))) (by rw [cutD_to, ← List.map_take])) fun σ1 H1 g1 c1 => ?_
  have k2 : ED T _ (tSl (rSlA K) (tVar 0) (tPart (tOp (rI0 fun i j => .int (i + j)) (tBMZ (rIdxK K) (tVar 0) (tCons (tVar 2) tNil)) (tC (.int 1)))) tNoPart) (.d (eT (one.drop (ixOf one bill + 1)))) := ED.is (env := [.m .z (eT one), .m .z (eT other), .m m (.str bill), .d (eT (other.take (ixOf other bill))), .no]) (ed_slT (m := .any) (ED.any ed_var) (by intro z; cases z) (eo_some (m := .any) (ed_add (m := .any) (m' := .any) (ed_index ed_var ed_var h1) ed_int)) eo_none) (by
    have e : ((ixOf one bill : Nat) : Int) + 1 = ((ixOf one bill + 1 : Nat) : Int) := by omega
    rw [e, cutD_from, ← List.map_drop])
  exact sd_ret c1 (ed_tupL (m := .any) (by intro z; cases z) (ed_lcT (fun x : Str => !decide (x ∈ other.take (ixOf other bill))) PyData.str k2 (by decide) (by rw [List.length_drop]; omega) (fun b _ => et_test (ed_niT ed_var ed_var)) (fun b _ _ => ed_var))) fun v H2 g2 r2 => q v H2 (g1.trans g2) r2
theorem ok_odd_bills (B : Blt mg) {f ft fr : Addr} {fd fdt fdr : FuncData} (F : Fun K "odd_bills" "odd_bills" s_odd_bills f fd) (C_tupled : Cal P w K mg base "tupled" 4 ["value"] (PrR T (R_tupled 3)) ft fdt)
    (C_rest_of : Cal P w K mg base "rest_of" 1 ["one", "other", "bill"] (PrR T R_rest) fr fdr) : FnOk P w K mg base CX0 5 f fd ["one", "other"] (PrR T R_odd) := by
  refine F.ok sc_odd_bills (PrR.len (n := 2) (fun es e ⟨_, _, _, _, h, _⟩ => by rw [h]; rfl) rfl) (fun cdv A outer s H vs Q E hr h => ?_)
  obtain ⟨S, es, e, dom, tab, r, ⟨m, m', one, other, rfl, o1, o2, hz1, hz2, rfl⟩, q⟩ := h
  have c := at_start (N := ["one", "other", "mine", "its", "shared", "bill"]) dom tab r
  refine ⟨_, (pss_cons (ps_asg (pe_tup (pa_cons (pe_call C_tupled.ok (hr.mono (by decide)) (by rfl) C_tupled.g C_tupled.kp C_tupled.b .nil pass0 (pa_cons (pv 0) pa_nil)) (pa_cons (pe_call C_tupled.ok (hr.mono (by decide)) (by rfl) C_tupled.g C_tupled.kp C_tupled.b .nil pass0 (pa_cons (pv 1) pa_nil)) pa_nil))) (pg_tupK K rfl (pgs_cons (pg_name (i := 2) sc_odd_bills.nd rfl (.inr rfl)) (pgs_cons (pg_name (i := 3) sc_odd_bills.nd rfl (.inr rfl)) pgs_nil))))
    (pss_cons (ps_setLc (i := 4) (own := [("bill", 5)]) (by rfl) sc_odd_bills.nd rfl rfl (sw_true rfl rfl rfl (by decide +kernel)) (pi_tupK K (pv 2)) (blkOk_by (N := ["one", "other", "mine", "its", "shared", "bill"]) (sc := defScope s_odd_bills) (by decide +kernel)) (fun _ _ _ _ _ => (pg_name (i := 5) sc_odd_bills.nd rfl (by first | exact .inl rfl | exact .inr rfl))) (fun _ _ _ _ _ => (pts_one (pt_cmpR (op_inK K) (pv 5) (pv 3) (by rfl)))) (fun _ _ _ _ _ => (pv 5)))
    (pss_one (ps_ret (pe_callTy (call_tupK K) (by rfl) B.tuple bt_tuple (pa_cons (pe_callB (cr_sortK K hr.units) (by rfl) B.sorted bt_sorted (pa_cons (pe_lc (own := [("bill", 5)]) (by rfl) sc_odd_bills.nd (pi_listK K (pv 4)) (blkOk_by (N := ["one", "other", "mine", "its", "shared", "bill"]) (sc := defScope s_odd_bills) (by decide +kernel)) (fun _ _ _ _ _ => (pg_name (i := 5) sc_odd_bills.nd rfl (by first | exact .inl rfl | exact .inr rfl))) (fun _ _ _ _ _ => (pts_one (pt_cmpR (op_neDK K hr.units) (pe_call C_rest_of.ok (hr.mono (by decide)) (by rfl) C_rest_of.g C_rest_of.kp C_rest_of.b .nil pass0 (pa_cons (pv 2) (pa_cons (pv 3) (pa_cons (pv 5) pa_nil)))) (pe_call C_rest_of.ok (hr.mono (by decide)) (by rfl) C_rest_of.g C_rest_of.kp C_rest_of.b .nil pass0 (pa_cons (pv 3) (pa_cons (pv 2) (pa_cons (pv 5) pa_nil)))) (nomark _)))) (fun _ _ _ _ _ => (pv 5))) pa_nil)) pa_nil)))))), ?_⟩
  refine sd_asg2 c (e := .m .z (eT one)) (e' := .m .z (eT other)) (ed_call (en_one ed_var) ⟨m, eT one, rfl, shp_eT hz1, by rw [tupD_eT]⟩) (ed_call (en_one ed_var) ⟨m', eT other, rfl, shp_eT hz2, by rw [tupD_eT]⟩) fun σ1 H1 g1 c1 => ?_
  refine sd_set c1 (e := .d (eL (sharedOf one other))) (ed_lcT (m' := .any) (fun x : Str => decide (x ∈ other)) PyData.str (ed_var (e := .m .z (eT one))) (by decide) (by omega) (fun b _ => et_test (ed_inT ed_var ed_var)) (fun b _ _ => (ed_var (e := .m .z (.str b))).any)) fun σ2 H2 g2 c2 => ?_
  have hsh : (sharedOf one other).length ≤ one.length := List.length_filter_le _ _
  refine sd_ret c2 (ed_tupL (m := .any) (by intro z; cases z) (ed_sortS (.inl (ed_lcL (m' := .any) (fun b : Str => !decide (restOf one other b = restOf other one b)) PyData.str (ed_var (e := .d (eL (sharedOf one other)))) (by decide) (by omega) (fun b hb => ?_) (fun b _ _ => ed_var))))) fun v H3 g3 r3 => q v H3 ((g1.trans g2).trans g3) r3
  have hb2 := List.mem_filter.mp hb
  have hb3 : b ∈ other := of_decide_eq_true hb2.2
  refine et_test (ED.is (ed_neD (d := eT (restOf one other b)) (e := eT (restOf other one b)) (m := .any) (m' := .any) (ed_call (en_cons ed_var (en_cons ed_var (en_cons ed_var en_nil))) ⟨_, one, other, b, rfl, hb2.1, hb3, hz1, hz2, rfl⟩) (ed_call (en_cons ed_var (en_cons ed_var (en_cons ed_var en_nil))) ⟨_, other, one, b, rfl, hb3, hb2.1, hz2, hz1, rfl⟩) (shaped_eT (restOf_ok o1)) (shaped_eT (restOf_ok o2))) (by rw [eqv_eT]))
theorem ok_agree (B : Blt mg) {f fo : Addr} {fd fdo : FuncData} (F : Fun K "agree" "agree" s_agree f fd) (C_odd_bills : Cal P w K mg base "odd_bills" 5 ["one", "other"] (PrR T R_odd) fo fdo) : FnOk P w K mg base CX0 6 f fd ["one", "other"] (PrR T R_agree) := by
  refine F.ok sc_agree (PrR.len (n := 2) (fun es e ⟨_, _, _, _, h, _⟩ => by rw [h]; rfl) rfl) (fun cdv A outer s H vs Q E hr h => ?_)
  obtain ⟨S, es, e, dom, tab, r, ⟨m, m', one, other, rfl, o1, o2, hz1, hz2, rfl⟩, q⟩ := h
  have c := at_start (N := ["one", "other"]) dom tab r
  refine ⟨_, (pss_one (ps_ret (pe_cmpR op_eq (pe_callB (call_lenK K) (by rfl) B.len bt_len (pa_cons (pe_call C_odd_bills.ok (hr.mono (by decide)) (by rfl) C_odd_bills.g C_odd_bills.kp C_odd_bills.b .nil pass0 (pa_cons (pv 0) (pa_cons (pv 1) pa_nil))) pa_nil)) pe_int (nomark _)))), ?_⟩
  refine sd_ret c (ED.is (ed_eqI (m' := .any) (ed_lenT (m := .any) (ds := (oddBills one other).map .str) (ed_call (en_two ed_var ed_var) ⟨m, m', one, other, rfl, o1, o2, hz1, hz2, rfl⟩)) ed_int) ?_) q
  rw [List.length_map]; rfl
end
end K28
set_option Elab.async false
set_option linter.all false
set_option maxRecDepth 100000
set_option maxHeartbeats 4000000
/-! orders of texts and of rows of texts -/
namespace K28
open PySem PySem.Spec PyProof.Rows L2 LamX PySem.W

theorem perm_sorted_eq {α : Type} {le : α → α → Prop} (anti : ∀ a b, le a b → le b a → a = b) : ∀ {l m : List α}, l.Perm m → l.Pairwise le → m.Pairwise le → l = m
  | [], m, h, _, _ => (List.Perm.eq_nil h.symm).symm
  | a :: l, [], h, _, _ => absurd (List.Perm.eq_nil h) (by simp)
  | a :: l, b :: m, h, h1, h2 => by
    have e : a = b := by
      have ha : a ∈ b :: m := h.mem_iff.mp List.mem_cons_self
      have hb : b ∈ a :: l := h.mem_iff.mpr List.mem_cons_self
      rcases List.mem_cons.mp ha with z | z
      · exact z
      · rcases List.mem_cons.mp hb with y | y
        · exact y.symm
        · exact anti _ _ ((List.pairwise_cons.mp h1).1 b y) ((List.pairwise_cons.mp h2).1 a z)
    subst e
    rw [perm_sorted_eq anti (List.Perm.cons_inv h) (List.pairwise_cons.mp h1).2 (List.pairwise_cons.mp h2).2]

/-! ### texts -/
def ltS (x y : Str) : Bool := decide (x.cps.toList < y.cps.toList)
def leS (x y : Str) : Bool := !ltS y x
theorem str_ext {x y : Str} (h : x.cps.toList = y.cps.toList) : x = y := by
  obtain ⟨a⟩ := x
  obtain ⟨b⟩ := y
  have e : a = b := by simpa using congrArg List.toArray h
  rw [e]
theorem leS_iff {x y : Str} : leS x y = true ↔ x.cps.toList ≤ y.cps.toList := by
  unfold leS ltS
  rw [Bool.not_eq_true', decide_eq_false_iff_not]
  exact List.not_lt
theorem leS_anti {x y : Str} (h1 : leS x y = true) (h2 : leS y x = true) : x = y := str_ext (List.le_antisymm (leS_iff.mp h1) (leS_iff.mp h2))
theorem leS_trans {x y z : Str} (h1 : leS x y = true) (h2 : leS y z = true) : leS x z = true := leS_iff.mpr (List.le_trans (leS_iff.mp h1) (leS_iff.mp h2))
theorem leS_refl (x : Str) : leS x x = true := leS_iff.mpr (List.le_refl _)
theorem leS_total (x y : Str) : leS x y = true ∨ leS y x = true := by
  rcases List.le_total x.cps.toList y.cps.toList with h | h
  · exact .inl (leS_iff.mpr h)
  · exact .inr (leS_iff.mpr h)
theorem dataLt_S (x y : Str) : dataLt (.str x) (.str y) = ltS x y := dataLt_str x y
theorem dataLe_S : dataLe false PyData.str = leS := by
  funext a b
  show (!dataLt (.str b) (.str a)) = _
  rw [dataLt_S]; rfl
theorem sortS_perm (xs : List Str) : (sortS xs).Perm xs := List.mergeSort_perm _ _
theorem sortS_sorted (xs : List Str) : (sortS xs).Pairwise (fun a b => leS a b = true) := by
  have h := sort_pairwise (sortLe_total (PyProof.Rows.listOrd itemOrd) false fun b => keyToks (PyData.str b)) xs
  have e : (sortLe (PyProof.Rows.listOrd itemOrd) false fun b => keyToks (PyData.str b)) = leS := dataLe_S
  rw [e] at h
  have e2 : sortS xs = xs.mergeSort leS := by unfold sortS; rw [dataLe_S]
  rw [e2]
  exact h
theorem sortS_of {xs ys : List Str} (h : ys.Perm xs) (hs : ys.Pairwise (fun a b => leS a b = true)) : ys = sortS xs :=
  perm_sorted_eq (fun _ _ => leS_anti) (h.trans (sortS_perm xs).symm) hs (sortS_sorted xs)
theorem rising_pw : ∀ (l : List Str) (p : Str), risingS p l = true → (∀ x ∈ l, leS p x = true) ∧ l.Pairwise (fun a b => leS a b = true)
  | [], p, _ => ⟨fun x hx => absurd hx (by simp), .nil⟩
  | x :: r, p, h => by
    have h : (!ltCps x.cps.toList p.cps.toList && risingS x r) = true := h
    rw [Bool.and_eq_true, ltCps_eq] at h
    have hx : leS p x = true := h.1
    obtain ⟨h1, h2⟩ := rising_pw r x h.2
    refine ⟨fun y hy => ?_, List.pairwise_cons.mpr ⟨h1, h2⟩⟩
    rcases List.mem_cons.mp hy with z | z
    · rw [z]; exact hx
    · exact leS_trans hx (h1 y z)
theorem sortedS_pw : ∀ {l : List Str}, sortedS l = true → l.Pairwise (fun a b => leS a b = true)
  | [], _ => .nil
  | x :: r, h => by
    obtain ⟨h1, h2⟩ := rising_pw r x h
    exact List.pairwise_cons.mpr ⟨h1, h2⟩
theorem sortS_perm_eq {xs ys : List Str} (h : xs.Perm ys) : sortS xs = sortS ys := sortS_of ((sortS_perm xs).trans h) (sortS_sorted xs)
theorem sortS_self {xs : List Str} (h : xs.Pairwise (fun a b => leS a b = true)) : sortS xs = xs := (sortS_of (List.Perm.refl _) h).symm

/-! ### rows of texts -/
def ltL : List Str → List Str → Bool
  | [], [] => false
  | [], _ :: _ => true
  | _ :: _, [] => false
  | x :: xs, y :: ys => if x = y then ltL xs ys else ltS x y
def leL (x y : List Str) : Bool := !ltL y x
theorem rowLt_strs : ∀ xs ys : List Str, rowLt (xs.map .str) (ys.map .str) = ltL xs ys
  | [], [] => lex_irrefl _
  | [], y :: ys => by
    have e : rowLt [] (PyData.str y :: ys.map .str) = true := by
      unfold rowLt
      rw [toks_all_cons]
      simp only [keyToksAll]
      rw [lex_diff (O := itemOrd) (by simp)]
      rfl
    exact e
  | x :: xs, [] => by
    have e : rowLt (PyData.str x :: xs.map .str) [] = false := by
      unfold rowLt
      rw [toks_all_cons]
      simp only [keyToksAll]
      rw [lex_diff (O := itemOrd) (by simp)]
      rfl
    exact e
  | x :: xs, y :: ys => by
    have e : rowLt (PyData.str x :: xs.map .str) (PyData.str y :: ys.map .str) = if x = y then rowLt (xs.map .str) (ys.map .str) else ltS x y := by
      unfold rowLt
      rw [dataLt_cons (by simp [alike]), dataLt_S]
      simp only [PyData.eqv, beq_iff_eq]
    show rowLt (PyData.str x :: xs.map .str) (PyData.str y :: ys.map .str) = _
    rw [e, rowLt_strs xs ys]
    rfl
theorem dataLt_T (xs ys : List Str) : dataLt (eT xs) (eT ys) = ltL xs ys := by
  rw [dataLt_tuple]
  exact rowLt_strs xs ys
theorem ltL_anti : ∀ {x y : List Str}, leL x y = true → leL y x = true → x = y
  | [], [], _, _ => rfl
  | [], _ :: _, _, h => Bool.noConfusion (show false = true from h)
  | _ :: _, [], h, _ => Bool.noConfusion (show false = true from h)
  | x :: xs, y :: ys, h1, h2 => by
    have h1 : (!(if y = x then ltL ys xs else ltS y x)) = true := h1
    have h2 : (!(if x = y then ltL xs ys else ltS x y)) = true := h2
    by_cases e : x = y
    · subst e
      rw [if_pos rfl] at h1 h2
      rw [ltL_anti (x := xs) (y := ys) h1 h2]
    · rw [if_neg (fun z => e z.symm)] at h1
      rw [if_neg e] at h2
      exact absurd (leS_anti (x := x) (y := y) h1 h2) e
theorem eqv_T (xs ys : List Str) : PyData.eqv (eT xs) (eT ys) = decide (xs = ys) := eqv_eT xs ys
end K28
set_option Elab.async false
set_option linter.all false
set_option maxRecDepth 100000
set_option maxHeartbeats 4000000
/-! sorted(dict), comprehensions of two for -/
namespace K28
open PySem PySem.Spec PyProof.Rows L2 LamX PySem.W
section
variable {T : List (Addr × Str)} {env : List En} {K : PySem.W.Frag} {ta tb te tx tl tl1 : TE} {aa : TA} {m m' m1 : Md} {vs vs1 : List Nat}
abbrev rSortedDK : List V → Hp → VK → Prop := fun xs H Q => ∃ (a : Addr) (kvs : List (Key × V)) (ks : List Str), xs = [.ref a] ∧ Rd H a (.dK kvs) ∧ kvs.map (·.1) = ks.map Sum.inr ∧ ks.length < 64 ∧
    ∀ ys p, ys.Perm ks → sortedS ys = true → H p = none → Q (.ref p) (upd H p (.lst (ys.map V.str)))
theorem ed_sortD {ps : List (Str × PyData)} (h : ED T env te (.k m ps)) (hz : ps.length < 64) : ED T env (tCB rSortedDK (tCons te tNil)) (.m m' (eL (sortS (ps.map (·.1))))) := fun S H σ c Q q => h S H σ c _ fun v H1 g1 r1 => by
  obtain ⟨a, kvs, rfl, h1, h2⟩ := r1
  refine ⟨a, kvs, ps.map (·.1), rfl, .inl (hide_le _ _ h1 fun ps z => by cases z), by rw [h2.keys, List.map_map]; rfl, by rw [List.length_map]; exact hz, fun ys p hp hs hn => ?_⟩
  rw [sortS_of hp (sortedS_pw hs)]
  exact q _ _ (g1.trans (Gd.new g1.tab hn)) (new_lst (c.up g1).dom hn (RpL.ofStrs _))

theorem t_yes {A B : Hp → Prop} {σ : L2.St} {H : Hp} (h : A H) : tYes σ H (fun b H3 => if b = true then A H3 else B H3) := by show (if true = true then A H else B H); rw [if_pos rfl]; exact h
/-- all but the object at D stays -/
def ExtD (D : Addr) (H H' : Hp) : Prop := ∀ b o, b ≠ D → H b = some o → (∀ ps, o ≠ .tbl ps) → H' b = some o
theorem ExtD.trans {D : Addr} {H H1 H2 : Hp} (a : ExtD D H H1) (b : ExtD D H1 H2) : ExtD D H H2 := fun c o n h t => b c o n (a c o n h t) t
theorem ExtD.of {D : Addr} {H H' : Hp} (e : ExtN H H') : ExtD D H H' := fun b o _ h t => e b o h t
theorem ExtD.upd {D : Addr} {H : Hp} {o : HO} : ExtD D H (upd H D o) := fun b u n h _ => by rw [upd_ne n]; exact h
theorem ExtD.hide {D : Addr} {S : List Addr} {H H' : Hp} (e : ExtD D H H') : ExtN (hide (D :: S) H) (hide (D :: S) H') := fun b o h t => by
  by_cases hb : b ∈ D :: S
  · rw [hide_in hb] at h; cases h
  · rw [hide_out hb] at h ⊢
    exact e b o (fun z => hb (by rw [z]; exact List.mem_cons_self)) h t
theorem ExtD.ext {D : Addr} {H0 H H' : Hp} (e0 : ExtN H0 H) (h0 : H0 D = none) (e : ExtD D H H') : ExtN H0 H' := fun b o h t => e b o (fun z => by rw [z, h0] at h; cases h) (e0 b o h t) t
theorem tabs_mut {D : Addr} {H : Hp} {xs : List V} {o : HO} (t : Tabs T H) (hx : H D = some (.lst xs)) : Tabs T (upd H D o) := fun q hq => by
  obtain ⟨ps, h1, h2, h3⟩ := t q hq
  have hb : ∀ b u, H b = some u → (∀ ys, u ≠ .lst ys) → b ≠ D := fun b u e nl z => by
    subst z; rw [hx] at e; cases e; exact nl _ rfl
  refine ⟨ps, by rw [upd_ne (hb _ _ h1 fun ys z => by cases z)]; exact h1, h2, fun pos cv hc => ?_⟩
  obtain ⟨c, e1, e2⟩ := h3 pos cv hc
  exact ⟨c, e1, by rw [upd_ne (hb _ _ e2 fun ys z => by unfold CodeO at z; cases z)]; exact e2⟩

/-- [elt for k, x in enumerate(xs) for y in ys(k, x)] -/
theorem ed_lc2E {β γ : Type} {bs : List β} {enc : β → PyData} {cs : Nat → List γ} {encc : γ → PyData} {f : Nat → γ → PyData} {ki ji j1 : Nat} {env2 : Nat → β → List En}
    (h : EA T env aa m [.list (bs.map enc)]) (hk : ki ∈ vs) (hj : ji ∈ vs) (h1 : j1 ∈ vs1) (hz : bs.length ≤ 1000) (hzc : ∀ i, (cs i).length ≤ 1000) (hm : m ≠ .z)
    (he2 : ∀ i b, env2 i b = (((wipeE env vs).set ki (.m m (.int (i : Int)))).set ji (.m m (enc b))))
    (inner : ∀ i b, bs[i]? = some b → ED T (env2 i b) tl1 (.m m1 (.list ((cs i).map encc))))
    (he : ∀ i b c, bs[i]? = some b → c ∈ cs i → ED T ((wipeE (env2 i b) vs1).set j1 (.m m1 (encc c))) te (.m m' (f i c))) :
    ED T env (tLc2 (iEnum K aa) (gTup K 2 (gCons (gName ki) (gCons (gName ji) gNil))) tYes (iList K tl1) (gName j1) tYes te vs vs1) (.m m' (.list ((List.range bs.length).flatMap fun i => (cs i).map (f i)))) := fun S H σ c Q q => h S H σ c _ fun us H1 g1 r1 => by
  cases r1 with
  | cons r r1 =>
    cases r1
    obtain ⟨a, xs, rfl, ha, hxs⟩ := Rp.listInv r
    have ha' : H1 a = some (.lst xs) := hide_le _ _ ha fun ps z => by cases z
    have c1 := c.up g1
    have lenX : xs.length = bs.length := by rw [hxs.length, List.length_map]
    refine ⟨a, xs, rfl, SqL.of ha', fun D hD => ⟨fun i n H' => n = bs.length - i ∧ i ≤ bs.length ∧ Gd T H1 H' ∧ ∃ acc, H' D = some (.lst acc) ∧ RpL m' (hide (D :: S) H') acc ((List.range i).flatMap fun i => (cs i).map (f i)) ∧ acc.length ≤ i * 1000, ⟨_, rfl, Nat.zero_le _, Gd.new g1.tab hD, [], upd_same, .nil, Nat.zero_le _⟩, ?_⟩⟩
    rintro i n H' ⟨rfl, hi, g2, acc, hacc, racc, lacc⟩
    have haH : H' a = some (.lst xs) := g2.ext _ _ ha' fun ps z => by cases z
    by_cases hlt : i < bs.length
    · refine .inr ⟨⟨xs, xs[i]'(by omega), SqL.of haH, by simp [lenX, hlt]⟩, fun H' => (i + 1 ≤ bs.length ∧ Gd T H1 H' ∧ ∃ acc, H' D = some (.lst acc) ∧ RpL m' (hide (D :: S) H') acc ((List.range (i + 1)).flatMap fun i => (cs i).map (f i)) ∧ acc.length ≤ (i + 1) * 1000), fun H'' P => ⟨_, by omega, rfl, P⟩, fun x H3 hy => ?_⟩
      obtain ⟨Tp, x1, rfl, nT, rfl, fx⟩ := hy
      have hx1 := fx xs (SqL.of haH)
      obtain ⟨b, eb, hb, rb⟩ := get_map hxs hx1
      have g3 : Gd T H' (upd H' Tp (.tup [.int (i : Nat), x1])) := Gd.new g2.tab nT
      have cD : At T (D :: S) H' σ env := ⟨(c1.dom.ext g2.ext).cons hacc, g2.tab, c1.fit.up (hide_grow hD g2.ext)⟩
      have c3 := cD.up g3
      have rb3 : Rp m (hide (D :: S) (upd H' Tp (.tup [.int (i : Nat), x1]))) x1 (enc b) := (rb.up (hide_grow hD g2.ext)).up (hide_ext g3.ext)
      refine ⟨Tp, _, rfl, SqT.of upd_same, rfl, _, _, rfl, _, _, rfl, rfl, by rw [wipe_set hj, wipe_set hk, wipe_wipe], ?_⟩
      refine t_yes ?_
      have c4 : At T (D :: S) (upd H' Tp (.tup [.int (i : Nat), x1])) (((L2.wipe σ vs).set ki (some (.int (i : Nat)))).set ji (some x1)) (env2 i b) := by
        rw [he2]
        exact ((c3.wipe vs).set (e := .m m (.int (i : Int))) (Rp.int _) ki).set (e := .m m (enc b)) rb3 ji
      refine inner i b eb _ _ _ c4 _ fun v H4 g4 r4 => ?_
      obtain ⟨a1, ys, rfl, ha1, hys⟩ := Rp.listInv (show Rp m1 _ v _ from r4)
      have ha1' : H4 a1 = some (.lst ys) := hide_le _ _ ha1 fun ps z => by cases z
      have na1 : a1 ≠ D := fun z => by rw [z, hide_in List.mem_cons_self] at ha1; cases ha1
      have lenY : ys.length = (cs i).length := by rw [hys.length, List.length_map]
      have c5 := c4.up g4
      have hacc4 : H4 D = some (.lst acc) := (g3.trans g4).ext _ _ hacc fun ps z => by cases z
      refine ⟨a1, rfl, ⟨ys, SqL.of ha1'⟩, fun j k H' => k = (cs i).length - j ∧ j ≤ (cs i).length ∧ ExtD D H4 H' ∧ Tabs T H' ∧ ∃ acc', H' D = some (.lst acc') ∧ RpL m' (hide (D :: S) H') acc' (((List.range i).flatMap fun i => (cs i).map (f i)) ++ ((cs i).take j).map (f i)) ∧ acc'.length ≤ i * 1000 + j, ⟨_, rfl, Nat.zero_le _, fun b o _ h _ => h, g4.tab, acc, hacc4, ?_, lacc⟩, ?_⟩
      · rw [List.take_zero, List.map_nil, List.append_nil]
        exact racc.up (hide_ext (g3.trans g4).ext)
      · rintro j k H5 ⟨rfl, hjl, x5, t5, acc5, hacc5, racc5, lacc5⟩
        have ha5 : H5 a1 = some (.lst ys) := x5 _ _ na1 ha1' fun ps z => by cases z
        by_cases hlt2 : j < (cs i).length
        · refine .inr ⟨⟨ys, ys[j]'(by omega), SqL.of ha5, by simp [lenY, hlt2]⟩, fun H' => (j + 1 ≤ (cs i).length ∧ ExtD D H4 H' ∧ Tabs T H' ∧ ∃ acc', H' D = some (.lst acc') ∧ RpL m' (hide (D :: S) H') acc' (((List.range i).flatMap fun i => (cs i).map (f i)) ++ ((cs i).take (j + 1)).map (f i)) ∧ acc'.length ≤ i * 1000 + (j + 1)), fun H'' P => ⟨_, by omega, rfl, P⟩, fun y H6 hy => ?_⟩
          obtain ⟨rfl, fy⟩ := hy
          have hy1 := fy ys (SqL.of ha5)
          obtain ⟨cc, ec, hcm, rc⟩ := get_map hys hy1
          have c6 : At T (D :: S) H6 (((L2.wipe (((L2.wipe σ vs).set ki (some (.int (i : Nat)))).set ji (some x1)) vs1).set j1 (some y))) ((wipeE (env2 i b) vs1).set j1 (.m m1 (encc cc))) := by
            have f6 : Fit (hide (D :: S) H6) (((L2.wipe σ vs).set ki (some (.int (i : Nat)))).set ji (some x1)) (env2 i b) := c5.fit.up x5.hide
            have d6 : Dom (D :: S) H6 := fun s hs => by
              rcases List.mem_cons.mp hs with z | z
              · rw [z]; exact ⟨_, hacc5, nt_lst _⟩
              · obtain ⟨o, ho, no⟩ := c5.dom s hs
                by_cases hsD : s = D
                · rw [hsD]; exact ⟨_, hacc5, nt_lst _⟩
                · exact ⟨o, x5 s o hsD ho no.1, no⟩
            exact ⟨d6, t5, (f6.wipe vs1).set (e := .m m1 (encc cc)) (rc.up x5.hide) j1⟩
          refine ⟨by rw [wipe_set h1, wipe_wipe], ?_⟩
          refine t_yes ?_
          refine he i b cc eb hcm _ _ _ c6 _ fun z H7 g7 r7 => ?_
          have hacc7 : H7 D = some (.lst acc5) := g7.ext _ _ hacc5 fun ps z => by cases z
          refine ⟨acc5, hacc7, (by rw [sizeLine_eq]; have := hzc i; omega), by omega, (x5.trans (ExtD.of g7.ext)).trans ExtD.upd, tabs_mut g7.tab hacc7, _, upd_same, ?_, by rw [List.length_append]; show acc5.length + 1 ≤ _; omega⟩
          rw [hide_upd List.mem_cons_self, List.take_add_one, ec, List.map_append, ← List.append_assoc]
          exact (racc5.up (hide_ext g7.ext)).snoc r7
        · have ej : j = (cs i).length := by omega
          subst ej
          refine .inl ⟨⟨ys, SqL.of ha5, by omega⟩, by omega, ⟨?_, t5⟩, acc5, hacc5, ?_, ?_⟩
          · exact x5.ext ((g2.trans g3).trans g4).ext hD
          · rw [List.take_of_length_le (Nat.le_refl _)] at racc5
            rw [List.range_succ, List.flatMap_append, List.flatMap_singleton]
            exact racc5
          · have := hzc i
            rw [Nat.add_mul, Nat.one_mul]
            omega
    · have ei : i = bs.length := by omega
      subst ei
      refine .inl ⟨⟨xs, SqL.of haH, by omega⟩, q _ _ (g1.trans g2) ?_⟩
      exact Rp.lst (by rw [hide_out ((c1.dom).nin hD)]; exact hacc) (racc.up (hide_more fun b hb => List.mem_cons_of_mem _ hb))
end
end K28
set_option Elab.async false
set_option linter.all false
set_option maxRecDepth 100000
set_option maxHeartbeats 4000000
/-! odd_pairs -/
namespace K28
open PySem PySem.Spec PyProof.Rows L2 LamX PySem.W
abbrev eP (p : Str × Str) : PyData := .tuple [.str p.1, .str p.2]
/-- all pairs of names, the one ahead first -/
def pairsI (names : List Str) : List (Str × Str) := (List.range names.length).flatMap fun i => (names.drop (i + 1)).map fun o => (names.getD i default, o)
def look (ps : List (Str × List Str)) (x : Str) : List Str := ((ps.find? fun p => decide (p.1 = x)).map (·.2)).getD []
/-- the names of a table -/
abbrev names1 (ps : List (Str × List Str)) : List Str := ps.map fun p => p.1
def oddPairs (ps : List (Str × List Str)) : List (Str × Str) := (pairsI (sortS (ps.map (·.1)))).filter fun p => !agreeB (look ps p.1) (look ps p.2)
structure BookOk (ps : List (Str × List Str)) : Prop where
  len : ps.length < 64
  ok : ∀ p ∈ ps, okL p.2 = true ∧ p.2.length ≤ 1000 ∧ okS p.1 = true
theorem mem_pairsI {names : List Str} {p : Str × Str} (h : p ∈ pairsI names) : p.1 ∈ names ∧ p.2 ∈ names := by
  obtain ⟨i, hi, hp⟩ := List.mem_flatMap.mp h
  obtain ⟨o, ho, rfl⟩ := List.mem_map.mp hp
  have hi' := List.mem_range.mp hi
  refine ⟨?_, List.mem_of_mem_drop ho⟩
  show names.getD i default ∈ names
  rw [List.getD_eq_getElem?_getD, List.getElem?_eq_getElem hi']
  exact List.getElem_mem hi'
theorem find_table {ps : List (Str × List Str)} {x : Str} (h : x ∈ ps.map (·.1)) : (((ps.map fun p => (p.1, eT p.2)).find? fun q => decide (q.1 = x)).map (·.2)) = some (eT (look ps x)) ∧ ∃ p ∈ ps, look ps x = p.2 := by
  induction ps with
  | nil => cases h
  | cons p ps ih =>
    unfold look
    by_cases e : p.1 = x
    · rw [List.map_cons, List.find?_cons, List.find?_cons]
      simp only [e, decide_true]
      exact ⟨rfl, p, List.mem_cons_self, rfl⟩
    · rw [List.map_cons, List.find?_cons, List.find?_cons]
      simp only [e, decide_false]
      have hx : x ∈ ps.map (·.1) := by
        rcases List.mem_cons.mp h with z | z
        · exact absurd z.symm e
        · exact z
      obtain ⟨h1, q, h2, h3⟩ := ih hx
      exact ⟨h1, q, List.mem_cons_of_mem _ h2, h3⟩
def R_oddp : List En → En → Prop := fun es e => ∃ m B ps, es = [.m m B] ∧ BookD B ps ∧ BookOk ps ∧ e = .d (.tuple ((oddPairs ps).map eP))
section
variable {P : Program} {w : World} {K : PySem.W.Frag} {mg : Str → Option Value} {base : Heap} {T : List (Addr × Str)}
theorem ok_odd_pairs (B : Blt mg) {f f1 f2 : Addr} {fd fd1 fd2 : FuncData} (F : Fun K "odd_pairs" "odd_pairs" s_odd_pairs f fd) (C_lists_table : Cal P w K mg base "lists_table" 5 ["book"] (PrR T R_table) f1 fd1) (C_agree : Cal P w K mg base "agree" 6 ["one", "other"] (PrR T R_agree) f2 fd2) :
    FnOk P w K mg base CX0 7 f fd ["book"] (PrR T R_oddp) := by
  refine F.ok sc_odd_pairs (PrR.len (n := 1) (fun es e ⟨_, _, _, h, _⟩ => by rw [h]; rfl) rfl) (fun cdv A outer s H vs Q E hr h => ?_)
  obtain ⟨S, es, e, dom, tab, r, ⟨m, Bk, ps, rfl, hB, hO, rfl⟩, q⟩ := h
  have c := at_start (N := ["book", "table", "names", "pairs", "k", "one", "other", "pair"]) dom tab r
  have hu := hu_of hr
  refine ⟨_, (pss_cons (ps_set (i := 1) sc_odd_pairs.nd rfl (.inr rfl) (pe_call C_lists_table.ok (hr.mono (by decide)) (by rfl) C_lists_table.g C_lists_table.kp C_lists_table.b .nil pass0 (pa_cons (pv 0) pa_nil)))
    (pss_cons (ps_set (i := 2) sc_odd_pairs.nd rfl (.inr rfl) (pe_callB (call_sortedD rfl) (by rfl) B.sorted bt_sorted (pa_cons (pv 1) pa_nil)))
    (pss_cons (ps_setLc2 (i := 3) (own := [("k", 4), ("one", 5), ("other", 6)]) (vs1 := [6]) (by rfl) sc_odd_pairs.nd rfl rfl (sw_true rfl rfl rfl (by decide +kernel)) (pi_enum (by rfl) B.enumerate (pa_cons (pv 2) pa_nil)) (blkOk_by (N := ["book", "table", "names", "pairs", "k", "one", "other", "pair"]) (sc := defScope s_odd_pairs) (by decide +kernel)) (by decide) (fun _ _ _ _ _ => (pg_tupK (n := 2) K rfl (pgs_cons (pg_name (i := 4) sc_odd_pairs.nd rfl (by first | exact .inl rfl | exact .inr rfl)) (pgs_cons (pg_name (i := 5) sc_odd_pairs.nd rfl (by first | exact .inl rfl | exact .inr rfl)) pgs_nil)) (by rfl) (by rfl))) (fun _ _ _ _ _ => pts_nil) (fun _ _ _ _ _ => (pi_listK K (pe_slice (sl_listK K) (pv 2) (po_some (pe_op op_add (pv 4) pe_int)) po_none))) (fun _ _ _ _ _ => (pg_name (i := 6) sc_odd_pairs.nd rfl (by first | exact .inl rfl | exact .inr rfl))) (fun _ _ _ _ _ => pts_nil) (fun _ _ _ _ _ => (pe_tup (pa_cons (pv 5) (pa_cons (pv 6) pa_nil)))))
    (pss_one (ps_ret (pe_callTy (call_tupK K) (by rfl) B.tuple bt_tuple (pa_cons (pe_lc (own := [("pair", 7)]) (by rfl) sc_odd_pairs.nd (pi_listK K (pv 3)) (blkOk_by (N := ["book", "table", "names", "pairs", "k", "one", "other", "pair"]) (sc := defScope s_odd_pairs) (by decide +kernel)) (fun _ _ _ _ _ => (pg_name (i := 7) sc_odd_pairs.nd rfl (by first | exact .inl rfl | exact .inr rfl))) (fun _ _ _ _ _ => (pts_one (pt_not (pt_val (pe_call C_agree.ok (hr.mono (by decide)) (by rfl) C_agree.g C_agree.kp C_agree.b .nil pass0 (pa_cons (pe_dget hu (pv 1) (pe_ix (ix_tupK K) (pv 7) pe_int (fun _ _ => rfl)) (fun _ _ => rfl)) (pa_cons (pe_dget hu (pv 1) (pe_ix (ix_tupK K) (pv 7) pe_int (fun _ _ => rfl)) (fun _ _ => rfl)) pa_nil))))))) (fun _ _ _ _ _ => (pv 7))) pa_nil))))))), ?_⟩
  refine sd_set c (e := .k .z (ps.map fun p => (p.1, eT p.2))) (ed_call (en_one ed_var) ⟨m, Bk, ps, rfl, hB, rfl⟩) fun σ1 H1 g1 c1 => ?_
  refine sd_set c1 (e := .d (eL (sortS (names1 ps)))) (ED.is (ed_sortD (m' := .any) ed_var (by rw [List.length_map]; exact hO.len)) (by rw [List.map_map]; rfl)) fun σ2 H2 g2 c2 => ?_
  have hlen : (sortS (names1 ps)).length = ps.length := by rw [sortS_length, List.length_map]
  refine sd_set c2 (e := .d (.list ((pairsI (sortS (names1 ps))).map eP))) ?_ fun σ3 H3 g3 c3 => ?_
  · refine ED.is (ed_lc2E (m := .any) (m1 := .any) (m' := .any) (bs := sortS (names1 ps)) (enc := PyData.str) (cs := fun i => (sortS (names1 ps)).drop (i + 1)) (encc := PyData.str) (f := fun i o => .tuple [.str ((sortS (names1 ps)).getD i default), .str o]) (env2 := fun i b => _) (ea_one ed_var) (by decide) (by decide) (by decide) (by have := hO.len; omega) (fun i => by rw [List.length_drop]; have := hO.len; omega) (by intro z; cases z) (fun _ _ => rfl) (fun i b hb => ?_) (fun i b cc hb hc => ?_)) ?_
    · exact ED.is (ed_slL (m := .any) ed_var (eo_some (m := .any) (ed_add (m := .any) (m' := .any) ed_var ed_int)) eo_none) (by
        have e : ((i : Nat) : Int) + 1 = ((i + 1 : Nat) : Int) := by omega
        rw [e, cutD_from, ← List.map_drop])
    · refine ed_tup (ea_two ?_ ed_var)
      refine ED.is ed_var ?_
      rw [List.getD_eq_getElem?_getD, hb]; rfl
    · unfold pairsI
      rw [List.map_flatMap]
      congr 3
      funext i
      rw [List.map_map]; rfl
  · have hpl : (pairsI (sortS (names1 ps))).length ≤ 40000 := by
      have hb : ∀ n, n ≤ 64 → ((List.range n).flatMap fun i => ((sortS (names1 ps)).drop (i + 1)).map fun o => ((sortS (names1 ps)).getD i default, o)).length ≤ n * 64 := by
        intro n
        induction n with
        | zero => intro _; simp
        | succ n ih =>
          intro hn
          rw [List.range_succ, List.flatMap_append, List.flatMap_singleton, List.length_append, List.length_map, List.length_drop]
          have := ih (by omega)
          have := hO.len
          omega
      have := hO.len
      have := hb _ (show (sortS (names1 ps)).length ≤ 64 by omega)
      unfold pairsI
      omega
    refine sd_ret c3 (ed_tupL (m := .any) (by intro z; cases z) (ed_lcL (m' := .any) (fun p : Str × Str => !agreeB (look ps p.1) (look ps p.2)) eP (ed_var (e := .d (.list ((pairsI (sortS (names1 ps))).map eP)))) (by decide) hpl (fun p hp => ?_) (fun p _ _ => ed_var))) fun v H4 g4 r4 => q v H4 (((g1.trans g2).trans g3).trans g4) r4
    obtain ⟨m1, m2⟩ := mem_pairsI hp
    have n1 : p.1 ∈ names1 ps := (sortS_perm _).mem_iff.mp m1
    have n2 : p.2 ∈ names1 ps := (sortS_perm _).mem_iff.mp m2
    obtain ⟨t1, q1, hq1, e1⟩ := find_table n1
    obtain ⟨t2, q2, hq2, e2⟩ := find_table n2
    refine et_not (et_B (ed_call (en_two (ed_dget (m' := .any) (ed_var (e := .k .z (ps.map fun p => (p.1, eT p.2)))) (ed_ixT (j := 0) (m' := .any) (ed_var (e := .d (eP p))) ed_int rfl rfl) t1) (ed_dget (m' := .any) (ed_var (e := .k .z (ps.map fun p => (p.1, eT p.2)))) (ed_ixT (j := 1) (m' := .any) (ed_var (e := .d (eP p))) ed_int rfl rfl) t2)) ⟨.z, .z, _, _, rfl, ?_, ?_, ?_, ?_, rfl⟩))
    · rw [e1]; exact (hO.ok q1 hq1).1
    · rw [e2]; exact (hO.ok q2 hq2).1
    · rw [e1]; exact (hO.ok q1 hq1).2.1
    · rw [e2]; exact (hO.ok q2 hq2).2.1
end
end K28
set_option Elab.async false
set_option linter.all false
set_option maxRecDepth 100000
set_option maxHeartbeats 4000000
/-! a lambda with one parameter as a key: sorted, min -/
namespace K28
open PySem PySem.Spec PyProof.Rows L2 LamX PySem.W PySem.Calls

/-- the lambda's parts: (len(x), x), or (-len(x), x) -/
def lamBody (x : Str) (neg : Bool) (p1 p2 p3 p4 p5 p6 : Pos) (k : Nat) : Expr :=
  .Tuple [(match neg with | true => .UnaryOp .USub (.Call (.Name "len" p1) [.Name x p2] [] p3) p4 | false => .Call (.Name "len" p1) [.Name x p2] [] p3), .Name x p5] k p6
def lamPar (x : Str) (pa : Pos) : Arguments := { posonlyargs := [], args := [{ arg := x, annotation := none, pos := pa }], vararg := none, kwonlyargs := [], kw_defaults := [], kwarg := none, defaults := [] }
def lamSc (x : Str) : Scope := { kind := .function, names := [(x, .local), ("len", .globalImplicit)], isGenerator := false, isCoroutine := false, more := [] }
def sgn (neg : Bool) (n : Nat) : Int := if neg then -(n : Int) else n
/-- what a turn of the lambda gives -/
def LamQ (s : Shared) (h : Heap) (neg : Bool) (v : Value) (n : Nat) (k : Value) (s' : Shared) : Prop := ∃ h' tk p t, s' = { s with heap := h', toks := tk } ∧ (∀ b o, h.get? b = some o → h'.get? b = some o) ∧ k = .ref p ∧ h.get? p = none ∧ h'.get? p = some { cls := .type "tuple", data := .seq #[.int (sgn neg n) t, v] }
section
variable {X : Cx} {pins : List (Addr × Obj)} {σ : L2.St} {H : Hp} {s : Shared}
theorem lam_turn {q x : Str} {pa p1 p2 p3 p4 p5 p6 : Pos} {kk : Nat} {neg : Bool} {f c' : Addr} {pm ctv : Value} {A : Around} (I : Inv X pins σ H s) (hx : x = "some")
    (hf : s.heap.get? f = some (kla_obj "<lambda>" q (lamPar x pa) (lamBody x neg p1 p2 p3 p4 p5 p6 kk) (lamSc x) [] pm c' ctv)) (hco : H c' = some (CodeO c' q)) (hm : X.mg "len" = none) (hroom : A.depth < recursionLimit)
    {a : Addr} {vs : List Value} (ha : IsTup s.heap a vs.toArray) (hz : vs.length ≤ sizeLine) (h : Heap) (tk : Nat) (kp : ∀ b o, s.heap.get? b = some o → h.get? b = some o) :
    wpAny (model X.prog X.w) A (call (.ref f) [.ref a]) (LamQ s h neg (.ref a) vs.length) (fun _ _ => False) { s with heap := h, toks := tk } := by
  subst hx
  obtain ⟨⟨oc, ws, t, hoc, hdc, hvc⟩, _, _⟩ := I.hok c' _ hco
  obtain ⟨mb, hb1, hb2⟩ := I.mod.blt
  refine wpAny_call ?_
  refine kla_callFunE hroom (kp _ _ hf) rfl rfl rfl rfl ⟨c', oc, ws, t, rfl, kp _ _ hoc, hdc, hvc⟩ ?_
  refine wpAny_of_eq (show bindArgs _ _ = pure [((Str.ofString "some"), Value.ref a)] from rfl) ?_
  refine wpAny_newFunctionEnv (show ∀ y ∈ (lamSc (Str.ofString "some")).names, y.2 ≠ .cell from by decide) (by intro y hy; rw [List.mem_singleton.mp hy]; rfl) (fun h₁ hns hsb => ⟨((I.nolimit).keeps kp).fresh _ hsb, ?_⟩) rfl
  have k1 : ∀ b o, h.get? b = some o → h₁.get? b = some o := fun b o e => hsb.extBut b o (Nat.ne_of_lt (Heap.lt_size e)) (Heap.get?_push_of_some _ e)
  have k2 : ∀ b o, s.heap.get? b = some o → h₁.get? b = some o := fun b o e => k1 b o (kp b o e)
  have hgl : h₁.Ns mainGlobals X.mg := (I.mod.glob.keeps I.bk).keeps k2
  have hbl : h₁.Ns builtinsNs mb := (hb1.keeps I.bk).keeps k2
  have ha1 : IsTup h₁ a vs.toArray := by obtain ⟨o, e1, e2⟩ := ha; exact ⟨o, k2 _ _ e1, e2⟩
  refine kla_codeExpr ?_
  have hn := line63
  have hsome : ∀ {Q : Value → Shared → Prop} {E : Value → Shared → Prop} {p : Pos} {tk : Nat} {A : Around}, Q (.ref a) { s with heap := h₁, toks := tk } →
      wpAny (model X.prog X.w) A (eval (.Name (Str.ofString "some") p) (envX q (lamSc (Str.ofString "some")) h.objs.size f (.ref c') [])) Q E { s with heap := h₁, toks := tk } := fun hq =>
    wpAny_Name (wpAny_loadName_local (m := fun y => [((Str.ofString "some"), Value.ref a)].reverse.lookup y) rfl rfl hns rfl hq) (by decide)
  have hlen : ∀ {Q : Value → Shared → Prop} {E : Value → Shared → Prop} {A : Around} {tk : Nat}, (∀ t tk', Q (.int vs.length t) { s with heap := h₁, toks := tk' }) →
      wpAny (model X.prog X.w) A (eval (.Call (.Name (Str.ofString "len") p1) [.Name (Str.ofString "some") p2] [] p3) (envX q (lamSc (Str.ofString "some")) h.objs.size f (.ref c') [])) Q E { s with heap := h₁, toks := tk } := fun {Q E A tk} hq => by
    refine wpAny_Call_Name_kw (Calls.Name_function_global rfl rfl (Calls.loadGlobal_builtin (v := .builtin "len") hgl hm hbl ((hb2 _ (by decide)).trans rfl) ?_) (by decide))
    refine PyProof.Rows.callWith_builtin1 (Calls.spliced_cons (hsome (Calls.spliced_nil ?_))) rfl rfl
    exact len_tuple ha1 (by simp only [List.size_toArray]; omega) (by rw [List.size_toArray]; exact hq _ _)
  have fin : ∀ t tk', LamQ s h neg (.ref a) vs.length (.ref h₁.objs.size) { s with heap := h₁.push { cls := .type "tuple", data := .seq [.int (sgn neg vs.length) t, .ref a].toArray }, toks := tk' } := fun t tk' => by
    refine ⟨_, tk', h₁.objs.size, t, rfl, fun b o e => Heap.get?_push_of_some _ (k1 b o e), rfl, ?_, Heap.get?_push_size _ rfl⟩
    cases e : h.get? h₁.objs.size with
    | none => rfl
    | some o => exact absurd (Heap.lt_size (k1 _ _ e)) (Nat.lt_irrefl _)
  cases neg with
  | false =>
    refine wpAny_Tuple_spliced (Calls.spliced_cons (hlen fun t tk' => Calls.spliced_cons (hsome (Calls.spliced_nil ⟨by show 2 ≤ sizeLine; rw [sizeLine_eq]; omega, ?_⟩))))
    exact fin t tk'
  | true =>
    refine wpAny_Tuple_spliced (Calls.spliced_cons (UnaryOp_ (hlen fun t tk' => neg_int (Calls.spliced_cons (hsome (Calls.spliced_nil ⟨by show 2 ≤ sizeLine; rw [sizeLine_eq]; omega, ?_⟩))))))
    exact fin _ _
end
/-! ### the keys as data -/
def keyD (neg : Bool) : PyData → PyData
  | .tuple ds => .tuple [.int (sgn neg ds.length), .tuple ds]
  | _ => .none
theorem keyD_eT (neg : Bool) (r : List Str) : keyD neg (eT r) = .tuple [.int (sgn neg r.length), eT r] := by
  show PyData.tuple [.int (sgn neg (r.map PyData.str).length), .tuple (r.map .str)] = _
  rw [List.length_map]
theorem alikeAll_strs : ∀ xs ys : List Str, alikeAll (xs.map .str) (ys.map .str) = true
  | [], _ => by rw [List.map_nil, alikeAll]
  | _ :: _, [] => by rw [List.map_nil, List.map_cons, alikeAll]
  | x :: xs, y :: ys => by rw [List.map_cons, List.map_cons, alikeAll, alikeAll_strs xs ys]; simp [alike]
theorem alike_eT (xs ys : List Str) : alike (eT xs) (eT ys) = true := by rw [alike, alikeAll_strs]
theorem alike_key (neg : Bool) (xs ys : List Str) : alike (keyD neg (eT xs)) (keyD neg (eT ys)) = true := by
  rw [keyD_eT, keyD_eT, alike, alikeAll, alikeAll, alikeAll, alike_eT]; simp [alike]
theorem depth_key (neg : Bool) (xs : List Str) : (keyD neg (eT xs)).depth ≤ 2 := by
  rw [keyD_eT, PyData.depth, PyData.depthAll, PyData.depthAll, PyData.depthAll, PyData.depth, PyData.depth, depth_strs]; decide
/-- which key is less -/
def keyLt (neg : Bool) (x y : List Str) : Bool := if sgn neg x.length = sgn neg y.length then ltL x y else decide (sgn neg x.length < sgn neg y.length)
theorem dataLt_key (neg : Bool) (x y : List Str) : dataLt (keyD neg (eT x)) (keyD neg (eT y)) = keyLt neg x y := by
  rw [keyD_eT, keyD_eT, dataLt_tuple, dataLt_cons (by simp [alike]), dataLt_cons (alike_eT x y), dataLt_int, dataLt_T, eqv_T]
  unfold keyLt
  by_cases e : sgn neg x.length = sgn neg y.length
  · rw [if_pos e, if_pos (by simp [PyData.eqv, e])]
    by_cases e2 : x = y
    · subst e2
      rw [if_pos (by simp), ← dataLt_T]
      rw [show PyProof.Rows.lexLt itemOrd (keyToksAll []) (keyToksAll []) = false from lex_irrefl _]
      symm
      exact lex_irrefl _
    · rw [if_neg (by simp [e2])]
  · rw [if_neg e, if_neg (by simp [PyData.eqv, e])]
theorem reads_strs {h : Heap} : ∀ {ss : List Str} {vs : List Value} {as : List Addr}, ReadsAll h vs (ss.map .str) as → as = []
  | [], _, _, r => by cases r; rfl
  | s :: ss, _, _, r => by
    cases r with
    | cons a b => cases a; rw [reads_strs b]; rfl
theorem reads_eT {h : Heap} {v : Value} {r : List Str} {as : List Addr} (q : Reads h v (eT r) as) : ∃ (a : Addr) (vs : List Value), v = .ref a ∧ IsTup h a vs.toArray ∧ vs.length = r.length ∧ as = [] := by
  cases q with
  | tuple h1 h2 h3 h4 =>
    rename_i a o vs n
    refine ⟨a, vs.toList, rfl, ⟨o, h1, h2, n, by rw [h3, Array.toArray_toList]⟩, ?_, reads_strs h4⟩
    have e := SeqAt.ReadsAll.length _ _ _ h4
    rw [List.length_map] at e
    exact e
theorem reads_key {h : Heap} {v : Value} {r : List Str} {p : Addr} {t : Tok} {neg : Bool} (q : Reads h v (eT r) []) (hp : h.get? p = some { cls := .type "tuple", data := .seq #[.int (sgn neg r.length) t, v] }) : Reads h (.ref p) (keyD neg (eT r)) [] := by
  rw [keyD_eT]
  exact Reads.tuple hp rfl rfl (ReadsAll.cons (as := []) (bs := []) (Reads.int _ _) (ReadsAll.cons (as := []) (bs := []) q ReadsAll.nil))

/-! ### the least -/
theorem dataLt_le {a b c : PyData} (h1 : dataLt b a = false) (h2 : dataLt c b = false) : dataLt c a = false := by
  have t := (sortLe_total (PyProof.Rows.listOrd itemOrd) false fun d : PyData => keyToks d).trans a b c
  have e : ∀ x y : PyData, (sortLe (PyProof.Rows.listOrd itemOrd) false fun d : PyData => keyToks d) x y = !dataLt y x := fun _ _ => rfl
  rw [e, e, e, h1, h2] at t
  simpa using t rfl rfl
theorem dataLt_irr (a : PyData) : dataLt a a = false := lex_irrefl _
theorem dataLt_asym {a b : PyData} (h : dataLt a b = true) : dataLt b a = false := by
  have t := (sortLe_total (PyProof.Rows.listOrd itemOrd) false fun d : PyData => keyToks d).total a b
  have e : ∀ x y : PyData, (sortLe (PyProof.Rows.listOrd itemOrd) false fun d : PyData => keyToks d) x y = !dataLt y x := fun _ _ => rfl
  rw [e, e, h] at t
  simpa using t
theorem argBest_least (f : Nat → PyData) : ∀ k, argBest (fun i j => dataLt (f i) (f j)) k ≤ k ∧ ∀ j, j ≤ k → dataLt (f j) (f (argBest (fun i j => dataLt (f i) (f j)) k)) = false
  | 0 => ⟨Nat.le_refl _, fun j hj => by rw [Nat.le_zero.mp hj]; exact dataLt_irr _⟩
  | k + 1 => by
    obtain ⟨h1, h2⟩ := argBest_least f k
    have e : argBest (fun i j => dataLt (f i) (f j)) (k + 1) = if dataLt (f (k + 1)) (f (argBest (fun i j => dataLt (f i) (f j)) k)) = true then k + 1 else argBest (fun i j => dataLt (f i) (f j)) k := rfl
    by_cases hc : dataLt (f (k + 1)) (f (argBest (fun i j => dataLt (f i) (f j)) k)) = true
    · rw [e, if_pos hc]
      refine ⟨Nat.le_refl _, fun j hj => ?_⟩
      rcases Nat.lt_or_ge j (k + 1) with z | z
      · exact dataLt_le (dataLt_asym hc) (h2 j (by omega))
      · rw [show j = k + 1 by omega]; exact dataLt_irr _
    · rw [e, if_neg hc]
      refine ⟨by omega, fun j hj => ?_⟩
      rcases Nat.lt_or_ge j (k + 1) with z | z
      · exact h2 j (by omega)
      · rw [show j = k + 1 by omega]; exact Bool.not_eq_true _ ▸ hc

/-! ### the calls -/
section
variable {X : Cx} {pins : List (Addr × Obj)} {σ : L2.St} {H : Hp} {s : Shared}
/-- what is known of a lambda that was made -/
structure LamO (X : Cx) (s : Shared) (H : Hp) (neg : Bool) (f : Addr) : Prop where
  ex : ∃ (q : Str) (pa p1 p2 p3 p4 p5 p6 : Pos) (kk : Nat) (c' : Addr) (pm ctv : Value), s.heap.get? f = some (kla_obj "<lambda>" q (lamPar "some" pa) (lamBody "some" neg p1 p2 p3 p4 p5 p6 kk) (lamSc "some") [] pm c' ctv) ∧ H c' = some (CodeO c' q)
  mg : X.mg "len" = none
theorem LamO.turn {neg : Bool} {f : Addr} {A : Around} (I : Inv X pins σ H s) (L : LamO X s H neg f) (hroom : A.depth < recursionLimit)
    {a : Addr} {vs : List Value} (ha : IsTup s.heap a vs.toArray) (hz : vs.length ≤ sizeLine) (h : Heap) (tk : Nat) (kp : ∀ b o, s.heap.get? b = some o → h.get? b = some o) :
    wpAny (model X.prog X.w) A (call (.ref f) [.ref a]) (LamQ s h neg (.ref a) vs.length) (fun _ _ => False) { s with heap := h, toks := tk } := by
  obtain ⟨q, pa, p1, p2, p3, p4, p5, p6, kk, c', pm, ctv, hf, hco⟩ := L.ex
  exact lam_turn I rfl hf hco L.mg hroom ha hz h tk kp

def rSortLam (K : PySem.W.Frag) (neg : Bool) : List V → Hp → VK → Prop := fun vs H Q => ∃ (a : Addr) (xs : List V) (rows : List (List Str)), vs = [V.ref a] ∧ SqL K H a xs ∧ DpAll K H xs (rows.map eT) ∧ (∀ r ∈ rows, r.length ≤ 1000) ∧
  ∀ p, H p = none → Q (.ref p) (upd H p (.lst (sortV (keyD neg) xs (rows.map eT))))
theorem sort_lam {neg : Bool} {f : Addr} {us : List Value} {vs : List V} {Q : VK} (I : Inv X pins σ H s) (L : LamO X s H neg f) (hd : X.A.depth < recursionLimit) (hu : X.A.units + 64 < cLine) (r : Vals vs us) (h : rSortLam X.K neg vs H Q) :
    wpAny (model X.prog X.w) X.A (call (.builtin "sorted") us [(Str.ofString "key", .ref f)]) (EP X pins σ Q) X.xe s := by
  obtain ⟨a, xs, rows, rfl, hs, hdp, hrl, q⟩ := h
  rw [Vals.ref1 r]
  obtain ⟨its, rv, hl, hz⟩ := I.list hs
  obtain ⟨as, hr⟩ := Dp.readsAll I _ xs its hdp rv
  have lenV := rv.length
  have lenD : its.length = (rows.map eT).length := SeqAt.ReadsAll.length _ _ _ hr
  have ez := each_zip rv hr
  have esnd : (xs.zip (rows.map eT)).map (·.2) = rows.map eT := List.map_snd_zip (by omega)
  have mem2 : ∀ p ∈ xs.zip (rows.map eT), ∃ w ∈ rows, p.2 = eT w := fun p hp => by
    have : p.2 ∈ rows.map eT := by rw [← esnd]; exact List.mem_map_of_mem hp
    obtain ⟨w, hw, e⟩ := List.mem_map.mp this
    exact ⟨w, hw, e.symm⟩
  have emap : (xs.zip (rows.map eT)).map (fun p : V × PyData => keyD neg p.2) = rows.map fun w => keyD neg (eT w) := by
    rw [show (fun p : V × PyData => keyD neg p.2) = keyD neg ∘ (·.2) from rfl, ← List.map_map, esnd, List.map_map]; rfl
  have sv := sorted_key_data (prog := X.prog) (w := X.w) (A := X.A) (E := X.xe) (s := s) (l := a) (vs := its) (f := .ref f) (b := false) (kw := [(Str.ofString "key", .ref f)]) (Q := EP X pins σ Q) (R := fun (u : Value) (p : V × PyData) => RelV p.1 u ∧ ∃ as, Reads s.heap u p.2 as) (fun p : V × PyData => keyD neg p.2) (bs := xs.zip (rows.map eT)) hl.isList ez
  refine sv ?_ ?_ ?_ ?_ (ksk_s1 _ _) (fun _ => ksk_l1 _ _) (fun _ => ksk_t1 _ _) ?_ ?_
  · rw [emap]; exact AllAlike.of fun b b' => alike_key neg b b'
  · rw [emap]; exact Sortable.tuples fun b => ⟨_, _, keyD_eT neg b⟩
  · rw [List.length_zip]; have := hz; omega
  · intro p hp
    obtain ⟨w, _, e⟩ := mem2 p hp
    rw [e]
    have := depth_key neg w
    omega
  · rintro u p ⟨r1, as1, r2⟩ hp h tk kp
    obtain ⟨w, hw, e⟩ := mem2 p hp
    show wpAny _ _ _ (KeyPure (keyD neg p.2) _) _ _
    rw [e] at r2 ⊢
    obtain ⟨a1, vs1, rfl, it, il, rfl⟩ := reads_eT r2
    have hwl := hrl w hw
    refine wpAny_mono (L.turn I (A := X.A.in1.in1) hd it (by rw [il]; exact small (by omega)) h tk kp) (fun k s' hk => ?_) fun _ _ z => z
    obtain ⟨h', tk', p, t, rfl, kk, rfl, _, hp⟩ := hk
    rw [il] at hp
    exact ⟨h', tk', rfl, kk, reads_key (PyProof.Rows.Reads.keeps (fun b o e => kk b o (kp b o e)) r2) hp⟩
  · intro out c h' tk kp hn ho hlo he
    have hv : Vals (sortV (keyD neg) xs (rows.map eT)) out := vals_of_each (he.mono fun _ _ z => z.1)
    have hlen : (sortV (keyD neg) xs (rows.map eT)).length ≤ sizeLine := by rw [sortV_length (by omega)]; exact hz
    exact ⟨.ref _, upd H (s.heap.objs.size + 1) (.lst (sortV (keyD neg) xs (rows.map eT))), I.laid (t' := tk) kp (Nat.le_succ _) ⟨hlen, out, c, hv, ho⟩, rfl, q _ (I.hok.fresh (Nat.le_succ _))⟩

def rMinLam (K : PySem.W.Frag) (neg : Bool) : List V → Hp → VK → Prop := fun vs H Q => ∃ (a : Addr) (xs : List V) (rows : List (List Str)), vs = [V.ref a] ∧ SqL K H a xs ∧ DpAll K H xs (rows.map eT) ∧ (∀ r ∈ rows, r.length ≤ 1000) ∧ rows ≠ [] ∧
  ∀ (i : Nat) (x : V) (r : List Str), xs[i]? = some x → rows[i]? = some r → (∀ r' ∈ rows, keyLt neg r' r = false) → Q x H
theorem min_lam {neg : Bool} {f : Addr} {us : List Value} {vs : List V} {Q : VK} (hc : X.calm = true) (I : Inv X pins σ H s) (L : LamO X s H neg f) (hd : X.A.depth < recursionLimit) (hu : X.A.units + 64 < cLine) (r : Vals vs us) (h : rMinLam X.K neg vs H Q) :
    wpAny (model X.prog X.w) X.A (call (.builtin "min") us [(Str.ofString "key", .ref f)]) (EP X pins σ Q) X.xe s := by
  obtain ⟨a, xs, rows, rfl, hs, hdp, hrl, hne, q⟩ := h
  rw [Vals.ref1 r]
  obtain ⟨its, rv, hl, hz⟩ := I.list hs
  obtain ⟨as, hr⟩ := Dp.readsAll I _ xs its hdp rv
  have lenV := rv.length
  have lenD : its.length = (rows.map eT).length := SeqAt.ReadsAll.length _ _ _ hr
  rw [List.length_map] at lenD
  have hpos : 0 < rows.length := List.length_pos_iff.mpr hne
  have hh : X.A.in1.handled = none := I.ok.hd hc
  have rd : ∀ (i : Nat) (v : Value), its.toArray[i]? = some v → ∃ w, rows[i]? = some w ∧ Reads s.heap v (eT w) [] := fun i v hv => by
    obtain ⟨bs, r1, hi, _⟩ := readsAll_atA (vs := its.toArray) (by simpa using hr) i v hv
    rw [List.length_map] at hi
    have e : (rows.map eT).getD i .none = eT (rows[i]'hi) := by rw [List.getD_eq_getElem?_getD, List.getElem?_map, List.getElem?_eq_getElem hi]; rfl
    rw [e] at r1
    obtain ⟨_, _, _, _, _, rfl⟩ := reads_eT r1
    exact ⟨_, List.getElem?_eq_getElem hi, r1⟩
  refine call_min_walkK (iter_listW hh hl.isList fun s₂ e W st hfp hw hk => ?_)
  let J : Shared → Prop := fun s' => ∃ h' tk, s' = { s with heap := h', toks := tk } ∧ ∀ b o, s.heap.get? b = some o → h'.get? b = some o
  let Vk : Nat → Value → Shared → Prop := fun i k s' => ∃ p t w v, k = .ref p ∧ p ∉ [s₂.heap.objs.size, s.heap.objs.size] ∧ rows[i]? = some w ∧ its.toArray[i]? = some v ∧ s'.heap.get? p = some { cls := .type "tuple", data := .seq #[.int (sgn neg w.length) t, v] }
  have sz2 : s₂.heap.objs.size = s.heap.objs.size + 1 := by subst e; exact size_push' ..
  have notw : ∀ b o, s.heap.get? b = some o → b ∉ [s₂.heap.objs.size, s.heap.objs.size] := fun b o eb hb => by
    have hlt := Heap.lt_size eb
    rcases List.mem_cons.mp hb with z | z
    · rw [z, sz2] at hlt; exact absurd hlt (by simp)
    · rw [List.mem_singleton.mp z] at hlt; exact absurd hlt (Nat.lt_irrefl _)
  have keepJ : ∀ s1 s', J s1 → Moved [s₂.heap.objs.size, s.heap.objs.size] (fun a b => b = a) s1 s' → J s' := by
    rintro s1 s' ⟨h1, tk1, rfl, k1⟩ m
    refine ⟨s'.heap, s'.toks, ?_, fun b o eb => m.heap b o (notw b o eb) (k1 b o eb)⟩
    obtain ⟨hp, g, d, tk, os⟩ := s'
    have h1 : g = s.gens := m.gens
    have h2 : d = s.drawn := m.drawn
    have h3 : os = s.os := m.os
    subst h1; subst h2; subst h3
    rfl
  refine ⟨_, _, _, _, _, _, _, J, Vk, (fun i j => dataLt (keyD neg ((rows.map eT).getD i .none)) (keyD neg ((rows.map eT).getD j .none))), rfl, W, st, hfp, by rw [List.size_toArray]; omega, ⟨keepJ, ?_, ?_, ?_⟩, ⟨s₂.heap, s₂.toks, by subst e; rfl, hk⟩, ?_⟩
  · rintro i k s1 s' ⟨p, t, w, v, rfl, hp, hw, hv, ho⟩ m
    exact ⟨p, t, w, v, rfl, hp, hw, hv, m.heap _ _ hp ho⟩
  · rintro i v s1 o Q' E' hi hv ⟨h1, tk1, rfl, k1⟩ hst hS hQ
    obtain ⟨w, hw, r2⟩ := rd i v hv
    obtain ⟨a1, vs1, rfl, it, il, _⟩ := reads_eT r2
    have hwl := hrl w (List.mem_of_getElem? hw)
    refine wpAny_mono (L.turn I (A := X.A.in1) hd it (by rw [il]; exact small (by omega)) h1 tk1 k1) (fun k s' hk' => ?_) fun _ _ z => z.elim
    obtain ⟨h', tk', p, t, rfl, kk, rfl, hpn, hp⟩ := hk'
    rw [il] at hp
    obtain ⟨⟨oI, hoI, hIr⟩, hL⟩ := hst
    refine hQ _ _ ⟨h', tk', rfl, fun b o eb => kk b o (k1 b o eb)⟩ ⟨⟨oI, kk _ _ hoI, hIr⟩, (let ⟨o, z1, z2⟩ := hL; ⟨o, kk _ _ z1, z2⟩)⟩ (kk _ _ hS) ⟨p, t, w, .ref a1, rfl, fun hm => ?_, hw, hv, hp⟩ ?_
    · rcases List.mem_cons.mp hm with z | z
      · rw [z, show h1.get? s₂.heap.objs.size = some o from hS] at hpn; cases hpn
      · rw [List.mem_singleton.mp z, show h1.get? s.heap.objs.size = some oI from hoI] at hpn; cases hpn
    · rintro j k' ⟨p', t', w', v', rfl, x1, x2, x3, x4⟩
      exact ⟨p', t', w', v', rfl, x1, x2, x3, kk _ _ x4⟩
  · rintro i j ki kj s1 Q' E' ⟨h1, tk1, rfl, k1⟩ ⟨p, t, w, v, rfl, _, hw, hv, ho⟩ ⟨p', t', w', v', rfl, _, hw', hv', ho'⟩ hq
    obtain ⟨w2, hw2, r2⟩ := rd i v hv
    obtain ⟨w2', hw2', r2'⟩ := rd j v' hv'
    rw [hw] at hw2; cases hw2
    rw [hw'] at hw2'; cases hw2'
    have e1 : (rows.map eT).getD i .none = eT w := by rw [List.getD_eq_getElem?_getD, List.getElem?_map, hw]; rfl
    have e2 : (rows.map eT).getD j .none = eT w' := by rw [List.getD_eq_getElem?_getD, List.getElem?_map, hw']; rfl
    rw [e1, e2] at hq
    refine rcLt_alike _ _ X.A.in1 _ _ _ _ _ (reads_key (PyProof.Rows.Reads.keeps k1 r2) ho) (reads_key (PyProof.Rows.Reads.keeps k1 r2') ho') (alike_key neg w w') (by rw [keyD_eT]; intro z; cases z) ?_ X.prog X.w _ _ hq
    have d1 := depth_key neg w
    have := Nat.min_le_left (keyD neg (eT w)).depth (keyD neg (eT w')).depth
    show X.A.units + 1 + _ < _
    omega
  · rintro v s' hv ⟨h', tk, rfl, kk⟩
    obtain ⟨b1, b2⟩ := argBest_least (fun i => keyD neg ((rows.map eT).getD i .none)) (its.toArray.size - 1)
    rw [List.size_toArray] at hv b1 b2
    obtain ⟨w, hw, r2⟩ := rd _ v hv
    rw [List.getElem?_toArray] at hv
    have hxl : argBest (fun i j => dataLt (keyD neg ((rows.map eT).getD i .none)) (keyD neg ((rows.map eT).getD j .none))) (its.length - 1) < xs.length := by omega
    obtain ⟨u, hu1, rx⟩ := Vals.get rv (List.getElem?_eq_getElem hxl)
    rw [hv] at hu1
    cases hu1
    have hx := List.getElem?_eq_getElem hxl
    refine ⟨_, H, I.kept kk, rx, q _ _ w hx hw fun r' hr' => ?_⟩
    obtain ⟨j, hj, ej⟩ := List.mem_iff_getElem.mp hr'
    have z := b2 j (by omega)
    have e1 : ∀ {i : Nat} {w : List Str}, rows[i]? = some w → (rows.map eT).getD i .none = eT w := fun hw => by rw [List.getD_eq_getElem?_getD, List.getElem?_map, hw]; rfl
    rw [e1 hw, e1 (show rows[j]? = some r' by rw [List.getElem?_eq_getElem hj, ej]), dataLt_key] at z
    exact z
end
end K28
set_option Elab.async false
set_option linter.all false
set_option maxRecDepth 100000
set_option maxHeartbeats 4000000
/-! loops; lists that change; values that depend on what is drawn -/
namespace K28
open PySem PySem.Spec PyProof.Rows L2 LamX PySem.W

/-- all but what stands at D stays -/
structure Gm (T : List (Addr × Str)) (D : List Addr) (H H' : Hp) : Prop where
  ext : ∀ b o, b ∉ D → H b = some o → (∀ ps, o ≠ .tbl ps) → H' b = some o
  tab : Tabs T H'
section
variable {T : List (Addr × Str)} {D S : List Addr} {H H0 H1 H2 H' : Hp} {σ : L2.St} {env : List En}
theorem Gd.gm (g : Gd T H H') : Gm T D H H' := ⟨fun b o _ h n => g.ext b o h n, g.tab⟩
theorem Gm.trans (a : Gm T D H H1) (b : Gm T D H1 H2) : Gm T D H H2 := ⟨fun c o n h t => b.ext c o n (a.ext c o n h t) t, b.tab⟩
theorem Gm.refl (t : Tabs T H) : Gm T D H H := ⟨fun b o _ h _ => h, t⟩
theorem Gm.sub {D' : List Addr} (g : Gm T D H H') (h : ∀ d ∈ D, d ∈ D') : Gm T D' H H' := ⟨fun b o n e t => g.ext b o (fun z => n (h b z)) e t, g.tab⟩
theorem Gm.hide (g : Gm T D H H') (h : ∀ d ∈ D, d ∈ S) : ExtN (hide S H) (hide S H') := fun b o e n => by
  by_cases hb : b ∈ S
  · rw [hide_in hb] at e; cases e
  · rw [hide_out hb] at e ⊢
    exact g.ext b o (fun z => hb (h b z)) e n
/-- nothing but a table was seen at p -/
def Nw (H : Hp) (p : Addr) : Prop := ∀ o, H p = some o → ∃ ps, o = .tbl ps
theorem Nw.of {p : Addr} (h : H p = none) : Nw H p := fun o e => by rw [h] at e; cases e
theorem Nw.down {p : Addr} (g : Gd T H H') (h : Nw H' p) : Nw H p := fun o e => Classical.byContradiction fun n => n (h o (g.ext _ _ e fun ps z => n ⟨ps, z⟩))
theorem Gm.gd (g0 : Gd T H0 H) (h : ∀ d ∈ D, Nw H0 d) (g : Gm T D H H') : Gd T H0 H' := ⟨fun b o e n => g.ext b o (fun z => let ⟨ps, q⟩ := h b z o e; n ps q) (g0.ext b o e n) n, g.tab⟩
theorem Gm.gd' (g : Gm T [] H H') : Gd T H H' := ⟨fun b o e n => g.ext b o (by simp) e n, g.tab⟩
theorem Gm.drop {p : Addr} (g0 : Gd T H0 H) (h : Nw H0 p) (g : Gm T (p :: D) H H') : Gm T D H0 H' := ⟨fun b o n e t => g.ext b o (fun z => by
  rcases List.mem_cons.mp z with z | z
  · subst z; obtain ⟨ps, q⟩ := h _ e; exact t ps q
  · exact n z) (g0.ext b o e t) t, g.tab⟩
theorem Gm.set {d : Addr} {xs : List V} {o : HO} (t : Tabs T H) (hd : d ∈ D) (hx : H d = some (.lst xs)) : Gm T D H (upd H d o) := ⟨fun b u n h _ => by rw [upd_ne (fun z => n (by rw [z]; exact hd))]; exact h, tabs_mut t hx⟩
theorem Dom.set {d : Addr} {o : HO} (h : Dom S H) (n : Nt o) : Dom S (upd H d o) := fun a ha => by
  by_cases e : a = d
  · rw [e]; exact ⟨_, upd_same, n⟩
  · rw [upd_ne e]; exact h a ha
theorem At.mv (c : At T S H σ env) (g : Gm T D H H') (hD : ∀ d ∈ D, d ∈ S) (dm : Dom S H') : At T S H' σ env := ⟨dm, g.tab, c.fit.up (g.hide hD)⟩
/-- a list at d that only the one who made it may change -/
def Own (m : Md) (S : List Addr) (H : Hp) (d : Addr) (ds : List PyData) : Prop := ∃ acc, H d = some (.lst acc) ∧ RpL m (hide S H) acc ds
theorem Own.up {m : Md} {d : Addr} {ds : List PyData} (o : Own m S H d ds) (g : Gd T H H') : Own m S H' d ds := let ⟨acc, h1, h2⟩ := o; ⟨acc, g.ext _ _ h1 (fun ps z => by cases z), h2.up (hide_ext g.ext)⟩
theorem Own.mv {m : Md} {d : Addr} {ds : List PyData} (o : Own m S H d ds) (g : Gm T D H H') (hd : d ∉ D) (hD : ∀ d ∈ D, d ∈ S) : Own m S H' d ds := let ⟨acc, h1, h2⟩ := o; ⟨acc, g.ext _ _ hd h1 (fun ps z => by cases z), h2.up (g.hide hD)⟩
theorem Fit.put {H : Hp} {v : V} {e : En} (r : EnR H e v) : ∀ {σ : L2.St} {env : List En} (i : Nat), σ[i]? = some (some v) → Fit H σ env → Fit H σ (env.set i e)
  | _, _, _, _, .nil => .nil
  | _, _, 0, h, .no f => by simp at h; subst h; exact .cons r f
  | _, _, 0, h, .cons q f => by simp at h; subst h; exact .cons r f
  | _, _, i + 1, h, .no f => .no (f.put r i (by simpa using h))
  | _, _, i + 1, h, .cons q f => .cons q (f.put r i (by simpa using h))
theorem Fit.forget {H : Hp} : ∀ {σ : L2.St} {env : List En} (i : Nat), Fit H σ env → Fit H σ (env.set i .no)
  | _, _, _, .nil => .nil
  | _, _, 0, .no f => .no f
  | _, _, 0, .cons _ f => .no f
  | _, _, i + 1, .no f => .no (f.forget i)
  | _, _, i + 1, .cons q f => .cons q (f.forget i)
theorem At.forget (c : At T S H σ env) (i : Nat) : At T S H σ (env.set i .no) := ⟨c.dom, c.tab, c.fit.forget i⟩
theorem At.get' (c : At T S H σ env) {i : Nat} {v : V} (h : env[i]? = some (.v v)) : σ[i]? = some (some v) := by
  obtain ⟨w, h1, h2⟩ := c.get h (by intro z; cases z)
  cases h2
  exact h1
/-- the list is done: all may see it -/
theorem At.release {m : Md} {p : Addr} {ds : List PyData} {i : Nat} (c : At T (p :: S) H σ env) (o : Own m (p :: S) H p ds) (hp : p ∉ S) (hv : env[i]? = some (.v (.ref p))) : At T S H σ (env.set i (.m m (.list ds))) := by
  obtain ⟨acc, h1, h2⟩ := o
  have hm : ExtN (hide (p :: S) H) (hide S H) := hide_more fun b hb => List.mem_cons_of_mem _ hb
  exact ⟨fun s hs => c.dom s (List.mem_cons_of_mem _ hs), c.tab, (c.fit.up hm).put (e := .m m (.list ds)) (Rp.lst (by rw [hide_out hp]; exact h1) (h2.up hm)) i (c.get' hv)⟩
/-- a new list that will change -/
theorem At.own {m : Md} {p : Addr} {i : Nat} (c : At T S H σ env) (hp : H p = none) : At T (p :: S) (upd H p (.lst [])) (σ.set i (some (.ref p))) (env.set i (.v (.ref p))) ∧ Own m (p :: S) (upd H p (.lst [])) p [] := by
  have g : Gd T H (upd H p (.lst [])) := Gd.new c.tab hp
  exact ⟨⟨(c.dom.ext g.ext).cons upd_same, g.tab, Fit.set (e := .v (.ref p)) rfl i (c.fit.up (by rw [hide_cons hp]; exact ExtN.refl _))⟩, [], upd_same, .nil⟩
end

section
variable {T : List (Addr × Str)} {S D : List Addr} {H : Hp} {σ : L2.St} {env : List En} {K : PySem.W.Frag} {ta tb te tl : TE} {aa : TA} {t : TT} {tu tw tz : TS} {Dk : Ends} {m m' : Md} {wi : TI} {g : TG} {n : Nat}
theorem sd_own {i : Nat} (c : At T S H σ env) (k : ∀ p σ' H', Gd T H H' → Nw H p → p ∉ S → At T (p :: S) H' σ' (env.set i (.v (.ref p))) → Own m (p :: S) H' p [] → tz Dk σ' H') : tSeq (tAsg (tLst tNil) (gName i)) tz Dk σ H :=
  ⟨Nat.zero_le _, fun p hp => k p _ _ (Gd.new c.tab hp) (Nw.of hp) (c.dom.nin hp) (c.own (m := m) (i := i) hp).1 (c.own (i := i) hp).2⟩
/-- x, y = e, [] -/
theorem sd_parOwn {i j : Nat} {e : En} (c : At T S H σ env) (ha : ED T env ta e) (k : ∀ p σ' H', Gd T H H' → Nw H p → p ∉ S → At T (p :: S) H' σ' ((env.set i e).set j (.v (.ref p))) → Own m (p :: S) H' p [] → tz Dk σ' H') :
    tSeq (tPar i j (tCons ta (tCons (tLst tNil) tNil))) tz Dk σ H :=
  ha S H σ c _ fun v H1 g1 r1 => ⟨Nat.zero_le _, fun p hp => ⟨v, .ref p, rfl,
    have c1 := (c.up g1).set r1 i
    k p _ _ (g1.trans (Gd.new g1.tab hp)) (Nw.down g1 (Nw.of hp)) (c1.dom.nin hp) (c1.own (m := m) (i := j) hp).1 (c1.own (i := j) hp).2⟩⟩
/-- x.append(e) -/
theorem td_app {i : Nat} {d : Addr} {ds : List PyData} {x : PyData} (c : At T S H σ env) (hv : env[i]? = some (.v (.ref d))) (hd : d ∈ S) (o : Own m S H d ds) (h : ED T env te (.m m x)) (hz : ds.length < 100000)
    (k : ∀ H', Gm T [d] H H' → At T S H' σ env → Own m S H' d (ds ++ [x]) → Dk.nx σ H') : tDrop (tBM K "list" rAppend (tVar i) (tCons te tNil)) Dk σ H := by
  have o1 := o
  obtain ⟨acc0, h0, _⟩ := o1
  refine ⟨_, c.get' hv, .inl ⟨rfl, acc0, SqL.of h0⟩, h S H σ c _ fun v H1 g1 r1 => ?_⟩
  obtain ⟨acc, h1, h2⟩ := o.up g1
  have hl := h2.length
  have g2 : Gm T [d] H (upd H1 d (.lst (acc ++ [v]))) := g1.gm.trans (Gm.set g1.tab List.mem_cons_self h1)
  have dm : Dom S (upd H1 d (.lst (acc ++ [v]))) := (c.up g1).dom.set (nt_lst _)
  have hs : ∀ x ∈ [d], x ∈ S := fun x hx => by rw [List.mem_singleton.mp hx]; exact hd
  exact ⟨d, acc, v, rfl, rfl, h1, by rw [sizeLine_eq]; omega, k _ g2 (c.mv g2 hs dm) ⟨_, upd_same, by rw [hide_upd hd]; exact h2.snoc r1⟩⟩

/-! ### what is walked -/
def IW (T : List (Addr × Str)) (env : List En) (wi : TI) (n : Nat) (y : Nat → En) : Prop := ∀ S H σ D, At T S H σ env → (∀ d ∈ D, d ∈ S) → ∀ R : It → Hp → Prop,
  (∀ (J : It) (H1 : Hp), Gd T H H1 → (∀ i H', Gm T D H1 H' → Dom S H' → i < n → J.go i H' ∧ ∀ x H'', J.yld i H' x H'' → Gd T H' H'' ∧ EnR (hide S H'') (y i) x) → (∀ H', Gm T D H1 H' → J.stop n H') → R J H1) → wi σ H R
theorem iw_list {ds : List PyData} (h : ED T env tl (.m m (.list ds))) : IW T env (iList K tl) ds.length (fun i => .m m (ds.getD i .none)) := fun S H σ D c hD R q => h S H σ c _ fun v H1 g1 r1 => by
  obtain ⟨a, xs, rfl, h1, h2⟩ := Rp.listInv (show Rp m _ v _ from r1)
  have e1 : H1 a = some (.lst xs) := hide_le _ _ h1 fun ps z => by cases z
  have up : ∀ H', Gm T D H1 H' → H' a = some (.lst xs) ∧ RpL m (hide S H') xs ds := fun H' g => ⟨g.ext _ _ (fun z => by rw [hide_in (hD _ z)] at h1; cases h1) e1 (fun ps z => by cases z), h2.up (g.hide hD)⟩
  refine ⟨a, rfl, ⟨xs, SqL.of e1⟩, q _ H1 g1 (fun i H' g dm hi => ?_) fun H' g => ⟨xs, SqL.of (up H' g).1, by rw [h2.length]; exact Nat.le_refl _⟩⟩
  obtain ⟨u1, u2⟩ := up H' g
  have hx : xs[i]? = some (xs[i]'(by rw [h2.length]; exact hi)) := List.getElem?_eq_getElem _
  refine ⟨⟨xs, _, SqL.of u1, hx⟩, fun x H'' hy => ?_⟩
  obtain ⟨rfl, f⟩ := hy
  obtain ⟨d, hd1, hd2⟩ := u2.getV (f xs (SqL.of u1))
  refine ⟨Gd.refl g.tab, ?_⟩
  show Rp m _ _ _
  rw [List.getD_eq_getElem?_getD, hd1]; exact hd2
theorem iw_tup {ds : List PyData} (h : ED T env tl (.m m (.tuple ds))) : IW T env (iTup K tl) ds.length (fun i => .m m (ds.getD i .none)) := fun S H σ D c hD R q => h S H σ c _ fun v H1 g1 r1 => by
  obtain ⟨a, xs, rfl, h1, h2⟩ := Rp.tupInv (show Rp m _ v _ from r1)
  have up : ∀ H', Gm T D H1 H' → SqT K H' a xs ∧ RpL m (hide S H') xs ds := fun H' g => ⟨((h1.up (g.hide hD)).up hide_le).sq, h2.up (g.hide hD)⟩
  refine ⟨a, rfl, ⟨xs, (h1.up hide_le).sq⟩, q _ H1 g1 (fun i H' g dm hi => ?_) fun H' g => ⟨xs, (up H' g).1, by rw [h2.length]; exact Nat.le_refl _⟩⟩
  obtain ⟨u1, u2⟩ := up H' g
  have hx : xs[i]? = some (xs[i]'(by rw [h2.length]; exact hi)) := List.getElem?_eq_getElem _
  refine ⟨⟨xs, _, u1, hx⟩, fun x H'' hy => ?_⟩
  obtain ⟨rfl, f⟩ := hy
  obtain ⟨d, hd1, hd2⟩ := u2.getV (f xs u1)
  refine ⟨Gd.refl g.tab, ?_⟩
  show Rp m _ _ _
  rw [List.getD_eq_getElem?_getD, hd1]; exact hd2
theorem iw_enum {ds : List PyData} (hm : m ≠ .z) (h : EA T env aa m [.list ds]) : IW T env (iEnum K aa) ds.length (fun i => .m m (.tuple [.int (i : Int), ds.getD i .none])) := fun S H σ D c hD R q => h S H σ c _ fun us H1 g1 r1 => by
  cases r1 with
  | cons r r1 =>
    cases r1
    obtain ⟨a, xs, rfl, h1, h2⟩ := Rp.listInv r
    have e1 : H1 a = some (.lst xs) := hide_le _ _ h1 fun ps z => by cases z
    have up : ∀ H', Gm T D H1 H' → H' a = some (.lst xs) ∧ RpL m (hide S H') xs ds := fun H' g => ⟨g.ext _ _ (fun z => by rw [hide_in (hD _ z)] at h1; cases h1) e1 (fun ps z => by cases z), h2.up (g.hide hD)⟩
    refine ⟨a, xs, rfl, SqL.of e1, q _ H1 g1 (fun i H' g dm hi => ?_) fun H' g => ⟨xs, SqL.of (up H' g).1, by rw [h2.length]; exact Nat.le_refl _⟩⟩
    obtain ⟨u1, u2⟩ := up H' g
    have hx : xs[i]? = some (xs[i]'(by rw [h2.length]; exact hi)) := List.getElem?_eq_getElem _
    refine ⟨⟨xs, _, SqL.of u1, hx⟩, fun x H'' hy => ?_⟩
    obtain ⟨Tp, x1, rfl, nT, rfl, f⟩ := hy
    obtain ⟨d, hd1, hd2⟩ := u2.getV (f xs (SqL.of u1))
    refine ⟨Gd.new g.tab nT, ?_⟩
    have e : ds.getD i .none = d := by rw [List.getD_eq_getElem?_getD, hd1]; rfl
    show Rp m _ _ (.tuple [.int (i : Int), ds.getD i .none])
    rw [e]
    exact new_tup dm nT (.cons (Rp.int _) (.cons hd2 .nil)) hm
theorem iw_range {k : Nat} (hk : k ≤ 40000) (h : EA T env aa m [.int (k : Int)]) : IW T env (iRng1 aa) k (fun i => .m m (.int (i : Int))) := fun S H σ D c hD R q => h S H σ c _ fun us H1 g1 r1 => by
  cases r1 with
  | cons r r1 =>
    cases r1
    cases r
    refine ⟨k, rfl, by omega, by omega, q _ H1 g1 (fun i H' g dm hi => ⟨by show i < _; simpa using hi, fun x H'' hy => ?_⟩) fun H' g => by show _ ≤ _; simp⟩
    obtain ⟨rfl, rfl⟩ := hy
    refine ⟨Gd.refl g.tab, ?_⟩
    rw [Int.zero_add]
    exact Rp.int _

/-- what a loop's target does -/
def EF (T : List (Addr × Str)) (env : List En) (g : TG) (y : En) (env2 : List En) : Prop := ∀ S H σ, At T S H σ env → ∀ v, EnR (hide S H) y v → ∀ Q : L2.St → Hp → Prop, (∀ σ2, At T S H σ2 env2 → Q σ2 H) → g v σ H Q
theorem ef_name {j : Nat} {y : En} : EF T env (gName j) y (env.set j y) := fun S H σ c v r Q q => q _ (c.set r j)
theorem ef_pair {i j : Nat} {d e : PyData} : EF T env (gTup K 2 (gCons (gName i) (gCons (gName j) gNil))) (.m m (.tuple [d, e])) ((env.set i (.m m d)).set j (.m m e)) := fun S H σ c v r Q q => by
  obtain ⟨a, xs, rfl, h1, h2⟩ := Rp.tupInv (show Rp m _ v _ from r)
  cases h2 with
  | cons r1 h2 =>
    cases h2 with
    | cons r2 h2 =>
      cases h2
      exact ⟨a, _, rfl, (h1.up hide_le).sq, rfl, _, _, rfl, _, _, rfl, rfl, q _ ((c.set (e := .m m d) r1 i).set (e := .m m e) r2 j)⟩
/-- for target in iter: body -/
theorem sd_for {y : Nat → En} {E E2 : Nat → List En} {O : Nat → Hp → Prop} (c : At T S H σ (E 0)) (hD : ∀ d ∈ D, d ∈ S) (hw : IW T (E 0) wi n y) (o0 : O 0 H) (oUp : ∀ i H1 H2, Gd T H1 H2 → O i H1 → O i H2)
    (hg : ∀ i, i < n → EF T (E i) g (y i) (E2 i))
    (turn : ∀ i, i < n → ∀ σ1 H1, Gm T D H H1 → At T S H1 σ1 (E2 i) → O i H1 → ∀ Nx : L2.St → Hp → Prop, (∀ σ2 H2, Gm T D H1 H2 → At T S H2 σ2 (E (i + 1)) → O (i + 1) H2 → Nx σ2 H2) → tu { Dk with nx := Nx, ct := Nx, bk := Dk.nx } σ1 H1)
    (fin : ∀ σ' H', Gm T D H H' → At T S H' σ' (E n) → O n H' → Dk.nx σ' H') : tFor wi g tu Dk σ H := by
  refine hw S H σ D c hD _ fun J H1 g1 go stop => ⟨fun i k σ' H' => k = n - i ∧ i ≤ n ∧ Gm T D H1 H' ∧ At T S H' σ' (E i) ∧ O i H', ⟨n - 0, rfl, Nat.zero_le _, Gm.refl g1.tab, c.up g1, oUp _ _ _ g1 o0⟩, ?_⟩
  rintro i k σ' H' ⟨rfl, hi, g2, c2, o2⟩
  by_cases hlt : i < n
  · obtain ⟨h1, h2⟩ := go i H' g2 c2.dom hlt
    refine .inr ⟨h1, fun σ2 H2 => i + 1 ≤ n ∧ Gm T D H1 H2 ∧ At T S H2 σ2 (E (i + 1)) ∧ O (i + 1) H2, fun σ2 H2 q => ⟨_, by omega, rfl, q⟩, fun x H3 hy => ?_⟩
    obtain ⟨g3, r3⟩ := h2 x H3 hy
    refine hg i hlt S H3 σ' (c2.up g3) x r3 _ fun σ3 c3 => turn i hlt σ3 H3 (g1.gm.trans (g2.trans g3.gm)) c3 (oUp _ _ _ g3 o2) _ fun σ4 H4 g4 c4 o4 => ⟨hlt, (g2.trans g3.gm).trans g4, c4, o4⟩
  · have e : i = n := by omega
    subst e
    exact .inl ⟨stop H' g2, fin σ' H' (g1.gm.trans g2) c2 o2⟩
end
end K28
set_option Elab.async false
set_option linter.all false
set_option maxRecDepth 100000
set_option maxHeartbeats 4000000
/-! dict comprehensions with tuples of texts as keys -/
namespace K28
open PySem PySem.Spec PyProof.Rows L2 LamX PySem.W
/-- d[k] = v by a comprehension, k a tuple -/
theorem d_dictSetT {X : Cx} {pins : List (Addr × Obj)} {σ : L2.St} {H : Hp} {s : Shared} {A : Around} {E : Value → Shared → Prop} {D b : Addr} {kvs : List (List L2.Key × V)} {k : List L2.Key} {v : V} {u r : Value} {Q : Unit → Shared → Prop} (hu : A.units < cLine) (I : Inv X pins σ H s) (hD : H D = some (.dT kvs)) (hb : H b = some (.tup (k.map kV))) (hz : kvs.length < sizeLine)
    (ry : RelV (.ref b) u) (rv : RelV v r) (h : ∀ s', Inv X pins σ (upd H D (.dT (putK kvs k v))) s' → Q () s') : wpAny (model X.prog X.w) A (dictSet D u r) Q E s := by
  cases (show u = Value.ref b from ry)
  obtain ⟨z, hd, xs, rel, dd⟩ := dt_of I.hok hD
  have hzx : xs.length ≤ sizeLine := by rw [← Paired.length rel]; exact z
  have hl : (putK kvs k v).length ≤ sizeLine := by have := length_putK kvs k v; omega
  refine wpAny_dictSet_heap (hsz := hzx) (knd := tupleKind (mixKind X.prog X.w)) hu (key_of I.hok hb) dd fun h' dd' hs => h _ ?_
  obtain ⟨q, es, ep, hq, h2, h3, h4, _, h5⟩ := dd'
  refine d_write I (by rw [hD]; exact True.intro) hs ⟨q, hq⟩ ⟨hl, hd, _, (rel.put k hb rv).keeps fun c ys ec => ?_, q, es, ep, hq, h2, h3, h4, h5⟩
  rw [upd_ne (ne_of ec hD (fun z => nomatch z))]
  exact ec
section
variable {X : Cx}
/-- {k: v for target in iter if ..}, keys tuples: D the new dict -/
def tDcT (wi : TI) (g : TG) (tt : TT) (tk tv : TE) (vs : List Nat) : TE := fun σ H Q => wi σ H fun J H1 => ∀ D, H1 D = none → ∃ W : Nat → Nat → Hp → Prop, (∃ m, W 0 m (upd H1 D (.dT []))) ∧ ∀ i m H, W i m H →
  (J.stop i H ∧ Q (.ref D) H) ∨ (J.go i H ∧ ∃ Nx : Hp → Prop, (∀ H', Nx H' → ∃ m', m' < m ∧ W (i + 1) m' H') ∧ ∀ x H', J.yld i H x H' → g x (wipe σ vs) H' fun σ2 H2 => wipe σ2 vs = wipe σ vs ∧ tt σ2 H2 fun b H3 =>
    if b = true then tk σ2 H3 fun y H4 => tv σ2 H4 fun z H5 => ∃ (kvs : List (List L2.Key × V)) (k : List L2.Key) (b : Addr), y = .ref b ∧ H5 b = some (.tup (k.map kV)) ∧ H5 D = some (.dT kvs) ∧ kvs.length < sizeLine ∧ Nx (upd H5 D (.dT (putK kvs k z))) else Nx H3)
theorem dcT_core {pins : List (Addr × Obj)} {s : Shared} {σ : L2.St} {H : Hp} {Q : VK} {kx vx tg iter : Expr} {ifs : List Expr} {scope : Scope} {own : List (Str × Nat)} {pos pos' : Pos} {wi : TI} {g : TG} {tt : TT} {tk tv : TE} {use : Option (Value → Sem Unit)} {Qf : Value → Shared → Prop}
    (hu : X.A.units < cLine) (hc : X.calm = true) (hN : X.N.Nodup) (I : Inv X pins σ H s) (hi : PI X tg iter wi) (ok : BlkOk X.N X.env.scope scope own)
    (hg : ∀ (s : Shared) (H : Hp) (C : Addr) (cl : List (Str × Addr)) (fp : List Addr), PG (X.blk s H scope (compEnvC scope cl C X.env) fp) tg g) (ht : ∀ (s : Shared) (H : Hp) (C : Addr) (cl : List (Str × Addr)) (fp : List Addr), PTs (X.blk s H scope (compEnvC scope cl C X.env) fp) ifs tt)
    (hk : ∀ (s : Shared) (H : Hp) (C : Addr) (cl : List (Str × Addr)) (fp : List Addr), PE (X.blk s H scope (compEnvC scope cl C X.env) fp) kx tk)
    (he : ∀ (s : Shared) (H : Hp) (C : Addr) (cl : List (Str × Addr)) (fp : List Addr), PE (X.blk s H scope (compEnvC scope cl C X.env) fp) vx tv) (hs : ∀ x, foldedSetIterable iter X.env x = pure x)
    (h : tDcT wi g tt tk tv (own.map (·.2)) σ H Q)
    (hRR : ∀ D C s' m H', Inv X pins σ H' s' → Q (.ref D) H' → s'.heap.Ns C m → FpOk X pins H' C → compPost (model X.prog X.w) X.A X.xe use Qf (.ref D) C (.ok .next) s') :
    wpAny (model X.prog X.w) X.A (comprehension (.DictComp kx vx [⟨tg, iter, ifs, 0⟩] scope pos) scope X.env pos' newDict false (eval iter X.env) use) Qf X.xe s := by
  have hfree : ∀ y ∈ scope.names, y.2 = .free → ∃ c, X.env.cells.lookup y.1 = some c := fun y hy e => by
    rcases ok.free y hy e with k | k
    · exact I.ok.has _ (.inl k)
    · exact I.ok.has _ (.inr k)
  refine wpAny_comprehension_free (use := use) rfl hs (closure_ok hfree) ok.kind (fun y hy e => by rw [ok.uniq y hy, e])
    (thn (hi.run pins s σ H _ I h) fun xv s1 hx => thn hx fun itv s2 h2 => ?_)
  obtain ⟨it, fp, tn, J, H2, e, I2, T, st2, f2, q⟩ := h2
  subst e
  refine wpAny_newObj_type (newEnv_comp ?_)
  generalize hD : s2.heap.objs.size = D
  have hDn : H2 D = none := I2.hok.fresh (Nat.le_of_eq hD)
  obtain ⟨W, ⟨m0, w0⟩, turn⟩ := q D hDn
  -- the new list
  generalize hs3 : ({ s2 with heap := s2.heap.push { cls := .type "dict", data := .dict #[] } } : Shared) = s3
  have I3 : Inv X pins σ (upd H2 D (.dT [])) s3 := by
    rw [← hs3]
    refine I2.laid (t' := s2.toks) (fun b o e => Heap.get?_push_of_some _ e) (Nat.le_of_eq hD) ?_
    rw [← hD]
    exact dt_empty s2.heap I2.big
  have h3 : s3.heap = s2.heap.push { cls := .type "dict", data := .dict #[] } := by rw [← hs3]
  have sz : ∀ b ∈ fp, b < s2.heap.objs.size := fun b hb => by
    obtain ⟨o, e, _⟩ := T.obj _ _ st2 b hb
    exact Heap.lt_size e
  have f3 : ∀ b ∈ fp, FpOk X pins (upd H2 D (.dT [])) b ∧ b < s3.heap.objs.size := fun b hb => by
    have hlt := sz b hb
    refine ⟨⟨?_, (f2 b hb).2⟩, by rw [h3, Heap.size_push]; exact Nat.lt_succ_of_lt hlt⟩
    rw [upd_ne (by rw [← hD]; exact Nat.ne_of_lt hlt)]
    exact (f2 b hb).1
  have st3 : tn 0 s3.heap := T.keep _ _ _ st2 fun b _ o e => by rw [h3]; exact Heap.get?_push_of_some _ e
  have I4 := block_start I3 ok hN f3
  have pg := hg s3 (upd H2 D (.dT [])) s3.heap.objs.size (cellsFrom (s3.heap.objs.size + 1) scope.names (cloFrom X.env.cells scope.names [])) fp
  have pt := ht s3 (upd H2 D (.dT [])) s3.heap.objs.size (cellsFrom (s3.heap.objs.size + 1) scope.names (cloFrom X.env.cells scope.names [])) fp
  have pk := hk s3 (upd H2 D (.dT [])) s3.heap.objs.size (cellsFrom (s3.heap.objs.size + 1) scope.names (cloFrom X.env.cells scope.names [])) fp
  have pe := he s3 (upd H2 D (.dT [])) s3.heap.objs.size (cellsFrom (s3.heap.objs.size + 1) scope.names (cloFrom X.env.cells scope.names [])) fp
  show codeAny _ _ (.compStart (.DictComp kx vx [⟨tg, iter, ifs, 0⟩] scope pos) 0 (.ref it) (.ref D) (compEnvC scope (cellsFrom (s3.heap.objs.size + 1) scope.names (cloFrom X.env.cells scope.names [])) s3.heap.objs.size X.env)) (compPost (model X.prog X.w) X.A X.xe use Qf (.ref D) s3.heap.objs.size) { s3 with heap := pushCells (s3.heap.push { cls := .type "dict", data := .dict #[] }) scope.names }
  have nfp : ∀ b ∈ fp, (upd H2 D (.dT [])) b = none := fun b hb => (f3 b hb).1.1
  generalize hce : compEnvC scope (cellsFrom (s3.heap.objs.size + 1) scope.names (cloFrom X.env.cells scope.names [])) s3.heap.objs.size X.env = ce at I4 pg pt pk pe ⊢
  have cL : ce.locals = s3.heap.objs.size := by subst hce; rfl
  generalize hH3 : upd H2 D (.dT []) = H3 at I3 I4 pg pt pk pe w0 nfp f3
  generalize hs4 : ({ s3 with heap := pushCells (s3.heap.push { cls := .type "dict", data := .dict #[] }) scope.names } : Shared) = s4 at I4 ⊢
  have st4 : tn 0 s4.heap := T.keep _ _ _ st3 fun b _ o e => by rw [← hs4]; exact pushCells_keeps _ _ _ _ (Heap.get?_push_of_some _ e)
  have stat : ∀ {σ' : L2.St} {H' : Hp} {s' : Shared}, Inv (X.blk s3 H3 scope ce fp) [] σ' H' s' → (∀ b ∈ fp, H' b = none) → ∀ b ∈ fp, FpOk (X.blk s3 H3 scope ce fp) [] H' b := fun {σ' H' s'} I' hn b hb =>
    ⟨hn b hb, (I'.ok.exf b hb).1, I'.ok.exfs b hb, .inl hb, fun x c e => (I'.ok.exf b hb).2 x c e, fun p hp => absurd (show p ∈ ([] : List (Addr × Obj)) ++ [] from hp) (by simp)⟩
  have loop : codeAny (model X.prog X.w) X.A (.compLoop (.DictComp kx vx [⟨tg, iter, ifs, 0⟩] scope pos) 0 (.ref it) (.ref D) ce) (compPost (model X.prog X.w) X.A X.xe use Qf (.ref D) s3.heap.objs.size) s4 := by
    refine compLoop_anyD (fun n s' => ∃ i H', Inv (X.blk s3 H3 scope ce fp) [] (wipe σ (own.map (·.2))) H' s' ∧ tn i s'.heap ∧ (∀ b ∈ fp, H' b = none) ∧ W i n H') ?_ m0 ⟨0, H3, I4, st4, nfp, w0⟩
    rintro n s5 ⟨i, H5, I5, st5, n5, w5⟩
    rcases turn i n H5 w5 with ⟨stop, qq⟩ | ⟨go, Nx, hNx, step⟩
    · have td := T.done (X.blk s3 H3 scope ce fp) rfl rfl rfl hc i [] s5 _ H5 (fun _ _ => False) I5 (stat I5 n5) st5 stop
      refine thnF td fun r s6 ⟨hr, I6⟩ => ?_
      subst hr
      -- back in the def's context
      have I7 : Inv X pins σ H5 s6 := I3.call' (ch := fp) I6.os I6.base I6.hok I6.bare fun b hb => ⟨(f3 b hb).1.2.2.2.1, (f3 b hb).1.2.1, (f3 b hb).1.2.2.2.2.1, (f3 b hb).1.2.2.2.2.2⟩
      have nC : H5 s3.heap.objs.size = none := by
        have z : H5 ce.locals = none := I6.free
        rw [cL] at z
        exact z
      obtain ⟨m, hn, _⟩ := I6.loc
      have hn : s6.heap.Ns ce.locals m := hn
      rw [cL] at hn
      exact hRR D s3.heap.objs.size s6 m H5 I7 qq hn (I3.fpOk (Nat.le_refl _) nC)
    · have ti := T.item (X.blk s3 H3 scope ce fp) rfl rfl rfl hc i [] s5 _ H5 (fun _ _ => False) I5 (stat I5 n5) st5 go
      refine thnF ti fun r s6 ⟨u, hr, h6⟩ => ?_
      subst hr
      refine thnF h6 fun _ s7 ⟨x, H7, I7, r7, y7, st7, n7⟩ => ?_
      have I7' := I7.pinned (stat I7 n7) (T.obj _ _ st7)
      refine thnF (pg.run _ s7 _ H7 x u _ I7' r7 (step x H7 y7)) fun _ s8 ⟨σ8, H8, I8, hw8, q8⟩ => ?_
      refine thnF (pt.run _ s8 σ8 H8 _ I8 q8) fun b s9 ⟨H9, I9, q9⟩ => ?_
      -- the turn's end
      have fin : ∀ {s' : Shared} {H' : Hp}, Inv (X.blk s3 H3 scope ce fp) ([] ++ pinsAt fp s7.heap) σ8 H' s' → Nx H' → ∃ m, m < n ∧ ∃ i H', Inv (X.blk s3 H3 scope ce fp) [] (wipe σ (own.map (·.2))) H' s' ∧ tn i s'.heap ∧ (∀ b ∈ fp, H' b = none) ∧ W i m H' := fun {s' H'} I' nx => by
        obtain ⟨m', hm, w'⟩ := hNx H' nx
        have pin' : ∀ b ∈ fp, ∀ o, s7.heap.get? b = some o → s'.heap.get? b = some o ∧ H' b = none := fun b hb o e =>
          let z := I'.pin (b, o) (List.mem_append_right _ (List.mem_append_right _ (mem_pinsAt hb e)))
          ⟨z.1, z.2.1⟩
        have hl : (wipe σ (own.map (·.2))).length = σ8.length := by rw [← hw8, wipe_length]
        refine ⟨m', hm, i + 1, H', (I'.unpinned (pins := [])).weak hl (fun j v e => ?_), T.keep _ _ _ st7 fun b hb o e => (pin' b hb o e).1, fun b hb => ?_, w'⟩
        · rw [← hw8] at e
          exact (wipe_some e).1
        · obtain ⟨o, e, _⟩ := T.obj _ _ st7 b hb
          exact (pin' b hb o e).2
      cases b with
      | false =>
        simp only [Bool.false_eq_true, if_false] at q9 ⊢
        exact fin I9 q9
      | true =>
        simp only [if_true] at q9 ⊢
        refine thnF (pk.run _ s9 σ8 H9 _ I9 q9) fun z s10 ⟨yk, H10, I10, r10, q10⟩ => ?_
        refine thnF (pe.run _ s10 σ8 H10 _ I10 q10) fun z2 s11 ⟨yv, H11, I11, r11, kvs, k, bb, ek, hb11, hD11, hz11, nx⟩ => ?_
        subst ek
        exact d_dictSetT (X := X.blk s3 H3 scope ce fp) hu I11 hD11 hb11 hz11 r10 r11 fun s12 I12 => fin I12 nx
  exact codeAny_compStart_dict loop (T.self X.A 0 _ _ _ st4 loop)
/-- as a value -/
theorem pe_dcT {kx vx tg iter : Expr} {ifs : List Expr} {scope : Scope} {own : List (Str × Nat)} {pos : Pos} {wi : TI} {g : TG} {tt : TT} {tk tv : TE} (hu : X.A.units < cLine) (hc : X.calm = true) (hN : X.N.Nodup) (hi : PI X tg iter wi) (ok : BlkOk X.N X.env.scope scope own)
    (hg : ∀ (s : Shared) (H : Hp) (C : Addr) (cl : List (Str × Addr)) (fp : List Addr), PG (X.blk s H scope (compEnvC scope cl C X.env) fp) tg g) (ht : ∀ (s : Shared) (H : Hp) (C : Addr) (cl : List (Str × Addr)) (fp : List Addr), PTs (X.blk s H scope (compEnvC scope cl C X.env) fp) ifs tt)
    (hk : ∀ (s : Shared) (H : Hp) (C : Addr) (cl : List (Str × Addr)) (fp : List Addr), PE (X.blk s H scope (compEnvC scope cl C X.env) fp) kx tk)
    (he : ∀ (s : Shared) (H : Hp) (C : Addr) (cl : List (Str × Addr)) (fp : List Addr), PE (X.blk s H scope (compEnvC scope cl C X.env) fp) vx tv) (hs : ∀ x, foldedSetIterable iter X.env x = pure x := by intro _; rfl) :
    PE X (.DictComp kx vx [⟨tg, iter, ifs, 0⟩] scope pos) (tDcT wi g tt tk tv (own.map (·.2))) := by
  refine ⟨fun pins s σ H Q I h => ?_⟩
  rw [arm_eval_DictComp]
  refine dcT_core hu hc hN I hi ok hg ht hk he hs h fun D C s' m H' I' q hn f => ⟨m, hn, fun h'' sb => ?_⟩
  obtain ⟨f0, f1, f2, f3, f4, f5⟩ := f
  exact ⟨.ref D, H', I'.turned (t' := s'.toks) (fun b o hb e => (sb.2 b hb).trans e) f0 f1 f3 f4 f5, rfl, q⟩

end
end K28
set_option Elab.async false
set_option linter.all false
set_option maxRecDepth 100000
set_option maxHeartbeats 4000000
/-! keys that are lambdas; the least; (*x, y); x in d -/
namespace K28
open PySem PySem.Spec PyProof.Rows L2 LamX PySem.W PySem.Calls

def tLamK (T : List (Addr × Str)) (r : List V → Hp → VK → Prop) (t : TA) : TE := fun σ H Q => t σ H fun vs H1 => Tabs T H1 ∧ ∀ H2, Gd T H1 H2 → r vs H2 Q
section
variable {X : Cx}
def KeyR (X : Cx) (id : String) (neg : Bool) (r : List V → Hp → VK → Prop) : Prop := ∀ (pins : List (Addr × Obj)) (s : Shared) (σ : L2.St) (H : Hp) (f : Addr) (us : List Value) (vs : List V) (Q : VK), Inv X pins σ H s → LamO X s H neg f → Vals vs us → r vs H Q →
  wpAny (model X.prog X.w) X.A (call (.builtin id) us [(Str.ofString "key", .ref f)]) (EP X pins σ Q) X.xe s
theorem pe_lamK {T : List (Addr × Str)} {id : String} {neg : Bool} {r : List V → Hp → VK → Prop} {x : Str} {p pos kpos lpos pa p1 p2 p3 p4 p5 p6 : Pos} {kk : Nat} {e : Expr} {t : TA} {c P : Addr} (hr : KeyR X id neg r) (hg : Gl X x) (hm : X.mg x = none) (hv : bootBuiltins x = some (.builtin id)) (hml : X.mg "len" = none)
    (TB : TabB X.base X.mg c P) (hcode : X.env.code = .ref c) (hP : (P, X.env.qual ++ "<lambda>") ∈ T) (huq : ∀ p ∈ T, p.1 = P → p.2 = X.env.qual ++ "<lambda>") (ha : PA X [e] t) (hn : x ≠ "__name__" := by decide) (hdb : (x == ("__debug__" : Str)) = false := by decide)
    (he : backTo pos (starEach [e] X.env) = (false, eval e X.env) :: backTo pos (starEach [] X.env) := by rfl) (hpl : (backTo pos (starEach [e] X.env)).any (·.1) = false := by rfl) :
    PE X (.Call (.Name x p) [e] [⟨some "key", .Lambda (lamPar "some" pa) (lamBody "some" neg p1 p2 p3 p4 p5 p6 kk) (lamSc "some") lpos, kpos⟩] pos) (tLamK T r t) := by
  refine ⟨fun pins s σ H Q I h => ?_⟩
  refine wpAny_Call_Name_kw (ld_blt I hg hm hv ?_ hn hdb)
  refine PyProof.Rows.callWith_kw (thn (ha.run pos pins s σ H _ I h) fun us s1 ⟨vs, H1, I1, r1, t1, q1⟩ => ?_) he hpl rfl rfl
  show wpAny _ _ (evalAll [(do let v ← eval (.Lambda (lamPar "some" pa) (lamBody "some" neg p1 p2 p3 p4 p5 p6 kk) (lamSc "some") lpos) X.env; standAt pos; pure v)]) _ _ s1
  refine wpAny_evalAll_cons (wpAny_bind (lam_make2 I1 TB hcode hP huq t1 rfl (fun y hy e => by
    rcases List.mem_cons.mp hy with z | z
    · rw [z] at e; cases e
    · rw [List.mem_singleton.mp z] at e; cases e) fun f c' pm ctv H2 s2 I2 e2 t2 hf hfn hfr hco => ?_))
  refine wpAny_bind (wpAny_standAt (wpAny_pure (wpAny_evalAll_nil ?_)))
  exact hr pins s2 σ H2 f us vs Q I2 ⟨⟨_, _, _, _, _, _, _, _, _, _, _, _, hf, hco⟩, hml⟩ r1 (q1 H2 ⟨e2, t2⟩)
theorem kr_sort {neg : Bool} (hd : X.A.depth < recursionLimit) (hu : X.A.units + 64 < cLine) : KeyR X "sorted" neg (rSortLam X.K neg) := fun _ _ _ _ _ _ _ _ I L r h => sort_lam I L hd hu r h
theorem kr_min {neg : Bool} (hc : X.calm = true) (hd : X.A.depth < recursionLimit) (hu : X.A.units + 64 < cLine) : KeyR X "min" neg (rMinLam X.K neg) := fun _ _ _ _ _ _ _ _ I L r h => min_lam hc I L hd hu r h

def rMinD (K : PySem.W.Frag) : List V → Hp → VK → Prop := fun vs H Q => ∃ (a : Addr) (xs : List V) (ds : List PyData), vs = [V.ref a] ∧ SqL K H a xs ∧ DpAll K H xs ds ∧ AlikeAll ds ∧ PyData.depthAll ds ≤ 60 ∧ ds ≠ [] ∧
  ∀ (i : Nat) (x : V) (d : PyData), xs[i]? = some x → ds[i]? = some d → (∀ d' ∈ ds, dataLt d' d = false) → Q x H
theorem cr_minD (hc : X.calm = true) (hu : X.A.units + 64 < cLine) : CallR X (.builtin "min") (rMinD X.K) := by
  intro pins s σ H vs us Q I r h
  obtain ⟨a, xs, ds, rfl, hs, hdp, hal, hdep, hne, q⟩ := h
  rw [Vals.ref1 r]
  obtain ⟨its, rv, hl, hz⟩ := I.list hs
  obtain ⟨as, hr⟩ := Dp.readsAll I _ xs its hdp rv
  have lenV := rv.length
  have lenD : its.length = ds.length := SeqAt.ReadsAll.length _ _ _ hr
  have hpos : 0 < ds.length := List.length_pos_iff.mpr hne
  have hh : X.A.in1.handled = none := I.ok.hd hc
  refine call_min_walkH (iter_listW hh hl.isList fun s₂ e W st hfp hw hk => ?_)
  refine ⟨_, _, _, _, _, _, _, s.heap, _, rfl, W, st, hfp, by rw [List.size_toArray]; omega, hw, hk, cmpIn_lt (A := X.A.in1) (vs := its.toArray) (by simpa using hr) hal (by show X.A.units + 1 + _ < _; omega), fun v s' hP m => ?_⟩
  obtain ⟨h', tk, rfl, hk'⟩ := moved_old e rfl m
  obtain ⟨b1, b2⟩ := argBest_least (fun i => ds.getD i .none) (its.toArray.size - 1)
  rw [List.size_toArray] at hP b1 b2
  rw [List.getElem?_toArray] at hP
  have hxl : argBest (fun i j => dataLt (ds.getD i .none) (ds.getD j .none)) (its.length - 1) < xs.length := by omega
  obtain ⟨u, hu1, rx⟩ := Vals.get rv (List.getElem?_eq_getElem hxl)
  rw [hP] at hu1
  cases hu1
  refine ⟨_, H, I.kept hk', rx, q _ _ _ (List.getElem?_eq_getElem hxl) (List.getElem?_eq_getElem (by omega)) fun d' hd' => ?_⟩
  obtain ⟨j, hj, ej⟩ := List.mem_iff_getElem.mp hd'
  have z := b2 j (by omega)
  rw [List.getD_eq_getElem?_getD, List.getD_eq_getElem?_getD, List.getElem?_eq_getElem hj, List.getElem?_eq_getElem (by omega), ej] at z
  exact z
end

theorem pa_starK (K : PySem.W.Frag) {X : Cx} {e : Expr} {es : List Expr} {te : TE} {t : TA} {p : Pos} (he : PE X e te) (hr : PA X es t) (hs : starEach (.Starred e p :: es) X.env = (true, eval e X.env) :: starEach es X.env := by rfl) (h : X.K = K := by rfl) : PA X (.Starred e p :: es) (StX.tStar K te t) := by
  subst h; exact StX.pa_star he hr hs
section
variable {T : List (Addr × Str)} {env : List En} {K : PySem.W.Frag} {te ta tb tl tk tv : TE} {ar : TA} {m m' : Md} {vs : List Nat}
def sortK (neg : Bool) (rows : List (List Str)) : List (List Str) := rows.mergeSort (dataLe false fun r => keyD neg (eT r))
theorem sortK_map (neg : Bool) (rows : List (List Str)) : (rows.map eT).mergeSort (dataLe false (keyD neg)) = (sortK neg rows).map eT :=
  (sort_maps (r := dataLe false fun r => keyD neg (eT r)) (s := dataLe false (keyD neg)) eT fun _ _ _ _ => rfl).symm
theorem ed_sortLam {neg : Bool} {rows : List (List Str)} (h : ED T env te (.m m (.list (rows.map eT)))) (hl : ∀ r ∈ rows, r.length ≤ 1000) : ED T env (tLamK T (rSortLam K neg) (tCons te tNil)) (.m m (.list ((sortK neg rows).map eT))) := fun S H σ c Q q => h S H σ c _ fun v H1 g1 r1 => by
  obtain ⟨a, xs, rfl, h1, h2⟩ := Rp.listInv (show Rp m _ v _ from r1)
  refine ⟨g1.tab, fun H2 g2 => ?_⟩
  have h2' := h2.up (hide_ext (S := _) g2.ext)
  refine ⟨a, xs, rows, rfl, SqL.of (g2.ext _ _ (hide_le _ _ h1 fun ps z => by cases z) fun ps z => by cases z), (h2'.up hide_le).dp, hl, fun p hp => q _ _ ((g1.trans g2).trans (Gd.new g2.tab hp)) ?_⟩
  rw [← sortK_map]
  exact new_lst ((c.up g1).up g2).dom hp (h2'.sort (keyD neg))
theorem keyLt_anti {neg : Bool} {x y : List Str} (h1 : keyLt neg x y = false) (h2 : keyLt neg y x = false) : x = y := by
  unfold keyLt at h1 h2
  by_cases e : sgn neg x.length = sgn neg y.length
  · rw [if_pos e] at h1
    rw [if_pos e.symm] at h2
    exact ltL_anti (by unfold leL; rw [h2]; rfl) (by unfold leL; rw [h1]; rfl)
  · rw [if_neg e] at h1
    rw [if_neg (fun z => e z.symm)] at h2
    simp only [decide_eq_false_iff_not] at h1 h2
    omega
theorem ed_minLam {neg : Bool} {rows : List (List Str)} {r : List Str} (h : ED T env te (.m m (.list (rows.map eT)))) (hl : ∀ r ∈ rows, r.length ≤ 1000) (hr : r ∈ rows) (hmin : ∀ r' ∈ rows, keyLt neg r' r = false) : ED T env (tLamK T (rMinLam K neg) (tCons te tNil)) (.m m (eT r)) := fun S H σ c Q q => h S H σ c _ fun v H1 g1 r1 => by
  obtain ⟨a, xs, rfl, h1, h2⟩ := Rp.listInv (show Rp m _ v _ from r1)
  refine ⟨g1.tab, fun H2 g2 => ?_⟩
  have h2' := h2.up (hide_ext (S := _) g2.ext)
  refine ⟨a, xs, rows, rfl, SqL.of (g2.ext _ _ (hide_le _ _ h1 fun ps z => by cases z) fun ps z => by cases z), (h2'.up hide_le).dp, hl, List.ne_nil_of_mem hr, fun i x r0 hx hr0 hm => ?_⟩
  have e : r0 = r := keyLt_anti (hmin r0 (List.mem_of_getElem? hr0)) (hm r hr)
  subst e
  obtain ⟨d, hd, rd⟩ := h2'.getV hx
  rw [List.getElem?_map, hr0] at hd
  cases hd
  exact q x H2 (g1.trans g2) rd
theorem ed_minD {ds : List PyData} {d : PyData} (h : ED T env te (.m m (.list ds))) (hal : AlikeAll ds) (hdep : PyData.depthAll ds ≤ 60) (hd : d ∈ ds) (hmin : ∀ d' ∈ ds, (∀ d'' ∈ ds, dataLt d'' d' = false) → d' = d) : ED T env (tCB (rMinD K) (tCons te tNil)) (.m m d) := fun S H σ c Q q => h S H σ c _ fun v H1 g1 r1 => by
  obtain ⟨a, xs, rfl, h1, h2⟩ := Rp.listInv (show Rp m _ v _ from r1)
  refine ⟨a, xs, ds, rfl, SqL.of (hide_le _ _ h1 fun ps z => by cases z), (h2.up hide_le).dp, hal, hdep, List.ne_nil_of_mem hd, fun i x d0 hx hd0 hm => ?_⟩
  have e := hmin d0 (List.mem_of_getElem? hd0) hm
  subst e
  obtain ⟨d, hd, rd⟩ := h2.getV hx
  rw [hd0] at hd
  cases hd
  exact q x H1 g1 rd
theorem ea_starT {ds es : List PyData} (h : ED T env te (.m m (.tuple ds))) (hr : EA T env ar m es) : EA T env (StX.tStar K te ar) m (ds ++ es) := fun S H σ c Q q => h S H σ c _ fun v H1 g1 r1 => by
  obtain ⟨a, xs, rfl, h1, h2⟩ := Rp.tupInv (show Rp m _ v _ from r1)
  exact ⟨a, xs, rfl, .inl (h1.up hide_le).sq, hr S H1 σ (c.up g1) _ fun us H2 g2 r2 => q _ H2 (g1.trans g2) ((h2.up (hide_ext g2.ext)).append r2)⟩

/-! ### dicts with rows as keys -/
theorem kV_strs (r : List Str) : (r.map (Sum.inr : Str → L2.Key)).map kV = r.map V.str := by rw [List.map_map]; rfl
theorem map_inr_inj : ∀ {x y : List Str}, x.map (Sum.inr : Str → L2.Key) = y.map Sum.inr → x = y
  | [], [], _ => rfl
  | [], _ :: _, h => by cases h
  | _ :: _, [], h => by cases h
  | a :: x, b :: y, h => by
    simp only [List.map_cons, List.cons.injEq] at h
    rw [Sum.inr.inj h.1, map_inr_inj h.2]
theorem valV_isSome {kvs : List (List L2.Key × V)} {ks : List (List Str)} (h : kvs.map (·.1) = ks.map (·.map Sum.inr)) (r : List Str) : (valV kvs (r.map Sum.inr)).isSome = decide (r ∈ ks) := by
  rw [← valV_any]
  have e : (kvs.any fun kv => decide (kv.1 = r.map Sum.inr)) = (kvs.map (·.1)).any fun k => decide (k = r.map Sum.inr) := by rw [List.any_map]; rfl
  rw [e, h, List.any_map]
  rw [Bool.eq_iff_iff, List.any_eq_true, decide_eq_true_eq]
  constructor
  · rintro ⟨x, hx, hd⟩
    have hd : x.map Sum.inr = r.map (Sum.inr : Str → L2.Key) := of_decide_eq_true hd
    have : x = r := map_inr_inj hd
    rw [← this]; exact hx
  · intro hr
    exact ⟨r, hr, decide_eq_true rfl⟩
theorem rp_key {H : Hp} {v : V} {r : List Str} (h : Rp .p H v (eT r)) : ∃ b, v = .ref b ∧ H b = some (.tup ((r.map (Sum.inr : Str → L2.Key)).map kV)) := by
  obtain ⟨a, xs, rfl, h1, h2⟩ := Rp.tupInv h
  rw [RpL.strs h2] at h1
  exact ⟨a, rfl, by rw [kV_strs]; exact h1⟩
theorem ed_dinT {r : List Str} {ks : List (List Str)} (ha : ED T env ta (.m .p (eT r))) (hb : ED T env tb (.r ks)) : ED T env (tDIn ta tb) (.m m (.bool (decide (r ∈ ks)))) := fun S H σ c Q q =>
  ha S H σ c _ fun v H1 g1 r1 => hb S H1 σ (c.up g1) _ fun u H2 g2 r2 => by
    obtain ⟨b, rfl, e⟩ := rp_key (show Rp .p _ v _ from r1)
    obtain ⟨a, kvs, rfl, h1, h2⟩ := r2
    have e2 := g2.ext _ _ (hide_le _ _ e fun ps z => by cases z) fun ps z => by cases z
    have h1' : Rd H2 a (.dT kvs) := h1.elim (fun h => .inl (hide_le _ _ h fun ps z => by cases z)) fun ⟨o, h⟩ => .inr ⟨o, hide_le _ _ h fun ps z => by cases z⟩
    refine ⟨a, _, rfl, .inr ⟨kvs, _, b, h1', rfl, e2, rfl⟩, ?_⟩
    rw [valV_isSome h2]
    exact q _ H2 (g1.trans g2) (Rp.bl _)
theorem putK_new {kvs : List (List L2.Key × V)} {k : List L2.Key} {v : V} (h : k ∉ kvs.map (·.1)) : putK kvs k v = kvs ++ [(k, v)] := by
  unfold putK
  rw [if_neg]
  intro z
  obtain ⟨p, hp, e⟩ := List.any_eq_true.mp z
  exact h (by rw [← of_decide_eq_true e]; exact List.mem_map_of_mem hp)
theorem tabs_mutT {D : Addr} {H : Hp} {kvs : List (List L2.Key × V)} {o : HO} (t : Tabs T H) (hx : H D = some (.dT kvs)) : Tabs T (upd H D o) := fun q hq => by
  obtain ⟨ps, h1, h2, h3⟩ := t q hq
  have hb : ∀ b u, H b = some u → (∀ ys, u ≠ .dT ys) → b ≠ D := fun b u e nl z => by
    subst z; rw [hx] at e; cases e; exact nl _ rfl
  refine ⟨ps, by rw [upd_ne (hb _ _ h1 fun ys z => by cases z)]; exact h1, h2, fun pos cv hc => ?_⟩
  obtain ⟨c, e1, e2⟩ := h3 pos cv hc
  exact ⟨c, e1, by rw [upd_ne (hb _ _ e2 fun ys z => by unfold CodeO at z; cases z)]; exact e2⟩
theorem ed_dcT {j : Nat} {rows : List (List Str)} {ev : En} (h : ED T env tl (.m .p (.list (rows.map eT)))) (hj : j ∈ vs) (hz : rows.length ≤ 40000) (nd : rows.Nodup) (hk : ∀ r ∈ rows, ED T ((wipeE env vs).set j (.m .p (eT r))) tk (.m .p (eT r)))
    (hv : ∀ r ∈ rows, ED T ((wipeE env vs).set j (.m .p (eT r))) tv ev) : ED T env (tDcT (iList K tl) (gName j) tYes tk tv vs) (.t rows) := fun S H σ c Q q => h S H σ c _ fun v H1 g1 r1 => by
  obtain ⟨a, xs, rfl, h1, h2⟩ := Rp.listInv (show Rp .p _ v _ from r1)
  have e1 : H1 a = some (.lst xs) := hide_le _ _ h1 fun ps z => by cases z
  have c1 := c.up g1
  have lenX : xs.length = rows.length := by rw [h2.length, List.length_map]
  refine ⟨a, rfl, ⟨xs, SqL.of e1⟩, fun D hD => ⟨fun i n H' => n = rows.length - i ∧ i ≤ rows.length ∧ Gm T [D] H1 H' ∧ ∃ kvs, H' D = some (.dT kvs) ∧ kvs.map (·.1) = (rows.take i).map (·.map Sum.inr), ⟨_, rfl, Nat.zero_le _, (Gd.new g1.tab hD).gm, [], upd_same, rfl⟩, ?_⟩⟩
  have aD : a ≠ D := ne_of_none e1 hD
  have up : ∀ H', Gm T [D] H1 H' → H' a = some (.lst xs) := fun H' g => g.ext _ _ (fun z => aD (List.mem_singleton.mp z)) e1 fun ps z => by cases z
  have hsub : ∀ d ∈ [D], d ∈ D :: S := fun d hd => by rw [List.mem_singleton.mp hd]; exact List.mem_cons_self
  rintro i n H' ⟨rfl, hi, g2, kvs, hk2, ek⟩
  have uH := up H' g2
  have lk : kvs.length ≤ i := by
    have := congrArg List.length ek
    rw [List.length_map, List.length_map, List.length_take] at this
    omega
  by_cases hlt : i < rows.length
  · refine .inr ⟨⟨xs, xs[i]'(by omega), SqL.of uH, by simp [lenX, hlt]⟩, fun H' => i + 1 ≤ rows.length ∧ Gm T [D] H1 H' ∧ ∃ kvs, H' D = some (.dT kvs) ∧ kvs.map (·.1) = (rows.take (i + 1)).map (·.map Sum.inr), fun H'' P => ⟨_, by omega, rfl, P⟩, fun x H3 hy => ?_⟩
    obtain ⟨rfl, fx⟩ := hy
    have hx1 := fx xs (SqL.of uH)
    have dmD : Dom (D :: S) H3 := fun s hs => by
      rcases List.mem_cons.mp hs with z | z
      · rw [z]; exact ⟨_, hk2, nt_dT _⟩
      · obtain ⟨o, ho, no⟩ := c1.dom s z
        by_cases hsD : s = D
        · rw [hsD]; exact ⟨_, hk2, nt_dT _⟩
        · exact ⟨o, g2.ext _ _ (fun z => hsD (List.mem_singleton.mp z)) ho no.1, no⟩
    have eh : ExtN (hide S H1) (hide (D :: S) H3) := fun b o e nt => by
      by_cases hb : b ∈ S
      · rw [hide_in hb] at e; cases e
      · rw [hide_out hb] at e
        have bD : b ≠ D := ne_of_none e hD
        rw [hide_out (fun z => (List.mem_cons.mp z).elim bD hb)]
        exact g2.ext _ _ (fun z => bD (List.mem_singleton.mp z)) e nt
    have cD : At T (D :: S) H3 σ env := ⟨dmD, g2.tab, c1.fit.up eh⟩
    obtain ⟨r, er, hr, rr⟩ := get_map (m := .p) h2 hx1
    have rr3 := rr.up eh
    have cB := (cD.wipe vs).set (e := .m .p (eT r)) rr3 j
    refine ⟨by rw [wipe_set hj, wipe_wipe], ?_⟩
    refine t_yes ?_
    refine hk r hr _ _ _ cB _ fun y H4 g4 r4 => hv r hr _ _ _ (cB.up g4) _ fun z H5 g5 r5 => ?_
    obtain ⟨b, rfl, hb⟩ := rp_key (show Rp .p _ y _ from r4)
    have hb5 := (g5.ext _ _ (hide_le _ _ hb fun ps z => by cases z) fun ps z => by cases z)
    have hk5 := (g4.trans g5).ext _ _ hk2 fun ps z => by cases z
    have g6 : Gm T [D] H1 H5 := g2.trans (g4.trans g5).gm
    refine ⟨kvs, _, b, rfl, hb5, hk5, by rw [sizeLine_eq]; omega, hlt, g6.trans ⟨fun b o n e _ => by rw [upd_ne (fun z => n (List.mem_singleton.mpr z))]; exact e, tabs_mutT g6.tab hk5⟩, _, upd_same, ?_⟩
    have hnew : r.map Sum.inr ∉ kvs.map (·.1) := by
      rw [ek]
      intro z
      obtain ⟨w, hw, ew⟩ := List.mem_map.mp z
      have ew := map_inr_inj ew
      subst ew
      obtain ⟨k, hk', ekk⟩ := List.mem_take_iff_getElem.mp hw
      have hk3 : k < i := by omega
      have hrow : rows[k]'(by omega) = rows[i]'hlt := by
        rw [ekk]
        rw [List.getElem?_eq_getElem hlt] at er
        exact (Option.some.inj er).symm
      exact (List.pairwise_iff_getElem.mp nd k i (by omega) hlt hk3) hrow
    rw [putK_new hnew, List.map_append, ek, List.take_add_one, er, List.map_append]
    rfl
  · have ei : i = rows.length := by omega
    subst ei
    refine .inl ⟨⟨xs, SqL.of uH, by omega⟩, q _ _ (g1.trans (Gm.gd (Gd.refl g1.tab) (fun d hd => by rw [List.mem_singleton.mp hd]; exact Nw.of hD) g2)) ⟨D, kvs, rfl, by rw [hide_out (c1.dom.nin hD)]; exact hk2, ?_⟩⟩
    rw [ek, List.take_of_length_le (Nat.le_refl _)]
end
end K28
set_option Elab.async false
set_option linter.all false
set_option maxRecDepth 100000
set_option maxHeartbeats 4000000
/-! sets_of, kept_sets, most_kept -/
namespace K28
open PySem PySem.Spec PyProof.Rows L2 LamX PySem.W
theorem Fun.okC {P : Program} {w : World} {K : PySem.W.Frag} {mg : Str → Option Value} {base : Heap} {x qual : Str} {st : Stmt} {f c : Addr} {fd : FuncData} {N ps : List Str} {k : Nat} {sp : Sp} (F : Fun K x qual st f fd) (hcode : fd.code = .ref c) (S : FnScope N ps (defScope st)) (len : ∀ vs H Q E, sp vs H Q E → vs.length = ps.length)
    (hbody : ∀ (A : Around) (outer : List Env) (s : Shared) (H : Hp) (vs : List V) (Q : VK) (E : XK), Room k (A.deeper (envOfC qual (defScope st) s.heap.objs.size f (.ref c))) → sp vs H Q E →
      ∃ t, PSs (cxOf CX0 P w K mg base N qual (defScope st) f (.ref c) A outer s H E).nox (defBody st) t ∧ t { nx := fun _ H' => Q .non H', rt := Q } (start N vs) H) : FnOk P w K mg base CX0 (k + 1) f fd ps sp := by
  obtain ⟨oc, od, kV, doc, pm, an, cdv, ct, osl, rfl, lk, hcd⟩ := F.ex
  obtain rfl : cdv = .ref c := hcode
  refine fn_of lk hcd S len fun A outer s H vs Q E hr hsp => ?_
  obtain ⟨t, h, q⟩ := hbody A outer s H vs Q E hr hsp
  exact ⟨t, h.nox, q⟩
section
variable {T : List (Addr × Str)} {S : List Addr} {H : Hp} {σ : L2.St} {env : List En} {te : TE} {D : Ends}
theorem td_set {i : Nat} {e : En} (c : At T S H σ env) (h : ED T env te e) (k : ∀ σ' H', Gd T H H' → At T S H' σ' (env.set i e) → D.nx σ' H') : tAsg te (gName i) D σ H :=
  h S H σ c _ fun v H1 g1 r1 => k _ H1 g1 ((c.up g1).set r1 i)
theorem at_eq {e e' : List En} (c : At T S H σ e) (h : e = e') : At T S H σ e' := h ▸ c
end
/-- all sets of names, in the order in which the names come -/
def setsOf (names : List Str) : List (List Str) := names.foldl (fun fs n => fs ++ fs.map (· ++ [n])) [[]]
theorem setsOf_snoc (l : List Str) (n : Str) : setsOf (l ++ [n]) = setsOf l ++ (setsOf l).map (· ++ [n]) := by unfold setsOf; rw [List.foldl_append]; rfl
theorem setsOf_length : ∀ n (l : List Str), l.length = n → (setsOf l).length = 2 ^ n := by
  intro n
  induction n with
  | zero => intro l h; rw [List.length_eq_zero_iff.mp h]; rfl
  | succ n ih =>
    intro l h
    rcases List.eq_nil_or_concat l with z | ⟨l', x, rfl⟩
    · rw [z] at h; cases h
    · rw [List.concat_eq_append] at h ⊢
      rw [setsOf_snoc, List.length_append, List.length_map, ih l' (by simpa using h)]
      omega
theorem setsOf_mem_len : ∀ n (l : List Str), l.length = n → ∀ s ∈ setsOf l, s.length ≤ n := by
  intro n
  induction n with
  | zero => intro l h s hs; rw [List.length_eq_zero_iff.mp h] at hs; rw [List.mem_singleton.mp hs]; exact Nat.le_refl _
  | succ n ih =>
    intro l h s hs
    rcases List.eq_nil_or_concat l with z | ⟨l', x, rfl⟩
    · rw [z] at h; cases h
    · rw [List.concat_eq_append] at h hs
      have h' : l'.length = n := by simpa using h
      rw [setsOf_snoc] at hs
      rcases List.mem_append.mp hs with z | z
      · have := ih l' h' s z; omega
      · obtain ⟨w, hw, rfl⟩ := List.mem_map.mp z
        have := ih l' h' w hw
        rw [List.length_append]; show w.length + 1 ≤ _; omega
theorem pow_le {n : Nat} (h : n ≤ 10) : 2 ^ n ≤ 1024 := Nat.le_trans (Nat.pow_le_pow_right (by decide) h) (by decide)
def R_sets : List En → En → Prop := fun es e => ∃ m names, es = [.m m (eL names)] ∧ names.length ≤ 10 ∧ e = .m .p (.list ((sortK false (setsOf names)).map eT))
def keptSets (ps : List (Str × List Str)) : List (List Str) := (sortK false (setsOf (sortS (names1 ps)))).filter fun s => !(((oddPairs ps).map fun p => (decide (p.1 ∈ s) && decide (p.2 ∈ s))).any id)
def R_kept : List En → En → Prop := fun es e => ∃ m B ps, es = [.m m B] ∧ BookD B ps ∧ BookOk ps ∧ ps.length ≤ 10 ∧ e = .m .p (.list ((keptSets ps).map eT))
/-- s is the first by (-length, s) -/
def IsMost (rows : List (List Str)) (s : List Str) : Prop := s ∈ rows ∧ ∀ r ∈ rows, keyLt true r s = false
def R_most : List En → En → Prop := fun es e => ∃ m B ps s, es = [.m m B] ∧ BookD B ps ∧ BookOk ps ∧ ps.length ≤ 10 ∧ IsMost (keptSets ps) s ∧ e = .m .p (eT s)
theorem sortK_perm (b : Bool) (l : List (List Str)) : (sortK b l).Perm l := List.mergeSort_perm _ _
theorem names1_length (ps : List (Str × List Str)) : (sortS (names1 ps)).length = ps.length := by rw [sortS_length, List.length_map]
theorem keptSets_len {ps : List (Str × List Str)} (h : ps.length ≤ 10) : (keptSets ps).length ≤ 1024 ∧ ∀ s ∈ keptSets ps, s.length ≤ 1000 ∧ s ∈ setsOf (sortS (names1 ps)) := by
  constructor
  · refine Nat.le_trans (List.length_filter_le _ _) ?_
    rw [(sortK_perm _ _).length_eq, setsOf_length _ _ rfl, names1_length]
    exact pow_le h
  · intro s hs
    have h1 := (sortK_perm false _).mem_iff.mp (List.mem_filter.mp hs).1
    have := setsOf_mem_len _ _ rfl s h1
    rw [names1_length] at this
    exact ⟨by omega, h1⟩
theorem pairsI_len (l : List Str) (h : l.length ≤ 64) : (pairsI l).length ≤ 40000 := by
  have hb : ∀ n, n ≤ 64 → ((List.range n).flatMap fun i => (l.drop (i + 1)).map fun o => (l.getD i default, o)).length ≤ n * 64 := by
    intro n
    induction n with
    | zero => intro _; simp
    | succ n ih =>
      intro hn
      rw [List.range_succ, List.flatMap_append, List.flatMap_singleton, List.length_append, List.length_map, List.length_drop]
      have := ih (by omega)
      omega
  have := hb _ h
  unfold pairsI
  omega
section
variable {P : Program} {w : World} {K : PySem.W.Frag} {mg : Str → Option Value} {base : Heap} {T : List (Addr × Str)}
theorem ok_sets_of (B : Blt mg) {f c Pt : Addr} {fd : FuncData} (F : Fun K "sets_of" "sets_of" s_sets_of f fd) (hcode : fd.code = .ref c) (TB : TabB base mg c Pt) (hP : (Pt, ((Str.ofString "sets_of" ++ ".<locals>.") ++ "<lambda>" : Str)) ∈ T) (huq : ∀ p ∈ T, p.1 = Pt → p.2 = ((Str.ofString "sets_of" ++ ".<locals>.") ++ "<lambda>" : Str)) :
    FnOk P w K mg base CX0 7 f fd ["names"] (PrR T R_sets) := by
  refine Fun.okC F hcode sc_sets_of (PrR.len (n := 1) (fun es e ⟨_, _, h, _⟩ => by rw [h]; rfl) rfl) (fun A outer s H vs Q E hr h => ?_)
  obtain ⟨S, es, e, dom, tab, r, ⟨m, names, rfl, hn, rfl⟩, q⟩ := h
  have c := at_start (N := ["names", "found", "name", "some"]) dom tab r
  refine ⟨_, (pss_cons (ps_set (i := 1) sc_sets_of.nd rfl (.inl rfl) (pe_lst (pa_cons (pe_tup pa_nil) pa_nil)))
    (pss_cons (ps_for PassesOwn.never rfl (pi_listK K (pv 0)) (pg_name (i := 2) sc_sets_of.nd rfl (.inr rfl))
      (pss_one (ps_set (i := 1) sc_sets_of.nd rfl (.inl rfl) (pe_op op_cat (pv 1) (pe_lc (own := [("some", 3)]) (by rfl) sc_sets_of.nd (pi_listK K (pv 1)) (blkOk_by (N := ["names", "found", "name", "some"]) (sc := defScope s_sets_of) (by decide +kernel)) (fun _ _ _ _ _ => (pg_name (i := 3) sc_sets_of.nd rfl (by first | exact .inl rfl | exact .inr rfl))) (fun _ _ _ _ _ => pts_nil) (fun _ _ _ _ _ => (pe_tup (pa_starK K (pv 3) (pa_cons (pv 2) pa_nil)))))))))
    (pss_one (ps_ret (pe_lamK (neg := false) (p4 := ⟨0, 0, 0, 0⟩) (kr_sort hr.depth hr.units) (by rfl) B.sorted bt_sorted B.len TB rfl hP huq (pa_cons (pv 1) pa_nil)))))), ?_⟩
  refine sd_set c (e := .m .p (.list ((setsOf []).map eT))) (ed_lst (ea_one (ed_tupM ea_nil (by intro z; cases z) (Nat.zero_le _)))) fun σ1 H1 g1 c1 => ?_
  refine sd_for (D := []) (O := fun _ _ => True) (n := (names.map PyData.str).length) (E := fun i => [.m m (eL names), .m .p (.list ((setsOf (names.take i)).map eT)), .no, .no]) (E2 := fun i => [.m m (eL names), .m .p (.list ((setsOf (names.take i)).map eT)), .m m ((names.map PyData.str).getD i .none), .no]) c1 (by simp) (iw_list ed_var) trivial (fun _ _ _ _ h => h) (fun i _ => ef_name) (fun i hi σ2 H2 g2 c2 _ Nx k => ?_) fun σ3 H3 g3 c3 _ => ?_
  · rw [List.length_map] at hi
    have e1 : (names.map PyData.str).getD i .none = .str names[i] := by rw [List.getD_eq_getElem?_getD, List.getElem?_map, List.getElem?_eq_getElem hi]; rfl
    simp only [e1] at c2
    have hl : (setsOf (names.take i)).length ≤ 1024 := by rw [setsOf_length _ _ rfl, List.length_take]; exact pow_le (by omega)
    have hb : ∀ b ∈ setsOf (names.take i), b.length ≤ 10 := fun b hb => by
      have := setsOf_mem_len _ _ rfl b hb
      rw [List.length_take] at this
      omega
    refine td_set c2 (ed_catL (ed_var (e := .m .p (.list ((setsOf (names.take i)).map eT)))) (ed_lcL1 (m' := .p) (fun b : List Str => eT (b ++ [names[i]])) (ed_var (e := .m .p (.list ((setsOf (names.take i)).map eT)))) (by decide) (by omega) (fun b hb' => ?_)) (by rw [List.length_map, List.length_map]; omega)) fun σ4 H4 g4 c4 => ?_
    · have hbl := hb b hb'
      refine ED.is (ed_tupM (ea_starT (m := .p) (ed_var (e := .m .p (eT b))) (ea_one (ed_var (e := .m m (.str names[i]))).atS)) (by intro z; cases z) (by rw [List.length_append, List.length_map]; show b.length + 1 ≤ _; omega)) (by unfold eT; rw [List.map_append]; rfl)
    · refine k _ _ g4.gm (at_eq (c4.forget 2) ?_) trivial
      rw [List.take_add_one, List.getElem?_eq_getElem hi]
      show [_, _, _, _] = _
      rw [Option.toList_some, setsOf_snoc, List.map_append, List.map_map]
      rfl
  · have e2 : names.take (names.map PyData.str).length = names := by rw [List.length_map, List.take_length]
    simp only [e2] at c3
    refine sd_ret c3 (ed_sortLam (m := .p) ed_var fun r hr => ?_) fun v H4 g4 r4 => q v H4 ((g1.trans g3.gd').trans g4) r4
    have := setsOf_mem_len _ _ rfl r hr
    omega
theorem ok_kept_sets (B : Blt mg) {f f1 f2 f3 : Addr} {fd fd1 fd2 fd3 : FuncData} (F : Fun K "kept_sets" "kept_sets" s_kept_sets f fd) (C_odd_pairs : Cal P w K mg base "odd_pairs" 7 ["book"] (PrR T R_oddp) f1 fd1) (C_sets_of : Cal P w K mg base "sets_of" 7 ["names"] (PrR T R_sets) f2 fd2) (C_lists_table : Cal P w K mg base "lists_table" 5 ["book"] (PrR T R_table) f3 fd3) :
    FnOk P w K mg base CX0 8 f fd ["book"] (PrR T R_kept) := by
  refine F.ok sc_kept_sets (PrR.len (n := 1) (fun es e ⟨_, _, _, h, _⟩ => by rw [h]; rfl) rfl) (fun cdv A outer s H vs Q E hr h => ?_)
  obtain ⟨S, es, e, dom, tab, r, ⟨m, Bk, ps, rfl, hB, hO, hl, rfl⟩, q⟩ := h
  have c := at_start (N := ["book", "odd", "every", "some", "one", "other"]) dom tab r
  refine ⟨_, (pss_cons (ps_set (i := 1) sc_kept_sets.nd rfl (.inr rfl) (pe_call C_odd_pairs.ok (hr.mono (by decide)) (by rfl) C_odd_pairs.g C_odd_pairs.kp C_odd_pairs.b .nil pass0 (pa_cons (pv 0) pa_nil)))
    (pss_cons (ps_set (i := 2) sc_kept_sets.nd rfl (.inl rfl) (pe_call C_sets_of.ok (hr.mono (by decide)) (by rfl) C_sets_of.g C_sets_of.kp C_sets_of.b .nil pass0 (pa_cons (pe_callB (call_sortedD rfl) (by rfl) B.sorted bt_sorted (pa_cons (pe_call C_lists_table.ok (hr.mono (by decide)) (by rfl) C_lists_table.g C_lists_table.kp C_lists_table.b .nil pass0 (pa_cons (pv 0) pa_nil)) pa_nil)) pa_nil)))
    (pss_one (ps_ret (pe_lc (own := [("some", 3)]) (by rfl) sc_kept_sets.nd (pi_listK K (pv 2)) (blkOk_by (N := ["book", "odd", "every", "some", "one", "other"]) (sc := defScope s_kept_sets) (by decide +kernel)) (fun _ _ _ _ _ => (pg_name (i := 3) sc_kept_sets.nd rfl (by first | exact .inl rfl | exact .inr rfl))) (fun _ _ _ _ _ => (pts_one (pt_not (pt_val (pe_callB (cr_anyK K rfl) (by rfl) B.any bt_any (pa_cons (pe_lc (own := [("one", 4), ("other", 5)]) (by rfl) sc_kept_sets.nd (pi_tupK K (pv 1)) (blkOk_by (N := ["book", "odd", "every", "some", "one", "other"]) (sc := relS _ (defScope s_kept_sets)) (by decide +kernel)) (fun _ _ _ _ _ => (pg_tupK (n := 2) K rfl (pgs_cons (pg_name (i := 4) sc_kept_sets.nd rfl (by first | exact .inl rfl | exact .inr rfl)) (pgs_cons (pg_name (i := 5) sc_kept_sets.nd rfl (by first | exact .inl rfl | exact .inr rfl)) pgs_nil)) (by rfl) (by rfl))) (fun _ _ _ _ _ => pts_nil) (fun _ _ _ _ _ => (pe_and (pe_cmpR (op_inK K) (pv 4) (pv 3) (by rfl)) (pe_one (pe_cmpR (op_inK K) (pv 5) (pv 3) (by rfl)))))) pa_nil)))))) (fun _ _ _ _ _ => (pv 3))))))), ?_⟩
  refine sd_set c (e := .d (.tuple ((oddPairs ps).map eP))) (ed_call (en_one ed_var) ⟨m, Bk, ps, rfl, hB, hO, rfl⟩) fun σ1 H1 g1 c1 => ?_
  refine sd_set c1 (e := .m .p (.list ((sortK false (setsOf (sortS (names1 ps)))).map eT))) (ed_call (en_one (ED.is (ed_sortD (m' := .any) (ed_call (en_one (ed_var (e := .m m Bk))) ⟨m, Bk, ps, rfl, hB, rfl⟩) (by rw [List.length_map]; exact hO.len)) (by rw [List.map_map]; rfl))) ⟨.any, sortS (names1 ps), rfl, by rw [names1_length]; exact hl, rfl⟩) fun σ2 H2 g2 c2 => ?_
  have hlen : (sortK false (setsOf (sortS (names1 ps)))).length ≤ 1024 := by rw [(sortK_perm _ _).length_eq, setsOf_length _ _ rfl, names1_length]; exact pow_le hl
  have hop : (oddPairs ps).length ≤ 40000 := Nat.le_trans (List.length_filter_le _ _) (pairsI_len _ (by rw [names1_length]; omega))
  refine sd_ret c2 (ed_lcL (m' := .p) (fun b : List Str => !(((oddPairs ps).map fun p : Str × Str => (decide (p.1 ∈ b) && decide (p.2 ∈ b))).any id)) eT (ed_var (e := .m .p (.list ((sortK false (setsOf (sortS (names1 ps)))).map eT)))) (by decide) (by omega) (fun b hb => ?_) (fun b _ _ => ed_var)) fun v H4 g4 r4 => q v H4 ((g1.trans g2).trans g4) r4
  refine et_not (et_B (m := .any) (ed_any (m := .any) (ED.is (ed_lcTG (m' := .any) (bs := oddPairs ps) (enc := eP) (p := fun _ => true) (f := fun p : Str × Str => .bool (decide (p.1 ∈ b) && decide (p.2 ∈ b))) (ed_var (e := .d (.tuple ((oddPairs ps).map eP)))) hop (fun p _ => eg_pair (by decide) (by decide)) (fun _ _ => et_yes) (fun p _ _ => ?_)) ?_)))
  · exact ed_andV (m := .any) (m' := .any) (ed_inT (m := .any) (m' := .p) ed_var (ed_var (e := .m .p (eT b)))) fun _ => ed_inT (m := .any) (m' := .p) ed_var (ed_var (e := .m .p (eT b)))
  · rw [filter_yes, List.map_map]; rfl
theorem ok_most_kept (B : Blt mg) {f f1 c Pt : Addr} {fd fd1 : FuncData} (F : Fun K "most_kept" "most_kept" s_most_kept f fd) (hcode : fd.code = .ref c) (TB : TabB base mg c Pt) (hP : (Pt, ((Str.ofString "most_kept" ++ ".<locals>.") ++ "<lambda>" : Str)) ∈ T) (huq : ∀ p ∈ T, p.1 = Pt → p.2 = ((Str.ofString "most_kept" ++ ".<locals>.") ++ "<lambda>" : Str))
    (C_kept_sets : Cal P w K mg base "kept_sets" 8 ["book"] (PrR T R_kept) f1 fd1) : FnOk P w K mg base CX0 9 f fd ["book"] (PrR T R_most) := by
  refine Fun.okC F hcode sc_most_kept (PrR.len (n := 1) (fun es e ⟨_, _, _, _, h, _⟩ => by rw [h]; rfl) rfl) (fun A outer s H vs Q E hr h => ?_)
  obtain ⟨S, es, e, dom, tab, r, ⟨m, Bk, ps, s0, rfl, hB, hO, hl, hm, rfl⟩, q⟩ := h
  have c := at_start (N := ["book"]) dom tab r
  refine ⟨_, (pss_one (ps_ret (pe_lamK (neg := true) (kr_min rfl hr.depth hr.units) (by rfl) B.min bt_min B.len TB rfl hP huq (pa_cons (pe_call C_kept_sets.ok (hr.mono (by decide)) (by rfl) C_kept_sets.g C_kept_sets.kp C_kept_sets.b .nil pass0 (pa_cons (pv 0) pa_nil)) pa_nil)))), ?_⟩
  exact sd_ret c (ed_minLam (m := .p) (ed_call (en_one (ed_var (e := .m m Bk))) ⟨m, Bk, ps, rfl, hB, hO, hl, rfl⟩) (fun r hr => ((keptSets_len hl).2 r hr).1) hm.1 hm.2) fun v H4 g4 r4 => q v H4 g4 r4
end
end K28
set_option Elab.async false
set_option linter.all false
set_option maxRecDepth 100000
set_option maxHeartbeats 4000000
/-! for x in d, d a dict with rows as keys; d is locked the while -/
namespace K28
open PySem PySem.Spec PyProof.Rows L2 LamX PySem.W
def LkO (kvs : List (List L2.Key × V)) (o : HO) : Prop := o = .dT kvs ∨ ∃ od, o = .frz od (.dT kvs)
theorem LkO.nl {kvs : List (List L2.Key × V)} {o : HO} (h : LkO kvs o) : (∀ xs, o ≠ .lst xs) ∧ (∀ xs, o ≠ .tup xs) ∧ (∀ od xs, o ≠ .frz od (.tup xs)) ∧ (∀ kv, o ≠ .dK kv) ∧ ∀ ps, o ≠ .tbl ps := by
  rcases h with rfl | ⟨od, rfl⟩ <;> refine ⟨?_, ?_, ?_, ?_, ?_⟩ <;> intros <;> intro z <;> cases z
section
variable {H : Hp} {a : Addr} {o o' : HO} {kvs : List (List L2.Key × V)} {m : Md}
theorem TupAt.lk (h : H a = some o) (ho : LkO kvs o) {b : Addr} {xs : List V} : ∀ {m : Md}, TupAt m H b xs → TupAt m (upd H a o') b xs := by
  intro m q
  have ne : ∀ u, H b = some u → u ≠ o → b ≠ a := fun u e n z => by rw [z, h] at e; exact n (Option.some.inj e).symm
  cases m with
  | any =>
    rcases q with q | ⟨od, q⟩
    · exact .inl (by rw [upd_ne (ne _ q fun z => ho.nl.2.1 _ z.symm)]; exact q)
    · exact .inr ⟨od, by rw [upd_ne (ne _ q fun z => ho.nl.2.2.1 _ _ z.symm)]; exact q⟩
  | z =>
    obtain ⟨od, q, d⟩ := q
    exact ⟨od, by rw [upd_ne (ne _ q fun z => ho.nl.2.2.1 _ _ z.symm)]; exact q, d⟩
  | p => exact (show upd H a o' b = some (.tup xs) by rw [upd_ne (ne _ q fun z => ho.nl.2.1 _ z.symm)]; exact q)
mutual
theorem Rp.lk {m : Md} {H : Hp} {a : Addr} {o o' : HO} {kvs : List (List L2.Key × V)} (h : H a = some o) (ho : LkO kvs o) : ∀ (d : PyData) (v : V), Rp m H v d → Rp m (upd H a o') v d
  | .none, _, q => by cases q; exact .non
  | .bool b, _, q => by cases q; exact .bl b
  | .int i, _, q => by cases q; exact .int i
  | .str x, _, q => by cases q; exact .str x
  | .list ds, _, q => by
    cases q with
    | lst h1 h2 => exact .lst (by rw [upd_ne (fun z => by rw [z, h] at h1; exact ho.nl.1 _ (Option.some.inj h1))]; exact h1) (RpL.lk h ho ds _ h2)
  | .tuple ds, _, q => by
    cases q with
    | tup h1 h2 => exact .tup (h1.lk h ho) (RpL.lk h ho ds _ h2)
  | .dict _, _, q => by cases q
theorem RpL.lk {m : Md} {H : Hp} {a : Addr} {o o' : HO} {kvs : List (List L2.Key × V)} (h : H a = some o) (ho : LkO kvs o) : ∀ (ds : List PyData) (vs : List V), RpL m H vs ds → RpL m (upd H a o') vs ds
  | [], _, q => by cases q; exact .nil
  | d :: ds, _, q => by
    cases q with
    | cons h1 h2 => exact .cons (Rp.lk h ho d _ h1) (RpL.lk h ho ds _ h2)
end
theorem EnR.lk (h : H a = some o) (ho : LkO kvs o) (ho' : LkO kvs o') : ∀ {e : En} {v : V}, (∀ ks, e ≠ .t ks) → EnR H e v → EnR (upd H a o') e v
  | .no, _, _, _ => True.intro
  | .m _ d, _, _, q => Rp.lk h ho d _ q
  | .k _ ps, _, _, q => by
    obtain ⟨b, kv, rfl, h1, h2⟩ := q
    exact ⟨b, kv, rfl, by rw [upd_ne (fun z => by rw [z, h] at h1; exact ho.nl.2.2.2.1 _ (Option.some.inj h1))]; exact h1, Paired.mapP h2 fun _ _ ⟨x, y⟩ => ⟨x, Rp.lk h ho _ _ y⟩⟩
  | .t ks, _, n, _ => absurd rfl (n ks)
  | .r ks, _, _, q => by
    obtain ⟨b, kv, rfl, h1, h2⟩ := q
    by_cases e : b = a
    · subst e
      have ek : kv = kvs := by
        rcases h1 with h1 | ⟨od, h1⟩ <;> rw [h] at h1 <;> rcases ho with rfl | ⟨od', rfl⟩ <;> cases h1 <;> rfl
      subst ek
      exact ⟨b, kv, rfl, ho'.elim (fun z => .inl (by rw [upd_same, z])) fun ⟨od, z⟩ => .inr ⟨od, by rw [upd_same, z]⟩, h2⟩
    · exact ⟨b, kv, rfl, h1.elim (fun z => .inl (by rw [upd_ne e]; exact z)) fun ⟨od, z⟩ => .inr ⟨od, by rw [upd_ne e]; exact z⟩, h2⟩
  | .v _, _, _, q => q
  | .s _ _, _, _, q => by
    obtain ⟨b, rfl, h1⟩ := q
    rcases h1 with (h1 | ⟨od, h1⟩) | h1
    · exact ⟨b, rfl, .inl (.inl (by rw [upd_ne (fun z => by rw [z, h] at h1; rcases ho with rfl | ⟨_, rfl⟩ <;> cases h1)]; exact h1))⟩
    · exact ⟨b, rfl, .inl (.inr ⟨od, by rw [upd_ne (fun z => by rw [z, h] at h1; rcases ho with rfl | ⟨_, rfl⟩ <;> cases h1)]; exact h1⟩)⟩
    · exact ⟨b, rfl, .inr h1⟩
theorem Fit.lk (h : H a = some o) (ho : LkO kvs o) (ho' : LkO kvs o') : ∀ {σ : L2.St} {env : List En}, (∀ e ∈ env, ∀ ks, e ≠ .t ks) → Fit H σ env → Fit (upd H a o') σ env
  | _, _, _, .nil => .nil
  | _, _, n, .no f => .no (f.lk h ho ho' fun e he => n e (List.mem_cons_of_mem _ he))
  | _, _, n, .cons r f => .cons (r.lk h ho ho' (n _ List.mem_cons_self)) (f.lk h ho ho' fun e he => n e (List.mem_cons_of_mem _ he))
theorem hide_upd_out {S : List Addr} (n : a ∉ S) : hide S (upd H a o) = upd (hide S H) a o := by
  funext b
  by_cases e : b = a
  · subst e; rw [upd_same, hide_out n, upd_same]
  · rw [upd_ne e]
    by_cases hb : b ∈ S
    · rw [hide_in hb, hide_in hb]
    · rw [hide_out hb, hide_out hb, upd_ne e]
theorem tabs_lk {T : List (Addr × Str)} (t : Tabs T H) (h : H a = some o) (ho : LkO kvs o) : Tabs T (upd H a o') := fun q hq => by
  obtain ⟨ps, h1, h2, h3⟩ := t q hq
  refine ⟨ps, by rw [upd_ne (fun z => by rw [z, h] at h1; exact ho.nl.2.2.2.2 _ (Option.some.inj h1))]; exact h1, h2, fun pos cv hc => ?_⟩
  obtain ⟨c, e1, e2⟩ := h3 pos cv hc
  exact ⟨c, e1, by
    rw [upd_ne (fun z => ?_)]
    · exact e2
    · rw [z, h] at e2
      rcases ho with rfl | ⟨od, rfl⟩ <;> unfold CodeO at e2 <;> cases e2⟩
theorem At.lk {T : List (Addr × Str)} {S : List Addr} {σ : L2.St} {env : List En} (c : At T S H σ env) (n : a ∉ S) (h : H a = some o) (ho : LkO kvs o) (ho' : LkO kvs o') (ne : ∀ e ∈ env, ∀ ks, e ≠ .t ks) : At T S (upd H a o') σ env := by
  refine ⟨fun s hs => ?_, tabs_lk c.tab h ho, ?_⟩
  · rw [upd_ne (fun z => n (by rw [← z]; exact hs))]; exact c.dom s hs
  · rw [hide_upd_out n]
    exact c.fit.lk (by rw [hide_out n]; exact h) ho ho' ne
theorem Own.lk {S : List Addr} {p : Addr} {ds : List PyData} (q : Own m S H p ds) (n : a ∉ S) (h : H a = some o) (ho : LkO kvs o) : Own m S (upd H a o') p ds := by
  obtain ⟨acc, h1, h2⟩ := q
  exact ⟨acc, by rw [upd_ne (fun z => by rw [z, h] at h1; exact ho.nl.1 _ (Option.some.inj h1))]; exact h1, by rw [hide_upd_out n]; exact RpL.lk (by rw [hide_out n]; exact h) ho _ _ h2⟩
end
section
variable {T : List (Addr × Str)} {S : List Addr} {H : Hp} {σ : L2.St} {env : List En} {K : PySem.W.Frag} {tu : TS} {Dk : Ends} {m : Md}
theorem sd_forKeys {i j : Nat} {p : Addr} {ks : List (List Str)} {E : Nat → List En} {acc : Nat → List PyData} (c : At T S H σ env) (he : env[i]? = some (.t ks)) (hE : env.set i (.r ks) = E 0) (hp : p ∈ S) (o : Own m S H p (acc 0))
    (ne : ∀ k, ∀ e ∈ E k, ∀ ks, e ≠ .t ks)
    (turn : ∀ k (hk : k < ks.length) σ1 H1, At T S H1 σ1 ((E k).set j (.m .p (eT ks[k]))) → Own m S H1 p (acc k) → ∀ (rt : VK) (bk Nx : L2.St → Hp → Prop), (∀ σ2 H2, Gm T [p] H1 H2 → At T S H2 σ2 (E (k + 1)) → Own m S H2 p (acc (k + 1)) → Nx σ2 H2) → tu { nx := Nx, rt := rt, bk := bk, ct := Nx } σ1 H1)
    (fin : ∀ σ' H', Gm T [p] H H' → At T S H' σ' (E ks.length) → Own m S H' p (acc ks.length) → Dk.nx σ' H') : tLock (tFor (iKeys (tVar i)) (gName j) tu) Dk σ H := by
  obtain ⟨v, hv, a, kvs, rfl, ha, hk⟩ := c.get he (by intro z; cases z)
  have na : a ∉ S := fun z => by rw [hide_in z] at ha; cases ha
  have ha : H a = some (.dT kvs) := by rw [hide_out na] at ha; exact ha
  have lk : kvs.length = ks.length := by
    have := congrArg List.length hk
    rw [List.length_map, List.length_map] at this
    exact this
  have ap : a ≠ p := fun z => na (by rw [z]; exact hp)
  have hs : ∀ x ∈ [p], x ∈ S := fun x hx => by rw [List.mem_singleton.mp hx]; exact hp
  refine ⟨a, _, ha, True.intro, fun od => ?_⟩
  have l1 : LkO kvs (.dT kvs) := .inl rfl
  have l2 : LkO kvs (.frz od (.dT kvs)) := .inr ⟨od, rfl⟩
  have r0 : EnR (hide S H) (.r ks) (.ref a) := ⟨a, kvs, rfl, .inl (by rw [hide_out na]; exact ha), hk⟩
  have c0 : At T S H σ (E 0) := by rw [← hE]; exact ⟨c.dom, c.tab, c.fit.put r0 i hv⟩
  have cL := c0.lk (o' := .frz od (.dT kvs)) na ha l1 l2 (ne 0)
  have oL := o.lk (o' := .frz od (.dT kvs)) na ha l1
  generalize hHL : upd H a (.frz od (.dT kvs)) = HL at cL oL ⊢
  have hLa : HL a = some (.frz od (.dT kvs)) := by rw [← hHL, upd_same]
  refine ⟨.ref a, hv, a, od, rfl, .inr ⟨kvs, hLa, fun k n σ' H' => n = ks.length - k ∧ k ≤ ks.length ∧ Gm T [p] HL H' ∧ At T S H' σ' (E k) ∧ Own m S H' p (acc k), ⟨_, rfl, Nat.zero_le _, Gm.refl cL.tab, cL, oL⟩, ?_⟩⟩
  rintro k n σ' H' ⟨rfl, hkl, g, c2, o2⟩
  have hHa : H' a = some (.frz od (.dT kvs)) := g.ext _ _ (fun z => ap (List.mem_singleton.mp z)) hLa fun ps z => by cases z
  by_cases hlt : k < ks.length
  · refine .inr ⟨⟨hHa, by omega⟩, fun σ2 H2 => k + 1 ≤ ks.length ∧ Gm T [p] HL H2 ∧ At T S H2 σ2 (E (k + 1)) ∧ Own m S H2 p (acc (k + 1)), fun σ2 H2 q => ⟨_, by omega, rfl, q⟩, fun x H3 hy => ?_⟩
    obtain ⟨rfl, kk, vv, q, hq, rfl, hqt⟩ := hy
    have e1 : kk = (ks[k]'hlt).map Sum.inr := by
      have z : (kvs.map (·.1))[k]? = some kk := by rw [List.getElem?_map, hq]; rfl
      rw [hk, List.getElem?_map, List.getElem?_eq_getElem hlt] at z
      exact (Option.some.inj z).symm
    rw [e1, kV_strs] at hqt
    have nq : q ∉ S := fun z => by
      obtain ⟨u, hu, nu⟩ := c2.dom q z
      rw [hqt] at hu
      exact nu.2 _ (Option.some.inj hu).symm
    have rq : Rp .p (hide S H3) (.ref q) (eT ks[k]) := Rp.tup (show hide S H3 q = _ by rw [hide_out nq]; exact hqt) (RpL.ofStrs _)
    exact turn k hlt _ H3 (c2.set (e := .m .p (eT ks[k])) rq j) o2 _ _ _ fun σ4 H4 g4 c4 o4 => ⟨hlt, g.trans g4, c4, o4⟩
  · have e : k = ks.length := by omega
    subst e
    refine .inl ⟨⟨hHa, by omega⟩, hHa, fin σ' _ ⟨fun b u n hb nt => ?_, tabs_lk c2.tab hHa l2⟩ (c2.lk na hHa l2 l1 (ne _)) (o2.lk na hHa l2)⟩
    by_cases e : b = a
    · subst e; rw [upd_same]; rw [ha] at hb; exact hb
    · rw [upd_ne e]
      exact g.ext b u n (by rw [← hHL, upd_ne e]; exact hb) nt
end
end K28
set_option Elab.async false
set_option linter.all false
set_option maxRecDepth 100000
set_option maxHeartbeats 4000000
/-! whole_kept -/
namespace K28
open PySem PySem.Spec PyProof.Rows L2 LamX PySem.W
theorem setsOf_sub : ∀ n (l : List Str), l.length = n → ∀ s ∈ setsOf l, ∀ x ∈ s, x ∈ l := by
  intro n
  induction n with
  | zero => intro l h s hs x hx; rw [List.length_eq_zero_iff.mp h] at hs; rw [List.mem_singleton.mp hs] at hx; cases hx
  | succ n ih =>
    intro l h s hs x hx
    rcases List.eq_nil_or_concat l with z | ⟨l', y, rfl⟩
    · rw [z] at h; cases h
    · rw [List.concat_eq_append] at h hs ⊢
      have h' : l'.length = n := by simpa using h
      rw [setsOf_snoc] at hs
      rcases List.mem_append.mp hs with z | z
      · exact List.mem_append_left _ (ih l' h' s z x hx)
      · obtain ⟨w, hw, rfl⟩ := List.mem_map.mp z
        rcases List.mem_append.mp hx with z | z
        · exact List.mem_append_left _ (ih l' h' w hw x z)
        · rw [List.mem_singleton.mp z]; exact List.mem_append_right _ (List.mem_singleton.mpr rfl)
theorem snoc_inj {x y : List Str} {n : Str} (h : x ++ [n] = y ++ [n]) : x = y := List.append_cancel_right h
theorem setsOf_nodup : ∀ n (l : List Str), l.length = n → l.Nodup → (setsOf l).Nodup := by
  intro n
  induction n with
  | zero => intro l h _; rw [List.length_eq_zero_iff.mp h]; exact List.nodup_cons.mpr ⟨by simp, List.nodup_nil⟩
  | succ n ih =>
    intro l h nd
    rcases List.eq_nil_or_concat l with z | ⟨l', y, rfl⟩
    · rw [z] at h; cases h
    · rw [List.concat_eq_append] at h nd ⊢
      have h' : l'.length = n := by simpa using h
      obtain ⟨n1, n2, n3⟩ := List.nodup_append.mp nd
      rw [setsOf_snoc]
      have i1 := ih l' h' n1
      refine List.nodup_append.mpr ⟨i1, ?_, fun a ha b hb e => ?_⟩
      · exact List.pairwise_map.mpr (i1.imp fun hne z => hne (snoc_inj z))
      · obtain ⟨w, _, rfl⟩ := List.mem_map.mp hb
        have hy : y ∈ a := by rw [e]; exact List.mem_append_right _ (List.mem_singleton.mpr rfl)
        exact n3 y (setsOf_sub _ l' rfl a ha y hy) y (List.mem_singleton.mpr rfl) rfl
theorem keptSets_nodup {ps : List (Str × List Str)} (nd : (names1 ps).Nodup) : (keptSets ps).Nodup :=
  ((sortK_perm false _).nodup_iff.mpr (setsOf_nodup _ _ rfl ((sortS_perm _).nodup_iff.mpr nd))).filter _
def wholeB (names : List Str) (kept : List (List Str)) (s : List Str) : Bool := !(((names.filter fun n => !decide (n ∈ s)).map fun n => decide (sortS (s ++ [n]) ∈ kept)).any id)
def sortL (rows : List (List Str)) : List (List Str) := rows.mergeSort (dataLe false eT)
theorem sortL_map (rows : List (List Str)) : (rows.map eT).mergeSort (dataLe false id) = (sortL rows).map eT :=
  (sort_maps (r := dataLe false eT) (s := dataLe false id) eT fun _ _ _ _ => rfl).symm
theorem sortL_perm (l : List (List Str)) : (sortL l).Perm l := List.mergeSort_perm _ _
def wholeSets (ps : List (Str × List Str)) : List (List Str) := (keptSets ps).filter (wholeB (sortS (names1 ps)) (keptSets ps))
def R_whole : List En → En → Prop := fun es e => ∃ m B ps, es = [.m m B] ∧ BookD B ps ∧ BookOk ps ∧ ps.length ≤ 10 ∧ (wholeSets ps = [[]] ∨ ∀ s ∈ wholeSets ps, s ≠ []) ∧ e = .m .p (.list ((sortL (wholeSets ps)).map eT))
theorem alike_rows (l : List (List Str)) : AllAlike (l.map eT) := AllAlike.of fun a b => alike_eT a b
theorem depth_eT (s : List Str) : (eT s).depth ≤ 60 := by rw [PyData.depth, depth_strs]; decide
/-- the promise with a result that none has seen -/
def PrF (T : List (Addr × Str)) (R : List En → En → Prop) : Sp := fun vs H Q _ => ∃ S es e, Dom S H ∧ Tabs T H ∧ EnL (hide S H) vs es ∧ R es e ∧ ∀ p H', Gd T H H' → Nw H p → p ∉ S → EnR (hide S H') e (.ref p) → Q (.ref p) H'
theorem PrF.of {T : List (Addr × Str)} {R : List En → En → Prop} (vs : List V) (H : Hp) (Q : VK) (E : XK) (h : PrR T R vs H Q E) : PrF T R vs H Q E :=
  let ⟨S, es, e, a, b, c, d, q⟩ := h; ⟨S, es, e, a, b, c, d, fun p H' g _ _ r => q _ H' g r⟩
theorem sd_retSortF {T : List (Addr × Str)} {S : List Addr} {H : Hp} {σ : L2.St} {env : List En} {K : PySem.W.Frag} {te : TE} {D : Ends} {m : Md} {ds : List PyData} (c : At T S H σ env) (h : ED T env te (.m m (.list ds))) (hal : AllAlike ds) (hk : Sortable ds ∨ (ds.length ≤ 1 ∧ ∀ d ∈ ds, d ≠ .none)) (hd : ∀ d ∈ ds, d.depth ≤ 60)
    (k : ∀ p H', Gd T H H' → Nw H p → p ∉ S → EnR (hide S H') (.m m (.list (ds.mergeSort (dataLe false id)))) (.ref p) → D.rt (.ref p) H') : tRet (tCB (rSortG K) (tCons te tNil)) D σ H := h S H σ c _ fun v H1 g1 r1 => by
  obtain ⟨a, xs, rfl, h1, h2⟩ := Rp.listInv (show Rp m _ v _ from r1)
  exact ⟨a, xs, ds, rfl, .inl (SqL.of (hide_le _ _ h1 fun ps z => by cases z)), (h2.up hide_le).dp, hal, hk, hd, fun p hp => k p _ (g1.trans (Gd.new g1.tab hp)) (Nw.down g1 (Nw.of hp)) ((c.up g1).dom.nin hp) (new_lst (c.up g1).dom hp (h2.sort id))⟩
section
variable {P : Program} {w : World} {K : PySem.W.Frag} {mg : Str → Option Value} {base : Heap} {T : List (Addr × Str)}
theorem ok_whole_keptF (B : Blt mg) {f f1 f2 : Addr} {fd fd1 fd2 : FuncData} (F : Fun K "whole_kept" "whole_kept" s_whole_kept f fd) (C_lists_table : Cal P w K mg base "lists_table" 5 ["book"] (PrR T R_table) f1 fd1) (C_kept_sets : Cal P w K mg base "kept_sets" 8 ["book"] (PrR T R_kept) f2 fd2) :
    FnOk P w K mg base CX0 9 f fd ["book"] (PrF T R_whole) := by
  refine F.ok sc_whole_kept (fun vs H Q E h => by obtain ⟨_, _, _, _, _, r, ⟨_, _, _, h, _⟩, _⟩ := h; rw [r.length, h]; rfl) (fun cdv A outer s H vs Q E hr h => ?_)
  obtain ⟨S, es, e, dom, tab, r, ⟨m, Bk, ps, rfl, hB, hO, hl, hW, rfl⟩, q⟩ := h
  have c := at_start (N := ["book", "names", "found", "some", "every", "name"]) dom tab r
  have hu := hu_of hr
  have hu0 := Nat.lt_of_succ_lt hu
  have nd : (names1 ps).Nodup := by obtain ⟨_, _, _, _, _, z⟩ := hB; exact z
  have kl := keptSets_len hl
  have nl : (sortS (names1 ps)).length ≤ 10 := by rw [names1_length]; exact hl
  refine ⟨_, (pss_cons (ps_par (i := 1) (j := 2) (by rfl) sc_whole_kept.nd rfl rfl (by decide) rfl rfl (pa_cons (pe_callB (call_sortedD rfl) (by rfl) B.sorted bt_sorted (pa_cons (pe_call C_lists_table.ok (hr.mono (by decide)) (by rfl) C_lists_table.g C_lists_table.kp C_lists_table.b .nil pass0 (pa_cons (pv 0) pa_nil)) pa_nil)) (pa_cons (pe_lst pa_nil) pa_nil)) (by rfl))
    (pss_cons (ps_set (i := 4) sc_whole_kept.nd rfl (.inr rfl) (pe_dcT (own := [("some", 3)]) hu0 (by rfl) sc_whole_kept.nd (pi_listK K (pe_call C_kept_sets.ok (hr.mono (by decide)) (by rfl) C_kept_sets.g C_kept_sets.kp C_kept_sets.b .nil pass0 (pa_cons (pv 0) pa_nil))) (blkOk_by (N := ["book", "names", "found", "some", "every", "name"]) (sc := defScope s_whole_kept) (by decide +kernel)) (fun _ _ _ _ _ => (pg_name (i := 3) sc_whole_kept.nd rfl (by first | exact .inl rfl | exact .inr rfl))) (fun _ _ _ _ _ => pts_nil) (fun _ _ _ _ _ => (pv 3)) (fun _ _ _ _ _ => pe_bl)))
    (pss_cons (ps_lock (ps_for PassesOwn.never rfl (pi_keys (pv 4)) (pg_name (i := 3) sc_whole_kept.nd rfl (.inr rfl))
      (pss_one (ps_if (pt_not (pt_val (pe_callB (cr_anyK K rfl) (by rfl) B.any bt_any (pa_cons (pe_lc (own := [("name", 5)]) (by rfl) sc_whole_kept.nd (pi_listK K (pv 1)) (blkOk_by (N := ["book", "names", "found", "some", "every", "name"]) (sc := defScope s_whole_kept) (by decide +kernel)) (fun _ _ _ _ _ => (pg_name (i := 5) sc_whole_kept.nd rfl (by first | exact .inl rfl | exact .inr rfl))) (fun _ _ _ _ _ => (pts_one (pt_cmpR (op_niK K) (pv 5) (pv 3) (by rfl)))) (fun _ _ _ _ _ => (pe_cmp (pc_din hu (pe_callTy (call_tupK K) (by rfl) B.tuple bt_tuple (pa_cons (pe_callB (cr_sortK K hr.units) (by rfl) B.sorted bt_sorted (pa_cons (pe_tup (pa_starK K (pv 3) (pa_cons (pv 5) pa_nil))) pa_nil)) pa_nil)) (pv 4)) (by rfl)))) pa_nil))))
        (pss_one (ps_expr (pe_bm PySem.F.plainAttrs_list PySem.F.slot_list_append PySem.F.type_list_append mt_append (pv 2) (pa_cons (pv 3) pa_nil))))
        pss_nil))))
    (pss_one (ps_ret (pe_callB (cr_sortK K hr.units) (by rfl) B.sorted bt_sorted (pa_cons (pv 2) pa_nil))))))), ?_⟩
  refine sd_parOwn (m := .p) c (e := .d (eL (sortS (names1 ps)))) (ED.is (ed_sortD (m' := .any) (ed_call (en_one (ed_var (e := .m m Bk))) ⟨m, Bk, ps, rfl, hB, rfl⟩) (by rw [List.length_map]; exact hO.len)) (by rw [List.map_map]; rfl)) fun p σ1 H1 g1 nw np c1 o1 => ?_
  refine sd_set c1 (e := .t (keptSets ps)) (ed_dcT (ev := .m .any (.bool true)) (ed_call (en_one (ed_var (e := .m m Bk))) ⟨m, Bk, ps, rfl, hB, hO, hl, rfl⟩) (by decide) (by have := kl.1; omega) (keptSets_nodup nd) (fun r hr => ed_var) (fun r hr => ed_bl)) fun σ2 H2 g2 c2 => ?_
  refine sd_forKeys (ks := keptSets ps) (E := fun _ => [.m m Bk, .d (eL (sortS (names1 ps))), .v (.ref p), .no, .r (keptSets ps), .no]) (acc := fun k => (((keptSets ps).take k).filter (wholeB (sortS (names1 ps)) (keptSets ps))).map eT) c2 rfl rfl List.mem_cons_self (o1.up g2) (fun k e he ks => ?_) (fun k hk σ3 H3 c3 o3 rt bk Nx nx => ?_) fun σ4 H4 g4 c4 o4 => ?_
  · simp only [List.mem_cons, List.not_mem_nil, or_false] at he
    rcases he with rfl | rfl | rfl | rfl | rfl | rfl <;> intro z <;> cases z
  · have hs := List.getElem_mem hk
    have hsl := (kl.2 _ hs).1
    refine sd_ifE c3 (b := wholeB (sortS (names1 ps)) (keptSets ps) (keptSets ps)[k]) ?_ (fun hb H5 g5 c5 => ?_) (fun hb H5 g5 c5 => ?_)
    · refine et_not (et_B (m := .any) (ed_any (m := .any) (ED.is (ed_lcL (m' := .any) (fun n : Str => !decide (n ∈ (keptSets ps)[k])) (fun n => .bool (decide (sortS ((keptSets ps)[k] ++ [n]) ∈ keptSets ps))) (ed_var (e := .d (eL (sortS (names1 ps))))) (by decide) (by omega) (fun b hb => ?_) (fun b hb _ => ?_)) ?_)))
      · exact et_B (m := .any) (ed_niT (m := .any) (m' := .p) ed_var (ed_var (e := .m .p (eT (keptSets ps)[k]))))
      · refine ed_dinT (m := .any) (ed_tupL (m := .p) (by intro z; cases z) (ed_sortS (m := .p) (.inr (ED.is (ed_tupM (ea_starT (m := .p) (ed_var (e := .m .p (eT (keptSets ps)[k]))) (ea_one (ed_var (e := .m .any (.str b))).atS)) (by intro z; cases z) (by rw [List.length_append, List.length_map]; show (keptSets ps)[k].length + 1 ≤ _; omega)) (by unfold eT; rw [List.map_append]; rfl))))) ed_var
      · rw [List.map_map]; rfl
    · refine td_app (m := .p) c5 rfl List.mem_cons_self (o3.up g5) (ed_var (e := .m .p (eT (keptSets ps)[k]))) ?_ fun H6 g6 c6 o6 => nx _ _ (g5.gm.trans g6) (c6.forget 3) ?_
      · rw [List.length_map]
        have := List.length_filter_le (wholeB (sortS (names1 ps)) (keptSets ps)) ((keptSets ps).take k)
        have h2 := kl.1
        rw [List.length_take] at this
        omega
      · rw [List.take_add_one, List.getElem?_eq_getElem hk, Option.toList_some, List.filter_append, List.map_append, List.filter_cons, if_pos hb]
        exact o6
    · refine nx _ _ g5.gm (c5.forget 3) ?_
      rw [List.take_add_one, List.getElem?_eq_getElem hk, Option.toList_some, List.filter_append, List.filter_cons, if_neg (by rw [hb]; exact Bool.false_ne_true), List.filter_nil, List.append_nil]
      exact o3.up g5
  · rw [List.take_length] at o4
    have c5 := c4.release (i := 2) o4 np rfl
    have g0 : Gd T H H4 := Gm.gd (g1.trans g2) (fun d hd => by rw [List.mem_singleton.mp hd]; exact nw) g4
    refine sd_retSortF (m := .p) (ds := (wholeSets ps).map eT) c5 ed_var (alike_rows _) ?_ (fun d hd => ?_) fun p' H6 g6 nw6 np6 r6 => q p' H6 (g0.trans g6) (Nw.down g0 nw6) np6 (by rw [← sortL_map]; exact r6)
    · rcases hW with z | z
      · exact .inr ⟨by rw [z]; exact Nat.le_refl 1, fun d hd => by obtain ⟨w, _, rfl⟩ := List.mem_map.mp hd; intro z; cases z⟩
      · refine .inl (.inl fun d hd => ?_)
        obtain ⟨w, hw, rfl⟩ := List.mem_map.mp hd
        cases w with
        | nil => exact absurd rfl (z _ hw)
        | cons x xs => exact ⟨_, _, rfl⟩
    · obtain ⟨w, _, rfl⟩ := List.mem_map.mp hd
      exact depth_eT w
theorem ok_whole_kept {f : Addr} {fd : FuncData} (h : FnOk P w K mg base CX0 9 f fd ["book"] (PrF T R_whole)) : FnOk P w K mg base CX0 9 f fd ["book"] (PrR T R_whole) := h.imp PrF.of
end
end K28
set_option Elab.async false
set_option linter.all false
set_option maxRecDepth 100000
set_option maxHeartbeats 4000000
/-! the tub: a list of three numbers that changes -/
namespace K28
open PySem PySem.Spec PyProof.Rows L2 LamX PySem.W
def TubAt (H : Hp) (d : Addr) (N : Nat) : Prop := ∃ a b c : Int, H d = some (.lst [.int a, .int b, .int c]) ∧ 0 ≤ a ∧ 0 ≤ b ∧ 0 ≤ c ∧ c ≤ (N : Int)
theorem TubAt.up {T : List (Addr × Str)} {H H' : Hp} {d : Addr} {N : Nat} (t : TubAt H d N) (g : Gd T H H') : TubAt H' d N := let ⟨a, b, c, h, r⟩ := t; ⟨a, b, c, g.ext _ _ h (fun ps z => by cases z), r⟩
theorem TubAt.le {H : Hp} {d : Addr} {N M : Nat} (t : TubAt H d N) (h : N ≤ M) : TubAt H d M := let ⟨a, b, c, h0, h1, h2, h3, h4⟩ := t; ⟨a, b, c, h0, h1, h2, h3, by omega⟩
section
variable {T : List (Addr × Str)} {S : List Addr} {H : Hp} {σ : L2.St} {env : List En} {te ti tv : TE} {t : TT} {tu tw tz : TS} {Dk : Ends} {m m' m'' : Md} {d : Addr} {ns : List Int} {ds : List PyData} {i : Nat}
/-- seen as data, for a while -/
theorem ed_open {e : En} {Q : VK} (c : At T (d :: S) H σ env) (o : Own m (d :: S) H d ds) (nd : d ∉ S) (hv : env[i]? = some (.v (.ref d))) (h : ED T (env.set i (.m m (.list ds))) te e)
    (k : ∀ v H', Gd T H H' → EnR (hide S H') e v → At T (d :: S) H' σ env → Own m (d :: S) H' d ds → Q v H') : te σ H Q :=
  h S H σ (c.release o nd hv) _ fun v H1 g1 r1 => k v H1 g1 r1 (c.up g1) (o.up g1)
theorem sd_setO {j : Nat} {x : Int} (c : At T (d :: S) H σ env) (o : Own m (d :: S) H d ds) (nd : d ∉ S) (hv : env[i]? = some (.v (.ref d))) (h : ED T (env.set i (.m m (.list ds))) te (.m m' (.int x)))
    (k : ∀ σ' H', Gd T H H' → At T (d :: S) H' σ' (env.set j (.m m' (.int x))) → Own m (d :: S) H' d ds → tz Dk σ' H') : tSeq (tAsg te (gName j)) tz Dk σ H :=
  ed_open c o nd hv h fun v H1 g1 r1 c1 o1 => by
    cases (show Rp m' _ v (.int x) from r1)
    exact k _ H1 g1 (c1.set (e := .m m' (.int x)) (Rp.int x) j) o1
theorem td_setO {j : Nat} {x : Int} (c : At T (d :: S) H σ env) (o : Own m (d :: S) H d (ns.map .int)) (nd : d ∉ S) (hv : env[i]? = some (.v (.ref d))) (hx : ED T (env.set i (.m m (.list (ns.map .int)))) tv (.m m' (.int x)))
    (hk : ED T (env.set i (.m m (.list (ns.map .int)))) ti (.m m'' (.int (j : Int)))) (hj : j < ns.length)
    (k : ∀ H', Gm T [d] H H' → At T (d :: S) H' σ env → Own m (d :: S) H' d ((ns.set j x).map .int) → Dk.nx σ H') : tAsg tv (gSub (tVar i) ti rSetL) Dk σ H :=
  ed_open c o nd hv hx fun v H1 g1 r1 c1 o1 => by
    cases (show Rp m' _ v (.int x) from r1)
    refine ⟨_, c1.get' hv, ed_open c1 o1 nd hv hk fun u H2 g2 r2 c2 o2 => ?_⟩
    cases (show Rp m'' _ u (.int (j : Int)) from r2)
    obtain ⟨acc, h1, h2⟩ := o2
    have e := RpL.ints h2
    subst e
    refine ⟨d, _, (j : Int), j, rfl, rfl, h1, ?_, ?_⟩
    · unfold ixN; simp [hj]
    · have g3 : Gm T [d] H2 (upd H2 d (.lst ((ns.map V.int).set j (.int x)))) := Gm.set c2.tab List.mem_cons_self h1
      refine k _ (((g1.trans g2).gm).trans g3) (c2.mv g3 (fun y hy => by rw [List.mem_singleton.mp hy]; exact List.mem_cons_self) (c2.dom.set (nt_lst _))) ⟨_, upd_same, ?_⟩
      rw [← List.map_set]
      exact RpL.ofInts _
theorem sd_ifO {b : Bool} (c : At T (d :: S) H σ env) (o : Own m (d :: S) H d ds) (nd : d ∉ S) (hv : env[i]? = some (.v (.ref d))) (h : ET T (env.set i (.m m (.list ds))) t b)
    (h1 : b = true → ∀ H', Gd T H H' → At T (d :: S) H' σ env → Own m (d :: S) H' d ds → tu { Dk with nx := tz Dk } σ H') (h2 : b = false → ∀ H', Gd T H H' → At T (d :: S) H' σ env → Own m (d :: S) H' d ds → tw { Dk with nx := tz Dk } σ H') : tSeq (tIfS t tu tw) tz Dk σ H :=
  h S H σ (c.release o nd hv) _ fun H1 g1 => by
    cases b with
    | true => exact h1 rfl H1 g1 (c.up g1) (o.up g1)
    | false => exact h2 rfl H1 g1 (c.up g1) (o.up g1)
theorem sd_retO {x : Int} (c : At T (d :: S) H σ env) (o : Own m (d :: S) H d ds) (nd : d ∉ S) (hv : env[i]? = some (.v (.ref d))) (h : ED T (env.set i (.m m (.list ds))) te (.m m' (.int x)))
    (k : ∀ H', Gd T H H' → At T (d :: S) H' σ env → Own m (d :: S) H' d ds → Dk.rt (.int x) H') : tRet te Dk σ H :=
  ed_open c o nd hv h fun v H1 g1 r1 c1 o1 => by
    cases (show Rp m' _ v (.int x) from r1)
    exact k H1 g1 c1 o1
end
section
variable {T : List (Addr × Str)} {env : List En} {K : PySem.W.Frag} {te ta tb : TE} {m m' : Md}
theorem ed_mul {i j : Int} (ha : ED T env ta (.m m (.int i))) (hb : ED T env tb (.m m' (.int j))) (hc : CMul i j) : ED T env (tOp (rI CMul fun i j => .int (i * j)) ta tb) (.d (.int (i * j))) := ed_opI ha hb hc fun _ => Rp.int _
theorem ed_mod {i j : Int} (ha : ED T env ta (.m m (.int i))) (hb : ED T env tb (.m m' (.int j))) (hc : 0 < j) : ED T env (tOp (rI (fun _ j => 0 < j) fun i j => .int (i % j)) ta tb) (.d (.int (i % j))) := ed_opI ha hb hc fun _ => Rp.int _
theorem ed_fdiv {i j : Int} (ha : ED T env ta (.m m (.int i))) (hb : ED T env tb (.m m' (.int j))) (hc : CDiv i j) : ED T env (tOp (rI CDiv fun i j => .int (i / j)) ta tb) (.d (.int (i / j))) := ed_opI ha hb hc fun _ => Rp.int _
theorem ed_int1 {i : Int} (h : ED T env te (.m m (.int i))) : ED T env (tCB (fun xs H Q => (∃ i, xs = [.int i] ∧ Q (.int i) H) ∨ ∃ k, xs = [.bl k] ∧ Q (.int (if k then 1 else 0)) H) (tCons te tNil)) (.d (.int i)) := fun S H σ c Q q => h S H σ c _ fun v H1 g1 r1 => by
  cases (show Rp m _ v (.int i) from r1)
  exact .inl ⟨i, rfl, q _ H1 g1 (Rp.int i)⟩
theorem ed_intB {b : Bool} (h : ED T env te (.m m (.bool b))) : ED T env (tCB (fun xs H Q => (∃ i, xs = [.int i] ∧ Q (.int i) H) ∨ ∃ k, xs = [.bl k] ∧ Q (.int (if k then 1 else 0)) H) (tCons te tNil)) (.d (.int (if b then 1 else 0))) := fun S H σ c Q q => h S H σ c _ fun v H1 g1 r1 => by
  cases (show Rp m _ v (.bool b) from r1)
  exact .inr ⟨b, rfl, q _ H1 g1 (Rp.int _)⟩
theorem ed_abs {i : Int} (h : ED T env te (.m m (.int i))) : ED T env (tCB (fun xs H Q => ∃ i, xs = [.int i] ∧ Q (.int (if i < 0 then -i else i)) H) (tCons te tNil)) (.d (.int (if i < 0 then -i else i))) := fun S H σ c Q q => h S H σ c _ fun v H1 g1 r1 => by
  cases (show Rp m _ v (.int i) from r1)
  exact ⟨i, rfl, q _ H1 g1 (Rp.int _)⟩
theorem ed_min2 {i j : Int} (ha : ED T env ta (.m m (.int i))) (hb : ED T env tb (.m m' (.int j))) : ED T env (tCB (fun xs H Q => ∃ i j, xs = [.int i, .int j] ∧ Q (.int (if j < i then j else i)) H) (tCons ta (tCons tb tNil))) (.d (.int (if j < i then j else i))) := fun S H σ c Q q =>
  ha S H σ c _ fun v H1 g1 r1 => hb S H1 σ (c.up g1) _ fun u H2 g2 r2 => by
    cases (show Rp m _ v (.int i) from r1)
    cases (show Rp m' _ u (.int j) from r2)
    exact ⟨i, j, rfl, q _ H2 (g1.trans g2) (Rp.int _)⟩
theorem ed_cmp {g : Int → Int → Bool} {i j : Int} (ha : ED T env ta (.m m (.int i))) (hb : ED T env tb (.m m' (.int j))) : ED T env (tOp (rI0 fun i j => .bl (g i j)) ta tb) (.d (.bool (g i j))) := ed_opI0 ha hb fun _ => Rp.bl _
end
end K28
set_option Elab.async false
set_option linter.all false
set_option maxRecDepth 100000
set_option maxHeartbeats 4000000
/-! the law's draws: take, of, pick -/
namespace K28
open PySem PySem.Spec PyProof.Rows L2 LamX PySem.W
def sp_take (T : List (Addr × Str)) : Sp := fun vs H Q _ => ∃ (d : Addr) (N : Nat) (top : Int), vs = [V.ref d, V.int top] ∧ TubAt H d N ∧ N ≤ 1000000 ∧ 0 < top ∧ top ≤ 1000 ∧ Tabs T H ∧ ∀ (r : Int) (H' : Hp), 0 ≤ r → r < top → Gm T [d] H H' → TubAt H' d (N + 1) → Q (.int r) H'
def sp_of (T : List (Addr × Str)) : Sp := fun vs H Q _ => ∃ (d a : Addr) (N : Nat) (xs : List V), vs = [V.ref d, V.ref a] ∧ TubAt H d N ∧ N ≤ 1000000 ∧ H a = some (.lst xs) ∧ a ≠ d ∧ xs ≠ [] ∧ xs.length ≤ 1000 ∧ Tabs T H ∧ ∀ (i : Nat) (v : V) (H' : Hp), xs[i]? = some v → Gm T [d] H H' → TubAt H' d (N + 1) → Q v H'
def sp_pick (T : List (Addr × Str)) : Sp := fun vs H Q _ => ∃ (d a : Addr) (N much : Nat) (xs : List V), vs = [V.ref d, V.ref a, V.int (much : Int)] ∧ TubAt H d N ∧ N ≤ 900000 ∧ H a = some (.lst xs) ∧ a ≠ d ∧ xs.length ≤ 1000 ∧ much ≤ 1000 ∧ Tabs T H ∧
  ∀ (r : Addr) (ys zs : List V) (H' : Hp), (ys ++ zs).Perm xs → ys.length = min much xs.length → Gm T [d] H H' → TubAt H' d (N + ys.length) → H' r = some (.lst ys) → Nw H r → Q (.ref r) H'
section
variable {P : Program} {w : World} {K : PySem.W.Frag} {mg : Str → Option Value} {base : Heap} {T : List (Addr × Str)}
theorem ok_w_take (B : Blt mg) {f : Addr} {fd : FuncData} (F : Fun K "_law_take" "_law_take" s_w_take f fd) : FnOk P w K mg base CX0 1 f fd ["_law_tub", "_law_top_to"] (sp_take T) := by
  refine F.ok sc_w_take (fun vs H Q E ⟨_, _, _, h, _⟩ => by rw [h]; rfl) (fun cdv A outer s H vs Q E hr h => ?_)
  obtain ⟨d, N, top, rfl, ⟨a, b, c, hd, ha, hb, hc, hN⟩, hN6, ht0, ht1, tab, q⟩ := h
  have dm : Dom [d] H := fun s hs => by rw [List.mem_singleton.mp hs]; exact ⟨_, hd, nt_lst _⟩
  have c0 := at_start (T := T) (S := [d]) (N := ["_law_tub", "_law_top_to", "_law_drawn", "_law_once", "_law_odd", "_law_twice"]) (es := [.v (.ref d), .m .any (.int top)]) dm tab (.cons rfl (.cons (show Rp .any _ (.int top) (.int top) from Rp.int _) .nil))
  have o0 : Own .any [d] H d ([a, b, c].map .int) := ⟨_, hd, RpL.ofInts [a, b, c]⟩
  have nd : d ∉ ([] : List Addr) := by simp
  have ixs : ∀ (ns : List Int) {env : List En} (j : Nat) (x : Int), ns[j]? = some x → env[0]? = some (.m .any (.list (ns.map .int))) → ED T env (tOp (rIxL K) (tVar 0) (tC (.int (j : Int)))) (.m .any (.int x)) := fun ns env j x hx he =>
    ed_ixL (m' := .any) (ed_var he) ed_int rfl (by rw [List.getElem?_map, hx]; rfl)
  have i0 := fun (x y z : Int) {env : List En} (he : env[0]? = some (.m .any (.list ([x, y, z].map .int)))) => ixs [x, y, z] 0 x rfl he
  have i1 := fun (x y z : Int) {env : List En} (he : env[0]? = some (.m .any (.list ([x, y, z].map .int)))) => ixs [x, y, z] 1 y rfl he
  have i2 := fun (x y z : Int) {env : List En} (he : env[0]? = some (.m .any (.list ([x, y, z].map .int)))) => ixs [x, y, z] 2 z rfl he
  refine ⟨_, (pss_cons (ps_if (pt_cmpR op_gt (pe_ix (ix_listK K) (pv 0) pe_int (fun _ _ => rfl)) pe_int (nomark _))
      (pss_cons (ps_set (i := 2) sc_w_take.nd rfl (.inl rfl) (pe_op op_mod (pe_callTy call_int1 (by rfl) B.int bt_int (pa_cons (pe_ix (ix_listK K) (pv 0) pe_int (fun _ _ => rfl)) pa_nil)) (pv 1)))
      (pss_cons (ps_asg (pe_op op_fdiv (pe_ix (ix_listK K) (pv 0) pe_int (fun _ _ => rfl)) (pv 1)) (pg_sub (pv 0) pe_int set_list))
      (pss_one (ps_ret (pv 2)))))
      pss_nil)
    (pss_cons (ps_asg (pe_op op_add (pe_ix (ix_listK K) (pv 0) pe_int (fun _ _ => rfl)) pe_int) (pg_sub (pv 0) pe_int set_list))
    (pss_cons (ps_set (i := 3) sc_w_take.nd rfl (.inl rfl) (pe_op op_mod (pe_callTy call_int1 (by rfl) B.int bt_int (pa_cons (pe_op op_mul (pe_op op_add (pe_ix (ix_listK K) (pv 0) pe_int (fun _ _ => rfl)) (pe_op op_mul pe_int (pe_ix (ix_listK K) (pv 0) pe_int (fun _ _ => rfl)))) (pe_op op_add pe_int (pe_ix (ix_listK K) (pv 0) pe_int (fun _ _ => rfl)))) pa_nil)) pe_int))
    (pss_cons (ps_set (i := 4) sc_w_take.nd rfl (.inl rfl) (pe_op op_add (pe_op op_mod (pe_callTy call_int1 (by rfl) B.int bt_int (pa_cons (pv 3) pa_nil)) pe_int) pe_int))
    (pss_cons (ps_set (i := 5) sc_w_take.nd rfl (.inl rfl) (pe_op op_mod (pe_callTy call_int1 (by rfl) B.int bt_int (pa_cons (pe_op op_mul (pe_op op_add (pe_op op_add (pv 3) (pe_ix (ix_listK K) (pv 0) pe_int (fun _ _ => rfl))) (pe_op op_fdiv (pe_ix (ix_listK K) (pv 0) pe_int (fun _ _ => rfl)) pe_int)) (pv 4)) pa_nil)) pe_int))
    (pss_one (ps_ret (pe_op op_mod (pe_callTy call_int1 (by rfl) B.int bt_int (pa_cons (pe_op op_fdiv (pe_op op_mod (pe_callTy call_int1 (by rfl) B.int bt_int (pa_cons (pe_op op_add (pe_op op_mul (pv 5) pe_int) (pv 3)) pa_nil)) pe_int) pe_int) pa_nil)) (pv 1))))))))), ?_⟩
  refine sd_ifO (i := 0) c0 o0 nd rfl (et_B (m := .any) (ed_cmp (m := .any) (m' := .any) (g := fun i j => decide (j < i)) (i0 a b c rfl) ed_int)) (fun hb0 H1 g1 c1 o1 => ?_) (fun _ H1 g1 c1 o1 => ?_)
  · refine sd_setO (i := 0) c1 o1 nd rfl (ed_mod (m := .any) (m' := .any) (ed_int1 (m := .any) (i0 a b c rfl)) ed_var ht0) fun σ2 H2 g2 c2 o2 => ?_
    refine td_setO (i := 0) (m' := .any) (j := 0) c2 o2 nd rfl (ed_fdiv (m := .any) (m' := .any) (i0 a b c rfl) ed_var ⟨ht0, by omega⟩) (ed_int (m := .any)) (by simp) fun H3 g3 c3 o3 => ?_
    refine sd_ret c3 (ed_var (e := .m .any (.int (a % top)))) fun v H4 g4 r4 => ?_
    cases (show Rp .any _ v (.int (a % top)) from r4)
    have gA : Gm T [d] H H4 := ((g1.trans g2).gm.trans g3).trans g4.gm
    refine q _ H4 (Int.emod_nonneg _ (by omega)) (Int.emod_lt_of_pos _ ht0) gA ?_
    obtain ⟨acc, h1, h2⟩ := o3.up g4
    have e := RpL.ints h2
    exact ⟨a / top, b, c, by rw [h1, e]; rfl, Int.ediv_nonneg ha (by omega), hb, hc, by omega⟩
  · refine td_setO (i := 0) (m' := .any) (j := 2) c1 o1 nd rfl (ed_add (m := .any) (m' := .any) (i2 a b c rfl) ed_int) (ed_int (m := .any)) (by simp) fun H3 g3 c3 o3 => ?_
    have c1b : (-(2 ^ 64) < (39373 : Int) + (c + 1) ∧ (39373 : Int) + (c + 1) < 2 ^ 64) := by omega
    refine sd_setO (i := 0) c3 o3 nd rfl (ed_mod (m := .any) (m' := .any) (ed_int1 (m := .any) (ed_mul (m := .any) (m' := .any) (ed_add (m := .any) (m' := .any) (i1 a b (c + 1) rfl) (ed_mul (m := .any) (m' := .any) ed_int (i2 a b (c + 1) rfl) (.inl ⟨by decide, by decide⟩))) (ed_add (m := .any) (m' := .any) ed_int (i2 a b (c + 1) rfl)) (.inr c1b))) ed_int (by decide)) fun σ4 H4 g4 c4 o4 => ?_
    refine sd_setO (i := 0) c4 o4 nd rfl (ed_add (m := .any) (m' := .any) (ed_mod (m := .any) (m' := .any) (ed_int1 (m := .any) ed_var) ed_int (by decide)) ed_int) fun σ5 H5 g5 c5 o5 => ?_
    refine sd_setO (i := 0) c5 o5 nd rfl (ed_mod (m := .any) (m' := .any) (ed_int1 (m := .any) (ed_mul (m := .any) (m' := .any) (ed_add (m := .any) (m' := .any) (ed_add (m := .any) (m' := .any) ed_var (i2 a b (c + 1) rfl)) (ed_fdiv (m := .any) (m' := .any) (i1 a b (c + 1) rfl) ed_int ⟨by decide, by decide⟩)) ed_var (.inr ⟨?_, ?_⟩))) ed_int (by decide)) fun σ6 H6 g6 c6 o6 => ?_
    · have := Int.emod_nonneg ((b + 48271 * (c + 1)) * (39373 + (c + 1)) % 2147483647) (show (40009 : Int) ≠ 0 by decide); omega
    · have := Int.emod_lt_of_pos ((b + 48271 * (c + 1)) * (39373 + (c + 1)) % 2147483647) (show (0 : Int) < 40009 by decide); omega
    refine sd_retO (i := 0) c6 o6 nd rfl (ed_mod (m := .any) (m' := .any) (ed_int1 (m := .any) (ed_fdiv (m := .any) (m' := .any) (ed_mod (m := .any) (m' := .any) (ed_int1 (m := .any) (ed_add (m := .any) (m' := .any) (ed_mul (m := .any) (m' := .any) ed_var ed_int (.inr ⟨by decide, by decide⟩)) ed_var)) ed_int (by decide)) ed_int ⟨by decide, by decide⟩)) ed_var ht0) fun H7 g7 c7 o7 => ?_
    refine q _ H7 (Int.emod_nonneg _ (by omega)) (Int.emod_lt_of_pos _ ht0) ((g1.gm.trans g3).trans ((g4.trans g5).trans (g6.trans g7)).gm) ?_
    obtain ⟨acc, h1, h2⟩ := o7
    have e := RpL.ints h2
    exact ⟨a, b, c + 1, by rw [h1, e]; rfl, ha, hb, by omega, by omega⟩
theorem ok_w_of (B : Blt mg) {f f1 : Addr} {fd fd1 : FuncData} (F : Fun K "_law_of" "_law_of" s_w_of f fd) (C_w_take : Cal P w K mg base "_law_take" 1 ["_law_tub", "_law_top_to"] (sp_take T) f1 fd1) : FnOk P w K mg base CX0 2 f fd ["_law_tub", "_law_few_so"] (sp_of T) := by
  refine F.ok sc_w_of (fun vs H Q E ⟨_, _, _, _, h, _⟩ => by rw [h]; rfl) (fun cdv A outer s H vs Q E hr h => ?_)
  obtain ⟨d, a, N, xs, rfl, ht, hN, ha, nad, hne, hz, tab, q⟩ := h
  have hpos := List.length_pos_iff.mpr hne
  refine ⟨_, (pss_one (ps_ret (pe_ix (ix_listK K) (pv 1) (pe_call C_w_take.ok (hr.mono (by decide)) (by rfl) C_w_take.g C_w_take.kp C_w_take.b .nil pass0 (pa_cons (pv 0) (pa_cons (pe_callB (call_lenK K) (by rfl) B.len bt_len (pa_cons (pv 1) pa_nil)) pa_nil))) (fun _ _ => rfl)))), ?_⟩
  refine ⟨.ref a, rfl, .ref d, rfl, .ref a, rfl, a, xs, rfl, .inl (SqL.of ha), d, N, (xs.length : Nat), rfl, ht, hN, by omega, by omega, tab, fun r H' h0 h1 g t => ?_⟩
  have ha' := g.ext a _ (fun z => nad (List.mem_singleton.mp z)) ha fun ps z => by cases z
  have hk : r.toNat < xs.length := by omega
  exact ⟨a, xs, r, _, rfl, rfl, SqL.of ha', (by
    have e := atI_nat (xs := xs) (List.getElem?_eq_getElem hk)
    rw [show ((r.toNat : Nat) : Int) = r by omega] at e
    exact e), q _ _ H' (List.getElem?_eq_getElem hk) g t⟩
theorem perm_erase {α : Type} {zs : List α} {k : Nat} {y : α} (h : zs[k]? = some y) : (y :: zs.eraseIdx k).Perm zs := by
  obtain ⟨hk, rfl⟩ := List.getElem?_eq_some_iff.mp h
  rw [List.eraseIdx_eq_take_drop_succ]
  have e : zs = zs.take k ++ zs[k] :: zs.drop (k + 1) := by rw [← List.drop_eq_getElem_cons hk, List.take_append_drop]
  exact (List.perm_middle.symm).trans (by rw [← e])
theorem ok_w_pick (B : Blt mg) {f f1 : Addr} {fd fd1 : FuncData} (F : Fun K "_law_pick" "_law_pick" s_w_pick f fd) (C_w_take : Cal P w K mg base "_law_take" 1 ["_law_tub", "_law_top_to"] (sp_take T) f1 fd1) : FnOk P w K mg base CX0 2 f fd ["_law_tub", "_law_few_so", "_law_much_so"] (sp_pick T) := by
  refine F.ok sc_w_pick (fun vs H Q E ⟨_, _, _, _, _, h, _⟩ => by rw [h]; rfl) (fun cdv A outer s H vs Q E hr h => ?_)
  obtain ⟨d, a, N, much, xs, rfl, ht, hN, ha, nad, hz, hmu, tab, q⟩ := h
  refine ⟨_, (pss_cons (ps_par (i := 3) (j := 4) (by rfl) sc_w_pick.nd rfl rfl (by decide) rfl rfl (pa_cons (pe_callTy (call_listK K) (by rfl) B.list bt_list (pa_cons (pv 1) pa_nil)) (pa_cons (pe_lst pa_nil) pa_nil)) (by rfl))
    (pss_cons (ps_for PassesOwn.never rfl (pi_range1 (by rfl) B.range (pa_cons (pe_callB (call_min2 rfl) (by rfl) B.min bt_min (pa_cons (pv 2) (pa_cons (pe_callB (call_lenK K) (by rfl) B.len bt_len (pa_cons (pv 3) pa_nil)) pa_nil))) pa_nil)) (pg_name (i := 5) sc_w_pick.nd rfl (.inl rfl))
      (pss_one (ps_expr (pe_bm PySem.F.plainAttrs_list PySem.F.slot_list_append PySem.F.type_list_append mt_append (pv 4) (pa_cons (pe_bm PySem.F.plainAttrs_list PySem.F.slot_list_pop PySem.F.type_list_pop mt_popAt (pv 3) (pa_cons (pe_call C_w_take.ok (hr.mono (by decide)) (by rfl) C_w_take.g C_w_take.kp C_w_take.b .nil pass0 (pa_cons (pv 0) (pa_cons (pe_callB (call_lenK K) (by rfl) B.len bt_len (pa_cons (pv 3) pa_nil)) pa_nil))) pa_nil)) pa_nil)))))
    (pss_one (ps_ret (pv 4))))), ?_⟩
  refine ⟨.ref a, rfl, a, xs, rfl, .inl (SqL.of ha), fun l hl => ⟨Nat.zero_le _, fun p hp => ⟨.ref l, .ref p, rfl, ?_⟩⟩⟩
  have ht0 := ht
  obtain ⟨ta, tb, tc, hd, _⟩ := ht0
  have nld : l ≠ d := (ne_of_none hd hl).symm
  have g1 : Gd T H (upd H l (.lst xs)) := Gd.new tab hl
  have g2 : Gd T (upd H l (.lst xs)) (upd (upd H l (.lst xs)) p (.lst [])) := Gd.new g1.tab hp
  have nlp : l ≠ p := fun z => by rw [← z, upd_same] at hp; cases hp
  have hp0 : H p = none := by rw [upd_ne nlp.symm] at hp; exact hp
  have npd : p ≠ d := (ne_of_none hd hp0).symm
  show tSeq _ _ _ [some (.ref d), some (.ref a), some (.int much), some (.ref l), some (.ref p), none] (upd (upd H l (.lst xs)) p (.lst []))
  generalize hH2 : upd (upd H l (.lst xs)) p (.lst []) = H2 at g2 ⊢
  have e2l : H2 l = some (.lst xs) := by rw [← hH2, upd_ne nlp, upd_same]
  have e2p : H2 p = some (.lst []) := by rw [← hH2, upd_same]
  have hmin : (if (xs.length : Int) < (much : Int) then (xs.length : Int) else (much : Int)) = ((min much xs.length : Nat) : Int) := by
    split <;> omega
  refine ⟨.int much, rfl, .ref l, rfl, l, xs, rfl, .inl (SqL.of e2l), much, (xs.length : Nat), rfl, _, rfl, by rw [hmin]; omega, by rw [hmin]; omega, ?_⟩
  rw [hmin, Int.toNat_natCast]
  have tub2 : TubAt H2 d N := by
    obtain ⟨x, y, z, h, r⟩ := ht
    exact ⟨x, y, z, by rw [← hH2, upd_ne npd.symm, upd_ne nld.symm]; exact h, r⟩
  refine ⟨fun i m σ' H' => m = min much xs.length - i ∧ i ≤ min much xs.length ∧ (∃ o, σ' = [some (.ref d), some (.ref a), some (.int much), some (.ref l), some (.ref p), o]) ∧ Gm T [d, l, p] H H' ∧ TubAt H' d (N + i) ∧ ∃ zs ys, H' l = some (.lst zs) ∧ H' p = some (.lst ys) ∧ (ys ++ zs).Perm xs ∧ ys.length = i,
    ⟨_, rfl, Nat.zero_le _, ⟨none, rfl⟩, (g1.trans g2).gm, tub2, xs, [], e2l, e2p, by simp, rfl⟩, ?_⟩
  rintro i m σ' H' ⟨rfl, hi, ⟨o, rfl⟩, g, tub, zs, ys, hzs, hys, hperm, hyl⟩
  have hlen := hperm.length_eq
  rw [List.length_append] at hlen
  by_cases hlt : i < min much xs.length
  · refine .inr ⟨hlt, fun σ' H' => i + 1 ≤ min much xs.length ∧ (∃ o, σ' = [some (.ref d), some (.ref a), some (.int much), some (.ref l), some (.ref p), o]) ∧ Gm T [d, l, p] H H' ∧ TubAt H' d (N + (i + 1)) ∧ ∃ zs ys, H' l = some (.lst zs) ∧ H' p = some (.lst ys) ∧ (ys ++ zs).Perm xs ∧ ys.length = i + 1, fun σ2 H2 q => ⟨_, by omega, rfl, q⟩, fun x H3 hy => ?_⟩
    obtain ⟨rfl, rfl⟩ := hy
    refine ⟨.ref p, rfl, .inl ⟨rfl, ys, SqL.of hys⟩, .ref l, rfl, .inl ⟨rfl, zs, SqL.of hzs⟩, .ref d, rfl, .ref l, rfl, l, zs, rfl, .inl (SqL.of hzs), d, N + i, (zs.length : Nat), rfl, tub, by omega, by omega, by omega, g.tab, fun r H4 h0 h1 g4 t4 => ?_⟩
    have e4l := g4.ext l _ (fun z => nld (List.mem_singleton.mp z)) hzs fun ps z => by cases z
    have e4p := g4.ext p _ (fun z => npd (List.mem_singleton.mp z)) hys fun ps z => by cases z
    have hk : r.toNat < zs.length := by omega
    have hix : seqIndex? r zs.length = some r.toNat := (ixN_seq (by unfold ixN; rw [if_pos h0, if_pos h1])).1
    refine ⟨l, zs, r, r.toNat, _, rfl, rfl, e4l, by omega, by omega, hix, List.getElem?_eq_getElem hk, p, ys, _, rfl, rfl, by rw [upd_ne nlp.symm]; exact e4p, by rw [sizeLine_eq]; omega, hlt, ⟨_, rfl⟩, ?_⟩
    have sub1 : ∀ x ∈ [d], x ∈ [d, l, p] := fun x hx => by rw [List.mem_singleton.mp hx]; exact List.mem_cons_self
    have gA : Gm T [d, l, p] H H4 := g.trans (g4.sub sub1)
    have gB : Gm T [d, l, p] H4 (upd H4 l (.lst (zs.eraseIdx r.toNat))) := Gm.set gA.tab (by simp) e4l
    have e5p : (upd H4 l (.lst (zs.eraseIdx r.toNat))) p = some (.lst ys) := by rw [upd_ne nlp.symm]; exact e4p
    have gC : Gm T [d, l, p] (upd H4 l (.lst (zs.eraseIdx r.toNat))) (upd (upd H4 l (.lst (zs.eraseIdx r.toNat))) p (.lst (ys ++ [zs[r.toNat]]))) := Gm.set gB.tab (by simp) e5p
    refine ⟨gA.trans (gB.trans gC), ?_, zs.eraseIdx r.toNat, ys ++ [zs[r.toNat]], by rw [upd_ne nlp, upd_same], upd_same, ?_, by rw [List.length_append, hyl]; rfl⟩
    · obtain ⟨x, y, z, h, r⟩ := t4
      exact ⟨x, y, z, by rw [upd_ne npd.symm, upd_ne nld.symm]; exact h, by omega⟩
    · rw [List.append_assoc]
      refine List.Perm.trans (List.Perm.append_left ys ?_) hperm
      exact perm_erase (List.getElem?_eq_getElem hk)
  · have e : i = min much xs.length := by omega
    subst e
    refine .inl ⟨Nat.le_refl _, .ref p, rfl, q p ys zs H' hperm hyl ⟨fun b u n hb nt => g.ext b u (fun z => ?_) hb nt, g.tab⟩ (by rw [hyl]; exact tub) hys (Nw.of hp0)⟩
    rcases List.mem_cons.mp z with z | z
    · exact n (by rw [z]; exact List.mem_cons_self)
    · rcases List.mem_cons.mp z with z | z
      · rw [z, hl] at hb; cases hb
      · rw [List.mem_singleton.mp z, hp0] at hb; cases hb
end
end K28
set_option Elab.async false
set_option linter.all false
set_option maxRecDepth 100000
set_option maxHeartbeats 4000000
/-! the law's draws: box, cells, line, tags -/
namespace K28
open PySem PySem.Spec PyProof.Rows L2 LamX PySem.W
section
variable {T : List (Addr × Str)} {S : List Addr} {H : Hp} {σ : L2.St} {env : List En}
theorem At.ownL {m : Md} {p : Addr} {i : Nat} {xs : List V} {ds : List PyData} (c : At T S H σ env) (hp : H p = none) (r : RpL m (hide S H) xs ds) : At T (p :: S) (upd H p (.lst xs)) (σ.set i (some (.ref p))) (env.set i (.v (.ref p))) ∧ Own m (p :: S) (upd H p (.lst xs)) p ds := by
  have g : Gd T H (upd H p (.lst xs)) := Gd.new c.tab hp
  have e : ExtN (hide S H) (hide (p :: S) (upd H p (.lst xs))) := by rw [hide_cons hp]; exact ExtN.refl _
  exact ⟨⟨(c.dom.ext g.ext).cons upd_same, g.tab, Fit.set (e := .v (.ref p)) rfl i (c.fit.up e)⟩, _, upd_same, r.up e⟩
end
theorem sd_retLstI {T : List (Addr × Str)} {S : List Addr} {H : Hp} {σ : L2.St} {env : List En} {ta : TA} {m : Md} {ns : List Int} {Dk : Ends} (c : At T S H σ env) (h : EA T env ta m (ns.map .int)) (hz : ns.length ≤ 100) (k : ∀ p H', Gd T H H' → Nw H p → p ∉ S → H' p = some (.lst (ns.map V.int)) → Dk.rt (.ref p) H') : tRet (tLst ta) Dk σ H :=
  h S H σ c _ fun vs H2 g2 r2 => by
    have e := RpL.ints r2
    subst e
    exact ⟨by rw [List.length_map]; exact small (by omega), fun p hp => k p _ (g2.trans (Gd.new g2.tab hp)) (Nw.down g2 (Nw.of hp)) ((c.up g2).dom.nin hp) upd_same⟩
def unS : V → Str
  | .str s => s
  | _ => default
theorem perm_unS {ys zs : List V} {l : List Str} (h : (ys ++ zs).Perm (l.map V.str)) : ys = (ys.map unS).map V.str ∧ (ys.map unS ++ zs.map unS).Perm l := by
  constructor
  · rw [List.map_map]
    refine (List.map_id ys).symm.trans (List.map_congr_left fun x hx => ?_)
    have hm : x ∈ l.map V.str := h.mem_iff.mp (List.mem_append_left _ hx)
    obtain ⟨s, _, rfl⟩ := List.mem_map.mp hm
    rfl
  · have := h.map unS
    rw [List.map_append, List.map_map] at this
    rw [show (unS ∘ V.str) = id from rfl, List.map_id] at this
    exact this
def sp_box (T : List (Addr × Str)) : Sp := fun vs H Q _ => ∃ (S : List Addr) (ns : List Int) (k : Nat), Dom S H ∧ Tabs T H ∧ EnL (hide S H) vs [.m .any (.list (ns.map .int)), .m .any (.int (k : Int))] ∧ k ≤ 1000 ∧ ∀ (p : Addr) (H' : Hp), Gd T H H' → Nw H p → p ∉ S → TubAt H' p 0 → Q (.ref p) H'
def sp_cells (T : List (Addr × Str)) (K : PySem.W.Frag) : Sp := fun vs H Q _ => ∃ (S : List Addr) (ns : List Int), Dom S H ∧ Tabs T H ∧ EnL (hide S H) vs [.s K (ns.map V.int), .m .any (.int 2)] ∧ ns.length ≤ 1000 ∧ ∀ (out : List Int) (v : V) (H' : Hp), Gd T H H' → 1 ≤ out.length → out.length ≤ 2 → EnR (hide S H') (.m .any (.list (out.map .int))) v → Q v H'
def sp_line (T : List (Addr × Str)) : Sp := fun vs H Q _ => ∃ (S : List Addr) (d : Addr) (N most : Nat) (tags : List Str), Dom S H ∧ Tabs T H ∧ d ∈ S ∧ EnL (hide S H) vs [.v (.ref d), .m .any (eL tags), .m .any (.int (most : Int))] ∧ TubAt H d N ∧ N ≤ 800000 ∧ most ≤ 20 ∧ tags.length ≤ 20 ∧
  ∀ (line rest : List Str) (v : V) (H' : Hp), (line ++ rest).Perm tags → Gm T [d] H H' → TubAt H' d (N + 21) → Dom S H' → EnR (hide S H') (.m .z (eT line)) v → Q v H'
def tags7 : List Str := ["a", "b", "gas", "rent", "tax", "x", "zzzzzzzz"]
def sp_tags (T : List (Addr × Str)) : Sp := fun vs H Q _ => ∃ (S : List Addr) (d : Addr) (N : Nat), Dom S H ∧ Tabs T H ∧ d ∈ S ∧ EnL (hide S H) vs [.v (.ref d), .m .any (.int 6)] ∧ TubAt H d N ∧ N ≤ 800000 ∧
  ∀ (tags rest : List Str) (v : V) (H' : Hp), (tags ++ rest).Perm tags7 → Gm T [d] H H' → TubAt H' d (N + 21) → Dom S H' → EnR (hide S H') (.m .any (eL tags)) v → Q v H'
section
variable {P : Program} {w : World} {K : PySem.W.Frag} {mg : Str → Option Value} {base : Heap} {T : List (Addr × Str)}
theorem ok_w_box (B : Blt mg) {f : Addr} {fd : FuncData} (F : Fun K "_law_box" "_law_box" s_w_box f fd) : FnOk P w K mg base CX0 1 f fd ["_law_script", "_law_k"] (sp_box T) := by
  refine F.ok sc_w_box (fun vs H Q E ⟨_, _, _, _, _, h, _⟩ => h.length) (fun cdv A outer s H vs Q E hr h => ?_)
  obtain ⟨S, ns, k, dom, tab, r, hk, q⟩ := h
  have c := at_start (N := ["_law_script", "_law_k", "_law_cell"]) dom tab r
  refine ⟨_, (pss_cons (ps_set (i := 2) sc_w_box.nd rfl (.inl rfl) (pe_ifExp (pt_cmpR op_lt (pv 1) (pe_callB (call_lenK K) (by rfl) B.len bt_len (pa_cons (pv 0) pa_nil)) (nomark _)) (pe_ix (ix_listK K) (pv 0) (pv 1) (fun _ _ => rfl)) pe_int))
    (pss_one (ps_ret (pe_lst (pa_cons (pe_op op_mul (pe_callB call_abs (by rfl) B.abs bt_abs (pa_cons (pv 2) pa_nil)) (pe_callTy call_int1 (by rfl) B.int bt_int (pa_cons (pe_cmpR op_ge (pe_callB call_abs (by rfl) B.abs bt_abs (pa_cons (pv 2) pa_nil)) (pe_op op_pow pe_int pe_int) (nomark _)) pa_nil))) (pa_cons (pe_op op_add (pe_op op_add (pe_op op_mod (pe_callTy call_int1 (by rfl) B.int bt_int (pa_cons (pv 2) pa_nil)) pe_int) (pe_op op_mul pe_int (pv 1))) pe_int) (pa_cons pe_int pa_nil))))))), ?_⟩
  refine sd_set c (e := .m .any (.int (ns.getD k 0))) (ed_if (b := decide ((k : Int) < (ns.length : Int))) (et_test (m := .any) (ED.is (ed_cmp (m := .any) (m' := .any) (g := fun i j => decide (i < j)) (ed_var (e := .m .any (.int (k : Int)))) (ed_lenL (m := .any) (ds := ns.map PyData.int) ed_var)) (by rw [List.length_map]))) (fun hb => ?_) (fun hb => ?_)) fun σ1 H1 g1 c1 => ?_
  · have hlt : k < ns.length := by have := of_decide_eq_true hb; omega
    refine ed_ixL (m' := .any) (ds := ns.map PyData.int) (j := k) ed_var ed_var rfl ?_
    rw [List.getElem?_map, List.getElem?_eq_getElem hlt, List.getD_eq_getElem?_getD, List.getElem?_eq_getElem hlt]; rfl
  · have hlt : ns.length ≤ k := by have := of_decide_eq_false hb; omega
    refine ED.is (ed_int (m := .any)) ?_
    rw [List.getD_eq_getElem?_getD, List.getElem?_eq_none hlt]; rfl
  · generalize ns.getD k 0 = x at c1
    refine sd_retLstI (m := .any) (ns := [(if x < 0 then -x else x) * (if decide ((1000000000000000000 : Int) ≤ (if x < 0 then -x else x)) then 1 else 0), x % 2305843009213693951 + 39373 * (k : Int) + 1050328, 0]) c1
      (ea_cons (ed_mul (m := .any) (m' := .any) (ed_abs (m := .any) ed_var) (ed_intB (m := .any) (ED.is (ed_cmp (m := .any) (m' := .any) (g := fun i j => decide (j ≤ i)) (ed_abs (m := .any) (i := x) ed_var) (ed_opI (m := .any) (m' := .any) (C := CPow) (g := fun i j => .int (i ^ j.toNat)) (i := 10) (j := 18) (e := .m .any (.int (10 ^ 18))) ed_int ed_int ⟨by decide, by decide, by decide⟩ (fun _ => Rp.int _))) rfl)) (.inr ⟨by split <;> omega, by split <;> omega⟩))
        (ea_cons (ed_add (m := .any) (m' := .any) (ed_add (m := .any) (m' := .any) (ed_mod (m := .any) (m' := .any) (ed_int1 (m := .any) (i := x) ed_var) ed_int (by decide)) (ed_mul (m := .any) (m' := .any) ed_int (ed_var (e := .m .any (.int (k : Int)))) (.inl ⟨by decide, by decide⟩))) ed_int) (ea_cons ed_int ea_nil))) (by simp) fun p H2 g2 nw np hp => ?_
    refine q p _ (g1.trans g2) (Nw.down g1 nw) np ⟨_, _, _, hp, ?_, ?_, by decide, by decide⟩
    · split <;> split <;> omega
    · have := Int.emod_nonneg x (show (2305843009213693951 : Int) ≠ 0 by decide); omega
theorem ok_w_line (B : Blt mg) {f f1 f2 : Addr} {fd fd1 fd2 : FuncData} (F : Fun K "_law_line" "_law_line" s_w_line f fd) (C_w_take : Cal P w K mg base "_law_take" 1 ["_law_tub", "_law_top_to"] (sp_take T) f1 fd1) (C_w_pick : Cal P w K mg base "_law_pick" 2 ["_law_tub", "_law_few_so", "_law_much_so"] (sp_pick T) f2 fd2) :
    FnOk P w K mg base CX0 3 f fd ["_law_tub", "_law_tags_here", "_law_most_so"] (sp_line T) := by
  refine F.ok sc_w_line (fun vs H Q E ⟨_, _, _, _, _, _, _, _, h, _⟩ => h.length) (fun cdv A outer s H vs Q E hr h => ?_)
  obtain ⟨S, d, N, most, tags, dom, tab, hd, r, ht, hN, hm, hl, q⟩ := h
  cases r with
  | cons r0 r =>
  cases r with
  | cons r1 r =>
  cases r with
  | cons r2 r =>
  cases r
  cases r0
  cases (show Rp .any _ _ (.int (most : Int)) from r2)
  obtain ⟨a, xs, rfl, ha, hxs⟩ := Rp.listInv (show Rp .any _ _ (eL tags) from r1)
  have na : a ∉ S := fun z => by rw [hide_in z] at ha; cases ha
  rw [hide_out na] at ha
  have e := RpL.strs hxs
  subst e
  have nad : a ≠ d := fun z => na (by rw [z]; exact hd)
  refine ⟨_, (pss_one (ps_ret (pe_callTy (call_tupZK K) (by rfl) B.tuple bt_tuple (pa_cons (pe_call C_w_pick.ok (hr.mono (by decide)) (by rfl) C_w_pick.g C_w_pick.kp C_w_pick.b .nil pass0 (pa_cons (pv 0) (pa_cons (pv 1) (pa_cons (pe_call C_w_take.ok (hr.mono (by decide)) (by rfl) C_w_take.g C_w_take.kp C_w_take.b .nil pass0 (pa_cons (pv 0) (pa_cons (pe_op op_add (pe_callB (call_min2 rfl) (by rfl) B.min bt_min (pa_cons (pv 2) (pa_cons (pe_callB (call_lenK K) (by rfl) B.len bt_len (pa_cons (pv 1) pa_nil)) pa_nil))) pe_int) pa_nil))) pa_nil)))) pa_nil)))), ?_⟩
  have hmin : (if (((tags.map V.str).length : Nat) : Int) < (most : Int) then (((tags.map V.str).length : Nat) : Int) else (most : Int)) = ((min most tags.length : Nat) : Int) := by
    rw [List.length_map]; split <;> omega
  refine ⟨.ref d, rfl, .ref a, rfl, .ref d, rfl, .int most, rfl, .ref a, rfl, a, _, rfl, .inl (SqL.of ha), most, _, rfl, ?_⟩
  rw [hmin]
  refine ⟨_, 1, rfl, rfl, d, N, _, rfl, ht, by omega, by omega, by omega, tab, fun x H1 h0 h1 g1 t1 => ?_⟩
  have ha1 := g1.ext a _ (fun z => nad (List.mem_singleton.mp z)) ha fun ps z => by cases z
  refine ⟨d, a, N + 1, x.toNat, tags.map V.str, by rw [List.append_nil, Int.toNat_of_nonneg h0], t1, by omega, ha1, nad, by rw [List.length_map]; omega, by omega, g1.tab, fun rr ys zs H2 hp hyl g2 t2 hr2 nw => ?_⟩
  obtain ⟨e1, e2⟩ := perm_unS hp
  refine ⟨rr, ys, rfl, SqL.of hr2, fun l ob hl2 hob => ?_⟩
  have g3 : Gd T H2 (upd H2 l (.frz ob (.tup ys))) := Gd.newF g2.tab hl2
  have gA : Gm T [d] H (upd H2 l (.frz ob (.tup ys))) := (g1.trans g2).trans g3.gm
  have hyl' : ys.length ≤ 20 := by rw [hyl, List.length_map]; omega
  have dm : Dom S (upd H2 l (.frz ob (.tup ys))) := fun s hs => by
    by_cases es : s = d
    · obtain ⟨x, y, z, h, _⟩ := t2.up g3
      rw [es]; exact ⟨_, h, nt_lst _⟩
    · obtain ⟨o, ho, no⟩ := dom s hs
      exact ⟨o, gA.ext s o (fun z => es (List.mem_singleton.mp z)) ho no.1, no⟩
  refine q (ys.map unS) (zs.map unS) _ _ e2 gA ((t2.up g3).le (by omega)) dm ?_
  have nl : l ∉ S := fun z => by
    obtain ⟨o, ho, no⟩ := dom l z
    by_cases es : l = d
    · obtain ⟨x, y, w, h, _⟩ := t2
      rw [← es, hl2] at h; cases h
    · rw [(g1.trans g2).ext l o (fun z => es (List.mem_singleton.mp z)) ho no.1] at hl2; cases hl2
  refine Rp.tup (m := .z) (show ∃ o, hide S (upd H2 l (.frz ob (.tup ys))) l = some (.frz o (.tup ys)) ∧ o.dict = none from ⟨ob, by rw [hide_out nl, upd_same], hob⟩) ?_
  have rl := RpL.ofStrs (m := .z) (H := hide S (upd H2 l (.frz ob (.tup ys)))) (ys.map unS)
  rw [← e1] at rl
  exact rl
theorem ok_w_tags (B : Blt mg) {f f1 f2 : Addr} {fd fd1 fd2 : FuncData} (F : Fun K "_law_tags" "_law_tags" s_w_tags f fd) (C_w_take : Cal P w K mg base "_law_take" 1 ["_law_tub", "_law_top_to"] (sp_take T) f1 fd1) (C_w_pick : Cal P w K mg base "_law_pick" 2 ["_law_tub", "_law_few_so", "_law_much_so"] (sp_pick T) f2 fd2) :
    FnOk P w K mg base CX0 3 f fd ["_law_tub", "_law_many_so"] (sp_tags T) := by
  refine F.ok sc_w_tags (fun vs H Q E ⟨_, _, _, _, _, _, h, _⟩ => h.length) (fun cdv A outer s H vs Q E hr h => ?_)
  obtain ⟨S, d, N, dom, tab, hd, r, ht, hN, q⟩ := h
  cases r with
  | cons r0 r =>
  cases r with
  | cons r1 r =>
  cases r
  cases r0
  cases (show Rp .any _ _ (.int 6) from r1)
  refine ⟨_, (pss_one (ps_ret (pe_callB (cr_sortK K hr.units) (by rfl) B.sorted bt_sorted (pa_cons (pe_call C_w_pick.ok (hr.mono (by decide)) (by rfl) C_w_pick.g C_w_pick.kp C_w_pick.b .nil pass0 (pa_cons (pv 0) (pa_cons (pe_lst (pa_cons pe_str (pa_cons pe_str (pa_cons pe_str (pa_cons pe_str (pa_cons pe_str (pa_cons pe_str (pa_cons pe_str pa_nil)))))))) (pa_cons (pe_op op_add pe_int (pe_call C_w_take.ok (hr.mono (by decide)) (by rfl) C_w_take.g C_w_take.kp C_w_take.b .nil pass0 (pa_cons (pv 0) (pa_cons (pv 1) pa_nil)))) pa_nil)))) pa_nil)))), ?_⟩
  refine ⟨.ref d, rfl, small (by decide), fun p hp => ⟨.ref d, rfl, .int 6, rfl, ?_⟩⟩
  obtain ⟨ta, tb, tc, hdd, hr0⟩ := id ht
  have npd : p ≠ d := (ne_of_none hdd hp).symm
  have g0 : Gd T H (upd H p (.lst (tags7.map V.str))) := Gd.new tab hp
  refine ⟨d, N, 6, rfl, ht.up g0, by omega, by decide, by decide, g0.tab, fun x H1 h0 h1 g1 t1 => ?_⟩
  have hp1 : H1 p = some (.lst (tags7.map V.str)) := g1.ext p _ (fun z => npd (List.mem_singleton.mp z)) upd_same fun ps z => by cases z
  refine ⟨1, x, rfl, rfl, d, p, N + 1, (1 + x).toNat, tags7.map V.str, by rw [List.append_nil, Int.toNat_of_nonneg (by omega)], t1, by omega, hp1, npd, by decide, by omega, g1.tab, fun rr ys zs H2 hpm hyl g2 t2 hr2 nw => ?_⟩
  obtain ⟨e1, e2⟩ := perm_unS hpm
  have rl : ∀ HH : Hp, RpL .any HH ys ((ys.map unS).map .str) := fun HH => by
    have rl := RpL.ofStrs (m := .any) (H := HH) (ys.map unS)
    rw [← e1] at rl
    exact rl
  refine ⟨rr, ys, (ys.map unS).map .str, rfl, .inl (SqL.of hr2), (rl H2).dp, alike_strs _, .inl (sortable_strs _), fun x hx => by obtain ⟨y, _, rfl⟩ := List.mem_map.mp hx; exact (by decide : (0 : Nat) ≤ 60), fun l hl2 => ?_⟩
  have g3 : Gd T H2 (upd H2 l (.lst (sortV id ys ((ys.map unS).map .str)))) := Gd.new g2.tab hl2
  have gA : Gm T [d] H (upd H2 l (.lst (sortV id ys ((ys.map unS).map .str)))) := (g0.gm.trans (g1.trans g2)).trans g3.gm
  have dm2 : ∀ HH, Gm T [d] H HH → TubAt HH d (N + 1 + ys.length) → Dom S HH := fun HH g t s hs => by
    by_cases es : s = d
    · obtain ⟨x, y, z, h, _⟩ := t
      rw [es]; exact ⟨_, h, nt_lst _⟩
    · obtain ⟨o, ho, no⟩ := dom s hs
      exact ⟨o, g.ext s o (fun z => es (List.mem_singleton.mp z)) ho no.1, no⟩
  have hyl' : ys.length ≤ 7 := by rw [hyl]; exact Nat.le_trans (Nat.min_le_right _ _) (by decide)
  have gH2 : Gm T [d] H H2 := g0.gm.trans (g1.trans g2)
  have sp : ((ys.map unS).map PyData.str).mergeSort (dataLe false id) = (sortS (ys.map unS)).map .str := sort_strs _
  refine q (sortS (ys.map unS)) (zs.map unS) _ _ ((List.Perm.append_right _ (sortS_perm _)).trans e2) gA ((t2.up g3).le (by omega)) (dm2 _ gA (t2.up g3)) ?_
  have := new_lst (dm2 H2 gH2 t2) hl2 ((rl (hide S H2)).sort id)
  rw [sp] at this
  exact this
theorem cutD_ints (ns : List Int) (lo hi : Option Int) : cutD (ns.map .int) lo hi = ((ns.drop (HT.sIx ns.length 0 lo)).take (HT.sIx ns.length ns.length hi - HT.sIx ns.length 0 lo)).map .int := by
  unfold cutD
  rw [List.length_map, ← List.map_drop, ← List.map_take]
theorem ok_w_cells (B : Blt mg) {f : Addr} {fd : FuncData} (F : Fun K "_law_cells" "_law_cells" s_w_cells f fd) : FnOk P w K mg base CX0 1 f fd ["_law_script", "_law_most_so"] (sp_cells T K) := by
  refine F.ok sc_w_cells (fun vs H Q E ⟨_, _, _, _, h, _⟩ => h.length) (fun cdv A outer s H vs Q E hr h => ?_)
  obtain ⟨S, ns, dom, tab, r, hz, q⟩ := h
  have c := at_start (N := ["_law_script", "_law_most_so", "_law_cells_so", "_law_k", "_law_far_so", "_law_spot_so"]) dom tab r
  refine ⟨_, (pss_cons (ps_set (i := 2) sc_w_cells.nd rfl (.inl rfl) (pe_orT (pe_callTy (call_listK K) (by rfl) B.list bt_list (pa_cons (pe_slice (sl_listK K) (pv 0) po_none (po_some (pv 1))) pa_nil)) (pe_one (pe_lst (pa_cons pe_int pa_nil)))))
    (pss_cons (ps_for PassesOwn.never rfl (pi_enum (by rfl) B.enumerate (pa_cons (pe_slice (sl_listK K) (pv 0) (po_some (pv 1)) (po_some pe_int)) pa_nil)) (pg_tupK (n := 2) K rfl (pgs_cons (pg_name (i := 3) sc_w_cells.nd rfl (.inl rfl)) (pgs_cons (pg_name (i := 4) sc_w_cells.nd rfl (.inl rfl)) pgs_nil)) (by rfl) (by rfl))
      (pss_cons (ps_set (i := 5) sc_w_cells.nd rfl (.inl rfl) (pe_op op_mod (pe_callTy call_int1 (by rfl) B.int bt_int (pa_cons (pv 3) pa_nil)) (pv 1)))
      (pss_one (ps_asg (pe_op op_add (pe_ix (ix_listK K) (pv 2) (pv 5) (fun _ _ => rfl)) (pe_op op_mul (pv 4) (pe_op op_add (pv 3) pe_int))) (pg_sub (pv 2) (pv 5) set_list)))))
    (pss_one (ps_ret (pv 2))))), ?_⟩
  refine ed_slS (m := .any) (K := K) (xs := ns.map V.int) (ds := ns.map PyData.int) (tl := tNoPart) (th := tPart (tVar 1)) (te := tVar 0) (lo := none) (hi := some 2) ed_var (fun _ => RpL.ofInts ns) eo_none (eo_some (m := .any) ed_var) S H _ c _ fun v H1 g1 r1 => ?_
  obtain ⟨a, xs, rfl, ha, hxs⟩ := Rp.listInv (show Rp .any _ v _ from r1)
  have ha' : H1 a = some (.lst xs) := hide_le _ _ ha fun ps z => by cases z
  have ecut : cutD (ns.map PyData.int) none (some 2) = (ns.take 2).map .int := by rw [show (2 : Int) = ((2 : Nat) : Int) from rfl, cutD_to, ← List.map_take]
  rw [ecut] at hxs
  have c1 := c.up g1
  have main : ∀ (p : Addr) (σ' : L2.St) (H2 : Hp) (out : List Int), Gd T H H2 → Nw H p → p ∉ S → 1 ≤ out.length → out.length ≤ 2 → (2 < ns.length → out.length = 2) →
      At T (p :: S) H2 σ' [.s K (ns.map V.int), .m .any (.int 2), .v (.ref p), .no, .no, .no] → Own .any (p :: S) H2 p (out.map .int) →
      (tSeq (tFor (iEnum K (tCons (tSl (rSlL K) (tVar 0) (tPart (tVar 1)) (tPart (tC (.int 63)))) tNil)) (gTup K 2 (gCons (gName 3) (gCons (gName 4) gNil))) (tSeq (tAsg (tOp (rI (fun _ j => 0 < j) fun i j => .int (i % j)) (tCB (fun xs H Q => (∃ i, xs = [.int i] ∧ Q (.int i) H) ∨ ∃ k, xs = [.bl k] ∧ Q (.int (if k then 1 else 0)) H) (tCons (tVar 3) tNil)) (tVar 1)) (gName 5))
        (tAsg (tOp (rI0 fun i j => .int (i + j)) (tOp (rIxL K) (tVar 2) (tVar 5)) (tOp (rI CMul fun i j => .int (i * j)) (tVar 4) (tOp (rI0 fun i j => .int (i + j)) (tVar 3) (tC (.int 2))))) (gSub (tVar 2) (tVar 5) rSetL)))) (tRet (tVar 2))) { nx := fun _ H' => Q .non H', rt := Q } σ' H2 := by
    intro p σ' H2 out g nw np h1 h2 h3 c2 o2
    have ec : cutD (ns.map PyData.int) (some 2) (some 63) = ((ns.drop (min 2 ns.length)).take (min 63 ns.length - min 2 ns.length)).map .int := by
      rw [cutD_ints, show (2 : Int) = ((2 : Nat) : Int) from rfl, show (63 : Int) = ((63 : Nat) : Int) from rfl, HT.sIx_nat, HT.sIx_nat]
    generalize hts : (ns.drop (min 2 ns.length)).take (min 63 ns.length - min 2 ns.length) = ts at ec
    have htl : ts.length = min 63 ns.length - min 2 ns.length := by rw [← hts, List.length_take, List.length_drop]; omega
    refine sd_for (D := [p]) (n := ts.length) (E := fun _ => [.s K (ns.map V.int), .m .any (.int 2), .v (.ref p), .no, .no, .no]) (E2 := fun i => [.s K (ns.map V.int), .m .any (.int 2), .v (.ref p), .m .any (.int (i : Int)), .m .any ((ts.map PyData.int).getD i .none), .no])
      (O := fun _ H' => ∃ out' : List Int, out'.length = out.length ∧ Own .any (p :: S) H' p (out'.map .int)) c2 (fun x hx => by rw [List.mem_singleton.mp hx]; exact List.mem_cons_self) ?_ ⟨out, rfl, o2⟩ (fun _ _ _ g ⟨o, h, q⟩ => ⟨o, h, q.up g⟩) (fun i hi => ef_pair) (fun i hi σ3 H3 g3 c3 ⟨ou, hou, o3⟩ Nx nx => ?_) fun σ3 H3 g3 c3 ⟨ou, hou, o3⟩ => ?_
    · have := iw_enum (T := T) (env := [.s K (ns.map V.int), .m .any (.int 2), .v (.ref p), .no, .no, .no]) (K := K) (aa := tCons (tSl (rSlL K) (tVar 0) (tPart (tVar 1)) (tPart (tC (.int 63)))) tNil) (m := .any) (ds := ts.map PyData.int) (by intro z; cases z) (ea_one (ED.is (ed_slS (m := .any) (xs := ns.map V.int) (ds := ns.map PyData.int) ed_var (fun _ => RpL.ofInts ns) (eo_some (m := .any) ed_var) (eo_some (m := .any) ed_int)) (by rw [ec])))
      rw [List.length_map] at this
      exact this
    · have hol : ou.length = 2 := by rw [hou]; exact h3 (by omega)
      have e1 : (ts.map PyData.int).getD i .none = .int ts[i] := by rw [List.getD_eq_getElem?_getD, List.getElem?_map, List.getElem?_eq_getElem hi]; rfl
      simp only [e1] at c3
      have hm2 : (i : Int) % 2 = ((i % 2 : Nat) : Int) := by omega
      have hlt : i % 2 < ou.length := by omega
      refine sd_setO (i := 2) (m' := .any) (x := (i : Int) % 2) c3 o3 np rfl (ed_mod (m := .any) (m' := .any) (ed_int1 (m := .any) ed_var) ed_var (by decide)) fun σ4 H4 g4 c4 o4 => ?_
      refine td_setO (i := 2) (m' := .any) (m'' := .any) (j := i % 2) (x := ou[i % 2] + ts[i] * ((i : Int) + 2)) c4 o4 np rfl (ed_add (m := .any) (m' := .any) (ed_ixL (m' := .any) (ds := ou.map PyData.int) (j := i % 2) (i := (i : Int) % 2) ed_var ed_var hm2 (by rw [List.getElem?_map, List.getElem?_eq_getElem hlt]; rfl)) (ed_mul (m := .any) (m' := .any) ed_var (ed_add (m := .any) (m' := .any) ed_var ed_int) (.inr ⟨by omega, by omega⟩))) (ED.is (ed_var (e := .m .any (.int ((i : Int) % 2)))) (by rw [hm2])) hlt fun H5 g5 c5 o5 => ?_
      exact nx _ _ (g4.gm.trans g5) (((c5.forget 3).forget 4).forget 5) ⟨_, by rw [List.length_set]; exact hou, o5⟩
    · have c4 := c3.release (i := 2) o3 np rfl
      have gA : Gd T H H3 := Gm.gd g (fun x hx => by rw [List.mem_singleton.mp hx]; exact nw) g3
      refine sd_ret c4 (ed_var (e := .m .any (.list (ou.map .int)))) fun v H5 g5 r5 => q ou v H5 (gA.trans g5) (by omega) (by omega) r5
  refine ⟨a, xs, rfl, .inl (SqL.of ha'), fun l hl => ?_⟩
  have hxl := hxs.length
  rw [List.length_map, List.length_take] at hxl
  by_cases hem : ns = []
  · refine ⟨false, .inl ⟨xs, SqL.of upd_same, by
      have hx0 : xs = [] := List.length_eq_zero_iff.mp (by rw [hxl, hem]; rfl)
      rw [hx0]; rfl⟩, ?_⟩
    rw [if_neg Bool.false_ne_true]
    refine ⟨small (by decide), fun p hp => ?_⟩
    have g2 : Gd T H1 (upd H1 l (.lst xs)) := Gd.new g1.tab hl
    obtain ⟨x1, x2⟩ := (c1.up g2).ownL (m := .any) (i := 2) (xs := [.int 0]) (ds := [0].map PyData.int) hp (.cons (Rp.int 0) .nil)
    exact main p _ _ [0] ((g1.trans g2).trans (Gd.new g2.tab hp)) (Nw.down (g1.trans g2) (Nw.of hp)) ((c1.up g2).dom.nin hp) (by decide) (by decide) (by rw [hem]; intro z; cases z) x1 x2
  · have hpos := List.length_pos_iff.mpr hem
    refine ⟨true, .inl ⟨xs, SqL.of upd_same, by cases xs with | nil => rw [List.length_nil] at hxl; omega | cons x y => rfl⟩, ?_⟩
    rw [if_pos rfl]
    obtain ⟨x1, x2⟩ := c1.ownL (m := .any) (i := 2) hl hxs
    exact main l _ _ (ns.take 2) (g1.trans (Gd.new g1.tab hl)) (Nw.down g1 (Nw.of hl)) (c1.dom.nin hl) (by rw [List.length_take]; omega) (by rw [List.length_take]; omega) (by rw [List.length_take]; omega) x1 x2
end
end K28
set_option Elab.async false
set_option linter.all false
set_option maxRecDepth 100000
set_option maxHeartbeats 4000000
/-! the law's draws: book -/
namespace K28
open PySem PySem.Spec PyProof.Rows L2 LamX PySem.W
def names8 : List Str := ["amy", "bob", "cid", "dee", "eve", "flo", "gus", "hal"]
def SubT (tags l : List Str) : Prop := ∃ rest, (l ++ rest).Perm tags
/-- what is drawn -/
structure WebOk (tags : List Str) (ps : List (Str × List Str)) : Prop where
  sub : SubT tags7 tags
  names : ps.map (·.1) = names8.take ps.length
  len : ps.length ≤ 7
  rows : ∀ p ∈ ps, SubT tags p.2
def sp_book (T : List (Addr × Str)) : Sp := fun vs H Q _ => ∃ (S : List Addr) (d : Addr) (N : Nat), Dom S H ∧ Tabs T H ∧ d ∈ S ∧ EnL (hide S H) vs [.v (.ref d), .m .any (.int 6), .m .any (.int 7)] ∧ TubAt H d N ∧ N ≤ 700000 ∧
  ∀ (tags : List Str) (ps : List (Str × List Str)) (v : V) (H' : Hp), WebOk tags ps → Gm T [d] H H' → TubAt H' d (N + 400) → Dom S H' → EnR (hide S H') (.m .z (.tuple [eT tags, ePs ps])) v → Q v H'
theorem okS_tags7 : okL tags7 = true := by decide +kernel
theorem okS_names8 : okL names8 = true := by decide +kernel
theorem SubT.mem {tags l : List Str} (h : SubT tags l) {x : Str} (hx : x ∈ l) : x ∈ tags := let ⟨_, p⟩ := h; p.mem_iff.mp (List.mem_append_left _ hx)
theorem SubT.len {tags l : List Str} (h : SubT tags l) : l.length ≤ tags.length := by
  obtain ⟨r, p⟩ := h
  have := p.length_eq
  rw [List.length_append] at this
  omega
theorem SubT.drop {tags l : List Str} (h : SubT tags l) (k : Nat) : SubT tags (l.drop k) := by
  obtain ⟨r, p⟩ := h
  refine ⟨l.take k ++ r, List.Perm.trans ?_ p⟩
  rw [← List.append_assoc]
  refine List.Perm.append_right _ (List.perm_append_comm.trans ?_)
  rw [List.take_append_drop]
theorem SubT.nodup {tags l : List Str} (h : SubT tags l) (nd : tags.Nodup) : l.Nodup := by
  obtain ⟨r, p⟩ := h
  exact (List.nodup_append.mp (p.nodup_iff.mpr nd)).1
theorem SubT.trans {a b c : List Str} (h : SubT a b) (h' : SubT b c) : SubT a c := by
  obtain ⟨r, p⟩ := h
  obtain ⟨r', p'⟩ := h'
  exact ⟨r' ++ r, by rw [← List.append_assoc]; exact (List.Perm.append_right _ p').trans p⟩
theorem SubT.ok {l : List Str} (h : SubT tags7 l) : okL l = true := okL_of fun x hx => okL_mem okS_tags7 (h.mem hx)
theorem lay_rows : ∀ {ps : List (Str × List Str)}, (∀ p ∈ ps, okS p.1 = true ∧ okL p.2 = true) → PyData.canLayAll0 (ps.map eRow) = true
  | [], _ => by simp [PyData.canLayAll0]
  | p :: ps, h => by
    obtain ⟨h1, h2⟩ := h p List.mem_cons_self
    rw [List.map_cons, PyData.canLayAll0, lay_rows fun q hq => h q (List.mem_cons_of_mem _ hq), PyData.canLay0, PyData.canLayAll0, PyData.canLayAll0, PyData.canLayAll0, show (PyData.str p.1).canLay0 = true from h1, PyData.canLay0, lay_strs h2]
    rfl
theorem depth_rows : ∀ ps : List (Str × List Str), PyData.depthAll (ps.map eRow) ≤ 2
  | [] => by simp [PyData.depthAll]
  | p :: ps => by
    have ih := depth_rows ps
    rw [List.map_cons, PyData.depthAll, PyData.depth, PyData.depthAll, PyData.depthAll, PyData.depthAll, PyData.depth, PyData.depth, depth_strs]
    omega
theorem shaped_rows {ps : List (Str × List Str)} (h : ∀ p ∈ ps, okS p.1 = true ∧ okL p.2 = true) : SeqAt.shaped (.list (ps.map eRow)) = true := by
  show ((PyData.list (ps.map eRow)).canLay0 && decide ((PyData.list (ps.map eRow)).depth ≤ 64)) = true
  rw [Bool.and_eq_true]
  refine ⟨by rw [PyData.canLay0]; exact lay_rows h, decide_eq_true ?_⟩
  rw [PyData.depth]
  have := depth_rows ps
  omega
theorem shaped_nil : SeqAt.shaped (.list []) = true := by
  show ((PyData.list []).canLay0 && decide ((PyData.list []).depth ≤ 64)) = true
  rw [PyData.canLay0, PyData.canLayAll0, PyData.depth, PyData.depthAll]; rfl
theorem eqv_rows_nil (ps : List (Str × List Str)) : PyData.eqv (.list (ps.map eRow)) (.list []) = ps.isEmpty := by
  cases ps with
  | nil => rw [PyData.eqv, List.map_nil, PyData.eqvAll]; rfl
  | cons p ps => rw [PyData.eqv, List.map_cons, PyData.eqvAll]; rfl
section
variable {T : List (Addr × Str)} {S D : List Addr} {H : Hp} {σ : L2.St} {env : List En} {K : PySem.W.Frag} {g : TG} {tu : TS} {Dk : Ends} {m : Md} {n : Nat}
/-- a list stands still while it is walked -/
theorem go_list {a : Addr} {ds : List PyData} (hD : ∀ d ∈ D, d ∈ S) (r : Rp m (hide S H) (.ref a) (.list ds)) : (∃ xs, SqL K H a xs) ∧ (∀ i H', Gm T D H H' → Dom S H' → i < ds.length → (Itl K a).go i H' ∧ ∀ x H'', (Itl K a).yld i H' x H'' → Gd T H' H'' ∧ EnR (hide S H'') (.m m (ds.getD i .none)) x) ∧ ∀ H', Gm T D H H' → (Itl K a).stop ds.length H' := by
  obtain ⟨a', xs, e, h1, h2⟩ := Rp.listInv r
  cases e
  have e1 : H a = some (.lst xs) := hide_le _ _ h1 fun ps z => by cases z
  have up : ∀ H', Gm T D H H' → H' a = some (.lst xs) ∧ RpL m (hide S H') xs ds := fun H' g => ⟨g.ext _ _ (fun z => by rw [hide_in (hD _ z)] at h1; cases h1) e1 (fun ps z => by cases z), h2.up (g.hide hD)⟩
  refine ⟨⟨xs, SqL.of e1⟩, fun i H' g dm hi => ?_, fun H' g => ⟨xs, SqL.of (up H' g).1, by rw [h2.length]; exact Nat.le_refl _⟩⟩
  obtain ⟨u1, u2⟩ := up H' g
  have hx : xs[i]? = some (xs[i]'(by rw [h2.length]; exact hi)) := List.getElem?_eq_getElem _
  refine ⟨⟨xs, _, SqL.of u1, hx⟩, fun x H'' hy => ?_⟩
  obtain ⟨rfl, f⟩ := hy
  obtain ⟨d, hd1, hd2⟩ := u2.getV (f xs (SqL.of u1))
  refine ⟨Gd.refl g.tab, ?_⟩
  show Rp m _ _ _
  rw [List.getD_eq_getElem?_getD, hd1]; exact hd2
theorem for_J {J : It} {y : Nat → En} {E E2 : Nat → List En} {O : Nat → Hp → Prop} (c : At T S H σ (E 0))
    (go : ∀ i H', Gm T D H H' → Dom S H' → i < n → J.go i H' ∧ ∀ x H'', J.yld i H' x H'' → Gd T H' H'' ∧ EnR (hide S H'') (y i) x) (stop : ∀ H', Gm T D H H' → J.stop n H') (o0 : O 0 H) (oUp : ∀ i H1 H2, Gd T H1 H2 → O i H1 → O i H2)
    (hg : ∀ i, i < n → EF T (E i) g (y i) (E2 i))
    (turn : ∀ i, i < n → ∀ σ1 H1, Gm T D H H1 → At T S H1 σ1 (E2 i) → O i H1 → ∀ Nx : L2.St → Hp → Prop, (∀ σ2 H2, Gm T D H1 H2 → At T S H2 σ2 (E (i + 1)) → O (i + 1) H2 → Nx σ2 H2) → tu { Dk with nx := Nx, ct := Nx, bk := Dk.nx } σ1 H1)
    (fin : ∀ σ' H', Gm T D H H' → At T S H' σ' (E n) → O n H' → Dk.nx σ' H') :
    ∃ W : Nat → Nat → L2.St → Hp → Prop, (∃ m, W 0 m σ H) ∧ ∀ i m σ H, W i m σ H →
      (J.stop i H ∧ Dk.nx σ H) ∨ (J.go i H ∧ ∃ N : L2.St → Hp → Prop, (∀ σ' H', N σ' H' → ∃ m', m' < m ∧ W (i + 1) m' σ' H') ∧ ∀ x H', J.yld i H x H' → g x σ H' fun σ2 H2 => tu { Dk with nx := N, ct := N, bk := Dk.nx } σ2 H2) := by
  refine ⟨fun i k σ' H' => k = n - i ∧ i ≤ n ∧ Gm T D H H' ∧ At T S H' σ' (E i) ∧ O i H', ⟨n - 0, rfl, Nat.zero_le _, Gm.refl c.tab, c, o0⟩, ?_⟩
  rintro i k σ' H' ⟨rfl, hi, g2, c2, o2⟩
  by_cases hlt : i < n
  · obtain ⟨h1, h2⟩ := go i H' g2 c2.dom hlt
    refine .inr ⟨h1, fun σ2 H2 => i + 1 ≤ n ∧ Gm T D H H2 ∧ At T S H2 σ2 (E (i + 1)) ∧ O (i + 1) H2, fun σ2 H2 q => ⟨_, by omega, rfl, q⟩, fun x H3 hy => ?_⟩
    obtain ⟨g3, r3⟩ := h2 x H3 hy
    refine hg i hlt S H3 σ' (c2.up g3) x r3 _ fun σ3 c3 => turn i hlt σ3 H3 (g2.trans g3.gm) c3 (oUp _ _ _ g3 o2) _ fun σ4 H4 g4 c4 o4 => ⟨hlt, (g2.trans g3.gm).trans g4, c4, o4⟩
  · have e : i = n := by omega
    subst e
    exact .inl ⟨stop H' g2, fin σ' H' g2 c2 o2⟩
theorem dom_tub {d : Addr} {N : Nat} {H' : Hp} (dm : Dom S H) (g : Gm T [d] H H') (t : TubAt H' d N) : Dom S H' := fun s hs => by
  by_cases es : s = d
  · obtain ⟨x, y, z, h, _⟩ := t
    rw [es]; exact ⟨_, h, nt_lst _⟩
  · obtain ⟨o, ho, no⟩ := dm s hs
    exact ⟨o, g.ext s o (fun z => es (List.mem_singleton.mp z)) ho no.1, no⟩
end
theorem call_run {T : List (Addr × Str)} {S : List Addr} {H : Hp} {σ : L2.St} {env : List En} {sp : Sp} {E : XK} {aa : TA} {es : List En} {Q : VK} (c : At T S H σ env) (h : EN T env aa es) (k : ∀ us H', Gd T H H' → EnL (hide S H') us es → sp us H' Q E) : tCall sp [] E aa σ H Q :=
  h S H σ c _ fun us H1 g1 r1 => by
    show sp (us ++ []) H1 Q E
    rw [List.append_nil]
    exact k us H1 g1 r1
theorem enl_vi {H : Hp} {us : List V} {a : V} {m : Md} {i : Int} (r : EnL H us [.v a, .m m (.int i)]) : us = [a, .int i] := by
  cases r with
  | cons r0 r =>
  cases r with
  | cons r1 r =>
  cases r
  cases r0
  cases (show Rp m H _ (.int i) from r1)
  rfl
theorem enl_vv {H : Hp} {us : List V} {a b : V} (r : EnL H us [.v a, .v b]) : us = [a, b] := by
  cases r with
  | cons r0 r =>
  cases r with
  | cons r1 r =>
  cases r
  cases r0
  cases r1
  rfl
theorem slZ_use {T : List (Addr × Str)} {S : List Addr} {H : Hp} {K : PySem.W.Frag} {v : V} {ds : List PyData} {lo hi : Option Int} {Q : VK} (dm : Dom S H) (tab : Tabs T H) (r : Rp .z (hide S H) v (.tuple ds)) (k : ∀ u H', Gd T H H' → Rp .z (hide S H') u (.tuple (cutD ds lo hi)) → Q u H') : rSlZ K v lo hi H Q := by
  have c : At T S H [some v] [.m .z (.tuple ds)] := ⟨dm, tab, .cons r .nil⟩
  obtain ⟨v', e, z⟩ := ed_slZ (T := T) (env := [.m .z (.tuple ds)]) (K := K) (m := .z) (te := tVar 0) (tl := fun _ H Q => Q lo H) (th := fun _ H Q => Q hi H) (ds := ds) (lo := lo) (hi := hi) ed_var (by intro z; cases z) (fun S H σ c Q q => q H c.gd) (fun S H σ c Q q => q H c.gd) S H [some v] c Q k
  cases e
  exact z
theorem ED.atLS {T : List (Addr × Str)} {env : List En} {te : TE} {m m' : Md} {xs : List Str} (h : ED T env te (.m m (eL xs))) : ED T env te (.m m' (eL xs)) := fun S H σ c Q q => h S H σ c _ fun v H1 g1 r1 => q v H1 g1 (by
  obtain ⟨a, ys, rfl, h1, h2⟩ := Rp.listInv (show Rp m _ v _ from r1)
  have e := RpL.strs h2
  subst e
  exact Rp.lst h1 (RpL.ofStrs _))
section
variable {P : Program} {w : World} {K : PySem.W.Frag} {mg : Str → Option Value} {base : Heap} {T : List (Addr × Str)}
theorem ok_w_book (B : Blt mg) {f f1 f2 f3 f4 : Addr} {fd fd1 fd2 fd3 fd4 : FuncData} (F : Fun K "_law_book" "_law_book" s_w_book f fd) (C_w_take : Cal P w K mg base "_law_take" 1 ["_law_tub", "_law_top_to"] (sp_take T) f1 fd1) (C_w_of : Cal P w K mg base "_law_of" 2 ["_law_tub", "_law_few_so"] (sp_of T) f2 fd2)
    (C_w_line : Cal P w K mg base "_law_line" 3 ["_law_tub", "_law_tags_here", "_law_most_so"] (sp_line T) f3 fd3) (C_w_tags : Cal P w K mg base "_law_tags" 3 ["_law_tub", "_law_many_so"] (sp_tags T) f4 fd4) :
    FnOk P w K mg base CX0 4 f fd ["_law_tub", "_law_many_so", "_law_wide_so"] (sp_book T) := by
  refine F.ok sc_w_book (fun vs H Q E ⟨_, _, _, _, _, _, h, _⟩ => h.length) (fun cdv A outer s H vs Q E hr h => ?_)
  obtain ⟨S, d, N, dom, tab, hd, r, ht, hN, q⟩ := h
  have c := at_start (N := ["_law_tub", "_law_many_so", "_law_wide_so", "_law_tags_here", "_law_found", "_law_tag", "_law_line_so", "_law_far_so"]) dom tab r
  have hds : ∀ x ∈ [d], x ∈ S := fun x hx => by rw [List.mem_singleton.mp hx]; exact hd
  refine ⟨_, (pss_cons (ps_par (i := 3) (j := 4) (by rfl) sc_w_book.nd rfl rfl (by decide) rfl rfl (pa_cons (pe_call C_w_tags.ok (hr.mono (by decide)) (by rfl) C_w_tags.g C_w_tags.kp C_w_tags.b .nil pass0 (pa_cons (pv 0) (pa_cons (pv 1) pa_nil))) (pa_cons (pe_lst pa_nil) pa_nil)) (by rfl))
    (pss_cons (ps_for PassesOwn.never rfl (pi_listK K (pe_slice (sl_listK K) (pe_lst (pa_cons pe_str (pa_cons pe_str (pa_cons pe_str (pa_cons pe_str (pa_cons pe_str (pa_cons pe_str (pa_cons pe_str (pa_cons pe_str pa_nil))))))))) po_none (po_some (pe_call C_w_take.ok (hr.mono (by decide)) (by rfl) C_w_take.g C_w_take.kp C_w_take.b .nil pass0 (pa_cons (pv 0) (pa_cons (pe_op op_add (pv 2) pe_int) pa_nil)))))) (pg_name (i := 5) sc_w_book.nd rfl (.inl rfl))
      (pss_cons (ps_set (i := 6) sc_w_book.nd rfl (.inl rfl) (pe_call C_w_line.ok (hr.mono (by decide)) (by rfl) C_w_line.g C_w_line.kp C_w_line.b .nil pass0 (pa_cons (pv 0) (pa_cons (pv 3) (pa_cons (pv 1) pa_nil)))))
      (pss_cons (ps_if (PW.pt (pw_and (pt_cmpR (op_neDK K hr.units) (pv 4) (pe_lst pa_nil) (nomark _)) (pw_and1 (pt_cmpR op_eq (pe_call C_w_take.ok (hr.mono (by decide)) (by rfl) C_w_take.g C_w_take.kp C_w_take.b .nil pass0 (pa_cons (pv 0) (pa_cons pe_int pa_nil))) pe_int (nomark _)))))
        (pss_cons (ps_set (i := 7) sc_w_book.nd rfl (.inl rfl) (pe_ix (ix_tupK K) (pe_call C_w_of.ok (hr.mono (by decide)) (by rfl) C_w_of.g C_w_of.kp C_w_of.b .nil pass0 (pa_cons (pv 0) (pa_cons (pv 4) pa_nil))) pe_int (fun _ _ => rfl)))
        (pss_one (ps_set (i := 6) sc_w_book.nd rfl (.inl rfl) (pe_slice (sl_tupZK K) (pv 7) (po_some (pe_call C_w_take.ok (hr.mono (by decide)) (by rfl) C_w_take.g C_w_take.kp C_w_take.b .nil pass0 (pa_cons (pv 0) (pa_cons (pe_op op_add (pe_callB (call_lenK K) (by rfl) B.len bt_len (pa_cons (pv 7) pa_nil)) pe_int) pa_nil)))) po_none))))
        pss_nil)
      (pss_one (ps_expr (pe_bm PySem.F.plainAttrs_list PySem.F.slot_list_append PySem.F.type_list_append mt_append (pv 4) (pa_cons (pe_tupZ (pa_cons (pv 5) (pa_cons (pv 6) pa_nil))) pa_nil)))))))
    (pss_one (ps_ret (pe_tupZ (pa_cons (pe_callTy (call_tupZK K) (by rfl) B.tuple bt_tuple (pa_cons (pv 3) pa_nil)) (pa_cons (pe_callTy (call_tupZK K) (by rfl) B.tuple bt_tuple (pa_cons (pv 4) pa_nil)) pa_nil))))))), ?_⟩
  show tCall _ _ _ _ _ _ _
  refine call_run c (en_two (e := .v (.ref d)) (e' := .m .any (.int 6)) (ed_var (i := 0)) (ed_var (i := 1))) fun us H1 g1 r1 => ?_
  refine ⟨S, d, N, (c.up g1).dom, g1.tab, hd, r1, ht.up g1, by omega, fun tags rest v H2 hp g2 t2 dm2 r2 => ?_⟩
  have htags : SubT tags7 tags := ⟨rest, hp⟩
  have htl : tags.length ≤ 7 := htags.len
  refine ⟨Nat.zero_le _, fun p hpn => ⟨v, .ref p, rfl, ?_⟩⟩
  have c2 := (((c.up g1).mv g2 hds dm2).set (e := .m .any (eL tags)) r2 3)
  have nw : Nw H2 p := Nw.of hpn
  have np : p ∉ S := dm2.nin hpn
  have npd : p ≠ d := fun z => np (by rw [z]; exact hd)
  obtain ⟨c3, o3⟩ := c2.own (m := .z) (i := 4) hpn
  have g3 : Gd T H2 (upd H2 p (.lst [])) := Gd.new g2.tab hpn
  have t3 := t2.up g3
  have gH2 : Gm T [d] H H2 := g1.gm.trans g2
  generalize upd H2 p (.lst []) = H3 at c3 o3 g3 t3 ⊢
  replace c3 := at_eq c3 (e' := [.v (.ref d), .m .any (.int 6), .m .any (.int 7), .m .any (eL tags), .v (.ref p), .no, .no, .no]) rfl
  have hdp : ∀ x ∈ [d], x ∈ p :: S := fun x hx => List.mem_cons_of_mem _ (hds x hx)
  have hpd : ∀ x ∈ [p, d], x ∈ p :: S := fun x hx => by
    rcases List.mem_cons.mp hx with z | z
    · rw [z]; exact List.mem_cons_self
    · exact hdp x z
  have sub1 : ∀ x ∈ [d], x ∈ [p, d] := fun x hx => List.mem_cons_of_mem _ hx
  have npd' : p ∉ [d] := fun z => npd (List.mem_singleton.mp z)
  -- the names that come
  refine ⟨small (by decide), fun l hl => ?_⟩
  have g4 : Gd T H3 (upd H3 l (.lst (names8.map V.str))) := Gd.new g3.tab hl
  show tCall _ _ _ _ _ _ _
  refine call_run (c3.up g4) (en_two (e := .v (.ref d)) (e' := .m .any (.int 8)) (ed_var (i := 0)) (ED.is (ed_add (m := .any) (m' := .any) (ed_var (i := 2)) (ed_int (i := 1))) rfl)) fun us H5 g5 r5 => ?_
  obtain rfl := enl_vi r5
  have rl : Rp .any (hide (p :: S) (upd H3 l (.lst (names8.map V.str)))) (.ref l) (.list (names8.map .str)) := new_lst c3.dom hl (RpL.ofStrs _)
  refine ⟨d, N + 21, 8, rfl, (t3.up g4).up g5, by omega, by decide, by decide, g5.tab, fun k H6 k0 k8 g6 t6 => ?_⟩
  have g46 : Gm T [d] H3 H6 := (g4.trans g5).gm.trans g6
  have dm6 : Dom (p :: S) H6 := dom_tub c3.dom g46 t6
  have c6 := c3.mv g46 hdp dm6
  have o6 := o3.mv g46 npd' hdp
  have rl6 := (rl.up (hide_ext g5.ext)).up (g6.hide hdp)
  obtain ⟨l', xs, el, h1, h2⟩ := Rp.listInv rl6
  cases el
  refine ⟨k, rfl, l, xs, rfl, SqL.of (hide_le _ _ h1 fun ps z => by cases z), fun l2 hl2 => ?_⟩
  have g7 : Gd T H6 (upd H6 l2 (.lst (cutV xs none (some k)))) := Gd.new g6.tab hl2
  have rl7 : Rp .any (hide (p :: S) (upd H6 l2 (.lst (cutV xs none (some k))))) (.ref l2) (.list ((names8.take k.toNat).map .str)) := by
    have z := new_lst dm6 hl2 (h2.cut none (some k))
    have e : cutD (names8.map PyData.str) none (some k) = (names8.take k.toNat).map .str := by
      have := cutD_to (names8.map PyData.str) k.toNat
      rw [Int.toNat_of_nonneg k0, ← List.map_take] at this
      exact this
    rw [e] at z
    exact z
  have c7 := c6.up g7
  have o7 := o6.up g7
  have t7 := t6.up g7
  have g37 : Gm T [p, d] H3 (upd H6 l2 (.lst (cutV xs none (some k)))) := (g46.trans g7.gm).sub sub1
  generalize upd H6 l2 (.lst (cutV xs none (some k))) = H7 at c7 o7 t7 g7 g37 rl7 ⊢
  obtain ⟨go1, go2, go3⟩ := go_list (T := T) (K := K) (D := [p, d]) hpd rl7
  rw [List.length_map] at go2 go3
  have hkl : (names8.take k.toNat).length ≤ 7 := by rw [List.length_take]; omega
  refine ⟨l2, rfl, go1, ?_⟩
  refine for_J (D := [p, d]) (n := (names8.take k.toNat).length) (y := fun i => .m .any (((names8.take k.toNat).map PyData.str).getD i .none)) (E := fun _ => [.v (.ref d), .m .any (.int 6), .m .any (.int 7), .m .any (eL tags), .v (.ref p), .no, .no, .no])
    (E2 := fun i => [.v (.ref d), .m .any (.int 6), .m .any (.int 7), .m .any (eL tags), .v (.ref p), .m .any (((names8.take k.toNat).map PyData.str).getD i .none), .no, .no])
    (O := fun i H' => ∃ rows : List (Str × List Str), rows.length = i ∧ rows.map (·.1) = names8.take i ∧ (∀ p ∈ rows, SubT tags p.2) ∧ Own .z (p :: S) H' p (rows.map eRow) ∧ TubAt H' d (N + 22 + 24 * i)) c7 go2 go3 ⟨[], rfl, rfl, (fun _ h => by cases h), o7, t7⟩
    (fun _ _ _ g ⟨rows, a1, a2, a3, a4, a5⟩ => ⟨rows, a1, a2, a3, a4.up g, a5.up g⟩) (fun i _ => ef_name) (fun i hi σ8 H8 g8 c8 ⟨rows, a1, a2, a3, o8, t8⟩ Nx nx => ?_) (fun σ9 H9 g9 c9 ⟨rows, a1, a2, a3, o9, t9⟩ => ?_)
  · have hi7 : i < 7 := by omega
    have enm : ((names8.take k.toNat).map PyData.str).getD i .none = .str (names8[i]'(by show i < 8; omega)) := by
      rw [List.getD_eq_getElem?_getD, List.getElem?_map, List.getElem?_eq_getElem hi, List.getElem_take]; rfl
    simp only [enm] at c8
    generalize hnm : names8[i]'(by show i < 8; omega) = nm at c8
    have hnames : names8.take (i + 1) = names8.take i ++ [nm] := by rw [List.take_add_one, List.getElem?_eq_getElem (by show i < 8; omega), hnm]; rfl
    -- the end of the turn
    have fin : ∀ (line : List Str) (σ' : L2.St) (H' : Hp) (Dk : Ends), Dk.nx = Nx → SubT tags line → Gm T [p, d] H8 H' → At T (p :: S) H' σ' [.v (.ref d), .m .any (.int 6), .m .any (.int 7), .m .any (eL tags), .v (.ref p), .m .any (.str nm), .m .z (eT line), .no] → Own .z (p :: S) H' p (rows.map eRow) → TubAt H' d (N + 22 + 24 * (i + 1)) →
        tDrop (tBM K "list" rAppend (tVar 4) (tCons (tTupZ (tCons (tVar 5) (tCons (tVar 6) tNil))) tNil)) Dk σ' H' := by
      intro line σ' H' Dk hDk hsub g c' o' t'
      refine td_app (m := .z) c' rfl List.mem_cons_self o' (ed_tupZ (m := .z) (ds := [.str nm, eT line]) (ea_two (ed_var (e := .m .any (.str nm))).atS ed_var) (by intro z; cases z) (by show 2 ≤ 100000; decide)) (by rw [List.length_map]; omega) fun H'' g' c'' o'' => ?_
      rw [hDk]
      refine nx _ _ (g.trans (g'.sub fun x hx => by rw [List.mem_singleton.mp hx]; exact List.mem_cons_self)) ((c''.forget 5).forget 6) ⟨rows ++ [(nm, line)], by rw [List.length_append, a1]; rfl, by rw [List.map_append, a2, hnames]; rfl, fun x hx => ?_, by rw [List.map_append]; exact o'', ?_⟩
      · rcases List.mem_append.mp hx with z | z
        · exact a3 x z
        · rw [List.mem_singleton.mp z]; exact hsub
      · obtain ⟨x, y, z, h, rr⟩ := t'
        exact ⟨x, y, z, g'.ext _ _ (fun z => npd (List.mem_singleton.mp z).symm) h (fun ps z => by cases z), rr⟩
    show tCall _ _ _ _ _ _ _
    refine call_run c8 (en_cons (e := .v (.ref d)) (ed_var (i := 0)) (en_two (e := .m .any (eL tags)) (e' := .m .any (.int 6)) (ed_var (i := 3)) (ed_var (i := 1)))) fun us H9 g9 r9 => ?_
    refine ⟨p :: S, d, N + 22 + 24 * i, 6, tags, (c8.up g9).dom, g9.tab, hdp d List.mem_cons_self, r9, t8.up g9, by omega, by decide, by omega, fun line rest v H10 hp10 g10 t10 dm10 r10 => ?_⟩
    have hline : SubT tags line := ⟨rest, hp10⟩
    have c10 := ((c8.up g9).mv g10 hdp dm10).set (e := .m .z (eT line)) r10 6
    replace c10 := at_eq c10 (e' := [.v (.ref d), .m .any (.int 6), .m .any (.int 7), .m .any (eL tags), .v (.ref p), .m .any (.str nm), .m .z (eT line), .no]) rfl
    have o10 := (o8.up g9).mv g10 npd' hdp
    have gA : Gm T [p, d] H8 H10 := g9.gm.trans (g10.sub sub1)
    have okr : ∀ q ∈ rows, okS q.1 = true ∧ okL q.2 = true := fun q hq => ⟨okL_mem okS_names8 (List.mem_of_mem_take (by rw [← a2]; exact List.mem_map_of_mem hq)), (SubT.trans htags (a3 q hq)).ok⟩
    refine (ET.is (et_test (m := .any) (ed_neD (T := T) (env := [.v (.ref d), .m .any (.int 6), .m .any (.int 7), .m .any (eL tags), .m .z (.list (rows.map eRow)), .m .any (.str nm), .m .z (eT line), .no]) (m := .z) (m' := .any) (ed_var (i := 4)) (ed_lst ea_nil (Nat.zero_le _)) (shaped_rows okr) shaped_nil)) (by rw [eqv_rows_nil])) S H10 _ (c10.release (i := 4) o10 np rfl) _ fun H11 g11 => ?_
    have c11 := c10.up g11
    have o11 := o10.up g11
    have t11 := t10.up g11
    have gB := gA.trans g11.gm
    by_cases hem : rows = []
    · rw [hem]
      exact fin line _ _ _ rfl hline gB c11 o11 (t11.le (by omega))
    · have hb : (!rows.isEmpty) = true := by cases rows with | nil => exact absurd rfl hem | cons _ _ => rfl
      rw [hb, if_pos rfl]
      show tCall _ _ _ _ _ _ _
      refine call_run c11 (en_two (e := .v (.ref d)) (e' := .m .any (.int 2)) (ed_var (i := 0)) (ed_int (i := 2))) fun us H12 g12 r12 => ?_
      obtain rfl := enl_vi r12
      refine ⟨d, _, 2, rfl, t11.up g12, by omega, by decide, by decide, g12.tab, fun x H13 x0 x2 g13 t13 => ?_⟩
      have dm13 := dom_tub (c11.up g12).dom g13 t13
      have c13 := (c11.up g12).mv g13 hdp dm13
      have o13 := (o11.up g12).mv g13 npd' hdp
      have gC := gB.trans (g12.gm.trans (g13.sub sub1))
      refine ⟨rfl, _, rfl, ?_⟩
      cases hx0 : decide (V.int x = V.int 0) with
      | false =>
        rw [if_neg Bool.false_ne_true]
        exact fin line _ _ _ rfl hline gC c13 o13 (t13.le (by omega))
      | true =>
        rw [if_pos rfl]
        obtain ⟨acc, ha, hacc⟩ := o13
        have hal := hacc.length
        rw [List.length_map] at hal
        have hpos := List.length_pos_iff.mpr hem
        show tCall _ _ _ _ _ _ _
        refine call_run c13 (en_two (e := .v (.ref d)) (e' := .v (.ref p)) (ed_var (i := 0)) (ed_var (i := 4))) fun us H14 g14 r14 => ?_
        obtain rfl := enl_vv r14
        have ha14 : H14 p = some (.lst acc) := g14.ext _ _ ha fun ps z => by cases z
        have hacc14 := hacc.up (hide_ext (S := p :: S) g14.ext)
        refine ⟨d, p, _, acc, rfl, t13.up g14, by omega, ha14, npd, by intro z; rw [z] at hal; simp at hal; omega, by omega, g14.tab, fun j u H15 hj g15 t15 => ?_⟩
        have dm15 := dom_tub (c13.up g14).dom g15 t15
        have c15 := (c13.up g14).mv g15 hdp dm15
        have hacc15 := hacc14.up (g15.hide hdp)
        have ha15 : H15 p = some (.lst acc) := g15.ext _ _ npd' ha14 fun ps z => by cases z
        obtain ⟨dd, hdd, rdd⟩ := hacc15.getV hj
        rw [List.getElem?_map] at hdd
        obtain ⟨row, hrow, rfl⟩ := Option.map_eq_some_iff.mp hdd
        have hfar : SubT tags row.2 := a3 row (List.mem_of_getElem? hrow)
        obtain ⟨ar, xr, rfl, k1, k2⟩ := Rp.tupInv rdd
        obtain ⟨w, e1, e2⟩ := k2.get (i := 1) (d := eT row.2) rfl
        refine ⟨ar, xr, 1, w, rfl, rfl, (k1.up hide_le).sq, atI_nat (j := 1) e1, ?_⟩
        have c16 := at_eq (c15.set (e := .m .z (eT row.2)) e2 7) (e' := [.v (.ref d), .m .any (.int 6), .m .any (.int 7), .m .any (eL tags), .v (.ref p), .m .any (.str nm), .m .z (eT line), .m .z (eT row.2)]) rfl
        obtain ⟨w', hw', rw'⟩ := c16.get (i := 7) rfl (by intro z; cases z)
        refine ⟨w', hw', ?_⟩
        show tCall _ _ _ _ _ _ _
        refine call_run c16 (en_two (e := .v (.ref d)) (e' := .m .any (.int ((row.2.length : Int) + 1))) (ed_var (i := 0)) (ED.is (ed_add (m := .any) (m' := .any) (ed_lenT (K := K) (m := .z) (ds := row.2.map PyData.str) (ed_var (i := 7))) (ed_int (i := 1))) (by rw [List.length_map]))) fun us H17 g17 r17 => ?_
        obtain rfl := enl_vi r17
        have hfl := hfar.len
        refine ⟨d, _, _, rfl, t15.up g17, by omega, by omega, by omega, g17.tab, fun y H18 y0 y1 g18 t18 => ?_⟩
        have dm18 := dom_tub (c16.up g17).dom g18 t18
        have c18 := (c16.up g17).mv g18 hdp dm18
        have hacc18 := (hacc15.up (hide_ext g17.ext)).up (g18.hide hdp)
        have ha18 : H18 p = some (.lst acc) := g18.ext _ _ npd' (g17.ext _ _ ha15 fun ps z => by cases z) fun ps z => by cases z
        have rw18 := (EnR.up (hide_ext g17.ext) rw').up (g18.hide hdp)
        refine ⟨y, rfl, ?_⟩
        dsimp only [tNoPart]
        refine slZ_use (T := T) dm18 g18.tab (show Rp .z _ w' (eT row.2) from rw18) fun u H19 g19 r19 => ?_
        have ecut : cutD (row.2.map PyData.str) (some y) none = (row.2.drop y.toNat).map .str := by
          have := cutD_from (row.2.map PyData.str) y.toNat
          rw [Int.toNat_of_nonneg y0, ← List.map_drop] at this
          exact this
        rw [ecut] at r19
        have c19 := ((c18.up g19).set (e := .m .z (eT (row.2.drop y.toNat))) r19 6).forget 7
        exact fin (row.2.drop y.toNat) _ _ _ rfl (hfar.drop _) ((gC.trans (g14.gm.trans (g15.sub sub1))).trans ((g17.gm.trans (g18.sub sub1)).trans g19.gm)) c19 ⟨acc, g19.ext _ _ ha18 (fun ps z => by cases z), hacc18.up (hide_ext g19.ext)⟩ ((t18.up g19).le (by omega))
  · have hrl : rows.length ≤ 7 := by rw [a1]; exact hkl
    have c10 := c9.release (i := 4) o9 np rfl
    have gF : Gm T [d] H H9 := gH2.trans (Gm.drop g3 nw (g37.trans g9))
    refine sd_ret c10 (e := .m .z (.tuple [eT tags, ePs rows])) (ed_tupZ (m := .z) (ea_two (ed_tupLZ (m := .z) (by intro z; cases z) (ED.atLS (m := .any) ed_var)) (ed_tupLZ (m := .z) (by intro z; cases z) ed_var)) (by intro z; cases z) (by show 2 ≤ 100000; decide)) fun v H11 g11 r11 => ?_
    exact q tags rows v H11 ⟨htags, by rw [a2, a1], hrl, a3⟩ (gF.trans g11.gm) ((t9.up g11).le (by omega)) (dom_tub dom (gF.trans g11.gm) (t9.up g11)) r11
end
end K28
set_option Elab.async false
set_option linter.all false
set_option maxRecDepth 100000
set_option maxHeartbeats 4000000
/-! the law's own reckoning: rest, odds, subs, lists, half -/
namespace K28
open PySem PySem.Spec PyProof.Rows L2 LamX PySem.W
def lawRest (near far : List Str) (tag : Str) : List Str := (near.drop (ixOf near tag + 1)).filter fun own => !decide (own ∈ far) || decide (((ixOf far tag : Nat) : Int) < ((ixOf far own : Nat) : Int))
def lawOdds (near far : List Str) : List Str := sortS ((sharedOf near far).filter fun t => !decide (lawRest near far t = lawRest far near t))
theorem lawRest_len (near far : List Str) (tag : Str) : (lawRest near far tag).length ≤ near.length := by
  unfold lawRest
  refine Nat.le_trans (List.length_filter_le _ _) ?_
  rw [List.length_drop]; omega
theorem lawRest_ok {near far : List Str} {tag : Str} (h : okL near = true) : okL (lawRest near far tag) = true := okL_of fun x hx => okL_mem h (List.mem_of_mem_drop (List.mem_filter.mp hx).1)
def R_lrest : List En → En → Prop := fun es e => ∃ m near far tag, es = [.m .z (eT near), .m .z (eT far), .m m (.str tag)] ∧ tag ∈ near ∧ tag ∈ far ∧ near.length ≤ 1000 ∧ far.length ≤ 1000 ∧ e = .d (eT (lawRest near far tag))
def R_lodds : List En → En → Prop := fun es e => ∃ near far, es = [.m .z (eT near), .m .z (eT far)] ∧ okL near = true ∧ okL far = true ∧ near.length ≤ 1000 ∧ far.length ≤ 1000 ∧ e = .d (eT (lawOdds near far))
def R_lsubs : List En → En → Prop := fun es e => ∃ m names, es = [.m m (eL names)] ∧ names.length ≤ 10 ∧ e = .d (.list ((setsOf names).map eT))
section
variable {P : Program} {w : World} {K : PySem.W.Frag} {mg : Str → Option Value} {base : Heap} {T : List (Addr × Str)}
theorem ok_w_rest (B : Blt mg) {f : Addr} {fd : FuncData} (F : Fun K "_law_rest" "_law_rest" s_w_rest f fd) : FnOk P w K mg base CX0 1 f fd ["_law_near", "_law_far", "_law_tag"] (PrR T R_lrest) := by
  refine F.ok sc_w_rest (PrR.len (n := 3) (fun es e ⟨_, _, _, _, h, _⟩ => by rw [h]; rfl) rfl) (fun cdv A outer s H vs Q E hr h => ?_)
  obtain ⟨S, es, e, dom, tab, r, ⟨m, near, far, tag, rfl, hn, hf, ln, lf, rfl⟩, q⟩ := h
  have c := at_start (N := ["_law_near", "_law_far", "_law_tag", "_law_found", "_law_own"]) dom tab r
  refine ⟨_, (pss_cons (ps_set (i := 3) sc_w_rest.nd rfl (.inl rfl) (pe_lst pa_nil))
    (pss_cons (ps_for PassesOwn.never rfl (pi_tupK K (pe_slice (sl_tupZK K) (pv 0) (po_some (pe_op op_add (pe_bmZ PySem.F.plainAttrs_tuple PySem.F.slot_tuple_index PySem.F.type_tuple_index (mt_idxK K) (pv 0) (pa_cons (pv 2) pa_nil)) pe_int)) po_none)) (pg_name (i := 4) sc_w_rest.nd rfl (.inl rfl))
      (pss_one (ps_if (PW.pt (pw_or (pt_cmpR (op_niK K) (pv 4) (pv 1) (by rfl)) (pw_or1 (pt_cmpR op_gt (pe_bmZ PySem.F.plainAttrs_tuple PySem.F.slot_tuple_index PySem.F.type_tuple_index (mt_idxK K) (pv 1) (pa_cons (pv 4) pa_nil)) (pe_bmZ PySem.F.plainAttrs_tuple PySem.F.slot_tuple_index PySem.F.type_tuple_index (mt_idxK K) (pv 1) (pa_cons (pv 2) pa_nil)) (nomark _)))))
        (pss_one (ps_expr (pe_bm PySem.F.plainAttrs_list PySem.F.slot_list_append PySem.F.type_list_append mt_append (pv 3) (pa_cons (pv 4) pa_nil))))
        pss_nil)))
    (pss_one (ps_ret (pe_callTy (call_tupK K) (by rfl) B.tuple bt_tuple (pa_cons (pv 3) pa_nil)))))), ?_⟩
  refine sd_own (m := .any) c fun p σ1 H1 g1 nw np c1 o1 => ?_
  have hp : ∀ x ∈ [p], x ∈ p :: S := fun x hx => by rw [List.mem_singleton.mp hx]; exact List.mem_cons_self
  have ecut : cutD (near.map PyData.str) (some (((ixOf near tag : Nat) : Int) + 1)) none = (near.drop (ixOf near tag + 1)).map .str := by
    rw [show (((ixOf near tag : Nat) : Int) + 1) = ((ixOf near tag + 1 : Nat) : Int) by omega, cutD_from, ← List.map_drop]
  generalize htl : near.drop (ixOf near tag + 1) = tl at ecut
  have htll : tl.length ≤ 1000 := by rw [← htl, List.length_drop]; omega
  refine sd_for (D := [p]) (n := tl.length) (E := fun _ => [.m .z (eT near), .m .z (eT far), .m m (.str tag), .v (.ref p), .no]) (E2 := fun i => [.m .z (eT near), .m .z (eT far), .m m (.str tag), .v (.ref p), .m .z ((tl.map PyData.str).getD i .none)])
    (O := fun i H' => Own .any (p :: S) H' p (((tl.take i).filter fun own => !decide (own ∈ far) || decide (((ixOf far tag : Nat) : Int) < ((ixOf far own : Nat) : Int))).map .str)) c1 hp ?_ o1 (fun _ _ _ g o => o.up g) (fun i _ => ef_name) (fun i hi σ2 H2 g2 c2 o2 Nx nx => ?_) fun σ2 H2 g2 c2 o2 => ?_
  · have := iw_tup (T := T) (env := [.m .z (eT near), .m .z (eT far), .m m (.str tag), .v (.ref p), .no]) (K := K) (tl := tSl (rSlZ K) (tVar 0) (tPart (tOp (rI0 fun i j => .int (i + j)) (tBMZ (rIdxK K) (tVar 0) (tCons (tVar 2) tNil)) (tC (.int 1)))) tNoPart) (m := .z) (ds := tl.map PyData.str) (ED.is (ed_slZ (ds := near.map PyData.str) (m := .z) (ed_var (i := 0)) (by intro z; cases z) (eo_some (m := .any) (ed_add (m := .any) (m' := .any) (ed_index (m := m) (m' := .any) (ed_var (i := 0)) (ed_var (i := 2)) hn) ed_int)) eo_none) (by rw [ecut]))
    rw [List.length_map] at this
    exact this
  · have e1 : (tl.map PyData.str).getD i .none = .str tl[i] := by rw [List.getD_eq_getElem?_getD, List.getElem?_map, List.getElem?_eq_getElem hi]; rfl
    simp only [e1] at c2
    refine sd_ifE c2 (et_or (et_test (m := .any) (ed_niT (m := .z) (m' := .z) (x := tl[i]) (ys := far) (ed_var (i := 4)) (ed_var (i := 1)))) fun hb => ?_) (b := !decide (tl[i] ∈ far) || decide (((ixOf far tag : Nat) : Int) < ((ixOf far tl[i] : Nat) : Int))) (fun hb H3 g3 c3 => ?_) (fun hb H3 g3 c3 => ?_)
    · exact et_test (m := .any) (ed_cmp (m := .any) (m' := .any) (g := fun i j => decide (j < i)) (i := ((ixOf far tl[i] : Nat) : Int)) (j := ((ixOf far tag : Nat) : Int)) (ed_index (m := .z) (m' := .any) (ed_var (i := 1)) (ed_var (i := 4)) (by simpa using hb)) (ed_index (m := m) (m' := .any) (ed_var (i := 1)) (ed_var (i := 2)) hf))
    · refine td_app (m := .any) c3 rfl List.mem_cons_self (o2.up g3) (ed_var (e := .m .z (.str tl[i]))).atS ?_ fun H4 g4 c4 o4 => nx _ _ (g3.gm.trans g4) (c4.forget 4) ?_
      · rw [List.length_map]
        refine Nat.lt_of_le_of_lt (List.length_filter_le _ _) ?_
        rw [List.length_take]; omega
      · rw [List.take_add_one, List.getElem?_eq_getElem hi, Option.toList_some, List.filter_append, List.map_append, List.filter_cons, if_pos hb]
        exact o4
    · refine nx _ _ g3.gm (c3.forget 4) ?_
      rw [List.take_add_one, List.getElem?_eq_getElem hi, Option.toList_some, List.filter_append, List.filter_cons, if_neg (by rw [hb]; exact Bool.false_ne_true), List.filter_nil, List.append_nil]
      exact o2.up g3
  · rw [List.take_length] at o2
    have c3 := c2.release (i := 3) o2 np rfl
    have g0 : Gd T H H2 := Gm.gd g1 (fun d hd => by rw [List.mem_singleton.mp hd]; exact nw) g2
    refine sd_ret c3 (ed_tupL (m := .any) (by intro z; cases z) ed_var) fun v H4 g4 r4 => q v H4 (g0.trans g4) ?_
    unfold lawRest
    rw [htl]
    exact r4
theorem ok_w_odds (B : Blt mg) {f f1 : Addr} {fd fd1 : FuncData} (F : Fun K "_law_odds" "_law_odds" s_w_odds f fd) (C_w_rest : Cal P w K mg base "_law_rest" 1 ["_law_near", "_law_far", "_law_tag"] (PrR T R_lrest) f1 fd1) : FnOk P w K mg base CX0 2 f fd ["_law_near", "_law_far"] (PrR T R_lodds) := by
  refine F.ok sc_w_odds (PrR.len (n := 2) (fun es e ⟨_, _, h, _⟩ => by rw [h]; rfl) rfl) (fun cdv A outer s H vs Q E hr h => ?_)
  obtain ⟨S, es, e, dom, tab, r, ⟨near, far, rfl, on, of, ln, lf, rfl⟩, q⟩ := h
  have c := at_start (N := ["_law_near", "_law_far", "_law_both_so", "_law_tag"]) dom tab r
  refine ⟨_, (pss_cons (ps_setLc (i := 2) (own := [("_law_tag", 3)]) (by rfl) sc_w_odds.nd rfl rfl (sw_true rfl rfl rfl (by decide +kernel)) (pi_tupK K (pv 0)) (blkOk_by (N := ["_law_near", "_law_far", "_law_both_so", "_law_tag"]) (sc := defScope s_w_odds) (by decide +kernel)) (fun _ _ _ _ _ => (pg_name (i := 3) sc_w_odds.nd rfl (by first | exact .inl rfl | exact .inr rfl))) (fun _ _ _ _ _ => (pts_one (pt_cmpR (op_inK K) (pv 3) (pv 1) (by rfl)))) (fun _ _ _ _ _ => (pv 3)))
    (pss_one (ps_ret (pe_callTy (call_tupK K) (by rfl) B.tuple bt_tuple (pa_cons (pe_callB (cr_sortK K hr.units) (by rfl) B.sorted bt_sorted (pa_cons (pe_lc (own := [("_law_tag", 3)]) (by rfl) sc_w_odds.nd (pi_listK K (pv 2)) (blkOk_by (N := ["_law_near", "_law_far", "_law_both_so", "_law_tag"]) (sc := defScope s_w_odds) (by decide +kernel)) (fun _ _ _ _ _ => (pg_name (i := 3) sc_w_odds.nd rfl (by first | exact .inl rfl | exact .inr rfl))) (fun _ _ _ _ _ => (pts_one (pt_cmpR (op_neDK K hr.units) (pe_call C_w_rest.ok (hr.mono (by decide)) (by rfl) C_w_rest.g C_w_rest.kp C_w_rest.b .nil pass0 (pa_cons (pv 0) (pa_cons (pv 1) (pa_cons (pv 3) pa_nil)))) (pe_call C_w_rest.ok (hr.mono (by decide)) (by rfl) C_w_rest.g C_w_rest.kp C_w_rest.b .nil pass0 (pa_cons (pv 1) (pa_cons (pv 0) (pa_cons (pv 3) pa_nil)))) (nomark _)))) (fun _ _ _ _ _ => (pv 3))) pa_nil)) pa_nil))))), ?_⟩
  refine sd_set c (e := .m .any (eL (sharedOf near far))) (ed_lcT (m' := .any) (fun b : Str => decide (b ∈ far)) PyData.str (ed_var (e := .m .z (eT near))) (by decide) (by omega) (fun b hb => et_test (m := .any) (ed_inT (m := .z) (m' := .z) ed_var ed_var)) (fun b _ _ => ED.atS (m := .z) ed_var)) fun σ1 H1 g1 c1 => ?_
  have hsl : (sharedOf near far).length ≤ 1000 := Nat.le_trans (List.length_filter_le _ _) ln
  refine sd_ret c1 (ed_tupL (m := .any) (by intro z; cases z) (ed_sortS (m := .any) (.inl (ed_lcL (m' := .any) (fun b : Str => !decide (lawRest near far b = lawRest far near b)) PyData.str (ed_var (e := .m .any (eL (sharedOf near far)))) (by decide) (by omega) (fun b hb => ?_) (fun b _ _ => ed_var))))) fun v H2 g2 r2 => q v H2 (g1.trans g2) r2
  have hb' := List.mem_filter.mp hb
  have hbf : b ∈ far := by simpa using hb'.2
  refine ET.is (et_test (m := .any) (ed_neD (m := .any) (m' := .any) (ed_call (en_cons (ed_var (e := .m .z (eT near))) (en_two (ed_var (e := .m .z (eT far))) (ed_var (e := .m .any (.str b))))) ⟨.any, near, far, b, rfl, hb'.1, hbf, ln, lf, rfl⟩) (ed_call (en_cons (ed_var (e := .m .z (eT far))) (en_two (ed_var (e := .m .z (eT near))) (ed_var (e := .m .any (.str b))))) ⟨.any, far, near, b, rfl, hbf, hb'.1, lf, ln, rfl⟩) (shaped_eT (lawRest_ok on)) (shaped_eT (lawRest_ok of)))) (by rw [eqv_T])
theorem ok_w_subs (B : Blt mg) {f : Addr} {fd : FuncData} (F : Fun K "_law_subs" "_law_subs" s_w_subs f fd) : FnOk P w K mg base CX0 1 f fd ["_law_goods_so"] (PrR T R_lsubs) := by
  refine F.ok sc_w_subs (PrR.len (n := 1) (fun es e ⟨_, _, h, _⟩ => by rw [h]; rfl) rfl) (fun cdv A outer s H vs Q E hr h => ?_)
  obtain ⟨S, es, e, dom, tab, r, ⟨m, names, rfl, hn, rfl⟩, q⟩ := h
  have c := at_start (N := ["_law_goods_so", "_law_found", "_law_own", "_law_bit"]) dom tab r
  refine ⟨_, (pss_cons (ps_set (i := 1) sc_w_subs.nd rfl (.inl rfl) (pe_lst (pa_cons (pe_tup pa_nil) pa_nil)))
    (pss_cons (ps_for PassesOwn.never rfl (pi_listK K (pv 0)) (pg_name (i := 2) sc_w_subs.nd rfl (.inr rfl))
      (pss_one (ps_set (i := 1) sc_w_subs.nd rfl (.inl rfl) (pe_op op_cat (pv 1) (pe_lc (own := [("_law_bit", 3)]) (by rfl) sc_w_subs.nd (pi_listK K (pv 1)) (blkOk_by (N := ["_law_goods_so", "_law_found", "_law_own", "_law_bit"]) (sc := defScope s_w_subs) (by decide +kernel)) (fun _ _ _ _ _ => (pg_name (i := 3) sc_w_subs.nd rfl (by first | exact .inl rfl | exact .inr rfl))) (fun _ _ _ _ _ => pts_nil) (fun _ _ _ _ _ => (pe_op (op_catAK K) (pv 3) (pe_tup (pa_cons (pv 2) pa_nil)))))))))
    (pss_one (ps_ret (pv 1))))), ?_⟩
  refine sd_set c (e := .m .any (.list ((setsOf []).map eT))) (ed_lst (ea_one (ed_tupM ea_nil (by intro z; cases z) (Nat.zero_le _)))) fun σ1 H1 g1 c1 => ?_
  refine sd_for (D := []) (O := fun _ _ => True) (n := (names.map PyData.str).length) (E := fun i => [.m m (eL names), .m .any (.list ((setsOf (names.take i)).map eT)), .no, .no]) (E2 := fun i => [.m m (eL names), .m .any (.list ((setsOf (names.take i)).map eT)), .m m ((names.map PyData.str).getD i .none), .no]) c1 (by simp) (iw_list ed_var) trivial (fun _ _ _ _ h => h) (fun i _ => ef_name) (fun i hi σ2 H2 g2 c2 _ Nx k => ?_) fun σ3 H3 g3 c3 _ => ?_
  · rw [List.length_map] at hi
    have e1 : (names.map PyData.str).getD i .none = .str names[i] := by rw [List.getD_eq_getElem?_getD, List.getElem?_map, List.getElem?_eq_getElem hi]; rfl
    simp only [e1] at c2
    have hl : (setsOf (names.take i)).length ≤ 1024 := by rw [setsOf_length _ _ rfl, List.length_take]; exact pow_le (by omega)
    have hb : ∀ b ∈ setsOf (names.take i), b.length ≤ 10 := fun b hb => by
      have := setsOf_mem_len _ _ rfl b hb
      rw [List.length_take] at this
      omega
    refine td_set c2 (ed_catL (ed_var (e := .m .any (.list ((setsOf (names.take i)).map eT)))) (ed_lcL1 (m' := .any) (fun b : List Str => eT (b ++ [names[i]])) (ed_var (e := .m .any (.list ((setsOf (names.take i)).map eT)))) (by decide) (by omega) (fun b hb' => ?_)) (by rw [List.length_map, List.length_map]; omega)) fun σ4 H4 g4 c4 => ?_
    · have hbl := hb b hb'
      refine ED.is (ed_catA (m := .any) (ds := b.map PyData.str) (es := [.str names[i]]) (by intro z; cases z) (ed_var (e := .m .any (eT b))) (ed_tupM (ea_one (ED.atS (m := m) ed_var)) (by intro z; cases z) (by simp)) (by rw [List.length_map]; show b.length + 1 ≤ _; omega)) (by unfold eT; rw [List.map_append]; rfl)
    · refine k _ _ g4.gm (at_eq (c4.forget 2) ?_) trivial
      rw [List.take_add_one, List.getElem?_eq_getElem hi]
      show [_, _, _, _] = _
      rw [Option.toList_some, setsOf_snoc, List.map_append, List.map_map]
      rfl
  · have e2 : names.take (names.map PyData.str).length = names := by rw [List.length_map, List.take_length]
    simp only [e2] at c3
    exact sd_ret c3 (ed_var (e := .m .any (.list ((setsOf names).map eT)))) fun v H4 g4 r4 => q v H4 ((g1.trans g3.gd').trans g4) r4
end
end K28
set_option Elab.async false
set_option linter.all false
set_option maxRecDepth 100000
set_option maxHeartbeats 4000000
/-! the law's lists, half, kit, same -/
namespace K28
open PySem PySem.Spec PyProof.Rows L2 LamX PySem.W RZ
mutual
def listD : PyData → PyData
  | .list xs => .list (listDs xs)
  | .tuple xs => .list (listDs xs)
  | .none => .none
  | .bool b => .bool b
  | .int i => .int i
  | .str x => .str x
  | .dict x => .dict x
def listDs : List PyData → List PyData
  | [] => []
  | d :: ds => listD d :: listDs ds
end
theorem listDs_map : ∀ ds : List PyData, listDs ds = ds.map listD
  | [] => by rw [listDs]; rfl
  | d :: ds => by rw [listDs, listDs_map ds]; rfl
/-- texts in lists and tuples, n deep -/
def shS : Nat → PyData → Bool
  | _, .str _ => true
  | n + 1, .list xs => decide (xs.length ≤ 1000) && xs.all (shS n)
  | n + 1, .tuple xs => decide (xs.length ≤ 1000) && xs.all (shS n)
  | _, _ => false
theorem shS_list {n : Nat} {xs : List PyData} (h : shS (n + 1) (.list xs) = true) : xs.length ≤ 1000 ∧ ∀ x ∈ xs, shS n x = true := by
  have h : (decide (xs.length ≤ 1000) && xs.all (shS n)) = true := h
  rw [Bool.and_eq_true] at h
  exact ⟨of_decide_eq_true h.1, List.all_eq_true.mp h.2⟩
theorem shS_tup {n : Nat} {xs : List PyData} (h : shS (n + 1) (.tuple xs) = true) : xs.length ≤ 1000 ∧ ∀ x ∈ xs, shS n x = true := by
  have h : (decide (xs.length ≤ 1000) && xs.all (shS n)) = true := h
  rw [Bool.and_eq_true] at h
  exact ⟨of_decide_eq_true h.1, List.all_eq_true.mp h.2⟩
def R_llists (n : Nat) : List En → En → Prop := fun es e => ∃ m d, es = [.m m d] ∧ shS n d = true ∧ e = .m .any (listD d)
def R_lhalf (n : Nat) : List En → En → Prop := fun es e => ∃ m ds, es = [.m m (.tuple ds)] ∧ shS (n + 1) (.tuple ds) = true ∧ e = .m .any (.tuple (ds.map listD))
def R_lsame (n : Nat) : List En → En → Prop := fun es e => ∃ m m' d, es = [.m m d, .m m' d] ∧ shS n d = true ∧ e = .m .any (.bool true)
theorem kb_sl : kitB "str" "list" = some false := by decide +kernel
theorem kb_st : kitB "str" "tuple" = some false := by decide +kernel
theorem kb_sb : kitB "str" "bool" = some false := by decide +kernel
theorem kb_ss : kitB "str" "str" = some true := by decide +kernel
section
variable {T : List (Addr × Str)} {env : List En} {K : PySem.W.Frag} {te : TE} {aa : TA} {vs : List Nat} {m m' m'' : Md}
theorem ed_isN {x : Str} (h : ED T env te (.m m (.str x))) : ED T env (tOp (fun x y H Q => y = .non ∧ Q (.bl (decide (x = .non))) H) te (tC .non)) (.d (.bool false)) := fun S H σ c Q q => h S H σ c _ fun v H1 g1 r1 => by
  cases (show Rp m _ v (.str x) from r1)
  exact ⟨rfl, q _ H1 g1 (Rp.bl false)⟩
theorem walk_zipT {a b : Addr} {xs ys : List V} {n : Nat} (hn : n = min xs.length ys.length) : Walk (ItzT K a b) n (fun H => SqT K H a xs ∧ SqT K H b ys) (YPair (fun i => xs[i]?) (fun i => ys[i]?)) := by
  subst hn
  refine ⟨fun i _ hi q => ?_, fun _ q => ⟨xs, ys, q.1, q.2, by omega⟩, fun i H v H' _ q y => ?_⟩
  · have h1 : i < xs.length := by omega
    have h2 : i < ys.length := by omega
    exact ⟨xs, ys, xs[i], ys[i], q.1, q.2, by simp [h1], by simp [h2]⟩
  · obtain ⟨T, x, z, h1, h2, h3, h4, h5⟩ := y
    exact ⟨T, x, z, h1, h2, h3, h4 xs q.1, h5 ys q.2⟩
theorem ed_lcZip {i j : Nat} {ds : List PyData} {f : PyData → PyData} (h : EN T env aa [.m m (.list ds), .m m' (.list ds)] ∨ EN T env aa [.m m (.tuple ds), .m m' (.tuple ds)]) (hi : i ∈ vs) (hj : j ∈ vs) (hz : ds.length ≤ 1000)
    (he : ∀ d ∈ ds, ED T (((wipeE env vs).set i (.m .any d)).set j (.m .any d)) te (.m m'' (f d))) :
    ED T env (tLc (iZipA K aa) (gTup K 2 (gCons (gName i) (gCons (gName j) gNil))) tYes te vs) (.m m'' (.list (ds.map f))) := fun S H σ c Q q => by
  have body : ∀ (H1 : Hp) (xs ys : List V) (D : Addr) (ii : Nat) (x : V) (H' H'' : Hp), Gd T H H1 → RpL .any (hide S H1) xs ds → RpL .any (hide S H1) ys ds → H1 D = none → LcP T m'' S H1 D ds (fun _ => true) f ii H' → YPair (fun i => xs[i]?) (fun i => ys[i]?) ii H' x H'' →
      gTup K 2 (gCons (gName i) (gCons (gName j) gNil)) x (L2.wipe σ vs) H'' fun σ2 H2 => L2.wipe σ2 vs = L2.wipe σ vs ∧ tYes σ2 H2 fun b H3 =>
        if b = true then te σ2 H3 fun y H4 => ∃ acc, H4 D = some (.lst acc) ∧ acc.length < sizeLine ∧ LcP T m'' S H1 D ds (fun _ => true) f (ii + 1) (upd H4 D (.lst (acc ++ [y]))) else LcP T m'' S H1 D ds (fun _ => true) f (ii + 1) H3 := by
    intro H1 xs ys D ii x H' H'' g1 hx hy hD P hp
    obtain ⟨Tp, u, v, rfl, nT, rfl, eu, ev⟩ := hp
    obtain ⟨d, hd, rd⟩ := hx.getV eu
    obtain ⟨d2, hd2, rd2⟩ := hy.getV ev
    rw [hd] at hd2
    cases hd2
    have c1 := c.up g1
    have c2 := lcp_at c1 hD P
    have gT : Gd T H' (upd H' Tp (.tup [u, v])) := Gd.new c2.tab nT
    have P2 : LcP T m'' S H1 D ds (fun _ => true) f ii (upd H' Tp (.tup [u, v])) := by
      obtain ⟨ga, acc, h1, h2⟩ := P
      exact ⟨ga.trans gT, acc, gT.ext _ _ h1 (fun ps z => by cases z), h2.up (hide_ext gT.ext)⟩
    have hg : ExtN (hide S H1) (hide (D :: S) H') := hide_grow hD P.1.ext
    have rp : Rp .any (hide (D :: S) (upd H' Tp (.tup [u, v]))) (.ref Tp) (.tuple [d, d]) := new_tup c2.dom nT (.cons (rd.up hg) (.cons (rd2.up hg) .nil)) (by intro z; cases z)
    exact lcp_turn (enc := fun d => PyData.tuple [d, d]) (env2 := fun d => ((wipeE env vs).set i (.m .any d)).set j (.m .any d)) (b := d) c1 hD (by omega) hd P2 rp (eg_pair hi hj) et_yes fun _ => he d (List.mem_of_getElem? hd)
  have fin : ∀ (H1 : Hp) (D : Addr) (H' : Hp) (n : Nat), n = ds.length → Gd T H H1 → H1 D = none → LcP T m'' S H1 D ds (fun _ => true) f n H' → Q (.ref D) H' := by
    intro H1 D H' n hn g1 hD P
    obtain ⟨g2, r2⟩ := lcp_end (c.up g1).dom hD hn P
    rw [filter_yes] at r2
    exact q _ H' (g1.trans g2) r2
  rcases h with h | h
  · refine h S H σ c _ fun us H1 g1 r1 => ?_
    cases r1 with
    | cons r1 r2 =>
    cases r2 with
    | cons r2 r3 =>
    cases r3
    obtain ⟨a, xs, rfl, a1, a2⟩ := Rp.listInv (Rp.any (show Rp m _ _ (.list ds) from r1))
    obtain ⟨b, ys, rfl, b1, b2⟩ := Rp.listInv (Rp.any (show Rp m' _ _ (.list ds) from r2))
    have a1' : H1 a = some (.lst xs) := hide_le _ _ a1 fun ps z => by cases z
    have b1' : H1 b = some (.lst ys) := hide_le _ _ b1 fun ps z => by cases z
    refine ⟨a, b, xs, ys, rfl, .inl ⟨SqL.of a1', SqL.of b1', fun D hD => lc_it (walk_zip (n := ds.length) (xs := xs) (ys := ys) (by rw [a2.length, b2.length]; omega)) (LcP T m'' S H1 D ds (fun _ => true) f) (lcp_zero g1.tab hD) (fun i H' _ P => ⟨SqL.of (P.1.ext _ _ a1' fun ps z => by cases z), SqL.of (P.1.ext _ _ b1' fun ps z => by cases z)⟩) (fun i x H' H'' _ P y => body H1 xs ys D i x H' H'' g1 a2 b2 hD P y) fun H' P => fin H1 D H' _ rfl g1 hD P⟩⟩
  · refine h S H σ c _ fun us H1 g1 r1 => ?_
    cases r1 with
    | cons r1 r2 =>
    cases r2 with
    | cons r2 r3 =>
    cases r3
    obtain ⟨a, xs, rfl, a1, a2⟩ := Rp.tupInv (Rp.any (show Rp m _ _ (.tuple ds) from r1))
    obtain ⟨b, ys, rfl, b1, b2⟩ := Rp.tupInv (Rp.any (show Rp m' _ _ (.tuple ds) from r2))
    have a1' : TupAt .any H1 a xs := a1.up hide_le
    have b1' : TupAt .any H1 b ys := b1.up hide_le
    refine ⟨a, b, xs, ys, rfl, .inr ⟨a1'.sq, b1'.sq, fun D hD => lc_it (walk_zipT (n := ds.length) (xs := xs) (ys := ys) (by rw [a2.length, b2.length]; omega)) (LcP T m'' S H1 D ds (fun _ => true) f) (lcp_zero g1.tab hD) (fun i H' _ P => ⟨(a1'.up P.1.ext).sq, (b1'.up P.1.ext).sq⟩) (fun i x H' H'' _ P y => body H1 xs ys D i x H' H'' g1 a2 b2 hD P y) fun H' P => fin H1 D H' _ rfl g1 hD P⟩⟩
end
section
variable {P : Program} {w : World} {K : PySem.W.Frag} {mg : Str → Option Value} {base : Heap} {T : List (Addr × Str)}
theorem ok_w_lists (B : Blt mg) {f : Addr} {fd : FuncData} (F : Fun K "_law_lists" "_law_lists" s_w_lists f fd) (g : mg "_law_lists" = some (.ref f)) (b : Binds K fd ["_law_matter"] []) : ∀ n : Nat, FnOk P w K mg base CX0 (n + 1) f fd ["_law_matter"] (PrR T (R_llists n)) := by
  have len : ∀ n, ∀ vs H Q E, PrR T (R_llists n) vs H Q E → vs.length = (["_law_matter"] : List Str).length := fun n => PrR.len (T := T) (R := R_llists n) (n := 1) (fun es e h => by obtain ⟨_, _, h, _⟩ := h; rw [h]; rfl) rfl
  have text : ∀ (cdv : Value) (A : Around) (outer : List Env) (s : Shared) (H : Hp) (vs : List V) (Q : VK) (E : XK) (S : List Addr) (m : Md) (x : Str), Dom S H → Tabs T H → EnL (hide S H) vs [.m m (.str x)] → (∀ v H', Gd T H H' → EnR (hide S H') (.m .any (.str x)) v → Q v H') →
      ∃ t, PSs (cxOf CX0 P w K mg base ["_law_matter", "_law_bit"] "_law_lists" (defScope s_w_lists) f cdv A outer s H E).nox (defBody s_w_lists) t ∧ t { nx := fun _ H' => Q .non H', rt := Q } (L2.start ["_law_matter", "_law_bit"] vs) H := by
    intro cdv A outer s H vs Q E S m x dom tab r q
    have c := at_start (N := ["_law_matter", "_law_bit"]) dom tab r
    refine ⟨_, (pss_one (ps_ret (pe_ifExp (pt_val (pe_callB (call_isiK2 K) (by rfl) B.isinstance bt_isinstance (pa_cons (pv 0) (pa_cons (pe_tup (pa_cons (pe_bltn (v := .ty "list") (by rfl) B.list bt_list rfl) (pa_cons (pe_bltn (v := .ty "tuple") (by rfl) B.tuple bt_tuple rfl) pa_nil))) pa_nil)))) pe_never (pv 0)))), ?_⟩
    exact sd_ret c (ed_if (e := .m .any (.str x)) (et_B (ed_isi2 (ed_var (e := .m m (.str x))) kb_sl kb_st)) (fun h => Bool.noConfusion h) (fun h => ED.atS (m := m) ed_var)) q
  intro n
  induction n with
  | zero =>
    refine F.ok sc_w_lists (len 0) (fun cdv A outer s H vs Q E hr h => ?_)
    obtain ⟨S, es, e, dom, tab, r, ⟨m, d, rfl, hd, rfl⟩, q⟩ := h
    cases d <;> first | exact Bool.noConfusion hd | skip
    exact text cdv A outer s H vs Q E S m _ dom tab r (by rw [listD] at q; exact q)
  | succ n ih =>
    have C_w_lists : Cal P w K mg base "_law_lists" (n + 1) ["_law_matter"] (PrR T (R_llists n)) f fd := ⟨ih, g, F.kp, b⟩
    refine F.ok sc_w_lists (len (n + 1)) (fun cdv A outer s H vs Q E hr h => ?_)
    obtain ⟨S, es, e, dom, tab, r, ⟨m, d, rfl, hd, rfl⟩, q⟩ := h
    have c := at_start (N := ["_law_matter", "_law_bit"]) dom tab r
    cases d with
    | list ds =>
      obtain ⟨hz, hm⟩ := shS_list hd
      refine ⟨_, (pss_one (ps_ret (pe_ifExp (pt_val (pe_callB (call_isiK2 K) (by rfl) B.isinstance bt_isinstance (pa_cons (pv 0) (pa_cons (pe_tup (pa_cons (pe_bltn (v := .ty "list") (by rfl) B.list bt_list rfl) (pa_cons (pe_bltn (v := .ty "tuple") (by rfl) B.tuple bt_tuple rfl) pa_nil))) pa_nil)))) (pe_lc (own := [("_law_bit", 1)]) (by rfl) sc_w_lists.nd (pi_listK K (pv 0)) (blkOk_by (N := ["_law_matter", "_law_bit"]) (sc := defScope s_w_lists) (by decide +kernel)) (fun _ _ _ _ _ => (pg_name (i := 1) sc_w_lists.nd rfl (by first | exact .inl rfl | exact .inr rfl))) (fun _ _ _ _ _ => pts_nil) (fun _ _ _ _ _ => (pe_call C_w_lists.ok hr (by rfl) C_w_lists.g C_w_lists.kp C_w_lists.b .nil pass0 (pa_cons (pv 1) pa_nil)))) (pv 0)))), ?_⟩
      have e1 : ED T _ (tVar 0) (.m m (.list (ds.map fun x => x))) := ed_var (env := [.m m (.list ds), .no]) (by rw [map_id1]; rfl)
      refine sd_ret c (ed_if (e := .m .any (listD (.list ds))) (et_B (ed_isi2 (ed_var (e := .m m (.list ds))) kb_ll kb_lt)) (fun _ => ?_) (fun h => Bool.noConfusion h)) q
      rw [listD, listDs_map]
      exact ed_lcL1 listD e1 (by decide) (by omega) fun b hb => ed_call (en_one ed_var) ⟨m, b, rfl, hm b hb, rfl⟩
    | tuple ds =>
      obtain ⟨hz, hm⟩ := shS_tup hd
      refine ⟨_, (pss_one (ps_ret (pe_ifExp (pt_val (pe_callB (call_isiK2 K) (by rfl) B.isinstance bt_isinstance (pa_cons (pv 0) (pa_cons (pe_tup (pa_cons (pe_bltn (v := .ty "list") (by rfl) B.list bt_list rfl) (pa_cons (pe_bltn (v := .ty "tuple") (by rfl) B.tuple bt_tuple rfl) pa_nil))) pa_nil)))) (pe_lc (own := [("_law_bit", 1)]) (by rfl) sc_w_lists.nd (pi_tupK K (pv 0)) (blkOk_by (N := ["_law_matter", "_law_bit"]) (sc := defScope s_w_lists) (by decide +kernel)) (fun _ _ _ _ _ => (pg_name (i := 1) sc_w_lists.nd rfl (by first | exact .inl rfl | exact .inr rfl))) (fun _ _ _ _ _ => pts_nil) (fun _ _ _ _ _ => (pe_call C_w_lists.ok hr (by rfl) C_w_lists.g C_w_lists.kp C_w_lists.b .nil pass0 (pa_cons (pv 1) pa_nil)))) (pv 0)))), ?_⟩
      have e1 : ED T _ (tVar 0) (.m m (.tuple (ds.map fun x => x))) := ed_var (env := [.m m (.tuple ds), .no]) (by rw [map_id1]; rfl)
      refine sd_ret c (ed_if (e := .m .any (listD (.tuple ds))) (et_B (ed_isi2 (ed_var (e := .m m (.tuple ds))) kb_tl kb_tt)) (fun _ => ?_) (fun h => Bool.noConfusion h)) q
      rw [listD, listDs_map]
      exact ed_lcT1 listD e1 (by decide) (by omega) fun b hb => ed_call (en_one ed_var) ⟨m, b, rfl, hm b hb, rfl⟩
    | str x => exact text cdv A outer s H vs Q E S m x dom tab r (by rw [listD] at q; exact q)
    | none => exact Bool.noConfusion hd
    | bool _ => exact Bool.noConfusion hd
    | int _ => exact Bool.noConfusion hd
    | dict _ => exact Bool.noConfusion hd
theorem ok_w_half (B : Blt mg) {f f1 : Addr} {fd fd1 : FuncData} (F : Fun K "_law_half" "_law_half" s_w_half f fd) (n : Nat) (C_w_lists : Cal P w K mg base "_law_lists" (n + 1) ["_law_matter"] (PrR T (R_llists n)) f1 fd1) : FnOk P w K mg base CX0 (n + 2) f fd ["_law_matter"] (PrR T (R_lhalf n)) := by
  refine F.ok sc_w_half (PrR.len (n := 1) (fun es e ⟨_, _, h, _⟩ => by rw [h]; rfl) rfl) (fun cdv A outer s H vs Q E hr h => ?_)
  obtain ⟨S, es, e, dom, tab, r, ⟨m, ds, rfl, hd, rfl⟩, q⟩ := h
  obtain ⟨hz, hm⟩ := shS_tup hd
  have c := at_start (N := ["_law_matter", "_law_bit"]) dom tab r
  refine ⟨_, (pss_one (ps_ret (pe_callTy (call_tupK K) (by rfl) B.tuple bt_tuple (pa_cons (pe_lc (own := [("_law_bit", 1)]) (by rfl) sc_w_half.nd (pi_tupK K (pv 0)) (blkOk_by (N := ["_law_matter", "_law_bit"]) (sc := defScope s_w_half) (by decide +kernel)) (fun _ _ _ _ _ => (pg_name (i := 1) sc_w_half.nd rfl (by first | exact .inl rfl | exact .inr rfl))) (fun _ _ _ _ _ => pts_nil) (fun _ _ _ _ _ => (pe_call C_w_lists.ok hr (by rfl) C_w_lists.g C_w_lists.kp C_w_lists.b .nil pass0 (pa_cons (pv 1) pa_nil)))) pa_nil)))), ?_⟩
  have e1 : ED T _ (tVar 0) (.m m (.tuple (ds.map fun x => x))) := ed_var (env := [.m m (.tuple ds), .no]) (by rw [map_id1]; rfl)
  exact sd_ret c (ed_tupL (m := .any) (by intro z; cases z) (ed_lcT1 listD e1 (by decide) (by omega) fun b hb => ed_call (en_one ed_var) ⟨m, b, rfl, hm b hb, rfl⟩)) q
theorem ok_w_same (B : Blt mg) {f : Addr} {fd : FuncData} (F : Fun K "_law_same" "_law_same" s_w_same f fd) (g : mg "_law_same" = some (.ref f)) (b : Binds K fd ["_law_got", "_law_due"] []) : ∀ n : Nat, FnOk P w K mg base CX0 (n + 1) f fd ["_law_got", "_law_due"] (PrR T (R_lsame n)) := by
  have len : ∀ n, ∀ vs H Q E, PrR T (R_lsame n) vs H Q E → vs.length = (["_law_got", "_law_due"] : List Str).length := fun n => PrR.len (T := T) (R := R_lsame n) (n := 2) (fun es e h => by obtain ⟨_, _, _, h, _⟩ := h; rw [h]; rfl) rfl
  have text : ∀ (cdv : Value) (A : Around) (outer : List Env) (s : Shared) (H : Hp) (vs : List V) (Q : VK) (E : XK) (hr : Room 0 (A.deeper (envOfC "_law_same" (defScope s_w_same) s.heap.objs.size f cdv))) (S : List Addr) (m m' : Md) (x : Str), Dom S H → Tabs T H → EnL (hide S H) vs [.m m (.str x), .m m' (.str x)] → (∀ v H', Gd T H H' → EnR (hide S H') (.m .any (.bool true)) v → Q v H') →
      ∃ t, PSs (cxOf CX0 P w K mg base ["_law_got", "_law_due", "_law_like", "_law_mine", "_law_its"] "_law_same" (defScope s_w_same) f cdv A outer s H E).nox (defBody s_w_same) t ∧ t { nx := fun _ H' => Q .non H', rt := Q } (L2.start ["_law_got", "_law_due", "_law_like", "_law_mine", "_law_its"] vs) H := by
    intro cdv A outer s H vs Q E hr S m m' x dom tab r q
    have c := at_start (N := ["_law_got", "_law_due", "_law_like", "_law_mine", "_law_its"]) dom tab r
    refine ⟨_, (pss_cons (ps_if (pt_val (pe_callB (call_isiK2 K) (by rfl) B.isinstance bt_isinstance (pa_cons (pv 1) (pa_cons (pe_tup (pa_cons (pe_bltn (v := .ty "list") (by rfl) B.list bt_list rfl) (pa_cons (pe_bltn (v := .ty "tuple") (by rfl) B.tuple bt_tuple rfl) pa_nil))) pa_nil))))
      (pss_cons (ps_if (pt_cmpR op_ne (pe_callB (call_isiK1 K) (by rfl) B.isinstance bt_isinstance (pa_cons (pv 0) (pa_cons (pe_bltn (v := .ty "list") (by rfl) B.list bt_list rfl) pa_nil))) (pe_callB (call_isiK1 K) (by rfl) B.isinstance bt_isinstance (pa_cons (pv 1) (pa_cons (pe_bltn (v := .ty "list") (by rfl) B.list bt_list rfl) pa_nil))) (nomark _))
        (pss_one (ps_ret pe_bl))
        pss_nil)
      (pss_cons (ps_if (pt_cmpR op_ne (pe_callB (call_isiK1 K) (by rfl) B.isinstance bt_isinstance (pa_cons (pv 0) (pa_cons (pe_bltn (v := .ty "tuple") (by rfl) B.tuple bt_tuple rfl) pa_nil))) (pe_callB (call_isiK1 K) (by rfl) B.isinstance bt_isinstance (pa_cons (pv 1) (pa_cons (pe_bltn (v := .ty "tuple") (by rfl) B.tuple bt_tuple rfl) pa_nil))) (nomark _))
        (pss_one (ps_ret pe_bl))
        pss_nil)
      (pss_one (ps_ret (pe_and (pe_cmpR op_eq (pe_callB (call_lenK K) (by rfl) B.len bt_len (pa_cons (pv 0) pa_nil)) (pe_callB (call_lenK K) (by rfl) B.len bt_len (pa_cons (pv 1) pa_nil)) (nomark _)) (pe_one (pe_callB (cr_allK K rfl) (by rfl) B.all bt_all (pa_cons pe_never pa_nil))))))))
      pss_nil)
    (pss_cons (ps_if (PW.pt (pw_or (pt_cmpR op_isN (pv 1) pe_non (nomark _)) (pw_or1 (pt_val (pe_callB (call_isiK2 K) (by rfl) B.isinstance bt_isinstance (pa_cons (pv 1) (pa_cons (pe_tup (pa_cons (pe_bltn (v := .ty "bool") (by rfl) B.bool bt_bool rfl) (pa_cons (pe_bltn (v := .ty "str") (by rfl) B.str bt_str rfl) pa_nil))) pa_nil)))))))
      (pss_cons (ps_set (i := 2) sc_w_same.nd rfl (.inl rfl) (pe_and (pe_cmpR op_eq (pe_callB (call_isiK1 K) (by rfl) B.isinstance bt_isinstance (pa_cons (pv 0) (pa_cons (pe_bltn (v := .ty "bool") (by rfl) B.bool bt_bool rfl) pa_nil))) (pe_callB (call_isiK1 K) (by rfl) B.isinstance bt_isinstance (pa_cons (pv 1) (pa_cons (pe_bltn (v := .ty "bool") (by rfl) B.bool bt_bool rfl) pa_nil))) (nomark _)) (pe_one (pe_cmpR op_eq (pe_cmpR op_isN (pv 0) pe_non (nomark _)) (pe_cmpR op_isN (pv 1) pe_non (nomark _)) (nomark _)))))
      (pss_one (ps_ret (pe_and (pv 2) (pe_one (pe_cmpR op_eq (pv 0) (pv 1) (nomark _)))))))
      pss_nil)
    (pss_one (ps_ret (pe_and (pe_callB (call_isiK1 K) (by rfl) B.isinstance bt_isinstance (pa_cons (pv 0) (pa_cons (pe_bltn (v := .ty "int") (by rfl) B.int bt_int rfl) pa_nil))) (pe_and (pe_not (pe_callB (call_isiK1 K) (by rfl) B.isinstance bt_isinstance (pa_cons (pv 0) (pa_cons (pe_bltn (v := .ty "bool") (by rfl) B.bool bt_bool rfl) pa_nil)))) (pe_one (pe_cmpR op_eq (pv 0) (pv 1) (nomark _))))))))), ?_⟩
    refine sd_if c (et_B (ed_isi2 (ed_var (e := .m m' (.str x))) kb_sl kb_st)) (fun h => Bool.noConfusion h) (fun _ H1 g1 c1 => ?_)
    refine sd_if (b := true) c1 (et_or (a := false) (b := true) (et_test (m := .any) (ed_isN (ed_var (e := .m m' (.str x))))) fun _ => et_B (ed_isi2 (ed_var (e := .m m' (.str x))) kb_sb kb_ss)) (fun _ H2 g2 c2 => ?_) (fun h => Bool.noConfusion h)
    refine sd_set c2 (e := .m .any (.bool true)) (ed_andV (a := true) (b := true) (m := .any) (m' := .any) (ed_eqA (d := .bool false) rfl (ed_isi1 (ed_var (e := .m m (.str x))) kb_sb) (ed_isi1 (ed_var (e := .m m' (.str x))) kb_sb)) fun _ => ed_eqA (d := .bool false) rfl (ed_isN (ed_var (e := .m m (.str x)))) (ed_isN (ed_var (e := .m m' (.str x))))) fun σ3 H3 g3 c3 => ?_
    exact sd_ret c3 (ed_andV (a := true) (b := true) (m := .any) (m' := .any) (ed_var (e := .m .any (.bool true))) fun _ => ed_eqA (d := .str x) rfl (ed_var (e := .m m (.str x))) (ed_var (e := .m m' (.str x)))) fun v H4 g4 r4 => q v H4 (((g1.trans g2).trans g3).trans g4) r4
  intro n
  induction n with
  | zero =>
    refine F.ok sc_w_same (len 0) (fun cdv A outer s H vs Q E hr h => ?_)
    obtain ⟨S, es, e, dom, tab, r, ⟨m, m', d, rfl, hd, rfl⟩, q⟩ := h
    cases d <;> first | exact Bool.noConfusion hd | skip
    exact text cdv A outer s H vs Q E hr S m m' _ dom tab r q
  | succ n ih =>
    have C_w_same : Cal P w K mg base "_law_same" (n + 1) ["_law_got", "_law_due"] (PrR T (R_lsame n)) f fd := ⟨ih, g, F.kp, b⟩
    refine F.ok sc_w_same (len (n + 1)) (fun cdv A outer s H vs Q E hr h => ?_)
    obtain ⟨S, es, e, dom, tab, r, ⟨m, m', d, rfl, hd, rfl⟩, q⟩ := h
    have c := at_start (N := ["_law_got", "_law_due", "_law_like", "_law_mine", "_law_its"]) dom tab r
    have allT : ∀ l : List PyData, ((l.map fun _ => true).map PyData.bool) = l.map fun _ => .bool true := fun l => by rw [List.map_map]; rfl
    have anyT : ∀ l : List PyData, (l.map fun _ => true).all id = true := fun l => by rw [List.all_eq_true]; intro x hx; obtain ⟨_, _, rfl⟩ := List.mem_map.mp hx; rfl
    cases d with
    | list ds =>
      obtain ⟨hz, hm⟩ := shS_list hd
      refine ⟨_, (pss_cons (ps_if (pt_val (pe_callB (call_isiK2 K) (by rfl) B.isinstance bt_isinstance (pa_cons (pv 1) (pa_cons (pe_tup (pa_cons (pe_bltn (v := .ty "list") (by rfl) B.list bt_list rfl) (pa_cons (pe_bltn (v := .ty "tuple") (by rfl) B.tuple bt_tuple rfl) pa_nil))) pa_nil))))
      (pss_cons (ps_if (pt_cmpR op_ne (pe_callB (call_isiK1 K) (by rfl) B.isinstance bt_isinstance (pa_cons (pv 0) (pa_cons (pe_bltn (v := .ty "list") (by rfl) B.list bt_list rfl) pa_nil))) (pe_callB (call_isiK1 K) (by rfl) B.isinstance bt_isinstance (pa_cons (pv 1) (pa_cons (pe_bltn (v := .ty "list") (by rfl) B.list bt_list rfl) pa_nil))) (nomark _))
        (pss_one (ps_ret pe_bl))
        pss_nil)
      (pss_cons (ps_if (pt_cmpR op_ne (pe_callB (call_isiK1 K) (by rfl) B.isinstance bt_isinstance (pa_cons (pv 0) (pa_cons (pe_bltn (v := .ty "tuple") (by rfl) B.tuple bt_tuple rfl) pa_nil))) (pe_callB (call_isiK1 K) (by rfl) B.isinstance bt_isinstance (pa_cons (pv 1) (pa_cons (pe_bltn (v := .ty "tuple") (by rfl) B.tuple bt_tuple rfl) pa_nil))) (nomark _))
        (pss_one (ps_ret pe_bl))
        pss_nil)
      (pss_one (ps_ret (pe_and (pe_cmpR op_eq (pe_callB (call_lenK K) (by rfl) B.len bt_len (pa_cons (pv 0) pa_nil)) (pe_callB (call_lenK K) (by rfl) B.len bt_len (pa_cons (pv 1) pa_nil)) (nomark _)) (pe_one (pe_callB (cr_allK K rfl) (by rfl) B.all bt_all (pa_cons (pe_lc (own := [("_law_mine", 3), ("_law_its", 4)]) (by rfl) sc_w_same.nd (pi_zipA (by rfl) B.zip (pa_cons (pv 0) (pa_cons (pv 1) pa_nil))) (blkOk_by (N := ["_law_got", "_law_due", "_law_like", "_law_mine", "_law_its"]) (sc := defScope s_w_same) (by decide +kernel)) (fun _ _ _ _ _ => (pg_tupK (n := 2) K rfl (pgs_cons (pg_name (i := 3) sc_w_same.nd rfl (by first | exact .inl rfl | exact .inr rfl)) (pgs_cons (pg_name (i := 4) sc_w_same.nd rfl (by first | exact .inl rfl | exact .inr rfl)) pgs_nil)) (by rfl) (by rfl))) (fun _ _ _ _ _ => pts_nil) (fun _ _ _ _ _ => (pe_call C_w_same.ok hr (by rfl) C_w_same.g C_w_same.kp C_w_same.b .nil pass0 (pa_cons (pv 3) (pa_cons (pv 4) pa_nil))))) pa_nil))))))))
      pss_nil)
    (pss_cons (ps_if (PW.pt (pw_or (pt_cmpR op_isN (pv 1) pe_non (nomark _)) (pw_or1 (pt_val (pe_callB (call_isiK2 K) (by rfl) B.isinstance bt_isinstance (pa_cons (pv 1) (pa_cons (pe_tup (pa_cons (pe_bltn (v := .ty "bool") (by rfl) B.bool bt_bool rfl) (pa_cons (pe_bltn (v := .ty "str") (by rfl) B.str bt_str rfl) pa_nil))) pa_nil)))))))
      (pss_cons (ps_set (i := 2) sc_w_same.nd rfl (.inl rfl) (pe_and (pe_cmpR op_eq (pe_callB (call_isiK1 K) (by rfl) B.isinstance bt_isinstance (pa_cons (pv 0) (pa_cons (pe_bltn (v := .ty "bool") (by rfl) B.bool bt_bool rfl) pa_nil))) (pe_callB (call_isiK1 K) (by rfl) B.isinstance bt_isinstance (pa_cons (pv 1) (pa_cons (pe_bltn (v := .ty "bool") (by rfl) B.bool bt_bool rfl) pa_nil))) (nomark _)) (pe_one (pe_cmpR op_eq (pe_cmpR op_isN (pv 0) pe_non (nomark _)) (pe_cmpR op_isN (pv 1) pe_non (nomark _)) (nomark _)))))
      (pss_one (ps_ret (pe_and (pv 2) (pe_one (pe_cmpR op_eq (pv 0) (pv 1) (nomark _)))))))
      pss_nil)
    (pss_one (ps_ret (pe_and (pe_callB (call_isiK1 K) (by rfl) B.isinstance bt_isinstance (pa_cons (pv 0) (pa_cons (pe_bltn (v := .ty "int") (by rfl) B.int bt_int rfl) pa_nil))) (pe_and (pe_not (pe_callB (call_isiK1 K) (by rfl) B.isinstance bt_isinstance (pa_cons (pv 0) (pa_cons (pe_bltn (v := .ty "bool") (by rfl) B.bool bt_bool rfl) pa_nil)))) (pe_one (pe_cmpR op_eq (pv 0) (pv 1) (nomark _))))))))), ?_⟩
      refine sd_if c (b := true) (et_B (ED.is (ed_isi2 (ed_var (e := .m m' (.list ds))) kb_ll kb_lt) rfl)) (fun _ H1 g1 c1 => ?_) (fun h => Bool.noConfusion h)
      refine sd_if c1 (b := false) (et_test (m := .any) (ed_neA (d := .bool true) rfl (ed_isi1 (ed_var (e := .m m (.list ds))) kb_ll) (ed_isi1 (ed_var (e := .m m' (.list ds))) kb_ll))) (fun h => Bool.noConfusion h) (fun _ H2 g2 c2 => ?_)
      refine sd_if c2 (b := false) (et_test (m := .any) (ed_neA (d := .bool false) rfl (ed_isi1 (ed_var (e := .m m (.list ds))) kb_lt) (ed_isi1 (ed_var (e := .m m' (.list ds))) kb_lt))) (fun h => Bool.noConfusion h) (fun _ H3 g3 c3 => ?_)
      refine sd_ret c3 (ED.is (ed_andV (a := true) (b := (ds.map fun _ => true).all id) (m := .any) (m' := .any) (ED.is (ed_eqI (m := .any) (m' := .any) (ed_lenL (m := m) (ds := ds) ed_var) (ed_lenL (m := m') (ds := ds) ed_var)) (by rw [decide_eq_true rfl])) fun _ => ed_all (m := .any) (ED.is (ed_lcZip (m := m) (m' := m') (m'' := .any) (ds := ds) (f := fun _ => .bool true) (.inl (en_two ed_var ed_var)) (by decide) (by decide) hz fun d hd' => ed_call (en_two ed_var ed_var) ⟨.any, .any, d, rfl, hm d hd', rfl⟩) (by rw [allT]))) (by rw [anyT]; rfl)) fun v H4 g4 r4 => q v H4 (((g1.trans g2).trans g3).trans g4) r4
    | tuple ds =>
      obtain ⟨hz, hm⟩ := shS_tup hd
      refine ⟨_, (pss_cons (ps_if (pt_val (pe_callB (call_isiK2 K) (by rfl) B.isinstance bt_isinstance (pa_cons (pv 1) (pa_cons (pe_tup (pa_cons (pe_bltn (v := .ty "list") (by rfl) B.list bt_list rfl) (pa_cons (pe_bltn (v := .ty "tuple") (by rfl) B.tuple bt_tuple rfl) pa_nil))) pa_nil))))
      (pss_cons (ps_if (pt_cmpR op_ne (pe_callB (call_isiK1 K) (by rfl) B.isinstance bt_isinstance (pa_cons (pv 0) (pa_cons (pe_bltn (v := .ty "list") (by rfl) B.list bt_list rfl) pa_nil))) (pe_callB (call_isiK1 K) (by rfl) B.isinstance bt_isinstance (pa_cons (pv 1) (pa_cons (pe_bltn (v := .ty "list") (by rfl) B.list bt_list rfl) pa_nil))) (nomark _))
        (pss_one (ps_ret pe_bl))
        pss_nil)
      (pss_cons (ps_if (pt_cmpR op_ne (pe_callB (call_isiK1 K) (by rfl) B.isinstance bt_isinstance (pa_cons (pv 0) (pa_cons (pe_bltn (v := .ty "tuple") (by rfl) B.tuple bt_tuple rfl) pa_nil))) (pe_callB (call_isiK1 K) (by rfl) B.isinstance bt_isinstance (pa_cons (pv 1) (pa_cons (pe_bltn (v := .ty "tuple") (by rfl) B.tuple bt_tuple rfl) pa_nil))) (nomark _))
        (pss_one (ps_ret pe_bl))
        pss_nil)
      (pss_one (ps_ret (pe_and (pe_cmpR op_eq (pe_callB (call_lenK K) (by rfl) B.len bt_len (pa_cons (pv 0) pa_nil)) (pe_callB (call_lenK K) (by rfl) B.len bt_len (pa_cons (pv 1) pa_nil)) (nomark _)) (pe_one (pe_callB (cr_allK K rfl) (by rfl) B.all bt_all (pa_cons (pe_lc (own := [("_law_mine", 3), ("_law_its", 4)]) (by rfl) sc_w_same.nd (pi_zipA (by rfl) B.zip (pa_cons (pv 0) (pa_cons (pv 1) pa_nil))) (blkOk_by (N := ["_law_got", "_law_due", "_law_like", "_law_mine", "_law_its"]) (sc := defScope s_w_same) (by decide +kernel)) (fun _ _ _ _ _ => (pg_tupK (n := 2) K rfl (pgs_cons (pg_name (i := 3) sc_w_same.nd rfl (by first | exact .inl rfl | exact .inr rfl)) (pgs_cons (pg_name (i := 4) sc_w_same.nd rfl (by first | exact .inl rfl | exact .inr rfl)) pgs_nil)) (by rfl) (by rfl))) (fun _ _ _ _ _ => pts_nil) (fun _ _ _ _ _ => (pe_call C_w_same.ok hr (by rfl) C_w_same.g C_w_same.kp C_w_same.b .nil pass0 (pa_cons (pv 3) (pa_cons (pv 4) pa_nil))))) pa_nil))))))))
      pss_nil)
    (pss_cons (ps_if (PW.pt (pw_or (pt_cmpR op_isN (pv 1) pe_non (nomark _)) (pw_or1 (pt_val (pe_callB (call_isiK2 K) (by rfl) B.isinstance bt_isinstance (pa_cons (pv 1) (pa_cons (pe_tup (pa_cons (pe_bltn (v := .ty "bool") (by rfl) B.bool bt_bool rfl) (pa_cons (pe_bltn (v := .ty "str") (by rfl) B.str bt_str rfl) pa_nil))) pa_nil)))))))
      (pss_cons (ps_set (i := 2) sc_w_same.nd rfl (.inl rfl) (pe_and (pe_cmpR op_eq (pe_callB (call_isiK1 K) (by rfl) B.isinstance bt_isinstance (pa_cons (pv 0) (pa_cons (pe_bltn (v := .ty "bool") (by rfl) B.bool bt_bool rfl) pa_nil))) (pe_callB (call_isiK1 K) (by rfl) B.isinstance bt_isinstance (pa_cons (pv 1) (pa_cons (pe_bltn (v := .ty "bool") (by rfl) B.bool bt_bool rfl) pa_nil))) (nomark _)) (pe_one (pe_cmpR op_eq (pe_cmpR op_isN (pv 0) pe_non (nomark _)) (pe_cmpR op_isN (pv 1) pe_non (nomark _)) (nomark _)))))
      (pss_one (ps_ret (pe_and (pv 2) (pe_one (pe_cmpR op_eq (pv 0) (pv 1) (nomark _)))))))
      pss_nil)
    (pss_one (ps_ret (pe_and (pe_callB (call_isiK1 K) (by rfl) B.isinstance bt_isinstance (pa_cons (pv 0) (pa_cons (pe_bltn (v := .ty "int") (by rfl) B.int bt_int rfl) pa_nil))) (pe_and (pe_not (pe_callB (call_isiK1 K) (by rfl) B.isinstance bt_isinstance (pa_cons (pv 0) (pa_cons (pe_bltn (v := .ty "bool") (by rfl) B.bool bt_bool rfl) pa_nil)))) (pe_one (pe_cmpR op_eq (pv 0) (pv 1) (nomark _))))))))), ?_⟩
      refine sd_if c (b := true) (et_B (ED.is (ed_isi2 (ed_var (e := .m m' (.tuple ds))) kb_tl kb_tt) rfl)) (fun _ H1 g1 c1 => ?_) (fun h => Bool.noConfusion h)
      refine sd_if c1 (b := false) (et_test (m := .any) (ed_neA (d := .bool false) rfl (ed_isi1 (ed_var (e := .m m (.tuple ds))) kb_tl) (ed_isi1 (ed_var (e := .m m' (.tuple ds))) kb_tl))) (fun h => Bool.noConfusion h) (fun _ H2 g2 c2 => ?_)
      refine sd_if c2 (b := false) (et_test (m := .any) (ed_neA (d := .bool true) rfl (ed_isi1 (ed_var (e := .m m (.tuple ds))) kb_tt) (ed_isi1 (ed_var (e := .m m' (.tuple ds))) kb_tt))) (fun h => Bool.noConfusion h) (fun _ H3 g3 c3 => ?_)
      refine sd_ret c3 (ED.is (ed_andV (a := true) (b := (ds.map fun _ => true).all id) (m := .any) (m' := .any) (ED.is (ed_eqI (m := .any) (m' := .any) (ed_lenT (m := m) (ds := ds) ed_var) (ed_lenT (m := m') (ds := ds) ed_var)) (by rw [decide_eq_true rfl])) fun _ => ed_all (m := .any) (ED.is (ed_lcZip (m := m) (m' := m') (m'' := .any) (ds := ds) (f := fun _ => .bool true) (.inr (en_two ed_var ed_var)) (by decide) (by decide) hz fun d hd' => ed_call (en_two ed_var ed_var) ⟨.any, .any, d, rfl, hm d hd', rfl⟩) (by rw [allT]))) (by rw [anyT]; rfl)) fun v H4 g4 r4 => q v H4 (((g1.trans g2).trans g3).trans g4) r4
    | str x => exact text cdv A outer s H vs Q E (hr.mono (by omega)) S m m' x dom tab r q
    | none => exact Bool.noConfusion hd
    | bool _ => exact Bool.noConfusion hd
    | int _ => exact Bool.noConfusion hd
    | dict _ => exact Bool.noConfusion hd
end
end K28
set_option Elab.async false
set_option linter.all false
set_option maxRecDepth 100000
set_option maxHeartbeats 4000000
/-! tuple of a text; t[::-1]; a list * n; calls by a keyword alone -/
namespace K28T
open PySem PySem.Calls PySem.Spec PyProof.Rows L2
section
variable {prog : Program} {w : World} {A : Around} {E : Value → Shared → Prop} {s : Shared}
theorem code_tuple_new_str {x : Str} {t : Tok} {Q₁ : Value → Shared → Prop} (hh : A.handled = none) (hn : x.cps.size ≤ sizeLine)
    (h : ∀ (s' : Shared) (acc : Array Value), (∀ b o, s.heap.get? b = some o → s'.heap.get? b = some o) → s'.gens = s.gens → s'.drawn = s.drawn → s'.os = s.os → ItemsOf (SignAt x) acc x.cps.size →
      Q₁ (.ref s'.heap.objs.size) { s' with heap := s'.heap.push { cls := .type "tuple", data := .seq acc } }) :
    codeAny (model prog w) A (.call (.builtin "tuple.__new__") ⟨[.type "tuple", .str x t], []⟩) (wants Q₁ E) s := by
  refine codeAny_of_tree ?_
  show wpAny _ A.in1 (do checkBuiltinCall "tuple.__new__" ⟨[.type "tuple", .str x t], []⟩; again (.builtin "tuple.__new__" ⟨[.type "tuple", .str x t], []⟩)) _ _ s
  refine wpAny_bind (wpAny_of_eq (F.newCall_tuple_1 _) (wpAny_pure ⟨plainId_quiet F.plain_tuple_new _, codeAny_builtin F.entry_tuple_new ?_⟩))
  rw [Around.under_plainId F.plain_tuple_new _]
  have hsub := sub_tuple_self
  have hinit := init_tuple_lookup
  have hmh := madeHere_tuple
  have hh1 : A.in1.handled = none := hh
  wp_walk using wpAny_typeOf (typeIs_str s x t), wpAny_collect_str (A := A.in1) (hn := hn) hh1 x t
  intro s' acc hk hg hd ho hacc
  show wpAny _ _ (Builtin.Tuple.tupleExact acc.toList.toArray >>= fun v => ret v) _ _ _
  unfold Builtin.Tuple.tupleExact
  refine wpAny_bind (wpAny_newObj_type ?_ (by show acc.toList.toArray.size ≤ sizeLine; simp only [Array.toArray_toList]; rw [hacc.1]; exact hn))
  refine wpAny_pure ?_
  have e : acc.toList.toArray = acc := by simp
  rw [e]
  exact h s' acc hk hg hd ho hacc
theorem call_tuple_str {x : Str} {t : Tok} {Q : Value → Shared → Prop} (hh : A.handled = none) (hn : x.cps.size ≤ sizeLine)
    (hQ : ∀ (s' : Shared) (acc : Array Value), (∀ b o, s.heap.get? b = some o → s'.heap.get? b = some o) → s'.gens = s.gens → s'.drawn = s.drawn → s'.os = s.os → ItemsOf (SignAt x) acc x.cps.size →
      Q (.ref s'.heap.objs.size) { s' with heap := s'.heap.push { cls := .type "tuple", data := .seq acc } }) :
    wpAny (model prog w) A (call (.type "tuple") [.str x t]) Q E s := by
  refine callType_codes (Q₁ := fun obj s₁ => s₁.TypeIs obj "tuple" ∧ Q obj s₁) F.called_tuple (F.typeCall_tuple_1 _) F.entry_object_init
    (code_tuple_new_str (A := A.in1) hh hn fun s' acc hk hg hd ho hacc => ⟨⟨_, Heap.get?_push_size _ rfl, rfl⟩, hQ s' acc hk hg hd ho hacc⟩) fun obj s₁ h₁ => ?_
  exact ⟨h₁.1, F.args_object_init_2 obj _, object_init_meets F.called_tuple.init.lookup F.called_tuple.made (by decide) prog w A.in1 _ s₁ ⟨h₁.1, rfl, h₁.2⟩⟩
/-- t[::-1] -/
theorem sliceApplied_rev {sl : Addr} {vl vu vs : Value} {n : Nat} {Q : Int × Int × Nat → Shared → Prop} (hs : s.heap.IsSliceOf sl vl vu vs) (pl : IsPart vl none) (pu : IsPart vu none) (ps : IsPart vs (some (-1))) (hn : 0 < n)
    (h : Q ((n : Int) - 1, -1, n) s) : wpAny (model prog w) A (Builtin.Slice.sliceApplied (.ref sl) (pure (n : Int))) Q E s := by
  obtain ⟨os, hos, hcs, hds⟩ := id hs
  unfold Builtin.Slice.sliceApplied Builtin.Slice.sliceFields
  refine wpAny_bind (wpAny_bind (wpAny_field hos hds (x := vl) rfl (wpAny_bind (wpAny_field hos hds (x := vu) rfl (wpAny_bind (wpAny_field hos hds (x := vs) rfl (wpAny_pure ?_)))))))
  refine wpAny_bind (HT.slicePart_ ps ?_)
  show wpAny _ _ (if ((-1 : Int) == 0) = true then _ else _) _ _ s
  rw [if_neg (by decide)]
  refine wpAny_bind (HT.slicePart_ pl (wpAny_bind (HT.slicePart_ pu (wpAny_bind (wpAny_pure ?_)))))
  show wpAny _ _ (match Builtin.Slice.sliceAdjust none none (-1) (n : Int) with | (lo, hi) => pure (lo, (-1 : Int), Builtin.Slice.slicePlaces lo hi (-1))) _ _ s
  have e1 : Builtin.Slice.sliceAdjust none none (-1) (n : Int) = ((n : Int) - 1, -1) := by
    unfold Builtin.Slice.sliceAdjust
    simp
  rw [e1]
  show wpAny _ _ (pure ((n : Int) - 1, (-1 : Int), Builtin.Slice.slicePlaces ((n : Int) - 1) (-1) (-1))) _ _ s
  have e2 : Builtin.Slice.slicePlaces ((n : Int) - 1) (-1) (-1) = n := by
    unfold Builtin.Slice.slicePlaces
    rw [if_neg (by decide), if_pos (by omega)]
    simp
  rw [e2]
  exact wpAny_pure h
theorem pick_rev (xs : Array Value) : ((List.range xs.size).filterMap fun (m : Nat) => xs[(((xs.size : Nat) : Int) - 1 + (m : Int) * -1).toNat]?).toArray = xs.toList.reverse.toArray := by
  have e : ((List.range xs.size).filterMap fun (m : Nat) => xs[(((xs.size : Nat) : Int) - 1 + (m : Int) * -1).toNat]?) = (List.range xs.size).filterMap fun m => xs[xs.size - 1 - m]? := by
    have gen : ∀ l : List Nat, (∀ m ∈ l, m < xs.size) → (l.filterMap fun (m : Nat) => xs[(((xs.size : Nat) : Int) - 1 + (m : Int) * -1).toNat]?) = l.filterMap fun m => xs[xs.size - 1 - m]? := by
      intro l
      induction l with
      | nil => intro _; rfl
      | cons m l ih =>
        intro hl
        have hm := hl m List.mem_cons_self
        have e0 : (((xs.size : Nat) : Int) - 1 + (m : Int) * -1).toNat = xs.size - 1 - m := by omega
        rw [List.filterMap_cons, List.filterMap_cons, ih fun x hx => hl x (List.mem_cons_of_mem _ hx), e0]
    exact gen _ fun m hm => List.mem_range.mp hm
  rw [e]
  have e3 : (List.range xs.size).filterMap (fun m => xs[xs.size - 1 - m]?) = ((List.range xs.size).map fun k => xs.size - 1 - k).filterMap (xs[·]?) := by rw [List.filterMap_map]; rfl
  rw [e3, PySem.W.krv_range, List.filterMap_reverse, PySem.W.krv_all]
theorem getItem_tuple_rev {t sl : Addr} {items : Array Value} {vl vu vs : Value} {Q : Value → Shared → Prop} (ht : IsTup s.heap t items) (hs : s.heap.IsSliceOf sl vl vu vs) (pl : IsPart vl none) (pu : IsPart vu none) (ps : IsPart vs (some (-1))) (h0 : 0 < items.size)
    (h : Q (.ref s.heap.objs.size) { s with heap := s.heap.push { cls := .type "tuple", data := .seq items.toList.reverse.toArray } })
    (hsz : items.size ≤ sizeLine) : wpAny (model prog w) A (getItem (.ref t) (.ref sl)) Q E s := by
  have htake : sizeOk (.seq items.toList.reverse.toArray) := by
    show items.toList.reverse.toArray.size ≤ sizeLine
    rw [List.size_toArray, List.length_reverse, Array.length_toList]
    exact hsz
  obtain ⟨os, hos, hcs, hds⟩ := id hs
  have hTs : s.TypeIs (.ref sl) "slice" := ⟨os, hos, hcs⟩
  unfold getItem
  try with_reducible refine wpAny_holding ?_
  first | refine wpAny_bind (wpAny_pure ?_) | skip
  refine wpAny_bind (wpAny_sequenceKey ht.typeIs (by decide) ?_)
  refine wpAny_bind (wpAny_callSpecial?_slot (name := Str.ofString "__getitem__") ht.typeIs PyProof.Rows.slot_tuple_getitem
    (wpAny_call_entry PyProof.Rows.slot_tuple_getitem ht.typeIs entry_tuple_getitem ?_ (args_tuple_getitem _ _)))
  show wpAny _ _ (Builtin.Tuple.tupleItemsOf (.ref t) >>= _) _ _ s
  refine wpAny_bind (tupleItemsOf_ ht ?_)
  refine wpAny_bind (wpAny_typeOf hTs ?_)
  rw [if_pos (by decide)]
  refine wpAny_bind (sliceApplied_rev hs pl pu ps h0 ?_)
  have hno : ¬ ((((items.size : Nat) : Int) - 1 == 0 && (-1 : Int) == 1 && items.size == items.size) = true) := by
    intro q
    rw [Bool.and_eq_true, Bool.and_eq_true] at q
    exact absurd (eq_of_beq q.1.2) (by decide)
  show wpAny _ _ (if (((items.size : Nat) : Int) - 1 == 0 && (-1 : Int) == 1 && items.size == items.size) = true then _ else _) _ _ s
  rw [if_neg hno, pick_rev]
  first
    | exact wpAny_bind (m := Builtin.Tuple.tupleExact _) (wpAny_newObj_type (wpAny_pure ⟨_, rfl, wpAny_pure h⟩) htake)
    | exact wpAny_bind (m := Builtin.Tuple.tupleExact _) (wpAny_newObj_type (wpAny_bind (wpAny_pure (wpAny_pure ⟨_, rfl, wpAny_pure h⟩))) htake)
    | exact wpAny_bind (wpAny_bind (m := Builtin.Tuple.tupleExact _) (wpAny_newObj_type (wpAny_pure (wpAny_pure ⟨_, rfl, wpAny_pure h⟩)) htake))
    | exact wpAny_bind (wpAny_bind (m := Builtin.Tuple.tupleExact _) (wpAny_newObj_type (wpAny_pure ⟨_, rfl, wpAny_pure h⟩) htake))
end
end K28T
namespace K28
open PySem PySem.Spec PyProof.Rows L2 LamX PySem.W
def chars (z : Str) : List Str := z.cps.toList.map fun c => ⟨#[c]⟩
def rTupStr : List V → Hp → VK → Prop := fun xs H Q => ∃ z : Str, xs = [V.str z] ∧ z.cps.size ≤ 1000 ∧ ∀ l, H l = none → Q (.ref l) (upd H l (.tup ((chars z).map V.str)))
section
variable {X : Cx}
theorem call_tuple_text (hc : X.calm = true) : CallR X (.type "tuple") rTupStr := by
  intro pins s σ H xs us Q I r h
  obtain ⟨z, rfl, hz, q⟩ := h
  obtain ⟨u, rfl, t, rfl⟩ := vals1 r
  have hzl : z.cps.size ≤ sizeLine := small (by omega)
  refine K28T.call_tuple_str (I.ok.hd hc) hzl fun s' acc hk hg hd ho hacc => ?_
  have hv : Vals ((chars z).map V.str) acc.toList := by
    have gen : ∀ (cs : List Nat) (l : List Value), True := fun _ _ => trivial
    have hl : ((chars z).map V.str).length = acc.toList.length := by
      unfold chars
      rw [List.length_map, List.length_map, Array.length_toList, Array.length_toList, hacc.1]
    have each : ∀ (i : Nat) (v : V) (u : Value), ((chars z).map V.str)[i]? = some v → acc.toList[i]? = some u → RelV v u := by
      intro i v u hv hu
      unfold chars at hv
      rw [List.map_map, List.getElem?_map, Option.map_eq_some_iff] at hv
      obtain ⟨c, hc, rfl⟩ := hv
      rw [Array.getElem?_toList] at hu hc
      obtain ⟨c', t', hc', rfl⟩ := hacc.2 i u hu
      rw [hc] at hc'
      cases hc'
      exact ⟨t', rfl⟩
    generalize (chars z).map V.str = vs at hl each
    generalize acc.toList = us at hl each
    clear hacc
    induction vs generalizing us with
    | nil => cases us with
      | nil => exact .nil
      | cons _ _ => cases hl
    | cons v vs ih => cases us with
      | nil => cases hl
      | cons u us => exact .cons (each 0 v u rfl rfl) (ih us (by simpa using hl) fun i v u h1 h2 => each (i + 1) v u (by simpa using h1) (by simpa using h2))
  obtain ⟨hp, g, dr, tk, os⟩ := s'
  have hg : g = s.gens := hg
  have hd : dr = s.drawn := hd
  have ho : os = s.os := ho
  subst hg; subst hd; subst ho
  have I1 : Inv X pins σ H { s with heap := hp, toks := tk } := I.kept hk
  have lz : ((chars z).map V.str).length ≤ sizeLine := by unfold chars; rw [List.length_map, List.length_map, Array.length_toList]; exact hzl
  exact ⟨.ref hp.objs.size, _, I1.laid (t' := tk) (o := .tup ((chars z).map V.str)) (fun b o e => Heap.get?_push_of_some _ e) (Nat.le_refl _) ⟨lz, acc.toList, hv, (by rw [Array.toArray_toList]; exact ⟨_, Heap.get?_push_size _ rfl, rfl, 0, rfl⟩)⟩, rfl, q _ (I1.hok.fresh (Nat.le_refl _))⟩
def tRevT (K : PySem.W.Frag) (te : TE) : TE := fun σ H Q => te σ H fun x H1 => ∃ a xs, x = .ref a ∧ SqT K H1 a xs ∧ xs ≠ [] ∧ ∀ p, H1 p = none → Q (.ref p) (upd H1 p (.tup xs.reverse))
theorem pe_rev {e : Expr} {te : TE} {k : Nat} {p1 p2 p3 pos : Pos} (he : PE X e te) : PE X (.Subscript e (.Slice none none (some (.UnaryOp .USub (.Constant (.int 1) k p1) p2)) p3) pos) (tRevT X.K te) := by
  refine ⟨fun pins s σ H Q I h => ?_⟩
  refine Subscript_ (thn (he.run pins s σ H _ I h) fun v s1 ⟨x, H1, I1, r1, q1⟩ => ?_)
  obtain ⟨a, xs, ex, hx, hne, q⟩ := q1
  subst ex
  cases r1
  have hst : PO X (some (.UnaryOp .USub (.Constant (.int 1) k p1) p2)) (tPart (tUn (rU fun i => .int (-i)) (tC (.int 1)))) := po_some (pe_un un_neg pe_int)
  refine wpAny_Slice (thn (po_none.run pins s1 σ H1 (fun o H2 => o = none ∧ H2 = H1) I1 ⟨rfl, rfl⟩) fun vl s2 ⟨l, H2, I2, pl, el, e2⟩ => ?_)
  subst el e2
  refine thn (po_none.run pins s2 σ H2 (fun o H3 => o = none ∧ H3 = H2) I2 ⟨rfl, rfl⟩) fun vu s3 ⟨u, H3, I3, pu, eu, e3⟩ => ?_
  subst eu e3
  refine thn (hst.run pins s3 σ H3 (fun o H4 => o = some (-1) ∧ H4 = H3) I3 ⟨1, rfl, -1, rfl, rfl, rfl⟩) fun vs s4 ⟨o, H4, I4, ps, eo, e4⟩ => ?_
  subst eo e4
  have I5 : Inv X pins σ H4 { s4 with heap := s4.heap.push { cls := .type "slice", data := .fields #[vl, vu, vs] } } := I4.kept (t' := s4.toks) fun b ob q => Heap.get?_push_of_some _ q
  obtain ⟨its, r, ht, hz⟩ := I5.tuple hx
  have hlen := r.length
  have hpos := List.length_pos_iff.mpr hne
  show wpAny (model X.prog X.w) X.A (subscriptTail e (.Slice none none (some (.UnaryOp .USub (.Constant (.int 1) k p1) p2)) p3) (.ref a) (.ref s4.heap.objs.size)) (EP X pins σ Q) X.xe { s4 with heap := s4.heap.push { cls := .type "slice", data := .fields #[vl, vu, vs] } }
  refine tail_any (ops := [.ref a, .ref s4.heap.objs.size]) ht.typeIs (PyProof.Rows.slot_tuple_getitem.lookup) ?_ (by with_unfolding_all rfl)
  refine K28T.getItem_tuple_rev ht (Heap.IsSliceOf.new _ vl vu vs) pl pu ps (by rw [List.size_toArray]; omega) ?_ (by rw [List.size_toArray]; omega)
  refine ⟨.ref _, _, I5.laid (t' := s4.toks) (o := .tup xs.reverse) (fun b ob q => Heap.get?_push_of_some _ q) (Nat.le_refl _) ?_, rfl, q _ (I5.hok.fresh (Nat.le_refl _))⟩
  exact ⟨by rw [List.length_reverse]; exact hz, _, r.reverse, IsTup.new _ _⟩
end
end K28
set_option Elab.async false
set_option linter.all false
set_option maxRecDepth 100000
set_option maxHeartbeats 4000000
/-! the plain law -/
namespace K28
open PySem PySem.Spec PyProof.Rows L2 LamX PySem.W
theorem mem_take_ix : ∀ {ys : List Str} {x : Str} {k : Nat}, x ∈ ys.take k ↔ x ∈ ys ∧ ixOf ys x < k
  | [], x, k => by rw [List.take_nil]; exact ⟨fun h => absurd h (by simp), fun h => absurd h.1 (by simp)⟩
  | y :: ys, x, 0 => by rw [List.take_zero]; exact ⟨fun h => absurd h (by simp), fun h => absurd h.2 (by omega)⟩
  | y :: ys, x, k + 1 => by
    rw [List.take_succ_cons, List.mem_cons, List.mem_cons, mem_take_ix (ys := ys) (k := k)]
    rw [show ixOf (y :: ys) x = if y = x then 0 else ixOf ys x + 1 from rfl]
    by_cases e : y = x
    · rw [if_pos e]
      exact ⟨fun _ => ⟨.inl e.symm, by omega⟩, fun _ => .inl e.symm⟩
    · rw [if_neg e]
      constructor
      · rintro (h | ⟨h1, h2⟩)
        · exact absurd h.symm e
        · exact ⟨.inr h1, by omega⟩
      · rintro ⟨h | h, h2⟩
        · exact absurd h.symm e
        · exact .inr ⟨h, by omega⟩
theorem ixOf_inj {ys : List Str} {x y : Str} (hx : x ∈ ys) (hy : y ∈ ys) (e : ixOf ys x = ixOf ys y) : x = y := by
  have h1 := ixOf_get hx
  have h2 := ixOf_get hy
  rw [e, h2] at h1
  exact (Option.some.inj h1).symm
theorem not_in_drop {ys : List Str} (nd : ys.Nodup) {x : Str} (hx : x ∈ ys) : x ∉ ys.drop (ixOf ys x + 1) := by
  intro h
  obtain ⟨i, hi, e⟩ := List.mem_iff_getElem.mp h
  rw [List.length_drop] at hi
  rw [List.getElem_drop] at e
  have hk : ixOf ys x < ys.length := (List.getElem?_eq_some_iff.mp (ixOf_get hx)).1
  have h2 : ys[ixOf ys x] = x := (List.getElem?_eq_some_iff.mp (ixOf_get hx)).2
  exact (List.pairwise_iff_getElem.mp nd (ixOf ys x) (ixOf ys x + 1 + i) hk (by omega) (by omega)) (h2.trans e.symm)
theorem rest_eq {one other : List Str} {bill : Str} (nd : one.Nodup) (h1 : bill ∈ one) (h2 : bill ∈ other) : restOf one other bill = lawRest one other bill := by
  unfold restOf lawRest
  refine List.filter_congr fun x hx => ?_
  have hne : x ≠ bill := fun e => not_in_drop nd h1 (by rw [e] at hx; exact hx)
  rw [Bool.eq_iff_iff, Bool.not_eq_true', decide_eq_false_iff_not, Bool.or_eq_true, Bool.not_eq_true', decide_eq_false_iff_not, decide_eq_true_eq, mem_take_ix]
  constructor
  · intro h
    by_cases hm : x ∈ other
    · right
      have : ixOf other x ≠ ixOf other bill := fun e => hne (ixOf_inj hm h2 e)
      have : ¬ ixOf other x < ixOf other bill := fun z => h ⟨hm, z⟩
      omega
    · exact .inl hm
  · rintro (h | h) ⟨ha, hb⟩
    · exact h ha
    · omega
theorem odds_eq {one other : List Str} (n1 : one.Nodup) (n2 : other.Nodup) : oddBills one other = lawOdds one other := by
  unfold oddBills lawOdds
  congr 1
  refine List.filter_congr fun x hx => ?_
  have h := List.mem_filter.mp hx
  have hb : x ∈ other := by simpa using h.2
  rw [rest_eq n1 h.1 hb, rest_eq n2 hb h.1]
theorem agree_eq {one other : List Str} (n1 : one.Nodup) (n2 : other.Nodup) : agreeB one other = decide (lawOdds one other = []) := by
  unfold agreeB
  rw [odds_eq n1 n2, Bool.eq_iff_iff, decide_eq_true_eq, decide_eq_true_eq]
  constructor
  · intro h; exact List.length_eq_zero_iff.mp (by omega)
  · intro h; rw [h]; rfl
/-! ### the pairs -/
def lawBadK (ps : List (Str × List Str)) (k : Nat) : List (Str × Str) := (((names1 ps).drop (k + 1)).filter fun mate => !decide (lawOdds (look ps ((names1 ps).getD k default)) (look ps mate) = [])).map fun mate => ((names1 ps).getD k default, mate)
def lawBad (ps : List (Str × List Str)) : List (Str × Str) := (List.range (names1 ps).length).flatMap (lawBadK ps)
theorem look_mem {ps : List (Str × List Str)} {x : Str} (h : x ∈ names1 ps) : ∃ p ∈ ps, look ps x = p.2 := (find_table h).2
theorem bad_eq {ps : List (Str × List Str)} (hs : sortS (names1 ps) = names1 ps) (nd : ∀ p ∈ ps, p.2.Nodup) : oddPairs ps = lawBad ps := by
  unfold oddPairs lawBad pairsI
  rw [hs, List.filter_flatMap]
  have e : ∀ l : List Nat, (∀ k ∈ l, k < (names1 ps).length) → (l.flatMap fun a => ((((names1 ps).drop (a + 1)).map fun o => ((names1 ps).getD a default, o)).filter fun p => !agreeB (look ps p.1) (look ps p.2))) = l.flatMap (lawBadK ps) := by
    intro l
    induction l with
    | nil => intro _; rfl
    | cons k l ih =>
      intro hl
      rw [List.flatMap_cons, List.flatMap_cons, ih fun x hx => hl x (List.mem_cons_of_mem _ hx)]
      congr 1
      unfold lawBadK
      rw [List.filter_map]
      congr 1
      refine List.filter_congr fun x hx => ?_
      have hk := hl k List.mem_cons_self
      have m1 : (names1 ps).getD k default ∈ names1 ps := by rw [List.getD_eq_getElem?_getD, List.getElem?_eq_getElem hk]; exact List.getElem_mem hk
      obtain ⟨p, hp, ep⟩ := look_mem m1
      obtain ⟨q, hq, eq⟩ := look_mem (List.mem_of_mem_drop hx)
      show (!agreeB (look ps ((names1 ps).getD k default)) (look ps x)) = _
      rw [agree_eq (by rw [ep]; exact nd p hp) (by rw [eq]; exact nd q hq)]
  exact e _ fun k hk => List.mem_range.mp hk
/-! ### the sets -/
def noOdd (odd : List (Str × Str)) (s : List Str) : Bool := !((odd.map fun p => (decide (p.1 ∈ s) && decide (p.2 ∈ s))).any id)
theorem kept_perm (ps : List (Str × List Str)) : (keptSets ps).Perm ((setsOf (sortS (names1 ps))).filter (noOdd (oddPairs ps))) := (sortK_perm false _).filter _
theorem isMost_perm {a b : List (List Str)} {s : List Str} (h : a.Perm b) (m : IsMost a s) : IsMost b s := ⟨h.mem_iff.mp m.1, fun r hr => m.2 r (h.mem_iff.mpr hr)⟩
theorem isMost_ex {rows : List (List Str)} (h : rows ≠ []) : ∃ s, IsMost rows s := by
  have hpos := List.length_pos_iff.mpr h
  obtain ⟨h1, h2⟩ := argBest_least (fun i => keyD true (eT (rows.getD i []))) (rows.length - 1)
  generalize argBest _ _ = k at h1 h2
  refine ⟨rows.getD k [], ?_, fun r hr => ?_⟩
  · rw [List.getD_eq_getElem?_getD, List.getElem?_eq_getElem (by omega)]; exact List.getElem_mem (by omega)
  · obtain ⟨j, hj, rfl⟩ := List.mem_iff_getElem.mp hr
    have := h2 j (by omega)
    rw [dataLt_key] at this
    rw [List.getD_eq_getElem?_getD (l := rows) (i := j), List.getElem?_eq_getElem hj] at this
    exact this
theorem sortL_sorted (l : List (List Str)) : (sortL l).Pairwise fun a b => leL a b = true := by
  have h := sort_pairwise (sortLe_total (PyProof.Rows.listOrd itemOrd) false fun b => keyToks (eT b)) l
  have e : (sortLe (PyProof.Rows.listOrd itemOrd) false fun b => keyToks (eT b)) = leL := by
    funext a b
    show (!dataLt (eT b) (eT a)) = _
    rw [dataLt_T]; rfl
  have e2 : sortL l = l.mergeSort leL := by
    unfold sortL
    show l.mergeSort (sortLe (PyProof.Rows.listOrd itemOrd) false fun b => keyToks (eT b)) = _
    rw [e]
  rw [e2]
  rw [e] at h
  exact h
theorem sortL_of {l m : List (List Str)} (h : m.Perm l) (hs : m.Pairwise fun a b => leL a b = true) : sortL l = m :=
  perm_sorted_eq (fun _ _ => ltL_anti) ((sortL_perm l).trans h.symm) (sortL_sorted l) hs
theorem sortL_perm_eq {l m : List (List Str)} (h : l.Perm m) : sortL l = sortL m := sortL_of ((sortL_perm m).trans h.symm) (sortL_sorted m)
theorem wholeB_perm {names : List Str} {a b : List (List Str)} (h : a.Perm b) (s : List Str) : wholeB names a s = wholeB names b s := by
  unfold wholeB
  congr 3
  funext n
  rw [Bool.eq_iff_iff, decide_eq_true_eq, decide_eq_true_eq, h.mem_iff]
/-- what the law takes for whole -/
def lawNear (names : List Str) (fine : List (List Str)) (s : List Str) : List Str := names.filter fun t => !decide (t ∈ s) && decide (sortS (s ++ [t]) ∈ fine)
theorem whole_near (names : List Str) (fine : List (List Str)) (s : List Str) : wholeB names fine s = decide (lawNear names fine s = []) := by
  unfold wholeB lawNear
  rw [Bool.eq_iff_iff, Bool.not_eq_true', decide_eq_true_eq, List.filter_eq_nil_iff]
  constructor
  · intro h t ht
    rw [Bool.and_eq_true]
    rintro ⟨h1, h2⟩
    rw [List.any_eq_false] at h
    exact h _ (List.mem_map.mpr ⟨t, List.mem_filter.mpr ⟨ht, h1⟩, rfl⟩) (by simpa using h2)
  · intro h
    rw [List.any_eq_false]
    intro x hx
    obtain ⟨t, ht, rfl⟩ := List.mem_map.mp hx
    obtain ⟨h1, h2⟩ := List.mem_filter.mp ht
    intro hc
    exact h t h1 (by rw [Bool.and_eq_true]; exact ⟨h2, hc⟩)
theorem wholeSets_perm (ps : List (Str × List Str)) : (wholeSets ps).Perm (((setsOf (sortS (names1 ps))).filter (noOdd (oddPairs ps))).filter (wholeB (sortS (names1 ps)) ((setsOf (sortS (names1 ps))).filter (noOdd (oddPairs ps))))) := by
  unfold wholeSets
  have e : wholeB (sortS (names1 ps)) (keptSets ps) = wholeB (sortS (names1 ps)) ((setsOf (sortS (names1 ps))).filter (noOdd (oddPairs ps))) := by
    funext s; exact wholeB_perm (kept_perm ps) s
  rw [e]
  exact (kept_perm ps).filter _
theorem one_mem : ∀ n (l : List Str), l.length = n → ∀ x ∈ l, [x] ∈ setsOf l := by
  have nil : ∀ n (l : List Str), l.length = n → [] ∈ setsOf l := by
    intro n
    induction n with
    | zero => intro l h; rw [List.length_eq_zero_iff.mp h]; exact List.mem_singleton.mpr rfl
    | succ n ih =>
      intro l h
      rcases List.eq_nil_or_concat l with z | ⟨l', y, rfl⟩
      · rw [z] at h; cases h
      · rw [List.concat_eq_append, setsOf_snoc]
        exact List.mem_append_left _ (ih l' (by rw [List.concat_eq_append] at h; simpa using h))
  intro n
  induction n with
  | zero => intro l h x hx; rw [List.length_eq_zero_iff.mp h] at hx; cases hx
  | succ n ih =>
    intro l h x hx
    rcases List.eq_nil_or_concat l with z | ⟨l', y, rfl⟩
    · rw [z] at h; cases h
    · rw [List.concat_eq_append] at h hx ⊢
      have h' : l'.length = n := by simpa using h
      rw [setsOf_snoc]
      rcases List.mem_append.mp hx with z | z
      · exact List.mem_append_left _ (ih l' h' x z)
      · rw [List.mem_singleton.mp z]
        exact List.mem_append_right _ (List.mem_map.mpr ⟨[], nil n l' h', rfl⟩)
theorem pairsI_ne {l : List Str} (nd : l.Nodup) {p : Str × Str} (h : p ∈ pairsI l) : p.1 ≠ p.2 := by
  obtain ⟨i, hi, hp⟩ := List.mem_flatMap.mp h
  obtain ⟨o, ho, rfl⟩ := List.mem_map.mp hp
  have hi' := List.mem_range.mp hi
  obtain ⟨j, hj, rfl⟩ := List.mem_iff_getElem.mp ho
  rw [List.length_drop] at hj
  rw [List.getElem_drop]
  show l.getD i default ≠ _
  rw [List.getD_eq_getElem?_getD, List.getElem?_eq_getElem hi']
  exact List.pairwise_iff_getElem.mp nd i (i + 1 + j) hi' (by omega) (by omega)
theorem sortS_one (x : Str) : sortS [x] = [x] := sortS_self (List.pairwise_singleton _ _)
theorem whole_ok {ps : List (Str × List Str)} (nd : (names1 ps).Nodup) : wholeSets ps = [[]] ∨ ∀ s ∈ wholeSets ps, s ≠ [] := by
  have nds : (sortS (names1 ps)).Nodup := (sortS_perm _).nodup_iff.mpr nd
  cases hn : sortS (names1 ps) with
  | nil =>
    left
    have h1 : keptSets ps = [[]] := by
      have hp := kept_perm ps
      rw [hn] at hp
      have ho : oddPairs ps = [] := by unfold oddPairs; rw [hn]; rfl
      rw [ho] at hp
      exact List.perm_singleton.mp hp
    unfold wholeSets
    rw [h1, hn]
    rfl
  | cons x xs =>
    right
    intro s hs e
    subst e
    have hw := (List.mem_filter.mp hs).2
    rw [whole_near, decide_eq_true_eq] at hw
    unfold lawNear at hw
    rw [List.filter_eq_nil_iff] at hw
    have hx : x ∈ sortS (names1 ps) := by rw [hn]; exact List.mem_cons_self
    refine hw x hx ?_
    rw [Bool.and_eq_true]
    refine ⟨by simp, decide_eq_true ?_⟩
    rw [List.nil_append, sortS_one, (kept_perm ps).mem_iff]
    refine List.mem_filter.mpr ⟨one_mem _ _ rfl x hx, ?_⟩
    unfold noOdd
    rw [Bool.not_eq_true', List.any_eq_false]
    intro b hb
    obtain ⟨p, hp, rfl⟩ := List.mem_map.mp hb
    intro hc
    have hc : (decide (p.1 ∈ [x]) && decide (p.2 ∈ [x])) = true := hc
    rw [Bool.and_eq_true, decide_eq_true_eq, decide_eq_true_eq, List.mem_singleton, List.mem_singleton] at hc
    exact pairsI_ne nds (List.mem_filter.mp hp).1 (hc.1.trans hc.2.symm)
end K28
set_option Elab.async false
set_option linter.all false
set_option maxRecDepth 100000
set_option maxHeartbeats 4000000
/-! the webs written by hand: what is kept of them -/
namespace K28
open PySem PySem.Spec PyProof.Rows L2 LamX PySem.W
theorem mem_setsOf : ∀ n (l : List Str), l.length = n → l.Pairwise (fun a b => leS a b = true) → l.Nodup → ∀ t : List Str, t.Pairwise (fun a b => leS a b = true) → t.Nodup → (∀ x ∈ t, x ∈ l) → t ∈ setsOf l := by
  intro n
  induction n with
  | zero =>
    intro l h _ _ t _ _ hs
    rw [List.length_eq_zero_iff.mp h] at hs ⊢
    cases t with
    | nil => exact List.mem_singleton.mpr rfl
    | cons x t => exact absurd (hs x List.mem_cons_self) (by simp)
  | succ n ih =>
    intro l h hl nd t ht ntd hs
    rcases List.eq_nil_or_concat l with z | ⟨l', y, rfl⟩
    · rw [z] at h; cases h
    · rw [List.concat_eq_append] at h hl nd hs ⊢
      have h' : l'.length = n := by simpa using h
      obtain ⟨p1, p2, p3⟩ := List.pairwise_append.mp hl
      obtain ⟨d1, d2, d3⟩ := List.nodup_append.mp nd
      rw [setsOf_snoc]
      by_cases hy : y ∈ t
      · obtain ⟨a, b, rfl⟩ := List.append_of_mem hy
        obtain ⟨q1, q2, q3⟩ := List.pairwise_append.mp ht
        obtain ⟨e1, e2, e3⟩ := List.nodup_append.mp ntd
        have hb : b = [] := by
          cases b with
          | nil => rfl
          | cons x b =>
            exfalso
            have hyx := (List.pairwise_cons.mp q2).1 x List.mem_cons_self
            have hxl := hs x (List.mem_append_right _ (List.mem_cons_of_mem _ List.mem_cons_self))
            have hxy : leS x y = true := by
              rcases List.mem_append.mp hxl with z | z
              · exact p3 x z y (List.mem_singleton.mpr rfl)
              · rw [List.mem_singleton.mp z]; exact leS_refl y
            have e := leS_anti hyx hxy
            exact (List.nodup_cons.mp e2).1 (by rw [e]; exact List.mem_cons_self)
        subst hb
        refine List.mem_append_right _ (List.mem_map.mpr ⟨a, ih l' h' p1 d1 a q1 e1 fun x hx => ?_, rfl⟩)
        rcases List.mem_append.mp (hs x (List.mem_append_left _ hx)) with z | z
        · exact z
        · exact absurd (List.mem_singleton.mp z) (e3 x hx y List.mem_cons_self)
      · refine List.mem_append_left _ (ih l' h' p1 d1 t ht ntd fun x hx => ?_)
        rcases List.mem_append.mp (hs x hx) with z | z
        · exact z
        · rw [List.mem_singleton.mp z] at hx; exact absurd hx hy
theorem setsOf_sorted : ∀ n (l : List Str), l.length = n → l.Pairwise (fun a b => leS a b = true) → l.Nodup → ∀ s ∈ setsOf l, s.Pairwise (fun a b => leS a b = true) ∧ s.Nodup := by
  intro n
  induction n with
  | zero => intro l h _ _ s hs; rw [List.length_eq_zero_iff.mp h] at hs; rw [List.mem_singleton.mp hs]; exact ⟨.nil, .nil⟩
  | succ n ih =>
    intro l h hl nd s hs
    rcases List.eq_nil_or_concat l with z | ⟨l', y, rfl⟩
    · rw [z] at h; cases h
    · rw [List.concat_eq_append] at h hl nd hs
      have h' : l'.length = n := by simpa using h
      obtain ⟨p1, p2, p3⟩ := List.pairwise_append.mp hl
      obtain ⟨d1, d2, d3⟩ := List.nodup_append.mp nd
      rw [setsOf_snoc] at hs
      rcases List.mem_append.mp hs with z | z
      · exact ih l' h' p1 d1 s z
      · obtain ⟨w, hw, rfl⟩ := List.mem_map.mp z
        obtain ⟨w1, w2⟩ := ih l' h' p1 d1 w hw
        have hsub := setsOf_sub _ l' rfl w hw
        refine ⟨List.pairwise_append.mpr ⟨w1, List.pairwise_singleton _ _, fun a ha b hb => ?_⟩, List.nodup_append.mpr ⟨w2, List.nodup_cons.mpr ⟨by simp, List.nodup_nil⟩, fun a ha b hb => ?_⟩⟩
        · exact p3 a (hsub a ha) b hb
        · exact d3 a (hsub a ha) b hb
def oddB (a b : List Str) : Bool := (sharedOf a b).any fun t => !decide (restOf a b t = restOf b a t)
theorem agree_oddB (a b : List Str) : agreeB a b = !oddB a b := by
  unfold agreeB oddBills oddB
  rw [sortS_length, Bool.eq_iff_iff, decide_eq_true_eq, Bool.not_eq_true', List.any_eq_false]
  constructor
  · intro h x hx hc
    have h0 : ((sharedOf a b).filter fun b_1 => !decide (restOf a b b_1 = restOf b a b_1)) = [] := List.length_eq_zero_iff.mp (by omega)
    exact (List.filter_eq_nil_iff.mp h0) x hx hc
  · intro h
    rw [List.filter_eq_nil_iff.mpr h]; rfl
def sortedB : List Str → Bool
  | [] => true
  | x :: xs => xs.all (fun y => leS x y) && sortedB xs
theorem sortedB_pw : ∀ {l : List Str}, sortedB l = true → l.Pairwise (fun a b => leS a b = true)
  | [], _ => .nil
  | x :: xs, h => by
    have h : (xs.all (fun y => leS x y) && sortedB xs) = true := h
    rw [Bool.and_eq_true] at h
    exact List.pairwise_cons.mpr ⟨fun y hy => List.all_eq_true.mp h.1 y hy, sortedB_pw h.2⟩
def sortedLB : List (List Str) → Bool
  | [] => true
  | x :: xs => xs.all (fun y => leL x y) && sortedLB xs
theorem sortedLB_pw : ∀ {l : List (List Str)}, sortedLB l = true → l.Pairwise (fun a b => leL a b = true)
  | [], _ => .nil
  | x :: xs, h => by
    have h : (xs.all (fun y => leL x y) && sortedLB xs) = true := h
    rw [Bool.and_eq_true] at h
    exact List.pairwise_cons.mpr ⟨fun y hy => List.all_eq_true.mp h.1 y hy, sortedLB_pw h.2⟩
def noOddE (odd : List (Str × Str)) (s : List Str) : Bool := odd.all fun p => !(decide (p.1 ∈ s) && decide (p.2 ∈ s))
theorem noOdd_E (odd : List (Str × Str)) (s : List Str) : noOdd odd s = noOddE odd s := by
  unfold noOdd noOddE
  rw [Bool.eq_iff_iff, Bool.not_eq_true', List.any_eq_false, List.all_eq_true]
  constructor
  · intro h p hp
    have := h _ (List.mem_map_of_mem hp)
    rw [Bool.not_eq_true']
    exact Bool.eq_false_iff.mpr this
  · intro h b hb
    obtain ⟨p, hp, rfl⟩ := List.mem_map.mp hb
    have := h p hp
    rw [Bool.not_eq_true'] at this
    intro z
    have z : (decide (p.1 ∈ s) && decide (p.2 ∈ s)) = true := z
    rw [this] at z
    cases z
def wholeE (odd : List (Str × Str)) (names s : List Str) : Bool := names.all fun n => decide (n ∈ s) || !noOddE odd (s ++ [n])
def chk (ps : List (Str × List Str)) (odd : List (Str × Str)) (s0 : List Str) (L : List (List Str)) : Bool :=
  sortedB (names1 ps) && decide (names1 ps).Nodup && decide (((pairsI (names1 ps)).filter fun p => oddB (look ps p.1) (look ps p.2)) = odd) &&
  (decide (s0 ∈ setsOf (names1 ps)) && noOddE odd s0) && (setsOf (names1 ps)).all (fun r => !noOddE odd r || !keyLt true r s0) &&
  L.isPerm ((setsOf (names1 ps)).filter fun s => noOddE odd s && wholeE odd (names1 ps) s) && sortedLB L
theorem noOdd_perm {odd : List (Str × Str)} {a b : List Str} (h : a.Perm b) : noOddE odd a = noOddE odd b := by
  unfold noOddE
  congr 1
  funext p
  rw [show decide (p.1 ∈ a) = decide (p.1 ∈ b) by rw [Bool.eq_iff_iff, decide_eq_true_eq, decide_eq_true_eq, h.mem_iff], show decide (p.2 ∈ a) = decide (p.2 ∈ b) by rw [Bool.eq_iff_iff, decide_eq_true_eq, decide_eq_true_eq, h.mem_iff]]
theorem chk_ok {ps : List (Str × List Str)} {odd : List (Str × Str)} {s0 : List Str} {L : List (List Str)} (h : chk ps odd s0 L = true) : IsMost (keptSets ps) s0 ∧ sortL (wholeSets ps) = L := by
  unfold chk at h
  simp only [Bool.and_eq_true, decide_eq_true_eq] at h
  obtain ⟨⟨⟨⟨⟨⟨h1, h2⟩, h3⟩, h4, h5⟩, h6⟩, h7⟩, h8⟩ := h
  have pw := sortedB_pw h1
  have hs : sortS (names1 ps) = names1 ps := sortS_self pw
  have ho : oddPairs ps = odd := by
    unfold oddPairs
    rw [hs, ← h3]
    refine List.filter_congr fun p _ => ?_
    rw [agree_oddB, Bool.not_not]
  have kp := kept_perm ps
  rw [hs, ho, show noOdd odd = noOddE odd from funext (noOdd_E odd)] at kp
  constructor
  · refine isMost_perm kp.symm ⟨List.mem_filter.mpr ⟨h4, h5⟩, fun r hr => ?_⟩
    obtain ⟨r1, r2⟩ := List.mem_filter.mp hr
    have := List.all_eq_true.mp h6 r r1
    rw [r2] at this
    simpa using this
  · refine sortL_of ((List.isPerm_iff.mp h7).trans ?_) (sortedLB_pw h8)
    have wp := wholeSets_perm ps
    rw [hs, ho, show noOdd odd = noOddE odd from funext (noOdd_E odd)] at wp
    refine List.Perm.trans ?_ wp.symm
    rw [List.filter_filter]
    refine List.Perm.of_eq (List.filter_congr fun s hsm => ?_)
    rw [Bool.and_comm]
    congr 1
    symm
    rw [Bool.eq_iff_iff]
    unfold wholeB wholeE
    rw [List.all_eq_true, Bool.not_eq_true', List.any_eq_false]
    obtain ⟨s1, s2⟩ := setsOf_sorted _ _ rfl pw h2 s hsm
    have hsub := setsOf_sub _ _ rfl s hsm
    have key : ∀ n ∈ names1 ps, n ∉ s → (sortS (s ++ [n]) ∈ (setsOf (names1 ps)).filter (noOddE odd) ↔ noOddE odd (s ++ [n]) = true) := by
      intro n hn hns
      rw [List.mem_filter, noOdd_perm (sortS_perm (s ++ [n]))]
      refine ⟨fun h => h.2, fun h => ⟨mem_setsOf _ _ rfl pw h2 _ (sortS_sorted _) ((sortS_perm _).nodup_iff.mpr ?_) fun x hx => ?_, h⟩⟩
      · refine List.nodup_append.mpr ⟨s2, List.nodup_cons.mpr ⟨by simp, List.nodup_nil⟩, fun a ha b hb => ?_⟩
        rw [List.mem_singleton.mp hb]
        intro e
        rw [e] at ha
        exact hns ha
      · rcases List.mem_append.mp ((sortS_perm _).mem_iff.mp hx) with z | z
        · exact hsub x z
        · rw [List.mem_singleton.mp z]; exact hn
    constructor
    · intro h n hn
      rw [Bool.or_eq_true, decide_eq_true_eq, Bool.not_eq_true']
      by_cases hns : n ∈ s
      · exact .inl hns
      · right
        have hh := h _ (List.mem_map.mpr ⟨n, List.mem_filter.mpr ⟨hn, by simpa using hns⟩, rfl⟩)
        have : ¬ sortS (s ++ [n]) ∈ (setsOf (names1 ps)).filter (noOddE odd) := by simpa using hh
        rw [key n hn hns] at this
        simpa using this
    · intro h b hb
      obtain ⟨n, hn, rfl⟩ := List.mem_map.mp hb
      obtain ⟨n1, n2⟩ := List.mem_filter.mp hn
      have hns : n ∉ s := by simpa using n2
      have hh := h n n1
      rw [Bool.or_eq_true, decide_eq_true_eq, Bool.not_eq_true'] at hh
      rcases hh with z | z
      · exact absurd z hns
      · intro hc
        have hc : sortS (s ++ [n]) ∈ (setsOf (names1 ps)).filter (noOddE odd) := of_decide_eq_true hc
        rw [key n n1 hns, z] at hc
        cases hc
def ps_kit : List (Str × List Str) := [("ann", ["rent", "gas", "tax"]), ("bob", ["gas", "tax"]), ("cid", ["tax", "rent"])]
theorem f_kit : chk ps_kit [("ann", "cid"), ("bob", "cid")] ["ann", "bob"] [["ann", "bob"], ["cid"]] = true := by decide +kernel
def ps_pair : List (Str × List Str) := [("ann", ["rent", "gas", "tax"]), ("bob", ["gas", "tax"])]
theorem f_pair : chk ps_pair [] ["ann", "bob"] [["ann", "bob"]] = true := by decide +kernel
def ps_none : List (Str × List Str) := []
theorem f_none : chk ps_none [] [] [[]] = true := by decide +kernel
def ps_one : List (Str × List Str) := [("ann", [])]
theorem f_one : chk ps_one [] ["ann"] [["ann"]] = true := by decide +kernel
def ps_round : List (Str × List Str) := [("amy", ["a", "b", "c", "d", "e", "f"]), ("bob", ["b", "c", "d", "e", "f", "a"]), ("cid", ["c", "d", "e", "f", "a", "b"]), ("dee", ["d", "e", "f", "a", "b", "c"]), ("eve", ["e", "f", "a", "b", "c", "d"]), ("flo", ["f", "a", "b", "c", "d", "e"]), ("gus", []), ("hal", ["a"])]
theorem f_round : chk ps_round [("amy", "hal"), ("cid", "hal"), ("dee", "hal"), ("eve", "hal"), ("flo", "hal")] ["amy", "bob", "cid", "dee", "eve", "flo", "gus"] [["amy", "bob", "cid", "dee", "eve", "flo", "gus"], ["bob", "gus", "hal"]] = true := by decide +kernel
def ps_odd : List (Str × List Str) := [("amy", ["a"]), ("bob", ["a", "b"]), ("cid", ["a", "b", "c"]), ("dee", ["a", "b", "c", "d"]), ("eve", ["a", "b", "c", "d", "e"]), ("flo", ["a", "b", "c", "d", "e", "f"])]
theorem f_odd : chk ps_odd [("amy", "bob"), ("amy", "cid"), ("amy", "dee"), ("amy", "eve"), ("amy", "flo"), ("bob", "cid"), ("bob", "dee"), ("bob", "eve"), ("bob", "flo"), ("cid", "dee"), ("cid", "eve"), ("cid", "flo"), ("dee", "eve"), ("dee", "flo"), ("eve", "flo")] ["amy"] [["amy"], ["bob"], ["cid"], ["dee"], ["eve"], ["flo"]] = true := by decide +kernel
def ps_back : List (Str × List Str) := [("amy", ["a", "b", "c", "d", "e", "f"]), ("bob", ["b", "c", "d", "e", "f", "a"]), ("cid", ["c", "d", "e", "f", "a", "b"]), ("dee", ["f", "e", "d", "c", "b", "a"])]
theorem f_back : chk ps_back [("cid", "dee")] ["amy", "bob", "cid"] [["amy", "bob", "cid"], ["amy", "bob", "dee"]] = true := by decide +kernel
def ps_cross : List (Str × List Str) := [("amy", ["x", "u"]), ("bob", ["y", "w"]), ("cid", ["y", "t"]), ("dee", ["x", "v"])]
theorem f_cross : chk ps_cross [("amy", "dee"), ("bob", "cid")] ["amy", "bob"] [["amy", "bob"], ["amy", "cid"], ["bob", "dee"], ["cid", "dee"]] = true := by decide +kernel

end K28
set_option Elab.async false
set_option linter.all false
set_option maxRecDepth 100000
set_option maxHeartbeats 4000000
/-! the law's webs by hand -/
namespace K28
open PySem PySem.Spec PyProof.Rows L2 LamX PySem.W
section
variable {X : Cx}
theorem pe_callK0 {CX : CXT} {k : Nat} {f : Addr} {fd : FuncData} {ps ks : List Str} {sp : Sp} {E : XK} {x : Str} {p pos : Pos} {kws : List Keyword} {tk : TA} {g : List Value → List Value → List Value} (F : FnOk X.prog X.w X.K X.mg X.base CX k f fd ps sp) (hr : Room k X.A) (hg : Gl X x) (hm : X.mg x = some (.ref f)) (hk : PySem.W.keepIn X.K (.ref f) = true) (hb : KBinds X.K fd ps ks g (fun us ws => us ++ ws)) (hx : Passes CX X E)
    (hkw : PK X kws tk) (hall : (backToKw pos (keywordEach kws X.env)).all (·.1.isSome) = true := by rfl) (hks : (backToKw pos (keywordEach kws X.env)).filterMap (·.1) = ks := by rfl)
    (hdb : (x == ("__debug__" : Str)) = false := by decide) (hpl : ((backTo pos (starEach [] X.env)).any (·.1) || (backToKw pos (keywordEach kws X.env)).any (·.1.isNone)) = false := by rfl) :
    PE X (.Call (.Name x p) [] kws pos) (tCall sp [] E tk) := by
  refine ⟨fun pins s σ H Q I h => ?_⟩
  refine wpAny_Call_Name_kw (ld_glob I hg hm ?_ hdb)
  refine PySem.W.callWith_KW0 (h₀ := X.base) I.ok.mod.kin hk hall (thn (hkw.run pos pins s σ H _ I h) fun ws s2 ⟨zs, H2, I2, rz, q2⟩ => ⟨I2.kIn, ?_⟩) hpl
  rw [hks]
  have q2 : sp (zs ++ []) H2 Q E := q2
  rw [List.append_nil] at q2
  exact run_fnk (us := []) (vs := []) F hr hb hx I2 .nil rz q2
end
theorem kb_book {K : PySem.W.Frag} {x qual : Str} {st : Stmt} {f : Addr} {fd : FuncData} (F : Fun K x qual st f fd)
    (h1 : ∀ (kV doc pm : Value) (an : Option Addr) (cdv ct u : Value), bindArgs (PySem.W.fnOf x qual (defArgs st) (defBody st) (defScope st) .none kV doc pm an cdv ct) ⟨[u], []⟩ = pure [(Str.ofString "book", u)])
    (h2 : ∀ (kV doc pm : Value) (an : Option Addr) (cdv ct u : Value), bindArgs (PySem.W.fnOf x qual (defArgs st) (defBody st) (defScope st) .none kV doc pm an cdv ct) ⟨[], [(Str.ofString "book", u)]⟩ = pure [(Str.ofString "book", u)]) :
    KBinds K fd ["book"] ["book"] (fun us ws => us ++ ws) (fun us ws => us ++ ws) := by
  obtain ⟨oc, od, kV, doc, pm, an, cdv, ct, osl, rfl, lk, hcd⟩ := F.ex
  refine ⟨fun s us ws _ hl => ?_, fun r1 r2 => r1.append r2⟩
  match us, ws, hl with
  | [], [w], _ => exact .of_eq (h2 kV doc pm an cdv ct w)
  | [u], [], _ => exact .of_eq (h1 kV doc pm an cdv ct u)
mutual
theorem tupD_listD : ∀ d : PyData, tupD (listD d) = tupD d
  | .list xs => by rw [listD, tupD, tupD, tupDs_listDs xs]
  | .tuple xs => by rw [listD, tupD, tupD, tupDs_listDs xs]
  | .none => by rw [listD]
  | .bool _ => by rw [listD]
  | .int _ => by rw [listD]
  | .str _ => by rw [listD]
  | .dict _ => by rw [listD]
theorem tupDs_listDs : ∀ ds : List PyData, tupDs (listDs ds) = tupDs ds
  | [] => by rw [listDs]
  | d :: ds => by rw [listDs, tupDs, tupDs, tupD_listD d, tupDs_listDs ds]
end
theorem shp_listD : ∀ (n : Nat) (d : PyData), shp n d = true → shp n (listD d) = true := by
  intro n
  induction n with
  | zero => intro d h; cases d <;> first | exact Bool.noConfusion h | (rw [listD]; exact h)
  | succ n ih =>
    intro d h
    cases d with
    | list xs =>
      obtain ⟨h1, h2⟩ := shp_list h
      rw [listD, listDs_map]
      show (decide ((xs.map listD).length ≤ 1000) && (xs.map listD).all (shp n)) = true
      rw [List.length_map, decide_eq_true h1, Bool.true_and, List.all_eq_true]
      intro x hx
      obtain ⟨y, hy, rfl⟩ := List.mem_map.mp hx
      exact ih y (h2 y hy)
    | tuple xs =>
      obtain ⟨h1, h2⟩ := shp_tup h
      rw [listD, listDs_map]
      show (decide ((xs.map listD).length ≤ 1000) && (xs.map listD).all (shp n)) = true
      rw [List.length_map, decide_eq_true h1, Bool.true_and, List.all_eq_true]
      intro x hx
      obtain ⟨y, hy, rfl⟩ := List.mem_map.mp hx
      exact ih y (h2 y hy)
    | none => rw [listD]; exact h
    | bool _ => rw [listD]; exact h
    | int _ => rw [listD]; exact h
    | str _ => rw [listD]; exact h
    | dict _ => rw [listD]; exact h
theorem tupD_row (p : Str × List Str) : tupD (eRow p) = eRow p := by
  rw [tupD, tupDs, tupDs, tupDs, tupD_eT, tupD]
theorem tupD_ePs (ps : List (Str × List Str)) : tupD (ePs ps) = ePs ps := by
  rw [tupD, tupDs_map, List.map_map]
  congr 1
  exact List.map_congr_left fun p _ => tupD_row p
theorem shp_ePs {ps : List (Str × List Str)} (h : ps.length ≤ 1000) (hr : ∀ p ∈ ps, p.2.length ≤ 1000) : shp 3 (ePs ps) = true := by
  show (decide ((ps.map eRow).length ≤ 1000) && (ps.map eRow).all (shp 2)) = true
  rw [List.length_map, decide_eq_true h, Bool.true_and, List.all_eq_true]
  intro x hx
  obtain ⟨p, hp, rfl⟩ := List.mem_map.mp hx
  show (decide (2 ≤ 1000) && [PyData.str p.1, eT p.2].all (shp 1)) = true
  rw [List.all_cons, List.all_cons, List.all_nil, shp_eT (hr p hp)]
  rfl
/-- a web of these tags and rows -/
abbrev webD (tags : List Str) (ps : List (Str × List Str)) : PyData := .tuple [eT tags, ePs ps]
theorem bookD_web {tags : List Str} {ps : List (Str × List Str)} (hO : BookOk ps) (nd : (names1 ps).Nodup) : BookD (webD tags ps) ps :=
  ⟨_, _, .inl rfl, tupD_ePs ps, shp_ePs (by have := hO.len; omega) fun p hp => (hO.ok p hp).2.1, nd⟩
theorem bookD_lists {tags : List Str} {ps : List (Str × List Str)} (hO : BookOk ps) (nd : (names1 ps).Nodup) : BookD (listD (webD tags ps)) ps := by
  have e : listD (webD tags ps) = .list [listD (eT tags), listD (ePs ps)] := by rw [listD, listDs, listDs, listDs]
  rw [e]
  exact ⟨_, _, .inr rfl, by rw [tupD_listD, tupD_ePs], shp_listD 3 _ (shp_ePs (by have := hO.len; omega) fun p hp => (hO.ok p hp).2.1), nd⟩
theorem bookD_half {tags : List Str} {ps : List (Str × List Str)} (hO : BookOk ps) (nd : (names1 ps).Nodup) : BookD (.tuple ([eT tags, ePs ps].map listD)) ps :=
  ⟨_, _, .inl rfl, by rw [tupD_listD, tupD_ePs], shp_listD 3 _ (shp_ePs (by have := hO.len; omega) fun p hp => (hO.ok p hp).2.1), nd⟩
theorem shS_eT {n : Nat} {xs : List Str} (h : xs.length ≤ 1000) : shS (n + 1) (eT xs) = true := by
  show (decide ((xs.map PyData.str).length ≤ 1000) && (xs.map PyData.str).all (shS n)) = true
  rw [List.length_map, decide_eq_true h, Bool.true_and, List.all_eq_true]
  intro x hx
  obtain ⟨y, _, rfl⟩ := List.mem_map.mp hx
  cases n <;> rfl
theorem shS_web {tags : List Str} {ps : List (Str × List Str)} (h : ps.length ≤ 1000) (ht : tags.length ≤ 1000) (hr : ∀ p ∈ ps, p.2.length ≤ 1000) : shS 4 (webD tags ps) = true := by
  have e : shS 3 (ePs ps) = true := by
    show (decide ((ps.map eRow).length ≤ 1000) && (ps.map eRow).all (shS 2)) = true
    rw [List.length_map, decide_eq_true h, Bool.true_and, List.all_eq_true]
    intro x hx
    obtain ⟨p, hp, rfl⟩ := List.mem_map.mp hx
    show (decide (2 ≤ 1000) && [PyData.str p.1, eT p.2].all (shS 1)) = true
    rw [List.all_cons, List.all_cons, List.all_nil, shS_eT (hr p hp)]
    rfl
  show (decide (2 ≤ 1000) && [eT tags, ePs ps].all (shS 3)) = true
  rw [List.all_cons, List.all_cons, List.all_nil, shS_eT ht, e]
  rfl
/-- what a check says of a web's rows -/
def bkB (ps : List (Str × List Str)) : Bool := decide (ps.length ≤ 10) && ps.all (fun p => okL p.2 && decide (p.2.length ≤ 1000) && okS p.1) && decide (names1 ps).Nodup
theorem bkB_ok {ps : List (Str × List Str)} (h : bkB ps = true) : BookOk ps ∧ ps.length ≤ 10 ∧ (names1 ps).Nodup := by
  unfold bkB at h
  simp only [Bool.and_eq_true, decide_eq_true_eq] at h
  obtain ⟨⟨h1, h2⟩, h3⟩ := h
  refine ⟨⟨by omega, fun p hp => ?_⟩, h1, h3⟩
  have := List.all_eq_true.mp h2 p hp
  simp only [Bool.and_eq_true, decide_eq_true_eq] at this
  exact ⟨this.1.1, this.1.2, this.2⟩
section
variable {T : List (Addr × Str)} {env : List En} {K : PySem.W.Frag} {te : TE} {m : Md} {E : XK}
theorem ed_most {B : PyData} {ps : List (Str × List Str)} {odd : List (Str × Str)} {s : List Str} {L : List (List Str)} (h : ED T env te (.m m B)) (hB : BookD B ps) (hb : bkB ps = true) (hc : chk ps odd s L = true) : ED T env (tCall (PrR T R_most) [] E (tCons te tNil)) (.m .any (eT s)) :=
  ED.any (m := .p) (ed_call (en_one h) ⟨m, B, ps, s, rfl, hB, (bkB_ok hb).1, (bkB_ok hb).2.1, (chk_ok hc).1, rfl⟩)
theorem ed_whole {B : PyData} {ps : List (Str × List Str)} {odd : List (Str × Str)} {s : List Str} {L : List (List Str)} (h : ED T env te (.m m B)) (hB : BookD B ps) (hb : bkB ps = true) (hc : chk ps odd s L = true) : ED T env (tCall (PrR T R_whole) [] E (tCons te tNil)) (.m .any (.list (L.map eT))) := by
  have z := ED.any (m := .p) (ed_call (E := E) (en_one h) (show R_whole _ _ from ⟨m, B, ps, rfl, hB, (bkB_ok hb).1, (bkB_ok hb).2.1, whole_ok (bkB_ok hb).2.2, rfl⟩))
  rw [(chk_ok hc).2] at z
  exact z
theorem ed_tupStr {z : Str} {xs : List Str} (h : ED T env te (.m m (.str z))) (hz : z.cps.size ≤ 1000) (hx : chars z = xs) : ED T env (tCB rTupStr (tCons te tNil)) (.m .any (eT xs)) := fun S H σ c Q q => h S H σ c _ fun v H1 g1 r1 => by
  cases (show Rp m _ v (.str z) from r1)
  subst hx
  exact ⟨z, rfl, hz, fun l hl => q _ _ (g1.trans (Gd.new g1.tab hl)) (new_tup (m := .any) (c.up g1).dom hl (RpL.ofStrs _) (by intro z; cases z))⟩
theorem ed_revT {ds : List PyData} (h : ED T env te (.m m (.tuple ds))) (hm : m ≠ .z) (hne : ds ≠ []) : ED T env (tRevT K te) (.m m (.tuple ds.reverse)) := fun S H σ c Q q => h S H σ c _ fun v H1 g1 r1 => by
  obtain ⟨a, xs, rfl, h1, h2⟩ := Rp.tupInv (show Rp m _ v _ from r1)
  exact ⟨a, xs, rfl, (h1.up hide_le).sq, by intro z; rw [z] at h2; cases h2; exact hne rfl, fun p hp => q _ _ (g1.trans (Gd.new g1.tab hp)) (new_tup (c.up g1).dom hp h2.reverse hm)⟩
theorem ed_rep2 {ds : List PyData} {ta tb : TE} (ha : ED T env ta (.m m (.list ds))) (hb : ED T env tb (.m .any (.int 2))) (hz : ds.length ≤ 1000) : ED T env (tOp rRep ta tb) (.m m (.list (ds ++ ds))) := fun S H σ c Q q =>
  ha S H σ c _ fun v H1 g1 r1 => hb S H1 σ (c.up g1) _ fun u H2 g2 r2 => by
    obtain ⟨a, xs, rfl, h1, h2⟩ := Rp.listInv (Rp.up (show Rp m _ v _ from r1) (hide_ext g2.ext))
    cases (show Rp .any _ u (.int 2) from r2)
    have hl := h2.length
    refine ⟨a, 2, xs, rfl, rfl, hide_le _ _ h1 (fun ps z => by cases z), by decide, by decide, small (by show xs.length * 2 ≤ _; omega), fun p hp => ?_⟩
    have e : (List.replicate (2 : Int).toNat xs).flatten = xs ++ xs := by show [xs, xs].flatten = _; simp
    rw [e]
    exact q _ _ ((g1.trans g2).trans (Gd.new g2.tab hp)) (new_lst ((c.up g1).up g2).dom hp (h2.append h2))
end
end K28
set_option Elab.async false
set_option linter.all false
set_option maxRecDepth 100000
set_option maxHeartbeats 4000000
/-! the law's webs by hand -/
namespace K28
open PySem PySem.Spec PyProof.Rows L2 LamX PySem.W
def six : List Str := ["a", "b", "c", "d", "e", "f"]
def tgKit : List Str := ["gas", "rent", "tax"]
def tgCross : List Str := ["t", "u", "v", "w", "x", "y"]
theorem bk_kit : bkB ps_kit = true := by decide +kernel
def d_kit : List PyData := [eT ["ann", "bob"], .list (([["ann", "bob"], ["cid"]] : List (List Str)).map eT)]
theorem bk_pair : bkB ps_pair = true := by decide +kernel
def d_pair : List PyData := [eT ["ann", "bob"], .list (([["ann", "bob"]] : List (List Str)).map eT)]
theorem bk_none : bkB ps_none = true := by decide +kernel
def d_none : List PyData := [eT [], .list (([[]] : List (List Str)).map eT)]
theorem bk_one : bkB ps_one = true := by decide +kernel
theorem bk_round : bkB ps_round = true := by decide +kernel
def d_round : List PyData := [eT ["amy", "bob", "cid", "dee", "eve", "flo", "gus"], .list (([["amy", "bob", "cid", "dee", "eve", "flo", "gus"], ["bob", "gus", "hal"]] : List (List Str)).map eT)]
theorem bk_odd : bkB ps_odd = true := by decide +kernel
def d_odd : List PyData := [eT ["amy"], .list (([["amy"], ["bob"], ["cid"], ["dee"], ["eve"], ["flo"]] : List (List Str)).map eT)]
theorem bk_back : bkB ps_back = true := by decide +kernel
def d_back : List PyData := [eT ["amy", "bob", "cid"], .list (([["amy", "bob", "cid"], ["amy", "bob", "dee"]] : List (List Str)).map eT)]
theorem bk_cross : bkB ps_cross = true := by decide +kernel
def d_cross : List PyData := [eT ["amy", "bob"], .list (([["amy", "bob"], ["amy", "cid"], ["bob", "dee"], ["cid", "dee"]] : List (List Str)).map eT)]
def d_one : List PyData := [.list (([["ann"]] : List (List Str)).map eT)]

def R_lkit : List En → En → Prop := fun es e => es = [] ∧ e = .m .any (webD tgKit ps_kit)
def R_hand : List En → En → Prop := fun es e => es = [] ∧ e = .m .any (.bool true)
theorem shS_listD : ∀ (n : Nat) (d : PyData), shS n d = true → shS n (listD d) = true := by
  intro n
  induction n with
  | zero => intro d h; cases d <;> first | exact Bool.noConfusion h | (rw [listD]; exact h)
  | succ n ih =>
    intro d h
    cases d with
    | list xs =>
      obtain ⟨h1, h2⟩ := shS_list h
      rw [listD, listDs_map]
      show (decide ((xs.map listD).length ≤ 1000) && (xs.map listD).all (shS n)) = true
      rw [List.length_map, decide_eq_true h1, Bool.true_and, List.all_eq_true]
      intro x hx
      obtain ⟨y, hy, rfl⟩ := List.mem_map.mp hx
      exact ih y (h2 y hy)
    | tuple xs =>
      obtain ⟨h1, h2⟩ := shS_tup h
      rw [listD, listDs_map]
      show (decide ((xs.map listD).length ≤ 1000) && (xs.map listD).all (shS n)) = true
      rw [List.length_map, decide_eq_true h1, Bool.true_and, List.all_eq_true]
      intro x hx
      obtain ⟨y, hy, rfl⟩ := List.mem_map.mp hx
      exact ih y (h2 y hy)
    | str _ => rw [listD]; exact h
    | none => exact Bool.noConfusion h
    | bool _ => exact Bool.noConfusion h
    | int _ => exact Bool.noConfusion h
    | dict _ => exact Bool.noConfusion h
theorem At.hold {T : List (Addr × Str)} {S : List Addr} {H H' : Hp} {σ : L2.St} {env : List En} {p : Addr} {xs : List V} (c : At T S H σ env) (g : Gd T H H') (nw : Nw H p) (hp : H' p = some (.lst xs)) (i : Nat) : At T (p :: S) H' (σ.set i (some (.ref p))) (env.set i (.v (.ref p))) := by
  refine ⟨(c.dom.ext g.ext).cons hp, g.tab, Fit.set (e := .v (.ref p)) rfl i (c.fit.up fun b o e n => ?_)⟩
  by_cases hb : b ∈ S
  · rw [hide_in hb] at e; cases e
  · rw [hide_out hb] at e
    have hbp : b ≠ p := fun z => by
      rw [z] at e
      obtain ⟨ps, q⟩ := nw o e
      exact n ps q
    rw [hide_out (fun z => (List.mem_cons.mp z).elim hbp hb)]
    exact g.ext b o e n
theorem rep_flat (A : List PyData) (i : Nat) : (List.replicate (i + 1) A).flatten = (List.replicate i A).flatten ++ A := by
  rw [List.replicate_succ', List.flatten_append]; simp
def rowRound (i : Nat) : PyData := .tuple [.str (names8.getD i default), eT (six.drop i ++ six.take i)]
def rowOdd (i : Nat) : PyData := .tuple [.str (names8.getD i default), eT (six.take (i + 1))]
section
variable {P : Program} {w : World} {K : PySem.W.Frag} {mg : Str → Option Value} {base : Heap} {T : List (Addr × Str)}
theorem ok_w_kit (B : Blt mg) {f : Addr} {fd : FuncData} (F : Fun K "_law_kit" "_law_kit" s_w_kit f fd) : FnOk P w K mg base CX0 1 f fd [] (PrR T R_lkit) := by
  refine F.ok sc_w_kit (PrR.len (n := 0) (fun es e h => by rw [h.1]; rfl) rfl) (fun cdv A outer s H vs Q E hr h => ?_)
  obtain ⟨S, es, e, dom, tab, r, ⟨rfl, rfl⟩, q⟩ := h
  have c := at_start (N := []) dom tab r
  refine ⟨_, (pss_one (ps_ret (pe_tup (pa_cons (pe_tup (pa_cons pe_str (pa_cons pe_str (pa_cons pe_str pa_nil)))) (pa_cons (pe_tup (pa_cons (pe_tup (pa_cons pe_str (pa_cons (pe_tup (pa_cons pe_str (pa_cons pe_str (pa_cons pe_str pa_nil)))) pa_nil))) (pa_cons (pe_tup (pa_cons pe_str (pa_cons (pe_tup (pa_cons pe_str (pa_cons pe_str pa_nil))) pa_nil))) (pa_cons (pe_tup (pa_cons pe_str (pa_cons (pe_tup (pa_cons pe_str (pa_cons pe_str pa_nil))) pa_nil))) pa_nil)))) pa_nil))))), ?_⟩
  have t3 : ∀ {env : List En} {a b c : Str}, ED T env (tTup (tCons (tC (.str a)) (tCons (tC (.str b)) (tCons (tC (.str c)) tNil)))) (.m .any (eT [a, b, c])) := fun {env a b c} => ed_tup (ea_cons ed_str (ea_cons ed_str (ea_cons ed_str ea_nil)))
  have t2 : ∀ {env : List En} {a b : Str}, ED T env (tTup (tCons (tC (.str a)) (tCons (tC (.str b)) tNil))) (.m .any (eT [a, b])) := fun {env a b} => ed_tup (ea_cons ed_str (ea_cons ed_str ea_nil))
  exact sd_ret c (ED.is (ed_tup (ea_cons t3 (ea_cons (ed_tup (ea_cons (ed_tup (ea_cons ed_str (ea_cons t3 ea_nil))) (ea_cons (ed_tup (ea_cons ed_str (ea_cons t2 ea_nil))) (ea_cons (ed_tup (ea_cons ed_str (ea_cons t2 ea_nil))) ea_nil)))) ea_nil))) rfl) q
end
section
variable {T : List (Addr × Str)} {env : List En} {K : PySem.W.Frag} {tf ts tk : TE}
theorem ix_names (i : Nat) (hi : i < 6) : (names8.map PyData.str)[i]? = some (.str (names8.getD i default)) := by
  rw [List.getElem?_map, List.getElem?_eq_getElem (by show i < 8; omega), List.getD_eq_getElem?_getD, List.getElem?_eq_getElem (by show i < 8; omega)]; rfl
theorem rw_round (i : Nat) (hi : i < 6) (h1 : ED T env tf (.m .any (eT names8))) (h2 : ED T env ts (.m .any (eT six))) (h3 : ED T env tk (.m .any (.int (i : Int)))) :
    ED T env (tTup (tCons (tOp (rIxT K) tf tk) (tCons (tOp (rCatA K) (tSl (rSlA K) ts (tPart tk) tNoPart) (tSl (rSlA K) ts tNoPart (tPart tk))) tNil))) (.m .any (rowRound i)) := by
  refine ed_tup (ea_cons (ed_ixT (m := .any) (m' := .any) (j := i) h1 h3 rfl (ix_names i hi)) (ea_cons ?_ ea_nil))
  refine ED.is (ed_catA (m := .any) (by intro z; cases z) (ED.is (e' := .m .any (eT (six.drop i))) (ed_slT (m := .any) h2 (by intro z; cases z) (eo_some (m := .any) h3) eo_none) ?_) (ED.is (e' := .m .any (eT (six.take i))) (ed_slT (m := .any) h2 (by intro z; cases z) eo_none (eo_some (m := .any) h3)) ?_) ?_) ?_
  · rw [cutD_from, ← List.map_drop]
  · rw [cutD_to, ← List.map_take]
  · rw [List.length_map, List.length_map, List.length_drop, List.length_take]; show 6 - i + min i 6 ≤ _; omega
  · unfold eT; rw [List.map_append]
theorem rw_odd (i : Nat) (hi : i < 6) (h1 : ED T env tf (.m .any (eT names8))) (h2 : ED T env ts (.m .any (eT six))) (h3 : ED T env tk (.m .any (.int (i : Int)))) :
    ED T env (tTup (tCons (tOp (rIxT K) tf tk) (tCons (tSl (rSlA K) ts tNoPart (tPart (tOp (rI0 fun i j => .int (i + j)) tk (tC (.int 1))))) tNil))) (.m .any (rowOdd i)) := by
  refine ed_tup (ea_cons (ed_ixT (m := .any) (m' := .any) (j := i) h1 h3 rfl (ix_names i hi)) (ea_cons ?_ ea_nil))
  refine ED.is (ed_slT (m := .any) h2 (by intro z; cases z) eo_none (eo_some (m := .any) (ed_add (m := .any) (m' := .any) h3 ed_int))) ?_
  rw [show ((i : Nat) : Int) + 1 = ((i + 1 : Nat) : Int) by omega, cutD_to, ← List.map_take]
end
section
variable {P : Program} {w : World} {K : PySem.W.Frag} {mg : Str → Option Value} {base : Heap} {T : List (Addr × Str)}
theorem ok_w_hand (B : Blt mg) {f f1 f2 f3 f4 f5 f6 : Addr} {fd fd1 fd2 fd3 fd4 fd5 fd6 : FuncData} (F : Fun K "_law_by_hand_right" "_law_by_hand_right" s_w_by_hand_right f fd) (C_w_kit : Cal P w K mg base "_law_kit" 1 [] (PrR T R_lkit) f1 fd1)
    (C_most_kept : Cal P w K mg base "most_kept" 9 ["book"] (PrR T R_most) f2 fd2) (C_whole_kept : Cal P w K mg base "whole_kept" 9 ["book"] (PrR T R_whole) f3 fd3) (C_wholeF : Cal P w K mg base "whole_kept" 9 ["book"] (PrF T R_whole) f3 fd3)
    (KB_most_kept : KBinds K fd2 ["book"] ["book"] (fun us ws => us ++ ws) (fun us ws => us ++ ws)) (KB_whole_kept : KBinds K fd3 ["book"] ["book"] (fun us ws => us ++ ws) (fun us ws => us ++ ws))
    (C_w_lists : Cal P w K mg base "_law_lists" 5 ["_law_matter"] (PrR T (R_llists 4)) f4 fd4) (C_w_half : Cal P w K mg base "_law_half" 5 ["_law_matter"] (PrR T (R_lhalf 3)) f5 fd5) (C_w_same : Cal P w K mg base "_law_same" 6 ["_law_got", "_law_due"] (PrR T (R_lsame 5)) f6 fd6) :
    FnOk P w K mg base CX0 10 f fd [] (PrR T R_hand) := by
  refine F.ok sc_w_by_hand_right (PrR.len (n := 0) (fun es e h => by rw [h.1]; rfl) rfl) (fun cdv A outer s H vs Q E hr h => ?_)
  obtain ⟨S, es, e, dom, tab, r, ⟨rfl, rfl⟩, q⟩ := h
  have c0 := at_start (N := ["_law_web", "_law_six_so", "_law_pair_so", "_law_folk_so", "_law_got", "_law_due", "_law_round_so", "_law_odd_so", "_law_back_so", "_law_cross_so", "_law_said_so", "_law_soft", "_law_own", "_law_k", "_law_tag"]) dom tab r
  refine ⟨_, (pss_cons (ps_asg (pe_tup (pa_cons (pe_call0 C_w_kit.ok (hr.mono (by decide)) (by rfl) C_w_kit.g C_w_kit.kp C_w_kit.b .nil pass0) (pa_cons (pe_callTy (call_tuple_text rfl) (by rfl) B.tuple bt_tuple (pa_cons pe_str pa_nil)) pa_nil))) (pg_tupK (n := 2) K rfl (pgs_cons (pg_name (i := 0) sc_w_by_hand_right.nd rfl (.inl rfl)) (pgs_cons (pg_name (i := 1) sc_w_by_hand_right.nd rfl (.inr rfl)) pgs_nil)) (by rfl) (by rfl)))
    (pss_cons (ps_asg (pe_tup (pa_cons (pe_tup (pa_cons (pe_ix (ix_tupK K) (pv 0) pe_int (fun _ _ => rfl)) (pa_cons (pe_slice (sl_tupK K) (pe_ix (ix_tupK K) (pv 0) pe_int (fun _ _ => rfl)) po_none (po_some pe_int)) pa_nil))) (pa_cons (pe_tup (pa_cons pe_str (pa_cons pe_str (pa_cons pe_str (pa_cons pe_str (pa_cons pe_str (pa_cons pe_str (pa_cons pe_str (pa_cons pe_str pa_nil))))))))) pa_nil))) (pg_tupK (n := 2) K rfl (pgs_cons (pg_name (i := 2) sc_w_by_hand_right.nd rfl (.inl rfl)) (pgs_cons (pg_name (i := 3) sc_w_by_hand_right.nd rfl (.inr rfl)) pgs_nil)) (by rfl) (by rfl)))
    (pss_cons (ps_set (i := 4) sc_w_by_hand_right.nd rfl (.inl rfl) (pe_lst (pa_cons (pe_call C_most_kept.ok (hr.mono (by decide)) (by rfl) C_most_kept.g C_most_kept.kp C_most_kept.b .nil pass0 (pa_cons (pv 0) pa_nil)) (pa_cons (pe_call C_whole_kept.ok (hr.mono (by decide)) (by rfl) C_whole_kept.g C_whole_kept.kp C_whole_kept.b .nil pass0 (pa_cons (pv 0) pa_nil)) (pa_cons (pe_call C_most_kept.ok (hr.mono (by decide)) (by rfl) C_most_kept.g C_most_kept.kp C_most_kept.b .nil pass0 (pa_cons (pv 2) pa_nil)) (pa_cons (pe_call C_whole_kept.ok (hr.mono (by decide)) (by rfl) C_whole_kept.g C_whole_kept.kp C_whole_kept.b .nil pass0 (pa_cons (pv 2) pa_nil)) pa_nil))))))
    (pss_cons (ps_set (i := 4) sc_w_by_hand_right.nd rfl (.inl rfl) (pe_op op_cat (pv 4) (pe_lst (pa_cons (pe_call C_most_kept.ok (hr.mono (by decide)) (by rfl) C_most_kept.g C_most_kept.kp C_most_kept.b .nil pass0 (pa_cons (pe_tup (pa_cons (pe_tup (pa_cons pe_str pa_nil)) (pa_cons (pe_tup pa_nil) pa_nil))) pa_nil)) (pa_cons (pe_call C_whole_kept.ok (hr.mono (by decide)) (by rfl) C_whole_kept.g C_whole_kept.kp C_whole_kept.b .nil pass0 (pa_cons (pe_tup (pa_cons (pe_tup (pa_cons pe_str pa_nil)) (pa_cons (pe_tup pa_nil) pa_nil))) pa_nil)) pa_nil)))))
    (pss_cons (ps_set (i := 4) sc_w_by_hand_right.nd rfl (.inl rfl) (pe_op op_cat (pv 4) (pe_lst (pa_cons (pe_call C_whole_kept.ok (hr.mono (by decide)) (by rfl) C_whole_kept.g C_whole_kept.kp C_whole_kept.b .nil pass0 (pa_cons (pe_tup (pa_cons (pe_tup pa_nil) (pa_cons (pe_tup (pa_cons (pe_tup (pa_cons pe_str (pa_cons (pe_tup pa_nil) pa_nil))) pa_nil)) pa_nil))) pa_nil)) pa_nil))))
    (pss_cons (ps_set (i := 5) sc_w_by_hand_right.nd rfl (.inl rfl) (pe_lst (pa_cons (pe_tup (pa_cons pe_str (pa_cons pe_str pa_nil))) (pa_cons (pe_lst (pa_cons (pe_tup (pa_cons pe_str (pa_cons pe_str pa_nil))) (pa_cons (pe_tup (pa_cons pe_str pa_nil)) pa_nil))) (pa_cons (pe_tup (pa_cons pe_str (pa_cons pe_str pa_nil))) (pa_cons (pe_lst (pa_cons (pe_tup (pa_cons pe_str (pa_cons pe_str pa_nil))) pa_nil)) (pa_cons (pe_tup pa_nil) pa_nil)))))))
    (pss_cons (ps_set (i := 5) sc_w_by_hand_right.nd rfl (.inl rfl) (pe_op op_cat (pv 5) (pe_lst (pa_cons (pe_lst (pa_cons (pe_tup pa_nil) pa_nil)) (pa_cons (pe_lst (pa_cons (pe_tup (pa_cons pe_str pa_nil)) pa_nil)) pa_nil)))))
    (pss_cons (ps_set (i := 6) sc_w_by_hand_right.nd rfl (.inl rfl) (pe_tup (pa_cons (pv 1) (pa_cons (pe_op (op_catAK K) (pe_callTy (call_tupK K) (by rfl) B.tuple bt_tuple (pa_cons (pe_lc (own := [("_law_k", 13)]) (by rfl) sc_w_by_hand_right.nd (pi_range1 (by rfl) B.range (pa_cons pe_int pa_nil)) (blkOk_by (N := ["_law_web", "_law_six_so", "_law_pair_so", "_law_folk_so", "_law_got", "_law_due", "_law_round_so", "_law_odd_so", "_law_back_so", "_law_cross_so", "_law_said_so", "_law_soft", "_law_own", "_law_k", "_law_tag"]) (sc := defScope s_w_by_hand_right) (by decide +kernel)) (fun _ _ _ _ _ => (pg_name (i := 13) sc_w_by_hand_right.nd rfl (by first | exact .inl rfl | exact .inr rfl))) (fun _ _ _ _ _ => pts_nil) (fun _ _ _ _ _ => (pe_tup (pa_cons (pe_ix (ix_tupK K) (pv 3) (pv 13) (fun _ _ => rfl)) (pa_cons (pe_op (op_catAK K) (pe_slice (sl_tupK K) (pv 1) (po_some (pv 13)) po_none) (pe_slice (sl_tupK K) (pv 1) po_none (po_some (pv 13)))) pa_nil))))) pa_nil)) (pe_tup (pa_cons (pe_tup (pa_cons pe_str (pa_cons (pe_tup pa_nil) pa_nil))) (pa_cons (pe_tup (pa_cons pe_str (pa_cons (pe_tup (pa_cons pe_str pa_nil)) pa_nil))) pa_nil)))) pa_nil))))
    (pss_cons (ps_set (i := 4) sc_w_by_hand_right.nd rfl (.inl rfl) (pe_op op_cat (pv 4) (pe_lst (pa_cons (pe_call C_most_kept.ok (hr.mono (by decide)) (by rfl) C_most_kept.g C_most_kept.kp C_most_kept.b .nil pass0 (pa_cons (pv 6) pa_nil)) (pa_cons (pe_call C_whole_kept.ok (hr.mono (by decide)) (by rfl) C_whole_kept.g C_whole_kept.kp C_whole_kept.b .nil pass0 (pa_cons (pv 6) pa_nil)) pa_nil)))))
    (pss_cons (ps_set (i := 5) sc_w_by_hand_right.nd rfl (.inl rfl) (pe_op op_cat (pv 5) (pe_lst (pa_cons (pe_slice (sl_tupK K) (pv 3) po_none (po_some pe_int)) (pa_cons (pe_lst (pa_cons (pe_slice (sl_tupK K) (pv 3) po_none (po_some pe_int)) (pa_cons (pe_tup (pa_cons pe_str (pa_cons pe_str (pa_cons pe_str pa_nil)))) pa_nil))) pa_nil)))))
    (pss_cons (ps_set (i := 7) sc_w_by_hand_right.nd rfl (.inl rfl) (pe_tup (pa_cons (pv 1) (pa_cons (pe_callTy (call_tupK K) (by rfl) B.tuple bt_tuple (pa_cons (pe_lc (own := [("_law_k", 13)]) (by rfl) sc_w_by_hand_right.nd (pi_range1 (by rfl) B.range (pa_cons pe_int pa_nil)) (blkOk_by (N := ["_law_web", "_law_six_so", "_law_pair_so", "_law_folk_so", "_law_got", "_law_due", "_law_round_so", "_law_odd_so", "_law_back_so", "_law_cross_so", "_law_said_so", "_law_soft", "_law_own", "_law_k", "_law_tag"]) (sc := defScope s_w_by_hand_right) (by decide +kernel)) (fun _ _ _ _ _ => (pg_name (i := 13) sc_w_by_hand_right.nd rfl (by first | exact .inl rfl | exact .inr rfl))) (fun _ _ _ _ _ => pts_nil) (fun _ _ _ _ _ => (pe_tup (pa_cons (pe_ix (ix_tupK K) (pv 3) (pv 13) (fun _ _ => rfl)) (pa_cons (pe_slice (sl_tupK K) (pv 1) po_none (po_some (pe_op op_add (pv 13) pe_int))) pa_nil))))) pa_nil)) pa_nil))))
    (pss_cons (ps_set (i := 8) sc_w_by_hand_right.nd rfl (.inl rfl) (pe_tup (pa_cons (pv 1) (pa_cons (pe_tup (pa_cons (pe_tup (pa_cons pe_str (pa_cons (pv 1) pa_nil))) (pa_cons (pe_tup (pa_cons pe_str (pa_cons (pe_op (op_catAK K) (pe_slice (sl_tupK K) (pv 1) (po_some pe_int) po_none) (pe_slice (sl_tupK K) (pv 1) po_none (po_some pe_int))) pa_nil))) (pa_cons (pe_tup (pa_cons pe_str (pa_cons (pe_op (op_catAK K) (pe_slice (sl_tupK K) (pv 1) (po_some pe_int) po_none) (pe_slice (sl_tupK K) (pv 1) po_none (po_some pe_int))) pa_nil))) (pa_cons (pe_tup (pa_cons pe_str (pa_cons (pe_rev (pv 1)) pa_nil))) pa_nil))))) pa_nil))))
    (pss_cons (ps_set (i := 4) sc_w_by_hand_right.nd rfl (.inl rfl) (pe_op op_cat (pv 4) (pe_lst (pa_cons (pe_call C_most_kept.ok (hr.mono (by decide)) (by rfl) C_most_kept.g C_most_kept.kp C_most_kept.b .nil pass0 (pa_cons (pv 7) pa_nil)) (pa_cons (pe_call C_whole_kept.ok (hr.mono (by decide)) (by rfl) C_whole_kept.g C_whole_kept.kp C_whole_kept.b .nil pass0 (pa_cons (pv 7) pa_nil)) (pa_cons (pe_call C_most_kept.ok (hr.mono (by decide)) (by rfl) C_most_kept.g C_most_kept.kp C_most_kept.b .nil pass0 (pa_cons (pv 8) pa_nil)) (pa_cons (pe_call C_whole_kept.ok (hr.mono (by decide)) (by rfl) C_whole_kept.g C_whole_kept.kp C_whole_kept.b .nil pass0 (pa_cons (pv 8) pa_nil)) pa_nil)))))))
    (pss_cons (ps_set (i := 5) sc_w_by_hand_right.nd rfl (.inl rfl) (pe_op op_cat (pv 5) (pe_lst (pa_cons (pe_tup (pa_cons pe_str pa_nil)) (pa_cons (pe_lc (own := [("_law_tag", 14)]) (by rfl) sc_w_by_hand_right.nd (pi_tupK K (pe_slice (sl_tupK K) (pv 3) po_none (po_some pe_int))) (blkOk_by (N := ["_law_web", "_law_six_so", "_law_pair_so", "_law_folk_so", "_law_got", "_law_due", "_law_round_so", "_law_odd_so", "_law_back_so", "_law_cross_so", "_law_said_so", "_law_soft", "_law_own", "_law_k", "_law_tag"]) (sc := defScope s_w_by_hand_right) (by decide +kernel)) (fun _ _ _ _ _ => (pg_name (i := 14) sc_w_by_hand_right.nd rfl (by first | exact .inl rfl | exact .inr rfl))) (fun _ _ _ _ _ => pts_nil) (fun _ _ _ _ _ => (pe_tup (pa_cons (pv 14) pa_nil)))) (pa_cons (pe_tup (pa_cons pe_str (pa_cons pe_str (pa_cons pe_str pa_nil)))) (pa_cons (pe_lst (pa_cons (pe_tup (pa_cons pe_str (pa_cons pe_str (pa_cons pe_str pa_nil)))) (pa_cons (pe_tup (pa_cons pe_str (pa_cons pe_str (pa_cons pe_str pa_nil)))) pa_nil))) pa_nil)))))))
    (pss_cons (ps_set (i := 9) sc_w_by_hand_right.nd rfl (.inl rfl) (pe_tup (pa_cons (pe_callTy (call_tuple_text rfl) (by rfl) B.tuple bt_tuple (pa_cons pe_str pa_nil)) (pa_cons (pe_tup (pa_cons (pe_tup (pa_cons pe_str (pa_cons (pe_tup (pa_cons pe_str (pa_cons pe_str pa_nil))) pa_nil))) (pa_cons (pe_tup (pa_cons pe_str (pa_cons (pe_tup (pa_cons pe_str (pa_cons pe_str pa_nil))) pa_nil))) (pa_cons (pe_tup (pa_cons pe_str (pa_cons (pe_tup (pa_cons pe_str (pa_cons pe_str pa_nil))) pa_nil))) (pa_cons (pe_tup (pa_cons pe_str (pa_cons (pe_tup (pa_cons pe_str (pa_cons pe_str pa_nil))) pa_nil))) pa_nil))))) pa_nil))))
    (pss_cons (ps_set (i := 4) sc_w_by_hand_right.nd rfl (.inl rfl) (pe_op op_cat (pv 4) (pe_lst (pa_cons (pe_call C_most_kept.ok (hr.mono (by decide)) (by rfl) C_most_kept.g C_most_kept.kp C_most_kept.b .nil pass0 (pa_cons (pv 9) pa_nil)) (pa_cons (pe_call C_whole_kept.ok (hr.mono (by decide)) (by rfl) C_whole_kept.g C_whole_kept.kp C_whole_kept.b .nil pass0 (pa_cons (pv 9) pa_nil)) pa_nil)))))
    (pss_cons (ps_set (i := 5) sc_w_by_hand_right.nd rfl (.inl rfl) (pe_op op_cat (pv 5) (pe_lst (pa_cons (pe_tup (pa_cons pe_str (pa_cons pe_str pa_nil))) (pa_cons (pe_lst (pa_cons (pe_tup (pa_cons pe_str (pa_cons pe_str pa_nil))) (pa_cons (pe_tup (pa_cons pe_str (pa_cons pe_str pa_nil))) (pa_cons (pe_tup (pa_cons pe_str (pa_cons pe_str pa_nil))) (pa_cons (pe_tup (pa_cons pe_str (pa_cons pe_str pa_nil))) pa_nil))))) pa_nil)))))
    (pss_cons (ps_set (i := 10) sc_w_by_hand_right.nd rfl (.inl rfl) (pe_call C_wholeF.ok (hr.mono (by decide)) (by rfl) C_wholeF.g C_wholeF.kp C_wholeF.b .nil pass0 (pa_cons (pv 0) pa_nil)))
    (pss_cons (ps_expr (pe_bm PySem.F.plainAttrs_list PySem.F.slot_list_append PySem.F.type_list_append mt_append (pv 10) (pa_cons pe_str pa_nil)))
    (pss_cons (ps_set (i := 11) sc_w_by_hand_right.nd rfl (.inl rfl) (pe_call C_w_lists.ok (hr.mono (by decide)) (by rfl) C_w_lists.g C_w_lists.kp C_w_lists.b .nil pass0 (pa_cons (pv 0) pa_nil)))
    (pss_cons (ps_for PassesOwn.never rfl (pi_tupK K (pe_tup (pa_cons (pv 11) (pa_cons (pe_call C_w_half.ok (hr.mono (by decide)) (by rfl) C_w_half.g C_w_half.kp C_w_half.b .nil pass0 (pa_cons (pv 0) pa_nil)) pa_nil)))) (pg_name (i := 12) sc_w_by_hand_right.nd rfl (.inl rfl))
      (pss_one (ps_set (i := 4) sc_w_by_hand_right.nd rfl (.inl rfl) (pe_op op_cat (pv 4) (pe_lst (pa_cons (pe_callK0 C_most_kept.ok (hr.mono (by decide)) (by rfl) C_most_kept.g C_most_kept.kp KB_most_kept pass0 (pk_cons (pv 12) pk_nil)) (pa_cons (pe_callK0 C_whole_kept.ok (hr.mono (by decide)) (by rfl) C_whole_kept.g C_whole_kept.kp KB_whole_kept pass0 (pk_cons (pv 12) pk_nil)) pa_nil)))))))
    (pss_one (ps_ret (pe_call C_w_same.ok (hr.mono (by decide)) (by rfl) C_w_same.g C_w_same.kp C_w_same.b .nil pass0 (pa_cons (pe_op op_cat (pv 4) (pe_lst (pa_cons (pv 11) pa_nil))) (pa_cons (pe_op op_cat (pe_op op_cat (pv 5) (pe_op op_rep (pe_lst (pa_cons (pe_tup (pa_cons pe_str (pa_cons pe_str pa_nil))) (pa_cons (pe_lst (pa_cons (pe_tup (pa_cons pe_str (pa_cons pe_str pa_nil))) (pa_cons (pe_tup (pa_cons pe_str pa_nil)) pa_nil))) pa_nil))) pe_int)) (pe_lst (pa_cons (pe_call C_w_lists.ok (hr.mono (by decide)) (by rfl) C_w_lists.g C_w_lists.kp C_w_lists.b .nil pass0 (pa_cons (pv 0) pa_nil)) pa_nil))) pa_nil)))))))))))))))))))))))))), ?_⟩
  refine sd_asg2 c0 (e := .m .any (webD tgKit ps_kit)) (e' := .m .any (eT six)) (ed_call0 ⟨rfl, rfl⟩) (ed_tupStr (m := .any) (z := "abcdef") (xs := ["a", "b", "c", "d", "e", "f"]) ed_str (by decide) (by decide +kernel)) fun σ1 H1 g1 c1 => ?_
  refine sd_asg2 c1 (e := .m .any (webD tgKit ps_pair)) (e' := .m .any (eT names8)) (ED.is (ed_tup (ea_cons (ed_ixT (m := .any) (m' := .any) (j := 0) (ed_var (i := 0) (e := .m .any (webD tgKit ps_kit))) ed_int rfl rfl) (ea_cons (ed_slT (m := .any) (ed_ixT (m := .any) (m' := .any) (j := 1) (ed_var (i := 0) (e := .m .any (webD tgKit ps_kit))) ed_int rfl rfl) (by intro z; cases z) eo_none (eo_some (m := .any) (ed_int (m := .any)))) ea_nil))) rfl) (ED.is (ed_tup (ea_cons ed_str (ea_cons ed_str (ea_cons ed_str (ea_cons ed_str (ea_cons ed_str (ea_cons ed_str (ea_cons ed_str (ea_cons ed_str ea_nil))))))))) rfl) fun σ2 H2 g2 c2 => ?_
  refine sd_set c2 (e := .m .any (.list (d_kit ++ d_pair))) (ED.is (ed_lst (m := .any) (ea_cons (ed_most (m := .any) (B := webD tgKit ps_kit) (ed_var (i := 0) (e := .m .any (webD tgKit ps_kit))) (bookD_web (bkB_ok bk_kit).1 (bkB_ok bk_kit).2.2) bk_kit f_kit) (ea_cons (ed_whole (m := .any) (B := webD tgKit ps_kit) (ed_var (i := 0) (e := .m .any (webD tgKit ps_kit))) (bookD_web (bkB_ok bk_kit).1 (bkB_ok bk_kit).2.2) bk_kit f_kit) (ea_cons (ed_most (m := .any) (B := webD tgKit ps_pair) (ed_var (i := 2) (e := .m .any (webD tgKit ps_pair))) (bookD_web (bkB_ok bk_pair).1 (bkB_ok bk_pair).2.2) bk_pair f_pair) (ea_cons (ed_whole (m := .any) (B := webD tgKit ps_pair) (ed_var (i := 2) (e := .m .any (webD tgKit ps_pair))) (bookD_web (bkB_ok bk_pair).1 (bkB_ok bk_pair).2.2) bk_pair f_pair) ea_nil))))) rfl) fun σ3 H3 g3 c3 => ?_
  refine sd_set c3 (e := .m .any (.list ((d_kit ++ d_pair) ++ d_none))) (ED.is (ed_catL (m := .any) (ed_var (i := 4) (e := .m .any (.list (d_kit ++ d_pair)))) (ED.is (e' := .m .any (.list (d_none))) (ed_lst (m := .any) (ea_cons (ed_most (m := .any) (B := webD ["a"] ps_none) (ED.is (ed_tup (ea_cons (ed_tup (ea_cons ed_str ea_nil)) (ea_cons (ed_tup ea_nil) ea_nil))) rfl) (bookD_web (bkB_ok bk_none).1 (bkB_ok bk_none).2.2) bk_none f_none) (ea_cons (ed_whole (m := .any) (B := webD ["a"] ps_none) (ED.is (ed_tup (ea_cons (ed_tup (ea_cons ed_str ea_nil)) (ea_cons (ed_tup ea_nil) ea_nil))) rfl) (bookD_web (bkB_ok bk_none).1 (bkB_ok bk_none).2.2) bk_none f_none) ea_nil))) rfl) (by decide)) rfl) fun σ4 H4 g4 c4 => ?_
  refine sd_set c4 (e := .m .any (.list (((d_kit ++ d_pair) ++ d_none) ++ d_one))) (ED.is (ed_catL (m := .any) (ed_var (i := 4) (e := .m .any (.list ((d_kit ++ d_pair) ++ d_none)))) (ED.is (e' := .m .any (.list (d_one))) (ed_lst (m := .any) (ea_cons (ed_whole (m := .any) (B := webD [] ps_one) (ED.is (ed_tup (ea_cons (ed_tup ea_nil) (ea_cons (ed_tup (ea_cons (ed_tup (ea_cons ed_str (ea_cons (ed_tup ea_nil) ea_nil))) ea_nil)) ea_nil))) rfl) (bookD_web (bkB_ok bk_one).1 (bkB_ok bk_one).2.2) bk_one f_one) ea_nil)) rfl) (by decide)) rfl) fun σ5 H5 g5 c5 => ?_
  refine sd_set c5 (e := .m .any (.list (d_kit ++ d_pair ++ [eT []]))) (ED.is (ed_lst (m := .any) (ea_cons (ed_tup (ea_cons ed_str (ea_cons ed_str ea_nil))) (ea_cons (ed_lst (m := .any) (ea_cons (ed_tup (ea_cons ed_str (ea_cons ed_str ea_nil))) (ea_cons (ed_tup (ea_cons ed_str ea_nil)) ea_nil))) (ea_cons (ed_tup (ea_cons ed_str (ea_cons ed_str ea_nil))) (ea_cons (ed_lst (m := .any) (ea_cons (ed_tup (ea_cons ed_str (ea_cons ed_str ea_nil))) ea_nil)) (ea_cons (ed_tup ea_nil) ea_nil)))))) rfl) fun σ6 H6 g6 c6 => ?_
  refine sd_set c6 (e := .m .any (.list (d_kit ++ d_pair ++ d_none ++ d_one))) (ED.is (ed_catL (m := .any) (ed_var (i := 5) (e := .m .any (.list (d_kit ++ d_pair ++ [eT []])))) (ed_lst (m := .any) (ea_cons (ed_lst (m := .any) (ea_cons (ed_tup ea_nil) ea_nil)) (ea_cons (ed_lst (m := .any) (ea_cons (ed_tup (ea_cons ed_str ea_nil)) ea_nil)) ea_nil))) (by decide)) rfl) fun σ7 H7 g7 c7 => ?_
  refine sd_set c7 (e := .m .any (webD six ps_round)) (ED.is (ed_tup (ea_cons (ed_var (i := 1) (e := .m .any (eT six))) (ea_cons (ed_catA (m := .any) (by intro z; cases z) (ed_tupL (m := .any) (by intro z; cases z) (ed_lcR1 (m := .any) (m' := .any) (n := 6) rowRound (ea_one ed_int) (by decide) (by decide) (fun i hi => rw_round i hi (ed_var (i := 3) (e := .m .any (eT names8))) (ed_var (i := 1) (e := .m .any (eT six))) (ed_var (i := 13) (e := .m .any (.int (i : Int))))))) (ed_tup (ea_cons (ed_tup (ea_cons ed_str (ea_cons (ed_tup ea_nil) ea_nil))) (ea_cons (ed_tup (ea_cons ed_str (ea_cons (ed_tup (ea_cons ed_str ea_nil)) ea_nil))) ea_nil))) (by decide)) ea_nil))) rfl) fun σ8 H8 g8 c8 => ?_
  refine sd_set c8 (e := .m .any (.list ((((d_kit ++ d_pair) ++ d_none) ++ d_one) ++ d_round))) (ED.is (ed_catL (m := .any) (ed_var (i := 4) (e := .m .any (.list (((d_kit ++ d_pair) ++ d_none) ++ d_one)))) (ED.is (e' := .m .any (.list (d_round))) (ed_lst (m := .any) (ea_cons (ed_most (m := .any) (B := webD six ps_round) (ed_var (i := 6) (e := .m .any (webD six ps_round))) (bookD_web (bkB_ok bk_round).1 (bkB_ok bk_round).2.2) bk_round f_round) (ea_cons (ed_whole (m := .any) (B := webD six ps_round) (ed_var (i := 6) (e := .m .any (webD six ps_round))) (bookD_web (bkB_ok bk_round).1 (bkB_ok bk_round).2.2) bk_round f_round) ea_nil))) rfl) (by decide)) rfl) fun σ9 H9 g9 c9 => ?_
  refine sd_set c9 (e := .m .any (.list (d_kit ++ d_pair ++ d_none ++ d_one ++ d_round))) (ED.is (ed_catL (m := .any) (ed_var (i := 5) (e := .m .any (.list (d_kit ++ d_pair ++ d_none ++ d_one)))) (ED.is (e' := .m .any (.list (d_round))) (ed_lst (m := .any) (ea_cons (ed_slT (m := .any) (ed_var (i := 3) (e := .m .any (eT names8))) (by intro z; cases z) eo_none (eo_some (m := .any) (ed_int (m := .any)))) (ea_cons (ed_lst (m := .any) (ea_cons (ed_slT (m := .any) (ed_var (i := 3) (e := .m .any (eT names8))) (by intro z; cases z) eo_none (eo_some (m := .any) (ed_int (m := .any)))) (ea_cons (ed_tup (ea_cons ed_str (ea_cons ed_str (ea_cons ed_str ea_nil)))) ea_nil))) ea_nil))) rfl) (by decide)) rfl) fun σ10 H10 g10 c10 => ?_
  refine sd_set c10 (e := .m .any (webD six ps_odd)) (ED.is (ed_tup (ea_cons (ed_var (i := 1) (e := .m .any (eT six))) (ea_cons (ed_tupL (m := .any) (by intro z; cases z) (ed_lcR1 (m := .any) (m' := .any) (n := 6) rowOdd (ea_one ed_int) (by decide) (by decide) (fun i hi => rw_odd i hi (ed_var (i := 3) (e := .m .any (eT names8))) (ed_var (i := 1) (e := .m .any (eT six))) (ed_var (i := 13) (e := .m .any (.int (i : Int))))))) ea_nil))) rfl) fun σ11 H11 g11 c11 => ?_
  refine sd_set c11 (e := .m .any (webD six ps_back)) (ED.is (ed_tup (ea_cons (ed_var (i := 1) (e := .m .any (eT six))) (ea_cons (ed_tup (ea_cons (ed_tup (ea_cons ed_str (ea_cons (ed_var (i := 1) (e := .m .any (eT six))) ea_nil))) (ea_cons (ed_tup (ea_cons ed_str (ea_cons (ed_catA (m := .any) (by intro z; cases z) (ed_slT (m := .any) (ed_var (i := 1) (e := .m .any (eT six))) (by intro z; cases z) (eo_some (m := .any) (ed_int (m := .any))) eo_none) (ed_slT (m := .any) (ed_var (i := 1) (e := .m .any (eT six))) (by intro z; cases z) eo_none (eo_some (m := .any) (ed_int (m := .any)))) (by decide)) ea_nil))) (ea_cons (ed_tup (ea_cons ed_str (ea_cons (ed_catA (m := .any) (by intro z; cases z) (ed_slT (m := .any) (ed_var (i := 1) (e := .m .any (eT six))) (by intro z; cases z) (eo_some (m := .any) (ed_int (m := .any))) eo_none) (ed_slT (m := .any) (ed_var (i := 1) (e := .m .any (eT six))) (by intro z; cases z) eo_none (eo_some (m := .any) (ed_int (m := .any)))) (by decide)) ea_nil))) (ea_cons (ed_tup (ea_cons ed_str (ea_cons (ed_revT (m := .any) (ed_var (i := 1) (e := .m .any (eT six))) (by intro z; cases z) (by intro z; cases z)) ea_nil))) ea_nil))))) ea_nil))) rfl) fun σ12 H12 g12 c12 => ?_
  refine sd_set c12 (e := .m .any (.list (((((d_kit ++ d_pair) ++ d_none) ++ d_one) ++ d_round) ++ (d_odd ++ d_back)))) (ED.is (ed_catL (m := .any) (ed_var (i := 4) (e := .m .any (.list ((((d_kit ++ d_pair) ++ d_none) ++ d_one) ++ d_round)))) (ED.is (e' := .m .any (.list ((d_odd ++ d_back)))) (ed_lst (m := .any) (ea_cons (ed_most (m := .any) (B := webD six ps_odd) (ed_var (i := 7) (e := .m .any (webD six ps_odd))) (bookD_web (bkB_ok bk_odd).1 (bkB_ok bk_odd).2.2) bk_odd f_odd) (ea_cons (ed_whole (m := .any) (B := webD six ps_odd) (ed_var (i := 7) (e := .m .any (webD six ps_odd))) (bookD_web (bkB_ok bk_odd).1 (bkB_ok bk_odd).2.2) bk_odd f_odd) (ea_cons (ed_most (m := .any) (B := webD six ps_back) (ed_var (i := 8) (e := .m .any (webD six ps_back))) (bookD_web (bkB_ok bk_back).1 (bkB_ok bk_back).2.2) bk_back f_back) (ea_cons (ed_whole (m := .any) (B := webD six ps_back) (ed_var (i := 8) (e := .m .any (webD six ps_back))) (bookD_web (bkB_ok bk_back).1 (bkB_ok bk_back).2.2) bk_back f_back) ea_nil))))) rfl) (by decide)) rfl) fun σ13 H13 g13 c13 => ?_
  refine sd_set c13 (e := .m .any (.list (d_kit ++ d_pair ++ d_none ++ d_one ++ d_round ++ (d_odd ++ d_back)))) (ED.is (ed_catL (m := .any) (ed_var (i := 5) (e := .m .any (.list (d_kit ++ d_pair ++ d_none ++ d_one ++ d_round)))) (ED.is (e' := .m .any (.list ((d_odd ++ d_back)))) (ed_lst (m := .any) (ea_cons (ed_tup (ea_cons ed_str ea_nil)) (ea_cons (ed_lcT1 (m := .any) (m' := .any) (bs := names8.take 6) (enc := PyData.str) (fun x : Str => eT [x]) (ED.is (ed_slT (m := .any) (ed_var (i := 3) (e := .m .any (eT names8))) (by intro z; cases z) eo_none (eo_some (m := .any) (ed_int (m := .any)))) rfl) (by decide) (by decide) (fun b hb => ed_tup (ea_one (ed_var (i := 14) (e := .m .any (.str b)))))) (ea_cons (ed_tup (ea_cons ed_str (ea_cons ed_str (ea_cons ed_str ea_nil)))) (ea_cons (ed_lst (m := .any) (ea_cons (ed_tup (ea_cons ed_str (ea_cons ed_str (ea_cons ed_str ea_nil)))) (ea_cons (ed_tup (ea_cons ed_str (ea_cons ed_str (ea_cons ed_str ea_nil)))) ea_nil))) ea_nil))))) rfl) (by decide)) rfl) fun σ14 H14 g14 c14 => ?_
  refine sd_set c14 (e := .m .any (webD tgCross ps_cross)) (ED.is (ed_tup (ea_cons (ed_tupStr (m := .any) (z := "tuvwxy") (xs := ["t", "u", "v", "w", "x", "y"]) ed_str (by decide) (by decide +kernel)) (ea_cons (ed_tup (ea_cons (ed_tup (ea_cons ed_str (ea_cons (ed_tup (ea_cons ed_str (ea_cons ed_str ea_nil))) ea_nil))) (ea_cons (ed_tup (ea_cons ed_str (ea_cons (ed_tup (ea_cons ed_str (ea_cons ed_str ea_nil))) ea_nil))) (ea_cons (ed_tup (ea_cons ed_str (ea_cons (ed_tup (ea_cons ed_str (ea_cons ed_str ea_nil))) ea_nil))) (ea_cons (ed_tup (ea_cons ed_str (ea_cons (ed_tup (ea_cons ed_str (ea_cons ed_str ea_nil))) ea_nil))) ea_nil))))) ea_nil))) rfl) fun σ15 H15 g15 c15 => ?_
  refine sd_set c15 (e := .m .any (.list ((((((d_kit ++ d_pair) ++ d_none) ++ d_one) ++ d_round) ++ (d_odd ++ d_back)) ++ d_cross))) (ED.is (ed_catL (m := .any) (ed_var (i := 4) (e := .m .any (.list (((((d_kit ++ d_pair) ++ d_none) ++ d_one) ++ d_round) ++ (d_odd ++ d_back))))) (ED.is (e' := .m .any (.list (d_cross))) (ed_lst (m := .any) (ea_cons (ed_most (m := .any) (B := webD tgCross ps_cross) (ed_var (i := 9) (e := .m .any (webD tgCross ps_cross))) (bookD_web (bkB_ok bk_cross).1 (bkB_ok bk_cross).2.2) bk_cross f_cross) (ea_cons (ed_whole (m := .any) (B := webD tgCross ps_cross) (ed_var (i := 9) (e := .m .any (webD tgCross ps_cross))) (bookD_web (bkB_ok bk_cross).1 (bkB_ok bk_cross).2.2) bk_cross f_cross) ea_nil))) rfl) (by decide)) rfl) fun σ16 H16 g16 c16 => ?_
  refine sd_set c16 (e := .m .any (.list (d_kit ++ d_pair ++ d_none ++ d_one ++ d_round ++ (d_odd ++ d_back) ++ d_cross))) (ED.is (ed_catL (m := .any) (ed_var (i := 5) (e := .m .any (.list (d_kit ++ d_pair ++ d_none ++ d_one ++ d_round ++ (d_odd ++ d_back))))) (ED.is (e' := .m .any (.list (d_cross))) (ed_lst (m := .any) (ea_cons (ed_tup (ea_cons ed_str (ea_cons ed_str ea_nil))) (ea_cons (ed_lst (m := .any) (ea_cons (ed_tup (ea_cons ed_str (ea_cons ed_str ea_nil))) (ea_cons (ed_tup (ea_cons ed_str (ea_cons ed_str ea_nil))) (ea_cons (ed_tup (ea_cons ed_str (ea_cons ed_str ea_nil))) (ea_cons (ed_tup (ea_cons ed_str (ea_cons ed_str ea_nil))) ea_nil))))) ea_nil))) rfl) (by decide)) rfl) fun σ17 H17 g17 c17 => ?_
  have bkW := bookD_web (tags := tgKit) (bkB_ok bk_kit).1 (bkB_ok bk_kit).2.2
  have shW : shS 4 (webD tgKit ps_kit) = true := by decide +kernel
  show tCall _ _ _ _ _ _ _
  refine call_run c17 (en_one (ed_var (i := 0) (e := .m .any (webD tgKit ps_kit)))) fun us HA gA rA => ?_
  have cA := c17.up gA
  refine ⟨S, _, _, cA.dom, gA.tab, rA, ⟨.any, _, ps_kit, rfl, bkW, (bkB_ok bk_kit).1, (bkB_ok bk_kit).2.1, whole_ok (bkB_ok bk_kit).2.2, rfl⟩, fun p HB gB nwB npB rB => ?_⟩
  rw [(chk_ok f_kit).2] at rB
  obtain ⟨p', acc, ep, hp, hacc⟩ := Rp.listInv (show Rp .p _ (V.ref p) _ from rB)
  cases ep
  rw [hide_out npB] at hp
  have hal := hacc.length
  have cB := cA.hold gB nwB hp 10
  refine ⟨.ref p, cB.get' (i := 10) rfl, .inl ⟨rfl, acc, SqL.of hp⟩, p, acc, .str "more", rfl, rfl, hp, by rw [hal, sizeLine_eq]; decide, ?_⟩
  have gC : Gm T [p] HB (upd HB p (.lst (acc ++ [.str "more"]))) := Gm.set gB.tab List.mem_cons_self hp
  have cC := cB.mv gC (fun x hx => by rw [List.mem_singleton.mp hx]; exact List.mem_cons_self) (cB.dom.set (nt_lst _))
  generalize upd HB p (.lst (acc ++ [.str "more"])) = HC at gC cC ⊢
  refine sd_set cC (e := .m .any (listD (webD tgKit ps_kit))) (ed_call (en_one (ed_var (i := 0) (e := .m .any (webD tgKit ps_kit)))) ⟨.any, _, rfl, shW, rfl⟩) fun σD HD gD cD => ?_
  refine sd_for (D := []) (O := fun _ _ => True) (n := 2) (y := fun i => .m .any (([listD (webD tgKit ps_kit), .tuple ([eT tgKit, ePs ps_kit].map listD)] : List PyData).getD i .none))
    (E := fun i => [.m .any (webD tgKit ps_kit), .m .any (eT six), .m .any (webD tgKit ps_pair), .m .any (eT names8), .m .any (.list (((((((d_kit ++ d_pair) ++ d_none) ++ d_one) ++ d_round) ++ (d_odd ++ d_back)) ++ d_cross) ++ (List.replicate i d_kit).flatten)), .m .any (.list (d_kit ++ d_pair ++ d_none ++ d_one ++ d_round ++ (d_odd ++ d_back) ++ d_cross)), .m .any (webD six ps_round), .m .any (webD six ps_odd), .m .any (webD six ps_back), .m .any (webD tgCross ps_cross), .v (.ref p), .m .any (listD (webD tgKit ps_kit)), .no, .no, .no])
    (E2 := fun i => [.m .any (webD tgKit ps_kit), .m .any (eT six), .m .any (webD tgKit ps_pair), .m .any (eT names8), .m .any (.list (((((((d_kit ++ d_pair) ++ d_none) ++ d_one) ++ d_round) ++ (d_odd ++ d_back)) ++ d_cross) ++ (List.replicate i d_kit).flatten)), .m .any (.list (d_kit ++ d_pair ++ d_none ++ d_one ++ d_round ++ (d_odd ++ d_back) ++ d_cross)), .m .any (webD six ps_round), .m .any (webD six ps_odd), .m .any (webD six ps_back), .m .any (webD tgCross ps_cross), .v (.ref p), .m .any (listD (webD tgKit ps_kit)), .m .any (([listD (webD tgKit ps_kit), .tuple ([eT tgKit, ePs ps_kit].map listD)] : List PyData).getD i .none), .no, .no])
    (at_eq cD ?_) (by simp) ?_ trivial (fun _ _ _ _ h => h) (fun i _ => ef_name) (fun i hi σE HE gE cE _ Nx nx => ?_) fun σF HF gF cF _ => ?_
  · show [_, _, _, _, _, _, _, _, _, _, _, _, _, _, _] = _
    rw [List.replicate_zero, List.flatten_nil, List.append_nil]
  · exact iw_tup (ds := [listD (webD tgKit ps_kit), .tuple ([eT tgKit, ePs ps_kit].map listD)]) (ed_tup (ea_two (ed_var (i := 11) (e := .m .any (listD (webD tgKit ps_kit)))) (ed_call (en_one (ed_var (i := 0) (e := .m .any (webD tgKit ps_kit)))) ⟨.any, [eT tgKit, ePs ps_kit], rfl, shW, rfl⟩)))
  · have hB : BookD (([listD (webD tgKit ps_kit), .tuple ([eT tgKit, ePs ps_kit].map listD)] : List PyData).getD i .none) ps_kit := by
      rcases (show i = 0 ∨ i = 1 by omega) with rfl | rfl
      · exact bookD_lists (bkB_ok bk_kit).1 (bkB_ok bk_kit).2.2
      · exact bookD_half (bkB_ok bk_kit).1 (bkB_ok bk_kit).2.2
    generalize ([listD (webD tgKit ps_kit), .tuple ([eT tgKit, ePs ps_kit].map listD)] : List PyData).getD i .none = Bk at hB cE
    have hlen : (((((((d_kit ++ d_pair) ++ d_none) ++ d_one) ++ d_round) ++ (d_odd ++ d_back)) ++ d_cross) ++ (List.replicate i d_kit).flatten).length ≤ 1000 := by
      rw [List.length_append]
      rcases (show i = 0 ∨ i = 1 by omega) with rfl | rfl <;> decide
    refine td_set cE (ed_catL (m := .any) (ed_var (i := 4) (e := .m .any (.list (((((((d_kit ++ d_pair) ++ d_none) ++ d_one) ++ d_round) ++ (d_odd ++ d_back)) ++ d_cross) ++ (List.replicate i d_kit).flatten)))) (ED.is (e' := .m .any (.list d_kit)) (ed_lst (m := .any) (ea_cons (ed_most (m := .any) (ed_var (i := 12) (e := .m .any Bk)) hB bk_kit f_kit) (ea_cons (ed_whole (m := .any) (ed_var (i := 12) (e := .m .any Bk)) hB bk_kit f_kit) ea_nil))) rfl) (by have : d_kit.length = 2 := rfl; omega)) fun σG HG gG cG => ?_
    refine nx _ _ gG.gm (at_eq (cG.forget 12) ?_) trivial
    rw [rep_flat, ← List.append_assoc]
    rfl
  · have gAll : Gd T H HF := by
      have g0 : Gd T H HA := (((((((((((((((((g1).trans g2).trans g3).trans g4).trans g5).trans g6).trans g7).trans g8).trans g9).trans g10).trans g11).trans g12).trans g13).trans g14).trans g15).trans g16).trans g17).trans gA
      exact (Gm.gd (g0.trans gB) (fun d hd => by rw [List.mem_singleton.mp hd]; exact Nw.down g0 nwB) gC).trans (gD.trans gF.gd')
    have shL := shS_listD 4 _ shW
    refine sd_ret cF (e := .m .any (.bool true)) (ed_call (en_two (ed_catL (m := .any) (es := [listD (webD tgKit ps_kit)]) (ed_var (i := 4) (e := .m .any (.list (((((((d_kit ++ d_pair) ++ d_none) ++ d_one) ++ d_round) ++ (d_odd ++ d_back)) ++ d_cross) ++ (List.replicate 2 d_kit).flatten)))) (ed_lst (m := .any) (ea_one (ed_var (i := 11) (e := .m .any (listD (webD tgKit ps_kit)))))) (by decide)) (ED.is (e' := .m .any (.list ((((((((d_kit ++ d_pair) ++ d_none) ++ d_one) ++ d_round) ++ (d_odd ++ d_back)) ++ d_cross) ++ (List.replicate 2 d_kit).flatten) ++ [listD (webD tgKit ps_kit)]))) (ed_catL (m := .any) (ds := (d_kit ++ d_pair ++ d_none ++ d_one ++ d_round ++ (d_odd ++ d_back) ++ d_cross) ++ (d_kit ++ d_kit)) (es := [listD (webD tgKit ps_kit)]) (ed_catL (m := .any) (ed_var (i := 5) (e := .m .any (.list (d_kit ++ d_pair ++ d_none ++ d_one ++ d_round ++ (d_odd ++ d_back) ++ d_cross)))) (ed_rep2 (m := .any) (ds := d_kit) (ED.is (e' := .m .any (.list d_kit)) (ed_lst (m := .any) (ea_cons (ed_tup (ea_cons ed_str (ea_cons ed_str ea_nil))) (ea_cons (ed_lst (m := .any) (ea_cons (ed_tup (ea_cons ed_str (ea_cons ed_str ea_nil))) (ea_cons (ed_tup (ea_cons ed_str ea_nil)) ea_nil))) ea_nil))) rfl) ed_int (by decide)) (by decide)) (ed_lst (m := .any) (ea_one (ed_call (en_one (ed_var (i := 0) (e := .m .any (webD tgKit ps_kit)))) ⟨.any, _, rfl, shW, rfl⟩))) (by decide)) rfl)) ⟨.any, .any, _, rfl, ?_, rfl⟩) fun v HG gG rG => q v HG (gAll.trans gG) (by cases (show Rp .any _ v (.bool true) from rG); exact Rp.bl true)
    show (decide (_ ≤ 1000) && List.all _ (shS 4)) = true
    rw [List.all_append, List.all_cons, List.all_nil, shL]
    decide +kernel
end
end K28
set_option Elab.async false
set_option linter.all false
set_option maxRecDepth 100000
set_option maxHeartbeats 4000000
/-! the law's drawn webs: right; the law -/
namespace K28
open PySem PySem.Spec PyProof.Rows L2 LamX PySem.W
theorem names8_sorted : sortedB names8 = true := by decide +kernel
theorem names8_nodup : names8.Nodup := by decide +kernel
theorem tags7_nodup : tags7.Nodup := by decide +kernel
structure WebFacts (tags : List Str) (ps : List (Str × List Str)) : Prop where
  bk : BookOk ps
  len : ps.length ≤ 10
  nd : (names1 ps).Nodup
  rows : ∀ p ∈ ps, p.2.Nodup
  sorted : sortS (names1 ps) = names1 ps
  tlen : tags.length ≤ 1000
theorem web_facts {tags : List Str} {ps : List (Str × List Str)} (h : WebOk tags ps) : WebFacts tags ps := by
  have hn : names1 ps = names8.take ps.length := h.names
  have tl := h.sub.len
  have htl : tags.length ≤ 7 := tl
  refine ⟨⟨by have := h.len; omega, fun p hp => ⟨(SubT.trans h.sub (h.rows p hp)).ok, ?_, ?_⟩⟩, by have := h.len; omega, ?_, fun p hp => (h.rows p hp).nodup (h.sub.nodup tags7_nodup), ?_, by omega⟩
  · have := (h.rows p hp).len; omega
  · refine okL_mem okS_names8 (List.mem_of_mem_take (i := ps.length) ?_)
    rw [← hn]; exact List.mem_map_of_mem hp
  · rw [hn]; exact List.Nodup.sublist (List.take_sublist _ _) names8_nodup
  · rw [hn]; exact sortS_self ((sortedB_pw names8_sorted).sublist (List.take_sublist _ _))
theorem hu65 {k : Nat} {A : Around} (r : Room k A) : A.units + 65 < cLine := by have := r.un; omega
theorem nil_mem_sets : ∀ n (l : List Str), l.length = n → [] ∈ setsOf l := by
  intro n
  induction n with
  | zero => intro l h; rw [List.length_eq_zero_iff.mp h]; exact List.mem_singleton.mpr rfl
  | succ n ih =>
    intro l h
    rcases List.eq_nil_or_concat l with z | ⟨l', y, rfl⟩
    · rw [z] at h; cases h
    · rw [List.concat_eq_append, setsOf_snoc]
      exact List.mem_append_left _ (ih l' (by rw [List.concat_eq_append] at h; simpa using h))
theorem depth_keys : ∀ l : List (List Str), PyData.depthAll (l.map fun s => keyD true (eT s)) ≤ 2
  | [] => by simp [PyData.depthAll]
  | s :: l => by
    have h1 := depth_key true s
    have h2 := depth_keys l
    rw [List.map_cons, PyData.depthAll]
    omega
theorem isEmpty_dec {β : Type} [DecidableEq β] (l : List β) : l.isEmpty = decide (l = []) := by cases l <;> rfl
def sp_right (T : List (Addr × Str)) : Sp := fun vs H Q _ => ∃ (d : Addr), vs = [V.ref d] ∧ TubAt H d 0 ∧ Tabs T H ∧ ∀ (H' : Hp), Gm T [d] H H' → Q (.bl true) H'
section
variable {T : List (Addr × Str)} {S : List Addr} {H : Hp} {σ : L2.St} {env : List En} {K : PySem.W.Frag} {ta tb tc te : TE} {D : Ends} {tz : TS} {m : Md}
theorem sd_asg3 {i j l : Nat} {e e' e'' : En} (c : At T S H σ env) (ha : ED T env ta e) (hb : ED T env tb e') (hc : ED T env tc e'') (k : ∀ σ' H', Gd T H H' → At T S H' σ' (((env.set i e).set j e').set l e'') → tz D σ' H') :
    tSeq (tAsg (tTup (tCons ta (tCons tb (tCons tc tNil)))) (gTup K 3 (gCons (gName i) (gCons (gName j) (gCons (gName l) gNil))))) tz D σ H :=
  ha S H σ c _ fun v H1 g1 r1 => hb S H1 σ (c.up g1) _ fun u H2 g2 r2 => hc S H2 σ ((c.up g1).up g2) _ fun w H3 g3 r3 => by
    refine ⟨small (by decide : 3 ≤ 100000), fun p hp => ?_⟩
    have g4 : Gd T H3 (upd H3 p (.tup [v, u, w])) := Gd.new g3.tab hp
    have c4 := (((c.up g1).up g2).up g3).up g4
    exact ⟨p, _, rfl, SqT.of upd_same, rfl, _, _, rfl, _, _, rfl, _, _, rfl, rfl, k _ _ (((g1.trans g2).trans g3).trans g4)
      (((c4.set (EnR.up (hide_ext ((g2.trans g3).trans g4).ext) r1) i).set (EnR.up (hide_ext (g3.trans g4).ext) r2) j).set (EnR.up (hide_ext g4.ext) r3) l)⟩
theorem shaped_pairs {l : List (Str × Str)} (h : ∀ p ∈ l, okS p.1 = true ∧ okS p.2 = true) : SeqAt.shaped (.list (l.map eP)) = true := by
  show ((PyData.list (l.map eP)).canLay0 && decide ((PyData.list (l.map eP)).depth ≤ 64)) = true
  have h1 : PyData.canLayAll0 (l.map eP) = true := by
    induction l with
    | nil => simp [PyData.canLayAll0]
    | cons p l ih =>
      obtain ⟨a, b⟩ := h p List.mem_cons_self
      rw [List.map_cons, PyData.canLayAll0, ih fun q hq => h q (List.mem_cons_of_mem _ hq), PyData.canLay0, PyData.canLayAll0, PyData.canLayAll0, PyData.canLayAll0, show (PyData.str p.1).canLay0 = true from a, show (PyData.str p.2).canLay0 = true from b]
      rfl
  have h2 : PyData.depthAll (l.map eP) ≤ 1 := by
    clear h h1
    induction l with
    | nil => simp [PyData.depthAll]
    | cons p l ih =>
      rw [List.map_cons, PyData.depthAll, PyData.depth, PyData.depthAll, PyData.depthAll, PyData.depthAll, PyData.depth, PyData.depth]
      omega
  rw [Bool.and_eq_true]
  refine ⟨by rw [PyData.canLay0]; exact h1, decide_eq_true ?_⟩
  rw [PyData.depth]
  omega
theorem shaped_sets {l : List (List Str)} (h : ∀ s ∈ l, okL s = true) : SeqAt.shaped (.list (l.map eT)) = true := by
  show ((PyData.list (l.map eT)).canLay0 && decide ((PyData.list (l.map eT)).depth ≤ 64)) = true
  have h1 : PyData.canLayAll0 (l.map eT) = true := by
    induction l with
    | nil => simp [PyData.canLayAll0]
    | cons p l ih =>
      rw [List.map_cons, PyData.canLayAll0, ih fun q hq => h q (List.mem_cons_of_mem _ hq), PyData.canLay0, lay_strs (h p List.mem_cons_self)]
      rfl
  have h2 : PyData.depthAll (l.map eT) ≤ 1 := by
    clear h h1
    induction l with
    | nil => simp [PyData.depthAll]
    | cons p l ih =>
      rw [List.map_cons, PyData.depthAll, PyData.depth, depth_strs]
      omega
  rw [Bool.and_eq_true]
  refine ⟨by rw [PyData.canLay0]; exact h1, decide_eq_true ?_⟩
  rw [PyData.depth]
  omega
theorem shaped_strs {xs : List Str} (h : okL xs = true) : SeqAt.shaped (eL xs) = true := by
  show ((eL xs).canLay0 && decide ((eL xs).depth ≤ 64)) = true
  rw [Bool.and_eq_true]
  refine ⟨?_, decide_eq_true ?_⟩
  · rw [PyData.canLay0]; exact lay_strs h
  · rw [PyData.depth, depth_strs]; decide
theorem eqv_nil {β : Type} (f : β → PyData) (l : List β) : PyData.eqv (.list (l.map f)) (.list []) = l.isEmpty := by
  cases l with
  | nil => rw [PyData.eqv, List.map_nil, PyData.eqvAll]; rfl
  | cons p ps => rw [PyData.eqv, List.map_cons, PyData.eqvAll]; rfl
theorem any_eqv (l : List (List Str)) (x : List Str) : ((l.map eT).any fun z => PyData.eqv z (eT x)) = decide (x ∈ l) := by
  rw [List.any_map, Bool.eq_iff_iff, List.any_eq_true, decide_eq_true_eq]
  constructor
  · rintro ⟨y, hy, h⟩
    have h : PyData.eqv (eT y) (eT x) = true := h
    rw [eqv_T, decide_eq_true_eq] at h
    rw [← h]; exact hy
  · intro h
    exact ⟨x, h, by show PyData.eqv (eT x) (eT x) = true; rw [eqv_T, decide_eq_true rfl]⟩
theorem isEmpty_noOdd (odd : List (Str × Str)) (s : List Str) : (odd.filter fun p => decide (p.1 ∈ s) && decide (p.2 ∈ s)).isEmpty = noOdd odd s := by
  unfold noOdd
  rw [Bool.eq_iff_iff, List.isEmpty_iff, List.filter_eq_nil_iff, Bool.not_eq_true', List.any_eq_false]
  constructor
  · intro h b hb
    obtain ⟨p, hp, rfl⟩ := List.mem_map.mp hb
    exact h p hp
  · intro h p hp
    exact h _ (List.mem_map_of_mem hp)
end
def fineS (ps : List (Str × List Str)) : List (List Str) := (setsOf (names1 ps)).filter (noOdd (lawBad ps))
def lawWhole (ps : List (Str × List Str)) : List (List Str) := (fineS ps).filter fun s => decide (lawNear (names1 ps) (fineS ps) s = [])
theorem fine_kept {tags : List Str} {ps : List (Str × List Str)} (F : WebFacts tags ps) : (keptSets ps).Perm (fineS ps) := by
  have h := kept_perm ps
  rw [F.sorted, bad_eq F.sorted F.rows] at h
  exact h
theorem law_whole_perm {tags : List Str} {ps : List (Str × List Str)} (F : WebFacts tags ps) : (wholeSets ps).Perm (lawWhole ps) := by
  have h := wholeSets_perm ps
  rw [F.sorted, bad_eq F.sorted F.rows] at h
  unfold lawWhole fineS
  rw [show (fun s => decide (lawNear (names1 ps) ((setsOf (names1 ps)).filter (noOdd (lawBad ps))) s = [])) = wholeB (names1 ps) ((setsOf (names1 ps)).filter (noOdd (lawBad ps))) from funext fun s => (whole_near _ _ s).symm]
  exact h
section
variable {P : Program} {w : World} {K : PySem.W.Frag} {mg : Str → Option Value} {base : Heap} {T : List (Addr × Str)}
theorem ok_w_right (B : Blt mg) {f f1 f2 f3 f4 f5 f6 f7 : Addr} {fd fd1 fd2 fd3 fd4 fd5 fd6 fd7 : FuncData} (F : Fun K "_law_right" "_law_right" s_w_right f fd) (C_w_book : Cal P w K mg base "_law_book" 4 ["_law_tub", "_law_many_so", "_law_wide_so"] (sp_book T) f1 fd1)
    (C_most_kept : Cal P w K mg base "most_kept" 9 ["book"] (PrR T R_most) f2 fd2) (C_whole_kept : Cal P w K mg base "whole_kept" 9 ["book"] (PrR T R_whole) f3 fd3) (C_w_lists : Cal P w K mg base "_law_lists" 5 ["_law_matter"] (PrR T (R_llists 4)) f4 fd4)
    (C_w_same : Cal P w K mg base "_law_same" 6 ["_law_got", "_law_due"] (PrR T (R_lsame 5)) f5 fd5) (C_w_odds : Cal P w K mg base "_law_odds" 2 ["_law_near", "_law_far"] (PrR T R_lodds) f6 fd6) (C_w_subs : Cal P w K mg base "_law_subs" 1 ["_law_goods_so"] (PrR T R_lsubs) f7 fd7) :
    FnOk P w K mg base CX0 10 f fd ["_law_tub"] (sp_right T) := by
  refine F.ok sc_w_right (fun vs H Q E ⟨_, h, _⟩ => by rw [h]; rfl) (fun cdv A outer s H vs Q E hr h => ?_)
  obtain ⟨d, rfl, ht, tab, q⟩ := h
  have hu := hu_of hr
  have dm : Dom [d] H := fun s hs => by
    obtain ⟨a, b, c, hd, _⟩ := ht
    rw [List.mem_singleton.mp hs]; exact ⟨_, hd, nt_lst _⟩
  have c0 := at_start (T := T) (S := [d]) (N := ["_law_tub", "_law_turn", "_law_web", "_law_own", "_law_folk_so", "_law_lines_so", "_law_bad_so", "_law_k", "_law_tag", "_law_fine", "_law_whole_so", "_law_near", "_law_due", "_law_got", "_law_mate", "_law_far"]) (es := [.v (.ref d)]) dm tab (.cons rfl .nil)
  refine ⟨_, (pss_cons (ps_for PassesOwn.never rfl (pi_range1 (by rfl) B.range (pa_cons pe_int pa_nil)) (pg_name (i := 1) sc_w_right.nd rfl (.inl rfl))
      (pss_cons (ps_set (i := 2) sc_w_right.nd rfl (.inl rfl) (pe_call C_w_book.ok (hr.mono (by decide)) (by rfl) C_w_book.g C_w_book.kp C_w_book.b .nil pass0 (pa_cons (pv 0) (pa_cons pe_int (pa_cons pe_int pa_nil)))))
      (pss_cons (ps_asg (pe_tup (pa_cons (pe_lc (own := [("_law_own", 3)]) (by rfl) sc_w_right.nd (pi_tupK K (pe_ix (ix_tupK K) (pv 2) pe_int (fun _ _ => rfl))) (blkOk_by (N := ["_law_tub", "_law_turn", "_law_web", "_law_own", "_law_folk_so", "_law_lines_so", "_law_bad_so", "_law_k", "_law_tag", "_law_fine", "_law_whole_so", "_law_near", "_law_due", "_law_got", "_law_mate", "_law_far"]) (sc := defScope s_w_right) (by decide +kernel)) (fun _ _ _ _ _ => (pg_name (i := 3) sc_w_right.nd rfl (by first | exact .inl rfl | exact .inr rfl))) (fun _ _ _ _ _ => pts_nil) (fun _ _ _ _ _ => (pe_ix (ix_tupK K) (pv 3) pe_int (fun _ _ => rfl)))) (pa_cons (pe_callTy (call_dictZ rfl) (by rfl) B.dict bt_dict (pa_cons (pe_ix (ix_tupK K) (pv 2) pe_int (fun _ _ => rfl)) pa_nil)) (pa_cons (pe_lst pa_nil) pa_nil)))) (pg_tupK (n := 3) K rfl (pgs_cons (pg_name (i := 4) sc_w_right.nd rfl (.inl rfl)) (pgs_cons (pg_name (i := 5) sc_w_right.nd rfl (.inr rfl)) (pgs_cons (pg_name (i := 6) sc_w_right.nd rfl (.inr rfl)) pgs_nil))) (by rfl) (by rfl)))
      (pss_cons (ps_for PassesOwn.never rfl (pi_enum (by rfl) B.enumerate (pa_cons (pv 4) pa_nil)) (pg_tupK (n := 2) K rfl (pgs_cons (pg_name (i := 7) sc_w_right.nd rfl (.inl rfl)) (pgs_cons (pg_name (i := 8) sc_w_right.nd rfl (.inr rfl)) pgs_nil)) (by rfl) (by rfl))
        (pss_one (ps_set (i := 6) sc_w_right.nd rfl (.inr rfl) (pe_op op_cat (pv 6) (pe_lc (own := [("_law_mate", 14)]) (by rfl) sc_w_right.nd (pi_listK K (pe_slice (sl_listK K) (pv 4) (po_some (pe_op op_add (pv 7) pe_int)) po_none)) (blkOk_by (N := ["_law_tub", "_law_turn", "_law_web", "_law_own", "_law_folk_so", "_law_lines_so", "_law_bad_so", "_law_k", "_law_tag", "_law_fine", "_law_whole_so", "_law_near", "_law_due", "_law_got", "_law_mate", "_law_far"]) (sc := defScope s_w_right) (by decide +kernel)) (fun _ _ _ _ _ => (pg_name (i := 14) sc_w_right.nd rfl (by first | exact .inl rfl | exact .inr rfl))) (fun _ _ _ _ _ => (pts_one (pt_cmpR (op_neDK K hr.units) (pe_call C_w_odds.ok (hr.mono (by decide)) (by rfl) C_w_odds.g C_w_odds.kp C_w_odds.b .nil pass0 (pa_cons (pe_dget hu (pv 5) (pv 8) (fun _ _ => rfl)) (pa_cons (pe_dget hu (pv 5) (pv 14) (fun _ _ => rfl)) pa_nil))) (pe_tup pa_nil) (nomark _)))) (fun _ _ _ _ _ => (pe_tup (pa_cons (pv 8) (pa_cons (pv 14) pa_nil)))))))))
      (pss_cons (ps_set (i := 9) sc_w_right.nd rfl (.inr rfl) (pe_lc (own := [("_law_own", 3)]) (by rfl) sc_w_right.nd (pi_listK K (pe_call C_w_subs.ok (hr.mono (by decide)) (by rfl) C_w_subs.g C_w_subs.kp C_w_subs.b .nil pass0 (pa_cons (pv 4) pa_nil))) (blkOk_by (N := ["_law_tub", "_law_turn", "_law_web", "_law_own", "_law_folk_so", "_law_lines_so", "_law_bad_so", "_law_k", "_law_tag", "_law_fine", "_law_whole_so", "_law_near", "_law_due", "_law_got", "_law_mate", "_law_far"]) (sc := defScope s_w_right) (by decide +kernel)) (fun _ _ _ _ _ => (pg_name (i := 3) sc_w_right.nd rfl (by first | exact .inl rfl | exact .inr rfl))) (fun _ _ _ _ _ => (pts_one (pt_cmpR (op_eqDK K hr.units) (pe_lc (own := [("_law_far", 15)]) (by rfl) sc_w_right.nd (pi_listK K (pv 6)) (blkOk_by (N := ["_law_tub", "_law_turn", "_law_web", "_law_own", "_law_folk_so", "_law_lines_so", "_law_bad_so", "_law_k", "_law_tag", "_law_fine", "_law_whole_so", "_law_near", "_law_due", "_law_got", "_law_mate", "_law_far"]) (sc := relS _ (defScope s_w_right)) (by decide +kernel)) (fun _ _ _ _ _ => (pg_name (i := 15) sc_w_right.nd rfl (by first | exact .inl rfl | exact .inr rfl))) (fun _ _ _ _ _ => (pts_one (PW.pt (pw_and (pt_cmpR (op_inK K) (pe_ix (ix_tupK K) (pv 15) pe_int (fun _ _ => rfl)) (pv 3) (by rfl)) (pw_and1 (pt_cmpR (op_inK K) (pe_ix (ix_tupK K) (pv 15) pe_int (fun _ _ => rfl)) (pv 3) (by rfl))))))) (fun _ _ _ _ _ => (pv 15))) (pe_lst pa_nil) (nomark _)))) (fun _ _ _ _ _ => (pv 3))))
      (pss_cons (ps_set (i := 10) sc_w_right.nd rfl (.inl rfl) (pe_lst pa_nil))
      (pss_cons (ps_for PassesOwn.never rfl (pi_listK K (pv 9)) (pg_name (i := 3) sc_w_right.nd rfl (.inr rfl))
        (pss_cons (ps_setLc (i := 11) (own := [("_law_tag", 8)]) (by rfl) sc_w_right.nd rfl rfl (sw_true rfl rfl rfl (by decide +kernel)) (pi_listK K (pv 4)) (blkOk_by (N := ["_law_tub", "_law_turn", "_law_web", "_law_own", "_law_folk_so", "_law_lines_so", "_law_bad_so", "_law_k", "_law_tag", "_law_fine", "_law_whole_so", "_law_near", "_law_due", "_law_got", "_law_mate", "_law_far"]) (sc := defScope s_w_right) (by decide +kernel)) (fun _ _ _ _ _ => (pg_name (i := 8) sc_w_right.nd rfl (by first | exact .inl rfl | exact .inr rfl))) (fun _ _ _ _ _ => (pts_one (PW.pt (pw_and (pt_cmpR (op_niK K) (pv 8) (pv 3) (by rfl)) (pw_and1 (pt_cmpR (op_inDK K (hu65 hr)) (pe_callTy (call_tupK K) (by rfl) B.tuple bt_tuple (pa_cons (pe_callB (cr_sortK K hr.units) (by rfl) B.sorted bt_sorted (pa_cons (pe_op (op_catAK K) (pv 3) (pe_tup (pa_cons (pv 8) pa_nil))) pa_nil)) pa_nil)) (pv 9) (by rfl))))))) (fun _ _ _ _ _ => (pv 8)))
        (pss_one (ps_if (pt_cmpR (op_eqDK K hr.units) (pv 11) (pe_lst pa_nil) (nomark _))
          (pss_one (ps_expr (pe_bm PySem.F.plainAttrs_list PySem.F.slot_list_append PySem.F.type_list_append mt_append (pv 10) (pa_cons (pv 3) pa_nil))))
          pss_nil))))
      (pss_cons (ps_set (i := 12) sc_w_right.nd rfl (.inl rfl) (pe_lst (pa_cons (pe_ix (ix_tupK K) (pe_callB (cr_minD rfl hr.units) (by rfl) B.min bt_min (pa_cons (pe_lc (own := [("_law_own", 3)]) (by rfl) sc_w_right.nd (pi_listK K (pv 9)) (blkOk_by (N := ["_law_tub", "_law_turn", "_law_web", "_law_own", "_law_folk_so", "_law_lines_so", "_law_bad_so", "_law_k", "_law_tag", "_law_fine", "_law_whole_so", "_law_near", "_law_due", "_law_got", "_law_mate", "_law_far"]) (sc := defScope s_w_right) (by decide +kernel)) (fun _ _ _ _ _ => (pg_name (i := 3) sc_w_right.nd rfl (by first | exact .inl rfl | exact .inr rfl))) (fun _ _ _ _ _ => pts_nil) (fun _ _ _ _ _ => (pe_tup (pa_cons (pe_op op_sub pe_int (pe_callB (call_lenK K) (by rfl) B.len bt_len (pa_cons (pv 3) pa_nil))) (pa_cons (pv 3) pa_nil))))) pa_nil)) pe_int (fun _ _ => rfl)) (pa_cons (pe_callB (cr_sortK K hr.units) (by rfl) B.sorted bt_sorted (pa_cons (pv 10) pa_nil)) pa_nil))))
      (pss_cons (ps_set (i := 13) sc_w_right.nd rfl (.inl rfl) (pe_lst (pa_cons (pe_call C_most_kept.ok (hr.mono (by decide)) (by rfl) C_most_kept.g C_most_kept.kp C_most_kept.b .nil pass0 (pa_cons (pv 2) pa_nil)) (pa_cons (pe_call C_whole_kept.ok (hr.mono (by decide)) (by rfl) C_whole_kept.g C_whole_kept.kp C_whole_kept.b .nil pass0 (pa_cons (pv 2) pa_nil)) (pa_cons (pe_call C_most_kept.ok (hr.mono (by decide)) (by rfl) C_most_kept.g C_most_kept.kp C_most_kept.b .nil pass0 (pa_cons (pe_call C_w_lists.ok (hr.mono (by decide)) (by rfl) C_w_lists.g C_w_lists.kp C_w_lists.b .nil pass0 (pa_cons (pv 2) pa_nil)) pa_nil)) pa_nil)))))
      (pss_cons (ps_set (i := 13) sc_w_right.nd rfl (.inl rfl) (pe_op op_cat (pv 13) (pe_lst (pa_cons (pe_call C_whole_kept.ok (hr.mono (by decide)) (by rfl) C_whole_kept.g C_whole_kept.kp C_whole_kept.b .nil pass0 (pa_cons (pe_call C_w_lists.ok (hr.mono (by decide)) (by rfl) C_w_lists.g C_w_lists.kp C_w_lists.b .nil pass0 (pa_cons (pv 2) pa_nil)) pa_nil)) pa_nil))))
      (pss_one (ps_if (pt_not (pt_val (pe_call C_w_same.ok (hr.mono (by decide)) (by rfl) C_w_same.g C_w_same.kp C_w_same.b .nil pass0 (pa_cons (pv 13) (pa_cons (pe_op op_cat (pv 12) (pv 12)) pa_nil)))))
        (pss_one (ps_ret pe_bl))
        pss_nil))))))))))))
    (pss_one (ps_ret pe_bl))), ?_⟩
  refine sd_for (D := [d]) (n := 8) (y := fun i => .m .any (.int (i : Int))) (E := fun _ => [.v (.ref d), .no, .no, .no, .no, .no, .no, .no, .no, .no, .no, .no, .no, .no, .no, .no]) (E2 := fun i => [.v (.ref d), .m .any (.int (i : Int)), .no, .no, .no, .no, .no, .no, .no, .no, .no, .no, .no, .no, .no, .no]) (O := fun i H' => TubAt H' d (400 * i))
    c0 (fun x hx => hx) (iw_range (by decide) (ea_one ed_int)) ht (fun _ _ _ g o => o.up g) (fun i _ => ef_name) (fun i hi σ1 H1 g1 c1 t1 Nx nx => ?_) fun σ2 H2 g2 c2 t2 => ?_
  · have hsd : ∀ x ∈ [d], x ∈ [d] := fun x hx => hx
    show tCall _ _ _ _ _ _ _
    refine call_run c1 (en_cons (ed_var (i := 0) (e := .v (.ref d))) (en_two (ed_int (m := .any)) (ed_int (m := .any)))) fun us HA gA rA => ?_
    refine ⟨[d], d, 400 * i, (c1.up gA).dom, gA.tab, List.mem_cons_self, rA, t1.up gA, by omega, fun tags ps v HB hW gB tB dmB rB => ?_⟩
    have F := web_facts hW
    have tbl := F.bk
    have c2 := at_eq (((c1.up gA).mv gB hsd dmB).set (e := .m .z (webD tags ps)) rB 2) (e' := [.v (.ref d), .m .any (.int (i : Int)), .m .z (webD tags ps), .no, .no, .no, .no, .no, .no, .no, .no, .no, .no, .no, .no, .no]) rfl
    have gAB : Gm T [d] H1 HB := gA.gm.trans gB
    have hnl : (names1 ps).length ≤ 10 := by rw [List.length_map]; exact F.len
    refine sd_asg3 c2 (e := .m .any (eL (names1 ps))) (e' := .k .z (ps.map fun p => (p.1, eT p.2))) (e'' := .m .any (.list ([] : List PyData))) (ED.is (ed_lcT1 (m := .z) (m' := .any) (bs := ps) (enc := eRow) (fun p => .str p.1) (ed_ixT (m := .z) (m' := .any) (j := 1) (ed_var (i := 2) (e := .m .z (webD tags ps))) ed_int rfl rfl) (by decide) (by have := F.len; omega) (fun p hp => (ed_ixT (m := .z) (m' := .any) (j := 0) (ed_var (i := 3) (e := .m .z (eRow p))) ed_int rfl rfl).atS)) (by unfold eL names1; rw [List.map_map]; rfl))
      (ed_dictZ (ps := ps) (ed_ixT (m := .z) (m' := .any) (j := 1) (ed_var (i := 2) (e := .m .z (webD tags ps))) ed_int rfl rfl) F.nd) (ed_lst ea_nil (Nat.zero_le _)) fun σ3 H3 g3 c3 => ?_
    refine sd_for (D := []) (O := fun _ _ => True) (n := (names1 ps).length) (y := fun k => .m .any (.tuple [.int (k : Int), ((names1 ps).map PyData.str).getD k .none])) (E := fun k => [.v (.ref d), .m .any (.int (i : Int)), .m .z (webD tags ps), .no, .m .any (eL (names1 ps)), .k .z (ps.map fun p => (p.1, eT p.2)), .m .any (.list (((List.range k).flatMap (lawBadK ps)).map eP)), .no, .no, .no, .no, .no, .no, .no, .no, .no])
      (E2 := fun k => [.v (.ref d), .m .any (.int (i : Int)), .m .z (webD tags ps), .no, .m .any (eL (names1 ps)), .k .z (ps.map fun p => (p.1, eT p.2)), .m .any (.list (((List.range k).flatMap (lawBadK ps)).map eP)), .m .any (.int (k : Int)), .m .any (((names1 ps).map PyData.str).getD k .none), .no, .no, .no, .no, .no, .no, .no])
      (at_eq c3 rfl) (by simp) ?_ trivial (fun _ _ _ _ h => h) (fun k _ => ef_pair) (fun k hk σ4 H4 g4 c4 _ Nx4 nx4 => ?_) fun σ5 H5 g5 c5 _ => ?_
    · have z := iw_enum (T := T) (env := [.v (.ref d), .m .any (.int (i : Int)), .m .z (webD tags ps), .no, .m .any (eL (names1 ps)), .k .z (ps.map fun p => (p.1, eT p.2)), .m .any (.list (((List.range 0).flatMap (lawBadK ps)).map eP)), .no, .no, .no, .no, .no, .no, .no, .no, .no]) (K := K) (aa := tCons (tVar 4) tNil) (m := .any) (ds := (names1 ps).map PyData.str) (by intro z; cases z) (ea_one (ed_var (i := 4) (e := .m .any (eL (names1 ps)))))
      rw [List.length_map] at z
      exact z
    · have e1 : ((names1 ps).map PyData.str).getD k .none = .str ((names1 ps).getD k default) := by rw [List.getD_eq_getElem?_getD, List.getElem?_map, List.getD_eq_getElem?_getD, List.getElem?_eq_getElem hk]; rfl
      simp only [e1] at c4
      have mk : (names1 ps).getD k default ∈ names1 ps := by rw [List.getD_eq_getElem?_getD, List.getElem?_eq_getElem hk]; exact List.getElem_mem hk
      have hbad : ∀ n, n ≤ 10 → ((List.range n).flatMap (lawBadK ps)).length ≤ n * 10 := by
        intro n
        induction n with
        | zero => intro _; simp
        | succ n ih =>
          intro hn
          rw [List.range_succ, List.flatMap_append, List.flatMap_singleton, List.length_append]
          have h1 := ih (by omega)
          have h2 : (lawBadK ps n).length ≤ 10 := by
            unfold lawBadK
            rw [List.length_map]
            refine Nat.le_trans (List.length_filter_le _ _) ?_
            rw [List.length_drop]; omega
          omega
      have hb1 := hbad k (by omega)
      have hb2 : (lawBadK ps k).length ≤ 10 := by
        unfold lawBadK
        rw [List.length_map]
        refine Nat.le_trans (List.length_filter_le _ _) ?_
        rw [List.length_drop]; omega
      refine td_set c4 (ed_catL (m := .any) (ed_var (i := 6) (e := .m .any (.list (((List.range k).flatMap (lawBadK ps)).map eP)))) (ED.is (e' := .m .any (.list ((lawBadK ps k).map eP))) (ed_lcL (m := .any) (m' := .any) (bs := (names1 ps).drop (k + 1)) (enc := PyData.str) (fun mate : Str => !decide (lawOdds (look ps ((names1 ps).getD k default)) (look ps mate) = [])) (fun mate => .tuple [.str ((names1 ps).getD k default), .str mate])
        (ED.is (ed_slL (m := .any) (ds := (names1 ps).map PyData.str) (ed_var (i := 4) (e := .m .any (eL (names1 ps)))) (eo_some (m := .any) (ed_add (m := .any) (m' := .any) (ed_var (i := 7) (e := .m .any (.int (k : Int)))) ed_int)) eo_none) ?_) (by decide) (by rw [List.length_drop]; omega) (fun b hb => ?_) (fun b hb _ => ed_tup (ea_two (ed_var (i := 8) (e := .m .any (.str ((names1 ps).getD k default)))) (ed_var (i := 14) (e := .m .any (.str b)))))) ?_) (by rw [List.length_map, List.length_map]; omega)) fun σ6 H6 g6 c6 => ?_
      · rw [show ((k : Nat) : Int) + 1 = ((k + 1 : Nat) : Int) by omega, cutD_from, ← List.map_drop]
      · have mb : b ∈ names1 ps := List.mem_of_mem_drop hb
        obtain ⟨t1, q1, hq1, e1⟩ := find_table mk
        obtain ⟨t2, q2, hq2, e2⟩ := find_table mb
        refine ET.is (et_test (m := .any) (ed_neD (m := .any) (m' := .any) (ed_call (en_two (ed_dget (m' := .any) (ed_var (i := 5) (e := .k .z (ps.map fun p => (p.1, eT p.2)))) (ed_var (i := 8) (e := .m .any (.str ((names1 ps).getD k default)))) t1) (ed_dget (m' := .any) (ed_var (i := 5) (e := .k .z (ps.map fun p => (p.1, eT p.2)))) (ed_var (i := 14) (e := .m .any (.str b))) t2)) ⟨_, _, rfl, ?_, ?_, ?_, ?_, rfl⟩) (ed_tup (ds := ([] : List Str).map PyData.str) ea_nil) (shaped_eT ?_) (shaped_eT (xs := []) rfl))) (by rw [eqv_T])
        · rw [e1]; exact (F.bk.ok q1 hq1).1
        · rw [e2]; exact (F.bk.ok q2 hq2).1
        · rw [e1]; exact (F.bk.ok q1 hq1).2.1
        · rw [e2]; exact (F.bk.ok q2 hq2).2.1
        · refine okL_of fun x hx => ?_
          have hx := (List.mem_filter.mp ((sortS_perm _).mem_iff.mp hx)).1
          rw [e1] at hx
          exact okL_mem (F.bk.ok q1 hq1).1 (List.mem_filter.mp hx).1
      · unfold lawBadK
        rw [List.map_map]; rfl
      · refine nx4 _ _ g6.gm (at_eq ((c6.forget 7).forget 8) ?_) trivial
        rw [← List.map_append, List.range_succ, List.flatMap_append, List.flatMap_singleton]
        rfl
    have c5 := at_eq c5 (e' := [.v (.ref d), .m .any (.int (i : Int)), .m .z (webD tags ps), .no, .m .any (eL (names1 ps)), .k .z (ps.map fun p => (p.1, eT p.2)), .m .any (.list ((lawBad ps).map eP)), .no, .no, .no, .no, .no, .no, .no, .no, .no]) rfl
    have t5 : TubAt H5 d (400 * i + 400) := (tB.up g3).up g5.gd'
    have hbl : (lawBad ps).length ≤ 1000 := by
      rw [← bad_eq F.sorted F.rows]
      refine Nat.le_trans (List.length_filter_le _ _) ?_
      rw [F.sorted]
      have hb : ∀ n, n ≤ 10 → ((List.range n).flatMap fun i => ((names1 ps).drop (i + 1)).map fun o => ((names1 ps).getD i default, o)).length ≤ n * 10 := by
        intro n
        induction n with
        | zero => intro _; simp
        | succ n ih =>
          intro hn
          rw [List.range_succ, List.flatMap_append, List.flatMap_singleton, List.length_append, List.length_map, List.length_drop]
          have := ih (by omega)
          omega
      have := hb _ hnl
      unfold pairsI
      omega
    have okn : ∀ x ∈ names1 ps, okS x = true := fun x hx => by
      obtain ⟨p, hp, rfl⟩ := List.mem_map.mp hx
      exact (F.bk.ok p hp).2.2
    have okbad : ∀ p ∈ lawBad ps, okS p.1 = true ∧ okS p.2 = true := fun p hp => by
      rw [← bad_eq F.sorted F.rows] at hp
      obtain ⟨m1, m2⟩ := mem_pairsI (List.mem_filter.mp hp).1
      rw [F.sorted] at m1 m2
      exact ⟨okn _ m1, okn _ m2⟩
    have hsl : (setsOf (names1 ps)).length ≤ 1024 := by rw [setsOf_length _ _ rfl]; exact pow_le hnl
    have hsub : ∀ s ∈ setsOf (names1 ps), s.length ≤ 10 ∧ okL s = true := fun s hs => ⟨by have := setsOf_mem_len _ _ rfl s hs; omega, okL_of fun x hx => okn x (setsOf_sub _ _ rfl s hs x hx)⟩
    refine sd_set c5 (e := .m .any (.list ((fineS ps).map eT))) (ed_lcL (m := .any) (m' := .any) (bs := setsOf (names1 ps)) (enc := eT) (noOdd (lawBad ps)) eT (ed_call (en_one (ed_var (i := 4) (e := .m .any (eL (names1 ps))))) ⟨.any, names1 ps, rfl, hnl, rfl⟩) (by decide) (by omega) (fun b hb => ?_) (fun b _ _ => ed_var (i := 3) (e := .m .any (eT b)))) fun σ6 H6 g6 c6 => ?_
    · refine ET.is (et_test (m := .any) (ed_eqD (m := .any) (m' := .any) (ed_lcL (m := .any) (m' := .any) (bs := lawBad ps) (enc := eP) (fun p => decide (p.1 ∈ b) && decide (p.2 ∈ b)) eP (ed_var (i := 6) (e := .m .any (.list ((lawBad ps).map eP)))) (by decide) (by omega) (fun p hp => et_and (et_test (m := .any) (ed_inT (m := .any) (m' := .any) (ed_ixT (m' := .any) (j := 0) (ed_var (i := 15) (e := .m .any (eP p))) ed_int rfl rfl) (ed_var (i := 3) (e := .m .any (eT b))))) fun _ => et_test (m := .any) (ed_inT (m := .any) (m' := .any) (ed_ixT (m' := .any) (j := 1) (ed_var (i := 15) (e := .m .any (eP p))) ed_int rfl rfl) (ed_var (i := 3) (e := .m .any (eT b))))) (fun p _ _ => ed_var (i := 15) (e := .m .any (eP p)))) (ed_lst ea_nil (Nat.zero_le _)) (shaped_pairs fun p hp => okbad p (List.mem_filter.mp hp).1) shaped_nil)) ?_
      rw [eqv_nil, isEmpty_noOdd]
    have hfl : (fineS ps).length ≤ 1024 := Nat.le_trans (List.length_filter_le _ _) hsl
    have hfs : ∀ s ∈ fineS ps, s.length ≤ 10 ∧ okL s = true := fun s hs => hsub s (List.mem_filter.mp hs).1
    refine sd_own (m := .any) c6 fun p σ7 H7 g7 nw np c7 o7 => ?_
    have npd : d ≠ p := fun z => np (by rw [← z]; exact List.mem_cons_self)
    refine sd_for (D := [p]) (n := (fineS ps).length) (y := fun j => .m .any (((fineS ps).map eT).getD j .none)) (E := fun _ => [.v (.ref d), .m .any (.int (i : Int)), .m .z (webD tags ps), .no, .m .any (eL (names1 ps)), .k .z (ps.map fun p => (p.1, eT p.2)), .m .any (.list ((lawBad ps).map eP)), .no, .no, .m .any (.list ((fineS ps).map eT)), .v (.ref p), .no, .no, .no, .no, .no])
      (E2 := fun j => [.v (.ref d), .m .any (.int (i : Int)), .m .z (webD tags ps), .m .any (((fineS ps).map eT).getD j .none), .m .any (eL (names1 ps)), .k .z (ps.map fun p => (p.1, eT p.2)), .m .any (.list ((lawBad ps).map eP)), .no, .no, .m .any (.list ((fineS ps).map eT)), .v (.ref p), .no, .no, .no, .no, .no])
      (O := fun j H' => Own .any (p :: [d]) H' p ((((fineS ps).take j).filter fun s => decide (lawNear (names1 ps) (fineS ps) s = [])).map eT)) (at_eq c7 rfl) (fun x hx => by rw [List.mem_singleton.mp hx]; exact List.mem_cons_self) ?_ o7 (fun _ _ _ g o => o.up g) (fun j _ => ef_name) (fun j hj σ8 H8 g8 c8 o8 Nx8 nx8 => ?_) fun σ9 H9 g9 c9 o9 => ?_
    · have z := iw_list (T := T) (env := [.v (.ref d), .m .any (.int (i : Int)), .m .z (webD tags ps), .no, .m .any (eL (names1 ps)), .k .z (ps.map fun p => (p.1, eT p.2)), .m .any (.list ((lawBad ps).map eP)), .no, .no, .m .any (.list ((fineS ps).map eT)), .v (.ref p), .no, .no, .no, .no, .no]) (K := K) (m := .any) (ds := (fineS ps).map eT) (ed_var (i := 9) (e := .m .any (.list ((fineS ps).map eT))))
      rw [List.length_map] at z
      exact z
    · have e1 : ((fineS ps).map eT).getD j .none = eT (fineS ps)[j] := by rw [List.getD_eq_getElem?_getD, List.getElem?_map, List.getElem?_eq_getElem hj]; rfl
      simp only [e1] at c8
      have hs := List.getElem_mem hj
      have hos : (fineS ps)[j]? = some (fineS ps)[j] := List.getElem?_eq_getElem hj
      generalize (fineS ps)[j] = s at c8 hs hos
      obtain ⟨sl, sok⟩ := hfs s hs
      refine sd_set c8 (e := .m .any (eL (lawNear (names1 ps) (fineS ps) s))) (ed_lcL (m := .any) (m' := .any) (bs := names1 ps) (enc := PyData.str) (fun t : Str => !decide (t ∈ s) && decide (sortS (s ++ [t]) ∈ fineS ps)) PyData.str (ed_var (i := 4) (e := .m .any (eL (names1 ps)))) (by decide) (by omega) (fun b hb => ?_) (fun b _ _ => ed_var (i := 8) (e := .m .any (.str b)))) fun σA HA' gA' cA => ?_
      · refine et_and (et_test (m := .any) (ed_niT (m := .any) (m' := .any) (ed_var (i := 8) (e := .m .any (.str b))) (ed_var (i := 3) (e := .m .any (eT s))))) fun _ => ?_
        refine ET.is (et_test (m := .any) (ed_inD (m := .any) (m' := .any) (d := eT (sortS (s ++ [b]))) (ds := (fineS ps).map eT) (ed_tupL (m := .any) (by intro z; cases z) (ed_sortS (m := .any) (.inr (ED.is (e' := .m .any (eT (s ++ [b]))) (ed_catA (m := .any) (ds := s.map PyData.str) (es := [.str b]) (by intro z; cases z) (ed_var (i := 3) (e := .m .any (eT s))) (ed_tup (ea_one (ed_var (i := 8) (e := .m .any (.str b))))) (by rw [List.length_map]; show s.length + 1 ≤ _; omega)) (by unfold eT; rw [List.map_append]; rfl))))) (ed_var (i := 9) (e := .m .any (.list ((fineS ps).map eT)))) (shaped_eT ?_) (shaped_sets fun s hs => (hfs s hs).2))) (by rw [any_eqv])
        refine okL_of fun x hx => ?_
        rcases List.mem_append.mp ((sortS_perm _).mem_iff.mp hx) with z | z
        · exact okL_mem sok z
        · rw [List.mem_singleton.mp z]; exact okn b hb
      · have hnear : okL (lawNear (names1 ps) (fineS ps) s) = true := okL_of fun x hx => okn x (List.mem_filter.mp hx).1
        refine sd_ifE cA (b := decide (lawNear (names1 ps) (fineS ps) s = [])) (ET.is (et_test (m := .any) (ed_eqD (m := .any) (m' := .any) (ed_var (i := 11) (e := .m .any (eL (lawNear (names1 ps) (fineS ps) s)))) (ed_lst ea_nil (Nat.zero_le _)) (shaped_strs hnear) shaped_nil)) (by rw [eqv_nil, isEmpty_dec])) (fun hb HC gC cC => ?_) (fun hb HC gC cC => ?_)
        · refine td_app (m := .any) cC rfl List.mem_cons_self ((o8.up gA').up gC) (ed_var (i := 3) (e := .m .any (eT s))) ?_ fun HD gD cD oD => nx8 _ _ ((gA'.trans gC).gm.trans gD) ((cD.forget 3).forget 11) ?_
          · rw [List.length_map]
            refine Nat.lt_of_le_of_lt (List.length_filter_le _ _) ?_
            rw [List.length_take]; omega
          · rw [List.take_add_one, hos, Option.toList_some, List.filter_append, List.map_append, List.filter_cons, if_pos hb]
            exact oD
        · refine nx8 _ _ (gA'.trans gC).gm ((cC.forget 3).forget 11) ?_
          rw [List.take_add_one, hos, Option.toList_some, List.filter_append, List.filter_cons, if_neg (by rw [hb]; exact Bool.false_ne_true), List.filter_nil, List.append_nil]
          exact (o8.up gA').up gC
    rw [List.take_length] at o9
    have t9 : TubAt H9 d (400 * i + 400) := by
      obtain ⟨a, b, cc, h, r⟩ := (t5.up g6).up g7
      exact ⟨a, b, cc, g9.ext _ _ (fun z => npd (List.mem_singleton.mp z)) h (fun ps z => by cases z), r⟩
    have c10 := at_eq (c9.release (i := 10) o9 np rfl) (e' := [.v (.ref d), .m .any (.int (i : Int)), .m .z (webD tags ps), .no, .m .any (eL (names1 ps)), .k .z (ps.map fun p => (p.1, eT p.2)), .m .any (.list ((lawBad ps).map eP)), .no, .no, .m .any (.list ((fineS ps).map eT)), .m .any (.list ((lawWhole ps).map eT)), .no, .no, .no, .no, .no]) rfl
    have g19 : Gm T [d] H1 H9 := (((gAB.trans g3.gm).trans (g5.gd'.gm)).trans g6.gm).trans (Gm.drop g7 nw (g9.sub (D' := [p, d]) fun x hx => by rw [List.mem_singleton.mp hx]; exact List.mem_cons_self))
    have hne : fineS ps ≠ [] := List.ne_nil_of_mem (a := []) (List.mem_filter.mpr ⟨nil_mem_sets _ _ rfl, by
      rw [← isEmpty_noOdd, List.isEmpty_iff, List.filter_eq_nil_iff]
      intro p _ h
      simp at h⟩)
    obtain ⟨s0, hs0⟩ := isMost_ex hne
    have hs0k : IsMost (keptSets ps) s0 := isMost_perm (fine_kept F).symm hs0
    have hw : sortL (wholeSets ps) = sortL (lawWhole ps) := sortL_perm_eq (law_whole_perm F)
    have hwo : lawWhole ps = [[]] ∨ ∀ s ∈ lawWhole ps, s ≠ [] := by
      have wp := law_whole_perm F
      rcases whole_ok F.nd with z | z
      · rw [z] at wp
        exact .inl (List.perm_singleton.mp wp.symm)
      · exact .inr fun s hs => z s (wp.mem_iff.mpr hs)
    refine sd_set c10 (e := .m .any (.list [eT s0, .list ((sortL (lawWhole ps)).map eT)])) (ed_lst (m := .any) (ea_cons (ed_ixT (m := .any) (m' := .any) (j := 1) (ds := [.int (sgn true s0.length), eT s0]) (ED.is (e' := .m .any (.tuple [.int (sgn true s0.length), eT s0])) (ed_minD (m := .any) (ds := (fineS ps).map fun s => keyD true (eT s)) (d := keyD true (eT s0)) (ED.is (ed_lcL1 (m := .any) (m' := .any) (bs := fineS ps) (enc := eT) (fun s => .tuple [.int (0 - (((s.map PyData.str).length : Nat) : Int)), eT s]) (ed_var (i := 9) (e := .m .any (.list ((fineS ps).map eT)))) (by decide) (by omega) (fun s hs => ed_tup (ea_two (ed_sub (m := .any) (m' := .any) ed_int (ed_lenT (m := .any) (ds := s.map PyData.str) (ed_var (i := 3) (e := .m .any (eT s))))) (ed_var (i := 3) (e := .m .any (eT s)))))) ?_) ⟨?_, ?_⟩ ?_ (List.mem_map_of_mem hs0.1) ?_) (by rw [keyD_eT])) ed_int rfl rfl) (ea_cons (ED.is (ed_sortG (m := .any) (ds := (lawWhole ps).map eT) (.inl (ed_var (i := 10) (e := .m .any (.list ((lawWhole ps).map eT))))) (alike_rows _) ?_ (fun d hd => ?_)) (by rw [sortL_map])) ea_nil))) fun σB HB' gB' cB => ?_
    · congr 3
      funext s
      rw [keyD_eT, List.length_map]
      unfold sgn
      rw [if_pos rfl, Int.zero_sub]
    · intro x hx y hy
      obtain ⟨a, _, rfl⟩ := List.mem_map.mp hx
      obtain ⟨b, _, rfl⟩ := List.mem_map.mp hy
      exact alike_key true a b
    · intro x hx z
      obtain ⟨a, _, rfl⟩ := List.mem_map.mp hx
      rw [keyD_eT] at z
      cases z
    · have := depth_keys (fineS ps); omega
    · intro d' hd' hmin
      obtain ⟨a, ha, rfl⟩ := List.mem_map.mp hd'
      have h1 := hmin _ (List.mem_map_of_mem hs0.1)
      rw [dataLt_key] at h1
      rw [keyLt_anti (hs0.2 a ha) h1]
    · rcases hwo with z | z
      · exact .inr ⟨by rw [z]; exact Nat.le_refl 1, fun d hd => by obtain ⟨w, _, rfl⟩ := List.mem_map.mp hd; intro z; cases z⟩
      · refine .inl (.inl fun d hd => ?_)
        obtain ⟨w, hw, rfl⟩ := List.mem_map.mp hd
        cases w with
        | nil => exact absurd rfl (z _ hw)
        | cons x xs => exact ⟨_, _, rfl⟩
    · obtain ⟨w, _, rfl⟩ := List.mem_map.mp hd
      exact depth_eT w
    have bW := bookD_web (tags := tags) F.bk F.nd
    have bL := bookD_lists (tags := tags) F.bk F.nd
    have shW : shS 4 (webD tags ps) = true := shS_web (by have := F.len; omega) F.tlen fun p hp => (F.bk.ok p hp).2.1
    refine sd_set cB (e := .m .any (.list [eT s0, .list ((sortL (lawWhole ps)).map eT), eT s0])) (ed_lst (m := .any) (ea_cons (ED.any (m := .p) (ed_call (en_one (ed_var (i := 2) (e := .m .z (webD tags ps)))) ⟨.z, _, ps, s0, rfl, bW, F.bk, F.len, hs0k, rfl⟩)) (ea_cons (ED.any (m := .p) (ed_call (en_one (ed_var (i := 2) (e := .m .z (webD tags ps)))) ⟨.z, _, ps, rfl, bW, F.bk, F.len, whole_ok F.nd, by rw [hw]⟩))
      (ea_cons (ED.any (m := .p) (ed_call (en_one (ed_call (en_one (ed_var (i := 2) (e := .m .z (webD tags ps)))) ⟨.z, _, rfl, shW, rfl⟩)) ⟨.any, _, ps, s0, rfl, bL, F.bk, F.len, hs0k, rfl⟩)) ea_nil)))) fun σC HC' gC' cC' => ?_
    refine sd_set cC' (e := .m .any (.list ([eT s0, .list ((sortL (lawWhole ps)).map eT), eT s0] ++ [.list ((sortL (lawWhole ps)).map eT)]))) (ed_catL (m := .any) (ed_var (i := 13) (e := .m .any (.list [eT s0, .list ((sortL (lawWhole ps)).map eT), eT s0]))) (ed_lst (m := .any) (ea_one (ED.any (m := .p) (ed_call (en_one (ed_call (en_one (ed_var (i := 2) (e := .m .z (webD tags ps)))) ⟨.z, _, rfl, shW, rfl⟩)) ⟨.any, _, ps, rfl, bL, F.bk, F.len, whole_ok F.nd, by rw [hw]⟩)))) (by simp)) fun σD HD' gD' cD' => ?_
    have hwl : (sortL (lawWhole ps)).length ≤ 128 := by
      rw [(sortL_perm _).length_eq]
      refine Nat.le_trans (List.length_filter_le _ _) (Nat.le_trans (List.length_filter_le _ _) ?_)
      rw [setsOf_length _ _ rfl]
      have h7 : (names1 ps).length ≤ 7 := by rw [List.length_map]; exact hW.len
      exact Nat.le_trans (Nat.pow_le_pow_right (by decide) h7) (by decide)
    have shWh : shS 4 (.list ((sortL (lawWhole ps)).map eT)) = true := by
      show (decide (((sortL (lawWhole ps)).map eT).length ≤ 1000) && ((sortL (lawWhole ps)).map eT).all (shS 3)) = true
      rw [List.length_map, decide_eq_true (by omega), Bool.true_and, List.all_eq_true]
      intro x hx
      obtain ⟨s, hs, rfl⟩ := List.mem_map.mp hx
      have h1 := (sortL_perm _).mem_iff.mp hs
      have := (hfs s (List.mem_filter.mp h1).1).1
      exact shS_eT (by omega)
    have shS0 : shS 4 (eT s0) = true := shS_eT (by have := (hfs s0 hs0.1).1; omega)
    refine sd_ifE cD' (b := false) (ET.is (et_not (et_B (m := .any) (ed_call (e := .m .any (.bool true)) (en_two (ed_var (i := 13) (e := .m .any (.list ([eT s0, .list ((sortL (lawWhole ps)).map eT), eT s0] ++ [.list ((sortL (lawWhole ps)).map eT)])))) (ed_catL (m := .any) (ed_var (i := 12) (e := .m .any (.list [eT s0, .list ((sortL (lawWhole ps)).map eT)]))) (ed_var (i := 12) (e := .m .any (.list [eT s0, .list ((sortL (lawWhole ps)).map eT)]))) (by simp))) ⟨.any, .any, .list [eT s0, .list ((sortL (lawWhole ps)).map eT), eT s0, .list ((sortL (lawWhole ps)).map eT)], rfl, ?_, rfl⟩))) rfl) (fun h => Bool.noConfusion h) (fun _ HE gE cE => ?_)
    · show (decide (4 ≤ 1000) && [eT s0, .list ((sortL (lawWhole ps)).map eT), eT s0, .list ((sortL (lawWhole ps)).map eT)].all (shS 4)) = true
      rw [List.all_cons, List.all_cons, List.all_cons, List.all_cons, List.all_nil, shS0, shWh]
      rfl
    · have gL := ((gB'.trans gC').trans gD').trans gE
      exact nx _ _ (g19.trans gL.gm) (at_eq ((((((((((cE.forget 1).forget 2).forget 4).forget 5).forget 6).forget 9).forget 10).forget 11).forget 12).forget 13) rfl) ((t9.up gL).le (by omega))
  · show tRet (tC (.bl true)) { nx := fun _ H' => Q .non H', rt := Q } σ2 H2
    refine sd_ret c2 (e := .m .any (.bool true)) ed_bl fun v H4 g4 r4 => ?_
    cases (show Rp .any _ v (.bool true) from r4)
    exact q H4 (g2.trans g4.gm)
def R_law (K : PySem.W.Frag) : List En → En → Prop := fun es e => ∃ ns : List Int, es = [.s K (ns.map V.int)] ∧ ns.length ≤ 1000 ∧ e = .m .any (.bool true)
theorem ok_law (B : Blt mg) {f f1 f2 f3 f4 : Addr} {fd fd1 fd2 fd3 fd4 : FuncData} (F : Fun K "law" "law" s_law f fd) (C_w_by_hand_right : Cal P w K mg base "_law_by_hand_right" 10 [] (PrR T R_hand) f1 fd1) (C_w_cells : Cal P w K mg base "_law_cells" 1 ["_law_script", "_law_most_so"] (sp_cells T K) f2 fd2)
    (C_w_box : Cal P w K mg base "_law_box" 1 ["_law_script", "_law_k"] (sp_box T) f3 fd3) (C_w_right : Cal P w K mg base "_law_right" 10 ["_law_tub"] (sp_right T) f4 fd4) :
    FnOk P w K mg base CX0 11 f fd ["_law_script"] (PrR T (R_law K)) := by
  refine F.ok sc_law (PrR.len (n := 1) (fun es e ⟨_, h, _⟩ => by rw [h]; rfl) rfl) (fun cdv A outer s H vs Q E hr h => ?_)
  obtain ⟨S, es, e, dom, tab, r, ⟨ns, rfl, hz, rfl⟩, q⟩ := h
  have c := at_start (N := ["_law_script", "_law_cells_so", "_law_k"]) dom tab r
  refine ⟨_, (pss_cons (ps_if (pt_not (pt_val (pe_call0 C_w_by_hand_right.ok (hr.mono (by decide)) (by rfl) C_w_by_hand_right.g C_w_by_hand_right.kp C_w_by_hand_right.b .nil pass0)))
      (pss_one (ps_ret pe_bl))
      pss_nil)
    (pss_cons (ps_set (i := 1) sc_law.nd rfl (.inr rfl) (pe_call C_w_cells.ok (hr.mono (by decide)) (by rfl) C_w_cells.g C_w_cells.kp C_w_cells.b .nil pass0 (pa_cons (pv 0) (pa_cons pe_int pa_nil))))
    (pss_one (ps_ret (pe_callB (cr_allK K rfl) (by rfl) B.all bt_all (pa_cons (pe_lc (own := [("_law_k", 2)]) (by rfl) sc_law.nd (pi_range1 (by rfl) B.range (pa_cons (pe_callB (call_lenK K) (by rfl) B.len bt_len (pa_cons (pv 1) pa_nil)) pa_nil)) (blkOk_by (N := ["_law_script", "_law_cells_so", "_law_k"]) (sc := defScope s_law) (by decide +kernel)) (fun _ _ _ _ _ => (pg_name (i := 2) sc_law.nd rfl (by first | exact .inl rfl | exact .inr rfl))) (fun _ _ _ _ _ => pts_nil) (fun _ _ _ _ _ => (pe_call C_w_right.ok (hr.mono (by decide)) (by rfl) C_w_right.g C_w_right.kp C_w_right.b .nil pass0 (pa_cons (pe_call C_w_box.ok (hr.mono (by decide)) (by rfl) C_w_box.g C_w_box.kp C_w_box.b .nil pass0 (pa_cons (pv 1) (pa_cons (pv 2) pa_nil))) pa_nil)))) pa_nil)))))), ?_⟩
  refine sd_if c (b := false) (ET.is (et_not (et_B (m := .any) (ed_call0 (e := .m .any (.bool true)) ⟨rfl, rfl⟩))) rfl) (fun h => Bool.noConfusion h) (fun _ H1 g1 c1 => ?_)
  dsimp only [tNext]
  show tCall _ _ _ _ _ _ _
  refine call_run c1 (en_two (ed_var (i := 0) (e := .s K (ns.map V.int))) (ed_int (m := .any))) fun us H2 g2 r2 => ?_
  refine ⟨S, ns, (c1.up g2).dom, g2.tab, r2, hz, fun out v H3 g3 l1 l2 r3 => ?_⟩
  · have c3 := ((c1.up g2).up g3).set (e := .m .any (.list (out.map .int))) r3 1
    refine sd_ret c3 (ED.is (e' := .m .any (.bool true)) (ed_all (m := .any) (bl := (List.range out.length).map fun _ => true) (ED.is (ed_lcR1 (m := .any) (m' := .any) (n := out.length) (fun _ => .bool true) (ea_one (ED.is (ed_lenL (m := .any) (ds := out.map PyData.int) (ed_var (i := 1) (e := .m .any (.list (out.map .int))))) (by rw [List.length_map]))) (by decide) (by omega) (fun k hk => ?_)) (by rw [List.map_map]; rfl))) ?_) fun v H4 g4 r4 => q v H4 (((g1.trans g2).trans g3).trans g4) r4
    · intro S4 H4 σ4 c4 Q4 q4
      show tCall (sp_box T) [] E0 (tCons (tVar 1) (tCons (tVar 2) tNil)) σ4 H4 (fun x H1 => sp_right T ([x] ++ []) H1 Q4 E0)
      refine call_run c4 (en_two (ed_var (i := 1) (e := .m .any (.list (out.map .int)))) (ed_var (i := 2) (e := .m .any (.int (k : Int))))) fun us H5 g5 r5 => ?_
      refine ⟨S4, out, k, (c4.up g5).dom, g5.tab, r5, by omega, fun p H6 g6 nw np t6 => ?_⟩
      refine ⟨p, rfl, t6, g6.tab, fun H7 g7 => ?_⟩
      exact q4 (.bl true) H7 (g5.trans (Gm.gd g6 (fun d hd => by rw [List.mem_singleton.mp hd]; exact nw) g7)) (Rp.bl true)
    · have e : ((List.range out.length).map fun _ => true).all id = true := by
        rw [List.all_eq_true]; intro x hx; obtain ⟨_, _, rfl⟩ := List.mem_map.mp hx; rfl
      rw [e]
end
end K28
set_option Elab.async false
set_option linter.all false
set_option maxRecDepth 100000
set_option maxHeartbeats 4000000
/-! all defs joined -/
namespace K28
open PySem PySem.Spec PyProof.Rows L2 LamX PySem.W
/-- what the top has written of one def -/
structure Got (K : PySem.W.Frag) (x : Str) (st : Stmt) (f : Addr) (fd : FuncData) : Prop where
  n : PySem.W.nsIn K mainGlobals x = some (some (.ref f))
  F : Fun K x x st f fd
theorem got_mk {K : PySem.W.Frag} {x : Str} {st : Stmt} {f : Addr} {oc : Value} {od an : Option Addr} {osl : Array (Option Value)} {kV doc pm cdv ct : Value} (n : PySem.W.nsIn K mainGlobals x = some (some (.ref f)))
    (l : K.lookup f = some ⟨oc, od, .func (PySem.W.fnOf x x (defArgs st) (defBody st) (defScope st) .none kV doc pm an cdv ct), osl⟩) (c : PySem.W.codeIn K cdv x = true) (k : PySem.W.keepIn K (.ref f) = true) :
    Got K x st f (PySem.W.fnOf x x (defArgs st) (defBody st) (defScope st) .none kV doc pm an cdv ct) := ⟨n, fun_mk l c k⟩
theorem Got.cal {P : Program} {w : World} {K : PySem.W.Frag} {h base : Heap} {mg : Str → Option Value} {x : Str} {st : Stmt} {f : Addr} {fd : FuncData} {k : Nat} {ps : List Str} {sp : Sp} (g : Got K x st f fd) (X : K.In h) (G : h.Ns mainGlobals mg) (b : Binds K fd ps []) (ok : FnOk P w K mg base CX0 k f fd ps sp) :
    Cal P w K mg base x k ps sp f fd := ⟨ok, PySem.W.mg_of X G g.n, g.F.kp, b⟩
theorem blt_mk {K : PySem.W.Frag} {h : Heap} {mg : Str → Option Value} (X : K.In h) (G : h.Ns mainGlobals mg)
    (z_len : PySem.W.nsIn K mainGlobals "len" = some none)
    (z_tuple : PySem.W.nsIn K mainGlobals "tuple" = some none)
    (z_list : PySem.W.nsIn K mainGlobals "list" = some none)
    (z_isinstance : PySem.W.nsIn K mainGlobals "isinstance" = some none)
    (z_sorted : PySem.W.nsIn K mainGlobals "sorted" = some none)
    (z_dict : PySem.W.nsIn K mainGlobals "dict" = some none)
    (z_any : PySem.W.nsIn K mainGlobals "any" = some none)
    (z_all : PySem.W.nsIn K mainGlobals "all" = some none)
    (z_min : PySem.W.nsIn K mainGlobals "min" = some none)
    (z_range : PySem.W.nsIn K mainGlobals "range" = some none)
    (z_abs : PySem.W.nsIn K mainGlobals "abs" = some none)
    (z_int : PySem.W.nsIn K mainGlobals "int" = some none)
    (z_enumerate : PySem.W.nsIn K mainGlobals "enumerate" = some none)
    (z_zip : PySem.W.nsIn K mainGlobals "zip" = some none)
    (z_bool : PySem.W.nsIn K mainGlobals "bool" = some none)
    (z_str : PySem.W.nsIn K mainGlobals "str" = some none)
    : Blt mg := ⟨PySem.W.mg_none_of X G z_len, PySem.W.mg_none_of X G z_tuple, PySem.W.mg_none_of X G z_list, PySem.W.mg_none_of X G z_isinstance, PySem.W.mg_none_of X G z_sorted, PySem.W.mg_none_of X G z_dict, PySem.W.mg_none_of X G z_any, PySem.W.mg_none_of X G z_all, PySem.W.mg_none_of X G z_min, PySem.W.mg_none_of X G z_range, PySem.W.mg_none_of X G z_abs, PySem.W.mg_none_of X G z_int, PySem.W.mg_none_of X G z_enumerate, PySem.W.mg_none_of X G z_zip, PySem.W.mg_none_of X G z_bool, PySem.W.mg_none_of X G z_str⟩
theorem all_mk {l : PySem.W.OpenLaw} {w : World} {K : PySem.W.Frag} {h : Heap} {mg : Str → Option Value} {fa : Addr} (X : K.In h) (G : h.Ns mainGlobals mg) (hfa : mg "law" = some (.ref fa)) (B : Blt mg)
    {f_tupled : Addr} {fd_tupled : FuncData} (g_tupled : Got K "tupled" s_tupled f_tupled fd_tupled)
    {f_lists_table : Addr} {fd_lists_table : FuncData} (g_lists_table : Got K "lists_table" s_lists_table f_lists_table fd_lists_table)
    {f_rest_of : Addr} {fd_rest_of : FuncData} (g_rest_of : Got K "rest_of" s_rest_of f_rest_of fd_rest_of)
    {f_odd_bills : Addr} {fd_odd_bills : FuncData} (g_odd_bills : Got K "odd_bills" s_odd_bills f_odd_bills fd_odd_bills)
    {f_agree : Addr} {fd_agree : FuncData} (g_agree : Got K "agree" s_agree f_agree fd_agree)
    {f_odd_pairs : Addr} {fd_odd_pairs : FuncData} (g_odd_pairs : Got K "odd_pairs" s_odd_pairs f_odd_pairs fd_odd_pairs)
    {f_sets_of : Addr} {fd_sets_of : FuncData} (g_sets_of : Got K "sets_of" s_sets_of f_sets_of fd_sets_of)
    {f_kept_sets : Addr} {fd_kept_sets : FuncData} (g_kept_sets : Got K "kept_sets" s_kept_sets f_kept_sets fd_kept_sets)
    {f_most_kept : Addr} {fd_most_kept : FuncData} (g_most_kept : Got K "most_kept" s_most_kept f_most_kept fd_most_kept)
    {f_whole_kept : Addr} {fd_whole_kept : FuncData} (g_whole_kept : Got K "whole_kept" s_whole_kept f_whole_kept fd_whole_kept)
    {f_w_box : Addr} {fd_w_box : FuncData} (g_w_box : Got K "_law_box" s_w_box f_w_box fd_w_box)
    {f_w_take : Addr} {fd_w_take : FuncData} (g_w_take : Got K "_law_take" s_w_take f_w_take fd_w_take)
    {f_w_cells : Addr} {fd_w_cells : FuncData} (g_w_cells : Got K "_law_cells" s_w_cells f_w_cells fd_w_cells)
    {f_w_of : Addr} {fd_w_of : FuncData} (g_w_of : Got K "_law_of" s_w_of f_w_of fd_w_of)
    {f_w_pick : Addr} {fd_w_pick : FuncData} (g_w_pick : Got K "_law_pick" s_w_pick f_w_pick fd_w_pick)
    {f_w_same : Addr} {fd_w_same : FuncData} (g_w_same : Got K "_law_same" s_w_same f_w_same fd_w_same)
    {f_w_lists : Addr} {fd_w_lists : FuncData} (g_w_lists : Got K "_law_lists" s_w_lists f_w_lists fd_w_lists)
    {f_w_half : Addr} {fd_w_half : FuncData} (g_w_half : Got K "_law_half" s_w_half f_w_half fd_w_half)
    {f_w_subs : Addr} {fd_w_subs : FuncData} (g_w_subs : Got K "_law_subs" s_w_subs f_w_subs fd_w_subs)
    {f_w_line : Addr} {fd_w_line : FuncData} (g_w_line : Got K "_law_line" s_w_line f_w_line fd_w_line)
    {f_w_tags : Addr} {fd_w_tags : FuncData} (g_w_tags : Got K "_law_tags" s_w_tags f_w_tags fd_w_tags)
    {f_w_book : Addr} {fd_w_book : FuncData} (g_w_book : Got K "_law_book" s_w_book f_w_book fd_w_book)
    {f_w_rest : Addr} {fd_w_rest : FuncData} (g_w_rest : Got K "_law_rest" s_w_rest f_w_rest fd_w_rest)
    {f_w_odds : Addr} {fd_w_odds : FuncData} (g_w_odds : Got K "_law_odds" s_w_odds f_w_odds fd_w_odds)
    {f_w_kit : Addr} {fd_w_kit : FuncData} (g_w_kit : Got K "_law_kit" s_w_kit f_w_kit fd_w_kit)
    {f_w_by_hand_right : Addr} {fd_w_by_hand_right : FuncData} (g_w_by_hand_right : Got K "_law_by_hand_right" s_w_by_hand_right f_w_by_hand_right fd_w_by_hand_right)
    {f_w_right : Addr} {fd_w_right : FuncData} (g_w_right : Got K "_law_right" s_w_right f_w_right fd_w_right)
    {f_law : Addr} {fd_law : FuncData} (g_law : Got K "law" s_law f_law fd_law)
    {c1 P1 c2 P2 : Addr} (hc1 : fd_sets_of.code = .ref c1) (hc2 : fd_most_kept.code = .ref c2) (t1 : h.get? P1 = some (PySem.W.tabObj #[])) (t2 : h.get? P2 = some (PySem.W.tabObj #[])) (n1 : K.lookup P1 = none) (n2 : K.lookup P2 = none) (h1 : PySem.W.codeHdIn K c1 P1 = true) (h2 : PySem.W.codeHdIn K c2 P2 = true) (ne : P1 ≠ P2) :
    LawAtS l w K CX0 11 63 "_law_script" mg fa h := by
  have e := hfa.symm.trans (PySem.W.mg_of X G g_law.n)
  cases e
  have b_tupled : Binds K fd_tupled ["value"] [] := g_tupled.F.binds (ps := ["value"]) fun _ _ _ _ _ _ us hl => match us, hl with | [_], _ => rfl
  have b_lists_table : Binds K fd_lists_table ["book"] [] := g_lists_table.F.binds (ps := ["book"]) fun _ _ _ _ _ _ us hl => match us, hl with | [_], _ => rfl
  have b_rest_of : Binds K fd_rest_of ["one", "other", "bill"] [] := g_rest_of.F.binds (ps := ["one", "other", "bill"]) fun _ _ _ _ _ _ us hl => match us, hl with | [_, _, _], _ => rfl
  have b_odd_bills : Binds K fd_odd_bills ["one", "other"] [] := g_odd_bills.F.binds (ps := ["one", "other"]) fun _ _ _ _ _ _ us hl => match us, hl with | [_, _], _ => rfl
  have b_agree : Binds K fd_agree ["one", "other"] [] := g_agree.F.binds (ps := ["one", "other"]) fun _ _ _ _ _ _ us hl => match us, hl with | [_, _], _ => rfl
  have b_odd_pairs : Binds K fd_odd_pairs ["book"] [] := g_odd_pairs.F.binds (ps := ["book"]) fun _ _ _ _ _ _ us hl => match us, hl with | [_], _ => rfl
  have b_sets_of : Binds K fd_sets_of ["names"] [] := g_sets_of.F.binds (ps := ["names"]) fun _ _ _ _ _ _ us hl => match us, hl with | [_], _ => rfl
  have b_kept_sets : Binds K fd_kept_sets ["book"] [] := g_kept_sets.F.binds (ps := ["book"]) fun _ _ _ _ _ _ us hl => match us, hl with | [_], _ => rfl
  have b_most_kept : Binds K fd_most_kept ["book"] [] := g_most_kept.F.binds (ps := ["book"]) fun _ _ _ _ _ _ us hl => match us, hl with | [_], _ => rfl
  have b_whole_kept : Binds K fd_whole_kept ["book"] [] := g_whole_kept.F.binds (ps := ["book"]) fun _ _ _ _ _ _ us hl => match us, hl with | [_], _ => rfl
  have b_w_box : Binds K fd_w_box ["_law_script", "_law_k"] [] := g_w_box.F.binds (ps := ["_law_script", "_law_k"]) fun _ _ _ _ _ _ us hl => match us, hl with | [_, _], _ => rfl
  have b_w_take : Binds K fd_w_take ["_law_tub", "_law_top_to"] [] := g_w_take.F.binds (ps := ["_law_tub", "_law_top_to"]) fun _ _ _ _ _ _ us hl => match us, hl with | [_, _], _ => rfl
  have b_w_cells : Binds K fd_w_cells ["_law_script", "_law_most_so"] [] := g_w_cells.F.binds (ps := ["_law_script", "_law_most_so"]) fun _ _ _ _ _ _ us hl => match us, hl with | [_, _], _ => rfl
  have b_w_of : Binds K fd_w_of ["_law_tub", "_law_few_so"] [] := g_w_of.F.binds (ps := ["_law_tub", "_law_few_so"]) fun _ _ _ _ _ _ us hl => match us, hl with | [_, _], _ => rfl
  have b_w_pick : Binds K fd_w_pick ["_law_tub", "_law_few_so", "_law_much_so"] [] := g_w_pick.F.binds (ps := ["_law_tub", "_law_few_so", "_law_much_so"]) fun _ _ _ _ _ _ us hl => match us, hl with | [_, _, _], _ => rfl
  have b_w_same : Binds K fd_w_same ["_law_got", "_law_due"] [] := g_w_same.F.binds (ps := ["_law_got", "_law_due"]) fun _ _ _ _ _ _ us hl => match us, hl with | [_, _], _ => rfl
  have b_w_lists : Binds K fd_w_lists ["_law_matter"] [] := g_w_lists.F.binds (ps := ["_law_matter"]) fun _ _ _ _ _ _ us hl => match us, hl with | [_], _ => rfl
  have b_w_half : Binds K fd_w_half ["_law_matter"] [] := g_w_half.F.binds (ps := ["_law_matter"]) fun _ _ _ _ _ _ us hl => match us, hl with | [_], _ => rfl
  have b_w_subs : Binds K fd_w_subs ["_law_goods_so"] [] := g_w_subs.F.binds (ps := ["_law_goods_so"]) fun _ _ _ _ _ _ us hl => match us, hl with | [_], _ => rfl
  have b_w_line : Binds K fd_w_line ["_law_tub", "_law_tags_here", "_law_most_so"] [] := g_w_line.F.binds (ps := ["_law_tub", "_law_tags_here", "_law_most_so"]) fun _ _ _ _ _ _ us hl => match us, hl with | [_, _, _], _ => rfl
  have b_w_tags : Binds K fd_w_tags ["_law_tub", "_law_many_so"] [] := g_w_tags.F.binds (ps := ["_law_tub", "_law_many_so"]) fun _ _ _ _ _ _ us hl => match us, hl with | [_, _], _ => rfl
  have b_w_book : Binds K fd_w_book ["_law_tub", "_law_many_so", "_law_wide_so"] [] := g_w_book.F.binds (ps := ["_law_tub", "_law_many_so", "_law_wide_so"]) fun _ _ _ _ _ _ us hl => match us, hl with | [_, _, _], _ => rfl
  have b_w_rest : Binds K fd_w_rest ["_law_near", "_law_far", "_law_tag"] [] := g_w_rest.F.binds (ps := ["_law_near", "_law_far", "_law_tag"]) fun _ _ _ _ _ _ us hl => match us, hl with | [_, _, _], _ => rfl
  have b_w_odds : Binds K fd_w_odds ["_law_near", "_law_far"] [] := g_w_odds.F.binds (ps := ["_law_near", "_law_far"]) fun _ _ _ _ _ _ us hl => match us, hl with | [_, _], _ => rfl
  have b_w_kit : Binds K fd_w_kit [] [] := g_w_kit.F.binds (ps := []) fun _ _ _ _ _ _ us hl => match us, hl with | [], _ => rfl
  have b_w_by_hand_right : Binds K fd_w_by_hand_right [] [] := g_w_by_hand_right.F.binds (ps := []) fun _ _ _ _ _ _ us hl => match us, hl with | [], _ => rfl
  have b_w_right : Binds K fd_w_right ["_law_tub"] [] := g_w_right.F.binds (ps := ["_law_tub"]) fun _ _ _ _ _ _ us hl => match us, hl with | [_], _ => rfl
  have b_law : Binds K fd_law ["_law_script"] [] := g_law.F.binds (ps := ["_law_script"]) fun _ _ _ _ _ _ us hl => match us, hl with | [_], _ => rfl
  obtain ⟨T, hT⟩ : ∃ T : List (Addr × Str), T = [(P1, ((Str.ofString "sets_of" ++ ".<locals>.") ++ "<lambda>" : Str)), (P2, ((Str.ofString "most_kept" ++ ".<locals>.") ++ "<lambda>" : Str))] := ⟨_, rfl⟩
  have m1 : (P1, ((Str.ofString "sets_of" ++ ".<locals>.") ++ "<lambda>" : Str)) ∈ T := by rw [hT]; exact List.mem_cons_self
  have m2 : (P2, ((Str.ofString "most_kept" ++ ".<locals>.") ++ "<lambda>" : Str)) ∈ T := by rw [hT]; exact List.mem_cons_of_mem _ List.mem_cons_self
  have u1 : ∀ p ∈ T, p.1 = P1 → p.2 = ((Str.ofString "sets_of" ++ ".<locals>.") ++ "<lambda>" : Str) := by
    intro p hp e
    rw [hT] at hp
    rcases List.mem_cons.mp hp with rfl | hp
    · rfl
    · rw [List.mem_singleton.mp hp] at e
      exact absurd e.symm ne
  have u2 : ∀ p ∈ T, p.1 = P2 → p.2 = ((Str.ofString "most_kept" ++ ".<locals>.") ++ "<lambda>" : Str) := by
    intro p hp e
    rw [hT] at hp
    rcases List.mem_cons.mp hp with rfl | hp
    · exact absurd e ne
    · rw [List.mem_singleton.mp hp]
  refine ⟨fd_law, [(c1, P1), (c2, P2)], PrR T (R_law K), fun p hp => ?_, fun p hp => ?_, fun p hp => ?_, fun s u => ?_, fun H a ns hl hb ht hS => ?_, fun base Xb Gb TBs => ?_⟩
  · rcases List.mem_cons.mp hp with rfl | hp
    · exact t1
    · rw [List.mem_singleton.mp hp]; exact t2
  · rcases List.mem_cons.mp hp with rfl | hp
    · exact n1
    · rw [List.mem_singleton.mp hp]; exact n2
  · rcases List.mem_cons.mp hp with rfl | hp
    · exact PySem.W.codeHd_of_K X h1
    · rw [List.mem_singleton.mp hp]; exact PySem.W.codeHd_of_K X h2
  · obtain ⟨oc, od, kV, doc, pm, an, cdv, ct, osl, rfl, lk, hcd⟩ := g_law.F.ex
    exact .of_eq rfl
  · have tb : Tabs T H := fun p hp => by
      rw [hT] at hp
      rcases List.mem_cons.mp hp with rfl | hp
      · exact TabS.nil (ht (c1, P1) List.mem_cons_self)
      · rw [List.mem_singleton.mp hp]; exact TabS.nil (ht (c2, P2) (List.mem_cons_of_mem _ List.mem_cons_self))
    have hh : hide [] H = H := by funext b; rfl
    exact ⟨[], [.s K (ns.map V.int)], .m .any (.bool true), fun s hs => absurd hs (by simp), tb, by rw [hh]; exact .cons ⟨a, rfl, hS⟩ .nil, ⟨ns, rfl, by omega, rfl⟩, fun v H' g r => by cases (show Rp .any _ v (.bool true) from r); rfl⟩
  · have T1 := TBs (c1, P1) List.mem_cons_self
    have T2 := TBs (c2, P2) (List.mem_cons_of_mem _ List.mem_cons_self)
    have C1 := Got.cal (P := l.prog) (w := w) (base := base) g_tupled X G b_tupled (ok_tupled (T := T) B g_tupled.F (PySem.W.mg_of X G g_tupled.n) b_tupled 3)
    have C2 := Got.cal (P := l.prog) (w := w) (base := base) g_lists_table X G b_lists_table (ok_lists_table B g_lists_table.F C1)
    have C3 := Got.cal (P := l.prog) (w := w) (base := base) g_rest_of X G b_rest_of (ok_rest_of (T := T) B g_rest_of.F)
    have C4 := Got.cal (P := l.prog) (w := w) (base := base) g_odd_bills X G b_odd_bills (ok_odd_bills B g_odd_bills.F C1 C3)
    have C5 := Got.cal (P := l.prog) (w := w) (base := base) g_agree X G b_agree (ok_agree B g_agree.F C4)
    have C6 := Got.cal (P := l.prog) (w := w) (base := base) g_odd_pairs X G b_odd_pairs (ok_odd_pairs B g_odd_pairs.F C2 C5)
    have C7 := Got.cal (P := l.prog) (w := w) (base := base) g_sets_of X G b_sets_of (ok_sets_of (T := T) B g_sets_of.F hc1 T1 m1 u1)
    have C8 := Got.cal (P := l.prog) (w := w) (base := base) g_kept_sets X G b_kept_sets (ok_kept_sets B g_kept_sets.F C6 C7 C2)
    have C9 := Got.cal (P := l.prog) (w := w) (base := base) g_most_kept X G b_most_kept (ok_most_kept B g_most_kept.F hc2 T2 m2 u2 C8)
    have C10F := Got.cal (P := l.prog) (w := w) (base := base) g_whole_kept X G b_whole_kept (ok_whole_keptF B g_whole_kept.F C2 C8)
    have C10 := Got.cal (P := l.prog) (w := w) (base := base) g_whole_kept X G b_whole_kept (ok_whole_kept C10F.ok)
    have D1 := Got.cal (P := l.prog) (w := w) (base := base) g_w_box X G b_w_box (ok_w_box (T := T) B g_w_box.F)
    have D2 := Got.cal (P := l.prog) (w := w) (base := base) g_w_take X G b_w_take (ok_w_take (T := T) B g_w_take.F)
    have D3 := Got.cal (P := l.prog) (w := w) (base := base) g_w_cells X G b_w_cells (ok_w_cells (T := T) B g_w_cells.F)
    have D4 := Got.cal (P := l.prog) (w := w) (base := base) g_w_of X G b_w_of (ok_w_of B g_w_of.F D2)
    have D5 := Got.cal (P := l.prog) (w := w) (base := base) g_w_pick X G b_w_pick (ok_w_pick B g_w_pick.F D2)
    have D6 := Got.cal (P := l.prog) (w := w) (base := base) g_w_same X G b_w_same (ok_w_same (T := T) B g_w_same.F (PySem.W.mg_of X G g_w_same.n) b_w_same 5)
    have D7 := Got.cal (P := l.prog) (w := w) (base := base) g_w_lists X G b_w_lists (ok_w_lists (T := T) B g_w_lists.F (PySem.W.mg_of X G g_w_lists.n) b_w_lists 4)
    have D7b := Got.cal (P := l.prog) (w := w) (base := base) g_w_lists X G b_w_lists (ok_w_lists (T := T) B g_w_lists.F (PySem.W.mg_of X G g_w_lists.n) b_w_lists 3)
    have D8 := Got.cal (P := l.prog) (w := w) (base := base) g_w_half X G b_w_half (ok_w_half B g_w_half.F 3 D7b)
    have D9 := Got.cal (P := l.prog) (w := w) (base := base) g_w_subs X G b_w_subs (ok_w_subs (T := T) B g_w_subs.F)
    have D10 := Got.cal (P := l.prog) (w := w) (base := base) g_w_line X G b_w_line (ok_w_line B g_w_line.F D2 D5)
    have D11 := Got.cal (P := l.prog) (w := w) (base := base) g_w_tags X G b_w_tags (ok_w_tags B g_w_tags.F D2 D5)
    have D12 := Got.cal (P := l.prog) (w := w) (base := base) g_w_book X G b_w_book (ok_w_book B g_w_book.F D2 D4 D10 D11)
    have D13 := Got.cal (P := l.prog) (w := w) (base := base) g_w_rest X G b_w_rest (ok_w_rest (T := T) B g_w_rest.F)
    have D14 := Got.cal (P := l.prog) (w := w) (base := base) g_w_odds X G b_w_odds (ok_w_odds B g_w_odds.F D13)
    have D15 := Got.cal (P := l.prog) (w := w) (base := base) g_w_kit X G b_w_kit (ok_w_kit (T := T) B g_w_kit.F)
    have K9 := kb_book g_most_kept.F (fun _ _ _ _ _ _ _ => rfl) (fun _ _ _ _ _ _ _ => rfl)
    have K10 := kb_book g_whole_kept.F (fun _ _ _ _ _ _ _ => rfl) (fun _ _ _ _ _ _ _ => rfl)
    have D16 := Got.cal (P := l.prog) (w := w) (base := base) g_w_by_hand_right X G b_w_by_hand_right (ok_w_hand B g_w_by_hand_right.F D15 C9 C10 C10F K9 K10 D7 D8 D6)
    have D17 := Got.cal (P := l.prog) (w := w) (base := base) g_w_right X G b_w_right (ok_w_right B g_w_right.F D12 C9 C10 D7 D6 D14 D9)
    exact ok_law B g_law.F D16 D3 D1 D17
end K28
open PySem PySem.W PyProof.Rows
set_option Elab.async false
set_option maxRecDepth 100000 in
set_option maxHeartbeats 0 in
theorem PySem.Challenge.cw_ownlists_k28_whole_payers_that_are_kept_holds : PySem.Challenge.rw_ownlists_k28_whole_payers_that_are_kept.Holds := by
  w_on; o_law; k_head; (case hw => w_witness2)
  k_fill
  refine LamX.walk_ofTs (l := PySem.Challenge.rw_ownlists_k28_whole_payers_that_are_kept) (n := 63) (k := 11) (x := "_law_script") (CX := fun _ => L2.CX0) rfl (by decide) rfl ⟨rfl, by decide, by decide⟩ (fun w h Y => PySem.W.km_in_of Y) ?F (fun _ _ _ _ _ h => h)
  case F =>
    intro w mg fa h Y KX G hmg
    have tabs := PySem.W.km_tabs_of Y
    refine' K28.all_mk KX G hmg (K28.blt_mk KX G ?z_len ?z_tuple ?z_list ?z_isinstance ?z_sorted ?z_dict ?z_any ?z_all ?z_min ?z_range ?z_abs ?z_int ?z_enumerate ?z_zip ?z_bool ?z_str)
      (K28.got_mk ?a_tupled ?l_tupled ?c_tupled ?k_tupled)
      (K28.got_mk ?a_lists_table ?l_lists_table ?c_lists_table ?k_lists_table)
      (K28.got_mk ?a_rest_of ?l_rest_of ?c_rest_of ?k_rest_of)
      (K28.got_mk ?a_odd_bills ?l_odd_bills ?c_odd_bills ?k_odd_bills)
      (K28.got_mk ?a_agree ?l_agree ?c_agree ?k_agree)
      (K28.got_mk ?a_odd_pairs ?l_odd_pairs ?c_odd_pairs ?k_odd_pairs)
      (K28.got_mk ?a_sets_of ?l_sets_of ?c_sets_of ?k_sets_of)
      (K28.got_mk ?a_kept_sets ?l_kept_sets ?c_kept_sets ?k_kept_sets)
      (K28.got_mk ?a_most_kept ?l_most_kept ?c_most_kept ?k_most_kept)
      (K28.got_mk ?a_whole_kept ?l_whole_kept ?c_whole_kept ?k_whole_kept)
      (K28.got_mk ?a_w_box ?l_w_box ?c_w_box ?k_w_box)
      (K28.got_mk ?a_w_take ?l_w_take ?c_w_take ?k_w_take)
      (K28.got_mk ?a_w_cells ?l_w_cells ?c_w_cells ?k_w_cells)
      (K28.got_mk ?a_w_of ?l_w_of ?c_w_of ?k_w_of)
      (K28.got_mk ?a_w_pick ?l_w_pick ?c_w_pick ?k_w_pick)
      (K28.got_mk ?a_w_same ?l_w_same ?c_w_same ?k_w_same)
      (K28.got_mk ?a_w_lists ?l_w_lists ?c_w_lists ?k_w_lists)
      (K28.got_mk ?a_w_half ?l_w_half ?c_w_half ?k_w_half)
      (K28.got_mk ?a_w_subs ?l_w_subs ?c_w_subs ?k_w_subs)
      (K28.got_mk ?a_w_line ?l_w_line ?c_w_line ?k_w_line)
      (K28.got_mk ?a_w_tags ?l_w_tags ?c_w_tags ?k_w_tags)
      (K28.got_mk ?a_w_book ?l_w_book ?c_w_book ?k_w_book)
      (K28.got_mk ?a_w_rest ?l_w_rest ?c_w_rest ?k_w_rest)
      (K28.got_mk ?a_w_odds ?l_w_odds ?c_w_odds ?k_w_odds)
      (K28.got_mk ?a_w_kit ?l_w_kit ?c_w_kit ?k_w_kit)
      (K28.got_mk ?a_w_by_hand_right ?l_w_by_hand_right ?c_w_by_hand_right ?k_w_by_hand_right)
      (K28.got_mk ?a_w_right ?l_w_right ?c_w_right ?k_w_right)
      (K28.got_mk ?a_law ?l_law ?c_law ?k_law)
      (c1 := _) (P1 := 50) (c2 := _) (P2 := 60) ?hc1 ?hc2 (tabs 50 (by simp)) (tabs 60 (by simp)) ?n1 ?n2 ?h1 ?h2 (by decide)
    (case a_tupled => k_is)
    (case l_tupled => k_is)
    (case c_tupled => k_is)
    (case k_tupled => k_is)
    (case a_lists_table => k_is)
    (case l_lists_table => k_is)
    (case c_lists_table => k_is)
    (case k_lists_table => k_is)
    (case a_rest_of => k_is)
    (case l_rest_of => k_is)
    (case c_rest_of => k_is)
    (case k_rest_of => k_is)
    (case a_odd_bills => k_is)
    (case l_odd_bills => k_is)
    (case c_odd_bills => k_is)
    (case k_odd_bills => k_is)
    (case a_agree => k_is)
    (case l_agree => k_is)
    (case c_agree => k_is)
    (case k_agree => k_is)
    (case a_odd_pairs => k_is)
    (case l_odd_pairs => k_is)
    (case c_odd_pairs => k_is)
    (case k_odd_pairs => k_is)
    (case a_sets_of => k_is)
    (case l_sets_of => k_is)
    (case c_sets_of => k_is)
    (case k_sets_of => k_is)
    (case a_kept_sets => k_is)
    (case l_kept_sets => k_is)
    (case c_kept_sets => k_is)
    (case k_kept_sets => k_is)
    (case a_most_kept => k_is)
    (case l_most_kept => k_is)
    (case c_most_kept => k_is)
    (case k_most_kept => k_is)
    (case a_whole_kept => k_is)
    (case l_whole_kept => k_is)
    (case c_whole_kept => k_is)
    (case k_whole_kept => k_is)
    (case a_w_box => k_is)
    (case l_w_box => k_is)
    (case c_w_box => k_is)
    (case k_w_box => k_is)
    (case a_w_take => k_is)
    (case l_w_take => k_is)
    (case c_w_take => k_is)
    (case k_w_take => k_is)
    (case a_w_cells => k_is)
    (case l_w_cells => k_is)
    (case c_w_cells => k_is)
    (case k_w_cells => k_is)
    (case a_w_of => k_is)
    (case l_w_of => k_is)
    (case c_w_of => k_is)
    (case k_w_of => k_is)
    (case a_w_pick => k_is)
    (case l_w_pick => k_is)
    (case c_w_pick => k_is)
    (case k_w_pick => k_is)
    (case a_w_same => k_is)
    (case l_w_same => k_is)
    (case c_w_same => k_is)
    (case k_w_same => k_is)
    (case a_w_lists => k_is)
    (case l_w_lists => k_is)
    (case c_w_lists => k_is)
    (case k_w_lists => k_is)
    (case a_w_half => k_is)
    (case l_w_half => k_is)
    (case c_w_half => k_is)
    (case k_w_half => k_is)
    (case a_w_subs => k_is)
    (case l_w_subs => k_is)
    (case c_w_subs => k_is)
    (case k_w_subs => k_is)
    (case a_w_line => k_is)
    (case l_w_line => k_is)
    (case c_w_line => k_is)
    (case k_w_line => k_is)
    (case a_w_tags => k_is)
    (case l_w_tags => k_is)
    (case c_w_tags => k_is)
    (case k_w_tags => k_is)
    (case a_w_book => k_is)
    (case l_w_book => k_is)
    (case c_w_book => k_is)
    (case k_w_book => k_is)
    (case a_w_rest => k_is)
    (case l_w_rest => k_is)
    (case c_w_rest => k_is)
    (case k_w_rest => k_is)
    (case a_w_odds => k_is)
    (case l_w_odds => k_is)
    (case c_w_odds => k_is)
    (case k_w_odds => k_is)
    (case a_w_kit => k_is)
    (case l_w_kit => k_is)
    (case c_w_kit => k_is)
    (case k_w_kit => k_is)
    (case a_w_by_hand_right => k_is)
    (case l_w_by_hand_right => k_is)
    (case c_w_by_hand_right => k_is)
    (case k_w_by_hand_right => k_is)
    (case a_w_right => k_is)
    (case l_w_right => k_is)
    (case c_w_right => k_is)
    (case k_w_right => k_is)
    (case a_law => k_is)
    (case l_law => k_is)
    (case c_law => k_is)
    (case k_law => k_is)
    (case z_len => k_is)
    (case z_tuple => k_is)
    (case z_list => k_is)
    (case z_isinstance => k_is)
    (case z_sorted => k_is)
    (case z_dict => k_is)
    (case z_any => k_is)
    (case z_all => k_is)
    (case z_min => k_is)
    (case z_range => k_is)
    (case z_abs => k_is)
    (case z_int => k_is)
    (case z_enumerate => k_is)
    (case z_zip => k_is)
    (case z_bool => k_is)
    (case z_str => k_is)
    (case hc1 => exact rfl)
    (case hc2 => exact rfl)
    (case n1 => kernel_rfl)
    (case n2 => kernel_rfl)
    (case h1 => kernel_rfl)
    (case h2 => kernel_rfl)
