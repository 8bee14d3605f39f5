import PyProof.Rows.All
import Wide.All
import OpenK.AllK
import Wide.FinOn
import HandS.ForMost
import HandS.Flow
import HandS.Style
import HandS.Wide
import HandS.TupAny
import HandS.IsInst
import HandS.Star
import HandS.SortInts
import HandS.Zip
import HandS.Strs
import HandS.TupSets
import PySem.Challenge.RW_lastfords_k98_whole_great_rows_one_behin
import HandS.EndBits
set_option Elab.async false
set_option linter.all false
set_option maxRecDepth 100000
set_option maxHeartbeats 2000000
/-! a data layer of our own over HandS: values that stand for data (PyData), computations over slots, and the rules -/
namespace DL
open PySem PySem.Spec PyProof.Rows L2

abbrev Dt := PyData
abbrev Bad := Addr → Prop

/-- a tuple of xs, made or written in the text -/
def Tq (K : PySem.W.Frag) (H : Hp) (a : Addr) (xs : List V) : Prop :=
  H a = some (.tup xs) ∨ ∃ (o : Obj) (its : Array Value) (n : Nat), K.lookup a = some o ∧ o.cls = .type "tuple" ∧ o.data = .seq its n ∧ its.size ≤ sizeLine ∧ Vals xs its.toList
theorem Tq.sq {K : PySem.W.Frag} {H : Hp} {a : Addr} {xs : List V} (h : Tq K H a xs) : SqT K H a xs := h.imp .inl id
/-- the law's own argument, a list of ints that is never changed -/
def Sq (K : PySem.W.Frag) (H : Hp) (a : Addr) (ns : List Int) : Prop :=
  (∃ o, H a = some (.frz o (.lst (ns.map V.int)))) ∨ ∃ (o : Obj) (its : Array Value) (n : Nat), K.lookup a = some o ∧ o.cls = .type "list" ∧ o.dict = none ∧ o.data = .seq its n ∧ its.size ≤ sizeLine ∧ Vals (ns.map V.int) its.toList
theorem Sq.sq {K : PySem.W.Frag} {H : Hp} {a : Addr} {ns : List Int} (h : Sq K H a ns) : SqL K H a (ns.map V.int) := h.imp (fun ⟨o, h⟩ => .inr ⟨o, h⟩) id
abbrev scrD (ns : List Int) : Dt := .dict [(.none, .list (ns.map .int))]
mutual
/-- v stands for d in H; no list of d stands at an address of B -/
inductive Rp (K : PySem.W.Frag) (H : Hp) (B : Bad) : V → Dt → Prop
  | non : Rp K H B .non .none
  | bl (b : Bool) : Rp K H B (.bl b) (.bool b)
  | int (i : Int) : Rp K H B (.int i) (.int i)
  | str (x : Str) : Rp K H B (.str x) (.str x)
  | lst {a : Addr} {xs : List V} {ds : List Dt} : Rd H a (.lst xs) → ¬ B a → RpL K H B xs ds → Rp K H B (.ref a) (.list ds)
  | tup {a : Addr} {xs : List V} {ds : List Dt} : Tq K H a xs → RpL K H B xs ds → Rp K H B (.ref a) (.tuple ds)
  | scr {a : Addr} {ns : List Int} : Sq K H a ns → Rp K H B (.ref a) (scrD ns)
inductive RpL (K : PySem.W.Frag) (H : Hp) (B : Bad) : List V → List Dt → Prop
  | nil : RpL K H B [] []
  | cons {v : V} {vs : List V} {d : Dt} {ds : List Dt} : Rp K H B v d → RpL K H B vs ds → RpL K H B (v :: vs) (d :: ds)
end

/-- all stays but lists at B -/
def Kp (B : Bad) (H H' : Hp) : Prop := ∀ b o, H b = some o → (¬ B b ∨ ∀ xs, o ≠ .lst xs) → H' b = some o
theorem Kp.refl (B : Bad) (H : Hp) : Kp B H H := fun _ _ h _ => h
theorem Kp.trans {B : Bad} {H H1 H2 : Hp} (a : Kp B H H1) (b : Kp B H1 H2) : Kp B H H2 := fun c o h q => b c o (a c o h q) q
theorem Kp.mono {B B' : Bad} {H H' : Hp} (a : Kp B H H') (h : ∀ x, B x → B' x) : Kp B' H H' := fun c o e q => a c o e (q.imp (fun n z => n (h c z)) id)
theorem Kp.of_same {B : Bad} {H H' : Hp} (h : Same H H') : Kp B H H' := fun b o e _ => h b o e
theorem same_new {H : Hp} {p : Addr} {o : HO} (h : H p = none) : Same H (upd H p o) := fun b x e => by
  rw [upd_ne (ne_of_none e h)]
  exact e
theorem Kp.set {B : Bad} {H : Hp} {p : Addr} {xs ys : List V} (hb : B p) (h : H p = some (.lst xs)) : Kp B H (upd H p (.lst ys)) := fun b o e q => by
  have hne : b ≠ p := fun z => by
    subst z
    rcases q with q | q
    · exact q hb
    · rw [h] at e; cases e; exact q xs rfl
  rw [upd_ne hne]
  exact e

theorem rd_kp {B : Bad} {H H' : Hp} {a : Addr} {xs : List V} (k : Kp B H H') (n : ¬ B a) (h : Rd H a (.lst xs)) : Rd H' a (.lst xs) := by
  rcases h with h | ⟨o, h⟩
  · exact .inl (k _ _ h (.inl n))
  · exact .inr ⟨o, k _ _ h (.inl n)⟩
theorem rd_same {H H' : Hp} {a : Addr} {u : HO} (k : Same H H') (h : Rd H a u) : Rd H' a u := h.imp (fun h => k _ _ h) fun ⟨o, h⟩ => ⟨o, k _ _ h⟩
theorem rd_ne {H : Hp} {a p : Addr} {u : HO} (h : Rd H a u) (hp : H p = none) : a ≠ p := by
  rcases h with h | ⟨o, h⟩
  · exact ne_of_none h hp
  · exact ne_of_none h hp
theorem sqT_kp {K : PySem.W.Frag} {B : Bad} {H H' : Hp} {a : Addr} {xs : List V} (k : Kp B H H') (h : Tq K H a xs) : Tq K H' a xs := by
  rcases h with h | h
  · exact .inl (k _ _ h (.inr fun _ z => nomatch z))
  · exact .inr h

theorem sq_kp {K : PySem.W.Frag} {B : Bad} {H H' : Hp} {a : Addr} {ns : List Int} (k : Kp B H H') (h : Sq K H a ns) : Sq K H' a ns :=
  h.imp (fun ⟨o, h⟩ => ⟨o, k _ _ h (.inr fun _ z => nomatch z)⟩) id
mutual
theorem Rp.mono {K : PySem.W.Frag} {B B' : Bad} {H H' : Hp} (k : Kp B H H') (hb : ∀ x, B' x → B x) : ∀ {v : V} {d : Dt}, Rp K H B v d → Rp K H' B' v d
  | _, _, .non => .non
  | _, _, .bl b => .bl b
  | _, _, .int i => .int i
  | _, _, .str x => .str x
  | _, _, .lst h n r => .lst (rd_kp k n h) (fun z => n (hb _ z)) (RpL.mono k hb r)
  | _, _, .tup h r => .tup (sqT_kp k h) (RpL.mono k hb r)
  | _, _, .scr h => .scr (sq_kp k h)
theorem RpL.mono {K : PySem.W.Frag} {B B' : Bad} {H H' : Hp} (k : Kp B H H') (hb : ∀ x, B' x → B x) : ∀ {vs : List V} {ds : List Dt}, RpL K H B vs ds → RpL K H' B' vs ds
  | _, _, .nil => .nil
  | _, _, .cons h r => .cons (Rp.mono k hb h) (RpL.mono k hb r)
end
mutual
/-- a new address may join B -/
theorem Rp.fresh {K : PySem.W.Frag} {B : Bad} {H : Hp} {p : Addr} {o : HO} (hp : H p = none) : ∀ {v : V} {d : Dt}, Rp K H B v d → Rp K (upd H p o) (fun a => B a ∨ a = p) v d
  | _, _, .non => .non
  | _, _, .bl b => .bl b
  | _, _, .int i => .int i
  | _, _, .str x => .str x
  | _, _, .lst h n r => .lst (rd_same (same_new hp) h) (fun z => z.elim n fun e => rd_ne h hp e) (RpL.fresh hp r)
  | _, _, .tup h r => .tup (sqT_kp (B := fun _ => False) (Kp.of_same (same_new hp)) h) (RpL.fresh hp r)
  | _, _, .scr h => .scr (sq_kp (B := fun _ => False) (Kp.of_same (same_new hp)) h)
theorem RpL.fresh {K : PySem.W.Frag} {B : Bad} {H : Hp} {p : Addr} {o : HO} (hp : H p = none) : ∀ {vs : List V} {ds : List Dt}, RpL K H B vs ds → RpL K (upd H p o) (fun a => B a ∨ a = p) vs ds
  | _, _, .nil => .nil
  | _, _, .cons h r => .cons (Rp.fresh hp h) (RpL.fresh hp r)
end
theorem Rp.same {K : PySem.W.Frag} {B : Bad} {H H' : Hp} {v : V} {d : Dt} (k : Same H H') (h : Rp K H B v d) : Rp K H' B v d := h.mono (Kp.of_same k) fun _ z => z
theorem RpL.same {K : PySem.W.Frag} {B : Bad} {H H' : Hp} {vs : List V} {ds : List Dt} (k : Same H H') (h : RpL K H B vs ds) : RpL K H' B vs ds := h.mono (Kp.of_same k) fun _ z => z

theorem RpL.len {K : PySem.W.Frag} {B : Bad} {H : Hp} : ∀ {vs : List V} {ds : List Dt}, RpL K H B vs ds → vs.length = ds.length
  | _, _, .nil => rfl
  | _, _, .cons _ r => by rw [List.length_cons, List.length_cons, r.len]
theorem RpL.get {K : PySem.W.Frag} {B : Bad} {H : Hp} : ∀ {vs : List V} {ds : List Dt} {i : Nat} {d : Dt}, RpL K H B vs ds → ds[i]? = some d → ∃ v, vs[i]? = some v ∧ Rp K H B v d
  | _, _, _, _, .nil, e => by simp at e
  | _, _, 0, _, .cons h _, e => by simp at e; subst e; exact ⟨_, rfl, h⟩
  | _, _, i + 1, d, .cons _ r, e => by
    obtain ⟨v, h1, h2⟩ := RpL.get (i := i) (d := d) r (by simpa using e)
    exact ⟨v, by simpa using h1, h2⟩
theorem RpL.getV {K : PySem.W.Frag} {B : Bad} {H : Hp} : ∀ {vs : List V} {ds : List Dt} {i : Nat} {v : V}, RpL K H B vs ds → vs[i]? = some v → ∃ d, ds[i]? = some d ∧ Rp K H B v d
  | _, _, _, _, .nil, e => by simp at e
  | _, _, 0, _, .cons h _, e => by simp at e; subst e; exact ⟨_, rfl, h⟩
  | _, _, i + 1, d, .cons _ r, e => by
    obtain ⟨v, h1, h2⟩ := RpL.getV (i := i) (v := d) r (by simpa using e)
    exact ⟨v, by simpa using h1, h2⟩
theorem RpL.append {K : PySem.W.Frag} {B : Bad} {H : Hp} : ∀ {vs ws : List V} {ds es : List Dt}, RpL K H B vs ds → RpL K H B ws es → RpL K H B (vs ++ ws) (ds ++ es)
  | _, _, _, _, .nil, s => s
  | _, _, _, _, .cons h r, s => .cons h (RpL.append r s)
theorem RpL.set {K : PySem.W.Frag} {B : Bad} {H : Hp} {v : V} {d : Dt} (h : Rp K H B v d) : ∀ {vs : List V} {ds : List Dt} (i : Nat), RpL K H B vs ds → RpL K H B (vs.set i v) (ds.set i d)
  | _, _, _, .nil => .nil
  | _, _, 0, .cons _ r => .cons h r
  | _, _, i + 1, .cons q r => .cons q (RpL.set h i r)
theorem RpL.take {K : PySem.W.Frag} {B : Bad} {H : Hp} : ∀ {vs : List V} {ds : List Dt} (n : Nat), RpL K H B vs ds → RpL K H B (vs.take n) (ds.take n)
  | _, _, 0, _ => .nil
  | _, _, _ + 1, .nil => .nil
  | _, _, n + 1, .cons h r => .cons h (RpL.take n r)
theorem RpL.drop {K : PySem.W.Frag} {B : Bad} {H : Hp} : ∀ {vs : List V} {ds : List Dt} (n : Nat), RpL K H B vs ds → RpL K H B (vs.drop n) (ds.drop n)
  | _, _, 0, r => r
  | _, _, _ + 1, .nil => .nil
  | _, _, n + 1, .cons _ r => RpL.drop n r
theorem RpL.erase {K : PySem.W.Frag} {B : Bad} {H : Hp} : ∀ {vs : List V} {ds : List Dt} (n : Nat), RpL K H B vs ds → RpL K H B (vs.eraseIdx n) (ds.eraseIdx n)
  | _, _, _, .nil => .nil
  | _, _, 0, .cons _ r => r
  | _, _, n + 1, .cons h r => .cons h (RpL.erase n r)
theorem RpL.ints {K : PySem.W.Frag} {B : Bad} {H : Hp} : ∀ {vs : List V} {ns : List Int}, RpL K H B vs (ns.map .int) → vs = ns.map V.int
  | _, [], .nil => rfl
  | _, n :: ns, .cons (.int _) r => by rw [RpL.ints r]; rfl
theorem RpL.of_ints {K : PySem.W.Frag} {B : Bad} {H : Hp} : ∀ (ns : List Int), RpL K H B (ns.map V.int) (ns.map .int)
  | [] => .nil
  | n :: ns => .cons (.int n) (RpL.of_ints ns)

mutual
theorem Rp.dp {K : PySem.W.Frag} {B : Bad} {H : Hp} : ∀ {v : V} {d : Dt}, Rp K H B v d → d.canLay0 = true → Dp K H v d
  | _, _, .non, _ => .non
  | _, _, .bl b, _ => .bl b
  | _, _, .int i, _ => .int i
  | _, _, .str x, _ => .str x
  | _, _, .lst h _ r, c => .lst (.inl h) (RpL.dp r (by simpa [PyData.canLay0] using c))
  | _, _, .tup h r, c => .tup h.sq (RpL.dp r (by simpa [PyData.canLay0] using c))
  | _, _, .scr _, c => by simp [PyData.canLay0] at c
theorem RpL.dp {K : PySem.W.Frag} {B : Bad} {H : Hp} : ∀ {vs : List V} {ds : List Dt}, RpL K H B vs ds → PyData.canLayAll0 ds = true → DpAll K H vs ds
  | _, _, .nil, _ => .nil
  | _, _, .cons h r, c => by
    rw [PyData.canLayAll0, Bool.and_eq_true] at c
    exact .cons (Rp.dp h c.1) (RpL.dp r c.2)
end

/-! ### the state of a def's body -/
/-- what a slot holds: data; a list that this slot alone holds (it may be changed); the urn (a list that the caller handed in to be changed) -/
inductive SV where
  | val (d : Dt) | own (ds : List Dt) | urn
structure Stt where
  sl : List (Option SV)
  ur : Option (List Int)

def Ow (σ : L2.St) (sl : List (Option SV)) : Bad := fun a => ∃ (i : Nat) (ds : List Dt), sl[i]? = some (some (.own ds)) ∧ σ[i]? = some (some (.ref a))
def Bh (B : Bad) (σ : L2.St) (sl : List (Option SV)) : Bad := fun a => B a ∨ Ow σ sl a
def Bp (B : Bad) (p : Addr) : Bad := fun a => B a ∨ a = p

/-- the urn as it stands -/
def UrOk (H : Hp) (γ : Option Addr) (u : Option (List Int)) : Prop := ∀ p, γ = some p → ∃ ns : List Int, u = some ns ∧ H p = some (.lst (ns.map V.int))
structure Rel (K : PySem.W.Frag) (B : Bad) (γ : Option Addr) (H0 : Hp) (σ : L2.St) (H : Hp) (s : Stt) : Prop where
  len : s.sl.length = σ.length
  val : ∀ (i : Nat) (d : Dt), s.sl[i]? = some (some (.val d)) → ∃ v, σ[i]? = some (some v) ∧ Rp K H (Bh B σ s.sl) v d
  own : ∀ (i : Nat) (ds : List Dt), s.sl[i]? = some (some (.own ds)) → ∃ p vs, σ[i]? = some (some (.ref p)) ∧ H p = some (.lst vs) ∧ RpL K H (Bh B σ s.sl) vs ds ∧ ¬ B p ∧ H0 p = none
  inj : ∀ (i j : Nat) (ds es : List Dt) (p : Addr), s.sl[i]? = some (some (.own ds)) → s.sl[j]? = some (some (.own es)) → σ[i]? = some (some (.ref p)) → σ[j]? = some (some (.ref p)) → i = j
  urn : ∀ (i : Nat), s.sl[i]? = some (some .urn) → ∃ p, γ = some p ∧ σ[i]? = some (some (.ref p))
  ur : UrOk H γ s.ur
  gB : ∀ p, γ = some p → B p
  bd : ∀ a, B a → H a ≠ none
  ent : ∀ b o, H0 b = some o → γ ≠ some b → H b = some o

section
variable {K : PySem.W.Frag} {B : Bad} {γ : Option Addr} {H0 H H' : Hp} {σ : L2.St} {s s' : Stt}
theorem same_dom (k : Same H H') {a : Addr} (h : H a ≠ none) : H' a ≠ none := by
  cases q : H a with
  | none => exact absurd q h
  | some o => rw [k a o q]; intro z; cases z
theorem UrOk.same {u : Option (List Int)} (r : UrOk H γ u) (k : Same H H') : UrOk H' γ u := fun p e => let ⟨ns, h1, h2⟩ := r p e; ⟨ns, h1, k _ _ h2⟩
theorem Rel.same (r : Rel K B γ H0 σ H s) (k : Same H H') : Rel K B γ H0 σ H' s where
  len := r.len
  val := fun i d e => let ⟨v, h1, h2⟩ := r.val i d e; ⟨v, h1, h2.same k⟩
  own := fun i ds e => let ⟨p, vs, h1, h2, h3, h4⟩ := r.own i ds e; ⟨p, vs, h1, k _ _ h2, h3.same k, h4⟩
  inj := r.inj
  urn := r.urn
  ur := r.ur.same k
  gB := r.gB
  bd := fun a ha => same_dom k (r.bd a ha)
  ent := fun b o h g => k _ _ (r.ent b o h g)
theorem Rel.bdh (r : Rel K B γ H0 σ H s) : ∀ a, Bh B σ s.sl a → H a ≠ none := fun a ha => by
  rcases ha with ha | ⟨i, ds, h1, h2⟩
  · exact r.bd a ha
  · obtain ⟨p, vs, e1, e2, _⟩ := r.own i ds h1
    rw [h2] at e1; cases e1
    rw [e2]; intro z; cases z
/-- what is new now was not there at the entry -/
theorem Rel.h0 (r : Rel K B γ H0 σ H s) {p : Addr} (h : H p = none) : H0 p = none := by
  cases q : H0 p with
  | none => rfl
  | some o =>
    by_cases g : γ = some p
    · exact absurd h (r.bd p (r.gB p g))
    · rw [r.ent p o q g] at h; cases h
mutual
theorem Rp.avoid {p : Addr} (hp : H p = none) : ∀ {v : V} {d : Dt}, Rp K H B v d → Rp K H (Bp B p) v d
  | _, _, .non => .non
  | _, _, .bl b => .bl b
  | _, _, .int i => .int i
  | _, _, .str x => .str x
  | _, _, .lst h n r => .lst h (fun z => z.elim n fun e => rd_ne h hp e) (RpL.avoid hp r)
  | _, _, .tup h r => .tup h (RpL.avoid hp r)
  | _, _, .scr h => .scr h
theorem RpL.avoid {p : Addr} (hp : H p = none) : ∀ {vs : List V} {ds : List Dt}, RpL K H B vs ds → RpL K H (Bp B p) vs ds
  | _, _, .nil => .nil
  | _, _, .cons h r => .cons (Rp.avoid hp h) (RpL.avoid hp r)
end
theorem RpL.sub {B' : Bad} {vs : List V} {ds : List Dt} (r : RpL K H B vs ds) (h : ∀ a, B' a → B a) : RpL K H B' vs ds := r.mono (Kp.refl _ _) h
theorem Rp.sub {B' : Bad} {v : V} {d : Dt} (r : Rp K H B v d) (h : ∀ a, B' a → B a) : Rp K H B' v d := r.mono (Kp.refl _ _) h
theorem bh_bp {p a : Addr} {sl : List (Option SV)} : Bh (Bp B p) σ sl a → Bp (Bh B σ sl) p a := fun h => by
  rcases h with (h | h) | h
  · exact .inl (.inl h)
  · exact .inr h
  · exact .inl (.inr h)
theorem bp_bh {p a : Addr} {sl : List (Option SV)} : Bp (Bh B σ sl) p a → Bh (Bp B p) σ sl a := fun h => by
  rcases h with (h | h) | h
  · exact .inl (.inl h)
  · exact .inr h
  · exact .inl (.inr h)
/-- a new address joins B -/
theorem Rel.bp (r : Rel K B γ H0 σ H s) {p : Addr} {o : HO} (hp : H p = none) : Rel K (Bp B p) γ H0 σ (upd H p o) s := by
  have sm : Same H (upd H p o) := same_new hp
  have cv : ∀ {v d}, Rp K H (Bh B σ s.sl) v d → Rp K (upd H p o) (Bh (Bp B p) σ s.sl) v d := fun h => ((h.avoid hp).sub fun _ => bh_bp).same sm
  have cl : ∀ {v d}, RpL K H (Bh B σ s.sl) v d → RpL K (upd H p o) (Bh (Bp B p) σ s.sl) v d := fun h => ((h.avoid hp).sub fun _ => bh_bp).same sm
  exact {
    len := r.len
    val := fun i d e => let ⟨v, h1, h2⟩ := r.val i d e; ⟨v, h1, cv h2⟩
    own := fun i ds e => let ⟨q, vs, h1, h2, h3, h4, h5⟩ := r.own i ds e; ⟨q, vs, h1, sm _ _ h2, cl h3, fun z => z.elim h4 fun z => ne_of_none h2 hp z, h5⟩
    inj := r.inj
    urn := r.urn
    ur := r.ur.same sm
    gB := fun q e => .inl (r.gB q e)
    bd := fun a ha => by
      rcases ha with ha | ha
      · exact same_dom sm (r.bd a ha)
      · rw [ha, upd_same]; intro z; cases z
    ent := fun b u h g => sm _ _ (r.ent b u h g) }
/-- fewer addresses are barred -/
theorem Rel.unB {B' : Bad} (r : Rel K B γ H0 σ H s) (h : ∀ a, B' a → B a) (g : ∀ p, γ = some p → B' p) : Rel K B' γ H0 σ H s := by
  have sb : ∀ a, Bh B' σ s.sl a → Bh B σ s.sl a := fun a z => z.imp (h a) id
  exact {
    len := r.len
    val := fun i d e => let ⟨v, h1, h2⟩ := r.val i d e; ⟨v, h1, h2.sub sb⟩
    own := fun i ds e => let ⟨q, vs, h1, h2, h3, h4, h5⟩ := r.own i ds e; ⟨q, vs, h1, h2, h3.sub sb, fun z => h4 (h _ z), h5⟩
    inj := r.inj
    urn := r.urn
    ur := r.ur
    gB := g
    bd := fun a ha => r.bd a (h a ha)
    ent := r.ent }
end

/-! ### judgements over data -/
abbrev MD := Stt → Option (Dt × Stt)
abbrev MA := Stt → Option (List Dt × Stt)
abbrev MT := Stt → Option (Bool × Stt)

/-- what stands between two states: data stay, what is barred stays, nothing goes -/
structure Mv (K : PySem.W.Frag) (B : Bad) (γ : Option Addr) (H : Hp) (C : Bad) (H' : Hp) (C' : Bad) : Prop where
  frm : ∀ v d, Rp K H C v d → Rp K H' C' v d
  pv : ∀ b o, B b → γ ≠ some b → H b = some o → H' b = some o
  dom : ∀ b, H b ≠ none → H' b ≠ none
section
variable {K : PySem.W.Frag} {B : Bad} {γ : Option Addr} {H H1 H' : Hp} {C C1 C' : Bad}
theorem Mv.refl : Mv K B γ H C H C := ⟨fun _ _ h => h, fun _ _ _ _ h => h, fun _ h => h⟩
theorem Mv.trans (a : Mv K B γ H C H1 C1) (b : Mv K B γ H1 C1 H' C') : Mv K B γ H C H' C' :=
  ⟨fun v d h => b.frm v d (a.frm v d h), fun x o h g e => b.pv x o h g (a.pv x o h g e), fun x h => b.dom x (a.dom x h)⟩
theorem Mv.of_same (k : Same H H') (h : ∀ a, C' a → C a) : Mv K B γ H C H' C' := ⟨fun _ _ r => (r.sub h).same k, fun _ _ _ _ e => k _ _ e, fun _ z => same_dom k z⟩
theorem Mv.rpl (a : Mv K B γ H C H' C') : ∀ {vs : List V} {ds : List Dt}, RpL K H C vs ds → RpL K H' C' vs ds
  | _, _, .nil => .nil
  | _, _, .cons h r => .cons (a.frm _ _ h) (a.rpl r)
theorem Mv.back (a : Mv K B γ H C H' C') {p : Addr} (h : H' p = none) : H p = none := by
  cases q : H p with
  | none => rfl
  | some o => exact absurd h (a.dom p (by rw [q]; intro z; cases z))
end
/-- what an evaluation leaves: the state s' behind s -/
structure Aft (K : PySem.W.Frag) (B : Bad) (γ : Option Addr) (H0 : Hp) (σ : L2.St) (H : Hp) (s : Stt) (σ' : L2.St) (H' : Hp) (s' : Stt) : Prop where
  rel : Rel K B γ H0 σ' H' s'
  mv : Mv K B γ H (Bh B σ s.sl) H' (Bh B σ' s'.sl)
section
variable {K : PySem.W.Frag} {B : Bad} {γ : Option Addr} {H0 H H1 H' : Hp} {σ σ1 σ' : L2.St} {s s1 s' : Stt}
theorem Aft.refl (r : Rel K B γ H0 σ H s) : Aft K B γ H0 σ H s σ H s := ⟨r, Mv.refl⟩
theorem Aft.trans (a : Aft K B γ H0 σ H s σ1 H1 s1) (b : Aft K B γ H0 σ1 H1 s1 σ' H' s') : Aft K B γ H0 σ H s σ' H' s' := ⟨b.rel, a.mv.trans b.mv⟩
theorem Aft.same (a : Aft K B γ H0 σ H s σ1 H1 s1) (k : Same H1 H') : Aft K B γ H0 σ H s σ1 H' s1 := ⟨a.rel.same k, a.mv.trans (Mv.of_same k fun _ z => z)⟩
end

def tD (K : PySem.W.Frag) (m : MD) : TE := fun σ H Q => ∃ B γ H0 s d s', Rel K B γ H0 σ H s ∧ m s = some (d, s') ∧ ∀ v H', Aft K B γ H0 σ H s σ H' s' → Rp K H' (Bh B σ s'.sl) v d → Q v H'
def tDA (K : PySem.W.Frag) (m : MA) : TA := fun σ H Q => ∃ B γ H0 s d s', Rel K B γ H0 σ H s ∧ m s = some (d, s') ∧ ∀ v H', Aft K B γ H0 σ H s σ H' s' → RpL K H' (Bh B σ s'.sl) v d → Q v H'
def tDT (K : PySem.W.Frag) (m : MT) : TT := fun σ H Q => ∃ B γ H0 s d s', Rel K B γ H0 σ H s ∧ m s = some (d, s') ∧ ∀ H', Aft K B γ H0 σ H s σ H' s' → Q d H'
/-- a new list, that nobody else holds -/
def tDL (K : PySem.W.Frag) (m : MA) : TE := fun σ H Q => ∃ B γ H0 s d s', Rel K B γ H0 σ H s ∧ m s = some (d, s') ∧ ∀ p vs H', Rel K (Bp B p) γ H0 σ H' s' → Mv K B γ H (Bh B σ s.sl) H' (Bh (Bp B p) σ s'.sl) → H p = none → H' p = some (.lst vs) → RpL K H' (Bh (Bp B p) σ s'.sl) vs d → Q (.ref p) H'

theorem PE.imp {X : Cx} {e : Expr} {t t' : TE} (h : PE X e t) (k : ∀ σ H Q, t' σ H Q → t σ H Q) : PE X e t' := ⟨fun pins s σ H Q I q => h.run pins s σ H Q I (k σ H Q q)⟩
theorem PT.imp {X : Cx} {e : Expr} {t t' : TT} (h : PT X e t) (k : ∀ σ H Q, t' σ H Q → t σ H Q) : PT X e t' := ⟨fun pins s σ H Q I q => h.run pins s σ H Q I (k σ H Q q)⟩
theorem PA.imp {X : Cx} {e : List Expr} {t t' : TA} (h : PA X e t) (k : ∀ σ H Q, t' σ H Q → t σ H Q) : PA X e t' := ⟨fun pos pins s σ H Q I q => h.run pos pins s σ H Q I (k σ H Q q)⟩

end DL

set_option Elab.async false
set_option linter.all false
set_option maxRecDepth 100000
set_option maxHeartbeats 2000000
namespace DL
open PySem PySem.Spec PyProof.Rows L2

theorem ob {α β : Type} {o : Option α} {f : α → Option β} {b : β} (h : o.bind f = some b) : ∃ a, o = some a ∧ f a = some b := Option.bind_eq_some_iff.mp h
theorem om {α β : Type} {o : Option α} {f : α → β} {b : β} (h : o.map f = some b) : ∃ a, o = some a ∧ f a = b := Option.map_eq_some_iff.mp h

/-! ### a slot's own list becomes plain data -/
def frz (s : Stt) (i : Nat) (ds : List Dt) : Stt := { s with sl := s.sl.set i (some (.val (.list ds))) }
section
variable {K : PySem.W.Frag} {B : Bad} {γ : Option Addr} {H0 H H' : Hp} {σ : L2.St} {s s' : Stt}
theorem frz_own {i j : Nat} {ds es : List Dt} (h : (frz s i ds).sl[j]? = some (some (.own es))) : j ≠ i ∧ s.sl[j]? = some (some (.own es)) := by
  unfold frz at h
  by_cases e : i = j
  · subst e
    rw [List.getElem?_set] at h
    split at h
    · split at h
      · cases h
      · cases h
    · exact absurd rfl ‹_›
  · rw [List.getElem?_set_ne e] at h
    exact ⟨fun z => e z.symm, h⟩
theorem frz_sub {i : Nat} {ds : List Dt} {a : Addr} (h : Bh B σ (frz s i ds).sl a) : Bh B σ s.sl a := by
  rcases h with h | ⟨j, es, h1, h2⟩
  · exact .inl h
  · exact .inr ⟨j, es, (frz_own h1).2, h2⟩
theorem Rel.frz (r : Rel K B γ H0 σ H s) {i : Nat} {ds : List Dt} (h : s.sl[i]? = some (some (.own ds))) :
    ∃ v, σ[i]? = some (some v) ∧ Rp K H (Bh B σ (frz s i ds).sl) v (.list ds) ∧ Aft K B γ H0 σ H s σ H (frz s i ds) := by
  obtain ⟨p, vs, h1, h2, h3, h4, h5⟩ := r.own i ds h
  have hi : i < s.sl.length := (List.getElem?_eq_some_iff.mp h).1
  have np : ¬ Bh B σ (DL.frz s i ds).sl p := fun z => by
    rcases z with z | ⟨j, es, e1, e2⟩
    · exact h4 z
    · obtain ⟨n, e3⟩ := frz_own e1
      exact n (r.inj j i es ds p e3 h e2 h1)
  have rp : Rp K H (Bh B σ (DL.frz s i ds).sl) (.ref p) (.list ds) := .lst (.inl h2) np (h3.sub fun _ => frz_sub)
  refine ⟨_, h1, rp, ⟨?_, Mv.of_same (Same.refl H) fun _ => frz_sub⟩⟩
  exact {
    len := by show (s.sl.set i _).length = _; rw [List.length_set]; exact r.len
    val := fun j d e => by
      by_cases hj : i = j
      · subst hj
        have e' : (s.sl.set i (some (SV.val (.list ds))))[i]? = some (some (.val d)) := e
        rw [List.getElem?_set_self hi] at e'
        cases e'
        exact ⟨_, h1, rp⟩
      · have e' : (s.sl.set i (some (SV.val (.list ds))))[j]? = some (some (.val d)) := e
        rw [List.getElem?_set_ne hj] at e'
        obtain ⟨v, q1, q2⟩ := r.val j d e'
        exact ⟨v, q1, q2.sub fun _ => frz_sub⟩
    own := fun j es e => by
      obtain ⟨q, ws, q1, q2, q3, q4⟩ := r.own j es (frz_own e).2
      exact ⟨q, ws, q1, q2, q3.sub fun _ => frz_sub, q4⟩
    inj := fun j k es fs q e1 e2 => r.inj j k es fs q (frz_own e1).2 (frz_own e2).2
    urn := fun j e => by
      by_cases hj : i = j
      · subst hj
        have e' : (s.sl.set i (some (SV.val (.list ds))))[i]? = some (some .urn) := e
        rw [List.getElem?_set_self hi] at e'
        cases e'
      · have e' : (s.sl.set i (some (SV.val (.list ds))))[j]? = some (some .urn) := e
        rw [List.getElem?_set_ne hj] at e'
        exact r.urn j e'
    ur := r.ur
    gB := r.gB
    bd := r.bd
    ent := r.ent }
end

/-! ### expressions -/
section
variable {X : Cx} {e a b c : Expr} {pos : Pos}
def mC (d : Dt) : MD := fun s => some (d, s)
theorem de_c {v : V} {d : Dt} (h : PE X e (tC v)) (hr : ∀ H B, Rp X.K H B v d) : PE X e (tD X.K (mC d)) := PE.imp h fun σ H Q q => by
  obtain ⟨B, γ, H0, s, d', s', r, e1, k⟩ := q
  cases e1
  exact k _ _ (Aft.refl r) (hr _ _)
theorem de_int {i : Int} {j} : PE X (.Constant (.int i) j pos) (tD X.K (mC (.int i))) := de_c pe_int fun _ _ => .int i
theorem de_bl {i : Bool} {j} : PE X (.Constant (.bool i) j pos) (tD X.K (mC (.bool i))) := de_c pe_bl fun _ _ => .bl i
theorem de_non {j} : PE X (.Constant .none j pos) (tD X.K (mC .none)) := de_c pe_non fun _ _ => .non
theorem de_str {x : Str} {j} : PE X (.Constant (.str x) j pos) (tD X.K (mC (.str x))) := de_c pe_str fun _ _ => .str x

def mVar (i : Nat) : MD := fun s => match s.sl[i]? with
  | some (some (.val d)) => some (d, s)
  | some (some (.own ds)) => some (.list ds, frz s i ds)
  | _ => none
theorem de_var' {i : Nat} (h : PE X e (tVar i)) : PE X e (tD X.K (mVar i)) := PE.imp h fun σ H Q q => by
  obtain ⟨B, γ, H0, s, d, s', r, e1, k⟩ := q
  unfold mVar at e1
  split at e1
  · rename_i d' he
    cases e1
    obtain ⟨v, h1, h2⟩ := r.val i d he
    exact ⟨v, h1, k _ _ (Aft.refl r) h2⟩
  · rename_i ds he
    cases e1
    obtain ⟨v, h1, h2, h3⟩ := r.frz he
    exact ⟨v, h1, k _ _ h3 h2⟩
  · cases e1
theorem dv (i : Nat) {x : Str} (hN : X.N[i]? = some x := by rfl) (hv : Vis X.env.scope x := by first | exact Or.inl rfl | exact Or.inr (Or.inl rfl) | exact Or.inr (Or.inr rfl)) (hd : (x == ("__debug__" : Str)) = false := by decide)
    (hcd : (x == ("__classdict__" : Str)) = false := by decide) : PE X (.Name x pos) (tD X.K (mVar i)) := de_var' (pe_var hN hv hd hcd)

/-- an operation on two values, as data tell it -/
structure OpD (X : Cx) (g : Value → Value → Sem Value) (f : Dt → Dt → Option Dt) : Prop where
  ex : ∃ r : R2, OpR X g r ∧ ∀ (B : Bad) (H : Hp) (x y : V) (dx dy d : Dt) (Q : VK), Rp X.K H B x dx → Rp X.K H B y dy → (∀ a, B a → H a ≠ none) → f dx dy = some d → (∀ v H', Same H H' → Rp X.K H' B v d → Q v H') → r x y H Q
theorem OpD.or {g : Value → Value → Sem Value} {f f' : Dt → Dt → Option Dt} (h : OpD X g f) (h' : OpD X g f') : OpD X g (fun x y => (f x y).or (f' x y)) := by
  obtain ⟨r, h1, h2⟩ := h.ex
  obtain ⟨r', h1', h2'⟩ := h'.ex
  refine ⟨⟨fun x y H Q => r x y H Q ∨ r' x y H Q, fun pins s σ H x y v u Q I rx ry q => ?_, fun B H x y dx dy d Q r1 r2 bd e k => ?_⟩⟩
  · rcases q with q | q
    · exact h1 pins s σ H x y v u Q I rx ry q
    · exact h1' pins s σ H x y v u Q I rx ry q
  · cases q : f dx dy with
    | some z =>
      rw [q] at e
      exact .inl (h2 B H x y dx dy d Q r1 r2 bd (q.trans e) k)
    | none =>
      rw [q] at e
      exact .inr (h2' B H x y dx dy d Q r1 r2 bd e k)
def mBin (f : Dt → Dt → Option Dt) (ma mb : MD) : MD := fun s => (ma s).bind fun p => (mb p.2).bind fun q => (f p.1 q.1).map fun z => (z, q.2)
theorem bin_go {g : Value → Value → Sem Value} {f : Dt → Dt → Option Dt} {ma mb : MD} {r : R2} {σ : L2.St} {H : Hp} {Q : VK}
    (h2 : ∀ (B : Bad) (H : Hp) (x y : V) (dx dy d : Dt) (Q : VK), Rp X.K H B x dx → Rp X.K H B y dy → (∀ a, B a → H a ≠ none) → f dx dy = some d → (∀ v H', Same H H' → Rp X.K H' B v d → Q v H') → r x y H Q)
    (q : tD X.K (mBin f ma mb) σ H Q) : tOp r (tD X.K ma) (tD X.K mb) σ H Q := by
  obtain ⟨B, γ, H0, s, d, s', rl, e, k⟩ := q
  obtain ⟨⟨x, s1⟩, e1, e2⟩ := ob e
  obtain ⟨⟨y, s2⟩, e3, e4⟩ := ob e2
  obtain ⟨z, e5, e6⟩ := om e4
  obtain ⟨rfl, rfl⟩ := Prod.mk.inj e6
  refine ⟨B, γ, H0, s, x, s1, rl, e1, fun v1 H1 a1 r1 => ⟨B, γ, H0, s1, y, s2, a1.rel, e3, fun v2 H2 a2 r2 => ?_⟩⟩
  exact h2 _ H2 v1 v2 x y z Q (a2.mv.frm _ _ r1) r2 a2.rel.bdh e5 fun v H' sm rv => k v H' ((a1.trans a2).same sm) rv
theorem de_bin {op : Operator} {f : Dt → Dt → Option Dt} {ma mb : MD} (ho : OpD X (binaryOp op) f) (ha : PE X a (tD X.K ma)) (hb : PE X b (tD X.K mb)) : PE X (.BinOp a op b pos) (tD X.K (mBin f ma mb)) := by
  obtain ⟨r, h1, h2⟩ := ho.ex
  exact PE.imp (pe_op h1 ha hb) fun σ H Q q => bin_go (g := binaryOp op) h2 q
theorem de_cmp {op : CmpOp} {f : Dt → Dt → Option Dt} {ma mb : MD} (ho : OpD X (compareOp op) f) (ha : PE X a (tD X.K ma)) (hb : PE X b (tD X.K mb)) (hm : behindInMarks op b = false) : PE X (.Compare a [op] [b] pos) (tD X.K (mBin f ma mb)) := by
  obtain ⟨r, h1, h2⟩ := ho.ex
  exact PE.imp (pe_cmpR h1 ha hb hm) fun σ H Q q => bin_go (g := compareOp op) h2 q
/-- a op b op' c -/
def mChain (f f' : Dt → Dt → Option Dt) (ma mb mc : MD) : MD := fun s => (ma s).bind fun p => (mb p.2).bind fun q => (f p.1 q.1).bind fun z => match z with
  | .bool true => (mc q.2).bind fun t => (f' q.1 t.1).map fun w => (w, t.2)
  | .bool false => some (.bool false, q.2)
  | _ => none
theorem de_chain {op op' : CmpOp} {f f' : Dt → Dt → Option Dt} {ma mb mc : MD} (ho : OpD X (compareOp op) f) (ho' : OpD X (compareOp op') f') (ha : PE X a (tD X.K ma)) (hb : PE X b (tD X.K mb)) (hc : PE X c (tD X.K mc)) (hm : lastMarks [op, op'] [b, c] = false := by with_unfolding_all rfl) :
    PE X (.Compare a [op, op'] [b, c] pos) (tD X.K (mChain f f' ma mb mc)) := by
  obtain ⟨r, h1, h2⟩ := ho.ex
  obtain ⟨r', h1', h2'⟩ := ho'.ex
  refine PE.imp (pe_chain h1 h1' ha hb hc hm) fun σ H Q q => ?_
  obtain ⟨B, γ, H0, s, d, s', rl, e, k⟩ := q
  obtain ⟨⟨x, s1⟩, e1, e2⟩ := ob e
  obtain ⟨⟨y, s2⟩, e3, e4⟩ := ob e2
  obtain ⟨z, e5, e6⟩ := ob e4
  refine ⟨B, γ, H0, s, x, s1, rl, e1, fun v1 H1 a1 r1 => ⟨B, γ, H0, s1, y, s2, a1.rel, e3, fun v2 H2 a2 r2 => ?_⟩⟩
  refine h2 _ H2 v1 v2 x y z _ (a2.mv.frm _ _ r1) r2 a2.rel.bdh e5 fun v H3 sm rv => ?_
  have a3 := (a1.trans a2).same sm
  cases rv with
  | bl bb =>
    refine ⟨bb, rfl, ?_⟩
    cases bb with
    | true =>
      obtain ⟨⟨w, s3⟩, e7, e8⟩ := ob e6
      obtain ⟨w', e9, e10⟩ := om e8
      obtain ⟨rfl, rfl⟩ := Prod.mk.inj e10
      refine iteT ⟨B, γ, H0, s2, w, s3, a3.rel, e7, fun v4 H4 a4 r4 => ?_⟩
      exact h2' _ H4 v2 v4 y w w' _ (a4.mv.frm _ _ (r2.same sm)) r4 a4.rel.bdh e9 fun v5 H5 sm5 rv5 => k v5 H5 ((a3.trans a4).same sm5) rv5
    | false =>
      cases e6
      exact iteF (k _ _ a3 (.bl false))
  | _ => cases e6

/-- an operation on one value -/
structure UnD (X : Cx) (g : Value → Sem Value) (f : Dt → Option Dt) : Prop where
  ex : ∃ r : V → Hp → VK → Prop, UnR X g r ∧ ∀ (B : Bad) (H : Hp) (x : V) (dx d : Dt) (Q : VK), Rp X.K H B x dx → f dx = some d → (∀ v H', Same H H' → Rp X.K H' B v d → Q v H') → r x H Q
def mUn (f : Dt → Option Dt) (ma : MD) : MD := fun s => (ma s).bind fun p => (f p.1).map fun z => (z, p.2)
theorem de_un {op : UnaryOp} {f : Dt → Option Dt} {ma : MD} (ho : UnD X (unaryOp op) f) (ha : PE X a (tD X.K ma)) : PE X (.UnaryOp op a pos) (tD X.K (mUn f ma)) := by
  obtain ⟨r, h1, h2⟩ := ho.ex
  refine PE.imp (pe_un h1 ha) fun σ H Q q => ?_
  obtain ⟨B, γ, H0, s, d, s', rl, e, k⟩ := q
  obtain ⟨⟨x, s1⟩, e1, e2⟩ := ob e
  obtain ⟨z, e5, e6⟩ := om e2
  obtain ⟨rfl, rfl⟩ := Prod.mk.inj e6
  exact ⟨B, γ, H0, s, x, s1, rl, e1, fun v1 H1 a1 r1 => h2 _ H1 v1 x z Q r1 e5 fun v H' sm rv => k v H' (a1.same sm) rv⟩

/-! ### argument lists -/
def mNil : MA := fun s => some ([], s)
def mCons (ma : MD) (mr : MA) : MA := fun s => (ma s).bind fun p => (mr p.2).map fun q => (p.1 :: q.1, q.2)
theorem da_nil : PA X [] (tDA X.K mNil) := PA.imp pa_nil fun σ H Q q => by
  obtain ⟨B, γ, H0, s, d, s', rl, e, k⟩ := q
  cases e
  exact k [] H (Aft.refl rl) .nil
theorem da_cons {es : List Expr} {ma : MD} {mr : MA} (ha : PE X e (tD X.K ma)) (hr : PA X es (tDA X.K mr)) (hs : starEach (e :: es) X.env = (false, eval e X.env) :: starEach es X.env := by rfl) : PA X (e :: es) (tDA X.K (mCons ma mr)) :=
  PA.imp (pa_cons ha hr hs) fun σ H Q q => by
    obtain ⟨B, γ, H0, s, d, s', rl, e, k⟩ := q
    obtain ⟨⟨x, s1⟩, e1, e2⟩ := ob e
    obtain ⟨⟨y, s2⟩, e3, e4⟩ := om e2
    obtain ⟨rfl, rfl⟩ := Prod.mk.inj e4
    exact ⟨B, γ, H0, s, x, s1, rl, e1, fun v1 H1 a1 r1 => ⟨B, γ, H0, s1, y, s2, a1.rel, e3, fun v2 H2 a2 r2 => k _ _ (a1.trans a2) (.cons (a2.mv.frm _ _ r1) r2)⟩⟩

/-! ### tuples and lists -/
def fits (ds : List Dt) : Bool := decide (ds.length ≤ sizeLine)
def mTup (m : MA) : MD := fun s => (m s).bind fun p => if fits p.1 then some (.tuple p.1, p.2) else none
theorem de_tup {es : List Expr} {m : MA} {x1} (h : PA X es (tDA X.K m)) : PE X (.Tuple es x1 pos) (tD X.K (mTup m)) := PE.imp (pe_tup h) fun σ H Q q => by
  obtain ⟨B, γ, H0, s, d, s', rl, e, k⟩ := q
  obtain ⟨⟨x, s1⟩, e1, e2⟩ := ob e
  split at e2
  · rename_i hf
    obtain ⟨rfl, rfl⟩ := Prod.mk.inj (Option.some.inj e2)
    refine ⟨B, γ, H0, s, x, s1, rl, e1, fun vs H1 a1 r1 => ⟨?_, fun p hp => ?_⟩⟩
    · rw [r1.len]; exact of_decide_eq_true hf
    · exact k _ _ (a1.same (same_new hp)) (.tup (.inl upd_same) (r1.same (same_new hp)))
  · cases e2
def mLst (m : MA) : MA := fun s => (m s).bind fun p => if fits p.1 then some p else none
/-- a list just made -/
theorem dl_of {m : MA} {te : TE} (h : PE X e te) (k : ∀ σ H Q B γ H0 s ds s', Rel X.K B γ H0 σ H s → m s = some (ds, s') → (∀ p vs H1, Aft X.K B γ H0 σ H s σ H1 s' → H1 p = none → RpL X.K H1 (Bh B σ s'.sl) vs ds → Q (.ref p) (upd H1 p (.lst vs))) → te σ H Q) :
    PE X e (tDL X.K m) := PE.imp h fun σ H Q q => by
  obtain ⟨B, γ, H0, s, d, s', rl, e, kk⟩ := q
  refine k σ H Q B γ H0 s d s' rl e fun p vs H1 a1 hp r1 => ?_
  have sm : Same H1 (upd H1 p (.lst vs)) := same_new hp
  refine kk p vs _ (a1.rel.bp hp) ⟨fun v dd r => ?_, fun b o hb hg eb => sm _ _ (a1.mv.pv b o hb hg eb), fun b hb => same_dom sm (a1.mv.dom b hb)⟩ (a1.mv.back hp) upd_same ?_
  · exact (((a1.mv.frm v dd r).avoid hp).sub fun _ => bh_bp).same sm
  · exact ((r1.avoid hp).sub fun _ => bh_bp).same sm
theorem dl_lst {es : List Expr} {m : MA} (h : PA X es (tDA X.K m)) : PE X (.List es pos) (tDL X.K (mLst m)) := dl_of (pe_lst h) fun σ H Q B γ H0 s ds s' rl e k => by
  obtain ⟨⟨x, s1⟩, e1, e2⟩ := ob e
  split at e2
  · rename_i hf
    cases e2
    refine ⟨B, γ, H0, s, ds, s', rl, e1, fun vs H1 a1 r1 => ⟨?_, fun p hp => k p vs H1 a1 hp r1⟩⟩
    rw [r1.len]; exact of_decide_eq_true hf
  · cases e2
/-- a new list as plain data -/
def mOfL (m : MA) : MD := fun s => (m s).map fun p => (.list p.1, p.2)
theorem de_ofL {m : MA} (h : PE X e (tDL X.K m)) : PE X e (tD X.K (mOfL m)) := PE.imp h fun σ H Q q => by
  obtain ⟨B, γ, H0, s, d, s', rl, e, k⟩ := q
  obtain ⟨⟨x, s1⟩, e1, e2⟩ := om e
  cases e2
  refine ⟨B, γ, H0, s, x, s1, rl, e1, fun p vs H' r1 mv hp h' rl' => ?_⟩
  have np : ¬ Bh B σ s1.sl p := fun z => by
    rcases z with z | ⟨i, ds, z1, z2⟩
    · exact rl.bd p z hp
    · obtain ⟨q, ws, q1, q2, q3, q4, q5⟩ := r1.own i ds z1
      rw [z2] at q1; cases q1
      exact q4 (.inr rfl)
  have sb : ∀ a, Bh B σ s1.sl a → Bh (Bp B p) σ s1.sl a := fun a z => z.imp .inl id
  exact k _ _ ⟨r1.unB (fun a z => .inl z) rl.gB, ⟨fun v dd r => (mv.frm v dd r).sub sb, mv.pv, mv.dom⟩⟩ (.lst (.inl h') np (rl'.sub sb))
end
end DL

set_option Elab.async false
set_option linter.all false
set_option maxRecDepth 100000
set_option maxHeartbeats 2000000
namespace DL
open PySem PySem.Spec PyProof.Rows L2

/-! ### truth, tests -/
def dTru : Dt → Option Bool
  | .none => some false
  | .bool b => some b
  | .int i => some (i != 0)
  | .str x => if x.length ≤ sizeLine then some ((x.length : Int) != 0) else none
  | .list xs => some (!xs.isEmpty)
  | .tuple xs => some (!xs.isEmpty)
  | .dict _ => none
theorem RpL.emp {K : PySem.W.Frag} {B : Bad} {H : Hp} {vs : List V} {ds : List Dt} (r : RpL K H B vs ds) : vs.isEmpty = ds.isEmpty := by
  cases r <;> rfl
theorem truV_of {K : PySem.W.Frag} {H : Hp} {B : Bad} {v : V} {d : Dt} {b : Bool} (r : Rp K H B v d) (h : dTru d = some b) : TruV K v H b := by
  cases r with
  | non => cases h; rfl
  | bl _ => cases h; rfl
  | int _ => cases h; rfl
  | str x =>
    have h' : (if x.length ≤ sizeLine then some ((x.length : Int) != 0) else none) = some b := h
    split at h'
    · rename_i hz
      cases h'
      exact ⟨hz, rfl⟩
    · cases h'
  | lst h1 _ h3 =>
    cases h
    exact .inl ⟨_, .inl h1, by rw [h3.emp]⟩
  | tup h1 h3 =>
    cases h
    exact .inr (.inl ⟨_, h1.sq, by rw [h3.emp]⟩)
  | scr _ => cases h
section
variable {X : Cx} {e a b c : Expr} {rest : List Expr} {pos : Pos}
def mTru (m : MD) : MT := fun s => (m s).bind fun p => (dTru p.1).map fun b => (b, p.2)
theorem dt_val {m : MD} (h : PE X e (tD X.K m)) (he : ∀ whole, isTrue e X.env whole = (do let v ← whole; standAt e.pos; holding [v] (truthy v)) := by intro _; rfl) : PT X e (tDT X.K (mTru m)) :=
  PT.imp (pt_truth h he) fun σ H Q q => by
    obtain ⟨B, γ, H0, s, d, s', rl, e, k⟩ := q
    obtain ⟨⟨x, s1⟩, e1, e2⟩ := ob e
    obtain ⟨z, e5, e6⟩ := om e2
    obtain ⟨rfl, rfl⟩ := Prod.mk.inj e6
    exact ⟨B, γ, H0, s, x, s1, rl, e1, fun v1 H1 a1 r1 => ⟨z, truV_of r1 e5, k H1 a1⟩⟩
def mNotT (m : MT) : MT := fun s => (m s).map fun p => (!p.1, p.2)
theorem dt_not {m : MT} (h : PT X a (tDT X.K m)) : PT X (.UnaryOp .Not a pos) (tDT X.K (mNotT m)) := PT.imp (pt_not h) fun σ H Q q => by
  obtain ⟨B, γ, H0, s, d, s', rl, e, k⟩ := q
  obtain ⟨⟨x, s1⟩, e1, e2⟩ := om e
  obtain ⟨rfl, rfl⟩ := Prod.mk.inj e2
  exact ⟨B, γ, H0, s, x, s1, rl, e1, fun H1 a1 => k H1 a1⟩
def mAndT (m n : MT) : MT := fun s => (m s).bind fun p => if p.1 then n p.2 else some (false, p.2)
def mOrT (m n : MT) : MT := fun s => (m s).bind fun p => if p.1 then some (true, p.2) else n p.2
theorem tand_go {m n : MT} {σ : L2.St} {H : Hp} {Q : Bool → Hp → Prop} {K : PySem.W.Frag} (q : tDT K (mAndT m n) σ H Q) : tAnd (tDT K m) (tDT K n) σ H Q := by
  obtain ⟨B, γ, H0, s, d, s', rl, e, k⟩ := q
  obtain ⟨⟨x, s1⟩, e1, e2⟩ := ob e
  refine ⟨B, γ, H0, s, x, s1, rl, e1, fun H1 a1 => ?_⟩
  cases x with
  | true => exact iteT ⟨B, γ, H0, s1, d, s', a1.rel, e2, fun H2 a2 => k H2 (a1.trans a2)⟩
  | false =>
    obtain ⟨rfl, rfl⟩ := Prod.mk.inj (Option.some.inj e2)
    exact iteF (k H1 a1)
theorem tor_go {m n : MT} {σ : L2.St} {H : Hp} {Q : Bool → Hp → Prop} {K : PySem.W.Frag} (q : tDT K (mOrT m n) σ H Q) : tOr (tDT K m) (tDT K n) σ H Q := by
  obtain ⟨B, γ, H0, s, d, s', rl, e, k⟩ := q
  obtain ⟨⟨x, s1⟩, e1, e2⟩ := ob e
  refine ⟨B, γ, H0, s, x, s1, rl, e1, fun H1 a1 => ?_⟩
  cases x with
  | false => exact iteF ⟨B, γ, H0, s1, d, s', a1.rel, e2, fun H2 a2 => k H2 (a1.trans a2)⟩
  | true =>
    obtain ⟨rfl, rfl⟩ := Prod.mk.inj (Option.some.inj e2)
    exact iteT (k H1 a1)
theorem PW.imp {t t' : TT} (h : PW X e t) (k : ∀ σ H Q, t' σ H Q → t σ H Q) : PW X e t' := ⟨fun whole pins s σ H Q I q => h.run whole pins s σ H Q I (k σ H Q q)⟩
theorem dw_and1 {m : MT} (ha : PT X a (tDT X.K m)) : PW X (.BoolOp .And [a] pos) (tDT X.K m) := pw_and1 ha
theorem dw_or1 {m : MT} (ha : PT X a (tDT X.K m)) : PW X (.BoolOp .Or [a] pos) (tDT X.K m) := pw_or1 ha
theorem dw_and {m n : MT} (ha : PT X a (tDT X.K m)) (hb : PW X (.BoolOp .And (b :: rest) pos) (tDT X.K n)) : PW X (.BoolOp .And (a :: b :: rest) pos) (tDT X.K (mAndT m n)) := PW.imp (pw_and ha hb) fun _ _ _ q => tand_go q
theorem dw_or {m n : MT} (ha : PT X a (tDT X.K m)) (hb : PW X (.BoolOp .Or (b :: rest) pos) (tDT X.K n)) : PW X (.BoolOp .Or (a :: b :: rest) pos) (tDT X.K (mOrT m n)) := PW.imp (pw_or ha hb) fun _ _ _ q => tor_go q
/-- and, or, not as values, by truth -/
def mAndV (m n : MD) : MD := fun s => (m s).bind fun p => (dTru p.1).bind fun b => if b then n p.2 else some p
def mOrV (m n : MD) : MD := fun s => (m s).bind fun p => (dTru p.1).bind fun b => if b then some p else n p.2
def mNotV (m : MD) : MD := fun s => (m s).bind fun p => (dTru p.1).map fun b => (.bool (!b), p.2)
theorem de_one {op} {m : MD} (h : PE X a (tD X.K m)) : PE X (.BoolOp op [a] pos) (tD X.K m) := pe_one h
theorem de_and {m n : MD} (ha : PE X a (tD X.K m)) (hb : PE X (.BoolOp .And (b :: rest) pos) (tD X.K n)) : PE X (.BoolOp .And (a :: b :: rest) pos) (tD X.K (mAndV m n)) := PE.imp (pe_andT ha hb) fun σ H Q q => by
  obtain ⟨B, γ, H0, s, d, s', rl, e, k⟩ := q
  obtain ⟨⟨x, s1⟩, e1, e2⟩ := ob e
  obtain ⟨z, e3, e4⟩ := ob e2
  refine ⟨B, γ, H0, s, x, s1, rl, e1, fun v1 H1 a1 r1 => ⟨z, truV_of r1 e3, ?_⟩⟩
  cases z with
  | true => exact iteT ⟨B, γ, H0, s1, d, s', a1.rel, e4, fun v2 H2 a2 r2 => k v2 H2 (a1.trans a2) r2⟩
  | false =>
    obtain ⟨rfl, rfl⟩ := Prod.mk.inj (Option.some.inj e4)
    exact iteF (k v1 H1 a1 r1)
theorem de_or {m n : MD} (ha : PE X a (tD X.K m)) (hb : PE X (.BoolOp .Or (b :: rest) pos) (tD X.K n)) : PE X (.BoolOp .Or (a :: b :: rest) pos) (tD X.K (mOrV m n)) := PE.imp (pe_orT ha hb) fun σ H Q q => by
  obtain ⟨B, γ, H0, s, d, s', rl, e, k⟩ := q
  obtain ⟨⟨x, s1⟩, e1, e2⟩ := ob e
  obtain ⟨z, e3, e4⟩ := ob e2
  refine ⟨B, γ, H0, s, x, s1, rl, e1, fun v1 H1 a1 r1 => ⟨z, truV_of r1 e3, ?_⟩⟩
  cases z with
  | false => exact iteF ⟨B, γ, H0, s1, d, s', a1.rel, e4, fun v2 H2 a2 r2 => k v2 H2 (a1.trans a2) r2⟩
  | true =>
    obtain ⟨rfl, rfl⟩ := Prod.mk.inj (Option.some.inj e4)
    exact iteT (k v1 H1 a1 r1)
theorem de_not {m : MD} (ha : PE X a (tD X.K m)) : PE X (.UnaryOp .Not a pos) (tD X.K (mNotV m)) := PE.imp (pe_notT ha) fun σ H Q q => by
  obtain ⟨B, γ, H0, s, d, s', rl, e, k⟩ := q
  obtain ⟨⟨x, s1⟩, e1, e2⟩ := ob e
  obtain ⟨z, e3, e4⟩ := om e2
  obtain ⟨rfl, rfl⟩ := Prod.mk.inj e4
  exact ⟨B, γ, H0, s, x, s1, rl, e1, fun v1 H1 a1 r1 => ⟨z, truV_of r1 e3, k _ H1 a1 (.bl _)⟩⟩
def mIf {α : Type} (mt : MT) (ma mb : Stt → Option α) : Stt → Option α := fun s => (mt s).bind fun p => if p.1 then ma p.2 else mb p.2
theorem de_if {mt : MT} {ma mb : MD} (hc : PT X c (tDT X.K mt)) (ha : PE X a (tD X.K ma)) (hb : PE X b (tD X.K mb)) : PE X (.IfExp c a b pos) (tD X.K (mIf mt ma mb)) := PE.imp (pe_ifExp hc ha hb) fun σ H Q q => by
  obtain ⟨B, γ, H0, s, d, s', rl, e, k⟩ := q
  obtain ⟨⟨x, s1⟩, e1, e2⟩ := ob e
  refine ⟨B, γ, H0, s, x, s1, rl, e1, fun H1 a1 => ?_⟩
  cases x with
  | true => exact iteT ⟨B, γ, H0, s1, d, s', a1.rel, e2, fun v2 H2 a2 r2 => k v2 H2 (a1.trans a2) r2⟩
  | false => exact iteF ⟨B, γ, H0, s1, d, s', a1.rel, e2, fun v2 H2 a2 r2 => k v2 H2 (a1.trans a2) r2⟩

/-- a op b op' c as a test -/
theorem dt_chain {op op' : CmpOp} {f f' : Dt → Dt → Option Dt} {ma mb mc : MD} (ho : OpD X (compareOp op) f) (ho' : OpD X (compareOp op') f') (ha : PE X a (tD X.K ma)) (hb : PE X b (tD X.K mb)) (hc : PE X c (tD X.K mc)) (hm : lastMarks [op, op'] [b, c] = false := by with_unfolding_all rfl)
    (he : ∀ whole, isTrue (.Compare a [op, op'] [b, c] pos) X.env whole = (do let v ← whole; standAt (Expr.Compare a [op, op'] [b, c] pos).pos; holding [v] (truthy v)) := by intro _; rfl) : PT X (.Compare a [op, op'] [b, c] pos) (tDT X.K (mTru (mChain f f' ma mb mc))) := dt_val (de_chain ho ho' ha hb hc hm) he

/-! ### items -/
theorem RpL.atI {K : PySem.W.Frag} {B : Bad} {H : Hp} {vs : List V} {ds : List Dt} {i : Int} {d : Dt} (r : RpL K H B vs ds) (h : L2.atI ds i = some d) : ∃ v, L2.atI vs i = some v ∧ Rp K H B v d := by
  unfold L2.atI at h ⊢
  rw [r.len]
  obtain ⟨j, e1, e2⟩ := ob h
  obtain ⟨v, e3, e4⟩ := r.get e2
  exact ⟨v, by rw [e1]; exact e3, e4⟩
def dIx : Dt → Dt → Option Dt
  | .list xs, .int i => atI xs i
  | .tuple xs, .int i => atI xs i
  | .str z, .int i => if z.length ≤ sizeLine then (atI z.cps.toList i).map fun c => .str ⟨#[c]⟩ else none
  | _, _ => none
theorem ix_go {K : PySem.W.Frag} {H : Hp} {B : Bad} {x y : V} {dx dy d : Dt} {Q : VK} (rx : Rp K H B x dx) (ry : Rp K H B y dy) (h : dIx dx dy = some d) (k : ∀ v, Rp K H B v d → Q v H) : rIx K x y H Q := by
  cases ry with
  | int i =>
    cases rx with
    | lst h1 _ h3 =>
      obtain ⟨v, e1, e2⟩ := h3.atI (show atI _ i = some d from h)
      exact .inl ⟨_, _, i, v, rfl, rfl, .inl h1, e1, k v e2⟩
    | tup h1 h3 =>
      obtain ⟨v, e1, e2⟩ := h3.atI (show atI _ i = some d from h)
      exact .inr (.inl ⟨_, _, i, v, rfl, rfl, h1.sq, e1, k v e2⟩)
    | str z =>
      have h' : (if z.length ≤ sizeLine then (atI z.cps.toList i).map fun c => PyData.str ⟨#[c]⟩ else none) = some d := h
      split at h'
      · rename_i hz
        obtain ⟨cc, e1, e2⟩ := om h'
        subst e2
        exact .inr (.inr ⟨z, i, cc, rfl, rfl, hz, e1, k _ (.str _)⟩)
      · cases h'
    | _ => cases h
  | _ => cases rx <;> cases h
theorem de_ix {ma mb : MD} (ha : PE X a (tD X.K ma)) (hb : PE X b (tD X.K mb)) (hs : PlainIx b := by intro _ _; rfl) : PE X (.Subscript a b pos) (tD X.K (mBin dIx ma mb)) :=
  PE.imp (pe_ix ix_seq ha hb hs) fun σ H Q q => bin_go (g := binaryOp .Add) (fun B H x y dx dy d Q rx ry _ e k => ix_go rx ry e fun v r => k v H (Same.refl H) r) q
/-- x[e], x a name: a list of the slot's own, or the urn, is read where it stands -/
def slotD (s s1 : Stt) (i : Nat) : Option Dt := match s.sl[i]? with
  | some (some (.val d)) => some d
  | some (some (.own _)) => (match s1.sl[i]? with
    | some (some (.own ds)) => some (.list ds)
    | _ => none)
  | some (some .urn) => s1.ur.map fun ns => .list (ns.map .int)
  | _ => none
def mIxN (i : Nat) (mb : MD) : MD := fun s => (mb s).bind fun q => (slotD s q.2 i).bind fun d => (dIx d q.1).map fun z => (z, q.2)
/-- what a slot holds may be read: as if it were plain data -/
theorem slot_read {K : PySem.W.Frag} {B : Bad} {γ : Option Addr} {H0 H H1 : Hp} {σ : L2.St} {s s1 : Stt} {i : Nat} {d : Dt} (r : Rel K B γ H0 σ H s) (a : Aft K B γ H0 σ H s σ H1 s1) (h : slotD s s1 i = some d) :
    ∃ v, σ[i]? = some (some v) ∧ (Rp K H1 (Bh B σ s1.sl) v d ∨ ∃ p vs ds, v = .ref p ∧ d = .list ds ∧ H1 p = some (.lst vs) ∧ RpL K H1 (Bh B σ s1.sl) vs ds) := by
  unfold slotD at h
  split at h
  · rename_i d' he
    cases h
    obtain ⟨v, h1, h2⟩ := r.val i d he
    exact ⟨v, h1, .inl (a.mv.frm _ _ h2)⟩
  · rename_i ds' he
    split at h
    · rename_i ds he1
      cases h
      obtain ⟨p, vs, h1, h2, h3, _⟩ := a.rel.own i ds he1
      exact ⟨_, h1, .inr ⟨p, vs, ds, rfl, rfl, h2, h3⟩⟩
    · cases h
  · rename_i he
    obtain ⟨ds, e1, e2⟩ := om h
    obtain ⟨p, h1, h2⟩ := r.urn i he
    obtain ⟨ds', h3, h4⟩ := a.rel.ur p h1
    rw [e1] at h3; cases h3
    subst e2
    exact ⟨_, h2, .inr ⟨p, _, _, rfl, rfl, h4, RpL.of_ints ds⟩⟩
  · cases h
theorem slot_any {s s1 : Stt} {i : Nat} {d : Dt} {K : PySem.W.Frag} {B : Bad} {γ : Option Addr} {H0 H : Hp} {σ : L2.St} (r : Rel K B γ H0 σ H s) (h : slotD s s1 i = some d) : ∃ v, σ[i]? = some (some v) := by
  unfold slotD at h
  split at h
  · rename_i d' he
    obtain ⟨v, h1, h2⟩ := r.val i d' he
    exact ⟨v, h1⟩
  · rename_i ds' he
    obtain ⟨p, vs, h1, _⟩ := r.own i _ he
    exact ⟨_, h1⟩
  · rename_i he
    obtain ⟨p, h1, h2⟩ := r.urn i he
    exact ⟨_, h2⟩
  · cases h
theorem de_ixN' {i : Nat} {mb : MD} (ha : PE X a (tVar i)) (hb : PE X b (tD X.K mb)) (hs : PlainIx b := by intro _ _; rfl) : PE X (.Subscript a b pos) (tD X.K (mIxN i mb)) :=
  PE.imp (pe_ix ix_seq ha hb hs) fun σ H Q q => by
    obtain ⟨B, γ, H0, s, d, s', rl, e, k⟩ := q
    obtain ⟨⟨y, s1⟩, e1, e2⟩ := ob e
    obtain ⟨dx, e3, e4⟩ := ob e2
    obtain ⟨z, e5, e6⟩ := om e4
    obtain ⟨rfl, rfl⟩ := Prod.mk.inj e6
    obtain ⟨v, hv⟩ := slot_any rl e3
    refine ⟨v, hv, B, γ, H0, s, y, s1, rl, e1, fun v2 H2 a2 r2 => ?_⟩
    obtain ⟨v', hv', hr⟩ := slot_read rl a2 e3
    rw [hv] at hv'; cases hv'
    rcases hr with hr | ⟨p, vs, ds, rfl, rfl, h2, h3⟩
    · exact ix_go hr r2 e5 fun v r => k v H2 a2 r
    · cases r2 with
      | int j =>
        obtain ⟨w, w1, w2⟩ := h3.atI (show atI _ j = some z from e5)
        exact .inl ⟨_, _, j, w, rfl, rfl, .inl (.inl h2), w1, k w H2 a2 w2⟩
      | _ => cases e5
end
end DL

set_option Elab.async false
set_option linter.all false
set_option maxRecDepth 100000
set_option maxHeartbeats 2000000
namespace DL
open PySem PySem.Spec PyProof.Rows L2

/-! ### defs and their calls -/
/-- what a def hands back: data, or a list that it has just made -/
inductive RV where
  | val (d : Dt) | new (ds : List Dt)
def RV.dt : RV → Dt
  | .val d => d
  | .new ds => .list ds
inductive AV where
  | val (d : Dt) | urn
abbrev Ur := Option (List Int)
abbrev FM := List AV → Ur → Option (RV × Ur)
def RvOk (K : PySem.W.Frag) (H H' : Hp) (C : Bad) (v : V) : RV → Prop
  | .val d => Rp K H' C v d
  | .new ds => ∃ p vs, v = .ref p ∧ H p = none ∧ H' p = some (.lst vs) ∧ RpL K H' (Bp C p) vs ds
inductive RpA (K : PySem.W.Frag) (H : Hp) (C : Bad) (γ : Option Addr) : V → AV → Prop
  | val {v : V} {d : Dt} : Rp K H C v d → RpA K H C γ v (.val d)
  | urn {p : Addr} : γ = some p → RpA K H C γ (.ref p) .urn
inductive RpAs (K : PySem.W.Frag) (H : Hp) (C : Bad) (γ : Option Addr) : List V → List AV → Prop
  | nil : RpAs K H C γ [] []
  | cons {v : V} {a : AV} {vs : List V} {as : List AV} : RpA K H C γ v a → RpAs K H C γ vs as → RpAs K H C γ (v :: vs) (a :: as)
structure Ret (K : PySem.W.Frag) (H : Hp) (C : Bad) (γ : Option Addr) (H' : Hp) (v : V) (r : RV) (u' : Ur) : Prop where
  keep : ∀ b o, H b = some o → γ ≠ some b → H' b = some o
  ur : UrOk H' γ u'
  rv : RvOk K H H' C v r
def spD (K : PySem.W.Frag) (F : FM) : Sp := fun vs H Q _ => ∃ C γ as u r u', RpAs K H C γ vs as ∧ UrOk H γ u ∧ (∀ p, γ = some p → C p) ∧ (∀ a, C a → H a ≠ none) ∧ F as u = some (r, u') ∧ ∀ v H', Ret K H C γ H' v r u' → Q v H'

section
variable {K : PySem.W.Frag} {B B' C : Bad} {γ : Option Addr} {H0 H H' : Hp} {σ : L2.St} {s : Stt}
theorem RvOk.rp {v : V} {r : RV} (h : RvOk K H H' C v r) (bd : ∀ a, C a → H a ≠ none) : Rp K H' C v r.dt := by
  cases r with
  | val d => exact h
  | new ds =>
    obtain ⟨p, vs, rfl, h1, h2, h3⟩ := h
    exact .lst (.inl h2) (fun z => bd p z h1) (h3.sub fun a z => .inl z)
theorem RpL.by_frm {C C' : Bad} (frm : ∀ v d, Rp K H C v d → Rp K H' C' v d) : ∀ {vs : List V} {ds : List Dt}, RpL K H C vs ds → RpL K H' C' vs ds
  | _, _, .nil => .nil
  | _, _, .cons h r => .cons (frm _ _ h) (RpL.by_frm frm r)
theorem Rel.to {u' : Ur} (r : Rel K B γ H0 σ H s) (frm : ∀ v d, Rp K H (Bh B σ s.sl) v d → Rp K H' (Bh B' σ s.sl) v d) (ownk : ∀ b, Ow σ s.sl b → (∀ o, H b = some o → H' b = some o) ∧ ¬ B' b)
    (ur : UrOk H' γ u') (gB : ∀ p, γ = some p → B' p) (bd : ∀ a, B' a → H' a ≠ none) (ent : ∀ b o, H0 b = some o → γ ≠ some b → H' b = some o) : Rel K B' γ H0 σ H' { s with ur := u' } where
  len := r.len
  val := fun i d e => let ⟨v, h1, h2⟩ := r.val i d e; ⟨v, h1, frm _ _ h2⟩
  own := fun i ds e => by
    obtain ⟨p, vs, h1, h2, h3, h4, h5⟩ := r.own i ds e
    have q := ownk p ⟨i, ds, e, h1⟩
    exact ⟨p, vs, h1, q.1 _ h2, RpL.by_frm frm h3, q.2, h5⟩
  inj := r.inj
  urn := r.urn
  ur := ur
  gB := gB
  bd := bd
  ent := ent
theorem RpAs.of_vals : ∀ {vs : List V} {ds : List Dt}, RpL K H C vs ds → RpAs K H C γ vs (ds.map .val)
  | _, _, .nil => .nil
  | _, _, .cons h r => .cons (.val h) (RpAs.of_vals r)
theorem RpAs.len : ∀ {vs : List V} {as : List AV}, RpAs K H C γ vs as → vs.length = as.length
  | _, _, .nil => rfl
  | _, _, .cons _ r => by rw [List.length_cons, List.length_cons, r.len]
theorem RpAs.by_frm {C C' : Bad} (frm : ∀ v d, Rp K H C v d → Rp K H' C' v d) : ∀ {vs : List V} {as : List AV}, RpAs K H C γ vs as → RpAs K H' C' γ vs as
  | _, _, .nil => .nil
  | _, _, .cons (.val h) r => .cons (.val (frm _ _ h)) (RpAs.by_frm frm r)
  | _, _, .cons (.urn h) r => .cons (.urn h) (RpAs.by_frm frm r)
/-- all but the list at γ stays: data stay -/
theorem keep_frm (g : ∀ p, γ = some p → C p) (hu : ∀ p, γ = some p → ∃ vs, H p = some (.lst vs)) (keep : ∀ b o, H b = some o → γ ≠ some b → H' b = some o) : ∀ v d, Rp K H C v d → Rp K H' C v d := fun v d h =>
  h.mono (fun b o e q => keep b o e fun z => by
    rcases q with q | q
    · exact q (g b z)
    · obtain ⟨vs, hv⟩ := hu b z
      rw [hv] at e; cases e
      exact q vs rfl) fun _ z => z
theorem UrOk.isl {u : Ur} (h : UrOk H γ u) : ∀ p, γ = some p → ∃ vs, H p = some (.lst vs) := fun p e => let ⟨_, _, h2⟩ := h p e; ⟨_, h2⟩
/-- behind a call that was handed the urn -/
theorem Rel.called {u' : Ur} (r : Rel K B γ H0 σ H s) (keep : ∀ b o, H b = some o → γ ≠ some b → H' b = some o) (ur : UrOk H' γ u') : Aft K B γ H0 σ H s σ H' { s with ur := u' } := by
  have gb : ∀ p, γ = some p → Bh B σ s.sl p := fun p e => .inl (r.gB p e)
  have frm := keep_frm (K := K) gb r.ur.isl keep
  have dom : ∀ b, H b ≠ none → H' b ≠ none := fun b hb => by
    cases q : H b with
    | none => exact absurd q hb
    | some o =>
      by_cases g : γ = some b
      · obtain ⟨_, _, h2⟩ := ur b g
        rw [h2]; intro z; cases z
      · rw [keep b o q g]; intro z; cases z
  refine ⟨r.to frm (fun b hb => ?_) ur r.gB (fun a ha => dom a (r.bd a ha)) (fun b o e g => keep b o (r.ent b o e g) g), ⟨frm, fun b o _ g e => keep b o e g, dom⟩⟩
  obtain ⟨i, ds, h1, h2⟩ := hb
  obtain ⟨p, vs, e1, e2, e3, e4, e5⟩ := r.own i ds h1
  rw [h2] at e1; cases e1
  exact ⟨fun o e => keep b o e fun g => e4 (r.gB b g), e4⟩
end

section
variable {X : Cx} {e a b c : Expr} {es : List Expr} {pos : Pos}
def tDC (K : PySem.W.Frag) (m : Stt → Option (List AV × Stt)) : TA := fun σ H Q => ∃ B γ H0 s as s', Rel K B γ H0 σ H s ∧ m s = some (as, s') ∧ ∀ vs H', Aft K B γ H0 σ H s σ H' s' → RpAs K H' (Bh B σ s'.sl) γ vs as → Q vs H'
def cNil : Stt → Option (List AV × Stt) := fun s => some ([], s)
def cCons (ma : MD) (mr : Stt → Option (List AV × Stt)) : Stt → Option (List AV × Stt) := fun s => (ma s).bind fun p => (mr p.2).map fun q => (.val p.1 :: q.1, q.2)
def cUrn (i : Nat) (mr : Stt → Option (List AV × Stt)) : Stt → Option (List AV × Stt) := fun s => match s.sl[i]? with
  | some (some .urn) => (mr s).map fun q => (.urn :: q.1, q.2)
  | _ => none
theorem dc_nil : PA X [] (tDC X.K cNil) := PA.imp pa_nil fun σ H Q q => by
  obtain ⟨B, γ, H0, s, d, s', rl, e, k⟩ := q
  cases e
  exact k [] H (Aft.refl rl) .nil
theorem dc_cons {ma : MD} {mr} (ha : PE X e (tD X.K ma)) (hr : PA X es (tDC X.K mr)) (hs : starEach (e :: es) X.env = (false, eval e X.env) :: starEach es X.env := by rfl) : PA X (e :: es) (tDC X.K (cCons ma mr)) :=
  PA.imp (pa_cons ha hr hs) fun σ H Q q => by
    obtain ⟨B, γ, H0, s, d, s', rl, e, k⟩ := q
    obtain ⟨⟨x, s1⟩, e1, e2⟩ := ob e
    obtain ⟨⟨y, s2⟩, e3, e4⟩ := om e2
    obtain ⟨rfl, rfl⟩ := Prod.mk.inj e4
    exact ⟨B, γ, H0, s, x, s1, rl, e1, fun v1 H1 a1 r1 => ⟨B, γ, H0, s1, y, s2, a1.rel, e3, fun v2 H2 a2 r2 => k _ _ (a1.trans a2) (.cons (.val (a2.mv.frm _ _ r1)) r2)⟩⟩
theorem dc_urn {i : Nat} {mr} (ha : PE X e (tVar i)) (hr : PA X es (tDC X.K mr)) (hs : starEach (e :: es) X.env = (false, eval e X.env) :: starEach es X.env := by rfl) : PA X (e :: es) (tDC X.K (cUrn i mr)) :=
  PA.imp (pa_cons ha hr hs) fun σ H Q q => by
    obtain ⟨B, γ, H0, s, d, s', rl, e, k⟩ := q
    unfold cUrn at e
    split at e
    · rename_i hs
      obtain ⟨⟨y, s2⟩, e3, e4⟩ := om e
      obtain ⟨rfl, rfl⟩ := Prod.mk.inj e4
      obtain ⟨p, h1, h2⟩ := rl.urn i hs
      exact ⟨_, h2, B, γ, H0, s, y, s2, rl, e3, fun v2 H2 a2 r2 => k _ _ a2 (.cons (.urn h1) r2)⟩
    · cases e

/-- a def of the text, known by what it is worth -/
structure FnD (P : Program) (w : World) (K : PySem.W.Frag) (mg : Str → Option Value) (base : Heap) (x : Str) (k : Nat) (F : FM) : Prop where
  ex : ∃ f fd ps, FnOk P w K mg base CX0 k f fd ps (spD K F) ∧ mg x = some (.ref f) ∧ PySem.W.keepIn K (.ref f) = true ∧ Binds K fd ps []
variable {x : Str} {p : Pos} {k : Nat} {F : FM}
theorem call_pure {σ : L2.St} {H : Hp} {B γ H0 s as s1 r u} {vs : List V} {H1 : Hp} {Q : VK} {E : XK} (a1 : Aft X.K B γ H0 σ H s σ H1 s1) (r1 : RpL X.K H1 (Bh B σ s1.sl) vs as) (hF : F (as.map .val) none = some (r, u))
    (k : ∀ v H', Same H1 H' → RvOk X.K H1 H' (Bh B σ s1.sl) v r → Q v H') : spD X.K F (vs ++ []) H1 Q E := by
  rw [List.append_nil]
  exact ⟨Bh B σ s1.sl, none, as.map .val, none, r, u, RpAs.of_vals r1, (fun p e => nomatch e), (fun p e => nomatch e), a1.rel.bdh, hF, fun v H' rt => k v H' (fun b o e => rt.keep b o e (fun z => nomatch z)) rt.rv⟩
theorem call_urn {σ : L2.St} {H : Hp} {B γ H0 s as s1 r u} {vs : List V} {H1 : Hp} {Q : VK} {E : XK} (a1 : Aft X.K B γ H0 σ H s σ H1 s1) (r1 : RpAs X.K H1 (Bh B σ s1.sl) γ vs as) (hF : F as s1.ur = some (r, u))
    (k : ∀ v H', Aft X.K B γ H0 σ H1 s1 σ H' { s1 with ur := u } → (∀ b o, H1 b = some o → γ ≠ some b → H' b = some o) → RvOk X.K H1 H' (Bh B σ s1.sl) v r → Q v H') : spD X.K F (vs ++ []) H1 Q E := by
  rw [List.append_nil]
  exact ⟨Bh B σ s1.sl, γ, as, s1.ur, r, u, r1, a1.rel.ur, fun p e => .inl (a1.rel.gB p e), a1.rel.bdh, hF, fun v H' rt => k v H' (a1.rel.called rt.keep rt.ur) rt.keep rt.rv⟩
/-- the new list of a call's answer -/
theorem new_go {σ : L2.St} {H H1 H' : Hp} {B γ H0 s s1 s2 ds v} {Q : VK} (a1 : Aft X.K B γ H0 σ H s σ H1 s1) (a2 : Aft X.K B γ H0 σ H1 s1 σ H' s2) (e2 : s2.sl = s1.sl) (hrv : RvOk X.K H1 H' (Bh B σ s1.sl) v (.new ds))
    (keep : ∀ b o, H1 b = some o → γ ≠ some b → H' b = some o)
    (kk : ∀ p vs H', Rel X.K (Bp B p) γ H0 σ H' s2 → Mv X.K B γ H (Bh B σ s.sl) H' (Bh (Bp B p) σ s2.sl) → H p = none → H' p = some (.lst vs) → RpL X.K H' (Bh (Bp B p) σ s2.sl) vs ds → Q (.ref p) H') : Q v H' := by
  obtain ⟨p, vs, rfl, hp, h2, h3⟩ := hrv
  have frm : ∀ v d, Rp X.K H1 (Bh B σ s1.sl) v d → Rp X.K H' (Bh (Bp B p) σ s1.sl) v d := fun v d h => by
    have h' := h.avoid hp
    refine (keep_frm (K := X.K) (C := Bp (Bh B σ s1.sl) p) (fun q e => .inl (.inl (a1.rel.gB q e))) a1.rel.ur.isl keep v d h').sub fun _ => bh_bp
  have hr2 : Rel X.K (Bp B p) γ H0 σ H' { s1 with ur := s2.ur } := by
    refine a1.rel.to frm (fun b hb => ?_) a2.rel.ur (fun q e => .inl (a1.rel.gB q e)) (fun a ha => ?_) (fun b o e g => keep b o (a1.rel.ent b o e g) g)
    · obtain ⟨i, es, h5, h6⟩ := hb
      obtain ⟨q, ws, e3, e4, e5, e6, e7⟩ := a1.rel.own i es h5
      rw [h6] at e3; cases e3
      exact ⟨fun o e => keep b o e fun g => e6 (a1.rel.gB b g), fun z => z.elim e6 fun z => ne_of_none e4 hp z⟩
    · rcases ha with ha | ha
      · exact a2.rel.bd a ha
      · rw [ha, h2]; intro z; cases z
  have es : ({ s1 with ur := s2.ur } : Stt) = s2 := by
    cases s2
    cases s1
    simp only at e2
    rw [e2]
  rw [es] at hr2
  refine kk p vs H' hr2 ?_ (a1.mv.back hp) h2 ?_
  · rw [e2]
    exact ⟨fun v d h => frm v d (a1.mv.frm v d h), fun b o hb hg e => keep b o (a1.mv.pv b o hb hg e) hg, fun b hb => a2.mv.dom b (a1.mv.dom b hb)⟩
  · rw [e2]
    exact h3.sub fun _ => bh_bp

def mCall (F : FM) (m : MA) : MD := fun s => (m s).bind fun q => (F (q.1.map .val) none).map fun r => (r.1.dt, q.2)
theorem de_call {m : MA} (G : FnD X.prog X.w X.K X.mg X.base x k F) (hr : Room k X.A) (ha : PA X (e :: es) (tDA X.K m)) (hg : Gl X x := by rfl) (hdb : (x == ("__debug__" : Str)) = false := by decide)
    (he : starEach (e :: es) X.env = (false, eval e X.env) :: starEach es X.env := by rfl) (hpl : (backTo pos (starEach es X.env)).any (·.1) = false := by rfl) : PE X (.Call (.Name x p) (e :: es) [] pos) (tD X.K (mCall F m)) := by
  obtain ⟨f, fd, ps, hF, hm, hk, hb⟩ := G.ex
  refine PE.imp (pe_call hF hr hg hm hk hb .nil pass0 ha hdb he hpl) fun σ H Q q => ?_
  obtain ⟨B, γ, H0, s, d, s', rl, e, kk⟩ := q
  obtain ⟨⟨as, s1⟩, e1, e2⟩ := ob e
  obtain ⟨⟨r, u⟩, e3, e4⟩ := om e2
  obtain ⟨rfl, rfl⟩ := Prod.mk.inj e4
  refine ⟨B, γ, H0, s, as, s1, rl, e1, fun vs H1 a1 r1 => ?_⟩
  exact call_pure a1 r1 e3 (fun v H' sm rv => kk v H' (a1.same sm) (rv.rp a1.rel.bdh))
def mCallL (F : FM) (m : MA) : MA := fun s => (m s).bind fun q => (F (q.1.map .val) none).bind fun r => match r.1 with
  | .new ds => some (ds, q.2)
  | .val _ => none
theorem dl_call {m : MA} (G : FnD X.prog X.w X.K X.mg X.base x k F) (hr : Room k X.A) (ha : PA X (e :: es) (tDA X.K m)) (hg : Gl X x := by rfl) (hdb : (x == ("__debug__" : Str)) = false := by decide)
    (he : starEach (e :: es) X.env = (false, eval e X.env) :: starEach es X.env := by rfl) (hpl : (backTo pos (starEach es X.env)).any (·.1) = false := by rfl) : PE X (.Call (.Name x p) (e :: es) [] pos) (tDL X.K (mCallL F m)) := by
  obtain ⟨f, fd, ps, hF, hm, hk, hb⟩ := G.ex
  refine PE.imp (pe_call hF hr hg hm hk hb .nil pass0 ha hdb he hpl) fun σ H Q q => ?_
  obtain ⟨B, γ, H0, s, d, s', rl, e, kk⟩ := q
  obtain ⟨⟨as, s1⟩, e1, e2⟩ := ob e
  obtain ⟨⟨r, u⟩, e3, e4⟩ := ob e2
  cases r with
  | val _ => cases e4
  | new ds =>
    obtain ⟨rfl, rfl⟩ := Prod.mk.inj (Option.some.inj e4)
    refine ⟨B, γ, H0, s, as, s1, rl, e1, fun vs H1 a1 r1 => ?_⟩
    exact call_pure a1 r1 e3 (fun v H' sm rv => new_go a1 ((Aft.refl a1.rel).same sm) rfl rv (fun b o e _ => sm b o e) kk)
def mCallU (F : FM) (m : Stt → Option (List AV × Stt)) : MD := fun s => (m s).bind fun q => (F q.1 q.2.ur).map fun r => (r.1.dt, { q.2 with ur := r.2 })
theorem de_callU {m} (G : FnD X.prog X.w X.K X.mg X.base x k F) (hr : Room k X.A) (ha : PA X (e :: es) (tDC X.K m)) (hg : Gl X x := by rfl) (hdb : (x == ("__debug__" : Str)) = false := by decide)
    (he : starEach (e :: es) X.env = (false, eval e X.env) :: starEach es X.env := by rfl) (hpl : (backTo pos (starEach es X.env)).any (·.1) = false := by rfl) : PE X (.Call (.Name x p) (e :: es) [] pos) (tD X.K (mCallU F m)) := by
  obtain ⟨f, fd, ps, hF, hm, hk, hb⟩ := G.ex
  refine PE.imp (pe_call hF hr hg hm hk hb .nil pass0 ha hdb he hpl) fun σ H Q q => ?_
  obtain ⟨B, γ, H0, s, d, s', rl, e, kk⟩ := q
  obtain ⟨⟨as, s1⟩, e1, e2⟩ := ob e
  obtain ⟨⟨r, u⟩, e3, e4⟩ := om e2
  obtain ⟨rfl, rfl⟩ := Prod.mk.inj e4
  refine ⟨B, γ, H0, s, as, s1, rl, e1, fun vs H1 a1 r1 => ?_⟩
  exact call_urn a1 r1 e3 (fun v H' a2 _ rv => kk v H' (a1.trans a2) (rv.rp a1.rel.bdh))
def mCallUL (F : FM) (m : Stt → Option (List AV × Stt)) : MA := fun s => (m s).bind fun q => (F q.1 q.2.ur).bind fun r => match r.1 with
  | .new ds => some (ds, { q.2 with ur := r.2 })
  | .val _ => none
theorem dl_callU {m} (G : FnD X.prog X.w X.K X.mg X.base x k F) (hr : Room k X.A) (ha : PA X (e :: es) (tDC X.K m)) (hg : Gl X x := by rfl) (hdb : (x == ("__debug__" : Str)) = false := by decide)
    (he : starEach (e :: es) X.env = (false, eval e X.env) :: starEach es X.env := by rfl) (hpl : (backTo pos (starEach es X.env)).any (·.1) = false := by rfl) : PE X (.Call (.Name x p) (e :: es) [] pos) (tDL X.K (mCallUL F m)) := by
  obtain ⟨f, fd, ps, hF, hm, hk, hb⟩ := G.ex
  refine PE.imp (pe_call hF hr hg hm hk hb .nil pass0 ha hdb he hpl) fun σ H Q q => ?_
  obtain ⟨B, γ, H0, s, d, s', rl, e, kk⟩ := q
  obtain ⟨⟨as, s1⟩, e1, e2⟩ := ob e
  obtain ⟨⟨r, u⟩, e3, e4⟩ := ob e2
  cases r with
  | val _ => cases e4
  | new ds =>
    obtain ⟨rfl, rfl⟩ := Prod.mk.inj (Option.some.inj e4)
    refine ⟨B, γ, H0, s, as, s1, rl, e1, fun vs H1 a1 r1 => ?_⟩
    exact call_urn a1 r1 e3 (fun v H' a2 keep rv => new_go a1 a2 rfl rv keep kk)
end
end DL

set_option Elab.async false
set_option linter.all false
set_option maxRecDepth 100000
set_option maxHeartbeats 2000000
namespace DL
open PySem PySem.Spec PyProof.Rows L2

/-! ### slots are set -/
def put (s : Stt) (i : Nat) (x : SV) : Stt := { s with sl := s.sl.set i (some x) }
section
variable {K : PySem.W.Frag} {B : Bad} {γ : Option Addr} {H0 H H' : Hp} {σ : L2.St} {s s' : Stt}
theorem set_other {α : Type} {l : List α} {i j : Nat} {x : α} (h : j ≠ i) : (l.set i x)[j]? = l[j]? := List.getElem?_set_ne (fun e => h e.symm)
theorem setV_sub {i : Nat} {d : Dt} {v : V} {a : Addr} (hl : s.sl.length = σ.length) (h : Bh B (σ.set i (some v)) (put s i (.val d)).sl a) : Bh B σ s.sl a := by
  rcases h with h | ⟨j, es, h1, h2⟩
  · exact .inl h
  · have h1' : (s.sl.set i (some (SV.val d)))[j]? = some (some (.own es)) := h1
    by_cases e : j = i
    · subst e
      by_cases hj : j < s.sl.length
      · rw [List.getElem?_set_self hj] at h1'; cases h1'
      · rw [List.getElem?_eq_none (by rw [List.length_set]; omega)] at h1'; cases h1'
    · rw [set_other e] at h1' h2
      exact .inr ⟨j, es, h1', h2⟩
theorem Rel.setV (r : Rel K B γ H0 σ H s) {i : Nat} {d : Dt} {v : V} (h : Rp K H (Bh B σ s.sl) v d) : Aft K B γ H0 σ H s (σ.set i (some v)) H (put s i (.val d)) := by
  have sb : ∀ a, Bh B (σ.set i (some v)) (put s i (.val d)).sl a → Bh B σ s.sl a := fun a => setV_sub r.len
  have cases' : ∀ (j : Nat) (x : SV), (put s i (.val d)).sl[j]? = some (some x) → (j = i ∧ j < σ.length ∧ x = .val d) ∨ (j ≠ i ∧ s.sl[j]? = some (some x) ∧ (σ.set i (some v))[j]? = σ[j]?) := fun j x e => by
    have e' : (s.sl.set i (some (SV.val d)))[j]? = some (some x) := e
    by_cases ej : j = i
    · subst ej
      by_cases hj : j < s.sl.length
      · rw [List.getElem?_set_self hj] at e'
        cases e'
        exact .inl ⟨rfl, r.len ▸ hj, rfl⟩
      · rw [List.getElem?_eq_none (by rw [List.length_set]; omega)] at e'; cases e'
    · rw [set_other ej] at e'
      exact .inr ⟨ej, e', set_other ej⟩
  refine ⟨?_, Mv.of_same (Same.refl H) sb⟩
  exact {
    len := by show (s.sl.set i _).length = _; rw [List.length_set, List.length_set]; exact r.len
    val := fun j d' e => by
      rcases cases' j _ e with ⟨rfl, hj, hx⟩ | ⟨_, e1, e2⟩
      · cases hx
        exact ⟨v, List.getElem?_set_self hj, h.sub sb⟩
      · obtain ⟨w, q1, q2⟩ := r.val j d' e1
        exact ⟨w, e2.trans q1, q2.sub sb⟩
    own := fun j es e => by
      rcases cases' j _ e with ⟨_, _, hx⟩ | ⟨_, e1, e2⟩
      · cases hx
      · obtain ⟨q, ws, q1, q2, q3, q4⟩ := r.own j es e1
        exact ⟨q, ws, e2.trans q1, q2, q3.sub sb, q4⟩
    inj := fun j k es fs q e1 e2 e3 e4 => by
      rcases cases' j _ e1 with ⟨_, _, hx⟩ | ⟨_, f1, f2⟩
      · cases hx
      · rcases cases' k _ e2 with ⟨_, _, hx⟩ | ⟨_, g1, g2⟩
        · cases hx
        · exact r.inj j k es fs q f1 g1 (f2.symm.trans e3) (g2.symm.trans e4)
    urn := fun j e => by
      rcases cases' j _ e with ⟨_, _, hx⟩ | ⟨_, e1, e2⟩
      · cases hx
      · obtain ⟨p, q1, q2⟩ := r.urn j e1
        exact ⟨p, q1, e2.trans q2⟩
    ur := r.ur
    gB := r.gB
    bd := r.bd
    ent := r.ent }
/-- a new list becomes a slot's own -/
theorem Rel.setO (r : Rel K (Bp B p) γ H0 σ H s) {i : Nat} {ds : List Dt} {vs : List V} (hB : ¬ B p) (hg : ∀ q, γ = some q → B q) (h0 : H0 p = none) (hp : H p = some (.lst vs)) (h : RpL K H (Bh (Bp B p) σ s.sl) vs ds) :
    Rel K B γ H0 (σ.set i (some (.ref p))) H (put s i (.own ds)) ∧ ∀ a, Bh B (σ.set i (some (.ref p))) (put s i (.own ds)).sl a → Bh (Bp B p) σ s.sl a := by
  have cases' : ∀ (j : Nat) (x : SV), (put s i (.own ds)).sl[j]? = some (some x) → (j = i ∧ j < σ.length ∧ x = .own ds) ∨ (j ≠ i ∧ s.sl[j]? = some (some x) ∧ (σ.set i (some (V.ref p)))[j]? = σ[j]?) := fun j x e => by
    have e' : (s.sl.set i (some (SV.own ds)))[j]? = some (some x) := e
    by_cases ej : j = i
    · subst ej
      by_cases hj : j < s.sl.length
      · rw [List.getElem?_set_self hj] at e'
        cases e'
        exact .inl ⟨rfl, r.len ▸ hj, rfl⟩
      · rw [List.getElem?_eq_none (by rw [List.length_set]; omega)] at e'; cases e'
    · rw [set_other ej] at e'
      exact .inr ⟨ej, e', set_other ej⟩
  have sb : ∀ a, Bh B (σ.set i (some (.ref p))) (put s i (.own ds)).sl a → Bh (Bp B p) σ s.sl a := fun a ha => by
    rcases ha with ha | ⟨j, es, h1, h2⟩
    · exact .inl (.inl ha)
    · rcases cases' j _ h1 with ⟨rfl, hj, hx⟩ | ⟨_, e1, e2⟩
      · rw [List.getElem?_set_self hj] at h2
        cases h2
        exact .inl (.inr rfl)
      · rw [e2] at h2
        exact .inr ⟨j, es, e1, h2⟩
  refine ⟨?_, sb⟩
  exact {
    len := by show (s.sl.set i _).length = _; rw [List.length_set, List.length_set]; exact r.len
    val := fun j d' e => by
      rcases cases' j _ e with ⟨_, _, hx⟩ | ⟨_, e1, e2⟩
      · cases hx
      · obtain ⟨w, q1, q2⟩ := r.val j d' e1
        exact ⟨w, e2.trans q1, q2.sub sb⟩
    own := fun j es e => by
      rcases cases' j _ e with ⟨rfl, hj, hx⟩ | ⟨_, e1, e2⟩
      · cases hx
        exact ⟨p, vs, List.getElem?_set_self hj, hp, h.sub sb, hB, h0⟩
      · obtain ⟨q, ws, q1, q2, q3, q4, q5⟩ := r.own j es e1
        exact ⟨q, ws, e2.trans q1, q2, q3.sub sb, fun z => q4 (.inl z), q5⟩
    inj := fun j k es fs q e1 e2 e3 e4 => by
      rcases cases' j _ e1 with ⟨rfl, hj, hx⟩ | ⟨n1, f1, f2⟩
      · rcases cases' k _ e2 with ⟨rfl, _, _⟩ | ⟨n2, g1, g2⟩
        · rfl
        · rw [List.getElem?_set_self hj] at e3
          cases e3
          obtain ⟨q, ws, q1, q2, q3, q4, q5⟩ := r.own k fs g1
          rw [← g2, e4] at q1; cases q1
          exact absurd (.inr rfl) q4
      · rcases cases' k _ e2 with ⟨rfl, hk, hx⟩ | ⟨n2, g1, g2⟩
        · rw [List.getElem?_set_self hk] at e4
          cases e4
          obtain ⟨q, ws, q1, q2, q3, q4, q5⟩ := r.own j es f1
          rw [← f2, e3] at q1; cases q1
          exact absurd (.inr rfl) q4
        · exact r.inj j k es fs q f1 g1 (f2.symm.trans e3) (g2.symm.trans e4)
    urn := fun j e => by
      rcases cases' j _ e with ⟨_, _, hx⟩ | ⟨_, e1, e2⟩
      · cases hx
      · obtain ⟨p, q1, q2⟩ := r.urn j e1
        exact ⟨p, q1, e2.trans q2⟩
    ur := r.ur
    gB := hg
    bd := fun a ha => r.bd a (.inl ha)
    ent := r.ent }
/-- a slot's own list is changed in place -/
theorem Rel.chg (r : Rel K B γ H0 σ H s) {i : Nat} {ds es : List Dt} {ws : List V} {p : Addr} (hi : s.sl[i]? = some (some (.own ds))) (hp : σ[i]? = some (some (.ref p))) (h : RpL K H (Bh B σ s.sl) ws es) :
    Aft K B γ H0 σ H s σ (upd H p (.lst ws)) (put s i (.own es)) := by
  obtain ⟨p', vs, e1, hv, _, nB, h0⟩ := r.own i ds hi
  rw [hp] at e1; cases e1
  have hil : i < s.sl.length := (List.getElem?_eq_some_iff.mp hi).1
  have cases' : ∀ (j : Nat) (x : SV), (put s i (.own es)).sl[j]? = some (some x) → (j = i ∧ x = .own es) ∨ (j ≠ i ∧ s.sl[j]? = some (some x)) := fun j x e => by
    have e' : (s.sl.set i (some (SV.own es)))[j]? = some (some x) := e
    by_cases ej : j = i
    · subst ej
      rw [List.getElem?_set_self hil] at e'
      cases e'
      exact .inl ⟨rfl, rfl⟩
    · rw [set_other ej] at e'
      exact .inr ⟨ej, e'⟩
  have sb : ∀ a, Bh B σ (put s i (.own es)).sl a → Bh B σ s.sl a := fun a ha => by
    rcases ha with ha | ⟨j, fs, h1, h2⟩
    · exact .inl ha
    · rcases cases' j _ h1 with ⟨rfl, hx⟩ | ⟨_, e1⟩
      · exact .inr ⟨j, ds, hi, h2⟩
      · exact .inr ⟨j, fs, e1, h2⟩
  have bp : Bh B σ s.sl p := .inr ⟨i, ds, hi, hp⟩
  have kp : Kp (Bh B σ s.sl) H (upd H p (.lst ws)) := Kp.set bp hv
  have nB' : ∀ b, B b → b ≠ p := fun b hb z => nB (z ▸ hb)
  refine ⟨?_, ⟨fun v d q => q.mono kp sb, fun b o hb _ e => by rw [upd_ne (nB' b hb)]; exact e, fun b hb => ?_⟩⟩
  · exact {
      len := by show (s.sl.set i _).length = _; rw [List.length_set]; exact r.len
      val := fun j d' e => by
        rcases cases' j _ e with ⟨_, hx⟩ | ⟨_, e1⟩
        · cases hx
        · obtain ⟨w, q1, q2⟩ := r.val j d' e1
          exact ⟨w, q1, q2.mono kp sb⟩
      own := fun j fs e => by
        rcases cases' j _ e with ⟨rfl, hx⟩ | ⟨nj, e1⟩
        · cases hx
          exact ⟨p, ws, hp, upd_same, h.mono kp sb, nB, h0⟩
        · obtain ⟨q, us, q1, q2, q3, q4, q5⟩ := r.own j fs e1
          have nq : q ≠ p := fun z => nj (r.inj j i fs ds q e1 hi q1 (by rw [z]; exact hp))
          exact ⟨q, us, q1, by rw [upd_ne nq]; exact q2, q3.mono kp sb, q4, q5⟩
      inj := fun j k fs gs q e1 e2 e3 e4 => by
        have f : ∀ (j : Nat) (fs : List Dt), (put s i (.own es)).sl[j]? = some (some (.own fs)) → ∃ fs', s.sl[j]? = some (some (.own fs')) := fun j fs e => by
          rcases cases' j _ e with ⟨rfl, _⟩ | ⟨_, e1⟩
          · exact ⟨ds, hi⟩
          · exact ⟨fs, e1⟩
        obtain ⟨fs', h1⟩ := f j fs e1
        obtain ⟨gs', h2⟩ := f k gs e2
        exact r.inj j k fs' gs' q h1 h2 e3 e4
      urn := fun j e => by
        rcases cases' j _ e with ⟨_, hx⟩ | ⟨_, e1⟩
        · cases hx
        · exact r.urn j e1
      ur := fun q e => by
        obtain ⟨ns, h1, h2⟩ := r.ur q e
        exact ⟨ns, h1, by rw [upd_ne (nB' q (r.gB q e))]; exact h2⟩
      gB := r.gB
      bd := fun a ha => by rw [upd_ne (nB' a ha)]; exact r.bd a ha
      ent := fun b o e g => by
        have nb : b ≠ p := fun z => by rw [z, h0] at e; cases e
        rw [upd_ne nb]; exact r.ent b o e g }
  · by_cases e : b = p
    · subst e; rw [upd_same]; intro z; cases z
    · rw [upd_ne e]; exact hb
/-- the urn is changed -/
theorem Rel.chgU (r : Rel K B γ H0 σ H s) {p : Addr} {ns : List Int} (hg : γ = some p) : Aft K B γ H0 σ H s σ (upd H p (.lst (ns.map V.int))) { s with ur := some ns } := by
  obtain ⟨ms, _, h2⟩ := r.ur p hg
  refine r.called (fun b o e g => ?_) fun q e => ?_
  · have nb : b ≠ p := fun z => g (by rw [hg, z])
    rw [upd_ne nb]; exact e
  · rw [hg] at e; cases e
    exact ⟨ns, rfl, upd_same⟩
end
end DL

set_option Elab.async false
set_option linter.all false
set_option maxRecDepth 100000
set_option maxHeartbeats 2000000
namespace DL
open PySem PySem.Spec PyProof.Rows L2

/-! ### targets -/
abbrev MG := Dt → Stt → Option Stt
abbrev MGs := List Dt → Stt → Option Stt
def tDG (K : PySem.W.Frag) (ts : List Nat) (m : MG) : TG := fun v σ H Q => ∃ B γ H0 s d s', Rel K B γ H0 σ H s ∧ Rp K H (Bh B σ s.sl) v d ∧ m d s = some s' ∧ ∀ σ', Aft K B γ H0 σ H s σ' H s' → (∀ i, i ∉ ts → σ'[i]? = σ[i]?) → σ'.length = σ.length → Q σ' H
def tDGs (K : PySem.W.Frag) (ts : List Nat) (m : MGs) : TGs := fun v σ H Q => ∃ B γ H0 s d s', Rel K B γ H0 σ H s ∧ RpL K H (Bh B σ s.sl) v d ∧ m d s = some s' ∧ ∀ σ', Aft K B γ H0 σ H s σ' H s' → (∀ i, i ∉ ts → σ'[i]? = σ[i]?) → σ'.length = σ.length → Q σ' H
theorem PG.imp {X : Cx} {e : Expr} {t t' : TG} (h : PG X e t) (k : ∀ v σ H Q, t' v σ H Q → t v σ H Q) : PG X e t' := ⟨fun pins s σ H v u Q I r q => h.run pins s σ H v u Q I r (k v σ H Q q)⟩
theorem PGs.imp {X : Cx} {e : List Expr} {t t' : TGs} (h : PGs X e t) (k : ∀ v σ H Q, t' v σ H Q → t v σ H Q) : PGs X e t' := ⟨fun pins s σ H v u Q I r q => h.run pins s σ H v u Q I r (k v σ H Q q)⟩
section
variable {X : Cx} {e a b c : Expr} {es : List Expr} {pos : Pos}
def gN (i : Nat) : MG := fun d s => some (put s i (.val d))
theorem dg_of {i : Nat} (h : PG X e (gName i)) : PG X e (tDG X.K [i] (gN i)) := PG.imp h fun v σ H Q q => by
  obtain ⟨B, γ, H0, s, d, s', rl, rp, e, k⟩ := q
  cases e
  exact k _ (rl.setV rp) (fun j hj => List.getElem?_set_ne fun e => hj (by rw [e]; exact List.mem_singleton_self j)) List.length_set
theorem dg {i : Nat} {x : Str} (hN : X.N.Nodup) (hi : X.N[i]? = some x := by rfl) (hx : Loc X.env.scope x := by first | exact Or.inl rfl | exact Or.inr rfl) (hf : X.fn x = true ∨ X.env.scope.names.lookup x = some .local := by first | exact .inl rfl | exact .inr rfl | assumption) : PG X (.Name x pos) (tDG X.K [i] (gN i)) := dg_of (pg_name hN hi hx hf)
def gsNil : MGs := fun ds s => if ds.isEmpty then some s else none
def gsCons (m : MG) (n : MGs) : MGs := fun ds s => match ds with
  | d :: r => (m d s).bind fun s1 => n r s1
  | [] => none
theorem dgs_nil : PGs X [] (tDGs X.K [] gsNil) := PGs.imp pgs_nil fun v σ H Q q => by
  obtain ⟨B, γ, H0, s, d, s', rl, rp, e, k⟩ := q
  unfold gsNil at e
  split at e
  · rename_i hd
    cases e
    cases rp with
    | nil => exact ⟨rfl, k σ (Aft.refl rl) (fun _ _ => rfl) rfl⟩
    | cons _ _ => cases hd
  · cases e
theorem dgs_cons {ts us : List Nat} {m : MG} {n : MGs} (h1 : PG X e (tDG X.K ts m)) (h2 : PGs X es (tDGs X.K us n)) (h3 : (assignEach (e :: es) X.env).map (·.2) = assign e X.env :: (assignEach es X.env).map (·.2) := by rfl) : PGs X (e :: es) (tDGs X.K (ts ++ us) (gsCons m n)) :=
  PGs.imp (pgs_cons h1 h2 h3) fun v σ H Q q => by
    obtain ⟨B, γ, H0, s, d, s', rl, rp, e, k⟩ := q
    cases rp with
    | nil => cases e
    | cons r1 r2 =>
      obtain ⟨s1, e1, e2⟩ := ob (show (m _ s).bind _ = some s' from e)
      refine ⟨_, _, rfl, B, γ, H0, s, _, s1, rl, r1, e1, fun σ1 a1 c1 l1 => ⟨B, γ, H0, s1, _, s', a1.rel, a1.mv.rpl r2, e2, fun σ2 a2 c2 l2 => k σ2 (a1.trans a2) (fun i hi => ?_) (l2.trans l1)⟩⟩
      rw [c2 i fun z => hi (List.mem_append_right _ z), c1 i fun z => hi (List.mem_append_left _ z)]
def gT (n : Nat) (m : MGs) : MG := fun d s => match d with
  | .tuple ds => if ds.length = n then m ds s else none
  | _ => none
theorem dg_tup {k : Nat} {ts : List Nat} {m : MGs} {n : Nat} (hc : X.calm = true) (h : PGs X es (tDGs X.K ts m)) (hn : (assignEach es X.env).length = n := by rfl) (hst : (assignEach es X.env).findIdx? (·.1) = none := by rfl) : PG X (.Tuple es k pos) (tDG X.K ts (gT n m)) :=
  PG.imp (pg_tup hc h hn hst) fun v σ H Q q => by
    obtain ⟨B, γ, H0, s, d, s', rl, rp, e, k⟩ := q
    cases rp with
    | tup h1 h3 =>
      have e' : (if _ = n then m _ s else none) = some s' := e
      split at e'
      · rename_i hl
        exact ⟨_, _, rfl, h1.sq, by rw [h3.len]; exact hl, B, γ, H0, s, _, s', rl, h3, e', fun σ2 a2 c2 l2 => k σ2 a2 c2 l2⟩
      · cases e'
    | _ => cases e
end

/-! ### statements -/
inductive Fl where
  | nx (s : Stt) | rt (r : RV) (u : Ur) | bk (s : Stt) | ct (s : Stt)
abbrev MS := Stt → Option Fl
def FlOk (K : PySem.W.Frag) (B : Bad) (γ : Option Addr) (H0 : Hp) (σ : L2.St) (H : Hp) (s : Stt) (D : Ends) : Fl → Prop
  | .nx s' => ∀ σ' H', Aft K B γ H0 σ H s σ' H' s' → D.nx σ' H'
  | .bk s' => ∀ σ' H', Aft K B γ H0 σ H s σ' H' s' → D.bk σ' H'
  | .ct s' => ∀ σ' H', Aft K B γ H0 σ H s σ' H' s' → D.ct σ' H'
  | .rt r u => ∀ v H', Ret K H0 B γ H' v r u → D.rt v H'
def tDS (K : PySem.W.Frag) (m : MS) : TS := fun D σ H => ∃ B γ H0 s o, Rel K B γ H0 σ H s ∧ m s = some o ∧ FlOk K B γ H0 σ H s D o
theorem PS.imp {X : Cx} {e : Stmt} {t t' : TS} (h : PS X e t) (k : ∀ D σ H, t' D σ H → t D σ H) : PS X e t' := ⟨fun pins s σ H D I q => h.run pins s σ H D I (k D σ H q)⟩
theorem PSs.imp {X : Cx} {e : List Stmt} {t t' : TS} (h : PSs X e t) (k : ∀ D σ H, t' D σ H → t D σ H) : PSs X e t' := ⟨fun pins s σ H D I q => h.run pins s σ H D I (k D σ H q)⟩
section
variable {K : PySem.W.Frag} {B : Bad} {γ : Option Addr} {H0 H H1 : Hp} {σ σ1 : L2.St} {s s1 : Stt} {D D' : Ends} {o : Fl}
theorem FlOk.back (a : Aft K B γ H0 σ H s σ1 H1 s1) (h : FlOk K B γ H0 σ H s D o) : FlOk K B γ H0 σ1 H1 s1 D o := by
  cases o with
  | nx s' => exact fun σ' H' a' => h σ' H' (a.trans a')
  | bk s' => exact fun σ' H' a' => h σ' H' (a.trans a')
  | ct s' => exact fun σ' H' a' => h σ' H' (a.trans a')
  | rt r u => exact h
theorem Rel.ret (r : Rel K B γ H0 σ H s) {v : V} {d : Dt} (h : Rp K H (Bh B σ s.sl) v d) : Ret K H0 B γ H v (.val d) s.ur := ⟨r.ent, r.ur, h.sub fun _ z => .inl z⟩
end
section
variable {X : Cx} {e a b c : Expr} {es : List Expr} {pos : Pos} {st : Stmt} {rest : List Stmt}
def sNil : MS := fun s => some (.nx s)
def sSeq (m n : MS) : MS := fun s => (m s).bind fun o => match o with
  | .nx s1 => n s1
  | o => some o
theorem dss_nil : PSs X [] (tDS X.K sNil) := PSs.imp pss_nil fun D σ H q => by
  obtain ⟨B, γ, H0, s, o, rl, e, k⟩ := q
  cases e
  exact k σ H (Aft.refl rl)
theorem ds_pass : PS X (.Pass pos) (tDS X.K sNil) := PS.imp ps_pass fun D σ H q => by
  obtain ⟨B, γ, H0, s, o, rl, e, k⟩ := q
  cases e
  exact k σ H (Aft.refl rl)
theorem dss_cons {m n : MS} (h1 : PS X st (tDS X.K m)) (h2 : PSs X rest (tDS X.K n)) : PSs X (st :: rest) (tDS X.K (sSeq m n)) := PSs.imp (pss_cons h1 h2) fun D σ H q => by
  obtain ⟨B, γ, H0, s, o, rl, e, k⟩ := q
  obtain ⟨o1, e1, e2⟩ := ob e
  refine ⟨B, γ, H0, s, o1, rl, e1, ?_⟩
  cases o1 with
  | nx s1 => exact fun σ1 H1 a1 => ⟨B, γ, H0, s1, o, a1.rel, e2, k.back a1⟩
  | bk s1 => cases e2; exact k
  | ct s1 => cases e2; exact k
  | rt r u => cases e2; exact k
theorem dss_one {m : MS} (h1 : PS X st (tDS X.K m)) : PSs X [st] (tDS X.K m) := pss_one h1
def sNever : MS := fun _ => none
theorem ds_never : PS X st (tDS X.K sNever) := PS.imp ps_never fun D σ H q => by
  obtain ⟨B, γ, H0, s, o, rl, e, k⟩ := q
  cases e
def sDrop (m : MD) : MS := fun s => (m s).map fun p => .nx p.2
theorem ds_expr {m : MD} (he : PE X e (tD X.K m)) (hs : swapsWith e none pos.line X.env = pure false := by rfl) : PS X (.Expr e pos) (tDS X.K (sDrop m)) := PS.imp (ps_expr he hs) fun D σ H q => by
  obtain ⟨B, γ, H0, s, o, rl, e, k⟩ := q
  obtain ⟨⟨x, s1⟩, e1, e2⟩ := om e
  subst e2
  exact ⟨B, γ, H0, s, x, s1, rl, e1, fun v H1 a1 _ => k σ H1 a1⟩
def sRet (m : MD) : MS := fun s => (m s).map fun p => .rt (.val p.1) p.2.ur
theorem ds_ret {m : MD} (he : PE X e (tD X.K m)) : PS X (.Return (some e) pos) (tDS X.K (sRet m)) := PS.imp (ps_ret he) fun D σ H q => by
  obtain ⟨B, γ, H0, s, o, rl, e, k⟩ := q
  obtain ⟨⟨x, s1⟩, e1, e2⟩ := om e
  subst e2
  exact ⟨B, γ, H0, s, x, s1, rl, e1, fun v H1 a1 r1 => k v H1 (a1.rel.ret r1)⟩
def sRetN : MS := fun s => some (.rt (.val .none) s.ur)
theorem ds_retN : PS X (.Return none pos) (tDS X.K sRetN) := PS.imp ps_retN fun D σ H q => by
  obtain ⟨B, γ, H0, s, o, rl, e, k⟩ := q
  cases e
  exact k _ _ (rl.ret .non)
def sRetL (m : MA) : MS := fun s => (m s).map fun p => .rt (.new p.1) p.2.ur
theorem ds_retL {m : MA} (he : PE X e (tDL X.K m)) : PS X (.Return (some e) pos) (tDS X.K (sRetL m)) := PS.imp (ps_ret he) fun D σ H q => by
  obtain ⟨B, γ, H0, s, o, rl, e, k⟩ := q
  obtain ⟨⟨x, s1⟩, e1, e2⟩ := om e
  subst e2
  refine ⟨B, γ, H0, s, x, s1, rl, e1, fun p vs H1 r1 mv hp h1 h2 => k _ _ ⟨r1.ent, r1.ur, p, vs, rfl, rl.h0 hp, h1, h2.sub fun a z => ?_⟩⟩
  rcases z with z | z
  · exact .inl (.inl z)
  · exact .inl (.inr z)
/-- return x: a slot's own list goes out as a new one -/
def sRetV (i : Nat) : MS := fun s => match s.sl[i]? with
  | some (some (.val d)) => some (.rt (.val d) s.ur)
  | some (some (.own ds)) => some (.rt (.new ds) s.ur)
  | _ => none
theorem ds_retV {i : Nat} (he : PE X e (tVar i)) : PS X (.Return (some e) pos) (tDS X.K (sRetV i)) := PS.imp (ps_ret he) fun D σ H q => by
  obtain ⟨B, γ, H0, s, o, rl, e, k⟩ := q
  unfold sRetV at e
  split at e
  · rename_i d he
    cases e
    obtain ⟨v, h1, h2⟩ := rl.val i d he
    exact ⟨v, h1, k _ _ (rl.ret h2)⟩
  · rename_i ds he
    cases e
    obtain ⟨p, vs, h1, h2, h3, h4, h5⟩ := rl.own i ds he
    refine ⟨_, h1, k _ _ ⟨rl.ent, rl.ur, p, vs, rfl, h5, h2, h3.sub fun a z => ?_⟩⟩
    rcases z with z | z
    · exact .inl z
    · exact .inr ⟨i, ds, he, by rw [z]; exact h1⟩
  · cases e
def sIf (mt : MT) (m n : MS) : MS := mIf mt m n
theorem ds_if {x y : List Stmt} {mt : MT} {m n : MS} (hc : PT X c (tDT X.K mt)) (ha : PSs X x (tDS X.K m)) (hb : PSs X y (tDS X.K n)) : PS X (.If c x y pos) (tDS X.K (sIf mt m n)) := PS.imp (ps_if hc ha hb) fun D σ H q => by
  obtain ⟨B, γ, H0, s, o, rl, e, k⟩ := q
  obtain ⟨⟨z, s1⟩, e1, e2⟩ := ob e
  refine ⟨B, γ, H0, s, z, s1, rl, e1, fun H1 a1 => ?_⟩
  cases z with
  | true => exact iteT ⟨B, γ, H0, s1, o, a1.rel, e2, k.back a1⟩
  | false => exact iteF ⟨B, γ, H0, s1, o, a1.rel, e2, k.back a1⟩
/-- target = e -/
def sAsg (m : MD) (g : MG) : MS := fun s => (m s).bind fun p => (g p.1 p.2).map .nx
theorem asg_go {m : MD} {g : MG} {ts : List Nat} {D : Ends} {σ : L2.St} {H : Hp} (q : tDS X.K (sAsg m g) D σ H) : tAsg (tD X.K m) (tDG X.K ts g) D σ H := by
  obtain ⟨B, γ, H0, s, o, rl, e, k⟩ := q
  obtain ⟨⟨x, s1⟩, e1, e2⟩ := ob e
  obtain ⟨s2, e3, e4⟩ := om e2
  subst e4
  exact ⟨B, γ, H0, s, x, s1, rl, e1, fun v H1 a1 r1 => ⟨B, γ, H0, s1, x, s2, a1.rel, r1, e3, fun σ' a2 _ _ => k σ' H1 (a1.trans a2)⟩⟩
theorem ds_asg {m : MD} {g : MG} {ts : List Nat} (he : PE X e (tD X.K m)) (hg : PG X a (tDG X.K ts g)) (hs : swapsWithSole [a] e pos.line X.env = pure false := by rfl) (hw : swappedStores [a] e X.env = pure none := by rfl)
    (h1 : (assignEach [a] X.env).map (·.2) = [assign a X.env] := by rfl) : PS X (.Assign [a] e pos) (tDS X.K (sAsg m g)) := PS.imp (ps_asg he hg hs hw h1) fun D σ H q => asg_go q
theorem ds_set {i : Nat} {x : Str} {m : MD} {pos' : Pos} (hN : X.N.Nodup) (he : PE X e (tD X.K m)) (hi : X.N[i]? = some x := by rfl) (hx : Loc X.env.scope x := by first | exact Or.inl rfl | exact Or.inr rfl) (hs : swapsWith e (some (.Name x pos')) pos.line X.env = pure false := by rfl) (hf : X.fn x = true ∨ X.env.scope.names.lookup x = some .local := by first | exact .inl rfl | exact .inr rfl | assumption) :
    PS X (.Assign [.Name x pos'] e pos) (tDS X.K (sAsg m (gN i))) := PS.imp (ps_set hN hi hx he hs hf) fun D σ H q => by
  obtain ⟨B, γ, H0, s, o, rl, e, k⟩ := q
  obtain ⟨⟨x, s1⟩, e1, e2⟩ := ob e
  obtain ⟨s2, e3, e4⟩ := om e2
  subst e4
  cases e3
  exact ⟨B, γ, H0, s, x, s1, rl, e1, fun v H1 a1 r1 => k _ H1 (a1.trans (a1.rel.setV r1))⟩
/-- name = a new list: the slot's own from now on -/
def sSetL (i : Nat) (m : MA) : MS := fun s => (m s).map fun p => .nx (put p.2 i (.own p.1))
theorem setL_go {i : Nat} {m : MA} {D : Ends} {σ : L2.St} {H : Hp} (q : tDS X.K (sSetL i m) D σ H) : tAsg (tDL X.K m) (gName i) D σ H := by
  obtain ⟨B, γ, H0, s, o, rl, e, k⟩ := q
  obtain ⟨⟨x, s1⟩, e1, e2⟩ := om e
  subst e2
  refine ⟨B, γ, H0, s, x, s1, rl, e1, fun p vs H1 r1 mv hp h1 h2 => ?_⟩
  obtain ⟨r2, sb⟩ := r1.setO (i := i) (fun z => rl.bd p z hp) rl.gB (rl.h0 hp) h1 h2
  exact k _ H1 ⟨r2, ⟨fun v d r => (mv.frm v d r).sub sb, mv.pv, mv.dom⟩⟩
theorem ds_setL {i : Nat} {x : Str} {m : MA} {pos' : Pos} (hN : X.N.Nodup) (he : PE X e (tDL X.K m)) (hi : X.N[i]? = some x := by rfl) (hx : Loc X.env.scope x := by first | exact Or.inl rfl | exact Or.inr rfl) (hs : swapsWith e (some (.Name x pos')) pos.line X.env = pure false := by rfl) (hf : X.fn x = true ∨ X.env.scope.names.lookup x = some .local := by first | exact .inl rfl | exact .inr rfl | assumption) :
    PS X (.Assign [.Name x pos'] e pos) (tDS X.K (sSetL i m)) := PS.imp (ps_set hN hi hx he hs hf) fun D σ H q => setL_go q
end
end DL

set_option Elab.async false
set_option linter.all false
set_option maxRecDepth 100000
set_option maxHeartbeats 2000000
namespace DL
open PySem PySem.Spec PyProof.Rows L2

/-! ### what is walked -/
/-- an iterator that yields the data ds -/
structure ItOk (K : PySem.W.Frag) (J : It) (H : Hp) (C : Bad) (ds : List Dt) : Prop where
  ex : ∃ G : Hp → Bad → Prop, G H C ∧ (∀ H C H' C', (∀ v d, Rp K H C v d → Rp K H' C' v d) → G H C → G H' C') ∧ (∀ i H C, G H C → i < ds.length → J.go i H) ∧ (∀ i H C, G H C → ds.length ≤ i → J.stop i H) ∧
    ∀ i H C x H' d, G H C → ds[i]? = some d → J.yld i H x H' → Same H H' ∧ Rp K H' C x d
def tDI (K : PySem.W.Frag) (m : MA) : TI := fun σ H R => ∃ B γ H0 s ds s', Rel K B γ H0 σ H s ∧ m s = some (ds, s') ∧ ∀ J H', Aft K B γ H0 σ H s σ H' s' → ItOk K J H' (Bh B σ s'.sl) ds → R J H'
theorem PI.imp {X : Cx} {tg e : Expr} {t t' : TI} (h : PI X tg e t) (k : ∀ σ H R, t' σ H R → t σ H R) : PI X tg e t' := ⟨fun pins s σ H R I q => h.run pins s σ H R I (k σ H R q)⟩
theorem PI.or {X : Cx} {tg e : Expr} {t t' : TI} (h : PI X tg e t) (h' : PI X tg e t') : PI X tg e (fun σ H R => t σ H R ∨ t' σ H R) := ⟨fun pins s σ H R I q => q.elim (h.run pins s σ H R I) (h'.run pins s σ H R I)⟩
section
variable {K : PySem.W.Frag} {H : Hp} {C : Bad}
theorem it_list {a : Addr} {ds : List Dt} (h : Rp K H C (.ref a) (.list ds)) : ItOk K (Itl K a) H C ds := by
  have op : ∀ {H C}, Rp K H C (.ref a) (.list ds) → ∃ vs, SqL K H a vs ∧ RpL K H C vs ds := fun h => by
    cases h with
    | lst h1 _ h3 => exact ⟨_, .inl h1, h3⟩
  refine ⟨fun H C => Rp K H C (.ref a) (.list ds), h, fun H C H' C' f g => f _ _ g, fun i H C g hi => ?_, fun i H C g hi => ?_, fun i H C x H' d g e y => ?_⟩
  · obtain ⟨vs, h1, h2⟩ := op g
    obtain ⟨v, e1, _⟩ := h2.get (List.getElem?_eq_getElem hi)
    exact ⟨vs, v, h1, e1⟩
  · obtain ⟨vs, h1, h2⟩ := op g
    exact ⟨vs, h1, by rw [h2.len]; exact hi⟩
  · obtain ⟨vs, h1, h2⟩ := op g
    obtain ⟨rfl, y⟩ := y
    obtain ⟨v, e1, e2⟩ := h2.get e
    have := y vs h1
    rw [e1] at this; cases this
    exact ⟨Same.refl _, e2⟩
theorem it_tup {a : Addr} {ds : List Dt} (h : Rp K H C (.ref a) (.tuple ds)) : ItOk K (Itt K a) H C ds := by
  have op : ∀ {H C}, Rp K H C (.ref a) (.tuple ds) → ∃ vs, SqT K H a vs ∧ RpL K H C vs ds := fun h => by
    cases h with
    | tup h1 h3 => exact ⟨_, h1.sq, h3⟩
  refine ⟨fun H C => Rp K H C (.ref a) (.tuple ds), h, fun H C H' C' f g => f _ _ g, fun i H C g hi => ?_, fun i H C g hi => ?_, fun i H C x H' d g e y => ?_⟩
  · obtain ⟨vs, h1, h2⟩ := op g
    obtain ⟨v, e1, _⟩ := h2.get (List.getElem?_eq_getElem hi)
    exact ⟨vs, v, h1, e1⟩
  · obtain ⟨vs, h1, h2⟩ := op g
    exact ⟨vs, h1, by rw [h2.len]; exact hi⟩
  · obtain ⟨vs, h1, h2⟩ := op g
    obtain ⟨rfl, y⟩ := y
    obtain ⟨v, e1, e2⟩ := h2.get e
    have := y vs h1
    rw [e1] at this; cases this
    exact ⟨Same.refl _, e2⟩
def rngD (lo : Int) (n : Nat) : List Dt := (List.range n).map fun i : Nat => .int (lo + (i : Int))
theorem rngD_len (lo : Int) (n : Nat) : (rngD lo n).length = n := by unfold rngD; simp
theorem it_rng {lo : Int} {n : Nat} : ItOk K (Itr lo n) H C (rngD lo n) := by
  refine ⟨fun _ _ => True, trivial, fun _ _ _ _ _ _ => trivial, fun i H C _ hi => ?_, fun i H C _ hi => ?_, fun i H C x H' d _ e y => ?_⟩
  · rw [rngD_len] at hi; exact hi
  · rw [rngD_len] at hi; exact hi
  · obtain ⟨rfl, rfl⟩ := y
    unfold rngD at e
    rw [List.getElem?_map] at e
    obtain ⟨j, e1, e2⟩ := om e
    have : j = i := by
      rw [List.getElem?_range] at e1
      · exact (Option.some.inj e1).symm
      · have := (List.getElem?_eq_some_iff.mp e1).1
        rw [List.length_range] at this; exact this
    subst this
    subst e2
    exact ⟨Same.refl _, .int _⟩
def strD (x : Str) : List Dt := x.cps.toList.map fun c => .str ⟨#[c]⟩
theorem it_str {x : Str} : ItOk K (Its x) H C (strD x) := by
  have hl : (strD x).length = x.cps.size := by unfold strD; simp
  refine ⟨fun _ _ => True, trivial, fun _ _ _ _ _ _ => trivial, fun i H C _ hi => ?_, fun i H C _ hi => ?_, fun i H C v H' d _ e y => ?_⟩
  · rw [hl] at hi; exact hi
  · rw [hl] at hi; exact hi
  · obtain ⟨rfl, c, hc, rfl⟩ := y
    unfold strD at e
    rw [List.getElem?_map] at e
    obtain ⟨j, e1, e2⟩ := om e
    rw [Array.getElem?_toList, hc] at e1
    cases e1
    subst e2
    exact ⟨Same.refl _, .str _⟩
end
section
variable {X : Cx} {tg e a b c : Expr} {es : List Expr} {pos p : Pos}
/-- a list, a tuple or a text -/
def seqD : Dt → Option (List Dt)
  | .list xs => some xs
  | .tuple xs => some xs
  | .str x => some (strD x)
  | _ => none
def iSeq (m : MD) : MA := fun s => (m s).bind fun q => (seqD q.1).map fun ds => (ds, q.2)
theorem di_seq {m : MD} (h : PE X e (tD X.K m)) : PI X tg e (tDI X.K (iSeq m)) := PI.imp (DL.PI.or (pi_list (tg := tg) h) (DL.PI.or (pi_tup h) (pi_str h))) fun σ H R q => by
  obtain ⟨B, γ, H0, s, ds, s', rl, e, k⟩ := q
  obtain ⟨⟨x, s1⟩, e1, e2⟩ := ob e
  obtain ⟨xs, e3, e4⟩ := om e2
  obtain ⟨rfl, rfl⟩ := Prod.mk.inj e4
  cases x with
  | list ys =>
    cases e3
    refine .inl ⟨B, γ, H0, s, _, s1, rl, e1, fun v H1 a1 r1 => ?_⟩
    have r1' := r1
    cases r1 with
    | lst h1 _ h3 => exact ⟨_, rfl, ⟨_, .inl h1⟩, k _ H1 a1 (it_list r1')⟩
  | tuple ys =>
    cases e3
    refine .inr (.inl ⟨B, γ, H0, s, _, s1, rl, e1, fun v H1 a1 r1 => ?_⟩)
    have r1' := r1
    cases r1 with
    | tup h1 h3 => exact ⟨_, rfl, ⟨_, h1.sq⟩, k _ H1 a1 (it_tup r1')⟩
  | str y =>
    cases e3
    refine .inr (.inr ⟨B, γ, H0, s, _, s1, rl, e1, fun v H1 a1 r1 => ?_⟩)
    cases r1 with
    | str _ => exact ⟨_, rfl, k _ H1 a1 it_str⟩
  | none => cases e3
  | bool _ => cases e3
  | int _ => cases e3
  | dict _ => cases e3
def iRng (m : MA) : MA := fun s => (m s).bind fun q => match q.1 with
  | [.int j] => if -(2 ^ 62) ≤ j ∧ j < 2 ^ 62 then some (rngD 0 j.toNat, q.2) else none
  | _ => none
def iRng2 (m : MA) : MA := fun s => (m s).bind fun q => match q.1 with
  | [.int i, .int j] => if -(2 ^ 62) ≤ i ∧ i < 2 ^ 62 ∧ -(2 ^ 62) ≤ j ∧ j < 2 ^ 62 then some (rngD i (j - i).toNat, q.2) else none
  | _ => none
theorem di_range1 {m : MA} (hm : X.mg "range" = none) (ha : PA X [a] (tDA X.K m)) (hg : Gl X "range" := by rfl) (hs : starEach [a] X.env = [(false, eval a X.env)] := by rfl) : PI X tg (.Call (.Name "range" p) [a] [] pos) (tDI X.K (iRng m)) := PI.imp (pi_range1 hg hm ha hs) fun σ H R q => by
  obtain ⟨B, γ, H0, s, ds, s', rl, e, k⟩ := q
  obtain ⟨⟨x, s1⟩, e1, e2⟩ := ob e
  refine ⟨B, γ, H0, s, x, s1, rl, e1, fun vs H1 a1 r1 => ?_⟩
  dsimp only at e2
  split at e2
  · rename_i j
    split at e2
    · rename_i hj
      obtain ⟨rfl, rfl⟩ := Prod.mk.inj (Option.some.inj e2)
      cases r1 with
      | cons q1 q2 =>
        cases q1
        cases q2
        exact ⟨j, rfl, hj.1, hj.2, k _ H1 a1 it_rng⟩
    · cases e2
  · cases e2
theorem di_range2 {m : MA} (hm : X.mg "range" = none) (ha : PA X [a, b] (tDA X.K m)) (hg : Gl X "range" := by rfl) (hs : starEach [a, b] X.env = [(false, eval a X.env), (false, eval b X.env)] := by rfl) (hs2 : starEach [b] X.env = [(false, eval b X.env)] := by rfl) : PI X tg (.Call (.Name "range" p) [a, b] [] pos) (tDI X.K (iRng2 m)) := PI.imp (pi_range2 hg hm ha hs hs2) fun σ H R q => by
  obtain ⟨B, γ, H0, s, ds, s', rl, e, k⟩ := q
  obtain ⟨⟨x, s1⟩, e1, e2⟩ := ob e
  refine ⟨B, γ, H0, s, x, s1, rl, e1, fun vs H1 a1 r1 => ?_⟩
  dsimp only at e2
  split at e2
  · rename_i i j
    split at e2
    · rename_i hj
      obtain ⟨rfl, rfl⟩ := Prod.mk.inj (Option.some.inj e2)
      cases r1 with
      | cons q1 q2 =>
        cases q1
        cases q2 with
        | cons q3 q4 =>
          cases q3
          cases q4
          exact ⟨i, j, rfl, hj, k _ H1 a1 it_rng⟩
    · cases e2
  · cases e2
end

/-! ### for -/
def forGo (g : MG) (mb : MS) : List Dt → MS
  | [], s => some (.nx s)
  | d :: ds, s => (g d s).bind fun s1 => (mb s1).bind fun o => match o with
    | .nx s2 => forGo g mb ds s2
    | .ct s2 => forGo g mb ds s2
    | .bk s2 => some (.nx s2)
    | .rt r u => some (.rt r u)
def sFor (mi : MA) (g : MG) (mb : MS) : MS := fun s => (mi s).bind fun q => forGo g mb q.1 q.2
section
variable {X : Cx} {tg iter e a b c : Expr} {es : List Expr} {pos p : Pos} {body : List Stmt}
theorem for_go {mi : MA} {g : MG} {ts : List Nat} {mb : MS} {D : Ends} {σ : L2.St} {H : Hp} (q : tDS X.K (sFor mi g mb) D σ H) : tFor (tDI X.K mi) (tDG X.K ts g) (tDS X.K mb) D σ H := by
  obtain ⟨B, γ, H0, s, o, rl, e, k⟩ := q
  obtain ⟨⟨ds, s1⟩, e1, e2⟩ := ob e
  refine ⟨B, γ, H0, s, ds, s1, rl, e1, fun J H1 a1 it => ?_⟩
  obtain ⟨G, g0, gst, ggo, gstop, gyld⟩ := it.ex
  refine ⟨fun i m σi Hi => ∃ si, m = ds.length - i ∧ i ≤ ds.length ∧ Aft X.K B γ H0 σ H s σi Hi si ∧ G Hi (Bh B σi si.sl) ∧ forGo g mb (ds.drop i) si = some o, ⟨ds.length, s1, by omega, by omega, a1, g0, e2⟩, ?_⟩
  rintro i m σi Hi ⟨si, rfl, hi, ai, gi, ei⟩
  by_cases hlt : i < ds.length
  · right
    rw [List.drop_eq_getElem_cons hlt] at ei
    obtain ⟨s2, e3, e4⟩ := ob (show (g _ si).bind _ = some o from ei)
    obtain ⟨o2, e5, e6⟩ := ob e4
    refine ⟨ggo i Hi _ gi hlt, fun σ' H' => ∃ s', Aft X.K B γ H0 σ H s σ' H' s' ∧ G H' (Bh B σ' s'.sl) ∧ forGo g mb (ds.drop (i + 1)) s' = some o, fun σ' H' hN => ?_, fun x H' hy => ?_⟩
    · obtain ⟨s', h1, h2, h3⟩ := hN
      exact ⟨ds.length - (i + 1), by omega, s', rfl, by omega, h1, h2, h3⟩
    · obtain ⟨sm, rp⟩ := gyld i Hi _ x H' _ gi (List.getElem?_eq_getElem hlt) hy
      have ai' := ai.same sm
      refine ⟨B, γ, H0, si, _, s2, ai'.rel, rp, e3, fun σ2 a2 _ _ => ⟨B, γ, H0, s2, o2, a2.rel, e5, ?_⟩⟩
      have a3 := ai'.trans a2
      have g3 : G H' (Bh B σ2 s2.sl) := gst _ _ _ _ (fun v d r => a2.mv.frm v d (r.same sm)) gi
      cases o2 with
      | nx s3 => exact fun σ3 H3 a4 => ⟨s3, a3.trans a4, gst _ _ _ _ a4.mv.frm g3, e6⟩
      | ct s3 => exact fun σ3 H3 a4 => ⟨s3, a3.trans a4, gst _ _ _ _ a4.mv.frm g3, e6⟩
      | bk s3 =>
        cases e6
        exact fun σ3 H3 a4 => k σ3 H3 (a3.trans a4)
      | rt r u =>
        cases e6
        exact k
  · left
    have ei0 : i = ds.length := by omega
    subst ei0
    refine ⟨gstop _ Hi _ gi (Nat.le_refl _), ?_⟩
    rw [List.drop_length] at ei
    cases ei
    exact k σi Hi ai
theorem ds_for {mi : MA} {g : MG} {ts : List Nat} {mb : MS} (hi : PI X tg iter (tDI X.K mi)) (hg : PG X tg (tDG X.K ts g)) (hb : PSs X body (tDS X.K mb)) (hp : PassesOwn (model X.prog X.w) X.A X.env X.xe := by exact PassesOwn.never) (hc : X.calm = true := by rfl)
    (hs : ∀ x, foldedSetIterable iter X.env x = pure x := by intro _; rfl) : PS X (.For tg iter body [] pos) (tDS X.K (sFor mi g mb)) := PS.imp (ps_for hp hc hi hg hb hs) fun D σ H q => for_go q
end
end DL

set_option Elab.async false
set_option linter.all false
set_option maxRecDepth 100000
set_option maxHeartbeats 2000000
namespace DL
open PySem PySem.Spec PyProof.Rows L2

/-! ### list comprehensions -/
def hid : Option SV → Option SV
  | some (.own _) => none
  | x => x
def wipeS (sl : List (Option SV)) : List Nat → List (Option SV)
  | [] => sl
  | v :: vs => (wipeS sl vs).set v none
/-- the slots of a comprehension's block: its own names are not set, lists of a slot's own are not seen -/
def blkSl (sl : List (Option SV)) (vs : List Nat) : List (Option SV) := wipeS (sl.map hid) vs
theorem wipeS_len (sl : List (Option SV)) : ∀ vs, (wipeS sl vs).length = sl.length
  | [] => rfl
  | v :: vs => by unfold wipeS; rw [List.length_set, wipeS_len sl vs]
theorem wipeS_get {sl : List (Option SV)} {i : Nat} {x : SV} : ∀ {vs : List Nat}, (wipeS sl vs)[i]? = some (some x) → sl[i]? = some (some x) ∧ i ∉ vs
  | [], h => ⟨h, by simp⟩
  | v :: vs, h => by
    unfold wipeS at h
    by_cases hi : v = i
    · subst hi
      by_cases hv : v < (wipeS sl vs).length
      · rw [List.getElem?_set_self hv] at h; cases h
      · rw [List.getElem?_eq_none (by simpa using hv)] at h; cases h
    · rw [List.getElem?_set_ne hi] at h
      obtain ⟨h1, h2⟩ := wipeS_get h
      exact ⟨h1, by simp only [List.mem_cons, not_or]; exact ⟨fun e => hi e.symm, h2⟩⟩
theorem blkSl_get {sl : List (Option SV)} {i : Nat} {x : SV} {vs : List Nat} (h : (blkSl sl vs)[i]? = some (some x)) : sl[i]? = some (some x) ∧ i ∉ vs ∧ ∀ ds, x ≠ .own ds := by
  obtain ⟨h1, h2⟩ := wipeS_get h
  rw [List.getElem?_map] at h1
  obtain ⟨y, e1, e2⟩ := om h1
  cases y with
  | none => cases e2
  | some y =>
    cases y with
    | own _ => cases e2
    | val d => cases e2; exact ⟨e1, h2, fun _ z => nomatch z⟩
    | urn => cases e2; exact ⟨e1, h2, fun _ z => nomatch z⟩
theorem wipe_get {σ : L2.St} {i : Nat} : ∀ {vs : List Nat}, i ∉ vs → (wipe σ vs)[i]? = σ[i]?
  | [], _ => rfl
  | v :: vs, h => by
    unfold wipe
    have h' : i ≠ v ∧ i ∉ vs := by simpa using h
    rw [List.getElem?_set_ne (Ne.symm h'.1)]
    exact wipe_get h'.2
theorem wipe_in {σ : L2.St} {i : Nat} : ∀ {vs : List Nat}, i ∈ vs → i < σ.length → (wipe σ vs)[i]? = some none
  | v :: vs, h, hl => by
    unfold wipe
    by_cases e : v = i
    · subst e
      rw [List.getElem?_set_self (by rw [wipe_length]; exact hl)]
    · rw [List.getElem?_set_ne e]
      exact wipe_in ((List.mem_cons.mp h).resolve_left fun z => e z.symm) hl
theorem wipe_eq {σ σ2 : L2.St} {vs : List Nat} (hl : σ2.length = σ.length) (h : ∀ i, i ∉ vs → σ2[i]? = σ[i]?) : wipe σ2 vs = wipe σ vs := by
  apply List.ext_getElem?
  intro i
  by_cases hi : i ∈ vs
  · by_cases hn : i < σ.length
    · rw [wipe_in hi hn, wipe_in hi (hl ▸ hn)]
    · rw [List.getElem?_eq_none (by rw [wipe_length]; omega), List.getElem?_eq_none (by rw [wipe_length]; omega)]
  · rw [wipe_get hi, wipe_get hi, h i hi]

def lcGo (g : MG) (mt : MT) (me : MD) (sb : List (Option SV)) : List Dt → Ur → Option (List Dt × Ur)
  | [], u => some ([], u)
  | d :: ds, u => (g d ⟨sb, u⟩).bind fun s1 => (mt s1).bind fun q => if q.1 then (me q.2).bind fun y => (lcGo g mt me sb ds y.2.ur).map fun r => (y.1 :: r.1, r.2) else lcGo g mt me sb ds q.2.ur
/-- lists of slots' own are made plain data ahead of a block that reads them -/
def frzL : Stt → List Nat → Stt
  | s, [] => s
  | s, i :: is => frzL (match s.sl[i]? with
    | some (some (.own ds)) => frz s i ds
    | _ => s) is
def mLc (mi : MA) (fz : List Nat) (vs : List Nat) (g : MG) (mt : MT) (me : MD) : MA := fun s => (mi s).bind fun q => (lcGo g mt me (blkSl (frzL q.2 fz).sl vs) q.1 (frzL q.2 fz).ur).bind fun r => if fits r.1 then some (r.1, { frzL q.2 fz with ur := r.2 }) else none
theorem Rel.frzL {K : PySem.W.Frag} {B : Bad} {γ : Option Addr} {H0 H : Hp} {σ : L2.St} : ∀ (is : List Nat) {s : Stt}, Rel K B γ H0 σ H s → Aft K B γ H0 σ H s σ H (frzL s is)
  | [], s, r => Aft.refl r
  | i :: is, s, r => by
    have h1 : Aft K B γ H0 σ H s σ H (match s.sl[i]? with
      | some (some (.own ds)) => DL.frz s i ds
      | _ => s) := by
      split
      · rename_i ds e
        obtain ⟨_, _, _, a⟩ := r.frz e
        exact a
      · exact Aft.refl r
    exact h1.trans (Rel.frzL is h1.rel)

section
variable {K : PySem.W.Frag} {B : Bad} {γ : Option Addr} {H0 H H1 H' : Hp} {σ σ' : L2.St} {s : Stt} {D : Addr}
/-- no list of a slot's own: nothing more is barred -/
theorem bh_blk {B' : Bad} {sl : List (Option SV)} {vs : List Nat} {a : Addr} (h : Bh B' σ' (blkSl sl vs) a) : B' a := by
  rcases h with h | ⟨i, ds, h1, _⟩
  · exact h
  · exact absurd rfl ((blkSl_get h1).2.2 ds)
/-- the block's state at a heap H -/
theorem Rel.blk (r : Rel K B γ H0 σ H1 s) (hD : H1 D = none) {u : Ur} {vs : List Nat} (frm : ∀ v d, Rp K (upd H1 D (.lst [])) (Bp (Bh B σ s.sl) D) v d → Rp K H (Bp (Bh B σ s.sl) D) v d) (ur : UrOk H γ u) (bd : ∀ a, Bp (Bh B σ s.sl) D a → H a ≠ none)
    (ent : ∀ b o, H0 b = some o → γ ≠ some b → H b = some o) : Rel K (Bp (Bh B σ s.sl) D) γ H0 (wipe σ vs) H ⟨blkSl s.sl vs, u⟩ where
  len := by show (wipeS _ vs).length = _; rw [wipeS_len, wipe_length, List.length_map]; exact r.len
  val := fun i d e => by
    obtain ⟨e1, e2, _⟩ := blkSl_get e
    obtain ⟨v, h1, h2⟩ := r.val i d e1
    exact ⟨v, (wipe_get e2).trans h1, (frm _ _ ((h2.avoid hD).same (same_new hD))).sub fun a z => bh_blk z⟩
  own := fun i ds e => absurd rfl ((blkSl_get e).2.2 ds)
  inj := fun i j ds es p e => absurd rfl ((blkSl_get e).2.2 ds)
  urn := fun i e => by
    obtain ⟨e1, e2, _⟩ := blkSl_get e
    obtain ⟨p, h1, h2⟩ := r.urn i e1
    exact ⟨p, h1, (wipe_get e2).trans h2⟩
  ur := ur
  gB := fun p e => .inl (.inl (r.gB p e))
  bd := bd
  ent := ent
end

section
variable {X : Cx} {tg iter elt e a b c : Expr} {es : List Expr} {pos p : Pos}
theorem lc_go {mi : MA} {fz vs ts : List Nat} {g : MG} {mt : MT} {me : MD} {σ : L2.St} {H : Hp} {Q : VK} (hts : ∀ i ∈ ts, i ∈ vs) (q : tDL X.K (mLc mi fz vs g mt me) σ H Q) : tLc (tDI X.K mi) (tDG X.K ts g) (tDT X.K mt) (tD X.K me) vs σ H Q := by
  obtain ⟨B, γ, H0, s, out, s', rl, e, k⟩ := q
  obtain ⟨⟨ds, s0⟩, e1, e2⟩ := ob e
  obtain ⟨⟨rr, uu⟩, e3, e4⟩ := ob e2
  split at e4
  · rename_i hf
    obtain ⟨rfl, rfl⟩ := Prod.mk.inj (Option.some.inj e4)
    refine ⟨B, γ, H0, s, ds, s0, rl, e1, fun J H1 a0 it => ?_⟩
    obtain ⟨G, g0, gst, ggo, gstop, gyld⟩ := it.ex
    have az := a0.rel.frzL fz
    have a1 := a0.trans az
    have g1 : G H1 (Bh B σ (frzL s0 fz).sl) := gst _ _ _ _ az.mv.frm g0
    generalize frzL s0 fz = s1 at *
    intro D hD
    have gD : γ ≠ some D := fun z => a1.rel.bd D (a1.rel.gB D z) hD
    have smD : Same H1 (upd H1 D (.lst [])) := same_new hD
    have tot : rr.length ≤ sizeLine := of_decide_eq_true hf
    have g2 : G (upd H1 D (.lst [])) (Bp (Bh B σ s1.sl) D) := gst _ _ _ _ (fun v d r => (r.avoid hD).same smD) g1
    refine ⟨fun i m Hi => ∃ u acc va rest, m = ds.length - i ∧ i ≤ ds.length ∧ (∀ v d, Rp X.K (upd H1 D (.lst [])) (Bp (Bh B σ s1.sl) D) v d → Rp X.K Hi (Bp (Bh B σ s1.sl) D) v d) ∧ UrOk Hi γ u ∧ (∀ b o, Bh B σ s1.sl b → γ ≠ some b → H1 b = some o → Hi b = some o) ∧ (∀ b, upd H1 D (.lst []) b ≠ none → Hi b ≠ none) ∧
        (∀ b o, H0 b = some o → γ ≠ some b → Hi b = some o) ∧ Hi D = some (.lst va) ∧ RpL X.K Hi (Bp (Bh B σ s1.sl) D) va acc ∧ lcGo g mt me (blkSl s1.sl vs) (ds.drop i) u = some (rest, uu) ∧ acc ++ rest = rr,
      ⟨ds.length, s1.ur, [], [], rr, by omega, by omega, fun _ _ h => h, a1.rel.ur.same smD, fun b o _ _ h => smD b o h, fun _ h => h, fun b o h g => smD _ _ (a1.rel.ent b o h g), upd_same, .nil, e3, rfl⟩, ?_⟩
    rintro i m Hi ⟨u, acc, va, rest, rfl, hi, frm, ur, pv, dom, ent, hDi, racc, el, etot⟩
    have bdB : ∀ a, Bp (Bh B σ s1.sl) D a → Hi a ≠ none := fun a ha => dom a (by
      rcases ha with ha | ha
      · exact same_dom smD (a1.rel.bdh a ha)
      · rw [ha, upd_same]; intro z; cases z)
    have gi : G Hi (Bp (Bh B σ s1.sl) D) := gst _ _ _ _ frm g2
    by_cases hlt : i < ds.length
    · right
      rw [List.drop_eq_getElem_cons hlt] at el
      obtain ⟨s2, f1, f2⟩ := ob (show (g _ ⟨_, u⟩).bind _ = some (rest, uu) from el)
      obtain ⟨⟨tb, s3⟩, f3, f4⟩ := ob f2
      refine ⟨ggo i Hi _ gi hlt, fun Hn => ∃ u acc va rest, (∀ v d, Rp X.K (upd H1 D (.lst [])) (Bp (Bh B σ s1.sl) D) v d → Rp X.K Hn (Bp (Bh B σ s1.sl) D) v d) ∧ UrOk Hn γ u ∧ (∀ b o, Bh B σ s1.sl b → γ ≠ some b → H1 b = some o → Hn b = some o) ∧ (∀ b, upd H1 D (.lst []) b ≠ none → Hn b ≠ none) ∧
        (∀ b o, H0 b = some o → γ ≠ some b → Hn b = some o) ∧ Hn D = some (.lst va) ∧ RpL X.K Hn (Bp (Bh B σ s1.sl) D) va acc ∧ lcGo g mt me (blkSl s1.sl vs) (ds.drop (i + 1)) u = some (rest, uu) ∧ acc ++ rest = rr, fun Hn hN => ?_, fun x H' hy => ?_⟩
      · obtain ⟨u, acc, va, rest, h1, h2, h3, h4, h5, h6, h7, h8, h9⟩ := hN
        exact ⟨ds.length - (i + 1), by omega, u, acc, va, rest, rfl, by omega, h1, h2, h3, h4, h5, h6, h7, h8, h9⟩
      · obtain ⟨sm, rp⟩ := gyld i Hi _ x H' _ gi (List.getElem?_eq_getElem hlt) hy
        have r0 : Rel X.K (Bp (Bh B σ s1.sl) D) γ H0 (wipe σ vs) H' ⟨blkSl s1.sl vs, u⟩ := (a1.rel.blk hD frm ur bdB ent).same sm
        refine ⟨Bp (Bh B σ s1.sl) D, γ, H0, _, _, s2, r0, rp.sub (fun a z => bh_blk z), f1, fun σ2 a2 c2 l2 => ⟨?_, ?_⟩⟩
        · have := wipe_eq (vs := vs) l2 fun j hj => c2 j fun z => hj (hts j z)
          rw [this]
          exact wipe_eq (wipe_length _ _) fun j hj => wipe_get hj
        · refine ⟨_, γ, H0, s2, tb, s3, a2.rel, f3, fun H3 a3 => ?_⟩
          have a4 := a2.trans a3
          cases tb with
          | true =>
            refine iteT ?_
            obtain ⟨⟨y, s4⟩, f5, f6⟩ := ob f4
            obtain ⟨⟨r2, u2⟩, f7, f8⟩ := om f6
            obtain ⟨rfl, rfl⟩ := Prod.mk.inj f8
            refine ⟨_, γ, H0, s3, y, s4, a3.rel, f5, fun vy H4 a5 ry => ?_⟩
            have a6 := a4.trans a5
            have hD4 : H4 D = some (.lst va) := a6.mv.pv D _ (.inr rfl) gD (sm _ _ hDi)
            have lacc : acc.length < sizeLine := by
              have : (acc ++ y :: r2).length ≤ sizeLine := by rw [etot]; exact tot
              rw [List.length_append, List.length_cons] at this
              omega
            have fr4 : ∀ v d, Rp X.K Hi (Bp (Bh B σ s1.sl) D) v d → Rp X.K H4 (Bp (Bh B σ s1.sl) D) v d := fun v d r => (a6.mv.frm v d ((r.same sm).sub fun a z => bh_blk z)).sub fun a z => .inl z
            have kp : Kp (Bp (Bh B σ s1.sl) D) H4 (upd H4 D (.lst (va ++ [vy]))) := Kp.set (.inr rfl) hD4
            have fr5 : ∀ v d, Rp X.K H4 (Bp (Bh B σ s1.sl) D) v d → Rp X.K (upd H4 D (.lst (va ++ [vy]))) (Bp (Bh B σ s1.sl) D) v d := fun v d r => r.mono kp fun _ z => z
            refine ⟨va, hD4, by rw [racc.len]; exact lacc, s4.ur, acc ++ [y], va ++ [vy], r2, fun v d r => fr5 _ _ (fr4 _ _ (frm _ _ r)), fun q e => ?_, fun b o hb hg hh => ?_, fun b hb => ?_, fun b o hb hg => ?_, upd_same, ?_, f7, by rw [← etot]; simp⟩
            · obtain ⟨ns, h1, h2⟩ := a6.rel.ur q e
              refine ⟨ns, h1, ?_⟩
              rw [upd_ne (fun z => gD (by rw [← z]; exact e))]; exact h2
            · have nb : b ≠ D := fun z => by rw [z, hD] at hh; cases hh
              rw [upd_ne nb]
              exact a6.mv.pv b o (.inl hb) hg (sm _ _ (pv b o hb hg hh))
            · by_cases z : b = D
              · subst z; rw [upd_same]; intro z; cases z
              · rw [upd_ne z]; exact a6.mv.dom b (same_dom sm (dom b hb))
            · have nb : b ≠ D := fun z => by
                have := a1.rel.h0 hD
                rw [z, this] at hb; cases hb
              rw [upd_ne nb]
              exact a6.rel.ent b o hb hg
            · exact (RpL.append (RpL.by_frm fr5 (RpL.by_frm fr4 racc)) (.cons (fr5 _ _ (ry.sub fun a z => .inl z)) .nil))
          | false =>
            refine iteF ?_
            have fr4 : ∀ v d, Rp X.K Hi (Bp (Bh B σ s1.sl) D) v d → Rp X.K H3 (Bp (Bh B σ s1.sl) D) v d := fun v d r => (a4.mv.frm v d ((r.same sm).sub fun a z => bh_blk z)).sub fun a z => .inl z
            exact ⟨s3.ur, acc, va, rest, fun v d r => fr4 _ _ (frm _ _ r), a4.rel.ur, fun b o hb hg hh => a4.mv.pv b o (.inl hb) hg (sm _ _ (pv b o hb hg hh)), fun b hb => a4.mv.dom b (same_dom sm (dom b hb)), fun b o hb hg => a4.rel.ent b o hb hg, a4.mv.pv D _ (.inr rfl) gD (sm _ _ hDi), RpL.by_frm fr4 racc, f4, etot⟩
    · left
      have ei0 : i = ds.length := by omega
      subst ei0
      refine ⟨gstop _ Hi _ gi (Nat.le_refl _), ?_⟩
      rw [List.drop_length] at el
      obtain ⟨h1, h2⟩ := Prod.mk.inj (Option.some.inj el)
      subst h1
      subst h2
      rw [List.append_nil] at etot
      subst etot
      have f9 : ∀ v d, Rp X.K H1 (Bh B σ s1.sl) v d → Rp X.K Hi (Bh (Bp B D) σ s1.sl) v d := fun v d r => (frm v d ((r.avoid hD).same smD)).sub fun _ => bh_bp
      refine k D va Hi (a1.rel.to f9 (fun b hb => ?_) ur (fun p e => .inl (a1.rel.gB p e)) (fun a ha => ?_) ent) ⟨fun v d r => f9 v d (a1.mv.frm v d r), fun b o hb hg hh => pv b o (.inl hb) hg (a1.mv.pv b o hb hg hh), fun b hb => dom b (same_dom smD (a1.mv.dom b hb))⟩ (a1.mv.back hD) hDi (racc.sub fun _ => bh_bp)
      · obtain ⟨j, es, h5, h6⟩ := hb
        obtain ⟨p', ws, q1, q2, q3, q4, q5⟩ := a1.rel.own j es h5
        rw [h6] at q1; cases q1
        exact ⟨fun o ho => pv b o (.inr ⟨j, es, h5, h6⟩) (fun g => q4 (a1.rel.gB b g)) ho, fun z => z.elim q4 fun z => ne_of_none q2 hD z⟩
      · rcases ha with ha | ha
        · exact bdB a (.inl (.inl ha))
        · exact bdB a (.inr ha)
  · cases e4
end
end DL

set_option Elab.async false
set_option linter.all false
set_option maxRecDepth 100000
set_option maxHeartbeats 2000000
namespace DL
open PySem PySem.Spec PyProof.Rows L2

theorem PTs.imp {X : Cx} {e : List Expr} {t t' : TT} (h : PTs X e t) (k : ∀ σ H Q, t' σ H Q → t σ H Q) : PTs X e t' := ⟨fun pins s σ H Q I q => h.run pins s σ H Q I (k σ H Q q)⟩
section
variable {X : Cx} {tg iter elt e a b c : Expr} {es ifs : List Expr} {pos p : Pos}
def mYes : MT := fun s => some (true, s)
theorem dts_nil : PTs X [] (tDT X.K mYes) := PTs.imp pts_nil fun σ H Q q => by
  obtain ⟨B, γ, H0, s, d, s', rl, e, k⟩ := q
  obtain ⟨rfl, rfl⟩ := Prod.mk.inj (Option.some.inj e)
  exact k H (Aft.refl rl)
theorem dts_one {m : MT} (h : PT X c (tDT X.K m)) : PTs X [c] (tDT X.K m) := pts_one h
/-- [elt for target in iter if ..] -/
theorem dl_lc {scope : Scope} {own : List (Str × Nat)} {mi : MA} {ts : List Nat} {g : MG} {mt : MT} {me : MD} (fz : List Nat) (hN : X.N.Nodup) (hi : PI X tg iter (tDI X.K mi)) (ok : BlkOk X.N X.env.scope scope own)
    (hg : ∀ (s : Shared) (H : Hp) (C : Addr) (cl : List (Str × Addr)) (fp : List Addr), PG (X.blk s H scope (compEnvC scope cl C X.env) fp) tg (tDG X.K ts g)) (ht : ∀ (s : Shared) (H : Hp) (C : Addr) (cl : List (Str × Addr)) (fp : List Addr), PTs (X.blk s H scope (compEnvC scope cl C X.env) fp) ifs (tDT X.K mt))
    (he : ∀ (s : Shared) (H : Hp) (C : Addr) (cl : List (Str × Addr)) (fp : List Addr), PE (X.blk s H scope (compEnvC scope cl C X.env) fp) elt (tD X.K me)) (hts : ∀ i ∈ ts, i ∈ own.map (·.2) := by decide) (hc : X.calm = true := by rfl) (hs : ∀ x, foldedSetIterable iter X.env x = pure x := by intro _; rfl) :
    PE X (.ListComp elt [⟨tg, iter, ifs, 0⟩] scope pos) (tDL X.K (mLc mi fz (own.map (·.2)) g mt me)) := PE.imp (pe_lc hc hN hi ok hg ht he hs) fun σ H Q q => lc_go hts q
/-- name = [..], the name a local -/
theorem ds_setLc {i : Nat} {y : Str} {py spos : Pos} {scope : Scope} {own : List (Str × Nat)} {mi : MA} {ts : List Nat} {g : MG} {mt : MT} {me : MD} (fz : List Nat) (hN : X.N.Nodup)
    (hsw : swapsWith (.ListComp elt [⟨tg, iter, ifs, 0⟩] scope pos) (some (.Name y py)) spos.line X.env = pure true) (hi : PI X tg iter (tDI X.K mi)) (ok : BlkOk X.N X.env.scope scope own)
    (hg : ∀ (s : Shared) (H : Hp) (C : Addr) (cl : List (Str × Addr)) (fp : List Addr), PG (X.blk s H scope (compEnvC scope cl C X.env) fp) tg (tDG X.K ts g)) (ht : ∀ (s : Shared) (H : Hp) (C : Addr) (cl : List (Str × Addr)) (fp : List Addr), PTs (X.blk s H scope (compEnvC scope cl C X.env) fp) ifs (tDT X.K mt))
    (he : ∀ (s : Shared) (H : Hp) (C : Addr) (cl : List (Str × Addr)) (fp : List Addr), PE (X.blk s H scope (compEnvC scope cl C X.env) fp) elt (tD X.K me)) (hts : ∀ i ∈ ts, i ∈ own.map (·.2) := by decide) (hc : X.calm = true := by rfl) (hy : X.N[i]? = some y := by rfl) (hyl : X.env.scope.names.lookup y = some .local := by rfl) (hs : ∀ x, foldedSetIterable iter X.env x = pure x := by intro _; rfl) :
    PS X (.Assign [.Name y py] (.ListComp elt [⟨tg, iter, ifs, 0⟩] scope pos) spos) (tDS X.K (sSetL i (mLc mi fz (own.map (·.2)) g mt me))) := PS.imp (ps_setLc hc hN hy hyl hsw hi ok hg ht he hs) fun D σ H q => by
  obtain ⟨B, γ, H0, s, o, rl, e, k⟩ := q
  have q' : tDL X.K (mLc mi fz (own.map (·.2)) g mt me) σ H fun x H1 => gName i x σ H1 D.nx := setL_go ⟨B, γ, H0, s, o, rl, e, k⟩
  exact lc_go hts q'

/-! ### lists changed in place -/
def isOwn (s : Stt) (i : Nat) : Option (List Dt) := match s.sl[i]? with
  | some (some (.own ds)) => some ds
  | _ => none
theorem isOwn_eq {s : Stt} {i : Nat} {ds : List Dt} (h : isOwn s i = some ds) : s.sl[i]? = some (some (.own ds)) := by
  unfold isOwn at h
  split at h
  · cases h; assumption
  · cases h
/-- x.append(e) -/
def sApp (i : Nat) (m : MD) : MS := fun s => (isOwn s i).bind fun _ => (m s).bind fun q => (isOwn q.2 i).bind fun ds => if ds.length < sizeLine then some (.nx (put q.2 i (.own (ds ++ [q.1])))) else none
theorem ds_app {i : Nat} {m : MD} {p1 p2 : Pos} {o : Expr} (ho : PE X o (tVar i)) (he : PE X e (tD X.K m))
    (hbase : attributeBase o "append" X.env (eval o X.env) = eval o X.env := by rfl)
    (hfew : ((backTo p2 (starEach [e] X.env)).all (fun x => !x.1) && (backToKw p2 (keywordEach [] X.env)).all (fun x => x.1.isSome)
      && decide ([e].length + ([] : List Keyword).length + (if ([] : List Keyword).isEmpty then 0 else 1) < 30)) = true := by rfl)
    (hline : (p1.endLine == p2.line) = true := by rfl) (hs : starEach [e] X.env = (false, eval e X.env) :: starEach [] X.env := by rfl)
    (hsw : swapsWith (.Call (.Attribute o "append" p1) [e] [] p2) none pos.line X.env = pure false := by rfl) :
    PS X (.Expr (.Call (.Attribute o "append" p1) [e] [] p2) pos) (tDS X.K (sApp i m)) :=
  PS.imp (ps_expr (pe_bm PySem.F.plainAttrs_list PySem.F.slot_list_append PySem.F.type_list_append mt_append ho (pa_cons he pa_nil hs) hbase hfew hline hs rfl) hsw) fun D σ H q => by
    obtain ⟨B, γ, H0, s, o, rl, e, k⟩ := q
    obtain ⟨ds0, e0, e⟩ := ob e
    obtain ⟨⟨x, s1⟩, e1, e2⟩ := ob e
    obtain ⟨ds, e3, e4⟩ := ob e2
    split at e4
    · rename_i hl
      cases e4
      obtain ⟨p0, vs0, h1, h2, h3, _⟩ := rl.own i ds0 (isOwn_eq e0)
      refine ⟨_, h1, .inl ⟨rfl, vs0, .inl (.inl h2)⟩, B, γ, H0, s, x, s1, rl, e1, fun v H1 a1 r1 => ?_⟩
      obtain ⟨p1, vs, g1, g2, g3, _⟩ := a1.rel.own i ds (isOwn_eq e3)
      rw [h1] at g1; cases g1
      refine ⟨_, vs, v, rfl, rfl, g2, by rw [g3.len]; exact hl, ?_⟩
      exact k σ _ (a1.trans (a1.rel.chg (isOwn_eq e3) h1 (g3.append (.cons r1 .nil))))
    · cases e4
/-- x.pop(k), as an expression -/
def mPop (i : Nat) (m : MD) : MD := fun s => (isOwn s i).bind fun _ => (m s).bind fun q => (isOwn q.2 i).bind fun ds => match q.1 with
  | .int k => if -(2 ^ 63) ≤ k ∧ k < 2 ^ 63 then (seqIndex? k ds.length).bind fun j => ds[j]?.map fun d => (d, put q.2 i (.own (ds.eraseIdx j))) else none
  | _ => none
theorem de_pop {i : Nat} {m : MD} {p1 p2 : Pos} {o : Expr} (ho : PE X o (tVar i)) (he : PE X e (tD X.K m))
    (hbase : attributeBase o "pop" X.env (eval o X.env) = eval o X.env := by rfl)
    (hfew : ((backTo p2 (starEach [e] X.env)).all (fun x => !x.1) && (backToKw p2 (keywordEach [] X.env)).all (fun x => x.1.isSome)
      && decide ([e].length + ([] : List Keyword).length + (if ([] : List Keyword).isEmpty then 0 else 1) < 30)) = true := by rfl)
    (hline : (p1.endLine == p2.line) = true := by rfl) (hs : starEach [e] X.env = (false, eval e X.env) :: starEach [] X.env := by rfl) :
    PE X (.Call (.Attribute o "pop" p1) [e] [] p2) (tD X.K (mPop i m)) :=
  PE.imp (pe_bm PySem.F.plainAttrs_list PySem.F.slot_list_pop PySem.F.type_list_pop mt_popAt ho (pa_cons he pa_nil hs) hbase hfew hline hs rfl) fun σ H Q q => by
    obtain ⟨B, γ, H0, s, d, s', rl, e, k⟩ := q
    obtain ⟨ds0, e0, e⟩ := ob e
    obtain ⟨⟨x, s1⟩, e1, e2⟩ := ob e
    obtain ⟨ds, e3, e4⟩ := ob e2
    dsimp only at e4
    split at e4
    · rename_i kk
      split at e4
      · rename_i hk
        obtain ⟨j, e5, e6⟩ := ob e4
        obtain ⟨d2, e7, e8⟩ := om e6
        obtain ⟨rfl, rfl⟩ := Prod.mk.inj e8
        obtain ⟨p0, vs0, h1, h2, h3, _⟩ := rl.own i ds0 (isOwn_eq e0)
        refine ⟨_, h1, .inl ⟨rfl, vs0, .inl (.inl h2)⟩, B, γ, H0, s, _, s1, rl, e1, fun v H1 a1 r1 => ?_⟩
        obtain ⟨p1, vs, g1, g2, g3, _⟩ := a1.rel.own i ds (isOwn_eq e3)
        rw [h1] at g1; cases g1
        obtain ⟨w, w1, w2⟩ := g3.get e7
        cases r1
        have ac := a1.rel.chg (isOwn_eq e3) h1 (g3.erase j)
        refine ⟨_, vs, kk, j, w, rfl, rfl, g2, hk.1, hk.2, by rw [g3.len]; exact e5, w1, ?_⟩
        exact k _ _ (a1.trans ac) (ac.mv.frm _ _ w2)
      · cases e4
    · cases e4
/-- x[k] = e: a list of the slot's own, or the urn -/
def sSetIx (i : Nat) (m mk : MD) : MS := fun s => (m s).bind fun q => match q.2.sl[i]? with
  | some (some (.own _)) => (mk q.2).bind fun t => (isOwn t.2 i).bind fun ds => (match t.1 with
    | .int k => (ixN ds.length k).map fun j => .nx (put t.2 i (.own (ds.set j q.1)))
    | _ => none)
  | some (some .urn) => (mk q.2).bind fun t => (match t.1, q.1, t.2.ur with
    | .int k, .int z, some ns => (ixN ns.length k).map fun j => .nx { t.2 with ur := some (ns.set j z) }
    | _, _, _ => none)
  | _ => none
theorem ds_setIx' {i : Nat} {m mk : MD} {o ix : Expr} {p1 : Pos} (he : PE X e (tD X.K m)) (hg : PG X (.Subscript o ix p1) (gSub (tVar i) (tD X.K mk) rSetL))
    (hs : swapsWithSole [.Subscript o ix p1] e pos.line X.env = pure false := by rfl) (hw : swappedStores [.Subscript o ix p1] e X.env = pure none := by rfl) (h1 : (assignEach [.Subscript o ix p1] X.env).map (·.2) = [assign (.Subscript o ix p1) X.env] := by rfl) :
    PS X (.Assign [.Subscript o ix p1] e pos) (tDS X.K (sSetIx i m mk)) := PS.imp (ps_asg he hg hs hw h1) fun D σ H q => by
  obtain ⟨B, γ, H0, s, o, rl, e, k⟩ := q
  obtain ⟨⟨x, s1⟩, e1, e2⟩ := ob e
  refine ⟨B, γ, H0, s, x, s1, rl, e1, fun v1 H1 a1 r1 => ?_⟩
  dsimp only at e2
  split at e2
  · rename_i ds0 hs1
    obtain ⟨⟨y, s2⟩, e3, e4⟩ := ob e2
    obtain ⟨ds, e5, e6⟩ := ob e4
    dsimp only at e6
    split at e6
    · rename_i kk
      obtain ⟨j, e7, e8⟩ := om e6
      subst e8
      obtain ⟨p0, vs0, g1, g2, g3, _⟩ := a1.rel.own i ds0 hs1
      refine ⟨_, g1, B, γ, H0, s1, _, s2, a1.rel, e3, fun v2 H2 a2 r2 => ?_⟩
      obtain ⟨p2, vs, f1, f2, f3, _⟩ := a2.rel.own i ds (isOwn_eq e5)
      rw [g1] at f1; cases f1
      cases r2
      have ac := a2.rel.chg (isOwn_eq e5) g1 (f3.set (a2.mv.frm _ _ r1) j)
      exact ⟨_, vs, kk, j, rfl, rfl, f2, by rw [f3.len]; exact e7, k σ _ ((a1.trans a2).trans ac)⟩
    · cases e6
  · rename_i hs1
    obtain ⟨⟨y, s2⟩, e3, e4⟩ := ob e2
    dsimp only at e4
    obtain ⟨kk, z, ns, rfl, rfl, hur, j, e7, rfl⟩ : ∃ (kk z : Int) (ns : List Int), y = .int kk ∧ x = .int z ∧ s2.ur = some ns ∧ ∃ j, ixN ns.length kk = some j ∧ o = .nx { s2 with ur := some (ns.set j z) } := by
      cases y with
      | int kk =>
        cases x with
        | int z =>
          cases hu : s2.ur with
          | none => rw [hu] at e4; cases e4
          | some ns =>
            rw [hu] at e4
            obtain ⟨j, e7, e8⟩ := om e4
            exact ⟨kk, z, ns, rfl, rfl, rfl, j, e7, e8.symm⟩
        | _ => cases e4
      | _ => cases e4
    · skip
      obtain ⟨p0, g1, g2⟩ := a1.rel.urn i hs1
      cases r1
      refine ⟨_, g2, B, γ, H0, s1, _, s2, a1.rel, e3, fun v2 H2 a2 r2 => ?_⟩
      obtain ⟨ns', f1, f2⟩ := a2.rel.ur p0 g1
      rw [hur] at f1; cases f1
      cases r2
      have ac := a2.rel.chgU (ns := ns.set j z) g1
      refine ⟨_, ns.map V.int, kk, j, rfl, rfl, f2, by rw [List.length_map]; exact e7, ?_⟩
      rw [show (ns.map V.int).set j (.int z) = (ns.set j z).map V.int from (List.map_set).symm]
      exact k σ _ ((a1.trans a2).trans ac)
  · cases e2

end
end DL

set_option Elab.async false
set_option linter.all false
set_option maxRecDepth 100000
set_option maxHeartbeats 2000000
namespace DL
open PySem PySem.Spec PyProof.Rows L2

/-! ### a, b = x, y -/
def Bs (B : Bad) (ps : List Addr) : Bad := fun a => B a ∨ a ∈ ps
inductive PvOk (K : PySem.W.Frag) (H : Hp) (C : Bad) (H0 : Hp) : List V → List SV → List Addr → Prop
  | nil : PvOk K H C H0 [] [] []
  | val {v : V} {d : Dt} {vs : List V} {ss : List SV} {ps : List Addr} : Rp K H C v d → PvOk K H C H0 vs ss ps → PvOk K H C H0 (v :: vs) (.val d :: ss) ps
  | own {p : Addr} {ws : List V} {ds : List Dt} {vs : List V} {ss : List SV} {ps : List Addr} : H p = some (.lst ws) → RpL K H C ws ds → H0 p = none → p ∉ ps → PvOk K H C H0 vs ss ps → PvOk K H C H0 (.ref p :: vs) (.own ds :: ss) (p :: ps)
abbrev MP := Stt → Option (List SV × Stt)
def tPL (K : PySem.W.Frag) (m : MP) : TA := fun σ H Q => ∃ B γ H0 s ss s', Rel K B γ H0 σ H s ∧ m s = some (ss, s') ∧ ∀ vs H' ps, Rel K (Bs B ps) γ H0 σ H' s' → Mv K B γ H (Bh B σ s.sl) H' (Bh (Bs B ps) σ s'.sl) → (∀ p ∈ ps, ¬ B p) → PvOk K H' (Bh (Bs B ps) σ s'.sl) H0 vs ss ps → Q vs H'
section
variable {K : PySem.W.Frag} {B C C' : Bad} {γ : Option Addr} {H0 H H' : Hp} {σ : L2.St} {s : Stt}
theorem PvOk.sub {vs : List V} {ss : List SV} {ps : List Addr} (h : PvOk K H C H0 vs ss ps) (hc : ∀ a, C' a → C a) : PvOk K H C' H0 vs ss ps := by
  induction h with
  | nil => exact .nil
  | val r _ ih => exact .val (r.sub hc) ih
  | own h1 h2 h3 h4 _ ih => exact .own h1 (h2.sub hc) h3 h4 ih
def sets : L2.St → List Nat → List V → L2.St
  | σ, i :: is, v :: vs => sets (σ.set i (some v)) is vs
  | σ, _, _ => σ
def puts : Stt → List Nat → List SV → Stt
  | s, i :: is, x :: xs => puts (put s i x) is xs
  | s, _, _ => s
theorem store_all {vs : List V} {ss : List SV} {ps : List Addr} : ∀ (is : List Nat) (σ : L2.St) (s : Stt), Rel K (Bs B ps) γ H0 σ H s → PvOk K H C H0 vs ss ps → (∀ a, Bh (Bs B ps) σ s.sl a → C a) → (∀ p ∈ ps, ¬ B p) → (∀ p, γ = some p → B p) →
    ss.length = is.length → Rel K B γ H0 (sets σ is vs) H (puts s is ss) ∧ ∀ a, Bh B (sets σ is vs) (puts s is ss).sl a → Bh (Bs B ps) σ s.sl a := fun is σ s r h => by
  induction h generalizing is σ s B with
  | nil =>
    intro _ _ _ hl
    cases is with
    | nil => exact ⟨r.unB (fun a z => .inl z) ‹_›, fun a z => z.imp .inl id⟩
    | cons _ _ => cases hl
  | @val v d vs ss ps rp h2 ih =>
    intro hC hp hg hl
    cases is with
    | nil => cases hl
    | cons i is =>
      have rp' := rp.sub hC
      have a1 := r.setV (i := i) rp'
      have sb : ∀ a, Bh (Bs B ps) (σ.set i (some v)) (put s i (.val d)).sl a → Bh (Bs B ps) σ s.sl a := fun a => setV_sub r.len
      obtain ⟨r2, s2⟩ := ih is _ _ a1.rel (fun a z => hC a (sb a z)) hp hg (by simpa using hl)
      exact ⟨r2, fun a z => sb a (s2 a z)⟩
  | @own p ws ds vs ss ps h1 h2 h3 h4 h5 ih =>
    intro hC hp hg hl
    cases is with
    | nil => cases hl
    | cons i is =>
      have r' : Rel K (Bp (Bs B ps) p) γ H0 σ H s := r.unB (fun a z => by
        rcases z with (z | z) | z
        · exact .inl z
        · exact .inr (List.mem_cons_of_mem _ z)
        · exact .inr (by rw [z]; exact List.mem_cons_self)) fun q e => .inl (.inl (hg q e))
      have sb0 : ∀ a, Bh (Bp (Bs B ps) p) σ s.sl a → Bh (Bs B (p :: ps)) σ s.sl a := fun a z => by
        rcases z with ((z | z) | z) | z
        · exact .inl (.inl z)
        · exact .inl (.inr (List.mem_cons_of_mem _ z))
        · exact .inl (.inr (by rw [z]; exact List.mem_cons_self))
        · exact .inr z
      have npB : ¬ Bs B ps p := fun z => z.elim (hp p List.mem_cons_self) h4
      obtain ⟨r1, sb⟩ := r'.setO (i := i) npB (fun q e => .inl (hg q e)) h3 h1 (h2.sub fun a z => hC a (sb0 a z))
      obtain ⟨r2, s2⟩ := ih is _ _ r1 (fun a z => hC a (sb0 a (sb a z))) (fun q hq => hp q (List.mem_cons_of_mem _ hq)) hg (by simpa using hl)
      exact ⟨r2, fun a z => sb0 a (sb a (s2 a z))⟩
end
section
variable {X : Cx} {e a b c : Expr} {es : List Expr} {pos p : Pos}
def pNil : MP := fun s => some ([], s)
def pD (m : MD) (n : MP) : MP := fun s => (m s).bind fun q => (n q.2).map fun t => (.val q.1 :: t.1, t.2)
def pL (m : MA) (n : MP) : MP := fun s => (m s).bind fun q => (n q.2).map fun t => (.own q.1 :: t.1, t.2)
theorem dp_nil : PA X [] (tPL X.K pNil) := PA.imp pa_nil fun σ H Q q => by
  obtain ⟨B, γ, H0, s, d, s', rl, e, k⟩ := q
  cases e
  have hb : ∀ a, Bs B [] a → B a := fun a z => z.elim id fun z => nomatch z
  exact k [] H [] (rl.unB hb fun p e => .inl (rl.gB p e)) (Mv.of_same (Same.refl H) fun a z => z.imp (hb a) id) (fun p hp => nomatch hp) .nil
theorem dp_d {m : MD} {n : MP} (ha : PE X e (tD X.K m)) (hr : PA X es (tPL X.K n)) (hs : starEach (e :: es) X.env = (false, eval e X.env) :: starEach es X.env := by rfl) : PA X (e :: es) (tPL X.K (pD m n)) :=
  PA.imp (pa_cons ha hr hs) fun σ H Q q => by
    obtain ⟨B, γ, H0, s, d, s', rl, e, k⟩ := q
    obtain ⟨⟨x, s1⟩, e1, e2⟩ := ob e
    obtain ⟨⟨y, s2⟩, e3, e4⟩ := om e2
    obtain ⟨rfl, rfl⟩ := Prod.mk.inj e4
    exact ⟨B, γ, H0, s, x, s1, rl, e1, fun v1 H1 a1 r1 => ⟨B, γ, H0, s1, y, s2, a1.rel, e3, fun vs H2 ps r2 mv hp pv => k _ _ ps r2 (a1.mv.trans mv) hp (.val (mv.frm _ _ r1) pv)⟩⟩
theorem dp_l {m : MA} {n : MP} (ha : PE X e (tDL X.K m)) (hr : PA X es (tPL X.K n)) (hs : starEach (e :: es) X.env = (false, eval e X.env) :: starEach es X.env := by rfl) : PA X (e :: es) (tPL X.K (pL m n)) :=
  PA.imp (pa_cons ha hr hs) fun σ H Q q => by
    obtain ⟨B, γ, H0, s, d, s', rl, e, k⟩ := q
    obtain ⟨⟨x, s1⟩, e1, e2⟩ := ob e
    obtain ⟨⟨y, s2⟩, e3, e4⟩ := om e2
    obtain ⟨rfl, rfl⟩ := Prod.mk.inj e4
    refine ⟨B, γ, H0, s, x, s1, rl, e1, fun p ws H1 r1 mv1 hp h1 h2 => ⟨Bp B p, γ, H0, s1, y, s2, r1, e3, fun vs H2 ps r2 mv2 hps pv => ?_⟩⟩
    have gp : γ ≠ some p := fun z => rl.bd p (rl.gB p z) hp
    have f1 : ∀ a, Bs B (p :: ps) a → Bs (Bp B p) ps a := fun a z => by
      rcases z with z | z
      · exact .inl (.inl z)
      · rcases List.mem_cons.mp z with z | z
        · exact .inl (.inr z)
        · exact .inr z
    have f2 : ∀ a, Bh (Bs B (p :: ps)) σ s2.sl a → Bh (Bs (Bp B p) ps) σ s2.sl a := fun a z => z.imp (f1 a) id
    refine k _ _ (p :: ps) (r2.unB f1 fun q e => .inl (rl.gB q e)) ⟨fun v d r => ((mv2.frm _ _ (mv1.frm v d r))).sub f2, fun b o hb hg eb => mv2.pv b o (.inl hb) hg (mv1.pv b o hb hg eb), fun b hb => mv2.dom b (mv1.dom b hb)⟩ (fun q hq => ?_)
      (.own (mv2.pv p _ (.inr rfl) gp h1) ((mv2.rpl h2).sub f2) (rl.h0 hp) (fun z => hps p z (.inr rfl)) (pv.sub f2))
    rcases List.mem_cons.mp hq with rfl | hq
    · exact fun z => rl.bd q z hp
    · exact fun z => hps q hq (.inl z)
def sPar (is : List Nat) (m : MP) : MS := fun s => (m s).bind fun q => if q.1.length = is.length then some (.nx (puts q.2 is q.1)) else none
theorem PvOk.len {K : PySem.W.Frag} {H H0 : Hp} {C : Bad} {vs : List V} {ss : List SV} {ps : List Addr} (h : PvOk K H C H0 vs ss ps) : vs.length = ss.length := by
  induction h with
  | nil => rfl
  | val _ _ ih => rw [List.length_cons, List.length_cons, ih]
  | own _ _ _ _ _ ih => rw [List.length_cons, List.length_cons, ih]
theorem par_go {is : List Nat} {m : MP} {D : Ends} {σ : L2.St} {H : Hp} (q : tDS X.K (sPar is m) D σ H) : tPL X.K m σ H fun vs H1 => vs.length = is.length ∧ D.nx (sets σ is vs) H1 := by
  obtain ⟨B, γ, H0, s, o, rl, e, k⟩ := q
  obtain ⟨⟨ss, s1⟩, e1, e2⟩ := ob e
  split at e2
  · rename_i hl
    cases e2
    refine ⟨B, γ, H0, s, ss, s1, rl, e1, fun vs H1 ps r1 mv hp pv => ⟨by rw [pv.len]; exact hl, ?_⟩⟩
    obtain ⟨r2, sb⟩ := store_all is σ s1 r1 pv (fun a z => z) hp rl.gB hl
    exact k _ _ ⟨r2, ⟨fun v d r => (mv.frm v d r).sub sb, mv.pv, mv.dom⟩⟩
  · cases e2
theorem ds_par {i j : Nat} {x y : Str} {m : MP} {px py pt : Pos} {kt k2 pt2} (hN : X.N.Nodup) (ha : PA X [a, b] (tPL X.K m)) (hij : i ≠ j := by decide) (hc : X.calm = true := by rfl) (hi : X.N[i]? = some x := by rfl) (hj : X.N[j]? = some y := by rfl)
    (hx : X.env.scope.names.lookup x = some .local := by rfl) (hy : X.env.scope.names.lookup y = some .local := by rfl)
    (hw : swappedStores [.Tuple [.Name x px, .Name y py] kt pt] (.Tuple [a, b] k2 pt2) X.env = pure (some [x, y]) := by rfl)
    (hs : swapsWithSole [.Tuple [.Name x px, .Name y py] kt pt] (.Tuple [a, b] k2 pt2) pos.line X.env = pure false := by rfl) :
    PS X (.Assign [.Tuple [.Name x px, .Name y py] kt pt] (.Tuple [a, b] k2 pt2) pos) (tDS X.K (sPar [i, j] m)) := PS.imp (ps_par hc hN hi hj hij hx hy ha hw hs) fun D σ H q => by
  have h := par_go q
  obtain ⟨B, γ, H0, s, ss, s1, rl, e1, kk⟩ := h
  refine ⟨B, γ, H0, s, ss, s1, rl, e1, fun vs H1 ps r1 mv hp pv => ?_⟩
  obtain ⟨hl, hd⟩ := kk vs H1 ps r1 mv hp pv
  match vs, hl, hd with
  | [v, w], _, hd => exact ⟨v, w, rfl, hd⟩
theorem ds_par3 {i j l : Nat} {x y z : Str} {m : MP} {px py pz pt : Pos} {kt k2 pt2} (hN : X.N.Nodup) (ha : PA X [a, b, c] (tPL X.K m)) (hij : i ≠ j := by decide) (hil : i ≠ l := by decide) (hjl : j ≠ l := by decide) (hc : X.calm = true := by rfl) (hi : X.N[i]? = some x := by rfl) (hj : X.N[j]? = some y := by rfl) (hl : X.N[l]? = some z := by rfl)
    (hx : X.env.scope.names.lookup x = some .local := by rfl) (hy : X.env.scope.names.lookup y = some .local := by rfl) (hz : X.env.scope.names.lookup z = some .local := by rfl)
    (hw : swappedStores [.Tuple [.Name x px, .Name y py, .Name z pz] kt pt] (.Tuple [a, b, c] k2 pt2) X.env = pure (some [x, y, z]) := by rfl)
    (hs : swapsWithSole [.Tuple [.Name x px, .Name y py, .Name z pz] kt pt] (.Tuple [a, b, c] k2 pt2) pos.line X.env = pure false := by rfl) :
    PS X (.Assign [.Tuple [.Name x px, .Name y py, .Name z pz] kt pt] (.Tuple [a, b, c] k2 pt2) pos) (tDS X.K (sPar [i, j, l] m)) := PS.imp (ps_par3 hc hN hi hj hl hij hil hjl hx hy hz ha hw hs) fun D σ H q => by
  have h := par_go q
  obtain ⟨B, γ, H0, s, ss, s1, rl, e1, kk⟩ := h
  refine ⟨B, γ, H0, s, ss, s1, rl, e1, fun vs H1 ps r1 mv hp pv => ?_⟩
  obtain ⟨hl, hd⟩ := kk vs H1 ps r1 mv hp pv
  match vs, hl, hd with
  | [v, w, u], _, hd => exact ⟨v, w, u, rfl, hd⟩

/-! ### a def's body -/
def slotsOf (N : Nat) (as : List AV) : List (Option SV) := as.map (fun a => match a with
  | .val d => some (SV.val d)
  | .urn => some SV.urn) ++ List.replicate (N - as.length) none
/-- a def of n parameters and N slots whose body is m -/
def runD (n N : Nat) (m : MS) : FM := fun as u => if as.length = n then (m ⟨slotsOf N as, u⟩).bind fun o => match o with
  | .rt r u' => some (r, u')
  | .nx s => some (.val .none, s.ur)
  | _ => none else none
theorem rpAs_start {K : PySem.W.Frag} {H : Hp} {C : Bad} {γ : Option Addr} {N : List Str} {vs : List V} {as : List AV} (h : RpAs K H C γ vs as) (i : Nat) (x : SV) (e : (slotsOf N.length as)[i]? = some (some x)) :
    ∃ v a, (L2.start N vs)[i]? = some (some v) ∧ RpA K H C γ v a ∧ x = (match a with
      | .val d => SV.val d
      | .urn => SV.urn) := by
  unfold slotsOf at e
  unfold L2.start
  have hl := h.len
  by_cases hi : i < as.length
  · rw [List.getElem?_append_left (by simpa using hi), List.getElem?_map] at e
    obtain ⟨a, e1, e2⟩ := om e
    have hg : ∀ {vs : List V} {as : List AV} {i : Nat} {a : AV}, RpAs K H C γ vs as → as[i]? = some a → ∃ v, vs[i]? = some v ∧ RpA K H C γ v a := by
      intro vs as i a h
      induction h generalizing i with
      | nil => intro e; simp at e
      | cons h1 _ ih =>
        intro e
        cases i with
        | zero => simp at e; subst e; exact ⟨_, rfl, h1⟩
        | succ i =>
          obtain ⟨v, q1, q2⟩ := ih (by simpa using e)
          exact ⟨v, by simpa using q1, q2⟩
    obtain ⟨v, q1, q2⟩ := hg h e1
    refine ⟨v, a, ?_, q2, ?_⟩
    · rw [List.getElem?_append_left (by rw [List.length_map]; omega), List.getElem?_map, q1]
      rfl
    · cases a <;> exact (Option.some.inj e2).symm
  · rw [List.getElem?_append_right (by simpa using hi)] at e
    have := List.getElem?_eq_some_iff.mp e
    obtain ⟨_, e'⟩ := this
    rw [List.getElem_replicate] at e'
    cases e'
theorem rel_start {K : PySem.W.Frag} {H : Hp} {C : Bad} {γ : Option Addr} {N : List Str} {vs : List V} {as : List AV} {u : Ur} (h : RpAs K H C γ vs as) (hu : UrOk H γ u) (hg : ∀ p, γ = some p → C p) (hb : ∀ a, C a → H a ≠ none) :
    Rel K C γ H (L2.start N vs) H ⟨slotsOf N.length as, u⟩ := by
  have no : ∀ (i : Nat) (ds : List Dt), (slotsOf N.length as)[i]? ≠ some (some (.own ds)) := fun i ds e => by
    obtain ⟨v, a, _, _, e3⟩ := rpAs_start h i _ e
    cases a <;> cases e3
  have sb : ∀ a, Bh C (L2.start N vs) (slotsOf N.length as) a → C a := fun a z => by
    rcases z with z | ⟨i, ds, z1, _⟩
    · exact z
    · exact absurd z1 (no i ds)
  exact {
    len := by
      show (slotsOf N.length as).length = (L2.start N vs).length
      unfold slotsOf L2.start
      rw [List.length_append, List.length_append, List.length_map, List.length_map, List.length_replicate, List.length_replicate, h.len]
    val := fun i d e => by
      obtain ⟨v, a, e1, e2, e3⟩ := rpAs_start h i _ e
      cases e2 with
      | val r => cases e3; exact ⟨v, e1, r.sub sb⟩
      | urn _ => cases e3
    own := fun i ds e => absurd e (no i ds)
    inj := fun i j ds es p e => absurd e (no i ds)
    urn := fun i e => by
      obtain ⟨v, a, e1, e2, e3⟩ := rpAs_start h i _ e
      cases e2 with
      | val r => cases e3
      | urn hp => exact ⟨_, hp, e1⟩
    ur := hu
    gB := hg
    bd := hb
    ent := fun b o e _ => e }
section
variable {P : Program} {w : World} {K : PySem.W.Frag} {mg : Str → Option Value} {base : Heap}
/-- THE RULE for a def: its body's computation -/
theorem fn_ok {x qual : Str} {st : Stmt} {f : Addr} {fd : FuncData} {N ps : List Str} {k : Nat} {m : MS} (F : Fun K x qual st f fd) (S : FnScope N ps (defScope st))
    (hbody : ∀ (cdv : Value) (A : Around) (outer : List Env) (s : Shared) (H : Hp) (E : XK), Room k (A.deeper (envOfC qual (defScope st) s.heap.objs.size f cdv)) →
      PSs (cxOf CX0 P w K mg base N qual (defScope st) f cdv A outer s H E).nox (defBody st) (tDS K m)) : FnOk P w K mg base CX0 (k + 1) f fd ps (spD K (runD ps.length N.length m)) := by
  refine F.ok S (fun vs H Q E h => ?_) fun cdv A outer s H vs Q E hr h => ⟨_, hbody cdv A outer s H E hr, ?_⟩
  · obtain ⟨C, γ, as, u, r, u', h1, _, _, _, h5, _⟩ := h
    unfold runD at h5
    split at h5
    · rename_i hl
      rw [h1.len, hl]
    · cases h5
  · obtain ⟨C, γ, as, u, r, u', h1, h2, h3, h4, h5, k⟩ := h
    unfold runD at h5
    split at h5
    · obtain ⟨o, e1, e2⟩ := ob h5
      refine ⟨C, γ, H, _, o, rel_start h1 h2 h3 h4, e1, ?_⟩
      cases o with
      | rt r0 u0 =>
        cases e2
        exact fun v H' rt => k v H' rt
      | nx s' =>
        cases e2
        exact fun σ' H' a => k _ H' (a.rel.ret .non)
      | bk s' => cases e2
      | ct s' => cases e2
    · cases h5
theorem fnD_mk {x qual : Str} {st : Stmt} {f : Addr} {fd : FuncData} {N ps : List Str} {k : Nat} {m : MS} (F : Fun K x qual st f fd) (S : FnScope N ps (defScope st)) (hm : mg x = some (.ref f)) (hb : Binds K fd ps [])
    (hbody : ∀ (cdv : Value) (A : Around) (outer : List Env) (s : Shared) (H : Hp) (E : XK), Room k (A.deeper (envOfC qual (defScope st) s.heap.objs.size f cdv)) →
      PSs (cxOf CX0 P w K mg base N qual (defScope st) f cdv A outer s H E).nox (defBody st) (tDS K m)) : FnD P w K mg base x (k + 1) (runD ps.length N.length m) := ⟨f, fd, ps, fn_ok F S hbody, hm, F.kp, hb⟩
end
end
end DL

set_option Elab.async false
set_option linter.all false
set_option maxRecDepth 100000
set_option maxHeartbeats 2000000
namespace DL
open PySem PySem.Spec PyProof.Rows L2

/-! ### operators on data -/
section
variable {X : Cx}
/-- two ints in, under a test c, an answer out -/
def dII (c : Int → Int → Bool) (g : Int → Int → Dt) : Dt → Dt → Option Dt
  | .int i, .int j => if c i j then some (g i j) else none
  | _, _ => none
theorem dII_inv {c : Int → Int → Bool} {g : Int → Int → Dt} {x y d : Dt} (h : dII c g x y = some d) : ∃ i j, x = .int i ∧ y = .int j ∧ c i j = true ∧ d = g i j := by
  cases x with
  | int i =>
    cases y with
    | int j =>
      have h' : (if c i j then some (g i j) else none) = some d := h
      split at h'
      · rename_i hc
        cases h'
        exact ⟨i, j, rfl, rfl, hc, rfl⟩
      · cases h'
    | _ => cases h
  | _ => cases h
theorem od_II {f : Value → Value → Sem Value} {C : Int → Int → Prop} {c : Int → Int → Bool} {g : Int → Int → V} {gd : Int → Int → Dt} (h : OpR X f (rI C g)) (hc : ∀ i j, c i j = true → C i j) (hg : ∀ i j H B, Rp X.K H B (g i j) (gd i j)) : OpD X f (dII c gd) :=
  ⟨_, h, fun B H x y dx dy d Q rx ry _ e k => by
    obtain ⟨i, j, rfl, rfl, h1, rfl⟩ := dII_inv e
    cases rx
    cases ry
    exact ⟨i, j, rfl, rfl, hc i j h1, k _ H (Same.refl H) (hg i j H B)⟩⟩
theorem od_I0 {f : Value → Value → Sem Value} {g : Int → Int → V} {gd : Int → Int → Dt} (h : OpR X f (rI0 g)) (hg : ∀ i j H B, Rp X.K H B (g i j) (gd i j)) : OpD X f (dII (fun _ _ => true) gd) :=
  ⟨_, h, fun B H x y dx dy d Q rx ry _ e k => by
    obtain ⟨i, j, rfl, rfl, h1, rfl⟩ := dII_inv e
    cases rx
    cases ry
    exact ⟨i, j, rfl, rfl, k _ H (Same.refl H) (hg i j H B)⟩⟩
def yes2 : Int → Int → Bool := fun _ _ => true
def dSub := dII yes2 fun i j => .int (i - j)
theorem od_sub : OpD X (binaryOp .Sub) dSub := od_I0 op_sub fun i j _ _ => .int (i - j)
def smallI (i : Int) : Bool := decide (-(2 ^ 64) < i) && decide (i < 2 ^ 64)
theorem smallI_ok {i : Int} (h : smallI i = true) : -(2 ^ 64) < i ∧ i < 2 ^ 64 := by
  unfold smallI at h
  rw [Bool.and_eq_true, decide_eq_true_eq, decide_eq_true_eq] at h
  exact h
def mulOk (i j : Int) : Bool := smallI i || smallI j || decide (i.natAbs.log2 + j.natAbs.log2 < 1000000)
def dMulI := dII mulOk fun i j => .int (i * j)
theorem od_mulI : OpD X (binaryOp .Mult) dMulI := by
  have h1 := od_II (X := X) (c := fun i j => smallI i || smallI j) (gd := fun i j => .int (i * j)) op_mul (fun i j h => by
    rcases Bool.or_eq_true_iff.mp h with h | h
    · exact .inl (smallI_ok h)
    · exact .inr (smallI_ok h)) fun i j _ _ => .int (i * j)
  have h2 := od_II (X := X) (c := fun i j => decide (i.natAbs.log2 + j.natAbs.log2 < 1000000)) (gd := fun i j => .int (i * j)) op_mulW (fun i j h => by
    show i.natAbs.log2 + j.natAbs.log2 < 1000000
    exact of_decide_eq_true h) fun i j _ _ => .int (i * j)
  obtain ⟨r, q1, q2⟩ := (h1.or h2).ex
  refine ⟨r, q1, fun B H x y dx dy d Q rx ry bd e k => q2 B H x y dx dy d Q rx ry bd ?_ k⟩
  obtain ⟨i, j, rfl, rfl, h3, rfl⟩ := dII_inv e
  show (if (smallI i || smallI j) = true then some (PyData.int (i * j)) else none).or (if decide (i.natAbs.log2 + j.natAbs.log2 < 1000000) = true then some (PyData.int (i * j)) else none) = _
  unfold mulOk at h3
  by_cases h4 : (smallI i || smallI j) = true
  · rw [if_pos h4]; rfl
  · rw [if_neg h4, if_pos (by
      rcases Bool.or_eq_true_iff.mp h3 with h | h
      · exact absurd h h4
      · exact h)]; rfl
def divOk (_ j : Int) : Bool := decide (0 < j) && decide (j.natAbs.log2 < 9000)
def dFdiv := dII divOk fun i j => .int (i / j)
theorem od_fdiv : OpD X (binaryOp .FloorDiv) dFdiv := od_II op_fdivW (fun i j h => by
  unfold divOk at h
  rw [Bool.and_eq_true, decide_eq_true_eq, decide_eq_true_eq] at h
  exact h) fun i j _ _ => .int (i / j)
def dMod := dII (fun _ j => decide (0 < j)) fun i j => .int (i % j)
theorem od_mod : OpD X (binaryOp .Mod) dMod := od_II op_mod (fun i j h => of_decide_eq_true h) fun i j _ _ => .int (i % j)
def powOk (i j : Int) : Bool := decide (0 ≤ j) && decide (j ≤ 1000000) && decide (i.natAbs < 2 ^ 64)
def dPow := dII powOk fun i j => .int (i ^ j.toNat)
theorem od_pow : OpD X (binaryOp .Pow) dPow := od_II op_pow (fun i j h => by
  unfold powOk at h
  rw [Bool.and_eq_true, Bool.and_eq_true, decide_eq_true_eq, decide_eq_true_eq, decide_eq_true_eq] at h
  exact ⟨h.1.1, h.1.2, h.2⟩) fun i j _ _ => .int (i ^ j.toNat)

/-! #### + -/
def dAddI := dII yes2 fun i j => .int (i + j)
def dAddS : Dt → Dt → Option Dt
  | .str x, .str y => if x.length + y.length ≤ sizeLine then some (.str (x ++ y)) else none
  | _, _ => none
def dAddT : Dt → Dt → Option Dt
  | .tuple xs, .tuple ys => if xs.length + ys.length ≤ sizeLine then some (.tuple (xs ++ ys)) else none
  | _, _ => none
theorem od_addT : OpD X (binaryOp .Add) dAddT := ⟨_, op_catA, fun B H x y dx dy d Q rx ry bd e k => by
  cases rx with
  | @tup a xs ds h1 h3 =>
    cases ry with
    | @tup b ys es g1 g3 =>
      have e' : (if ds.length + es.length ≤ sizeLine then some (PyData.tuple (ds ++ es)) else none) = some d := e
      split at e'
      · rename_i hl
        cases e'
        refine ⟨a, b, xs, ys, rfl, rfl, h1.sq, g1.sq, by rw [h3.len, g3.len]; exact hl, fun z => ?_, fun z1 z2 => ?_, fun z1 z2 p hp => ?_⟩
        · subst z
          cases h3
          exact k _ H (Same.refl H) (.tup g1 g3)
        · subst z2
          cases g3
          rw [List.append_nil] at k
          exact k _ H (Same.refl H) (.tup h1 h3)
        · exact k _ _ (same_new hp) (.tup (.inl upd_same) ((h3.append g3).same (same_new hp)))
      · cases e'
    | _ => cases e
  | _ => cases e⟩
theorem od_addS : OpD X (binaryOp .Add) dAddS := ⟨_, op_add_str, fun B H x y dx dy d Q rx ry bd e k => by
  cases rx with
  | str x =>
    cases ry with
    | str y =>
      have e' : (if x.length + y.length ≤ sizeLine then some (PyData.str (x ++ y)) else none) = some d := e
      split at e'
      · rename_i hl
        cases e'
        exact ⟨x, y, rfl, rfl, hl, k _ H (Same.refl H) (.str _)⟩
      · cases e'
    | _ => cases e
  | _ => cases e⟩
/-- list + list, whether locked or not -/
def rCatR : R2 := fun x y H Q => ∃ l b xs zs, x = .ref l ∧ y = .ref b ∧ Rd H l (.lst xs) ∧ Rd H b (.lst zs) ∧ xs.length + zs.length ≤ sizeLine ∧ ∀ p, H p = none → Q (.ref p) (upd H p (.lst (xs ++ zs)))
theorem op_catR : OpR X (binaryOp .Add) rCatR := fun pins s σ H x y v u Q I rx ry ⟨l, b, xs, zs, ex, ey, hl, hb, hz, q⟩ => by
  subst ex
  subst ey
  cases rx
  cases ry
  obtain ⟨z1, i1, n1, v1, g1⟩ := hl.ok I.hok
  obtain ⟨z2, i2, n2, v2, g2⟩ := hb.ok I.hok
  have l1 := v1.length
  have l2 := v2.length
  have ap : i1.toArray ++ i2.toArray = (i1 ++ i2).toArray := by simp
  refine PySem.P.add_list g1 g2 ?_ (by rw [List.size_toArray, List.size_toArray]; omega)
  rw [ap]
  exact ⟨.ref _, _, I.lnew (t' := s.toks) (v1.append v2) (by rw [List.length_append]; omega), rfl, q _ I.fresh⟩
def dAddL : Dt → Dt → Option Dt
  | .list xs, .list ys => if xs.length + ys.length ≤ sizeLine then some (.list (xs ++ ys)) else none
  | _, _ => none
theorem od_addL : OpD X (binaryOp .Add) dAddL := ⟨_, op_catR, fun B H x y dx dy d Q rx ry bd e k => by
  cases rx with
  | @lst a xs ds h1 n1 h3 =>
    cases ry with
    | @lst b ys es g1 n2 g3 =>
      have e' : (if ds.length + es.length ≤ sizeLine then some (PyData.list (ds ++ es)) else none) = some d := e
      split at e'
      · rename_i hl
        cases e'
        refine ⟨a, b, xs, ys, rfl, rfl, h1, g1, by rw [h3.len, g3.len]; exact hl, fun p hp => ?_⟩
        exact k _ _ (same_new hp) (.lst (.inl upd_same) (fun z => bd p z hp) ((h3.append g3).same (same_new hp)))
      · cases e'
    | _ => cases e
  | _ => cases e⟩
def dAdd : Dt → Dt → Option Dt
  | .int i, .int j => some (.int (i + j))
  | .str x, .str y => dAddS (.str x) (.str y)
  | .tuple xs, .tuple ys => dAddT (.tuple xs) (.tuple ys)
  | .list xs, .list ys => dAddL (.list xs) (.list ys)
  | _, _ => none
theorem od_add : OpD X (binaryOp .Add) dAdd := by
  obtain ⟨r, q1, q2⟩ := ((od_I0 (X := X) (gd := fun i j => .int (i + j)) op_add fun i j _ _ => .int (i + j)).or (od_addS.or (od_addT.or od_addL))).ex
  refine ⟨r, q1, fun B H x y dx dy d Q rx ry bd e k => q2 B H x y dx dy d Q rx ry bd ?_ k⟩
  have orE : ∀ {o o' : Option Dt}, o = some d → o.or o' = some d := fun h => by rw [h]; rfl
  have orN : ∀ {o o' : Option Dt}, o = none → o' = some d → o.or o' = some d := fun h h' => by rw [h]; exact h'
  cases dx <;> cases dy <;> first
    | exact e
    | exact orN rfl (orE e)
    | exact orN rfl (orN rfl (orE e))
    | exact orN rfl (orN rfl (orN rfl e))
    | cases e
/-! #### comparisons of ints -/
def dLtI := dII yes2 fun i j => .bool (decide (i < j))
def dLeI := dII yes2 fun i j => .bool (decide (i ≤ j))
def dGtI := dII yes2 fun i j => .bool (decide (j < i))
def dGeI := dII yes2 fun i j => .bool (decide (j ≤ i))
theorem od_ltI : OpD X (compareOp .Lt) dLtI := od_I0 op_lt fun i j _ _ => .bl _
theorem od_leI : OpD X (compareOp .LtE) dLeI := od_I0 op_le fun i j _ _ => .bl _
theorem od_gtI : OpD X (compareOp .Gt) dGtI := od_I0 op_gt fun i j _ _ => .bl _
theorem od_geI : OpD X (compareOp .GtE) dGeI := od_I0 op_ge fun i j _ _ => .bl _
/-! #### == and != -/
def eqOk (x y : Dt) : Bool := SeqAt.shaped x && SeqAt.shaped y
def dEq (x y : Dt) : Option Dt := if eqOk x y then some (.bool (PyData.eqv x y)) else none
def dNe (x y : Dt) : Option Dt := if eqOk x y then some (.bool (!PyData.eqv x y)) else none
theorem od_eq (hu : X.A.units + 64 < cLine) : OpD X (compareOp .Eq) dEq := ⟨_, op_eqD hu, fun B H x y dx dy d Q rx ry bd e k => by
  unfold dEq at e
  split at e
  · rename_i hs
    cases e
    obtain ⟨h1, h2⟩ := Bool.and_eq_true_iff.mp hs
    exact ⟨dx, dy, rx.dp (SeqAt.canLay_of_shaped h1), ry.dp (SeqAt.canLay_of_shaped h2), h1, h2, k _ H (Same.refl H) (.bl _)⟩
  · cases e⟩
theorem od_ne (hu : X.A.units + 64 < cLine) : OpD X (compareOp .NotEq) dNe := ⟨_, op_neD hu, fun B H x y dx dy d Q rx ry bd e k => by
  unfold dNe at e
  split at e
  · rename_i hs
    cases e
    obtain ⟨h1, h2⟩ := Bool.and_eq_true_iff.mp hs
    exact ⟨dx, dy, rx.dp (SeqAt.canLay_of_shaped h1), ry.dp (SeqAt.canLay_of_shaped h2), h1, h2, k _ H (Same.refl H) (.bl _)⟩
  · cases e⟩
def isNone : Dt → Bool
  | .none => true
  | _ => false
def dIs : Dt → Dt → Option Dt
  | x, .none => some (.bool (isNone x))
  | _, _ => none
def dIsNot : Dt → Dt → Option Dt
  | x, .none => some (.bool (!isNone x))
  | _, _ => none
theorem isNone_rp {K : PySem.W.Frag} {H : Hp} {B : Bad} {x : V} {d : Dt} (r : Rp K H B x d) : decide (x = V.non) = isNone d := by
  cases r with
  | non => rfl
  | _ => exact decide_eq_false (fun z => nomatch z)
theorem od_is : OpD X (compareOp .Is) dIs := ⟨_, op_isN, fun B H x y dx dy d Q rx ry bd e k => by
  cases ry with
  | non =>
    cases e
    exact ⟨rfl, by rw [isNone_rp rx]; exact k _ H (Same.refl H) (.bl _)⟩
  | _ => cases e⟩
theorem od_isnot : OpD X (compareOp .IsNot) dIsNot := ⟨_, op_notN, fun B H x y dx dy d Q rx ry bd e k => by
  cases ry with
  | non =>
    cases e
    exact ⟨rfl, by rw [isNone_rp rx]; exact k _ H (Same.refl H) (.bl _)⟩
  | _ => cases e⟩
def dNeg : Dt → Option Dt
  | .int i => some (.int (-i))
  | _ => none
theorem ud_neg : UnD X (unaryOp .USub) dNeg := ⟨_, un_neg, fun B H x dx d Q rx e k => by
  cases rx with
  | int i =>
    cases e
    exact ⟨i, rfl, k _ H (Same.refl H) (.int _)⟩
  | _ => cases e⟩
/-- a + b of lists, a new list -/
def mCatL (ma mb : MD) : MA := fun s => (ma s).bind fun p => (mb p.2).bind fun q => match p.1, q.1 with
  | .list xs, .list ys => if xs.length + ys.length ≤ sizeLine then some (xs ++ ys, q.2) else none
  | _, _ => none
theorem dl_cat {a b : Expr} {pos : Pos} {ma mb : MD} (ha : PE X a (tD X.K ma)) (hb : PE X b (tD X.K mb)) : PE X (.BinOp a .Add b pos) (tDL X.K (mCatL ma mb)) := dl_of (pe_op op_catR ha hb) fun σ H Q B γ H0 s ds s' rl e k => by
  obtain ⟨⟨x, s1⟩, e1, e2⟩ := ob e
  obtain ⟨⟨y, s2⟩, e3, e4⟩ := ob e2
  refine ⟨B, γ, H0, s, x, s1, rl, e1, fun v1 H1 a1 r1 => ⟨B, γ, H0, s1, y, s2, a1.rel, e3, fun v2 H2 a2 r2 => ?_⟩⟩
  have r1' := a2.mv.frm _ _ r1
  cases r1' with
  | @lst a xs fs h1 n1 h3 =>
    cases r2 with
    | @lst b ys es g1 n2 g3 =>
      have e' : (if fs.length + es.length ≤ sizeLine then some (fs ++ es, s2) else none) = some (ds, s') := e4
      split at e'
      · rename_i hl
        obtain ⟨rfl, rfl⟩ := Prod.mk.inj (Option.some.inj e')
        exact ⟨a, b, xs, ys, rfl, rfl, h1, g1, by rw [h3.len, g3.len]; exact hl, fun p hp => k p _ H2 (a1.trans a2) hp (h3.append g3)⟩
      · cases e'
    | _ => cases e4
  | _ => cases e4

/-! ### built-in functions on data -/
structure CallD (X : Cx) (f : Value) (g : List Dt → Option Dt) : Prop where
  ex : ∃ r : List V → Hp → VK → Prop, CallR X f r ∧ ∀ (B : Bad) (H : Hp) (vs : List V) (ds : List Dt) (d : Dt) (Q : VK), RpL X.K H B vs ds → (∀ a, B a → H a ≠ none) → g ds = some d → (∀ v H', Same H H' → Rp X.K H' B v d → Q v H') → r vs H Q
theorem CallD.or {f : Value} {g g' : List Dt → Option Dt} (h : CallD X f g) (h' : CallD X f g') : CallD X f (fun ds => (g ds).or (g' ds)) := by
  obtain ⟨r, h1, h2⟩ := h.ex
  obtain ⟨r', h1', h2'⟩ := h'.ex
  refine ⟨_, h1.or h1', fun B H vs ds d Q rl bd e k => ?_⟩
  cases q : g ds with
  | some z =>
    rw [q] at e
    exact .inl (h2 B H vs ds d Q rl bd (q.trans e) k)
  | none =>
    rw [q] at e
    exact .inr (h2' B H vs ds d Q rl bd e k)
theorem CallD.to {f : Value} {g g' : List Dt → Option Dt} (h : CallD X f g) (e : ∀ ds d, g' ds = some d → g ds = some d) : CallD X f g' := by
  obtain ⟨r, h1, h2⟩ := h.ex
  exact ⟨r, h1, fun B H vs ds d Q rl bd eq k => h2 B H vs ds d Q rl bd (e ds d eq) k⟩
def mFn (g : List Dt → Option Dt) (m : MA) : MD := fun s => (m s).bind fun q => (g q.1).map fun d => (d, q.2)
theorem fn_go {f : Value} {g : List Dt → Option Dt} {m : MA} {r : List V → Hp → VK → Prop} {σ : L2.St} {H : Hp} {Q : VK}
    (h2 : ∀ (B : Bad) (H : Hp) (vs : List V) (ds : List Dt) (d : Dt) (Q : VK), RpL X.K H B vs ds → (∀ a, B a → H a ≠ none) → g ds = some d → (∀ v H', Same H H' → Rp X.K H' B v d → Q v H') → r vs H Q)
    (q : tD X.K (mFn g m) σ H Q) : tCB r (tDA X.K m) σ H Q := by
  obtain ⟨B, γ, H0, s, d, s', rl, e, k⟩ := q
  obtain ⟨⟨x, s1⟩, e1, e2⟩ := ob e
  obtain ⟨z, e5, e6⟩ := om e2
  obtain ⟨rfl, rfl⟩ := Prod.mk.inj e6
  exact ⟨B, γ, H0, s, x, s1, rl, e1, fun vs H1 a1 r1 => h2 _ H1 vs x z Q r1 a1.rel.bdh e5 fun v H' sm rv => k v H' (a1.same sm) rv⟩
variable {x : Str} {p pos : Pos} {e : Expr} {es : List Expr}
theorem de_fnB {id : String} {g : List Dt → Option Dt} {m : MA} (hc : CallD X (.builtin id) g) (hm : X.mg x = none) (hv : bootBuiltins x = some (.builtin id)) (ha : PA X (e :: es) (tDA X.K m)) (hg : Gl X x := by rfl) (hn : x ≠ "__name__" := by decide) (hdb : (x == ("__debug__" : Str)) = false := by decide)
    (he : starEach (e :: es) X.env = (false, eval e X.env) :: starEach es X.env := by rfl) (hpl : (backTo pos (starEach es X.env)).any (·.1) = false := by rfl) : PE X (.Call (.Name x p) (e :: es) [] pos) (tD X.K (mFn g m)) := by
  obtain ⟨r, h1, h2⟩ := hc.ex
  exact PE.imp (pe_callB h1 hg hm hv ha hn hdb he hpl) fun σ H Q q => fn_go (f := .builtin id) h2 q
theorem de_fnT {T : String} {g : List Dt → Option Dt} {m : MA} (hc : CallD X (.type T) g) (hm : X.mg x = none) (hv : bootBuiltins x = some (.type T)) (ha : PA X (e :: es) (tDA X.K m)) (hg : Gl X x := by rfl) (hn : x ≠ "__name__" := by decide) (hdb : (x == ("__debug__" : Str)) = false := by decide)
    (he : starEach (e :: es) X.env = (false, eval e X.env) :: starEach es X.env := by rfl) (hpl : (backTo pos (starEach es X.env)).any (·.1) = false := by rfl) : PE X (.Call (.Name x p) (e :: es) [] pos) (tD X.K (mFn g m)) := by
  obtain ⟨r, h1, h2⟩ := hc.ex
  exact PE.imp (pe_callTy h1 hg hm hv ha hn hdb he hpl) fun σ H Q q => fn_go (f := .type T) h2 q
end
end DL

set_option Elab.async false
set_option linter.all false
set_option maxRecDepth 100000
set_option maxHeartbeats 2000000
namespace DL
open PySem PySem.Spec PyProof.Rows L2

/-! ### len, sum, min, max, abs, int, all, any -/
def intsD : List Dt → Option (List Int)
  | [] => some []
  | .int i :: r => (intsD r).map fun ns => i :: ns
  | _ :: _ => none
theorem intsD_eq : ∀ {ds : List Dt} {ns : List Int}, intsD ds = some ns → ds = ns.map .int
  | [], ns, h => by cases h; rfl
  | d :: r, ns, h => by
    cases d with
    | int i =>
      obtain ⟨ms, e1, e2⟩ := om (show (intsD r).map _ = some ns from h)
      subst e2
      rw [intsD_eq e1]
      rfl
    | _ => cases h
theorem intsD_map : ∀ ns : List Int, intsD (ns.map .int) = some ns
  | [] => rfl
  | n :: ns => by
    show (intsD (ns.map .int)).map _ = _
    rw [intsD_map ns]
    rfl
def boolsD : List Dt → Option (List Bool)
  | [] => some []
  | .bool i :: r => (boolsD r).map fun ns => i :: ns
  | _ :: _ => none
theorem boolsD_eq : ∀ {ds : List Dt} {ns : List Bool}, boolsD ds = some ns → ds = ns.map .bool
  | [], ns, h => by cases h; rfl
  | d :: r, ns, h => by
    cases d with
    | bool i =>
      obtain ⟨ms, e1, e2⟩ := om (show (boolsD r).map _ = some ns from h)
      subst e2
      rw [boolsD_eq e1]
      rfl
    | _ => cases h
theorem boolsD_map : ∀ ns : List Bool, boolsD (ns.map .bool) = some ns
  | [] => rfl
  | n :: ns => by
    show (boolsD (ns.map .bool)).map _ = _
    rw [boolsD_map ns]
    rfl
theorem RpL.bools {K : PySem.W.Frag} {B : Bad} {H : Hp} : ∀ {vs : List V} {ns : List Bool}, RpL K H B vs (ns.map .bool) → vs = ns.map V.bl
  | _, [], .nil => rfl
  | _, n :: ns, .cons (.bl _) r => by rw [RpL.bools r]; rfl
section
variable {X : Cx} {x : Str} {p pos : Pos} {e a b : Expr} {es : List Expr}
def fLen : List Dt → Option Dt
  | [.list xs] => some (.int xs.length)
  | [.tuple xs] => some (.int xs.length)
  | [.str z] => if z.length ≤ sizeLine then some (.int z.length) else none
  | _ => none
theorem one_arg {K : PySem.W.Frag} {H : Hp} {B : Bad} {vs : List V} {d : Dt} (r : RpL K H B vs [d]) : ∃ v, vs = [v] ∧ Rp K H B v d := by
  cases r with
  | cons h t => cases t; exact ⟨_, rfl, h⟩
theorem two_arg {K : PySem.W.Frag} {H : Hp} {B : Bad} {vs : List V} {d d' : Dt} (r : RpL K H B vs [d, d']) : ∃ v v', vs = [v, v'] ∧ Rp K H B v d ∧ Rp K H B v' d' := by
  cases r with
  | cons h t =>
    obtain ⟨w, rfl, h2⟩ := one_arg t
    exact ⟨_, w, rfl, h, h2⟩
theorem cd_len : CallD X (.builtin "len") fLen := ⟨_, call_len_seq.or call_len_str, fun B H vs ds d Q rl bd eq k => by
  unfold fLen at eq
  split at eq
  · cases eq
    obtain ⟨v, rfl, h⟩ := one_arg rl
    cases h with
    | lst h1 _ h3 => exact .inl ⟨_, _, rfl, .inl (.inl h1), by rw [h3.len]; exact k _ H (Same.refl H) (.int _)⟩
  · cases eq
    obtain ⟨v, rfl, h⟩ := one_arg rl
    cases h with
    | tup h1 h3 => exact .inl ⟨_, _, rfl, .inr h1.sq, by rw [h3.len]; exact k _ H (Same.refl H) (.int _)⟩
  · split at eq
    · rename_i hz
      cases eq
      obtain ⟨v, rfl, h⟩ := one_arg rl
      cases h with
      | str _ => exact .inr ⟨_, rfl, hz, k _ H (Same.refl H) (.int _)⟩
    · cases eq
  · cases eq⟩
/-- len(x), x a name -/
def mLenN (i : Nat) : MD := fun s => (slotD s s i).bind fun d => (fLen [d]).map fun z => (z, s)
theorem de_lenN {i : Nat} (hm : X.mg "len" = none) (ha : PE X a (tVar i)) (hg : Gl X "len" := by rfl) (hs : starEach [a] X.env = (false, eval a X.env) :: starEach [] X.env := by rfl) : PE X (.Call (.Name "len" p) [a] [] pos) (tD X.K (mLenN i)) :=
  PE.imp (pe_callB (call_len_seq.or call_len_str) hg hm PySem.boot_len (pa_cons ha pa_nil hs) (by decide) (by decide) hs rfl) fun σ H Q q => by
    obtain ⟨B, γ, H0, s, d, s', rl, e, k⟩ := q
    obtain ⟨dx, e1, e2⟩ := ob e
    obtain ⟨z, e3, e4⟩ := om e2
    obtain ⟨rfl, rfl⟩ := Prod.mk.inj e4
    obtain ⟨v, hv, hr⟩ := slot_read rl (Aft.refl rl) e1
    refine ⟨v, hv, ?_⟩
    have kk : ∀ n : Int, z = .int n → Q (.int n) H := fun n ez => by
      subst ez
      exact k _ H (Aft.refl rl) (.int n)
    rcases hr with hr | ⟨p', vs, ds, rfl, rfl, h2, h3⟩
    · cases hr with
      | lst h1 _ h3 => cases e3; exact .inl ⟨_, _, rfl, .inl (.inl h1), by rw [h3.len]; exact kk _ rfl⟩
      | tup h1 h3 => cases e3; exact .inl ⟨_, _, rfl, .inr h1.sq, by rw [h3.len]; exact kk _ rfl⟩
      | str y =>
        have e3' : (if y.length ≤ sizeLine then some (PyData.int y.length) else none) = some z := e3
        split at e3'
        · rename_i hz
          cases e3'
          exact .inr ⟨y, rfl, hz, kk _ rfl⟩
        · cases e3'
      | _ => cases e3
    · cases e3
      exact .inl ⟨_, _, rfl, .inl (.inl (.inl h2)), by rw [h3.len]; exact kk _ rfl⟩
def fSum : List Dt → Option Dt
  | [.list ds] => (intsD ds).map fun ns => .int ns.sum
  | _ => none
theorem cd_sum (hc : X.calm = true) : CallD X (.builtin "sum") fSum := ⟨_, cr_sum hc, fun B H vs ds d Q rl bd eq k => by
  unfold fSum at eq
  split at eq
  · obtain ⟨ns, e1, e2⟩ := om eq
    subst e2
    obtain ⟨v, rfl, h⟩ := one_arg rl
    rw [intsD_eq e1] at h
    cases h with
    | lst h1 _ h3 =>
      rw [h3.ints] at h1
      exact ⟨_, ns, rfl, .inl h1, k _ H (Same.refl H) (.int _)⟩
  · cases eq⟩
def maxI : List Int → Int
  | [] => 0
  | n :: ns => ns.foldl max n
def minI : List Int → Int
  | [] => 0
  | n :: ns => ns.foldl min n
theorem foldl_max_ge : ∀ (ns : List Int) (n : Int), n ≤ ns.foldl max n ∧ ∀ y ∈ ns, y ≤ ns.foldl max n
  | [], n => ⟨Int.le_refl n, fun _ h => nomatch h⟩
  | m :: ns, n => by
    obtain ⟨h1, h2⟩ := foldl_max_ge ns (max n m)
    refine ⟨?_, fun y hy => ?_⟩
    · show n ≤ ns.foldl max (max n m)
      omega
    · show y ≤ ns.foldl max (max n m)
      rcases List.mem_cons.mp hy with rfl | hy
      · omega
      · exact h2 y hy
theorem foldl_max_mem : ∀ (ns : List Int) (n : Int), ns.foldl max n = n ∨ ns.foldl max n ∈ ns
  | [], n => .inl rfl
  | m :: ns, n => by
    rcases foldl_max_mem ns (max n m) with h | h
    · show ns.foldl max (max n m) = n ∨ ns.foldl max (max n m) ∈ m :: ns
      rw [h]
      rcases Int.le_total n m with q | q
      · rw [Int.max_eq_right q]; exact .inr List.mem_cons_self
      · rw [Int.max_eq_left q]; exact .inl rfl
    · exact .inr (List.mem_cons_of_mem _ h)
theorem foldl_min_le : ∀ (ns : List Int) (n : Int), ns.foldl min n ≤ n ∧ ∀ y ∈ ns, ns.foldl min n ≤ y
  | [], n => ⟨Int.le_refl n, fun _ h => nomatch h⟩
  | m :: ns, n => by
    obtain ⟨h1, h2⟩ := foldl_min_le ns (min n m)
    refine ⟨?_, fun y hy => ?_⟩
    · show ns.foldl min (min n m) ≤ n
      omega
    · show ns.foldl min (min n m) ≤ y
      rcases List.mem_cons.mp hy with rfl | hy
      · omega
      · exact h2 y hy
theorem foldl_min_mem : ∀ (ns : List Int) (n : Int), ns.foldl min n = n ∨ ns.foldl min n ∈ ns
  | [], n => .inl rfl
  | m :: ns, n => by
    rcases foldl_min_mem ns (min n m) with h | h
    · show ns.foldl min (min n m) = n ∨ ns.foldl min (min n m) ∈ m :: ns
      rw [h]
      rcases Int.le_total n m with q | q
      · rw [Int.min_eq_left q]; exact .inl rfl
      · rw [Int.min_eq_right q]; exact .inr List.mem_cons_self
    · exact .inr (List.mem_cons_of_mem _ h)
theorem maxI_eq {ns : List Int} {m : Int} (h : m ∈ ns) (hm : ∀ y ∈ ns, y ≤ m) : m = maxI ns := by
  cases ns with
  | nil => cases h
  | cons n r =>
    show m = r.foldl max n
    obtain ⟨h1, h2⟩ := foldl_max_ge r n
    have a : r.foldl max n ≤ m := by
      rcases foldl_max_mem r n with q | q
      · rw [q]; exact hm n List.mem_cons_self
      · exact hm _ (List.mem_cons_of_mem _ q)
    have b : m ≤ r.foldl max n := by
      rcases List.mem_cons.mp h with q | q
      · rw [q]; exact h1
      · exact h2 m q
    omega
theorem minI_eq {ns : List Int} {m : Int} (h : m ∈ ns) (hm : ∀ y ∈ ns, m ≤ y) : m = minI ns := by
  cases ns with
  | nil => cases h
  | cons n r =>
    show m = r.foldl min n
    obtain ⟨h1, h2⟩ := foldl_min_le r n
    have a : m ≤ r.foldl min n := by
      rcases foldl_min_mem r n with q | q
      · rw [q]; exact hm n List.mem_cons_self
      · exact hm _ (List.mem_cons_of_mem _ q)
    have b : r.foldl min n ≤ m := by
      rcases List.mem_cons.mp h with q | q
      · rw [q]; exact h1
      · exact h2 m q
    omega
def fMax : List Dt → Option Dt
  | [.list ds] => (intsD ds).bind fun ns => if ns.isEmpty then none else some (.int (maxI ns))
  | [.int i, .int j] => some (.int (if j > i then j else i))
  | _ => none
def fMin : List Dt → Option Dt
  | [.list ds] => (intsD ds).bind fun ns => if ns.isEmpty then none else some (.int (minI ns))
  | [.int i, .int j] => some (.int (if j < i then j else i))
  | _ => none
theorem len_pos_of {ns : List Int} (h : ¬ ns.isEmpty = true) : 0 < ns.length := by
  cases ns with
  | nil => exact absurd rfl h
  | cons _ _ => exact Nat.succ_pos _
theorem cd_max (hc : X.calm = true) : CallD X (.builtin "max") fMax := ⟨_, (cr_max hc).or (call_max2 hc), fun B H vs ds d Q rl bd eq k => by
  unfold fMax at eq
  split at eq
  · obtain ⟨ns, e1, e2⟩ := ob eq
    split at e2
    · cases e2
    · rename_i hne
      cases e2
      obtain ⟨v, rfl, h⟩ := one_arg rl
      rw [intsD_eq e1] at h
      cases h with
      | lst h1 _ h3 =>
        rw [h3.ints] at h1
        exact .inl ⟨_, ns, rfl, .inl h1, len_pos_of hne, fun m hm hy => by rw [maxI_eq hm hy]; exact k _ H (Same.refl H) (.int _)⟩
  · cases eq
    obtain ⟨v, w, rfl, h1, h2⟩ := two_arg rl
    cases h1
    cases h2
    exact .inr ⟨_, _, rfl, k _ H (Same.refl H) (.int _)⟩
  · cases eq⟩
theorem cd_min (hc : X.calm = true) : CallD X (.builtin "min") fMin := ⟨_, (cr_min hc).or (call_min2 hc), fun B H vs ds d Q rl bd eq k => by
  unfold fMin at eq
  split at eq
  · obtain ⟨ns, e1, e2⟩ := ob eq
    split at e2
    · cases e2
    · rename_i hne
      cases e2
      obtain ⟨v, rfl, h⟩ := one_arg rl
      rw [intsD_eq e1] at h
      cases h with
      | lst h1 _ h3 =>
        rw [h3.ints] at h1
        exact .inl ⟨_, ns, rfl, .inl h1, len_pos_of hne, fun m hm hy => by rw [minI_eq hm hy]; exact k _ H (Same.refl H) (.int _)⟩
  · cases eq
    obtain ⟨v, w, rfl, h1, h2⟩ := two_arg rl
    cases h1
    cases h2
    exact .inr ⟨_, _, rfl, k _ H (Same.refl H) (.int _)⟩
  · cases eq⟩
def fAbs : List Dt → Option Dt
  | [.int i] => some (.int (if i < 0 then -i else i))
  | _ => none
theorem cd_abs : CallD X (.builtin "abs") fAbs := ⟨_, call_abs, fun B H vs ds d Q rl bd eq k => by
  unfold fAbs at eq
  split at eq
  · cases eq
    obtain ⟨v, rfl, h⟩ := one_arg rl
    cases h
    exact ⟨_, rfl, k _ H (Same.refl H) (.int _)⟩
  · cases eq⟩
def fInt : List Dt → Option Dt
  | [.int i] => some (.int i)
  | [.bool b] => some (.int (if b then 1 else 0))
  | _ => none
theorem cd_int : CallD X (.type "int") fInt := ⟨_, call_int1, fun B H vs ds d Q rl bd eq k => by
  unfold fInt at eq
  split at eq
  · cases eq
    obtain ⟨v, rfl, h⟩ := one_arg rl
    cases h
    exact .inl ⟨_, rfl, k _ H (Same.refl H) (.int _)⟩
  · cases eq
    obtain ⟨v, rfl, h⟩ := one_arg rl
    cases h
    exact .inr ⟨_, rfl, k _ H (Same.refl H) (.int _)⟩
  · cases eq⟩
def fAll : List Dt → Option Dt
  | [.list ds] => (boolsD ds).map fun bs => .bool (bs.all id)
  | _ => none
def fAny : List Dt → Option Dt
  | [.list ds] => (boolsD ds).map fun bs => .bool (bs.any id)
  | _ => none
theorem cd_all (hc : X.calm = true) : CallD X (.builtin "all") fAll := ⟨_, cr_all hc, fun B H vs ds d Q rl bd eq k => by
  unfold fAll at eq
  split at eq
  · obtain ⟨ns, e1, e2⟩ := om eq
    subst e2
    obtain ⟨v, rfl, h⟩ := one_arg rl
    rw [boolsD_eq e1] at h
    cases h with
    | lst h1 _ h3 =>
      rw [h3.bools] at h1
      exact ⟨_, ns, rfl, .inl h1, k _ H (Same.refl H) (.bl _)⟩
  · cases eq⟩
theorem cd_any (hc : X.calm = true) : CallD X (.builtin "any") fAny := ⟨_, cr_any hc, fun B H vs ds d Q rl bd eq k => by
  unfold fAny at eq
  split at eq
  · obtain ⟨ns, e1, e2⟩ := om eq
    subst e2
    obtain ⟨v, rfl, h⟩ := one_arg rl
    rw [boolsD_eq e1] at h
    cases h with
    | lst h1 _ h3 =>
      rw [h3.bools] at h1
      exact ⟨_, ns, rfl, .inl h1, k _ H (Same.refl H) (.bl _)⟩
  · cases eq⟩
/-! ### tuple(x), list(x), sorted(x) -/
def fTup : List Dt → Option Dt
  | [.list xs] => some (.tuple xs)
  | [.tuple xs] => some (.tuple xs)
  | _ => none
theorem cd_tup : CallD X (.type "tuple") fTup := ⟨_, call_tuple_of, fun B H vs ds d Q rl bd eq k => by
  unfold fTup at eq
  split at eq
  · cases eq
    obtain ⟨v, rfl, h⟩ := one_arg rl
    cases h with
    | lst h1 _ h3 => exact ⟨_, _, rfl, .inl ⟨.inl h1, fun l hl => k _ _ (same_new hl) (.tup (.inl upd_same) (h3.same (same_new hl)))⟩⟩
  · cases eq
    obtain ⟨v, rfl, h⟩ := one_arg rl
    cases h with
    | tup h1 h3 => exact ⟨_, _, rfl, .inr ⟨h1.sq, k _ H (Same.refl H) (.tup h1 h3)⟩⟩
  · cases eq⟩
/-- a built-in that makes a new list -/
structure CallL (X : Cx) (f : Value) (g : List Dt → Option (List Dt)) : Prop where
  ex : ∃ r : List V → Hp → VK → Prop, CallR X f r ∧ ∀ (B : Bad) (H : Hp) (vs : List V) (ds out : List Dt) (Q : VK), RpL X.K H B vs ds → g ds = some out → (∀ p ws, H p = none → RpL X.K H B ws out → Q (.ref p) (upd H p (.lst ws))) → r vs H Q
def mFnL (g : List Dt → Option (List Dt)) (m : MA) : MA := fun s => (m s).bind fun q => (g q.1).map fun d => (d, q.2)
theorem dl_fnT {T : String} {g : List Dt → Option (List Dt)} {m : MA} (hc : CallL X (.type T) g) (hm : X.mg x = none) (hv : bootBuiltins x = some (.type T)) (ha : PA X (e :: es) (tDA X.K m)) (hg : Gl X x := by rfl) (hn : x ≠ "__name__" := by decide) (hdb : (x == ("__debug__" : Str)) = false := by decide)
    (he : starEach (e :: es) X.env = (false, eval e X.env) :: starEach es X.env := by rfl) (hpl : (backTo pos (starEach es X.env)).any (·.1) = false := by rfl) : PE X (.Call (.Name x p) (e :: es) [] pos) (tDL X.K (mFnL g m)) := by
  obtain ⟨r, h1, h2⟩ := hc.ex
  refine dl_of (pe_callTy h1 hg hm hv ha hn hdb he hpl) fun σ H Q B γ H0 s ds s' rl e k => ?_
  obtain ⟨⟨x, s1⟩, e1, e2⟩ := ob e
  obtain ⟨z, e5, e6⟩ := om e2
  obtain ⟨rfl, rfl⟩ := Prod.mk.inj e6
  exact ⟨B, γ, H0, s, x, s1, rl, e1, fun vs H1 a1 r1 => h2 _ H1 vs x z Q r1 e5 fun p ws hp rw => k p ws H1 a1 hp rw⟩
theorem dl_fnB {id : String} {g : List Dt → Option (List Dt)} {m : MA} (hc : CallL X (.builtin id) g) (hm : X.mg x = none) (hv : bootBuiltins x = some (.builtin id)) (ha : PA X (e :: es) (tDA X.K m)) (hg : Gl X x := by rfl) (hn : x ≠ "__name__" := by decide) (hdb : (x == ("__debug__" : Str)) = false := by decide)
    (he : starEach (e :: es) X.env = (false, eval e X.env) :: starEach es X.env := by rfl) (hpl : (backTo pos (starEach es X.env)).any (·.1) = false := by rfl) : PE X (.Call (.Name x p) (e :: es) [] pos) (tDL X.K (mFnL g m)) := by
  obtain ⟨r, h1, h2⟩ := hc.ex
  refine dl_of (pe_callB h1 hg hm hv ha hn hdb he hpl) fun σ H Q B γ H0 s ds s' rl e k => ?_
  obtain ⟨⟨x, s1⟩, e1, e2⟩ := ob e
  obtain ⟨z, e5, e6⟩ := om e2
  obtain ⟨rfl, rfl⟩ := Prod.mk.inj e6
  exact ⟨B, γ, H0, s, x, s1, rl, e1, fun vs H1 a1 r1 => h2 _ H1 vs x z Q r1 e5 fun p ws hp rw => k p ws H1 a1 hp rw⟩
def fList : List Dt → Option (List Dt)
  | [.list xs] => some xs
  | [.tuple xs] => some xs
  | _ => none
theorem cl_list : CallL X (.type "list") fList := ⟨_, call_list_of, fun B H vs ds out Q rl eq k => by
  unfold fList at eq
  split at eq
  · cases eq
    obtain ⟨v, rfl, h⟩ := one_arg rl
    cases h with
    | lst h1 _ h3 => exact ⟨_, _, rfl, .inl (.inl h1), fun l hl => k l _ hl h3⟩
  · cases eq
    obtain ⟨v, rfl, h⟩ := one_arg rl
    cases h with
    | tup h1 h3 => exact ⟨_, _, rfl, .inr h1.sq, fun l hl => k l _ hl h3⟩
  · cases eq⟩
def insI (x : Int) : List Int → List Int
  | [] => [x]
  | y :: r => if x ≤ y then x :: y :: r else y :: insI x r
def sortI : List Int → List Int
  | [] => []
  | x :: r => insI x (sortI r)
theorem insI_perm (x : Int) : ∀ l : List Int, (insI x l).Perm (x :: l)
  | [] => List.Perm.refl _
  | y :: r => by
    unfold insI
    split
    · exact List.Perm.refl _
    · exact ((insI_perm x r).cons y).trans (List.Perm.swap x y r)
theorem sortI_perm : ∀ l : List Int, (sortI l).Perm l
  | [] => List.Perm.refl _
  | x :: r => (insI_perm x (sortI r)).trans ((sortI_perm r).cons x)
theorem insI_sorted (x : Int) : ∀ l : List Int, l.Pairwise (· ≤ ·) → (insI x l).Pairwise (· ≤ ·)
  | [], _ => List.pairwise_singleton _ _
  | y :: r, h => by
    have h' := List.pairwise_cons.mp h
    unfold insI
    split
    · rename_i hxy
      refine List.pairwise_cons.mpr ⟨fun z hz => ?_, h⟩
      rcases List.mem_cons.mp hz with rfl | hz
      · exact hxy
      · exact Int.le_trans hxy (h'.1 z hz)
    · rename_i hxy
      refine List.pairwise_cons.mpr ⟨fun z hz => ?_, insI_sorted x r h'.2⟩
      rcases List.mem_cons.mp ((insI_perm x r).mem_iff.mp hz) with rfl | hz
      · omega
      · exact h'.1 z hz
theorem sortI_sorted : ∀ l : List Int, (sortI l).Pairwise (· ≤ ·)
  | [] => List.Pairwise.nil
  | x :: r => insI_sorted x _ (sortI_sorted r)
theorem sorted_unique {l m : List Int} (hl : l.Pairwise (· ≤ ·)) (hm : m.Pairwise (· ≤ ·)) (h : l.Perm m) : l = m := h.eq_of_pairwise (fun a b _ _ h1 h2 => Int.le_antisymm h1 h2) hl hm
def fSorted : List Dt → Option (List Dt)
  | [.list ds] => (intsD ds).map fun ns => (sortI ns).map .int
  | _ => none
theorem cl_sorted : CallL X (.builtin "sorted") fSorted := ⟨_, cr_sortedI, fun B H vs ds out Q rl eq k => by
  unfold fSorted at eq
  split at eq
  · obtain ⟨ns, e1, e2⟩ := om eq
    subst e2
    obtain ⟨v, rfl, h⟩ := one_arg rl
    rw [intsD_eq e1] at h
    cases h with
    | lst h1 _ h3 =>
      rw [h3.ints] at h1
      refine ⟨_, ns, rfl, .inl h1, fun ns' p hp hs hn => ?_⟩
      rw [sorted_unique hs (sortI_sorted ns) (hp.trans (sortI_perm ns).symm)]
      exact k p _ hn (RpL.of_ints _)
  · cases eq⟩
end
end DL

set_option Elab.async false
set_option linter.all false
set_option maxRecDepth 100000
set_option maxHeartbeats 2000000
namespace DL
open PySem PySem.Spec PyProof.Rows L2

/-! ### slices -/
def cutL {α : Type} (xs : List α) (lo hi : Option Int) : List α := (xs.drop (HT.sIx xs.length 0 lo)).take (HT.sIx xs.length xs.length hi - HT.sIx xs.length 0 lo)
theorem RpL.cut {K : PySem.W.Frag} {H : Hp} {B : Bad} {vs : List V} {ds : List Dt} (r : RpL K H B vs ds) (lo hi : Option Int) : RpL K H B (cutV vs lo hi) (cutL ds lo hi) := by
  unfold cutV cutL
  rw [r.len]
  exact (r.drop _).take _
abbrev MO := Stt → Option (Option Int × Stt)
def tDO (K : PySem.W.Frag) (m : MO) : TO := fun σ H Q => ∃ B γ H0 s o s', Rel K B γ H0 σ H s ∧ m s = some (o, s') ∧ ∀ H', Aft K B γ H0 σ H s σ H' s' → Q o H'
theorem PO.imp {X : Cx} {e : Option Expr} {t t' : TO} (h : PO X e t) (k : ∀ σ H Q, t' σ H Q → t σ H Q) : PO X e t' := ⟨fun pins s σ H Q I q => h.run pins s σ H Q I (k σ H Q q)⟩
section
variable {X : Cx} {x : Str} {p p2 pos : Pos} {e a b : Expr} {es : List Expr} {lo hi : Option Expr}
def oNone : MO := fun s => some (none, s)
def intD : Dt → Option Int
  | .int i => some i
  | _ => none
theorem intD_eq {d : Dt} {i : Int} (h : intD d = some i) : d = .int i := by
  cases d <;> first | (cases h; rfl) | cases h
def oSome (m : MD) : MO := fun s => (m s).bind fun q => (intD q.1).map fun i => (some i, q.2)
theorem do_none : PO X none (tDO X.K oNone) := PO.imp po_none fun σ H Q q => by
  obtain ⟨B, γ, H0, s, d, s', rl, e, k⟩ := q
  obtain ⟨rfl, rfl⟩ := Prod.mk.inj (Option.some.inj e)
  exact k H (Aft.refl rl)
theorem do_some {m : MD} (h : PE X e (tD X.K m)) : PO X (some e) (tDO X.K (oSome m)) := PO.imp (po_some h) fun σ H Q q => by
  obtain ⟨B, γ, H0, s, d, s', rl, e, k⟩ := q
  obtain ⟨⟨x, s1⟩, e1, e2⟩ := ob e
  obtain ⟨i, e5, e6⟩ := om e2
  obtain ⟨rfl, rfl⟩ := Prod.mk.inj e6
  have ex := intD_eq e5
  subst ex
  refine ⟨B, γ, H0, s, _, s1, rl, e1, fun v H1 a1 r1 => ?_⟩
  cases r1
  exact ⟨i, rfl, k H1 a1⟩
theorem SlR.or {r r' : V → Option Int → Option Int → Hp → VK → Prop} (h : SlR X r) (h' : SlR X r') : SlR X (fun x l u H Q => r x l u H Q ∨ r' x l u H Q) := by
  intro pins s σ H x v vl vu lo hi sl Q I rx hs pl pu q
  rcases q with q | q
  · exact h pins s σ H x v vl vu lo hi sl Q I rx hs pl pu q
  · exact h' pins s σ H x v vl vu lo hi sl Q I rx hs pl pu q
/-- a tuple's or a text's slice -/
def dSl (d : Dt) (l u : Option Int) : Option Dt := match d with
  | .tuple xs => some (.tuple (cutL xs l u))
  | .str z => if z.length ≤ sizeLine then some (.str (cutS z l u)) else none
  | .list xs => some (.list (cutL xs l u))
  | .dict [(.none, .list xs)] => some (.list (cutL xs l u))
  | _ => none
def mSl (m : MD) (ml mh : MO) : MD := fun s => (m s).bind fun q => (ml q.2).bind fun l => (mh l.2).bind fun u => (dSl q.1 l.1 u.1).map fun z => (z, u.2)
theorem cutL_whole {α : Type} {xs : List α} {l u : Option Int} (h1 : HT.sIx xs.length 0 l = 0) (h2 : HT.sIx xs.length xs.length u = xs.length) : cutL xs l u = xs := by
  unfold cutL
  rw [h1, h2, List.drop_zero, Nat.sub_zero, List.take_length]
theorem sl_go {K : PySem.W.Frag} {H : Hp} {B : Bad} {v : V} {d z : Dt} {l u : Option Int} {Q : VK} (r : Rp K H B v d) (bd : ∀ a, B a → H a ≠ none) (e : dSl d l u = some z) (k : ∀ w H', Same H H' → Rp K H' B w z → Q w H') :
    rSlL K v l u H Q ∨ (rSlA K v l u H Q ∨ rSlS v l u H Q) := by
  cases r with
  | lst h1 n h3 =>
    cases e
    exact .inl ⟨_, _, rfl, .inl h1, fun p hp => k _ _ (same_new hp) (.lst (.inl upd_same) (fun z => bd p z hp) ((h3.cut l u).same (same_new hp)))⟩
  | @tup a xs ds h1 h3 =>
    cases e
    refine .inr (.inl ⟨_, _, rfl, h1.sq, fun hw => ?_, fun hw p hp => ?_⟩)
    · have e1 : cutL ds l u = ds := by rw [h3.len] at hw; exact cutL_whole hw.1 hw.2
      rw [e1] at k
      exact k _ H (Same.refl H) (.tup h1 h3)
    · exact k _ _ (same_new hp) (.tup (.inl upd_same) ((h3.cut l u).same (same_new hp)))
  | str y =>
    have e' : (if y.length ≤ sizeLine then some (PyData.str (cutS y l u)) else none) = some z := e
    split at e'
    · rename_i hz
      cases e'
      exact .inr (.inr ⟨y, rfl, hz, k _ H (Same.refl H) (.str _)⟩)
    · cases e'
  | @scr a ns h1 =>
    cases e
    exact .inl ⟨_, _, rfl, h1.sq, fun p hp => k _ _ (same_new hp) (.lst (.inl upd_same) (fun z => bd p z hp) (((RpL.of_ints ns).cut l u).same (same_new hp)))⟩
  | _ => cases e
theorem de_sl {m : MD} {ml mh : MO} (h : PE X e (tD X.K m)) (hl : PO X lo (tDO X.K ml)) (hu : PO X hi (tDO X.K mh)) : PE X (.Subscript e (.Slice lo hi none p2) pos) (tD X.K (mSl m ml mh)) :=
  PE.imp (pe_slice (SlR.or sl_list (SlR.or sl_tupA sl_str)) h hl hu) fun σ H Q q => by
    obtain ⟨B, γ, H0, s, d, s', rl, e, k⟩ := q
    obtain ⟨⟨x, s1⟩, e1, e2⟩ := ob e
    obtain ⟨⟨l, s2⟩, e3, e4⟩ := ob e2
    obtain ⟨⟨u, s3⟩, e5, e6⟩ := ob e4
    obtain ⟨z, e7, e8⟩ := om e6
    obtain ⟨rfl, rfl⟩ := Prod.mk.inj e8
    refine ⟨B, γ, H0, s, x, s1, rl, e1, fun v H1 a1 r1 => ⟨B, γ, H0, s1, l, s2, a1.rel, e3, fun H2 a2 => ⟨B, γ, H0, s2, u, s3, a2.rel, e5, fun H3 a3 => ?_⟩⟩⟩
    have a := (a1.trans a2).trans a3
    exact sl_go (a3.mv.frm _ _ (a2.mv.frm _ _ r1)) a.rel.bdh e7 fun w H' sm rw => k w H' (a.same sm) rw
/-- a list's slice, a new list -/
def mSlL (m : MD) (ml mh : MO) : MA := fun s => (m s).bind fun q => (ml q.2).bind fun l => (mh l.2).bind fun u => match q.1 with
  | .list xs => some (cutL xs l.1 u.1, u.2)
  | _ => none
theorem dl_sl {m : MD} {ml mh : MO} (h : PE X e (tD X.K m)) (hl : PO X lo (tDO X.K ml)) (hu : PO X hi (tDO X.K mh)) : PE X (.Subscript e (.Slice lo hi none p2) pos) (tDL X.K (mSlL m ml mh)) :=
  dl_of (pe_slice sl_list h hl hu) fun σ H Q B γ H0 s ds s' rl e k => by
    obtain ⟨⟨x, s1⟩, e1, e2⟩ := ob e
    obtain ⟨⟨l, s2⟩, e3, e4⟩ := ob e2
    obtain ⟨⟨u, s3⟩, e5, e6⟩ := ob e4
    refine ⟨B, γ, H0, s, x, s1, rl, e1, fun v H1 a1 r1 => ⟨B, γ, H0, s1, l, s2, a1.rel, e3, fun H2 a2 => ⟨B, γ, H0, s2, u, s3, a2.rel, e5, fun H3 a3 => ?_⟩⟩⟩
    have a := (a1.trans a2).trans a3
    have r3 := a3.mv.frm _ _ (a2.mv.frm _ _ r1)
    cases r3 with
    | lst h1 n h3 =>
      obtain ⟨rfl, rfl⟩ := Prod.mk.inj (Option.some.inj e6)
      exact ⟨_, _, rfl, .inl h1, fun p hp => k p _ H3 a hp (h3.cut l u)⟩
    | _ => cases e6
/-! ### *e in displays -/
def lisD : Dt → Option (List Dt)
  | .list xs => some xs
  | .tuple xs => some xs
  | _ => none
def mStar (m : MD) (n : MA) : MA := fun s => (m s).bind fun q => (lisD q.1).bind fun xs => (n q.2).map fun t => (xs ++ t.1, t.2)
theorem da_star {m : MD} {n : MA} (h : PE X e (tD X.K m)) (hr : PA X es (tDA X.K n)) (hs : starEach (.Starred e p :: es) X.env = (true, eval e X.env) :: starEach es X.env := by rfl) : PA X (.Starred e p :: es) (tDA X.K (mStar m n)) :=
  PA.imp (StX.pa_star h hr hs) fun σ H Q q => by
    obtain ⟨B, γ, H0, s, d, s', rl, e, k⟩ := q
    obtain ⟨⟨x, s1⟩, e1, e2⟩ := ob e
    obtain ⟨xs, e3, e4⟩ := ob e2
    obtain ⟨⟨y, s2⟩, e5, e6⟩ := om e4
    obtain ⟨rfl, rfl⟩ := Prod.mk.inj e6
    refine ⟨B, γ, H0, s, x, s1, rl, e1, fun v H1 a1 r1 => ?_⟩
    cases r1 with
    | lst h1 n h3 =>
      cases e3
      exact ⟨_, _, rfl, .inr (.inl h1), B, γ, H0, s1, y, s2, a1.rel, e5, fun vs H2 a2 r2 => k _ H2 (a1.trans a2) ((a2.mv.rpl h3).append r2)⟩
    | tup h1 h3 =>
      cases e3
      exact ⟨_, _, rfl, .inl h1.sq, B, γ, H0, s1, y, s2, a1.rel, e5, fun vs H2 a2 r2 => k _ H2 (a1.trans a2) ((a2.mv.rpl h3).append r2)⟩
    | _ => cases e3
/-! ### isinstance -/
def tyName : Dt → Option String
  | .none => some "NoneType"
  | .bool _ => some "bool"
  | .int _ => some "int"
  | .str _ => some "str"
  | .list _ => some "list"
  | .tuple _ => some "tuple"
  | .dict _ => none
theorem tyX_of {K : PySem.W.Frag} {H : Hp} {B : Bad} {v : V} {d : Dt} {n : String} (r : Rp K H B v d) (h : tyName d = some n) : TyX K H v (.type n) := by
  cases r with
  | non => cases h; exact .base .non
  | bl b => cases h; exact .base (.bl b)
  | int i => cases h; exact .base (.int i)
  | str x => cases h; exact .base (.str x)
  | lst h1 _ _ =>
    cases h
    rcases h1 with h1 | ⟨o, h1⟩
    · exact .base (.lst h1)
    · exact .base (.frz h1)
  | tup h1 _ =>
    cases h
    rcases h1 with h1 | ⟨o, its, n, h1, h2, _⟩
    · exact .base (.tup h1)
    · exact .kTuple h1 h2
  | scr _ => cases h
def mIsa (ts : List String) (m : MD) : MD := fun s => (m s).bind fun q => (tyName q.1).map fun n => (.bool (ts.any fun t => n == t || (n == "bool" && t == "int")), q.2)
def isaOk (t : String) : Bool := ["NoneType", "bool", "int", "str", "list", "tuple"].all fun n => decide (kitB n t = some (n == t || (n == "bool" && t == "int")))
theorem isa_one {K : PySem.W.Frag} {t n : String} {d : Dt} (h : isaOk t = true) (hn : tyName d = some n) : PySem.W.kitOne K (.type n) (.type t) = some (n == t || (n == "bool" && t == "int")) := by
  unfold isaOk at h
  rw [List.all_eq_true] at h
  refine kit_ty (of_decide_eq_true (h n ?_))
  cases d <;> cases hn <;> decide
theorem de_isa {t : String} {m : MD} {k : Nat} {T : Str} {pT pN : Pos} (hm : X.mg "isinstance" = none) (hmT : X.mg T = none) (hbT : bootBuiltins T = some (.type t)) (ho : isaOk t = true) (he : PE X e (tD X.K m)) (hg : Gl X "isinstance" := by rfl) (hgT : Gl X T := by rfl) (hnT : T ≠ "__name__" := by decide) (hdT : (T == ("__debug__" : Str)) = false := by decide)
    (hs : starEach [e, .Name T pT] X.env = (false, eval e X.env) :: starEach [.Name T pT] X.env := by rfl) (hs2 : starEach [.Name T pT] X.env = (false, eval (.Name T pT) X.env) :: starEach [] X.env := by rfl) : PE X (.Call (.Name "isinstance" pN) [e, .Name T pT] [] pos) (tD X.K (mIsa [t] m)) :=
  PE.imp (pe_callB call_isi hg hm PyProof.Rows.boot_isinstance (pa_cons he (pa_cons (pe_bltn (v := .ty t) hgT hmT hbT rfl hnT hdT) pa_nil hs2) hs) (by decide) (by decide) hs rfl) fun σ H Q q => by
    obtain ⟨B, γ, H0, s, d, s', rl, e, k⟩ := q
    obtain ⟨⟨x, s1⟩, e1, e2⟩ := ob e
    obtain ⟨n, e3, e4⟩ := om e2
    obtain ⟨rfl, rfl⟩ := Prod.mk.inj e4
    refine ⟨B, γ, H0, s, x, s1, rl, e1, fun v H1 a1 r1 => ⟨v, .ty t, .type n, .type t, _, rfl, .ty t, tyX_of r1 e3, isa_one ho e3, ?_⟩⟩
    have := k (.bl ([t].any fun t => n == t || (n == "bool" && t == "int"))) H1 a1 (.bl _)
    simpa using this
/-- isinstance(e, (T, U)) -/
theorem de_isa2 {t u : String} {m : MD} {k : Nat} {T U : Str} {pT pU pP pN : Pos} (hm : X.mg "isinstance" = none) (hmT : X.mg T = none) (hbT : bootBuiltins T = some (.type t)) (hmU : X.mg U = none) (hbU : bootBuiltins U = some (.type u)) (ho : isaOk t = true) (ho2 : isaOk u = true) (he : PE X e (tD X.K m)) (hg : Gl X "isinstance" := by rfl) (hgT : Gl X T := by rfl) (hgU : Gl X U := by rfl)
    (hnT : T ≠ "__name__" := by decide) (hdT : (T == ("__debug__" : Str)) = false := by decide) (hnU : U ≠ "__name__" := by decide) (hdU : (U == ("__debug__" : Str)) = false := by decide)
    (hs : starEach [e, .Tuple [.Name T pT, .Name U pU] k pP] X.env = (false, eval e X.env) :: starEach [.Tuple [.Name T pT, .Name U pU] k pP] X.env := by rfl) (hs2 : starEach [.Tuple [.Name T pT, .Name U pU] k pP] X.env = (false, eval (.Tuple [.Name T pT, .Name U pU] k pP) X.env) :: starEach [] X.env := by rfl)
    (hs3 : starEach [.Name T pT, .Name U pU] X.env = (false, eval (.Name T pT) X.env) :: starEach [.Name U pU] X.env := by rfl) (hs4 : starEach [.Name U pU] X.env = (false, eval (.Name U pU) X.env) :: starEach [] X.env := by rfl) :
    PE X (.Call (.Name "isinstance" pN) [e, .Tuple [.Name T pT, .Name U pU] k pP] [] pos) (tD X.K (mIsa [t, u] m)) :=
  PE.imp (pe_callB call_isiT hg hm PyProof.Rows.boot_isinstance (pa_cons he (pa_cons (pe_tup (pa_cons (pe_bltn (v := .ty t) hgT hmT hbT rfl hnT hdT) (pa_cons (pe_bltn (v := .ty u) hgU hmU hbU rfl hnU hdU) pa_nil hs4) hs3)) pa_nil hs2) hs) (by decide) (by decide) hs rfl) fun σ H Q q => by
    obtain ⟨B, γ, H0, s, d, s', rl, e, k⟩ := q
    obtain ⟨⟨x, s1⟩, e1, e2⟩ := ob e
    obtain ⟨n, e3, e4⟩ := om e2
    obtain ⟨rfl, rfl⟩ := Prod.mk.inj e4
    refine ⟨B, γ, H0, s, x, s1, rl, e1, fun v H1 a1 r1 => ⟨by show 2 ≤ sizeLine; decide, fun tp htp => ?_⟩⟩
    have sm : Same H1 (upd H1 tp (.tup [.ty t, .ty u])) := same_new htp
    refine ⟨v, tp, [.ty t, .ty u], .type n, [.type t, .type u], ((n == t || (n == "bool" && t == "int")) || (n == u || (n == "bool" && u == "int"))), rfl, upd_same, .cons (.ty t) (.cons (.ty u) .nil), tyX_of (r1.same sm) e3, ?_, ?_⟩
    · cases hb : (n == t || (n == "bool" && t == "int")) with
      | true => exact kitAny_cons (b := true) (by rw [isa_one ho e3, hb]) (fun z => nomatch z) (fun _ => rfl)
      | false =>
        refine kitAny_cons (b := false) (by rw [isa_one ho e3, hb]) (fun _ => ?_) (fun z => nomatch z)
        refine kitAny_cons (isa_one ho2 e3) (fun z => ?_) (fun z => ?_)
        · rw [z]; rfl
        · rw [z]; rfl
    · have := k (.bl ([t, u].any fun t => n == t || (n == "bool" && t == "int"))) _ (a1.same sm) (.bl _)
      simpa using this
/-! ### zip, enumerate -/
def zipD : List Dt → List Dt → List Dt
  | x :: xs, y :: ys => .tuple [x, y] :: zipD xs ys
  | _, _ => []
theorem zipD_get : ∀ {xs ys : List Dt} {i : Nat} {d : Dt}, (zipD xs ys)[i]? = some d → ∃ x y, xs[i]? = some x ∧ ys[i]? = some y ∧ d = .tuple [x, y]
  | [], _, _, _, h => by simp [zipD] at h
  | _ :: _, [], _, _, h => by simp [zipD] at h
  | x :: xs, y :: ys, 0, d, h => ⟨x, y, rfl, rfl, (Option.some.inj h).symm⟩
  | x :: xs, y :: ys, i + 1, d, h => by
    obtain ⟨a, b, h1, h2, h3⟩ := zipD_get (xs := xs) (ys := ys) (i := i) (d := d) h
    exact ⟨a, b, h1, h2, h3⟩
theorem zipD_len : ∀ (xs ys : List Dt), (zipD xs ys).length = min xs.length ys.length
  | [], ys => by simp [zipD]
  | x :: xs, [] => by simp [zipD]
  | x :: xs, y :: ys => by
    show (zipD xs ys).length + 1 = min (xs.length + 1) (ys.length + 1)
    rw [zipD_len xs ys]
    omega
theorem it_zip {K : PySem.W.Frag} {H : Hp} {C : Bad} {a b : Addr} {xs ys : List Dt} (h1 : Rp K H C (.ref a) (.list xs)) (h2 : Rp K H C (.ref b) (.list ys)) : ItOk K (Itz K a b) H C (zipD xs ys) := by
  have op : ∀ {H C a zs}, Rp K H C (.ref a) (.list zs) → ∃ vs, SqL K H a vs ∧ RpL K H C vs zs := fun h => by
    cases h with
    | lst h1 _ h3 => exact ⟨_, .inl h1, h3⟩
  refine ⟨fun H C => Rp K H C (.ref a) (.list xs) ∧ Rp K H C (.ref b) (.list ys), ⟨h1, h2⟩, fun H C H' C' f g => ⟨f _ _ g.1, f _ _ g.2⟩, fun i H C g hi => ?_, fun i H C g hi => ?_, fun i H C x H' d g e y => ?_⟩
  · obtain ⟨vs, q1, q2⟩ := op g.1
    obtain ⟨ws, q3, q4⟩ := op g.2
    rw [zipD_len] at hi
    obtain ⟨v, e1, _⟩ := q2.get (List.getElem?_eq_getElem (show i < xs.length by omega))
    obtain ⟨w, e2, _⟩ := q4.get (List.getElem?_eq_getElem (show i < ys.length by omega))
    exact ⟨vs, ws, v, w, q1, q3, e1, e2⟩
  · obtain ⟨vs, q1, q2⟩ := op g.1
    obtain ⟨ws, q3, q4⟩ := op g.2
    rw [zipD_len] at hi
    refine ⟨vs, ws, q1, q3, ?_⟩
    rw [q2.len, q4.len]
    omega
  · obtain ⟨vs, q1, q2⟩ := op g.1
    obtain ⟨ws, q3, q4⟩ := op g.2
    obtain ⟨T, x1, x2, rfl, nT, rfl, f1, f2⟩ := y
    obtain ⟨d1, d2, e1, e2, rfl⟩ := zipD_get e
    obtain ⟨v, w1, w2⟩ := q2.get e1
    obtain ⟨w, w3, w4⟩ := q4.get e2
    have z1 := f1 vs q1
    have z2 := f2 ws q3
    rw [w1] at z1; cases z1
    rw [w3] at z2; cases z2
    exact ⟨same_new nT, .tup (.inl upd_same) ((RpL.cons w2 (.cons w4 .nil)).same (same_new nT))⟩
theorem it_zipT {K : PySem.W.Frag} {H : Hp} {C : Bad} {a b : Addr} {xs ys : List Dt} (h1 : Rp K H C (.ref a) (.tuple xs)) (h2 : Rp K H C (.ref b) (.tuple ys)) : ItOk K (RZ.ItzT K a b) H C (zipD xs ys) := by
  have op : ∀ {H C a zs}, Rp K H C (.ref a) (.tuple zs) → ∃ vs, SqT K H a vs ∧ RpL K H C vs zs := fun h => by
    cases h with
    | tup h1 h3 => exact ⟨_, h1.sq, h3⟩
  refine ⟨fun H C => Rp K H C (.ref a) (.tuple xs) ∧ Rp K H C (.ref b) (.tuple ys), ⟨h1, h2⟩, fun H C H' C' f g => ⟨f _ _ g.1, f _ _ g.2⟩, fun i H C g hi => ?_, fun i H C g hi => ?_, fun i H C x H' d g e y => ?_⟩
  · obtain ⟨vs, q1, q2⟩ := op g.1
    obtain ⟨ws, q3, q4⟩ := op g.2
    rw [zipD_len] at hi
    obtain ⟨v, e1, _⟩ := q2.get (List.getElem?_eq_getElem (show i < xs.length by omega))
    obtain ⟨w, e2, _⟩ := q4.get (List.getElem?_eq_getElem (show i < ys.length by omega))
    exact ⟨vs, ws, v, w, q1, q3, e1, e2⟩
  · obtain ⟨vs, q1, q2⟩ := op g.1
    obtain ⟨ws, q3, q4⟩ := op g.2
    rw [zipD_len] at hi
    refine ⟨vs, ws, q1, q3, ?_⟩
    rw [q2.len, q4.len]
    omega
  · obtain ⟨vs, q1, q2⟩ := op g.1
    obtain ⟨ws, q3, q4⟩ := op g.2
    obtain ⟨T, x1, x2, rfl, nT, rfl, f1, f2⟩ := y
    obtain ⟨d1, d2, e1, e2, rfl⟩ := zipD_get e
    obtain ⟨v, w1, w2⟩ := q2.get e1
    obtain ⟨w, w3, w4⟩ := q4.get e2
    have z1 := f1 vs q1
    have z2 := f2 ws q3
    rw [w1] at z1; cases z1
    rw [w3] at z2; cases z2
    exact ⟨same_new nT, .tup (.inl upd_same) ((RpL.cons w2 (.cons w4 .nil)).same (same_new nT))⟩
def iZip2 (m : MA) : MA := fun s => (m s).bind fun q => match q.1 with
  | [.list xs, .list ys] => some (zipD xs ys, q.2)
  | [.tuple xs, .tuple ys] => some (zipD xs ys, q.2)
  | _ => none
theorem di_zip {m : MA} {tpos : Pos} {elts : List Expr} {kk : Nat} (hm : X.mg "zip" = none) (ha : PA X [a, b] (tDA X.K m)) (hg : Gl X "zip" := by rfl) (hs : starEach [a, b] X.env = (false, eval a X.env) :: starEach [b] X.env := by rfl) (hpl : (backTo pos (starEach [b] X.env)).any (·.1) = false := by rfl) :
    PI X (.Tuple elts kk tpos) (.Call (.Name "zip" p) [a, b] [] pos) (tDI X.K (iZip2 m)) := PI.imp (RZ.pi_zipA hg hm ha hs hpl) fun σ H R q => by
  obtain ⟨B, γ, H0, s, ds, s', rl, e, k⟩ := q
  obtain ⟨⟨x, s1⟩, e1, e2⟩ := ob e
  refine ⟨B, γ, H0, s, x, s1, rl, e1, fun vs H1 a1 r1 => ?_⟩
  dsimp only at e2
  split at e2
  · obtain ⟨rfl, rfl⟩ := Prod.mk.inj (Option.some.inj e2)
    obtain ⟨v, w, rfl, h1, h2⟩ := two_arg r1
    have h1' := h1
    have h2' := h2
    cases h1 with
    | lst q1 _ _ =>
      cases h2 with
      | lst q2 _ _ => exact ⟨_, _, _, _, rfl, .inl ⟨.inl q1, .inl q2, k _ H1 a1 (it_zip h1' h2')⟩⟩
  · obtain ⟨rfl, rfl⟩ := Prod.mk.inj (Option.some.inj e2)
    obtain ⟨v, w, rfl, h1, h2⟩ := two_arg r1
    have h1' := h1
    have h2' := h2
    cases h1 with
    | tup q1 _ =>
      cases h2 with
      | tup q2 _ => exact ⟨_, _, _, _, rfl, .inr ⟨q1.sq, q2.sq, k _ H1 a1 (it_zipT h1' h2')⟩⟩
  · cases e2
def enumD (n : Nat) : List Dt → List Dt
  | [] => []
  | x :: xs => .tuple [.int n, x] :: enumD (n + 1) xs
theorem enumD_len : ∀ (n : Nat) (xs : List Dt), (enumD n xs).length = xs.length
  | _, [] => rfl
  | n, x :: xs => by
    show (enumD (n + 1) xs).length + 1 = xs.length + 1
    rw [enumD_len]
theorem enumD_get : ∀ {n : Nat} {xs : List Dt} {i : Nat} {d : Dt}, (enumD n xs)[i]? = some d → ∃ x, xs[i]? = some x ∧ d = .tuple [.int ((n + i : Nat) : Int), x]
  | _, [], _, _, h => by simp [enumD] at h
  | n, x :: xs, 0, d, h => ⟨x, rfl, (Option.some.inj h).symm⟩
  | n, x :: xs, i + 1, d, h => by
    obtain ⟨a, h1, h2⟩ := enumD_get (n := n + 1) (xs := xs) (i := i) (d := d) h
    exact ⟨a, h1, by rw [h2]; congr 3; omega⟩
theorem it_enum {K : PySem.W.Frag} {H : Hp} {C : Bad} {a : Addr} {xs : List Dt} (h1 : Rp K H C (.ref a) (.list xs)) : ItOk K (Ite K a) H C (enumD 0 xs) := by
  have op : ∀ {H C}, Rp K H C (.ref a) (.list xs) → ∃ vs, SqL K H a vs ∧ RpL K H C vs xs := fun h => by
    cases h with
    | lst h1 _ h3 => exact ⟨_, .inl h1, h3⟩
  refine ⟨fun H C => Rp K H C (.ref a) (.list xs), h1, fun H C H' C' f g => f _ _ g, fun i H C g hi => ?_, fun i H C g hi => ?_, fun i H C x H' d g e y => ?_⟩
  · obtain ⟨vs, q1, q2⟩ := op g
    rw [enumD_len] at hi
    obtain ⟨v, e1, _⟩ := q2.get (List.getElem?_eq_getElem hi)
    exact ⟨vs, v, q1, e1⟩
  · obtain ⟨vs, q1, q2⟩ := op g
    rw [enumD_len] at hi
    exact ⟨vs, q1, by rw [q2.len]; exact hi⟩
  · obtain ⟨vs, q1, q2⟩ := op g
    obtain ⟨T, x1, rfl, nT, rfl, f1⟩ := y
    obtain ⟨d1, e1, rfl⟩ := enumD_get e
    obtain ⟨v, w1, w2⟩ := q2.get e1
    have z1 := f1 vs q1
    rw [w1] at z1; cases z1
    rw [Nat.zero_add]
    exact ⟨same_new nT, .tup (.inl upd_same) ((RpL.cons (.int _) (.cons w2 .nil)).same (same_new nT))⟩
def iEnumL (m : MA) : MA := fun s => (m s).bind fun q => match q.1 with
  | [.list xs] => some (enumD 0 xs, q.2)
  | _ => none
theorem di_enum {m : MA} {tpos : Pos} {elts : List Expr} {kk : Nat} (hm : X.mg "enumerate" = none) (ha : PA X [a] (tDA X.K m)) (hg : Gl X "enumerate" := by rfl) (hs : starEach [a] X.env = [(false, eval a X.env)] := by rfl) :
    PI X (.Tuple elts kk tpos) (.Call (.Name "enumerate" p) [a] [] pos) (tDI X.K (iEnumL m)) := PI.imp (pi_enum hg hm ha hs) fun σ H R q => by
  obtain ⟨B, γ, H0, s, ds, s', rl, e, k⟩ := q
  obtain ⟨⟨x, s1⟩, e1, e2⟩ := ob e
  refine ⟨B, γ, H0, s, x, s1, rl, e1, fun vs H1 a1 r1 => ?_⟩
  dsimp only at e2
  split at e2
  · obtain ⟨rfl, rfl⟩ := Prod.mk.inj (Option.some.inj e2)
    obtain ⟨v, rfl, h1⟩ := one_arg r1
    have h1' := h1
    cases h1 with
    | lst q1 _ _ => exact ⟨_, _, rfl, .inl q1, k _ H1 a1 (it_enum h1')⟩
  · cases e2
end
end DL

set_option Elab.async false
set_option linter.all false
set_option maxRecDepth 100000
set_option maxHeartbeats 4000000
namespace DL
open PySem PySem.Spec PyProof.Rows L2

theorem le_ne1 {a b : Nat} (h : b ≤ a) (e : b = a + 1) : False := by omega
theorem lt_ne1 {a b : Nat} (h : b < a) (e : b = a + 1) : False := by omega
/-! ### set(xs): any way of adding -/
/-- a set just made -/
abbrev newSetO (w : World) : Obj := { cls := .type "set", dict := none, data := .set #[] 0 (.fresh 0 0 (!w.params.followText "set-order")) }
section
variable {P : Program} {w : World} {A : Around} {E : Value → Shared → Prop} {s : Shared}
/-- how the i-th item goes into the set at S: Iv i tells the heap ahead of it -/
def AddsAt (P : Program) (w : World) (A : Around) (S : Addr) (at_ : Nat → Value → Prop) (Iv : Nat → Heap → Prop) : Prop :=
  ∀ (i : Nat) (v : Value) (s : Shared) (Q : Bool → Shared → Prop) (E : Value → Shared → Prop), at_ i v → Iv i s.heap → (∀ b h' tk, Heap.SameBut S s.heap h' → s.toks ≤ tk → Iv (i + 1) h' → Q b { s with heap := h', toks := tk }) → wpAny (model P w) A (setAdd S v) Q E s
theorem upd_loop {I : Addr} {fp wr : List Addr} {G : Array GenState → Array GenState → Prop} {n : Nat} {Pv : Nat → Value → Prop} {St : Nat → Shared → Prop} {R : Result → Shared → Prop}
    (W : WalksS P w A.in1 I fp wr G n Pv St) (S : Addr) (nS : S ∉ fp) (Iv : Nat → Heap → Prop) (mono : ∀ i h h', Iv i h → (∀ b o, b ∉ wr → h.get? b = some o → h'.get? b = some o) → Iv i h') (ad : AddsAt P w A.in1 S Pv Iv) :
    ∀ (k i : Nat) (s : Shared), n - i = k → i ≤ n → St i s → Iv i s.heap → (∀ s', Moved (S :: wr) G s s' → Iv n s'.heap → R (.ok (.ret .none)) s') → codeAny (model P w) A (.builtin "set.update.loop" ⟨[.ref S, .ref I], []⟩) R s := by
  have mo : ∀ b ∈ wr, b ∈ S :: wr := fun b z => List.mem_cons_of_mem S z
  intro k
  induction k with
  | zero =>
    intro i s ek li st iv fin
    have ei : i = n := by omega
    subst ei
    apply codeAny_builtin F.entry_set_update_loop
    rw [Around.under_plainId F.plain_set_update_loop _]
    show wpAny _ A.in1 (pyNext (.ref I) >>= _) _ _ s
    refine wpAny_bind (W.done s _ _ st fun s' m => ?_)
    show wpAny _ A.in1 (ret Value.none) _ _ s'
    exact wpAny_pure (fin s' (m.mono mo) (mono _ _ _ iv fun b o nb e => m.heap b o nb e))
  | succ k ih =>
    intro i s ek li st iv fin
    have lt : i < n := by omega
    apply codeAny_builtin F.entry_set_update_loop
    rw [Around.under_plainId F.plain_set_update_loop _]
    show wpAny _ A.in1 (pyNext (.ref I) >>= _) _ _ s
    refine wpAny_bind (W.item i s _ _ lt st fun v s1 pv st1 m => ?_)
    show wpAny _ A.in1 (holding [v] (setAdd S v) >>= _) _ _ s1
    refine wpAny_bind (wpAny_holding (ad i v s1 _ _ pv (mono _ _ _ iv fun b o nb e => m.heap b o nb e) fun b h2 tk sb le iv2 => ?_))
    refine wpAny_pure ⟨plainId_quiet F.plain_set_update_loop _, ih (i + 1) _ (by omega) lt (W.frame _ s1 _ _ st1 le fun b hb o e => ?_) iv2 fun s3 m3 iv3 => ?_⟩
    · rw [sb.2 b fun z => nS (z ▸ hb)]
      exact e
    · refine fin s3 (Moved.trans W.gtrans ((m.mono mo).then_heap le fun b o hb e => ?_) m3) iv3
      rw [sb.2 b fun z => hb (by rw [z]; exact List.mem_cons_self)]
      exact e

/-- set(xs), xs a list: Iv speaks of the set at the new address -/
theorem call_set_by {l : Addr} {items : Array Value} {Q : Value → Shared → Prop} (hh : A.handled = none) (hl : s.heap.IsList l items) (Iv : Nat → Heap → Prop)
    (mono : ∀ i h h', Iv i h → (∀ b o, b ≤ s.heap.objs.size → h.get? b = some o → h'.get? b = some o) → Iv i h') (start : Iv 0 (s.heap.push (newSetO w)))
    (ad : ∀ A' : Around, A'.units ≤ A.units + 5 → AddsAt P w A' s.heap.objs.size (fun i v => items[i]? = some v) Iv)
    (fin : ∀ (h' : Heap) (tk : Nat), Iv items.size h' → (∀ b o, s.heap.get? b = some o → h'.get? b = some o) → Q (.ref s.heap.objs.size) { s with heap := h', toks := tk }) : wpAny (model P w) A (call (.type "set") [.ref l]) Q E s := by
  obtain ⟨cc, tl, mro⟩ := F.called_set.mro
  have f1 := F.called_set.made
  have f2 := F.called_set.sub
  apply wpAny_call
  apply codeAny_of_tree
  show wpAny _ _ (callAny (.type "set") _) _ _ _
  refine wpAny_pure ⟨Code.quiet_builtin _ (by decide +kernel), ?_⟩
  apply codeAny_builtin F.entry_type_call
  rw [Around.under_plain (weight_type_call_type "set" [.ref l] []) rfl]
  have f3 := F.called_set.notType
  have f4 := F.called_set.canCreate
  have f5 := F.typeCall_set_1 (.ref l)
  repeat (any_goals (first | wp_step | assumption))
  refine codeAny_mono (L2.code_set_led1 (.ref l) (E := E) (Q₁ := fun ob s1 => ob = .ref s.heap.objs.size ∧ s1 = { s with heap := s.heap.push (newSetO w) }) ⟨rfl, rfl⟩) fun r s1 hr => ?_
  rcases r with er | fl
  · exact hr
  cases fl with
  | ret ob =>
    obtain ⟨rfl, rfl⟩ := hr
    have gS : (s.heap.push (newSetO w)).get? s.heap.objs.size = some (newSetO w) := Heap.get?_push_size _ rfl
    have tyS : Shared.TypeIs { s with heap := s.heap.push (newSetO w) } (.ref s.heap.objs.size) "set" := ⟨_, gS, rfl⟩
    have f6 := F.called_set.init.lookup
    have f7 := F.called_set.init.bind (.ref s.heap.objs.size)
    repeat (any_goals (first | wp_step | assumption))
    refine codeAny_mono (codeAny_call_builtin (R := wants (fun r s2 => r = .none ∧ ∃ h' tk, s2 = { s with heap := h', toks := tk } ∧ Iv items.size h' ∧ ∀ b o, s.heap.get? b = some o → h'.get? b = some o) E) F.called_set.init.plain F.entry_set_init (check_set_init_1 tyS ?_)) fun r2 s2 hr2 => ?_
    · obtain ⟨ol, gl, cl, nl, dl⟩ := hl
      obtain ⟨oc, od, oda, os⟩ := ol
      simp only at cl dl
      subst cl
      subst dl
      have gl2 : (s.heap.push (newSetO w)).get? l = some { cls := .type "list", dict := od, data := .seq items nl, slots := os } := Heap.get?_push_of_some _ gl
      have f8 := F.sub_list_set
      have f9 := F.sub_list_frozenset
      have f10 : (Value.type "list" == Value.type "dict") = false := by decide
      have il : (s.heap.push (newSetO w)).IsList l items := ⟨_, gl2, rfl, nl, rfl⟩
      unfold Builtin.«set.__init__» noKeywords Builtin.Frozenset.updateFrom
      generalize hPI : pyIter = PI
      wp_walk
      subst hPI
      refine wpAny_pyIter_list il (wpAny_bind (wpAny_runValue ?_))
      have lS : l < s.heap.objs.size := Heap.lt_size gl
      have szp : (s.heap.push (newSetO w)).objs.size = s.heap.objs.size + 1 := Heap.size_push ..
      have ne1 : l ≠ (s.heap.push (newSetO w)).objs.size := by
        rw [szp]
        exact Nat.ne_of_lt (Nat.lt_succ_of_lt lS)
      have ni : s.heap.objs.size ∉ [(s.heap.push (newSetO w)).objs.size, l] := by
        rw [szp]
        simp only [List.mem_cons, List.not_mem_nil, or_false, not_or]
        exact ⟨Nat.ne_of_lt (Nat.lt_succ_self _), Nat.ne_of_gt lS⟩
      refine upd_loop ((Walks.list (by simp [hh]) _ l ne1 items).toS) s.heap.objs.size ni Iv (fun i h h' iv kp => mono i h h' iv fun b o hb e => kp b o (fun z => ?_) e) (ad _ ?_) (items.size - 0) 0 _ (by omega) (Nat.zero_le _) ⟨⟨_, Heap.get?_push_size _ rfl, rfl, rfl⟩, il.push _⟩ ?_ ?_
      · have z' := List.mem_singleton.mp z
        rw [szp] at z'
        exact le_ne1 hb z'
      · show A.units + 1 + 1 + 1 ≤ A.units + 5
        omega
      · exact mono 0 _ _ start fun b o hb e => Heap.get?_push_of_some _ e
      · intro s3 m3 iv3
        obtain ⟨h3, g3, d3, tk3, os3⟩ := s3
        have q1 : g3 = s.gens := m3.gens
        have q2 : d3 = s.drawn := m3.drawn
        have q3 : os3 = s.os := m3.os
        subst q1
        subst q2
        subst q3
        show wpAny _ _ _ _ _ _
        refine wpAny_pure ?_
        show wpAny _ _ (ret Value.none) _ _ _
        refine wpAny_pure ⟨rfl, h3, tk3, rfl, iv3, fun b o e => m3.heap b o (fun z => ?_) (Heap.get?_push_of_some _ (Heap.get?_push_of_some _ e))⟩
        have lb : b < s.heap.objs.size := Heap.lt_size e
        rcases List.mem_cons.mp z with z | z
        · exact Nat.ne_of_lt lb z
        · have z' := List.mem_singleton.mp z
          rw [szp] at z'
          exact lt_ne1 lb z'
    · rcases r2 with er | fl2
      · exact hr2
      cases fl2 with
      | ret rv =>
        obtain ⟨rfl, h2, tk, rfl, iv2, kp⟩ := hr2
        repeat (any_goals (first | wp_step | assumption))
        exact fin _ _ iv2 kp
      | _ => exact hr2.elim
  | _ => exact hr.elim
/-- set(xs), xs a tuple: Iv speaks of the set at the new address -/
theorem call_set_byT {l : Addr} {items : Array Value} {Q : Value → Shared → Prop} (hh : A.handled = none) (hl : s.heap.IsTuple l items) (Iv : Nat → Heap → Prop)
    (mono : ∀ i h h', Iv i h → (∀ b o, b ≤ s.heap.objs.size → h.get? b = some o → h'.get? b = some o) → Iv i h') (start : Iv 0 (s.heap.push (newSetO w)))
    (ad : ∀ A' : Around, A'.units ≤ A.units + 5 → AddsAt P w A' s.heap.objs.size (fun i v => items[i]? = some v) Iv)
    (fin : ∀ (h' : Heap) (tk : Nat), Iv items.size h' → (∀ b o, s.heap.get? b = some o → h'.get? b = some o) → Q (.ref s.heap.objs.size) { s with heap := h', toks := tk }) : wpAny (model P w) A (call (.type "set") [.ref l]) Q E s := by
  obtain ⟨cc, tl, mro⟩ := F.called_set.mro
  have f1 := F.called_set.made
  have f2 := F.called_set.sub
  apply wpAny_call
  apply codeAny_of_tree
  show wpAny _ _ (callAny (.type "set") _) _ _ _
  refine wpAny_pure ⟨Code.quiet_builtin _ (by decide +kernel), ?_⟩
  apply codeAny_builtin F.entry_type_call
  rw [Around.under_plain (weight_type_call_type "set" [.ref l] []) rfl]
  have f3 := F.called_set.notType
  have f4 := F.called_set.canCreate
  have f5 := F.typeCall_set_1 (.ref l)
  repeat (any_goals (first | wp_step | assumption))
  refine codeAny_mono (L2.code_set_led1 (.ref l) (E := E) (Q₁ := fun ob s1 => ob = .ref s.heap.objs.size ∧ s1 = { s with heap := s.heap.push (newSetO w) }) ⟨rfl, rfl⟩) fun r s1 hr => ?_
  rcases r with er | fl
  · exact hr
  cases fl with
  | ret ob =>
    obtain ⟨rfl, rfl⟩ := hr
    have gS : (s.heap.push (newSetO w)).get? s.heap.objs.size = some (newSetO w) := Heap.get?_push_size _ rfl
    have tyS : Shared.TypeIs { s with heap := s.heap.push (newSetO w) } (.ref s.heap.objs.size) "set" := ⟨_, gS, rfl⟩
    have f6 := F.called_set.init.lookup
    have f7 := F.called_set.init.bind (.ref s.heap.objs.size)
    repeat (any_goals (first | wp_step | assumption))
    refine codeAny_mono (codeAny_call_builtin (R := wants (fun r s2 => r = .none ∧ ∃ h' tk, s2 = { s with heap := h', toks := tk } ∧ Iv items.size h' ∧ ∀ b o, s.heap.get? b = some o → h'.get? b = some o) E) F.called_set.init.plain F.entry_set_init (check_set_init_1 tyS ?_)) fun r2 s2 hr2 => ?_
    · obtain ⟨ol, gl, cl, nl, dl⟩ := hl
      obtain ⟨oc, od, oda, os⟩ := ol
      simp only at cl dl
      subst cl
      subst dl
      have gl2 : (s.heap.push (newSetO w)).get? l = some { cls := .type "tuple", dict := od, data := .seq items nl, slots := os } := Heap.get?_push_of_some _ gl
      have f8 := F.sub_tuple_set
      have f9 := F.sub_tuple_frozenset
      have f10 : (Value.type "tuple" == Value.type "dict") = false := by decide
      have il : (s.heap.push (newSetO w)).IsTuple l items := ⟨_, gl2, rfl, nl, rfl⟩
      unfold Builtin.«set.__init__» noKeywords Builtin.Frozenset.updateFrom
      generalize hPI : pyIter = PI
      wp_walk
      subst hPI
      refine wpAny_pyIter_tuple il (wpAny_bind (wpAny_runValue ?_))
      have lS : l < s.heap.objs.size := Heap.lt_size gl
      have szp : (s.heap.push (newSetO w)).objs.size = s.heap.objs.size + 1 := Heap.size_push ..
      have ne1 : l ≠ (s.heap.push (newSetO w)).objs.size := by
        rw [szp]
        exact Nat.ne_of_lt (Nat.lt_succ_of_lt lS)
      have ni : s.heap.objs.size ∉ [(s.heap.push (newSetO w)).objs.size, l] := by
        rw [szp]
        simp only [List.mem_cons, List.not_mem_nil, or_false, not_or]
        exact ⟨Nat.ne_of_lt (Nat.lt_succ_self _), Nat.ne_of_gt lS⟩
      refine upd_loop ((Walks.tuple (by simp [hh]) _ l ne1 items).toS) s.heap.objs.size ni Iv (fun i h h' iv kp => mono i h h' iv fun b o hb e => kp b o (fun z => ?_) e) (ad _ ?_) (items.size - 0) 0 _ (by omega) (Nat.zero_le _) ⟨⟨_, Heap.get?_push_size _ rfl, rfl, rfl⟩, il.push _⟩ ?_ ?_
      · have z' := List.mem_singleton.mp z
        rw [szp] at z'
        exact le_ne1 hb z'
      · show A.units + 1 + 1 + 1 ≤ A.units + 5
        omega
      · exact mono 0 _ _ start fun b o hb e => Heap.get?_push_of_some _ e
      · intro s3 m3 iv3
        obtain ⟨h3, g3, d3, tk3, os3⟩ := s3
        have q1 : g3 = s.gens := m3.gens
        have q2 : d3 = s.drawn := m3.drawn
        have q3 : os3 = s.os := m3.os
        subst q1
        subst q2
        subst q3
        show wpAny _ _ _ _ _ _
        refine wpAny_pure ?_
        show wpAny _ _ (ret Value.none) _ _ _
        refine wpAny_pure ⟨rfl, h3, tk3, rfl, iv3, fun b o e => m3.heap b o (fun z => ?_) (Heap.get?_push_of_some _ (Heap.get?_push_of_some _ e))⟩
        have lb : b < s.heap.objs.size := Heap.lt_size e
        rcases List.mem_cons.mp z with z | z
        · exact Nat.ne_of_lt lb z
        · have z' := List.mem_singleton.mp z
          rw [szp] at z'
          exact lt_ne1 lb z'
    · rcases r2 with er | fl2
      · exact hr2
      cases fl2 with
      | ret rv =>
        obtain ⟨rfl, h2, tk, rfl, iv2, kp⟩ := hr2
        repeat (any_goals (first | wp_step | assumption))
        exact fin _ _ iv2 kp
      | _ => exact hr2.elim
  | _ => exact hr.elim
end
end DL

set_option Elab.async false
set_option linter.all false
set_option maxRecDepth 100000
set_option maxHeartbeats 4000000
namespace DL
open PySem PySem.Spec PyProof.Rows L2

/-! ### sorted(set(xs)) of ints -/
/-- x put into an ascending list, once -/
def insS (x : Int) : List Int → List Int
  | [] => [x]
  | y :: r => if x < y then x :: y :: r else if x = y then y :: r else y :: insS x r
def setI : List Int → List Int
  | [] => []
  | x :: r => insS x (setI r)
theorem insS_mem (x z : Int) : ∀ l : List Int, z ∈ insS x l ↔ z = x ∨ z ∈ l
  | [] => by simp [insS]
  | y :: r => by
    unfold insS
    split
    · simp
    · split
      · rename_i h
        subst h
        simp
      · rw [List.mem_cons, insS_mem x z r, List.mem_cons]
        constructor
        · rintro (h | h | h)
          · exact .inr (.inl h)
          · exact .inl h
          · exact .inr (.inr h)
        · rintro (h | h | h)
          · exact .inr (.inl h)
          · exact .inl h
          · exact .inr (.inr h)
theorem setI_mem (z : Int) : ∀ l : List Int, z ∈ setI l ↔ z ∈ l
  | [] => Iff.rfl
  | x :: r => by
    show z ∈ insS x (setI r) ↔ z ∈ x :: r
    rw [insS_mem, setI_mem z r, List.mem_cons]
theorem insS_asc (x : Int) : ∀ l : List Int, l.Pairwise (· < ·) → (insS x l).Pairwise (· < ·)
  | [], _ => List.pairwise_singleton _ _
  | y :: r, h => by
    have h' := List.pairwise_cons.mp h
    unfold insS
    split
    · rename_i hxy
      refine List.pairwise_cons.mpr ⟨fun z hz => ?_, h⟩
      rcases List.mem_cons.mp hz with rfl | hz
      · exact hxy
      · exact Int.lt_trans hxy (h'.1 z hz)
    · split
      · exact h
      · rename_i h1 h2
        refine List.pairwise_cons.mpr ⟨fun z hz => ?_, insS_asc x r h'.2⟩
        rcases (insS_mem x z r).mp hz with rfl | hz
        · omega
        · exact h'.1 z hz
theorem setI_asc : ∀ l : List Int, (setI l).Pairwise (· < ·)
  | [] => List.Pairwise.nil
  | x :: r => insS_asc x _ (setI_asc r)
theorem asc_unique : ∀ {l m : List Int}, l.Pairwise (· < ·) → m.Pairwise (· < ·) → (∀ z, z ∈ l ↔ z ∈ m) → l = m
  | [], [], _, _, _ => rfl
  | [], y :: m, _, _, h => absurd ((h y).mpr List.mem_cons_self) (by simp)
  | x :: l, [], _, _, h => absurd ((h x).mp List.mem_cons_self) (by simp)
  | x :: l, y :: m, hl, hm, h => by
    have hl' := List.pairwise_cons.mp hl
    have hm' := List.pairwise_cons.mp hm
    have e : x = y := by
      rcases List.mem_cons.mp ((h x).mp List.mem_cons_self) with q | q
      · exact q
      · rcases List.mem_cons.mp ((h y).mpr List.mem_cons_self) with q2 | q2
        · exact q2.symm
        · have a := hm'.1 x q
          have b := hl'.1 y q2
          omega
    subst e
    congr 1
    refine asc_unique hl'.2 hm'.2 fun z => ?_
    constructor
    · intro hz
      rcases List.mem_cons.mp ((h z).mp (List.mem_cons_of_mem _ hz)) with q | q
      · have := hl'.1 z hz
        omega
      · exact q
    · intro hz
      rcases List.mem_cons.mp ((h z).mpr (List.mem_cons_of_mem _ hz)) with q | q
      · have := hm'.1 z hz
        omega
      · exact q
section
variable {X : Cx} {x : Str} {p pos : Pos} {e a b : Expr} {es : List Expr}
/-- set(xs), xs a list of ints -/
def rSetI (K : PySem.W.Frag) (w : World) : List V → Hp → VK → Prop := fun vs H Q => ∃ (l : Addr) (ns : List Int), vs = [V.ref l] ∧ (SqL K H l (ns.map V.int) ∨ SqT K H l (ns.map V.int)) ∧ ns.length < 4000 ∧
  ∀ (S : Int → Bool) (n : Nat) (q : Addr), (∀ k, S k = true ↔ k ∈ ns) → n ≤ ns.length → H q = none → Q (.ref q) (upd H q (SetO w q S n))
/-- what the set holds behind i of the ints -/
def IvI (w : World) (S : Addr) (ns : List Int) (i : Nat) (h : Heap) : Prop := ∃ (F : Int → Bool) (n : Nat), SetR w h S F n ∧ (∀ k, F k = true ↔ k ∈ ns.take i) ∧ n ≤ i
theorem ivI_add {w : World} {P : Program} {A : Around} {S : Addr} {ns : List Int} {at_ : Nat → Value → Prop} (hl : ns.length < 4000) (ha : ∀ i v, at_ i v → ∃ k t, ns[i]? = some k ∧ v = .int k t) : AddsAt P w A S at_ (IvI w S ns) := by
  intro i v s Q E hv ⟨F, n, hR, hF, hn⟩ k
  obtain ⟨z, t, e1, rfl⟩ := ha i v hv
  have hi : i < ns.length := (List.getElem?_eq_some_iff.mp e1).1
  unfold setAdd
  refine wpAny_holding (wpAny_bind ((intKind P w).pyHash (k := z) (intKind_is _ _ _ _) ?_))
  refine setR_add_hashed (s := { s with toks := s.toks + 1 }) (k := z) hR (by unfold scanBound; omega) fun h' sb hR' => ?_
  refine k _ h' (s.toks + 1) sb (Nat.le_succ _) ⟨_, _, hR', fun y => ?_, ?_⟩
  · rw [Bool.or_eq_true, hF y, decide_eq_true_eq, List.take_add_one, e1, List.mem_append]
    show y ∈ List.take i ns ∨ y = z ↔ y ∈ List.take i ns ∨ y ∈ [z]
    rw [List.mem_singleton]
  · split <;> omega
theorem cr_setI (hc : X.calm = true) : CallR X (.type "set") (rSetI X.K X.w) := by
  intro pins s σ H vs us Q I r ⟨l, ns, ev, hsq, hl, k⟩
  subst ev
  rw [Vals.ref1 r]
  have hd := I.ok.hd hc
  have at_of : ∀ (its : List Value), Vals (ns.map V.int) its → ∀ (i : Nat) (v : Value), its.toArray[i]? = some v → ∃ z t, ns[i]? = some z ∧ v = .int z t := fun its rv i v hv => by
    have hv' : its[i]? = some v := by simpa using hv
    have hi : i < its.length := (List.getElem?_eq_some_iff.mp hv').1
    have hi2 : i < ns.length := by
      have := rv.length
      rw [List.length_map] at this
      omega
    obtain ⟨u, q1, q2⟩ := rv.get (i := i) (x := .int ns[i]) (by rw [List.getElem?_map, List.getElem?_eq_getElem hi2]; rfl)
    rw [hv'] at q1; cases q1
    obtain ⟨t, rfl⟩ := q2
    exact ⟨_, t, List.getElem?_eq_getElem hi2, rfl⟩
  have start : IvI X.w s.heap.objs.size ns 0 (s.heap.push (newSetO X.w)) := ⟨_, 0, setR_fresh X.w, fun y => by simp, Nat.le_refl _⟩
  have mono : ∀ i (h h' : Heap), IvI X.w s.heap.objs.size ns i h → (∀ b o, b ≤ s.heap.objs.size → h.get? b = some o → h'.get? b = some o) → IvI X.w s.heap.objs.size ns i h' := fun i h h' ⟨F, n, hR, q1, q2⟩ kp => ⟨F, n, hR.at fun o e => kp _ o (Nat.le_refl _) e, q1, q2⟩
  have fin : ∀ (its : List Value) (h' : Heap) (tk : Nat), its.length = ns.length → IvI X.w s.heap.objs.size ns its.toArray.size h' → (∀ b o, s.heap.get? b = some o → h'.get? b = some o) → EP X pins σ Q (.ref s.heap.objs.size) { s with heap := h', toks := tk } := fun its h' tk el ⟨F, n, hR, q1, q2⟩ kp => by
    have sz : its.toArray.size = ns.length := by rw [List.size_toArray]; exact el
    rw [sz, List.take_length] at q1
    rw [sz] at q2
    refine ⟨.ref _, upd H s.heap.objs.size (SetO X.w s.heap.objs.size F n), I.laid (t' := tk) kp (Nat.le_refl _) (setO_new hR), rfl, k F n _ q1 q2 (I.hok.fresh (Nat.le_refl _))⟩
  rcases hsq with hsq | hsq
  · obtain ⟨its, rv, pl, _⟩ := I.list hsq
    have el : its.length = ns.length := by rw [← rv.length, List.length_map]
    exact call_set_by hd pl.isList (IvI X.w s.heap.objs.size ns) mono start (fun A' _ => ivI_add hl (at_of its rv)) fun h' tk iv kp => fin its h' tk el iv kp
  · obtain ⟨its, rv, pl, _⟩ := I.tuple hsq
    have el : its.length = ns.length := by rw [← rv.length, List.length_map]
    exact call_set_byT hd pl (IvI X.w s.heap.objs.size ns) mono start (fun A' _ => ivI_add hl (at_of its rv)) fun h' tk iv kp => fin its h' tk el iv kp
def mSortSet (m : MD) : MA := fun s => (m s).bind fun q => (lisD q.1).bind fun ds => (intsD ds).bind fun ns => if ns.length < 64 then some ((setI ns).map .int, q.2) else none
theorem dl_sortSet {m : MD} {p1 p2 pos1 : Pos} (hm : X.mg "sorted" = none) (hm2 : X.mg "set" = none) (he : PE X e (tD X.K m)) (hc : X.calm = true := by rfl) (hg : Gl X "sorted" := by rfl) (hg2 : Gl X "set" := by rfl) (hs : starEach [e] X.env = (false, eval e X.env) :: starEach [] X.env := by rfl)
    (hs2 : starEach [.Call (.Name "set" p2) [e] [] pos1] X.env = (false, eval (.Call (.Name "set" p2) [e] [] pos1) X.env) :: starEach [] X.env := by rfl) : PE X (.Call (.Name "sorted" p1) [.Call (.Name "set" p2) [e] [] pos1] [] pos) (tDL X.K (mSortSet m)) :=
  dl_of (pe_callB (cr_sortedSet hc) hg hm (by decide +kernel) (pa_cons (pe_callTy (cr_setI hc) hg2 hm2 (by decide +kernel) (pa_cons he pa_nil hs) (by decide) (by decide) hs rfl) pa_nil hs2) (by decide) (by decide) hs2 rfl) fun σ H Q B γ H0 s ds s' rl e k => by
    obtain ⟨⟨x, s1⟩, e1, e2⟩ := ob e
    obtain ⟨xs, e3, e4⟩ := ob e2
    obtain ⟨ns, e5, e6⟩ := ob e4
    split at e6
    · rename_i hl
      obtain ⟨rfl, rfl⟩ := Prod.mk.inj (Option.some.inj e6)
      refine ⟨B, γ, H0, s, x, s1, rl, e1, fun v H1 a1 r1 => ?_⟩
      have ex := intsD_eq e5
      subst ex
      have go : ∀ l : Addr, v = .ref l → (SqL X.K H1 l (ns.map V.int) ∨ SqT X.K H1 l (ns.map V.int)) → ∃ (l : Addr) (ms : List Int), [v] = [V.ref l] ∧ (SqL X.K H1 l (ms.map V.int) ∨ SqT X.K H1 l (ms.map V.int)) ∧ ms.length < 4000 ∧
          ∀ (S : Int → Bool) (n : Nat) (q : Addr), (∀ k, S k = true ↔ k ∈ ms) → n ≤ ms.length → H1 q = none → rSortedSet X.w [.ref q] (upd H1 q (SetO X.w q S n)) Q := fun l ev hq => by
        subst ev
        refine ⟨l, ns, rfl, hq, by omega, fun S n q hS hn hq => ⟨q, S, n, rfl, upd_same, by omega, fun ms p2 h1 h2 h3 h4 => ?_⟩⟩
        have em : ms = setI ns := asc_unique h1 (setI_asc ns) fun z => by rw [h2, hS, setI_mem]
        rw [em]
        exact k p2 _ _ (a1.same (same_new hq)) h4 (RpL.of_ints _)
      cases r1 with
      | lst h1 n h3 =>
        cases e3
        rw [h3.ints] at h1
        exact go _ rfl (.inl (.inl h1))
      | tup h1 h3 =>
        cases e3
        rw [h3.ints] at h1
        exact go _ rfl (.inr h1.sq)
      | _ => cases e3
    · cases e6
end
end DL

set_option Elab.async false
set_option linter.all false
set_option maxRecDepth 100000
set_option maxHeartbeats 4000000
namespace DL
open PySem PySem.Spec PyProof.Rows L2
section
variable {X : Cx} {x : Str} {p pos : Pos} {e a b : Expr} {es rest : List Expr} {k : Nat} {F : FM}
/-- a or b, both new lists -/
def mOrL (m n : MA) : MA := fun s => (m s).bind fun q => if q.1.isEmpty then n q.2 else some q
theorem dl_or {m n : MA} (ha : PE X a (tDL X.K m)) (hb : PE X (.BoolOp .Or (b :: rest) pos) (tDL X.K n)) : PE X (.BoolOp .Or (a :: b :: rest) pos) (tDL X.K (mOrL m n)) := PE.imp (pe_orT ha hb) fun σ H Q q => by
  obtain ⟨B, γ, H0, s, d, s', rl, e, k⟩ := q
  obtain ⟨⟨xs, s1⟩, e1, e2⟩ := ob e
  refine ⟨B, γ, H0, s, xs, s1, rl, e1, fun p vs H1 r1 mv1 hp h1 h2 => ⟨!vs.isEmpty, .inl ⟨vs, .inl (.inl h1), rfl⟩, ?_⟩⟩
  have em := h2.emp
  split at e2
  · rename_i he
    rw [em, show xs.isEmpty = true from he]
    have sb : ∀ a, Bh B σ s1.sl a → Bh (Bp B p) σ s1.sl a := fun a z => z.imp .inl id
    refine iteF ⟨B, γ, H0, s1, d, s', r1.unB (fun a z => .inl z) rl.gB, e2, fun p2 vs2 H2 r2 mv2 hp2 h3 h4 => k p2 vs2 H2 r2 ⟨fun v dd r => mv2.frm _ _ ((mv1.frm v dd r).sub sb), fun b o hb hg eb => mv2.pv b o hb hg (mv1.pv b o hb hg eb), fun b hb => mv2.dom b (mv1.dom b hb)⟩ ?_ h3 h4⟩
    cases q : H p2 with
    | none => rfl
    | some o => exact absurd hp2 (mv1.dom p2 (by rw [q]; intro z; cases z))
  · rename_i he
    obtain ⟨rfl, rfl⟩ := Prod.mk.inj (Option.some.inj e2)
    have he' : xs.isEmpty = false := by
      cases hx : xs.isEmpty with
      | true => exact absurd hx he
      | false => rfl
    rw [em, he']
    exact iteT (k p vs H1 r1 mv1 hp h1 h2)
theorem dl_one {op} {m : MA} (h : PE X a (tDL X.K m)) : PE X (.BoolOp op [a] pos) (tDL X.K m) := pe_one h
/-- a op b as a test -/
def boolD : Dt → Option Bool
  | .bool b => some b
  | _ => none
theorem boolD_rp {K : PySem.W.Frag} {H : Hp} {B : Bad} {v : V} {d : Dt} {c : Bool} (r : Rp K H B v d) (h : boolD d = some c) : v = .bl c := by
  cases r with
  | bl b => cases h; rfl
  | _ => cases h
def mTst (m : MD) : MT := fun s => (m s).bind fun q => (boolD q.1).map fun c => (c, q.2)
theorem dt_cmp {op : CmpOp} {f : Dt → Dt → Option Dt} {ma mb : MD} (ho : OpD X (compareOp op) f) (ha : PE X a (tD X.K ma)) (hb : PE X b (tD X.K mb)) (hm : behindInMarks op b = false) : PT X (.Compare a [op] [b] pos) (tDT X.K (mTst (mBin f ma mb))) := by
  obtain ⟨r, h1, h2⟩ := ho.ex
  refine PT.imp (pt_cmpR h1 ha hb hm) fun σ H Q q => ?_
  obtain ⟨B, γ, H0, s, d, s', rl, e, k⟩ := q
  obtain ⟨⟨x, s1⟩, e1, e2⟩ := ob e
  obtain ⟨c, e3, e4⟩ := om e2
  obtain ⟨rfl, rfl⟩ := Prod.mk.inj e4
  exact bin_go (g := compareOp op) h2 ⟨B, γ, H0, s, x, s1, rl, e1, fun v H1 a1 r1 => ⟨c, boolD_rp r1 e3, k H1 a1⟩⟩
theorem chain_go {f f' : Dt → Dt → Option Dt} {ma mb mc : MD} {r r' : R2} {σ : L2.St} {H : Hp} {Q : VK}
    (h2 : ∀ (B : Bad) (H : Hp) (x y : V) (dx dy d : Dt) (Q : VK), Rp X.K H B x dx → Rp X.K H B y dy → (∀ a, B a → H a ≠ none) → f dx dy = some d → (∀ v H', Same H H' → Rp X.K H' B v d → Q v H') → r x y H Q)
    (h2' : ∀ (B : Bad) (H : Hp) (x y : V) (dx dy d : Dt) (Q : VK), Rp X.K H B x dx → Rp X.K H B y dy → (∀ a, B a → H a ≠ none) → f' dx dy = some d → (∀ v H', Same H H' → Rp X.K H' B v d → Q v H') → r' x y H Q)
    (q : tD X.K (mChain f f' ma mb mc) σ H Q) : tChain r r' (tD X.K ma) (tD X.K mb) (tD X.K mc) σ H Q := by
  obtain ⟨B, γ, H0, s, d, s', rl, e, k⟩ := q
  obtain ⟨⟨x, s1⟩, e1, e2⟩ := ob e
  obtain ⟨⟨y, s2⟩, e3, e4⟩ := ob e2
  obtain ⟨z, e5, e6⟩ := ob e4
  refine ⟨B, γ, H0, s, x, s1, rl, e1, fun v1 H1 a1 r1 => ⟨B, γ, H0, s1, y, s2, a1.rel, e3, fun v2 H2 a2 r2 => ?_⟩⟩
  refine h2 _ H2 v1 v2 x y z _ (a2.mv.frm _ _ r1) r2 a2.rel.bdh e5 fun v H3 sm rv => ?_
  have a3 := (a1.trans a2).same sm
  cases rv with
  | bl bb =>
    refine ⟨bb, rfl, ?_⟩
    cases bb with
    | true =>
      obtain ⟨⟨w, s3⟩, e7, e8⟩ := ob e6
      obtain ⟨w', e9, e10⟩ := om e8
      obtain ⟨rfl, rfl⟩ := Prod.mk.inj e10
      refine iteT ⟨B, γ, H0, s2, w, s3, a3.rel, e7, fun v4 H4 a4 r4 => ?_⟩
      exact h2' _ H4 v2 v4 y w w' _ (a4.mv.frm _ _ (r2.same sm)) r4 a4.rel.bdh e9 fun v5 H5 sm5 rv5 => k v5 H5 ((a3.trans a4).same sm5) rv5
    | false =>
      cases e6
      exact iteF (k _ _ a3 (.bl false))
  | _ => cases e6
theorem dt_chn {c : Expr} {op op' : CmpOp} {f f' : Dt → Dt → Option Dt} {ma mb mc : MD} (ho : OpD X (compareOp op) f) (ho' : OpD X (compareOp op') f') (ha : PE X a (tD X.K ma)) (hb : PE X b (tD X.K mb)) (hc : PE X c (tD X.K mc)) (hm : lastMarks [op, op'] [b, c] = false := by with_unfolding_all rfl) :
    PT X (.Compare a [op, op'] [b, c] pos) (tDT X.K (mTst (mChain f f' ma mb mc))) := by
  obtain ⟨r, h1, h2⟩ := ho.ex
  obtain ⟨r', h1', h2'⟩ := ho'.ex
  refine PT.imp (pt_chain h1 h1' ha hb hc hm) fun σ H Q q => ?_
  obtain ⟨B, γ, H0, s, d, s', rl, e, k⟩ := q
  obtain ⟨⟨x, s1⟩, e1, e2⟩ := ob e
  obtain ⟨cc, e3, e4⟩ := om e2
  obtain ⟨rfl, rfl⟩ := Prod.mk.inj e4
  exact chain_go h2 h2' ⟨B, γ, H0, s, x, s1, rl, e1, fun v H1 a1 r1 => ⟨cc, boolD_rp r1 e3, k H1 a1⟩⟩
/-- f() -/
def mCall0 (F : FM) : MD := fun s => (F [] none).map fun r => (r.1.dt, s)
theorem de_call0 (G : FnD X.prog X.w X.K X.mg X.base x k F) (hr : Room k X.A) (hg : Gl X x := by rfl) (hdb : (x == ("__debug__" : Str)) = false := by decide) : PE X (.Call (.Name x p) [] [] pos) (tD X.K (mCall0 F)) := by
  obtain ⟨f, fd, ps, hF, hm, hk, hb⟩ := G.ex
  refine PE.imp (pe_call0 hF hr hg hm hk hb .nil pass0 hdb) fun σ H Q q => ?_
  obtain ⟨B, γ, H0, s, d, s', rl, e, kk⟩ := q
  obtain ⟨⟨r, u⟩, e3, e4⟩ := om e
  obtain ⟨rfl, rfl⟩ := Prod.mk.inj e4
  have h := call_pure (X := X) (F := F) (Q := Q) (E := E0) (Aft.refl rl) (vs := []) (as := []) .nil e3 (fun v H' sm rv => kk v H' ((Aft.refl rl).same sm) (rv.rp rl.bdh))
  exact h
/-- f(e), e a new list of ints that f may change -/
def mCallN (F : FM) (m : MA) : MD := fun s => (m s).bind fun q => (intsD q.1).bind fun ns => (F [.urn] (some ns)).map fun r => (r.1.dt, q.2)
theorem de_callN {m : MA} (G : FnD X.prog X.w X.K X.mg X.base x k F) (hr : Room k X.A) (ha : PE X e (tDL X.K m)) (hg : Gl X x := by rfl) (hdb : (x == ("__debug__" : Str)) = false := by decide)
    (he : starEach [e] X.env = (false, eval e X.env) :: starEach [] X.env := by rfl) : PE X (.Call (.Name x p) [e] [] pos) (tD X.K (mCallN F m)) := by
  obtain ⟨f, fd, ps, hF, hm, hk, hb⟩ := G.ex
  refine PE.imp (pe_call hF hr hg hm hk hb .nil pass0 (pa_cons ha pa_nil he) hdb he rfl) fun σ H Q q => ?_
  obtain ⟨B, γ, H0, s, d, s', rl, e, kk⟩ := q
  obtain ⟨⟨ds, s1⟩, e1, e2⟩ := ob e
  obtain ⟨ns, e3, e4⟩ := ob e2
  obtain ⟨⟨r, u⟩, e5, e6⟩ := om e4
  obtain ⟨rfl, rfl⟩ := Prod.mk.inj e6
  refine ⟨B, γ, H0, s, ds, s1, rl, e1, fun p vs H1 r1 mv1 hp h1 h2 => ?_⟩
  have ed := intsD_eq e3
  subst ed
  rw [h2.ints] at h1
  have hu : UrOk H1 (some p) (some ns) := fun q eq => by cases eq; exact ⟨ns, rfl, h1⟩
  have hC : ∀ q, some p = some q → Bh (Bp B p) σ s1.sl q := fun q eq => by cases eq; exact .inl (.inr rfl)
  have gp : γ ≠ some p := fun z => rl.bd p (rl.gB p z) hp
  show spD X.K F ([V.ref p] ++ []) H1 Q E0
  rw [List.append_nil]
  refine ⟨Bh (Bp B p) σ s1.sl, some p, [.urn], some ns, r, u, .cons (.urn rfl) .nil, hu, hC, r1.bdh, e5, fun v H' rt => ?_⟩
  have frm1 := keep_frm (K := X.K) (C := Bh (Bp B p) σ s1.sl) hC hu.isl rt.keep
  have sb : ∀ a, Bh B σ s1.sl a → Bh (Bp B p) σ s1.sl a := fun a z => z.imp .inl id
  have dom : ∀ b, H1 b ≠ none → H' b ≠ none := fun b hb => by
    cases q : H1 b with
    | none => exact absurd q hb
    | some o =>
      by_cases z : b = p
      · subst z
        obtain ⟨_, _, h3⟩ := rt.ur b rfl
        rw [h3]; intro z; cases z
      · rw [rt.keep b o q fun y => z (Option.some.inj y).symm]; intro z; cases z
  have keepB : ∀ b o, (B b ∨ Ow σ s1.sl b) → γ ≠ some b → H1 b = some o → H' b = some o := fun b o hb hg eb => rt.keep b o eb fun y => by
    cases y
    rcases hb with hb | ⟨i, es, z1, z2⟩
    · exact rl.bd p hb hp
    · obtain ⟨q, ws, q1, q2, q3, q4, q5⟩ := r1.own i es z1
      rw [z2] at q1; cases q1
      exact q4 (.inr rfl)
  have hr2 : Rel X.K (Bp B p) γ H0 σ H' { s1 with ur := s1.ur } := by
    refine r1.to frm1 (fun b hb => ?_) (fun q eq => ?_) (fun q eq => .inl (rl.gB q eq)) (fun a ha => dom a (r1.bd a ha)) (fun b o eb hg => ?_)
    · obtain ⟨i, es, z1, z2⟩ := hb
      obtain ⟨q, ws, q1, q2, q3, q4, q5⟩ := r1.own i es z1
      rw [z2] at q1; cases q1
      exact ⟨fun o eo => keepB b o (.inr ⟨i, es, z1, z2⟩) (fun g => q4 (.inl (rl.gB b g))) eo, q4⟩
    · obtain ⟨ms, q1, q2⟩ := r1.ur q eq
      exact ⟨ms, q1, rt.keep q _ q2 fun y => gp (by rw [eq, Option.some.inj y])⟩
    · exact rt.keep b o (r1.ent b o eb hg) fun y => by
        cases y
        rw [rl.h0 hp] at eb
        cases eb
  exact kk v H' ⟨hr2.unB (fun a z => .inl z) rl.gB, ⟨fun v dd r => (frm1 _ _ (mv1.frm v dd r)).sub sb, fun b o hb hg eb => keepB b o (.inl hb) hg (mv1.pv b o hb hg eb), fun b hb => dom b (mv1.dom b hb)⟩⟩ ((rt.rv.rp r1.bdh).sub sb)

/-! ### [::-1], n * xs -/
def dRev : Dt → Option Dt
  | .list xs => some (.list xs.reverse)
  | _ => none
theorem RpL.rev {K : PySem.W.Frag} {B : Bad} {H : Hp} : ∀ {vs : List V} {ds : List Dt}, RpL K H B vs ds → RpL K H B vs.reverse ds.reverse
  | _, _, .nil => .nil
  | _, _, .cons h r => by
    rw [List.reverse_cons, List.reverse_cons]
    exact (RpL.rev r).append (.cons h .nil)
theorem de_rev {m : MD} {kc : Nat} {p1 p2 p3 : Pos} (h : PE X e (tD X.K m)) : PE X (.Subscript e (.Slice none none (some (.UnaryOp .USub (.Constant (.int 1) kc p1) p2)) p3) pos) (tD X.K (mUn dRev m)) :=
  PE.imp (pe_revL h) fun σ H Q q => by
    obtain ⟨B, γ, H0, s, d, s', rl, e, k⟩ := q
    obtain ⟨⟨x, s1⟩, e1, e2⟩ := ob e
    obtain ⟨z, e5, e6⟩ := om e2
    obtain ⟨rfl, rfl⟩ := Prod.mk.inj e6
    refine ⟨B, γ, H0, s, x, s1, rl, e1, fun v1 H1 a1 r1 => ?_⟩
    cases r1 with
    | lst h1 n h3 =>
      cases e5
      exact ⟨_, _, rfl, .inl h1, fun p hp => k _ _ (a1.same (same_new hp)) (.lst (.inl upd_same) (fun z => a1.rel.bdh p z hp) (h3.rev.same (same_new hp)))⟩
    | _ => cases e5
def dMul : Dt → Dt → Option Dt := dMulI
theorem od_mul : OpD X (binaryOp .Mult) dMul := od_mulI
def dLt : Dt → Dt → Option Dt := dLtI
def dLe : Dt → Dt → Option Dt := dLeI
def dGt : Dt → Dt → Option Dt := dGtI
def dGe : Dt → Dt → Option Dt := dGeI
theorem od_lt : OpD X (compareOp .Lt) dLt := od_ltI
theorem od_le : OpD X (compareOp .LtE) dLe := od_leI
theorem od_gt : OpD X (compareOp .Gt) dGt := od_gtI
theorem od_ge : OpD X (compareOp .GtE) dGe := od_geI
end
section
variable {P : Program} {w : World} {K : PySem.W.Frag} {mg : Str → Option Value} {base : Heap}
/-- nothing is promised -/
theorem fnD_none {x qual : Str} {st : Stmt} {f : Addr} {fd : FuncData} {N ps : List Str} {k : Nat} (F : Fun K x qual st f fd) (S : FnScope N ps (defScope st)) (hm : mg x = some (.ref f)) (hb : Binds K fd ps []) : FnD P w K mg base x (k + 1) (fun _ _ => none) :=
  ⟨f, fd, ps, F.ok S (fun vs H Q E h => by
    obtain ⟨C, γ, as, u, r, u', _, _, _, _, h5, _⟩ := h
    cases h5) (fun cdv A outer s H vs Q E hr h => by
    obtain ⟨C, γ, as, u, r, u', _, _, _, _, h5, _⟩ := h
    cases h5), hm, F.kp, hb⟩
theorem FnD.ok {x : Str} {k : Nat} {F : FM} (G : FnD P w K mg base x k F) : ∃ f fd ps, FnOk P w K mg base CX0 k f fd ps (spD K F) ∧ mg x = some (.ref f) := let ⟨f, fd, ps, h1, h2, _⟩ := G.ex; ⟨f, fd, ps, h1, h2⟩
end
end DL

set_option Elab.async false
set_option linter.all false
set_option maxRecDepth 100000
set_option maxHeartbeats 4000000
namespace DL
open PySem PySem.Spec PyProof.Rows L2
/-- the law's own call -/
theorem law_end {K : PySem.W.Frag} {H : Hp} {a : Addr} {ns : List Int} {F : FM} {E : XK} (hO : Only H) (hS : SqL K H a (ns.map V.int)) (hF : F [.val (scrD ns)] none = some (.val (.bool true), none)) : spD K F [.ref a] H (fun v _ => v = .bl true) E := by
  have hq : Sq K H a ns := by
    rcases hS with (h | h) | h
    · rcases hO a with z | ⟨o, xs, z⟩
      · rw [z] at h; cases h
      · rw [z] at h; cases h
    · exact .inl h
    · exact .inr h
  refine ⟨fun _ => False, none, [.val (scrD ns)], none, _, _, .cons (.val (.scr hq)) .nil, (fun p e => nomatch e), (fun p e => nomatch e), (fun a z => z.elim), hF, fun v H' rt => ?_⟩
  have h := rt.rv
  cases h with
  | bl b => rfl
end DL

set_option Elab.async false
set_option linter.all false
set_option maxRecDepth 100000
set_option maxHeartbeats 4000000
namespace DL
open PySem PySem.Spec PyProof.Rows L2
/-! ### how a computation goes, step by step -/
section
variable {s s1 s2 s3 : Stt} {x y z d : Dt} {ds es : List Dt} {f f' : Dt → Dt → Option Dt} {ma mb mc m : MD} {mt nt : MT} {mr : MA} {b c : Bool} {F : FM} {r : RV} {u : Ur} {ms ns : MS} {o : Fl} {i : Nat}
theorem e_bin (h1 : ma s = some (x, s1)) (h2 : mb s1 = some (y, s2)) (h3 : f x y = some z) : mBin f ma mb s = some (z, s2) := by
  unfold mBin
  rw [h1, Option.bind_some, h2, Option.bind_some, h3] <;> rfl
theorem e_un {g : Dt → Option Dt} (h1 : ma s = some (x, s1)) (h3 : g x = some z) : mUn g ma s = some (z, s1) := by
  unfold mUn
  rw [h1, Option.bind_some, h3] <;> rfl
theorem e_chT (h1 : ma s = some (x, s1)) (h2 : mb s1 = some (y, s2)) (h3 : f x y = some (.bool b)) (hb : b = true) (h4 : mc s2 = some (z, s3)) (h5 : f' y z = some d) : mChain f f' ma mb mc s = some (d, s3) := by
  unfold mChain
  subst hb
  rw [h1, Option.bind_some, h2, Option.bind_some, h3, Option.bind_some]
  show (mc s2).bind _ = _
  rw [h4, Option.bind_some, h5] <;> rfl
theorem e_chF (h1 : ma s = some (x, s1)) (h2 : mb s1 = some (y, s2)) (h3 : f x y = some (.bool b)) (hb : b = false) : mChain f f' ma mb mc s = some (.bool false, s2) := by
  unfold mChain
  subst hb
  rw [h1, Option.bind_some, h2, Option.bind_some, h3, Option.bind_some]
theorem e_fn {g : List Dt → Option Dt} (h1 : mr s = some (ds, s1)) (h2 : g ds = some d) : mFn g mr s = some (d, s1) := by
  unfold mFn
  rw [h1, Option.bind_some, h2] <;> rfl
theorem e_fnL {g : List Dt → Option (List Dt)} (h1 : mr s = some (ds, s1)) (h2 : g ds = some es) : mFnL g mr s = some (es, s1) := by
  unfold mFnL
  rw [h1, Option.bind_some, h2] <;> rfl
theorem e_cons (h1 : m s = some (d, s1)) (h2 : mr s1 = some (ds, s2)) : mCons m mr s = some (d :: ds, s2) := by
  unfold mCons
  rw [h1, Option.bind_some, h2] <;> rfl
theorem e_star (h1 : m s = some (d, s1)) (h2 : lisD d = some es) (h3 : mr s1 = some (ds, s2)) : mStar m mr s = some (es ++ ds, s2) := by
  unfold mStar
  rw [h1, Option.bind_some, h2, Option.bind_some, h3] <;> rfl
theorem fits_ok {ds : List Dt} (h : ds.length ≤ 100000) : fits ds = true := decide_eq_true (Nat.le_trans h (by decide))
theorem e_tup (h1 : mr s = some (ds, s1)) (h2 : ds.length ≤ 100000) : mTup mr s = some (.tuple ds, s1) := by
  unfold mTup
  rw [h1, Option.bind_some]
  exact if_pos (fits_ok h2)
theorem e_lst (h1 : mr s = some (ds, s1)) (h2 : ds.length ≤ 100000) : mLst mr s = some (ds, s1) := by
  unfold mLst
  rw [h1, Option.bind_some]
  exact if_pos (fits_ok h2)
theorem e_ofL (h1 : mr s = some (ds, s1)) : mOfL mr s = some (.list ds, s1) := by
  unfold mOfL
  rw [h1] <;> rfl
theorem e_ixN (h1 : mb s = some (y, s1)) (h2 : slotD s s1 i = some x) (h3 : dIx x y = some z) : mIxN i mb s = some (z, s1) := by
  unfold mIxN
  rw [h1, Option.bind_some, h2, Option.bind_some, h3] <;> rfl
theorem e_lenN (h2 : slotD s s i = some x) (h3 : fLen [x] = some z) : mLenN i s = some (z, s) := by
  unfold mLenN
  rw [h2, Option.bind_some, h3] <;> rfl
theorem e_call (h1 : mr s = some (ds, s1)) (h2 : F (ds.map .val) none = some (r, u)) : mCall F mr s = some (r.dt, s1) := by
  unfold mCall
  rw [h1, Option.bind_some, h2] <;> rfl
theorem e_callL (h1 : mr s = some (ds, s1)) (h2 : F (ds.map .val) none = some (.new es, u)) : mCallL F mr s = some (es, s1) := by
  unfold mCallL
  rw [h1, Option.bind_some, h2] <;> rfl
theorem e_call0 (h2 : F [] none = some (r, u)) : mCall0 F s = some (r.dt, s) := by
  unfold mCall0
  rw [h2] <;> rfl
variable {mv : Stt → Option (List AV × Stt)} {as : List AV}
theorem e_callU (h1 : mv s = some (as, s1)) (h2 : F as s1.ur = some (r, u)) : mCallU F mv s = some (r.dt, { s1 with ur := u }) := by
  unfold mCallU
  rw [h1, Option.bind_some, h2] <;> rfl
theorem e_callUL (h1 : mv s = some (as, s1)) (h2 : F as s1.ur = some (.new es, u)) : mCallUL F mv s = some (es, { s1 with ur := u }) := by
  unfold mCallUL
  rw [h1, Option.bind_some, h2] <;> rfl
theorem e_callN {ks : List Int} (h1 : mr s = some (ds, s1)) (h0 : intsD ds = some ks) (h2 : F [.urn] (some ks) = some (r, u)) : mCallN F mr s = some (r.dt, s1) := by
  unfold mCallN
  rw [h1, Option.bind_some, h0, Option.bind_some, h2] <;> rfl
theorem e_ccons (h1 : m s = some (d, s1)) (h2 : mv s1 = some (as, s2)) : cCons m mv s = some (.val d :: as, s2) := by
  unfold cCons
  rw [h1, Option.bind_some, h2] <;> rfl
theorem e_curn (h1 : s.sl[i]? = some (some .urn)) (h2 : mv s = some (as, s2)) : cUrn i mv s = some (.urn :: as, s2) := by
  unfold cUrn
  rw [h1]
  show (mv s).map _ = _
  rw [h2] <;> rfl
theorem e_tst (h1 : m s = some (.bool b, s1)) : mTst m s = some (b, s1) := by
  unfold mTst
  rw [h1] <;> rfl
theorem e_tru (h1 : m s = some (d, s1)) (h2 : dTru d = some b) : mTru m s = some (b, s1) := by
  unfold mTru
  rw [h1, Option.bind_some, h2] <;> rfl
theorem e_notT (h1 : mt s = some (b, s1)) : mNotT mt s = some (!b, s1) := by
  unfold mNotT
  rw [h1] <;> rfl
theorem e_andT (h1 : mt s = some (b, s1)) (hb : b = true) (h2 : nt s1 = some (c, s2)) : mAndT mt nt s = some (c, s2) := by
  unfold mAndT
  rw [h1, Option.bind_some, if_pos hb, h2]
theorem e_andF (h1 : mt s = some (b, s1)) (hb : b = false) : mAndT mt nt s = some (false, s1) := by
  unfold mAndT
  rw [h1, Option.bind_some, if_neg (by rw [show b = false from hb]; exact Bool.false_ne_true)]
theorem e_orT (h1 : mt s = some (b, s1)) (hb : b = true) : mOrT mt nt s = some (true, s1) := by
  unfold mOrT
  rw [h1, Option.bind_some, if_pos hb]
theorem e_orF (h1 : mt s = some (b, s1)) (hb : b = false) (h2 : nt s1 = some (c, s2)) : mOrT mt nt s = some (c, s2) := by
  unfold mOrT
  rw [h1, Option.bind_some, if_neg (by rw [show b = false from hb]; exact Bool.false_ne_true), h2]
theorem e_andVT (h1 : ma s = some (x, s1)) (h2 : dTru x = some b) (hb : b = true) (h3 : mb s1 = some (y, s2)) : mAndV ma mb s = some (y, s2) := by
  unfold mAndV
  rw [h1, Option.bind_some, h2, Option.bind_some, if_pos hb, h3]
theorem e_andVF (h1 : ma s = some (x, s1)) (h2 : dTru x = some b) (hb : b = false) : mAndV ma mb s = some (x, s1) := by
  unfold mAndV
  rw [h1, Option.bind_some, h2, Option.bind_some, if_neg (by rw [hb]; exact Bool.false_ne_true)]
theorem e_orVT (h1 : ma s = some (x, s1)) (h2 : dTru x = some b) (hb : b = true) : mOrV ma mb s = some (x, s1) := by
  unfold mOrV
  rw [h1, Option.bind_some, h2, Option.bind_some, if_pos hb]
theorem e_orVF (h1 : ma s = some (x, s1)) (h2 : dTru x = some b) (hb : b = false) (h3 : mb s1 = some (y, s2)) : mOrV ma mb s = some (y, s2) := by
  unfold mOrV
  rw [h1, Option.bind_some, h2, Option.bind_some, if_neg (by rw [hb]; exact Bool.false_ne_true), h3]
theorem e_notV (h1 : ma s = some (x, s1)) (h2 : dTru x = some b) : mNotV ma s = some (.bool (!b), s1) := by
  unfold mNotV
  rw [h1, Option.bind_some, h2] <;> rfl
theorem e_ifT {α : Type} {p q : Stt → Option α} {v : α} (h1 : mt s = some (b, s1)) (hb : b = true) (h2 : p s1 = some v) : mIf mt p q s = some v := by
  unfold mIf
  rw [h1, Option.bind_some, if_pos hb, h2]
theorem e_ifF {α : Type} {p q : Stt → Option α} {v : α} (h1 : mt s = some (b, s1)) (hb : b = false) (h2 : q s1 = some v) : mIf mt p q s = some v := by
  unfold mIf
  rw [h1, Option.bind_some, if_neg (by rw [show b = false from hb]; exact Bool.false_ne_true), h2]
theorem e_sifT (h1 : mt s = some (b, s1)) (hb : b = true) (h2 : ms s1 = some o) : sIf mt ms ns s = some o := e_ifT h1 hb h2
theorem e_sifF (h1 : mt s = some (b, s1)) (hb : b = false) (h2 : ns s1 = some o) : sIf mt ms ns s = some o := e_ifF h1 hb h2
theorem e_seq (h1 : ms s = some (.nx s1)) (h2 : ns s1 = some o) : sSeq ms ns s = some o := by
  unfold sSeq
  rw [h1] <;> exact h2
theorem e_seqR (h1 : ms s = some (.rt r u)) : sSeq ms ns s = some (.rt r u) := by
  unfold sSeq
  rw [h1] <;> rfl
theorem e_drop (h1 : m s = some (d, s1)) : sDrop m s = some (.nx s1) := by
  unfold sDrop
  rw [h1] <;> rfl
theorem e_ret (h1 : m s = some (d, s1)) : sRet m s = some (.rt (.val d) s1.ur) := by
  unfold sRet
  rw [h1] <;> rfl
theorem e_retL (h1 : mr s = some (ds, s1)) : sRetL mr s = some (.rt (.new ds) s1.ur) := by
  unfold sRetL
  rw [h1] <;> rfl
theorem e_asg {g : MG} (h1 : m s = some (d, s1)) (h2 : g d s1 = some s2) : sAsg m g s = some (.nx s2) := by
  unfold sAsg
  rw [h1, Option.bind_some, h2] <;> rfl
theorem e_setL (h1 : mr s = some (ds, s1)) : sSetL i mr s = some (.nx (put s1 i (.own ds))) := by
  unfold sSetL
  rw [h1] <;> rfl
theorem e_app (h0 : isOwn s i = some es) (h1 : m s = some (d, s1)) (h2 : isOwn s1 i = some ds) (h3 : ds.length < 100000) : sApp i m s = some (.nx (put s1 i (.own (ds ++ [d])))) := by
  unfold sApp
  rw [h0, Option.bind_some, h1, Option.bind_some, h2, Option.bind_some, if_pos (Nat.lt_of_lt_of_le h3 (by decide))]
variable {mp : MP} {ss ts : List SV}
theorem e_pD (h1 : m s = some (d, s1)) (h2 : mp s1 = some (ss, s2)) : pD m mp s = some (.val d :: ss, s2) := by
  unfold pD
  rw [h1, Option.bind_some, h2] <;> rfl
theorem e_pL (h1 : mr s = some (ds, s1)) (h2 : mp s1 = some (ss, s2)) : pL mr mp s = some (.own ds :: ss, s2) := by
  unfold pL
  rw [h1, Option.bind_some, h2] <;> rfl
theorem e_par {is : List Nat} (h1 : mp s = some (ss, s1)) (h2 : ss.length = is.length) : sPar is mp s = some (.nx (puts s1 is ss)) := by
  unfold sPar
  rw [h1, Option.bind_some, if_pos h2]
theorem e_setO {mk : MD} {k : Int} {j : Nat} (h1 : m s = some (d, s1)) (h2 : isOwn s1 i = some es) (h3 : mk s1 = some (.int k, s2)) (h4 : isOwn s2 i = some ds) (h5 : ixN ds.length k = some j) : sSetIx i m mk s = some (.nx (put s2 i (.own (ds.set j d)))) := by
  unfold sSetIx
  rw [h1, Option.bind_some, isOwn_eq h2]
  show (mk s1).bind _ = _
  rw [h3, Option.bind_some, h4, Option.bind_some]
  show (ixN ds.length k).map _ = _
  rw [h5] <;> rfl
theorem e_setU {mk : MD} {k v : Int} {j : Nat} {nn : List Int} (h1 : m s = some (.int v, s1)) (h2 : s1.sl[i]? = some (some .urn)) (h3 : mk s1 = some (.int k, s2)) (h4 : s2.ur = some nn) (h5 : ixN nn.length k = some j) : sSetIx i m mk s = some (.nx { s2 with ur := some (nn.set j v) }) := by
  unfold sSetIx
  rw [h1, Option.bind_some, h2]
  show (mk s1).bind _ = _
  rw [h3, Option.bind_some]
  obtain ⟨sl, ur⟩ := s2
  simp only at h4
  subst h4
  show (ixN nn.length k).map _ = _
  rw [h5] <;> rfl
theorem e_for {mi : MA} {g : MG} (h1 : mi s = some (ds, s1)) (h2 : forGo g ms ds s1 = some o) : sFor mi g ms s = some o := by
  unfold sFor
  rw [h1] <;> exact h2
theorem e_seqI (h1 : m s = some (d, s1)) (h2 : seqD d = some ds) : iSeq m s = some (ds, s1) := by
  unfold iSeq
  rw [h1, Option.bind_some, h2] <;> rfl
theorem e_rng {n : Int} (h1 : mr s = some ([.int n], s1)) (h2 : -(2 ^ 62) ≤ n ∧ n < 2 ^ 62) : iRng mr s = some (rngD 0 n.toNat, s1) := by
  unfold iRng
  rw [h1, Option.bind_some]
  exact if_pos h2
theorem e_run {n N : Nat} {as : List AV} {u' : Ur} (hl : as.length = n) (h : ms ⟨slotsOf N as, u⟩ = some (.rt r u')) : runD n N ms as u = some (r, u') := by
  unfold runD
  rw [if_pos hl, h] <;> rfl
theorem e_runN {n N : Nat} {as : List AV} (hl : as.length = n) (h : ms ⟨slotsOf N as, u⟩ = some (.nx s1)) : runD n N ms as u = some (.val .none, s1.ur) := by
  unfold runD
  rw [if_pos hl, h] <;> rfl
/-! ints -/
variable {i1 i2 : Int}
theorem e_mul (h : (-(2 ^ 64) < i1 ∧ i1 < 2 ^ 64) ∨ (-(2 ^ 64) < i2 ∧ i2 < 2 ^ 64)) : dMul (.int i1) (.int i2) = some (.int (i1 * i2)) := by
  refine if_pos ?_
  unfold mulOk smallI
  rcases h with h | h
  · rw [decide_eq_true h.1, decide_eq_true h.2]; simp
  · rw [decide_eq_true h.1, decide_eq_true h.2]; simp
theorem e_fdiv (h : 0 < i2) (h2 : i2.natAbs.log2 < 9000) : dFdiv (.int i1) (.int i2) = some (.int (i1 / i2)) := by
  refine if_pos ?_
  unfold divOk
  rw [decide_eq_true h, decide_eq_true h2]
  rfl
theorem e_mod (h : 0 < i2) : dMod (.int i1) (.int i2) = some (.int (i1 % i2)) := if_pos (decide_eq_true h)
/-! comprehensions -/
/-- one item of a comprehension -/
def lcStep (g : MG) (mt : MT) (me : MD) (sb : List (Option SV)) (d : Dt) (u : Ur) : Option (Option Dt × Ur) :=
  (g d ⟨sb, u⟩).bind fun s1 => (mt s1).bind fun q => if q.1 then (me q.2).bind fun y => some (some y.1, y.2.ur) else some (none, q.2.ur)
theorem lcGo_cons (g : MG) (mt : MT) (me : MD) (sb : List (Option SV)) (d : Dt) (ds : List Dt) (u : Ur) : lcGo g mt me sb (d :: ds) u = (lcStep g mt me sb d u).bind fun q => (lcGo g mt me sb ds q.2).map fun r => (q.1.toList ++ r.1, r.2) := by
  show (g d ⟨sb, u⟩).bind _ = _
  unfold lcStep
  cases g d ⟨sb, u⟩ with
  | none => rfl
  | some s1 =>
    show (mt s1).bind _ = ((mt s1).bind _).bind _
    cases mt s1 with
    | none => rfl
    | some q =>
      show (if q.1 = true then _ else _) = (if q.1 = true then _ else _ : Option (Option Dt × Ur)).bind _
      cases q.1 with
      | true =>
        show (me q.2).bind _ = ((me q.2).bind _).bind _
        cases me q.2 with
        | none => rfl
        | some y => rfl
      | false =>
        show lcGo g mt me sb ds q.2.ur = (lcGo g mt me sb ds q.2.ur).map _
        cases lcGo g mt me sb ds q.2.ur <;> rfl
theorem lcGo_map {α : Type} {g : MG} {mt : MT} {me : MD} {sb : List (Option SV)} {u : Ur} {enc : α → Dt} {p : α → Bool} {f : α → Dt} : ∀ {xs : List α}, (∀ x ∈ xs, lcStep g mt me sb (enc x) u = some (if p x then some (f x) else none, u)) → lcGo g mt me sb (xs.map enc) u = some ((xs.filter p).map f, u)
  | [], _ => rfl
  | x :: xs, h => by
    rw [List.map_cons, lcGo_cons, h x List.mem_cons_self]
    show (lcGo g mt me sb (xs.map enc) u).map _ = _
    rw [lcGo_map fun y hy => h y (List.mem_cons_of_mem _ hy)]
    cases hp : p x with
    | true => rw [List.filter_cons_of_pos hp]; rfl
    | false => rw [List.filter_cons_of_neg (by rw [hp]; exact Bool.false_ne_true)]; rfl
theorem e_lc {mi : MA} {fz vs : List Nat} {g : MG} {me : MD} {u' : Ur} (h1 : mi s = some (ds, s1)) (h2 : lcGo g mt me (blkSl (frzL s1 fz).sl vs) ds (frzL s1 fz).ur = some (es, u')) (h3 : es.length ≤ 100000) : mLc mi fz vs g mt me s = some (es, { frzL s1 fz with ur := u' }) := by
  unfold mLc
  rw [h1, Option.bind_some, h2, Option.bind_some]
  exact if_pos (fits_ok h3)
/-- a comprehension that draws nothing: p tells which items stay, f what they give -/
theorem e_lcm {α : Type} {mi : MA} {fz vs : List Nat} {g : MG} {me : MD} {xs : List α} {enc : α → Dt} {p : α → Bool} {f : α → Dt} (h1 : mi s = some (xs.map enc, s1)) (h2 : ∀ x ∈ xs, lcStep g mt me (blkSl (frzL s1 fz).sl vs) (enc x) (frzL s1 fz).ur = some (if p x then some (f x) else none, (frzL s1 fz).ur)) (h3 : xs.length ≤ 100000) :
    mLc mi fz vs g mt me s = some ((xs.filter p).map f, frzL s1 fz) := by
  have h := e_lc (fz := fz) (vs := vs) (g := g) (mt := mt) (me := me) h1 (lcGo_map h2) (by rw [List.length_map]; exact Nat.le_trans (List.length_filter_le _ _) h3)
  exact h
theorem st_yes {g : MG} {me : MD} {sb : List (Option SV)} {s2 : Stt} (h1 : g x ⟨sb, u⟩ = some s) (h2 : mt s = some (b, s1)) (hb : b = true) (h3 : me s1 = some (d, s2)) : lcStep g mt me sb x u = some (some d, s2.ur) := by
  unfold lcStep
  rw [h1, Option.bind_some, h2, Option.bind_some, if_pos hb, h3] <;> rfl
theorem st_no {g : MG} {me : MD} {sb : List (Option SV)} (h1 : g x ⟨sb, u⟩ = some s) (h2 : mt s = some (b, s1)) (hb : b = false) : lcStep g mt me sb x u = some (none, s1.ur) := by
  unfold lcStep
  rw [h1, Option.bind_some, h2, Option.bind_some, if_neg (by rw [show b = false from hb]; exact Bool.false_ne_true)]
/-! loops -/
theorem for_inv {g : MG} {mb : MS} (Iv : Stt → Prop) : ∀ (ds : List Dt) (s : Stt), Iv s → (∀ d ∈ ds, ∀ s, Iv s → ∃ s1 s2, g d s = some s1 ∧ mb s1 = some (.nx s2) ∧ Iv s2) → ∃ s', forGo g mb ds s = some (.nx s') ∧ Iv s'
  | [], s, h, _ => ⟨s, rfl, h⟩
  | d :: ds, s, h, k => by
    obtain ⟨s1, s2, e1, e2, h2⟩ := k d List.mem_cons_self s h
    obtain ⟨s', e3, h3⟩ := for_inv Iv ds s2 h2 fun x hx => k x (List.mem_cons_of_mem _ hx)
    refine ⟨s', ?_, h3⟩
    show (g d s).bind _ = _
    rw [e1, Option.bind_some, e2]
    exact e3
theorem for_step {g : MG} {mb : MS} (h1 : g d s = some s1) (h2 : mb s1 = some (.nx s2)) (h3 : forGo g mb ds s2 = some o) : forGo g mb (d :: ds) s = some o := by
  show (g d s).bind _ = _
  rw [h1, Option.bind_some, h2]
  exact h3
theorem for_ret {g : MG} {mb : MS} (h1 : g d s = some s1) (h2 : mb s1 = some (.rt r u)) : forGo g mb (d :: ds) s = some (.rt r u) := by
  show (g d s).bind _ = _
  rw [h1, Option.bind_some, h2] <;> rfl
end
end DL

set_option Elab.async false
set_option linter.all false
set_option maxRecDepth 100000
set_option maxHeartbeats 4000000
namespace DL
open PySem PySem.Spec PyProof.Rows L2
theorem e_ret2 {m : MD} {s s1 : Stt} {d : Dt} {u : Ur} (h1 : m s = some (d, s1)) (h2 : s1.ur = u) : sRet m s = some (.rt (.val d) u) := h2 ▸ e_ret h1
theorem e_retL2 {m : MA} {s s1 : Stt} {d : List Dt} {u : Ur} (h1 : m s = some (d, s1)) (h2 : s1.ur = u) : sRetL m s = some (.rt (.new d) u) := h2 ▸ e_retL h1
local macro_rules | `(tactic| walk_at "dec") => `(tactic| first | rfl | assumption | (exact decide_eq_true (by assumption)) | (exact decide_eq_true (by omega)) | (exact decide_eq_false (by omega)))
local macro_rules | `(tactic| walk_at "go") => `(tactic| first
  | assumption
  | ((with_reducible apply e_bin) <;> walk_at "go") | ((with_reducible apply e_un) <;> walk_at "go") | ((with_reducible apply e_fn) <;> walk_at "go") | ((with_reducible apply e_fnL) <;> walk_at "go") | ((with_reducible apply e_cons) <;> walk_at "go") | ((with_reducible apply e_star) <;> walk_at "go")
  | ((with_reducible apply e_tup) <;> walk_at "go") | ((with_reducible apply e_lst) <;> walk_at "go") | ((with_reducible apply e_ofL) <;> walk_at "go") | ((with_reducible apply e_ixN) <;> walk_at "go") | ((with_reducible apply e_lenN) <;> walk_at "go")
  | ((with_reducible apply e_call) <;> walk_at "go") | ((with_reducible apply e_callL) <;> walk_at "go") | ((with_reducible apply e_callU) <;> walk_at "go") | ((with_reducible apply e_callUL) <;> walk_at "go") | ((with_reducible apply e_ccons) <;> walk_at "go") | ((with_reducible apply e_curn) <;> walk_at "go")
  | ((with_reducible apply e_tst) <;> walk_at "go") | ((with_reducible apply e_tru) <;> walk_at "go") | ((with_reducible apply e_notT) <;> walk_at "go") | ((with_reducible apply e_asg) <;> walk_at "go") | ((with_reducible apply e_drop) <;> walk_at "go") | ((with_reducible apply e_ret2) <;> walk_at "go") | ((with_reducible apply e_retL2) <;> walk_at "go")
  | ((with_reducible apply e_setL) <;> walk_at "go") | ((with_reducible apply e_pD) <;> walk_at "go") | ((with_reducible apply e_pL) <;> walk_at "go") | ((with_reducible apply e_par) <;> walk_at "go") | ((with_reducible apply e_seqI) <;> walk_at "go") | ((with_reducible apply e_app) <;> walk_at "go")
  | ((with_reducible apply e_mul); first | (left; constructor <;> omega) | (right; constructor <;> omega))
  | ((with_reducible apply e_fdiv); omega; first | assumption | decide)
  | ((with_reducible apply e_mod); omega)
  | rfl | exact Nat.le_of_ble_eq_true rfl | omega | decide)
/-! ### the laws' own draws -/
def takeB : MS := (sSeq (sIf (mTst (mBin dGt (mIxN 0 (mC (.int 0))) (mC (.int 0)))) (sSeq (sAsg (mBin dMod (mFn fInt (mCons (mIxN 0 (mC (.int 0))) mNil)) (mVar 1)) (gN 5))
  (sSeq (sSetIx 0 (mBin dFdiv (mIxN 0 (mC (.int 0))) (mVar 1)) (mC (.int 0)))
  (sRetV 5))) sNil)
  (sSeq (sSetIx 0 (mBin dAdd (mIxN 0 (mC (.int 2))) (mC (.int 1))) (mC (.int 2)))
  (sSeq (sAsg (mBin dMod (mFn fInt (mCons (mBin dMul (mBin dAdd (mIxN 0 (mC (.int 1))) (mBin dMul (mC (.int 48271)) (mIxN 0 (mC (.int 2))))) (mBin dAdd (mC (.int 39373)) (mIxN 0 (mC (.int 2))))) mNil)) (mC (.int 2147483647))) (gN 2))
  (sSeq (sAsg (mBin dAdd (mBin dMod (mFn fInt (mCons (mVar 2) mNil)) (mC (.int 40009))) (mC (.int 7))) (gN 3))
  (sSeq (sAsg (mBin dMod (mFn fInt (mCons (mBin dMul (mBin dAdd (mBin dAdd (mVar 2) (mIxN 0 (mC (.int 2)))) (mBin dFdiv (mIxN 0 (mC (.int 1))) (mC (.int 1000003)))) (mVar 3)) mNil)) (mC (.int 2147483629))) (gN 4))
  (sRet (mBin dMod (mFn fInt (mCons (mBin dFdiv (mBin dMod (mFn fInt (mCons (mBin dAdd (mBin dMul (mVar 4) (mC (.int 48271))) (mVar 2)) mNil)) (mC (.int 2147483587))) (mC (.int 64))) mNil)) (mVar 1))))))))
def takeF : FM := runD 2 6 takeB
/-- an urn behind at most k draws -/
structure UOk (k : Nat) (u : List Int) : Prop where
  ex : ∃ a b c : Int, u = [a, b, c] ∧ 0 ≤ a ∧ 0 ≤ b ∧ b < 2 ^ 62 ∧ 0 ≤ c ∧ c ≤ (k : Int)
theorem UOk.mono {k j : Nat} {u : List Int} (h : UOk k u) (hk : k ≤ j) : UOk j u := by
  obtain ⟨a, b, c, h1, h2, h3, h4, h5, h6⟩ := h.ex
  exact ⟨a, b, c, h1, h2, h3, h4, h5, by omega⟩
theorem take_ok {n : Int} {k : Nat} {u : List Int} (hn : 0 < n) (hl : n.natAbs.log2 < 9000) (hk : k < 1000000) (hu : UOk k u) : ∃ v u', takeF [.urn, .val (.int n)] (some u) = some (.val (.int v), some u') ∧ 0 ≤ v ∧ v < n ∧ UOk (k + 1) u' := by
  obtain ⟨a, b, c, rfl, ha, hb, hb2, hc, hc2⟩ := hu.ex
  by_cases h0 : 0 < a
  · refine ⟨a % n, [a / n, b, c], ?_, Int.emod_nonneg _ (by omega), Int.emod_lt_of_pos _ hn, ⟨a / n, b, c, rfl, Int.ediv_nonneg ha (by omega), hb, hb2, hc, by omega⟩⟩
    refine e_run rfl (e_seqR ?_)
    refine e_sifT (b := decide (0 < a)) (by walk_at "go") (decide_eq_true h0) ?_
    refine e_seq (by walk_at "go") ?_
    refine e_seq (e_setU (by walk_at "go") rfl rfl rfl rfl) ?_
    rfl
  · have hm : ∀ x : Int, 0 ≤ x % n ∧ x % n < n := fun x => ⟨Int.emod_nonneg _ (by omega), Int.emod_lt_of_pos _ hn⟩
    have key : ∃ v, takeF [.urn, .val (.int n)] (some [a, b, c]) = some (.val (.int (v % n)), some [a, b, c + 1]) := by
      apply Exists.intro
      apply e_run rfl
      apply e_seq (e_sifF (b := decide (0 < a)) (by walk_at "go") (decide_eq_false h0) rfl)
      apply e_seq (e_setU (v := c + 1) (by walk_at "go") rfl rfl rfl rfl)
      apply e_seq
      · walk_at "go"
      apply e_seq
      · walk_at "go"
      apply e_seq
      · walk_at "go"
      walk_at "go"
    obtain ⟨v, e⟩ := key
    exact ⟨v % n, [a, b, c + 1], e, (hm v).1, (hm v).2, ⟨a, b, c + 1, rfl, ha, hb, hb2, by omega, by omega⟩⟩
end DL

set_option Elab.async false
set_option linter.all false
set_option maxRecDepth 100000
set_option maxHeartbeats 4000000
namespace DL
open PySem PySem.Spec PyProof.Rows L2
local macro_rules | `(tactic| walk_at "dec") => `(tactic| first | rfl | assumption | (exact decide_eq_true (by assumption)) | (exact decide_eq_true (by omega)) | (exact decide_eq_false (by omega)))
local macro_rules | `(tactic| walk_at "go") => `(tactic| first
  | assumption
  | ((with_reducible apply e_bin) <;> walk_at "go") | ((with_reducible apply e_un) <;> walk_at "go") | ((with_reducible apply e_fn) <;> walk_at "go") | ((with_reducible apply e_fnL) <;> walk_at "go") | ((with_reducible apply e_cons) <;> walk_at "go") | ((with_reducible apply e_star) <;> walk_at "go")
  | ((with_reducible apply e_tup) <;> walk_at "go") | ((with_reducible apply e_lst) <;> walk_at "go") | ((with_reducible apply e_ofL) <;> walk_at "go") | ((with_reducible apply e_ixN) <;> walk_at "go") | ((with_reducible apply e_lenN) <;> walk_at "go")
  | ((with_reducible apply e_call) <;> walk_at "go") | ((with_reducible apply e_callL) <;> walk_at "go") | ((with_reducible apply e_callU) <;> walk_at "go") | ((with_reducible apply e_callUL) <;> walk_at "go") | ((with_reducible apply e_ccons) <;> walk_at "go") | ((with_reducible apply e_curn) <;> walk_at "go")
  | ((with_reducible apply e_tst) <;> walk_at "go") | ((with_reducible apply e_tru) <;> walk_at "go") | ((with_reducible apply e_notT) <;> walk_at "go") | ((with_reducible apply e_asg) <;> walk_at "go") | ((with_reducible apply e_drop) <;> walk_at "go") | ((with_reducible apply e_ret2) <;> walk_at "go") | ((with_reducible apply e_retL2) <;> walk_at "go")
  | ((with_reducible apply e_setL) <;> walk_at "go") | ((with_reducible apply e_pD) <;> walk_at "go") | ((with_reducible apply e_pL) <;> walk_at "go") | ((with_reducible apply e_par) <;> walk_at "go") | ((with_reducible apply e_seqI) <;> walk_at "go") | ((with_reducible apply e_app) <;> walk_at "go")
  | ((with_reducible apply e_mul); first | (left; constructor <;> omega) | (right; constructor <;> omega))
  | ((with_reducible apply e_fdiv); omega; first | assumption | decide)
  | ((with_reducible apply e_mod); omega)
  | rfl | exact Nat.le_of_ble_eq_true rfl | omega | decide)
theorem e_callV {F : FM} {mr : MA} {s s1 : Stt} {ds : List Dt} {d : Dt} {u : Ur} (h1 : mr s = some (ds, s1)) (h2 : F (ds.map .val) none = some (.val d, u)) : mCall F mr s = some (d, s1) := e_call h1 h2
theorem e_callW {F : FM} {mr : MA} {s s1 : Stt} {ds es : List Dt} {u : Ur} (h1 : mr s = some (ds, s1)) (h2 : F (ds.map .val) none = some (.new es, u)) : mCall F mr s = some (.list es, s1) := e_call h1 h2
theorem e_callUV {F : FM} {mv : Stt → Option (List AV × Stt)} {s s1 : Stt} {as : List AV} {d : Dt} {u : Ur} (h1 : mv s = some (as, s1)) (h2 : F as s1.ur = some (.val d, u)) : mCallU F mv s = some (d, { s1 with ur := u }) := e_callU h1 h2
theorem e_callUW {F : FM} {mv : Stt → Option (List AV × Stt)} {s s1 : Stt} {as : List AV} {es : List Dt} {u : Ur} (h1 : mv s = some (as, s1)) (h2 : F as s1.ur = some (.new es, u)) : mCallU F mv s = some (.list es, { s1 with ur := u }) := e_callU h1 h2
/-! ### the frame all laws share: cells, boxes, draws of one of some -/
theorem ix_nat {n k : Nat} (h : k < n) : ixN n (k : Int) = some k := by
  unfold ixN
  rw [if_pos (by omega), if_pos (by omega), Int.toNat_natCast]
theorem at_nat {α : Type} {xs : List α} {k : Nat} {x : α} (h : xs[k]? = some x) : atI xs (k : Int) = some x := by
  have hk : k < xs.length := (List.getElem?_eq_some_iff.mp h).1
  unfold atI
  rw [ix_nat hk]
  exact h
theorem at_int {α : Type} {xs : List α} {i : Int} (h0 : 0 ≤ i) (h1 : i < xs.length) : ∃ x, atI xs i = some x ∧ x ∈ xs := by
  have hk : i.toNat < xs.length := by omega
  refine ⟨xs[i.toNat], ?_, List.getElem_mem hk⟩
  have := at_nat (List.getElem?_eq_getElem hk)
  rwa [Int.toNat_of_nonneg h0] at this
def boxB (c : Int) : MS := (sSeq (sAsg (mIf (mTst (mBin dLt (mVar 1) (mLenN 0))) (mIxN 0 (mVar 1)) (mC (.int 0))) (gN 2))
  (sRetL (mLst (mCons (mBin dMul (mFn fAbs (mCons (mVar 2) mNil)) (mFn fInt (mCons (mBin dGe (mFn fAbs (mCons (mVar 2) mNil)) (mBin dPow (mC (.int 10)) (mC (.int 18)))) mNil))) (mCons (mBin dAdd (mBin dAdd (mBin dMod (mFn fInt (mCons (mVar 2) mNil)) (mC (.int 2305843009213693951))) (mBin dMul (mC (.int 39373)) (mVar 1))) (mC (.int c))) (mCons (mC (.int 0)) mNil))))))
def boxF (c : Int) : FM := runD 2 3 (boxB c)
theorem box_ok {c : Int} {cs : List Int} {k : Nat} (hk : k < cs.length) (hk2 : k < 64) (h0 : 0 ≤ c) (hc : c < 2 ^ 60) : ∃ u : List Int, boxF c [.val (.list (cs.map .int)), .val (.int (k : Int))] none = some (.new (u.map .int), none) ∧ UOk 0 u := by
  have e1 : dIx (.list (cs.map .int)) (.int (k : Int)) = some (.int cs[k]) := by
    refine at_nat ?_
    rw [List.getElem?_map, List.getElem?_eq_getElem hk] <;> rfl
  generalize cs[k] = z at e1
  have hm : ∀ (x : Int) (b : Bool), dMul (.int x) (.int (if b then 1 else 0)) = some (.int (x * if b then 1 else 0)) := fun x b => by
    cases b
    · exact e_mul (.inr ⟨by decide, by decide⟩)
    · exact e_mul (.inr ⟨by decide, by decide⟩)
  refine ⟨[(if z < 0 then -z else z) * (if decide ((10 : Int) ^ 18 ≤ (if z < 0 then -z else z)) = true then 1 else 0), z % 2305843009213693951 + 39373 * (k : Int) + c, 0], ?_, ⟨_, _, _, rfl, ?_, ?_, ?_, ?_, ?_⟩⟩
  · show boxF c _ none = some (.new [.int _, .int _, .int _], none)
    refine e_run rfl (e_seq (e_asg (e_ifT (b := decide ((k : Int) < (cs.map PyData.int).length)) (by walk_at "go") (decide_eq_true (by rw [List.length_map]; omega)) (by walk_at "go")) rfl) ?_)
    have hm' := hm (if z < 0 then -z else z) (decide ((10 : Int) ^ 18 ≤ (if z < 0 then -z else z)))
    apply e_retL2
    · apply e_lst
      · apply e_cons
        · walk_at "go"
        · apply e_cons
          · walk_at "go"
          · walk_at "go"
      · walk_at "go"
    · rfl
  · refine Int.mul_nonneg ?_ ?_ <;> split <;> omega
  · have := Int.emod_nonneg z (show (2305843009213693951 : Int) ≠ 0 by decide); omega
  · have := Int.emod_lt_of_pos z (show (0 : Int) < 2305843009213693951 by decide); omega
  · omega
  · omega
/-! cells -/
def cellsB : MS := (sSeq (sSetL 2 (mOrL (mFnL fList (mCons (mSl (mVar 0) oNone (oSome (mVar 1))) mNil)) (mLst (mCons (mC (.int 0)) mNil))))
  (sSeq (sFor (iEnumL (mCons (mSl (mVar 0) (oSome (mVar 1)) (oSome (mC (.int 63)))) mNil)) (gT 2 (gsCons (gN 3) (gsCons (gN 4) gsNil))) (sSeq (sAsg (mBin dMod (mFn fInt (mCons (mVar 3) mNil)) (mVar 1)) (gN 5))
  (sSetIx 2 (mBin dAdd (mIxN 2 (mVar 5)) (mBin dMul (mVar 4) (mBin dAdd (mVar 3) (mC (.int 2))))) (mVar 5))))
  (sRetV 2)))
def cellsF : FM := runD 2 6 cellsB
theorem enum_mem {d : Dt} : ∀ {xs : List Int} {n : Nat}, d ∈ enumD n (xs.map .int) → ∃ (k : Nat) (x : Int), d = .tuple [.int (k : Int), .int x] ∧ k < n + xs.length
  | [], _, h => nomatch h
  | x :: xs, n, h => by
    cases h with
    | head _ => exact ⟨n, x, rfl, by rw [List.length_cons]; omega⟩
    | tail _ h =>
      obtain ⟨k, y, e1, e2⟩ := enum_mem h
      exact ⟨k, y, e1, by rw [List.length_cons]; omega⟩
theorem e_sl {m : MD} {ml mh : MO} {s s1 s2 s3 : Stt} {d z : Dt} {l u : Option Int} (h1 : m s = some (d, s1)) (h2 : ml s1 = some (l, s2)) (h3 : mh s2 = some (u, s3)) (h4 : dSl d l u = some z) : mSl m ml mh s = some (z, s3) := by
  unfold mSl
  rw [h1, Option.bind_some, h2, Option.bind_some, h3, Option.bind_some, h4] <;> rfl
theorem cutL_map {α β : Type} (f : α → β) (xs : List α) (l u : Option Int) : cutL (xs.map f) l u = (cutL xs l u).map f := by
  unfold cutL
  rw [List.length_map, List.map_take, List.map_drop]
theorem cutL_len {α : Type} (xs : List α) (l u : Option Int) : (cutL xs l u).length ≤ xs.length := by
  unfold cutL
  rw [List.length_take, List.length_drop]
  omega
theorem e_enum {m : MA} {s s1 : Stt} {xs : List Dt} (h : m s = some ([.list xs], s1)) : iEnumL m s = some (enumD 0 xs, s1) := by
  unfold iEnumL
  rw [h] <;> rfl
theorem e_orLT {m n : MA} {s s1 : Stt} {x : Dt} {xs : List Dt} (h : m s = some (x :: xs, s1)) : mOrL m n s = some (x :: xs, s1) := by
  unfold mOrL
  rw [h] <;> rfl
theorem e_orLF {m n : MA} {s s1 : Stt} {q : List Dt × Stt} (h : m s = some ([], s1)) (h2 : n s1 = some q) : mOrL m n s = some q := by
  unfold mOrL
  rw [h] <;> exact h2
theorem cells_ok {ns : List Int} {t : Nat} (ht : 0 < t) (ht2 : t ≤ 63) (hn : ns.length ≤ 63) : ∃ cs : List Int, cellsF [.val (scrD ns), .val (.int (t : Int))] none = some (.new (cs.map .int), none) ∧ 0 < cs.length ∧ cs.length ≤ 63 := by
  have go : ∀ (c0 : List Int), (c0.length = t ∨ ns.length ≤ t) → 0 < c0.length → c0.length ≤ 63 → mOrL (mFnL fList (mCons (mSl (mVar 0) oNone (oSome (mVar 1))) mNil)) (mLst (mCons (mC (.int 0)) mNil)) ⟨slotsOf 6 [.val (scrD ns), .val (.int (t : Int))], none⟩ = some (c0.map .int, ⟨slotsOf 6 [.val (scrD ns), .val (.int (t : Int))], none⟩) → ∃ cs : List Int, cellsF [.val (scrD ns), .val (.int (t : Int))] none = some (.new (cs.map .int), none) ∧ 0 < cs.length ∧ cs.length ≤ 63 := by
    intro c0 hc hc1 hc2 he
    have loop : ∃ cs : List Int, ∃ a b c : Option SV, forGo (gT 2 (gsCons (gN 3) (gsCons (gN 4) gsNil))) (sSeq (sAsg (mBin dMod (mFn fInt (mCons (mVar 3) mNil)) (mVar 1)) (gN 5)) (sSetIx 2 (mBin dAdd (mIxN 2 (mVar 5)) (mBin dMul (mVar 4) (mBin dAdd (mVar 3) (mC (.int 2))))) (mVar 5))) (enumD 0 ((cutL ns (some (t : Int)) (some 63)).map .int)) ⟨[some (.val (scrD ns)), some (.val (.int (t : Int))), some (.own (c0.map .int)), none, none, none], none⟩ = some (.nx ⟨[some (.val (scrD ns)), some (.val (.int (t : Int))), some (.own (cs.map .int)), a, b, c], none⟩) ∧ cs.length = c0.length := by
      rcases hc with hc | hc
      · obtain ⟨s', e, cs, a, b, c, rfl, hl⟩ := for_inv (g := gT 2 (gsCons (gN 3) (gsCons (gN 4) gsNil))) (mb := sSeq (sAsg (mBin dMod (mFn fInt (mCons (mVar 3) mNil)) (mVar 1)) (gN 5)) (sSetIx 2 (mBin dAdd (mIxN 2 (mVar 5)) (mBin dMul (mVar 4) (mBin dAdd (mVar 3) (mC (.int 2))))) (mVar 5))) (fun s => ∃ (cs : List Int) (a b c : Option SV), s = ⟨[some (.val (scrD ns)), some (.val (.int (t : Int))), some (.own (cs.map .int)), a, b, c], none⟩ ∧ cs.length = c0.length) (enumD 0 ((cutL ns (some (t : Int)) (some 63)).map .int)) _ ⟨c0, none, none, none, rfl, rfl⟩ (by
          rintro d hd s ⟨cs, a, b, c, rfl, hl⟩
          obtain ⟨k, x, rfl, hk⟩ := enum_mem hd
          have hk' : (k : Int) < 64 := by have := cutL_len ns (some (t : Int)) (some 63); omega
          have hi : k % t < cs.length := by rw [hl, hc]; exact Nat.mod_lt _ ht
          have e1 : dIx (.list (cs.map .int)) (.int ((k : Int) % (t : Int))) = some (.int cs[k % t]) := by
            rw [← Int.natCast_emod]
            refine at_nat ?_
            rw [List.getElem?_map, List.getElem?_eq_getElem hi] <;> rfl
          have e2 : ixN (cs.map PyData.int).length ((k : Int) % (t : Int)) = some (k % t) := by
            rw [← Int.natCast_emod, List.length_map]
            exact ix_nat hi
          refine ⟨_, _, rfl, e_seq (by walk_at "go") (e_setO (by walk_at "go") rfl (by walk_at "go") rfl e2), cs.set (k % t) (cs[k % t] + x * ((k : Int) + 2)), some (.val (.int (k : Int))), some (.val (.int x)), some (.val (.int ((k : Int) % (t : Int)))), ?_, by rw [List.length_set]; exact hl⟩
          rw [List.map_set] <;> rfl)
        exact ⟨cs, a, b, c, e, hl⟩
      · refine ⟨c0, none, none, none, ?_, rfl⟩
        have : cutL ns (some (t : Int)) (some 63) = [] := by
          unfold cutL
          rw [HT.sIx_nat, Nat.min_eq_right hc, List.drop_length, List.take_nil]
        rw [this] <;> rfl
    obtain ⟨cs, a, b, c, e, hl⟩ := loop
    refine ⟨cs, ?_, by omega, by omega⟩
    refine e_run rfl (e_seq (e_setL he) (e_seq (e_for (e_enum (e_cons (e_sl rfl rfl rfl ?_) rfl)) e) rfl))
    show some (PyData.list (cutL (ns.map .int) _ _)) = _
    rw [cutL_map]
  have hcut : ∀ q, cutL (ns.map PyData.int) none (some (t : Int)) = q → mFnL fList (mCons (mSl (mVar 0) oNone (oSome (mVar 1))) mNil) ⟨slotsOf 6 [.val (scrD ns), .val (.int (t : Int))], none⟩ = some (q, ⟨slotsOf 6 [.val (scrD ns), .val (.int (t : Int))], none⟩) := by
    rintro q rfl
    exact e_fnL (e_cons (e_sl rfl rfl rfl rfl) rfl) rfl
  have hl : (cutL ns none (some (t : Int))).length = min t ns.length := by
    unfold cutL
    rw [HT.sIx_nat, HT.sIx_none, List.drop_zero, Nat.sub_zero, List.length_take]
    omega
  cases hq : cutL ns none (some (t : Int)) with
  | nil =>
    rw [hq] at hl
    have h0 : ns.length = 0 := by rw [List.length_nil] at hl; omega
    exact go [0] (.inr (by omega)) (by decide) (by decide) (e_orLF (hcut [] (by rw [cutL_map, hq] <;> rfl)) rfl)
  | cons x xs =>
    rw [hq] at hl
    refine go (x :: xs) ?_ (by simp) (by omega) (e_orLT (hcut _ (by rw [cutL_map, hq] <;> rfl)))
    by_cases h : t ≤ ns.length
    · left; omega
    · right; omega
/-! of -/
def ofB : MS := (sRet (mIxN 1 (mCallU takeF (cUrn 0 (cCons (mLenN 1) cNil)))))
def ofF : FM := runD 2 2 ofB
theorem log2_small {n : Nat} (h : n < 2 ^ 8000) : n.log2 < 9000 := by
  rcases Nat.eq_zero_or_pos n with h0 | h0
  · subst h0; decide
  · exact Nat.lt_trans ((Nat.log2_lt (by omega)).mpr h) (by decide)
set_option exponentiation.threshold 9000 in
theorem pw_le : 2 ^ 30 ≤ 2 ^ 8000 := Nat.pow_le_pow_right (by decide) (by decide)
theorem of_ok {d : Dt} {ds : List Dt} {k : Nat} {u : List Int} (hd : d = .list ds ∨ d = .tuple ds) (h0 : 0 < ds.length) (h1 : ds.length < 2 ^ 30) (hk : k < 1000000) (hu : UOk k u) : ∃ x u', ofF [.urn, .val d] (some u) = some (.val x, some u') ∧ x ∈ ds ∧ UOk (k + 1) u' := by
  obtain ⟨v, u', e, h2, h3, h4⟩ := take_ok (n := (ds.length : Int)) (by omega) (by rw [Int.natAbs_natCast]; exact log2_small (Nat.lt_of_lt_of_le h1 pw_le)) hk hu
  obtain ⟨x, e2, h5⟩ := at_int h2 h3
  refine ⟨x, u', ?_, h5, h4⟩
  rcases hd with rfl | rfl
  · exact e_run rfl (e_ret2 (e_ixN (e_callU (e_curn rfl (e_ccons (e_lenN rfl rfl) rfl)) e) rfl e2) rfl)
  · exact e_run rfl (e_ret2 (e_ixN (e_callU (e_curn rfl (e_ccons (e_lenN rfl rfl) rfl)) e) rfl e2) rfl)
theorem st_yes2 {x d : Dt} {u u' : Ur} {mt : MT} {b : Bool} {s s1 : Stt} {g : MG} {me : MD} {sb : List (Option SV)} {s2 : Stt} (h1 : g x ⟨sb, u⟩ = some s) (h2 : mt s = some (b, s1)) (hb : b = true) (h3 : me s1 = some (d, s2)) (hu : s2.ur = u') : lcStep g mt me sb x u = some (some d, u') := hu ▸ st_yes h1 h2 hb h3
/-! the law's own end -/
def allM (R : FM) (c : Int) : MD := (mFn fAll (mCons (mOfL (mLc (iRng (mCons (mLenN 1) mNil)) [] [2] (gN 2) mYes (mCallN R (mCallL (boxF c) (mCons (mVar 1) (mCons (mVar 2) mNil)))))) mNil))
theorem bools_true (n : Nat) : boolsD ((List.replicate n (PyData.bool true))) = some (List.replicate n true) := by
  induction n with
  | zero => rfl
  | succ n ih =>
    show (boolsD (List.replicate n (PyData.bool true))).map _ = _
    rw [ih] <;> rfl
theorem all_ok {R : FM} {c : Int} {sc : Dt} {cs : List Int} (h0 : 0 ≤ c) (hc : c < 2 ^ 60) (hl : cs.length ≤ 63) (hR : ∀ u, UOk 0 u → ∃ u', R [.urn] (some u) = some (.val (.bool true), u')) :
    allM R c ⟨[some (.val sc), some (.val (.list (cs.map .int))), none], none⟩ = some (.bool true, ⟨[some (.val sc), some (.val (.list (cs.map .int))), none], none⟩) := by
  have e0 : iRng (mCons (mLenN 1) mNil) ⟨[some (.val sc), some (.val (.list (cs.map .int))), none], none⟩ = some ((List.range cs.length).map (fun i : Nat => PyData.int (0 + (i : Int))), ⟨[some (.val sc), some (.val (.list (cs.map .int))), none], none⟩) := by
    have := e_rng (mr := mCons (mLenN 1) mNil) (s := ⟨[some (.val sc), some (.val (.list (cs.map .int))), none], none⟩) (n := ((cs.map PyData.int).length : Int)) (e_cons (e_lenN rfl rfl) rfl) (by rw [List.length_map]; omega)
    rw [List.length_map, Int.toNat_natCast] at this
    exact this
  have e1 := e_lcm (fz := []) (vs := [2]) (g := gN 2) (mt := mYes) (me := mCallN R (mCallL (boxF c) (mCons (mVar 1) (mCons (mVar 2) mNil)))) (p := fun _ => true) (f := fun _ => PyData.bool true) e0 (by
    intro i hi
    rw [List.mem_range] at hi
    obtain ⟨u, e1, hu⟩ := box_ok (c := c) hi (by omega) h0 hc
    obtain ⟨u', e2⟩ := hR u hu
    have e1' : boxF c [.val (.list (cs.map .int)), .val (.int (0 + (i : Int)))] none = some (.new (u.map .int), none) := by
      rw [Int.zero_add]
      exact e1
    apply st_yes2 (b := true) rfl rfl rfl
    · exact e_callN (e_callL (u := none) (e_cons rfl (e_cons rfl rfl)) e1') (intsD_map u) e2
    · rfl) (by rw [List.length_range]; omega)
  refine e_fn (e_cons (e_ofL e1) rfl) ?_
  rw [List.filter_eq_self.mpr (fun _ _ => rfl), List.map_const', List.length_range]
  show (boolsD _).map _ = _
  rw [bools_true]
  show some (PyData.bool ((List.replicate cs.length true).all id)) = _
  have h1 : (List.replicate cs.length true).all id = true := by
    rw [List.all_eq_true]
    intro x hx
    exact List.eq_of_mem_replicate hx
  rw [h1]
end DL

set_option Elab.async false
set_option linter.all false
set_option maxRecDepth 100000
set_option maxHeartbeats 4000000
namespace DL
open PySem PySem.Spec PyProof.Rows L2
/-! ### a list that is taken apart; a tuple turned about -/
section
variable {prog : Program} {w : World} {A : Around} {E : Value → Shared → Prop} {s : Shared}
theorem draw_lst {it t : Addr} {items : Array Value} (hne : t ≠ it) : ∀ (n i : Nat) (s : Shared) (Q : List Value → Shared → Prop), s.heap.IsListIter it t i → s.heap.IsList t items → i + n ≤ items.size →
    (∀ h', h'.IsListIter it t (i + n) → Heap.SameBut it s.heap h' → Q ((items.toList.drop i).take n) { s with heap := h' }) → wpAny (model prog w) A (draw (.ref it) n) Q E s
  | 0, i, s, Q, hit, _, _, hQ => by
    show wpAny _ _ (pure []) Q E s
    refine wpAny_pure ?_
    simpa using hQ s.heap hit (Heap.SameBut.refl ..)
  | n + 1, i, s, Q, hit, ht, hle, hQ => by
    have hlt : i < items.size := by omega
    refine wpAny_bind (m := pyNext (.ref it)) (wpAny_pyNext_list_item hit ht (x := items[i]) (by simp [hlt]) fun h1 hit1 hs1 => ?_)
    refine wpAny_bind (wpAny_holding (draw_lst hne n (i + 1) _ _ hit1 (ht.extBut hs1.extBut hne) (by omega) fun h2 hit2 hs2 => wpAny_pure ?_))
    have hd : items.toList.drop i = items[i] :: items.toList.drop (i + 1) := by simp [List.drop_eq_getElem_cons, hlt]
    have q := hQ h2 (by rw [show i + (n + 1) = i + 1 + n by omega]; exact hit2) (hs1.trans hs2)
    rwa [hd, List.take_succ_cons] at q
theorem parts_lst {t : Addr} {items : Array Value} {Q : List Value → Shared → Prop} (hh : A.handled = none) (ht : s.heap.IsList t items)
    (hQ : ∀ h', Heap.ExtBut s.heap.objs.size s.heap h' → Q items.toList { s with heap := h' }) : wpAny (model prog w) A (unpackItems (.ref t) items.size none) Q E s := by
  have hlt : t ≠ s.heap.objs.size := by obtain ⟨o, ho, _⟩ := ht; exact Nat.ne_of_lt (Heap.lt_size ho)
  unfold unpackItems
  refine wpAny_bind ?_
  unfold notIterableAtAll
  refine wpAny_bind (wpAny_specialOf ht.typeIs slot_list_iter.lookup ?_)
  refine wpAny_pure ?_
  simp only [Bool.false_eq_true, if_false]
  refine wpAny_bind (wpAny_holding (wpAny_pyIter_list ht ?_))
  refine wpAny_bind (wpAny_holding (draw_lst hlt items.size 0 _ _ ⟨_, Heap.get?_push_size _ rfl, rfl, rfl⟩ (ht.push _) (by omega) fun h1 hit1 hs1 => ?_))
  have hall : List.take items.size (List.drop 0 items.toList) = items.toList := by
    rw [List.drop_zero]; exact List.take_of_length_le (by simp)
  rw [hall, if_neg (by simp)]
  have ht1 : h1.IsList t items := (ht.push _).extBut hs1.extBut hlt
  refine wpAny_bind (wpAny_holding (wpAny_pyNext_list_end hh hit1 ht1 (by simp) fun h2 he2 => ?_))
  simp only [Option.isSome_none, Bool.false_eq_true, if_false]
  exact wpAny_pure (hQ h2 fun b o hb e => he2 b o hb (hs1.extBut b o hb (Heap.get?_push_of_some _ e)))
theorem asg_lst {env : Env} {elts : List Expr} {x1} {pos : Pos} {t : Addr} {items : Array Value} {Q : Unit → Shared → Prop} (hh : A.handled = none) (ht : s.heap.IsList t items)
    (hn : (assignEach elts env).length = items.size) (hstar : (assignEach elts env).findIdx? (·.1) = none)
    (h : ∀ h', Heap.ExtBut s.heap.objs.size s.heap h' → wpAny (model prog w) A (assignInOrder ((assignEach elts env).map (·.2)) items.toList) Q E { s with heap := h' }) :
    wpAny (model prog w) A (assign (.Tuple elts x1 pos) env (.ref t)) Q E s := by
  rw [assign_Tuple]
  refine wpAny_bind (wpAny_standAt ?_)
  unfold unpack
  rw [hn, hstar]
  exact wpAny_bind (wpAny_holding (parts_lst hh ht h))
end
section
variable {X : Cx} {e a b c : Expr} {es : List Expr} {pos : Pos}
def gLst (K : PySem.W.Frag) (n : Nat) (t : TGs) : TG := fun v σ H Q => ∃ a xs, v = .ref a ∧ SqL K H a xs ∧ xs.length = n ∧ t xs σ H Q
theorem pg_lst {k : Nat} {t : TGs} {n : Nat} (hc : X.calm = true) (h : PGs X es t)
    (hn : (assignEach es X.env).length = n := by rfl) (hst : (assignEach es X.env).findIdx? (·.1) = none := by rfl) : PG X (.Tuple es k pos) (gLst X.K n t) := by
  refine ⟨fun pins s σ H v u Q I r hw => ?_⟩
  obtain ⟨a, xs, e1, hq, hl, hw⟩ := hw
  subst e1
  cases r
  obtain ⟨its, rv, ht, hz⟩ := I.list hq
  refine asg_lst (I.ok.hd hc) ht.isList (by simp [hn, ← hl, rv.length]) hst fun h' hx => ?_
  have I1 : Inv X pins σ H { s with heap := h' } := I.kept (t' := s.toks) fun b o e => hx b o (Nat.ne_of_lt (Heap.lt_size e)) e
  exact h.run pins _ σ H xs _ Q I1 (by simpa using rv) hw
def gL (n : Nat) (m : MGs) : MG := fun d s => match d with
  | .list ds => if ds.length = n then m ds s else none
  | _ => none
theorem dg_lst {k : Nat} {ts : List Nat} {m : MGs} {n : Nat} (hc : X.calm = true) (h : PGs X es (tDGs X.K ts m)) (hn : (assignEach es X.env).length = n := by rfl) (hst : (assignEach es X.env).findIdx? (·.1) = none := by rfl) : PG X (.Tuple es k pos) (tDG X.K ts (gL n m)) :=
  PG.imp (pg_lst hc h hn hst) fun v σ H Q q => by
    obtain ⟨B, γ, H0, s, d, s', rl, rp, e, k⟩ := q
    cases rp with
    | lst h1 h2 h3 =>
      have e' : (if _ = n then m _ s else none) = some s' := e
      split at e'
      · rename_i hl
        exact ⟨_, _, rfl, .inl h1, by rw [h3.len]; exact hl, B, γ, H0, s, _, s', rl, h3, e', fun σ2 a2 c2 l2 => k σ2 a2 c2 l2⟩
      · cases e'
    | _ => cases e
end
/-! t[::-1] -/
section
variable {prog : Program} {w : World} {A : Around} {E : Value → Shared → Prop} {s : Shared}
theorem places_rev (n : Nat) : Builtin.Slice.slicePlaces ((n : Int) - 1) (-1) (-1) = n := by
  unfold Builtin.Slice.slicePlaces
  rw [if_neg (by omega)]
  by_cases h : (n : Int) - 1 > -1
  · rw [if_pos h, show (- -1 : Int) = 1 by decide, Int.ediv_one]
    omega
  · rw [if_neg h]
    omega
theorem adjust_rev (n : Nat) : Builtin.Slice.sliceAdjust none none (-1) (n : Int) = ((n : Int) - 1, -1) := by
  unfold Builtin.Slice.sliceAdjust
  have h : ((-1 : Int) < 0) := by omega
  simp only [h, if_true]
theorem pick_rev (xs : Array Value) : ((List.range xs.size).filterMap fun (m : Nat) => xs[((xs.size : Int) - 1 + (m : Int) * (-1)).toNat]?).toArray = xs.toList.reverse.toArray := by
  have e : ∀ l : List Nat, (∀ m ∈ l, m < xs.size) → (l.filterMap fun (m : Nat) => xs[((xs.size : Int) - 1 + (m : Int) * (-1)).toNat]?) = (l.map fun k => xs.size - 1 - k).filterMap (xs[·]?) := by
    intro l
    induction l with
    | nil => intro _; rfl
    | cons m l ih =>
      intro hl
      have h1 := hl m List.mem_cons_self
      have h2 : ((xs.size : Int) - 1 + (m : Int) * (-1)).toNat = xs.size - 1 - m := by omega
      rw [List.map_cons, List.filterMap_cons, List.filterMap_cons, ih fun k hk => hl k (List.mem_cons_of_mem _ hk), h2]
  rw [e _ fun m hm => List.mem_range.mp hm, PySem.W.krv_range, List.filterMap_reverse, PySem.W.krv_all]
theorem applied_rev {sl : Addr} {vl vu vs : Value} {n : Nat} {Q : Int × Int × Nat → Shared → Prop} (hs : s.heap.IsSliceOf sl vl vu vs) (pl : IsPart vl none) (pu : IsPart vu none) (ps : IsPart vs (some (-1)))
    (h : Q ((n : Int) - 1, -1, n) s) : wpAny (model prog w) A (Builtin.Slice.sliceApplied (.ref sl) (pure (n : Int))) Q E s := by
  obtain ⟨os, hos, hcs, hds⟩ := id hs
  unfold Builtin.Slice.sliceApplied Builtin.Slice.sliceFields
  refine wpAny_bind (wpAny_bind (wpAny_field hos hds (x := vl) rfl (wpAny_bind (wpAny_field hos hds (x := vu) rfl (wpAny_bind (wpAny_field hos hds (x := vs) rfl (wpAny_pure ?_)))))))
  refine wpAny_bind (HT.slicePart_ ps ?_)
  show wpAny _ _ (if ((-1 : Int) == 0) = true then _ else _) _ _ s
  rw [if_neg (by decide)]
  refine wpAny_bind (HT.slicePart_ pl (wpAny_bind (HT.slicePart_ pu (wpAny_bind (wpAny_pure ?_)))))
  show wpAny _ _ (match Builtin.Slice.sliceAdjust none none (-1) (n : Int) with | (lo, hi) => pure (lo, (-1 : Int), Builtin.Slice.slicePlaces lo hi (-1))) _ _ s
  rw [adjust_rev n]
  show wpAny _ _ (pure ((n : Int) - 1, (-1 : Int), Builtin.Slice.slicePlaces ((n : Int) - 1) (-1) (-1))) _ _ s
  rw [places_rev]
  exact wpAny_pure h
theorem item_rev {t sl : Addr} {items : Array Value} {vl vu vs : Value} {Q : Value → Shared → Prop} (ht : IsTup s.heap t items) (hs : s.heap.IsSliceOf sl vl vu vs) (pl : IsPart vl none) (pu : IsPart vu none) (ps : IsPart vs (some (-1)))
    (h : Q (.ref s.heap.objs.size) { s with heap := s.heap.push { cls := .type "tuple", data := .seq items.toList.reverse.toArray } })
    (hsz : items.size ≤ sizeLine) : wpAny (model prog w) A (getItem (.ref t) (.ref sl)) Q E s := by
  have htake : sizeOk (.seq items.toList.reverse.toArray) := by
    show items.toList.reverse.toArray.size ≤ sizeLine
    rw [List.size_toArray, List.length_reverse, Array.length_toList]
    exact hsz
  obtain ⟨os, hos, hcs, hds⟩ := id hs
  have hTs : s.TypeIs (.ref sl) "slice" := ⟨os, hos, hcs⟩
  unfold getItem
  try with_reducible refine wpAny_holding ?_
  first | refine wpAny_bind (wpAny_pure ?_) | skip
  refine wpAny_bind (wpAny_sequenceKey ht.typeIs (by decide) ?_)
  refine wpAny_bind (wpAny_callSpecial?_slot (name := Str.ofString "__getitem__") ht.typeIs PyProof.Rows.slot_tuple_getitem
    (wpAny_call_entry PyProof.Rows.slot_tuple_getitem ht.typeIs entry_tuple_getitem ?_ (args_tuple_getitem _ _)))
  show wpAny _ _ (Builtin.Tuple.tupleItemsOf (.ref t) >>= _) _ _ s
  refine wpAny_bind (tupleItemsOf_ ht ?_)
  refine wpAny_bind (wpAny_typeOf hTs ?_)
  rw [if_pos (by decide)]
  refine wpAny_bind (applied_rev hs pl pu ps ?_)
  have hno : ¬ ((((items.size : Int) - 1) == 0 && (-1 : Int) == 1 && items.size == items.size) = true) := by simp
  show wpAny _ _ (if (((items.size : Int) - 1) == 0 && (-1 : Int) == 1 && items.size == items.size) = true then _ else _) _ _ s
  rw [if_neg hno, pick_rev]
  first
    | exact wpAny_bind (m := Builtin.Tuple.tupleExact _) (wpAny_newObj_type (wpAny_pure ⟨_, rfl, wpAny_pure h⟩) htake)
    | exact wpAny_bind (m := Builtin.Tuple.tupleExact _) (wpAny_newObj_type (wpAny_bind (wpAny_pure (wpAny_pure ⟨_, rfl, wpAny_pure h⟩))) htake)
    | exact wpAny_bind (wpAny_bind (m := Builtin.Tuple.tupleExact _) (wpAny_newObj_type (wpAny_pure (wpAny_pure ⟨_, rfl, wpAny_pure h⟩)) htake))
    | exact wpAny_bind (wpAny_bind (m := Builtin.Tuple.tupleExact _) (wpAny_newObj_type (wpAny_pure ⟨_, rfl, wpAny_pure h⟩) htake))
end
section
variable {X : Cx} {e a b c : Expr} {es : List Expr} {pos : Pos}
def tRevT (K : PySem.W.Frag) (te : TE) : TE := fun σ H Q => te σ H fun x H1 => ∃ a xs, x = .ref a ∧ SqT K H1 a xs ∧ ∀ p, H1 p = none → Q (.ref p) (upd H1 p (.tup xs.reverse))
theorem pe_revT {te : TE} {k : Nat} {p1 p2 p3 pos : Pos} (he : PE X e te) : PE X (.Subscript e (.Slice none none (some (.UnaryOp .USub (.Constant (.int 1) k p1) p2)) p3) pos) (tRevT X.K te) := by
  refine ⟨fun pins s σ H Q I h => ?_⟩
  refine Subscript_ (thn (he.run pins s σ H _ I h) fun v s1 ⟨x, H1, I1, r1, q1⟩ => ?_)
  obtain ⟨a, xs, ex, hx, q⟩ := q1
  subst ex
  cases r1
  have hst : PO X (some (.UnaryOp .USub (.Constant (.int 1) k p1) p2)) (tPart (tUn (rU fun i => .int (-i)) (tC (.int 1)))) := po_some (pe_un un_neg pe_int)
  refine wpAny_Slice (thn (po_none.run pins s1 σ H1 (fun o H2 => o = none ∧ H2 = H1) I1 ⟨rfl, rfl⟩) fun vl s2 ⟨l, H2, I2, pl, el, e2⟩ => ?_)
  subst el e2
  refine thn (po_none.run pins s2 σ H2 (fun o H3 => o = none ∧ H3 = H2) I2 ⟨rfl, rfl⟩) fun vu s3 ⟨u, H3, I3, pu, eu, e3⟩ => ?_
  subst eu e3
  refine thn (hst.run pins s3 σ H3 (fun o H4 => o = some (-1) ∧ H4 = H3) I3 ⟨1, rfl, -1, rfl, rfl, rfl⟩) fun vs s4 ⟨o, H4, I4, ps, eo, e4⟩ => ?_
  subst eo e4
  have I5 : Inv X pins σ H4 { s4 with heap := s4.heap.push { cls := .type "slice", data := .fields #[vl, vu, vs] } } := I4.kept (t' := s4.toks) fun b ob q => Heap.get?_push_of_some _ q
  obtain ⟨its, r, ht, hz⟩ := I5.tuple hx
  have hlen := r.length
  show wpAny (model X.prog X.w) X.A (subscriptTail e (.Slice none none (some (.UnaryOp .USub (.Constant (.int 1) k p1) p2)) p3) (.ref a) (.ref s4.heap.objs.size)) (EP X pins σ Q) X.xe { s4 with heap := s4.heap.push { cls := .type "slice", data := .fields #[vl, vu, vs] } }
  refine tail_any (ops := [.ref a, .ref s4.heap.objs.size]) ht.typeIs (PyProof.Rows.slot_tuple_getitem.lookup) ?_ (by with_unfolding_all rfl)
  refine item_rev ht (Heap.IsSliceOf.new _ vl vu vs) pl pu ps ?_ (by first | exact hz | (rw [List.size_toArray]; omega))
  refine ⟨.ref _, _, I5.laid (t' := s4.toks) (o := .tup xs.reverse) (fun b ob q => Heap.get?_push_of_some _ q) (Nat.le_refl _) ?_, rfl, q _ (I5.hok.fresh (Nat.le_refl _))⟩
  exact ⟨by rw [List.length_reverse]; exact hz, _, r.reverse, IsTup.new _ _⟩
def dRevT : Dt → Option Dt
  | .tuple xs => some (.tuple xs.reverse)
  | _ => none
theorem de_revT {m : MD} {kc : Nat} {p1 p2 p3 : Pos} (h : PE X e (tD X.K m)) : PE X (.Subscript e (.Slice none none (some (.UnaryOp .USub (.Constant (.int 1) kc p1) p2)) p3) pos) (tD X.K (mUn dRevT m)) :=
  PE.imp (pe_revT h) fun σ H Q q => by
    obtain ⟨B, γ, H0, s, d, s', rl, e, k⟩ := q
    obtain ⟨⟨x, s1⟩, e1, e2⟩ := ob e
    obtain ⟨z, e5, e6⟩ := om e2
    obtain ⟨rfl, rfl⟩ := Prod.mk.inj e6
    refine ⟨B, γ, H0, s, x, s1, rl, e1, fun v1 H1 a1 r1 => ?_⟩
    cases r1 with
    | tup h1 h3 =>
      cases e5
      exact ⟨_, _, rfl, h1.sq, fun p hp => k _ _ (a1.same (same_new hp)) (.tup (.inl upd_same) (h3.rev.same (same_new hp)))⟩
    | _ => cases e5
def dRevA : Dt → Option Dt
  | .tuple xs => some (.tuple xs.reverse)
  | .list xs => some (.list xs.reverse)
  | _ => none
theorem PE.or {t t' : TE} (h : PE X e t) (h' : PE X e t') : PE X e (fun σ H Q => t σ H Q ∨ t' σ H Q) := ⟨fun pins s σ H Q I q => q.elim (h.run pins s σ H Q I) (h'.run pins s σ H Q I)⟩
theorem de_revA {m : MD} {kc : Nat} {p1 p2 p3 : Pos} (h : PE X e (tD X.K m)) : PE X (.Subscript e (.Slice none none (some (.UnaryOp .USub (.Constant (.int 1) kc p1) p2)) p3) pos) (tD X.K (mUn dRevA m)) :=
  PE.imp (PE.or (de_revT h) (de_rev h)) fun σ H Q q => by
    obtain ⟨B, γ, H0, s, d, s', rl, e, k⟩ := q
    obtain ⟨⟨x, s1⟩, e1, e2⟩ := ob e
    obtain ⟨z, e5, e6⟩ := om e2
    obtain ⟨rfl, rfl⟩ := Prod.mk.inj e6
    cases x with
    | tuple xs =>
      refine .inl ⟨B, γ, H0, s, z, s1, rl, ?_, k⟩
      cases e5
      unfold mUn
      rw [e1] <;> rfl
    | list xs =>
      refine .inr ⟨B, γ, H0, s, z, s1, rl, ?_, k⟩
      cases e5
      unfold mUn
      rw [e1] <;> rfl
    | _ => cases e5
end
end DL

set_option Elab.async false
set_option linter.all false
set_option maxRecDepth 100000
set_option maxHeartbeats 4000000
namespace DL
open PySem PySem.Spec PyProof.Rows L2
local macro_rules | `(tactic| walk_at "dec") => `(tactic| first | rfl | assumption | (exact decide_eq_true (by assumption)) | (exact decide_eq_true (by omega)) | (exact decide_eq_false (by omega)))
local macro_rules | `(tactic| walk_at "go") => `(tactic| first
  | assumption
  | ((with_reducible apply e_bin) <;> walk_at "go") | ((with_reducible apply e_un) <;> walk_at "go") | ((with_reducible apply e_fn) <;> walk_at "go") | ((with_reducible apply e_fnL) <;> walk_at "go") | ((with_reducible apply e_cons) <;> walk_at "go") | ((with_reducible apply e_star) <;> walk_at "go")
  | ((with_reducible apply e_tup) <;> walk_at "go") | ((with_reducible apply e_lst) <;> walk_at "go") | ((with_reducible apply e_ofL) <;> walk_at "go") | ((with_reducible apply e_ixN) <;> walk_at "go") | ((with_reducible apply e_lenN) <;> walk_at "go")
  | ((with_reducible apply e_call) <;> walk_at "go") | ((with_reducible apply e_callL) <;> walk_at "go") | ((with_reducible apply e_callU) <;> walk_at "go") | ((with_reducible apply e_callUL) <;> walk_at "go") | ((with_reducible apply e_ccons) <;> walk_at "go") | ((with_reducible apply e_curn) <;> walk_at "go")
  | ((with_reducible apply e_tst) <;> walk_at "go") | ((with_reducible apply e_tru) <;> walk_at "go") | ((with_reducible apply e_notT) <;> walk_at "go") | ((with_reducible apply e_asg) <;> walk_at "go") | ((with_reducible apply e_drop) <;> walk_at "go") | ((with_reducible apply e_ret2) <;> walk_at "go") | ((with_reducible apply e_retL2) <;> walk_at "go")
  | ((with_reducible apply e_setL) <;> walk_at "go") | ((with_reducible apply e_pD) <;> walk_at "go") | ((with_reducible apply e_pL) <;> walk_at "go") | ((with_reducible apply e_par) <;> walk_at "go") | ((with_reducible apply e_seqI) <;> walk_at "go") | ((with_reducible apply e_app) <;> walk_at "go")
  | ((with_reducible apply e_mul); first | (left; constructor <;> omega) | (right; constructor <;> omega))
  | ((with_reducible apply e_fdiv); omega; first | assumption | decide)
  | ((with_reducible apply e_mod); omega)
  | rfl | exact Nat.le_of_ble_eq_true rfl | omega | decide)
/-! ### great rows -/
def gb_islands_in : MS := (sRet (mBin dAdd (mC (.int 1)) (mFn fSum (mCons (mOfL (mLc (iSeq (mVar 0)) [] [1, 2] (gT 2 (gsCons (gN 1) (gsCons (gN 2) gsNil))) mYes (mVar 1))) mNil))))
def g_islands_in : FM := runD 1 3 gb_islands_in
def gb_check : MS := (sSeq (sAsg (mCall (g_islands_in) (mCons (mVar 0) mNil)) (gN 2))
  (sFor (iSeq (mVar 1)) (gN 3) (sIf (mNotT (mTst (mChain dLe dLt (mC (.int 0)) (mVar 3) (mVar 2)))) sNever sNil)))
def g_check : FM := runD 2 4 gb_check
def gb_runs_of : MS := (sSeq (sPar [1, 2] (pL (mLst mNil) (pD (mC (.int 0)) pNil)))
  (sSeq (sFor (iSeq (mVar 0)) (gT 2 (gsCons (gN 3) (gsCons (gN 4) gsNil))) (sSeq (sApp 1 (mTup (mCons (mVar 2) (mCons (mBin dAdd (mVar 2) (mVar 3)) (mCons (mVar 4) mNil)))))
  (sAsg (mBin dAdd (mVar 2) (mVar 3)) (gN 2))))
  (sRetV 1)))
def g_runs_of : FM := runD 1 5 gb_runs_of
def gb_last_height : MS := (sSeq (sDrop (mCall (g_check) (mCons (mVar 0) (mCons (mTup (mCons (mVar 1) (mCons (mVar 2) mNil))) mNil))))
  (sSeq (sAsg (mTup (mCons (mFn fMin (mCons (mVar 1) (mCons (mVar 2) mNil))) (mCons (mFn fMax (mCons (mVar 1) (mCons (mVar 2) mNil))) mNil))) (gT 2 (gsCons (gN 4) (gsCons (gN 5) gsNil))))
  (sSeq (sSetL 3 (mLc (iSeq (mCall (g_runs_of) (mCons (mVar 0) mNil))) [] [6, 7, 8] (gT 3 (gsCons (gN 6) (gsCons (gN 7) (gsCons (gN 8) gsNil)))) (mTst (mBin dLt (mFn fMax (mCons (mVar 6) (mCons (mVar 4) mNil))) (mFn fMin (mCons (mVar 7) (mCons (mVar 5) mNil))))) (mVar 8)))
  (sRet (mIf (mTst (mBin dGt (mLenN 3) (mC (.int 0)))) (mFn fMin (mCons (mVar 3) mNil)) (mC .none))))))
def g_last_height : FM := runD 3 9 gb_last_height
def gb_lots_of : MS := (sSeq (sSetL 2 (mLst mNil))
  (sSeq (sFor (iSeq (mCall (g_runs_of) (mCons (mVar 0) mNil))) (gT 3 (gsCons (gN 3) (gsCons (gN 4) (gsCons (gN 5) gsNil)))) (sIf (mTst (mBin dGt (mVar 5) (mVar 1))) (sIf (mAndT (mTst (mBin dGt (mLenN 2) (mC (.int 0)))) (mTst (mBin dEq (mBin dIx (mIxN 2 (mUn dNeg (mC (.int 1)))) (mC (.int 1))) (mVar 3)))) (sSetIx 2 (mTup (mCons (mBin dIx (mIxN 2 (mUn dNeg (mC (.int 1)))) (mC (.int 0))) (mCons (mVar 4) mNil))) (mUn dNeg (mC (.int 1)))) (sApp 2 (mTup (mCons (mVar 3) (mCons (mVar 4) mNil))))) sNil))
  (sRetV 2)))
def g_lots_of : FM := runD 2 6 gb_lots_of
def gb_lots_at : MS := (sRet (mBin dAdd (mC (.int 1)) (mFn fSum (mCons (mOfL (mLc (iSeq (mVar 0)) [] [2, 3] (gT 2 (gsCons (gN 2) (gsCons (gN 3) gsNil))) (mTst (mBin dLe (mVar 3) (mVar 1))) (mVar 2))) mNil))))
def g_lots_at : FM := runD 2 4 gb_lots_at
def gb_lot_at : MS := (sSeq (sDrop (mCall (g_check) (mCons (mVar 0) (mCons (mTup (mCons (mVar 1) mNil)) mNil))))
  (sSeq (sFor (iSeq (mCall (g_lots_of) (mCons (mVar 0) (mCons (mVar 2) mNil)))) (gT 2 (gsCons (gN 3) (gsCons (gN 4) gsNil))) (sIf (mTst (mChain dLe dLe (mVar 3) (mVar 1) (mVar 4))) (sRet (mTup (mCons (mVar 3) (mCons (mVar 4) mNil)))) sNil))
  (sRet (mTup (mCons (mVar 1) (mCons (mVar 1) mNil))))))
def g_lot_at : FM := runD 3 5 gb_lot_at
def gb_greatest_lot : MS := (sRet (mFn fMax (mCons (mOfL (mLst (mCons (mC (.int 1)) (mStar (mOfL (mLc (iSeq (mCall (g_lots_of) (mCons (mVar 0) (mCons (mVar 1) mNil)))) [] [2, 3] (gT 2 (gsCons (gN 2) (gsCons (gN 3) gsNil))) mYes (mBin dAdd (mBin dSub (mVar 3) (mVar 2)) (mC (.int 1))))) mNil)))) mNil)))
def g_greatest_lot : FM := runD 2 4 gb_greatest_lot
def gb_how_many_joined : MS := (sSeq (sSetL 2 (mLc (iSeq (mCall (g_lots_of) (mCons (mVar 0) (mCons (mVar 1) mNil)))) [] [3, 4] (gT 2 (gsCons (gN 3) (gsCons (gN 4) gsNil))) mYes (mBin dAdd (mBin dSub (mVar 4) (mVar 3)) (mC (.int 1)))))
  (sRet (mFn fSum (mCons (mOfL (mLc (iSeq (mVar 2)) [] [5] (gN 5) mYes (mBin dFdiv (mBin dMul (mVar 5) (mBin dSub (mVar 5) (mC (.int 1)))) (mC (.int 2))))) mNil))))
def g_how_many_joined : FM := runD 2 6 gb_how_many_joined
def gb_waters_of : MS := (sRet (mFn fTup (mCons (mOfL (mSortSet (mOfL (mLc (iSeq (mVar 0)) [] [1, 2] (gT 2 (gsCons (gN 1) (gsCons (gN 2) gsNil))) mYes (mVar 2))))) mNil)))
def g_waters_of : FM := runD 1 3 gb_waters_of
def gb_keeps : MS := (sSeq (sDrop (mCall (g_check) (mCons (mVar 0) (mCons (mTup (mStar (mVar 1) (mStar (mVar 2) mNil))) mNil))))
  (sRet (mBin dLe (mCall (g_last_height) (mCons (mVar 0) (mCons (mIxN 1 (mC (.int 0))) (mCons (mIxN 1 (mC (.int 1))) mNil)))) (mCall (g_last_height) (mCons (mVar 0) (mCons (mIxN 2 (mC (.int 0))) (mCons (mIxN 2 (mC (.int 1))) mNil)))))))
def g_keeps : FM := runD 3 3 gb_keeps
def gb_least_water : MS := (sSeq (sFor (iSeq (mOfL (mSortSet (mBin dAdd (mOfL (mLst (mCons (mC (.int 0)) mNil))) (mOfL (mFnL fList (mCons (mCall (g_waters_of) (mCons (mVar 0) mNil)) mNil))))))) (gN 2) (sIf (mTst (mBin dGe (mCall (g_lots_at) (mCons (mVar 0) (mCons (mVar 2) mNil))) (mVar 1))) (sRetV 2) sNil))
  (sRet (mC .none)))
def g_least_water : FM := runD 2 3 gb_least_water

theorem st_if {x d : Dt} {u u' : Ur} {mt : MT} {b : Bool} {s s1 : Stt} {g : MG} {me : MD} {sb : List (Option SV)} {s2 : Stt} (h1 : g x ⟨sb, u⟩ = some s) (h2 : mt s = some (b, s1)) (h3 : me s1 = some (d, s2)) (hu1 : s1.ur = u') (hu : s2.ur = u') : lcStep g mt me sb x u = some (if b then some d else none, u') := by
  cases b with
  | true => exact hu ▸ st_yes h1 h2 rfl h3
  | false => exact hu1 ▸ st_no h1 h2 rfl
abbrev Rw := List (Int × Int)
def prD (p : Int × Int) : Dt := .tuple [.int p.1, .int p.2]
def trD (p : Int × Int × Int) : Dt := .tuple [.int p.1, .int p.2.1, .int p.2.2]
def rowD (r : Rw) : Dt := .tuple (r.map prD)
def isl (r : Rw) : Int := 1 + (r.map (·.1)).sum
theorem map_int {α : Type} (f : α → Int) (xs : List α) : xs.map (fun x => PyData.int (f x)) = (xs.map f).map .int := (List.map_map (f := f) (g := PyData.int) (l := xs)).symm
theorem sum_map {α : Type} (f : α → Int) (xs : List α) : fSum [.list (xs.map fun x => PyData.int (f x))] = some (.int (xs.map f).sum) := by
  rw [map_int]
  show (intsD _).map _ = _
  rw [intsD_map] <;> rfl
theorem filt_true {α : Type} (xs : List α) : xs.filter (fun _ => true) = xs := List.filter_eq_self.mpr fun _ _ => rfl
theorem islands_eq {r : Rw} (hr : r.length ≤ 50) : g_islands_in [.val (rowD r)] none = some (.val (.int (isl r)), none) := by
  refine e_run rfl (e_ret2 (e_bin rfl (e_fn (e_cons (e_ofL (e_lcm (xs := r) (enc := prD) (p := fun _ => true) (f := fun q => .int q.1) rfl (fun q _ => rfl) (by omega))) rfl) (d := .int (r.map (·.1)).sum) ?_) rfl) rfl)
  rw [filt_true]
  exact sum_map _ _
theorem check_eq {r : Rw} {is : List Int} (hr : r.length ≤ 50) (hi : ∀ i ∈ is, 0 ≤ i ∧ i < isl r) : g_check [.val (rowD r), .val (.tuple (is.map .int))] none = some (.val .none, none) := by
  obtain ⟨s', e, a, rfl⟩ := for_inv (g := gN 3) (mb := sIf (mNotT (mTst (mChain dLe dLt (mC (.int 0)) (mVar 3) (mVar 2)))) sNever sNil) (fun s => ∃ a, s = ⟨[some (.val (rowD r)), some (.val (.tuple (is.map .int))), some (.val (.int (isl r))), a], none⟩) (is.map .int) ⟨[some (.val (rowD r)), some (.val (.tuple (is.map .int))), some (.val (.int (isl r))), none], none⟩ ⟨none, rfl⟩ (by
    rintro d hd s ⟨a, rfl⟩
    obtain ⟨i, hi1, rfl⟩ := List.mem_map.mp hd
    refine ⟨_, _, rfl, e_sifF (e_notT (e_tst (e_chT (b := decide (0 ≤ i)) (y := .int i) (z := .int (isl r)) (by walk_at "go") (by walk_at "go") rfl (decide_eq_true (hi i hi1).1) (by walk_at "go") (show _ = some (PyData.bool true) from congrArg (fun b => some (PyData.bool b)) (decide_eq_true (hi i hi1).2))))) rfl rfl, ⟨_, rfl⟩⟩)
  refine e_runN rfl (e_seq (e_asg (e_call (e_cons rfl rfl) (islands_eq hr)) rfl) (e_for (e_seqI rfl rfl) e))
def runsI : Int → Rw → List (Int × Int × Int)
  | _, [] => []
  | f, (m, h) :: r => (f, f + m, h) :: runsI (f + m) r
theorem runsI_len : ∀ (r : Rw) (f : Int), (runsI f r).length = r.length
  | [], _ => rfl
  | (m, h) :: r, f => by
    show (runsI (f + m) r).length + 1 = r.length + 1
    rw [runsI_len r]
theorem runs_eq {r : Rw} (hr : r.length ≤ 50) : g_runs_of [.val (rowD r)] none = some (.new ((runsI 0 r).map trD), none) := by
  have go : ∀ (r' : Rw) (acc : List (Int × Int × Int)) (f : Int) (a b : Option SV), acc.length + r'.length ≤ 50 → ∃ v a' b', forGo (gT 2 (gsCons (gN 3) (gsCons (gN 4) gsNil))) (sSeq (sApp 1 (mTup (mCons (mVar 2) (mCons (mBin dAdd (mVar 2) (mVar 3)) (mCons (mVar 4) mNil))))) (sAsg (mBin dAdd (mVar 2) (mVar 3)) (gN 2))) (r'.map prD) ⟨[some (.val (rowD r)), some (.own (acc.map trD)), some (.val (.int f)), a, b], none⟩ = some (.nx ⟨[some (.val (rowD r)), some (.own ((acc ++ runsI f r').map trD)), v, a', b'], none⟩) := by
    intro r'
    induction r' with
    | nil =>
      intro acc f a b _
      exact ⟨_, _, _, by rw [show runsI f [] = [] from rfl, List.append_nil]; rfl⟩
    | cons q r' ih =>
      intro acc f a b hl
      rw [List.length_cons] at hl
      obtain ⟨m, h⟩ := q
      obtain ⟨v, a', b', e⟩ := ih (acc ++ [(f, f + m, h)]) (f + m) (some (.val (.int m))) (some (.val (.int h))) (by rw [List.length_append]; simp; omega)
      refine ⟨v, a', b', for_step rfl (e_seq (e_app (es := acc.map trD) (ds := acc.map trD) rfl (by walk_at "go") rfl (by rw [List.length_map]; omega)) (by walk_at "go")) ?_⟩
      rw [List.append_assoc] at e
      rw [List.map_append] at e
      exact e
  obtain ⟨v, a', b', e⟩ := go r [] 0 none none (by simpa using hr)
  exact e_run rfl (e_seq (e_par (by walk_at "go") rfl) (e_seq (e_for (e_seqI rfl rfl) e) rfl))
def ovl (lo hi : Int) (q : Int × Int × Int) : Bool := decide ((if lo > q.1 then lo else q.1) < (if hi < q.2.1 then hi else q.2.1))
def hgts (r : Rw) (lo hi : Int) : List Int := ((runsI 0 r).filter (ovl lo hi)).map (·.2.2)
def optD : Option Int → Dt
  | none => .none
  | some i => .int i
def mn (a b : Int) : Int := if b < a then b else a
def mx (a b : Int) : Int := if b > a then b else a
def lastH (r : Rw) (i j : Int) : Option Int := if 0 < (hgts r (mn i j) (mx i j)).length then some (minI (hgts r (mn i j) (mx i j))) else none
theorem last_eq {r : Rw} {i j : Int} (hr : r.length ≤ 50) (hi : 0 ≤ i ∧ i < isl r) (hj : 0 ≤ j ∧ j < isl r) : g_last_height [.val (rowD r), .val (.int i), .val (.int j)] none = some (.val (optD (lastH r i j)), none) := by
  have hc : g_check [.val (rowD r), .val (.tuple [.int i, .int j])] none = some (.val .none, none) := check_eq (is := [i, j]) hr (by
    intro x hx
    rcases List.mem_cons.mp hx with rfl | hx
    · exact hi
    · rcases List.mem_cons.mp hx with rfl | hx
      · exact hj
      · cases hx)
  refine e_run rfl (e_seq (e_drop (e_call (e_cons rfl (e_cons (e_tup (e_cons rfl (e_cons rfl rfl)) (Nat.le_of_ble_eq_true rfl)) rfl)) hc)) (e_seq (e_asg (e_tup (e_cons (e_fn (e_cons rfl (e_cons rfl rfl)) rfl) (e_cons (e_fn (e_cons rfl (e_cons rfl rfl)) rfl) rfl)) (Nat.le_of_ble_eq_true rfl)) rfl) (e_seq (e_setL (e_lcm (xs := runsI 0 r) (enc := trD) (p := ovl (mn i j) (mx i j)) (f := fun q => .int q.2.2) (e_seqI (e_call (e_cons rfl rfl) (runs_eq hr)) rfl) (fun q _ => ?_) (by rw [runsI_len]; omega))) ?_)))
  · exact st_if rfl (e_tst (e_bin (e_fn (e_cons rfl (e_cons rfl rfl)) rfl) (e_fn (e_cons rfl (e_cons rfl rfl)) rfl) rfl)) rfl rfl rfl
  · rw [map_int]
    have hh : ((runsI 0 r).filter (ovl (mn i j) (mx i j))).map (fun q => q.2.2) = hgts r (mn i j) (mx i j) := rfl
    rw [hh]
    unfold lastH
    generalize hgts r (mn i j) (mx i j) = hs
    cases hs with
    | nil => exact e_ret2 (e_ifF (b := decide ((0 : Int) < (0 : Nat))) (by walk_at "go") (by decide) rfl) rfl
    | cons x xs =>
      rw [show (if 0 < (x :: xs).length then some (minI (x :: xs)) else none) = some (minI (x :: xs)) from if_pos (Nat.succ_pos _)]
      refine e_ret2 (e_ifT (b := decide ((0 : Int) < (((x :: xs).map PyData.int).length : Nat))) (by walk_at "go") (decide_eq_true (by simp)) (e_fn (ds := [.list ((x :: xs).map .int)]) rfl ?_)) rfl
      show (intsD _).bind _ = _
      rw [intsD_map] <;> rfl
end DL

set_option Elab.async false
set_option linter.all false
set_option maxRecDepth 100000
set_option maxHeartbeats 4000000
namespace DL
open PySem PySem.Spec PyProof.Rows L2
local macro_rules | `(tactic| walk_at "dec") => `(tactic| first | rfl | assumption | (exact decide_eq_true (by assumption)) | (exact decide_eq_true (by omega)) | (exact decide_eq_false (by omega)))
local macro_rules | `(tactic| walk_at "go") => `(tactic| first
  | assumption
  | ((with_reducible apply e_bin) <;> walk_at "go") | ((with_reducible apply e_un) <;> walk_at "go") | ((with_reducible apply e_fn) <;> walk_at "go") | ((with_reducible apply e_fnL) <;> walk_at "go") | ((with_reducible apply e_cons) <;> walk_at "go") | ((with_reducible apply e_star) <;> walk_at "go")
  | ((with_reducible apply e_tup) <;> walk_at "go") | ((with_reducible apply e_lst) <;> walk_at "go") | ((with_reducible apply e_ofL) <;> walk_at "go") | ((with_reducible apply e_ixN) <;> walk_at "go") | ((with_reducible apply e_lenN) <;> walk_at "go")
  | ((with_reducible apply e_call) <;> walk_at "go") | ((with_reducible apply e_callL) <;> walk_at "go") | ((with_reducible apply e_callU) <;> walk_at "go") | ((with_reducible apply e_callUL) <;> walk_at "go") | ((with_reducible apply e_ccons) <;> walk_at "go") | ((with_reducible apply e_curn) <;> walk_at "go")
  | ((with_reducible apply e_tst) <;> walk_at "go") | ((with_reducible apply e_tru) <;> walk_at "go") | ((with_reducible apply e_notT) <;> walk_at "go") | ((with_reducible apply e_asg) <;> walk_at "go") | ((with_reducible apply e_drop) <;> walk_at "go") | ((with_reducible apply e_ret2) <;> walk_at "go") | ((with_reducible apply e_retL2) <;> walk_at "go")
  | ((with_reducible apply e_setL) <;> walk_at "go") | ((with_reducible apply e_pD) <;> walk_at "go") | ((with_reducible apply e_pL) <;> walk_at "go") | ((with_reducible apply e_par) <;> walk_at "go") | ((with_reducible apply e_seqI) <;> walk_at "go") | ((with_reducible apply e_app) <;> walk_at "go")
  | ((with_reducible apply e_mul); first | (left; constructor <;> omega) | (right; constructor <;> omega))
  | ((with_reducible apply e_fdiv); omega; first | assumption | decide)
  | ((with_reducible apply e_mod); omega)
  | rfl | exact Nat.le_of_ble_eq_true rfl | omega | decide)

def lotsG (w : Int) : Option Int → Int → Rw → List (Int × Int)
  | none, _, [] => []
  | some s, f, [] => [(s, f)]
  | none, f, (m, h) :: r => if w < h then lotsG w (some f) (f + m) r else lotsG w none (f + m) r
  | some s, f, (m, h) :: r => if w < h then lotsG w (some s) (f + m) r else (s, f) :: lotsG w none (f + m) r
theorem lotsG_len (w : Int) : ∀ (r : Rw) (o : Option Int) (f : Int), (lotsG w o f r).length ≤ r.length + 1
  | [], none, _ => Nat.zero_le _
  | [], some _, _ => Nat.le_refl _
  | (m, h) :: r, none, f => by
    show (if w < h then lotsG w (some f) (f + m) r else lotsG w none (f + m) r).length ≤ r.length + 1 + 1
    have h1 := lotsG_len w r (some f) (f + m)
    have h2 := lotsG_len w r none (f + m)
    split <;> omega
  | (m, h) :: r, some s, f => by
    show (if w < h then lotsG w (some s) (f + m) r else (s, f) :: lotsG w none (f + m) r).length ≤ r.length + 1 + 1
    have h1 := lotsG_len w r (some s) (f + m)
    have h2 := lotsG_len w r none (f + m)
    split
    · omega
    · rw [List.length_cons]; omega
theorem ix_m1 {n : Nat} (h : 0 < n) : ixN n (-1) = some (n - 1) := by
  unfold ixN
  rw [if_neg (by omega), if_pos (by omega)]
  congr 1
  omega
theorem ix_last {ds : List Dt} {d : Dt} : dIx (.list (ds ++ [d])) (.int (-1)) = some d := by
  show atI (ds ++ [d]) (-1) = some d
  unfold atI
  rw [ix_m1 (by simp)]
  simp
abbrev lotsBody : MS := (sIf (mTst (mBin dGt (mVar 5) (mVar 1))) (sIf (mAndT (mTst (mBin dGt (mLenN 2) (mC (.int 0)))) (mTst (mBin dEq (mBin dIx (mIxN 2 (mUn dNeg (mC (.int 1)))) (mC (.int 1))) (mVar 3)))) (sSetIx 2 (mTup (mCons (mBin dIx (mIxN 2 (mUn dNeg (mC (.int 1)))) (mC (.int 0))) (mCons (mVar 4) mNil))) (mUn dNeg (mC (.int 1)))) (sApp 2 (mTup (mCons (mVar 3) (mCons (mVar 4) mNil))))) sNil)
abbrev lotsG3 : MG := gT 3 (gsCons (gN 3) (gsCons (gN 4) (gsCons (gN 5) gsNil)))
abbrev lotS (r0 : Rw) (w : Int) (l : List Dt) (a b c : Option SV) : Stt := ⟨[some (.val (rowD r0)), some (.val (.int w)), some (.own l), a, b, c], none⟩
theorem lots_add {r0 : Rw} {w x y h : Int} {acc : List (Int × Int)} (hw : w < h) (hl : acc.length < 100000) (hx : ∀ q, acc.getLast? = some q → q.2 ≠ x) : lotsBody (lotS r0 w (acc.map prD) (some (.val (.int x))) (some (.val (.int y))) (some (.val (.int h)))) = some (.nx (lotS r0 w ((acc ++ [(x, y)]).map prD) (some (.val (.int x))) (some (.val (.int y))) (some (.val (.int h))))) := by
  have app : sApp 2 (mTup (mCons (mVar 3) (mCons (mVar 4) mNil))) (lotS r0 w (acc.map prD) (some (.val (.int x))) (some (.val (.int y))) (some (.val (.int h)))) = some (.nx (lotS r0 w ((acc ++ [(x, y)]).map prD) (some (.val (.int x))) (some (.val (.int y))) (some (.val (.int h))))) := by
    rw [List.map_append]
    exact e_app (i := 2) (m := mTup (mCons (mVar 3) (mCons (mVar 4) mNil))) (s := lotS r0 w (acc.map prD) (some (.val (.int x))) (some (.val (.int y))) (some (.val (.int h)))) (s1 := lotS r0 w (acc.map prD) (some (.val (.int x))) (some (.val (.int y))) (some (.val (.int h)))) (es := acc.map prD) (ds := acc.map prD) (d := prD (x, y)) rfl (e_tup (e_cons rfl (e_cons rfl rfl)) (Nat.le_of_ble_eq_true rfl)) rfl (by rw [List.length_map]; exact hl)
  refine e_sifT (b := decide (w < h)) (by walk_at "go") (decide_eq_true hw) ?_
  rcases List.eq_nil_or_concat acc with rfl | ⟨pre, q, rfl⟩
  · exact e_sifF (e_andF (b := decide ((0 : Int) < (0 : Nat))) (by walk_at "go") (by decide)) rfl app
  · have hq := hx q (by simp)
    refine e_sifF (b := q.2 == x) (e_andT (b := decide ((0 : Int) < (((pre.concat q).map prD).length : Nat))) (e_tst (e_bin (e_lenN rfl rfl) rfl rfl)) (decide_eq_true (by simp)) (e_tst (e_bin (x := .int q.2) (e_bin (x := prD q) (e_ixN (y := .int (-1)) (x := .list ((pre.concat q).map prD)) rfl rfl ?_) rfl rfl) rfl rfl))) (by simpa using hq) app
    rw [List.concat_eq_append, List.map_append]
    exact ix_last
theorem lots_ext {r0 : Rw} {w x y h s : Int} {acc : List (Int × Int)} (hw : w < h) : lotsBody (lotS r0 w ((acc ++ [(s, x)]).map prD) (some (.val (.int x))) (some (.val (.int y))) (some (.val (.int h)))) = some (.nx (lotS r0 w ((acc ++ [(s, y)]).map prD) (some (.val (.int x))) (some (.val (.int y))) (some (.val (.int h))))) := by
  have hm : ∀ z : Int, (acc ++ [(s, z)]).map prD = acc.map prD ++ [prD (s, z)] := fun z => by rw [List.map_append] <;> rfl
  rw [hm x, hm y]
  refine e_sifT (b := decide (w < h)) (by walk_at "go") (decide_eq_true hw) ?_
  have hix : ∀ u : Stt, mUn dNeg (mC (.int 1)) u = some (.int (-1), u) := fun u => rfl
  refine e_sifT (b := x == x) (e_andT (b := decide ((0 : Int) < ((acc.map prD ++ [prD (s, x)]).length : Nat))) (e_tst (e_bin (e_lenN rfl rfl) rfl rfl)) (decide_eq_true (by simp)) (e_tst (e_bin (x := .int x) (e_bin (x := prD (s, x)) (e_ixN (y := .int (-1)) (x := .list (acc.map prD ++ [prD (s, x)])) (hix _) rfl ix_last) rfl rfl) rfl rfl))) (by simp) ?_
  have := e_setO (i := 2) (m := mTup (mCons (mBin dIx (mIxN 2 (mUn dNeg (mC (.int 1)))) (mC (.int 0))) (mCons (mVar 4) mNil))) (mk := mUn dNeg (mC (.int 1))) (s := lotS r0 w (acc.map prD ++ [prD (s, x)]) (some (.val (.int x))) (some (.val (.int y))) (some (.val (.int h)))) (d := prD (s, y)) (k := -1) (j := (acc.map prD ++ [prD (s, x)]).length - 1) (es := acc.map prD ++ [prD (s, x)]) (ds := acc.map prD ++ [prD (s, x)])
    (e_tup (e_cons (e_bin (x := prD (s, x)) (e_ixN (y := .int (-1)) (x := .list (acc.map prD ++ [prD (s, x)])) (hix _) rfl ix_last) rfl rfl) (e_cons rfl rfl)) (Nat.le_of_ble_eq_true rfl)) rfl (hix _) rfl (ix_m1 (by simp))
  rw [this]
  have hset : (acc.map prD ++ [prD (s, x)]).set ((acc.map prD ++ [prD (s, x)]).length - 1) (prD (s, y)) = acc.map prD ++ [prD (s, y)] := by
    rw [List.length_append]
    simp
  rw [hset] <;> rfl
theorem lots_no {r0 : Rw} {w x y h : Int} {l : List Dt} (hw : ¬ w < h) : lotsBody (lotS r0 w l (some (.val (.int x))) (some (.val (.int y))) (some (.val (.int h)))) = some (.nx (lotS r0 w l (some (.val (.int x))) (some (.val (.int y))) (some (.val (.int h))))) :=
  e_sifF (b := decide (w < h)) (by walk_at "go") (decide_eq_false hw) rfl
theorem lots_go {r0 : Rw} {w : Int} : ∀ (r : Rw) (acc : List (Int × Int)) (f : Int) (a b c : Option SV), acc.length + r.length < 1000 → (∀ q ∈ r, 0 < q.1) →
    ((∀ q, acc.getLast? = some q → q.2 < f) → ∃ a' b' c', forGo lotsG3 lotsBody ((runsI f r).map trD) (lotS r0 w (acc.map prD) a b c) = some (.nx (lotS r0 w ((acc ++ lotsG w none f r).map prD) a' b' c'))) ∧
    ∀ s, ∃ a' b' c', forGo lotsG3 lotsBody ((runsI f r).map trD) (lotS r0 w ((acc ++ [(s, f)]).map prD) a b c) = some (.nx (lotS r0 w ((acc ++ lotsG w (some s) f r).map prD) a' b' c')) := by
  intro r
  induction r with
  | nil =>
    intro acc f a b c _ _
    refine ⟨fun _ => ⟨a, b, c, ?_⟩, fun s => ⟨a, b, c, rfl⟩⟩
    rw [show lotsG w none f [] = [] from rfl, List.append_nil]
    rfl
  | cons q r ih =>
    intro acc f a b c hl hp
    obtain ⟨m, h⟩ := q
    rw [List.length_cons] at hl
    have hm : 0 < m := hp (m, h) List.mem_cons_self
    have hp' : ∀ q ∈ r, 0 < q.1 := fun q hq => hp q (List.mem_cons_of_mem _ hq)
    have hl2 : ∀ x : Int × Int, (acc ++ [x]).length + r.length < 1000 := fun x => by rw [List.length_append]; simp; omega
    by_cases hw : w < h
    · refine ⟨fun hc => ?_, fun s => ?_⟩
      · obtain ⟨a', b', c', e⟩ := (ih acc (f + m) (some (.val (.int f))) (some (.val (.int (f + m)))) (some (.val (.int h))) (by omega) hp').2 f
        refine ⟨a', b', c', for_step rfl (lots_add hw (by omega) fun q hq => by have := hc q hq; omega) ?_⟩
        rw [show lotsG w none f ((m, h) :: r) = lotsG w (some f) (f + m) r from if_pos hw]
        exact e
      · obtain ⟨a', b', c', e⟩ := (ih acc (f + m) (some (.val (.int f))) (some (.val (.int (f + m)))) (some (.val (.int h))) (by omega) hp').2 s
        refine ⟨a', b', c', for_step rfl (lots_ext hw) ?_⟩
        rw [show lotsG w (some s) f ((m, h) :: r) = lotsG w (some s) (f + m) r from if_pos hw]
        exact e
    · refine ⟨fun hc => ?_, fun s => ?_⟩
      · obtain ⟨a', b', c', e⟩ := (ih acc (f + m) (some (.val (.int f))) (some (.val (.int (f + m)))) (some (.val (.int h))) (by omega) hp').1 fun q hq => by have := hc q hq; omega
        refine ⟨a', b', c', for_step rfl (lots_no hw) ?_⟩
        rw [show lotsG w none f ((m, h) :: r) = lotsG w none (f + m) r from if_neg hw]
        exact e
      · obtain ⟨a', b', c', e⟩ := (ih (acc ++ [(s, f)]) (f + m) (some (.val (.int f))) (some (.val (.int (f + m)))) (some (.val (.int h))) (hl2 _) hp').1 fun q hq => by
          rw [List.getLast?_append] at hq
          simp at hq
          subst hq
          show f < f + m
          omega
        refine ⟨a', b', c', for_step rfl (lots_no hw) ?_⟩
        rw [show lotsG w (some s) f ((m, h) :: r) = (s, f) :: lotsG w none (f + m) r from if_neg hw]
        rw [List.append_assoc] at e
        exact e
def lots (r : Rw) (w : Int) : List (Int × Int) := lotsG w none 0 r
theorem lots_len {r : Rw} {w : Int} (hr : r.length ≤ 50) : (lots r w).length ≤ 51 := by
  have := lotsG_len w r none 0
  unfold lots
  omega
theorem lots_eq {r : Rw} {w : Int} (hr : r.length ≤ 50) (hp : ∀ q ∈ r, 0 < q.1) : g_lots_of [.val (rowD r), .val (.int w)] none = some (.new ((lots r w).map prD), none) := by
  obtain ⟨a, b, c, e⟩ := (lots_go (r0 := r) (w := w) r [] 0 none none none (by simp; omega) hp).1 (by intro q hq; simp at hq)
  exact e_run rfl (e_seq (e_setL (e_lst rfl (Nat.zero_le _))) (e_seq (e_for (e_seqI (e_call (e_cons rfl rfl) (runs_eq hr)) rfl) e) rfl))
def lotsAt (r : Rw) (w : Int) : Int := 1 + ((r.filter fun q => decide (q.2 ≤ w)).map (·.1)).sum
theorem lotsAt_eq {r : Rw} {w : Int} (hr : r.length ≤ 50) : g_lots_at [.val (rowD r), .val (.int w)] none = some (.val (.int (lotsAt r w)), none) := by
  refine e_run rfl (e_ret2 (e_bin rfl (e_fn (e_cons (e_ofL (e_lcm (xs := r) (enc := prD) (p := fun q => decide (q.2 ≤ w)) (f := fun q => .int q.1) rfl (fun q _ => ?_) (by omega))) rfl) (d := .int ((r.filter fun q => decide (q.2 ≤ w)).map (·.1)).sum) (sum_map _ _)) rfl) rfl)
  exact st_if rfl (e_tst (e_bin rfl rfl rfl)) rfl rfl rfl
def inLot (i : Int) (q : Int × Int) : Bool := decide (q.1 ≤ i) && decide (i ≤ q.2)
def lotAt (r : Rw) (i w : Int) : Int × Int := ((lots r w).find? (inLot i)).getD (i, i)
theorem lotAt_eq {r : Rw} {i w : Int} (hr : r.length ≤ 50) (hp : ∀ q ∈ r, 0 < q.1) (hi : 0 ≤ i ∧ i < isl r) : g_lot_at [.val (rowD r), .val (.int i), .val (.int w)] none = some (.val (prD (lotAt r i w)), none) := by
  have hc : g_check [.val (rowD r), .val (.tuple [.int i])] none = some (.val .none, none) := check_eq (is := [i]) hr (by
    intro x hx
    rcases List.mem_cons.mp hx with rfl | hx
    · exact hi
    · cases hx)
  have test : ∀ (a b : Int) (a' b' : Option SV), mTst (mChain dLe dLe (mVar 3) (mVar 1) (mVar 4)) ⟨[some (.val (rowD r)), some (.val (.int i)), some (.val (.int w)), some (.val (.int a)), some (.val (.int b))], none⟩ = some (inLot i (a, b), ⟨[some (.val (rowD r)), some (.val (.int i)), some (.val (.int w)), some (.val (.int a)), some (.val (.int b))], none⟩) := by
    intro a b _ _
    by_cases h : a ≤ i
    · refine e_tst ?_
      rw [show inLot i (a, b) = decide (i ≤ b) by unfold inLot; rw [decide_eq_true h, Bool.true_and]]
      exact e_chT (b := decide (a ≤ i)) (y := .int i) (z := .int b) rfl rfl rfl (decide_eq_true h) rfl rfl
    · refine e_tst ?_
      rw [show inLot i (a, b) = false by unfold inLot; rw [decide_eq_false h, Bool.false_and]]
      exact e_chF (b := decide (a ≤ i)) (y := .int i) rfl rfl rfl (decide_eq_false h)
  have loop : ∀ (ls : List (Int × Int)) (a b : Option SV), (∃ q, ls.find? (inLot i) = some q ∧ forGo (gT 2 (gsCons (gN 3) (gsCons (gN 4) gsNil))) (sIf (mTst (mChain dLe dLe (mVar 3) (mVar 1) (mVar 4))) (sRet (mTup (mCons (mVar 3) (mCons (mVar 4) mNil)))) sNil) (ls.map prD) ⟨[some (.val (rowD r)), some (.val (.int i)), some (.val (.int w)), a, b], none⟩ = some (.rt (.val (prD q)) none)) ∨ ∃ a' b', ls.find? (inLot i) = none ∧ forGo (gT 2 (gsCons (gN 3) (gsCons (gN 4) gsNil))) (sIf (mTst (mChain dLe dLe (mVar 3) (mVar 1) (mVar 4))) (sRet (mTup (mCons (mVar 3) (mCons (mVar 4) mNil)))) sNil) (ls.map prD) ⟨[some (.val (rowD r)), some (.val (.int i)), some (.val (.int w)), a, b], none⟩ = some (.nx ⟨[some (.val (rowD r)), some (.val (.int i)), some (.val (.int w)), a', b'], none⟩) := by
    intro ls
    induction ls with
    | nil => intro a b; exact .inr ⟨a, b, rfl, rfl⟩
    | cons q ls ih =>
      intro a b
      obtain ⟨x, y⟩ := q
      cases hq : inLot i (x, y) with
      | true => exact .inl ⟨(x, y), List.find?_cons_of_pos hq, for_ret rfl (e_sifT (test x y none none) hq (e_ret2 (e_tup (e_cons rfl (e_cons rfl rfl)) (Nat.le_of_ble_eq_true rfl)) rfl))⟩
      | false =>
        rw [List.find?_cons_of_neg (by rw [hq]; exact Bool.false_ne_true)]
        rcases ih (some (.val (.int x))) (some (.val (.int y))) with ⟨q, e1, e2⟩ | ⟨a', b', e1, e2⟩
        · exact .inl ⟨q, e1, for_step rfl (e_sifF (test x y none none) hq rfl) e2⟩
        · exact .inr ⟨a', b', e1, for_step rfl (e_sifF (test x y none none) hq rfl) e2⟩
  refine e_run rfl (e_seq (e_drop (e_call (e_cons rfl (e_cons (e_tup (e_cons rfl rfl) (Nat.le_of_ble_eq_true rfl)) rfl)) hc)) ?_)
  unfold lotAt
  rcases loop (lots r w) none none with ⟨q, e1, e2⟩ | ⟨a', b', e1, e2⟩
  · rw [e1]
    exact e_seqR (e_for (e_seqI (e_call (e_cons rfl (e_cons rfl rfl)) (lots_eq hr hp)) rfl) e2)
  · rw [e1]
    exact e_seq (e_for (e_seqI (e_call (e_cons rfl (e_cons rfl rfl)) (lots_eq hr hp)) rfl) e2) (e_ret2 (e_tup (e_cons rfl (e_cons rfl rfl)) (Nat.le_of_ble_eq_true rfl)) rfl)
def sizes (r : Rw) (w : Int) : List Int := (lots r w).map fun q => q.2 - q.1 + 1
theorem ints_cons {x : Int} {xs : List Int} : intsD (.int x :: xs.map .int) = some (x :: xs) := intsD_map (x :: xs)
theorem greatest_eq {r : Rw} {w : Int} (hr : r.length ≤ 50) (hp : ∀ q ∈ r, 0 < q.1) : g_greatest_lot [.val (rowD r), .val (.int w)] none = some (.val (.int (maxI (1 :: sizes r w))), none) := by
  have hl := lots_len (w := w) hr
  refine e_run rfl (e_ret2 (e_fn (e_cons (e_ofL (e_lst (e_cons rfl (e_star (e_ofL (e_lcm (xs := lots r w) (enc := prD) (p := fun _ => true) (f := fun q => .int (q.2 - q.1 + 1)) (e_seqI (e_call (e_cons rfl (e_cons rfl rfl)) (lots_eq hr hp)) rfl) (fun q _ => rfl) (by omega))) rfl rfl)) ?_)) rfl) ?_) rfl)
  · rw [filt_true, List.append_nil, List.length_cons, List.length_map]
    omega
  · rw [filt_true, List.append_nil, map_int]
    show (intsD (.int 1 :: (sizes r w).map .int)).bind _ = _
    rw [ints_cons] <;> rfl
def joined (r : Rw) (w : Int) : Int := ((sizes r w).map fun s => s * (s - 1) / 2).sum
theorem e_mulB {i j : Int} (h1 : i.natAbs < 2 ^ 8000) (h2 : j.natAbs < 2 ^ 8000) : dMul (.int i) (.int j) = some (.int (i * j)) := by
  refine if_pos ?_
  unfold mulOk
  have h3 := log2_small h1
  have h4 := log2_small h2
  rw [decide_eq_true (show i.natAbs.log2 + j.natAbs.log2 < 1000000 by omega), Bool.or_true]
theorem joined_eq {r : Rw} {w : Int} (hr : r.length ≤ 50) (hp : ∀ q ∈ r, 0 < q.1) (hb : ∀ s ∈ sizes r w, s.natAbs < 2 ^ 8000 ∧ (s - 1).natAbs < 2 ^ 8000) : g_how_many_joined [.val (rowD r), .val (.int w)] none = some (.val (.int (joined r w)), none) := by
  have hl := lots_len (w := w) hr
  have e1 : mLc (iSeq (mCall g_lots_of (mCons (mVar 0) (mCons (mVar 1) mNil)))) [] [3, 4] (gT 2 (gsCons (gN 3) (gsCons (gN 4) gsNil))) mYes (mBin dAdd (mBin dSub (mVar 4) (mVar 3)) (mC (.int 1))) ⟨slotsOf 6 [.val (rowD r), .val (.int w)], none⟩ = some ((sizes r w).map .int, ⟨slotsOf 6 [.val (rowD r), .val (.int w)], none⟩) := by
    have e0 : iSeq (mCall g_lots_of (mCons (mVar 0) (mCons (mVar 1) mNil))) ⟨slotsOf 6 [.val (rowD r), .val (.int w)], none⟩ = some ((lots r w).map prD, ⟨slotsOf 6 [.val (rowD r), .val (.int w)], none⟩) := e_seqI (e_call (e_cons rfl (e_cons rfl rfl)) (lots_eq hr hp)) rfl
    have := e_lcm (fz := []) (vs := [3, 4]) (g := gT 2 (gsCons (gN 3) (gsCons (gN 4) gsNil))) (mt := mYes) (me := mBin dAdd (mBin dSub (mVar 4) (mVar 3)) (mC (.int 1))) (s := ⟨slotsOf 6 [.val (rowD r), .val (.int w)], none⟩) (s1 := ⟨slotsOf 6 [.val (rowD r), .val (.int w)], none⟩) (xs := lots r w) (enc := prD) (p := fun _ => true) (f := fun q => .int (q.2 - q.1 + 1)) e0 (fun q _ => rfl) (by omega)
    rw [filt_true, map_int] at this
    exact this
  refine e_run rfl (e_seq (e_setL e1) (e_ret2 (e_fn (e_cons (e_ofL (e_lcm (xs := sizes r w) (enc := .int) (p := fun _ => true) (f := fun s => .int (s * (s - 1) / 2)) (e_seqI rfl rfl) (fun q hq => ?_) (by unfold sizes; rw [List.length_map]; omega))) rfl) ?_) rfl))
  · exact st_yes2 (b := true) rfl rfl rfl (e_bin (e_bin rfl (e_bin rfl rfl rfl) (e_mulB (hb q hq).1 (hb q hq).2)) rfl (e_fdiv (by decide) (by decide))) rfl
  · rw [filt_true]
    exact sum_map _ _
def hts (r : Rw) : List Int := r.map (·.2)
def tops (r : Rw) : List Int := setI (hts r)
theorem waters_eq {r : Rw} (hr : r.length ≤ 50) : g_waters_of [.val (rowD r)] none = some (.val (.tuple ((tops r).map .int)), none) := by
  have e1 : mOfL (mLc (iSeq (mVar 0)) [] [1, 2] (gT 2 (gsCons (gN 1) (gsCons (gN 2) gsNil))) mYes (mVar 2)) ⟨slotsOf 3 [.val (rowD r)], none⟩ = some (.list ((hts r).map .int), ⟨slotsOf 3 [.val (rowD r)], none⟩) := by
    have := e_lcm (fz := []) (vs := [1, 2]) (g := gT 2 (gsCons (gN 1) (gsCons (gN 2) gsNil))) (mt := mYes) (me := mVar 2) (mi := iSeq (mVar 0)) (s := ⟨slotsOf 3 [.val (rowD r)], none⟩) (xs := r) (enc := prD) (p := fun _ => true) (f := fun q => .int q.2) rfl (fun q _ => rfl) (by omega)
    rw [filt_true, map_int] at this
    exact e_ofL this
  have e2 : mSortSet (mOfL (mLc (iSeq (mVar 0)) [] [1, 2] (gT 2 (gsCons (gN 1) (gsCons (gN 2) gsNil))) mYes (mVar 2))) ⟨slotsOf 3 [.val (rowD r)], none⟩ = some ((tops r).map .int, ⟨slotsOf 3 [.val (rowD r)], none⟩) := by
    unfold mSortSet
    rw [e1, Option.bind_some]
    show (intsD ((hts r).map .int)).bind _ = _
    rw [intsD_map]
    exact if_pos (by unfold hts; rw [List.length_map]; omega)
  exact e_run rfl (e_ret2 (e_fn (e_cons (e_ofL e2) rfl) rfl) rfl)
theorem setI_len : ∀ l : List Int, (setI l).length ≤ l.length
  | [] => Nat.le_refl _
  | x :: l => by
    have h := setI_len l
    have hi : ∀ m : List Int, (insS x m).length ≤ m.length + 1 := fun m => by
      induction m with
      | nil => exact Nat.le_refl _
      | cons y m ih =>
        unfold insS
        split
        · exact Nat.le_refl _
        · split
          · exact Nat.le_succ _
          · simp only [List.length_cons]; omega
    have := hi (setI l)
    show (insS x (setI l)).length ≤ l.length + 1
    omega
def wats (r : Rw) : List Int := setI (0 :: tops r)
def leastW (r : Rw) (k : Int) : Option Int := (wats r).find? fun w => decide (k ≤ lotsAt r w)
theorem least_eq {r : Rw} {k : Int} (hr : r.length ≤ 50) : g_least_water [.val (rowD r), .val (.int k)] none = some (.val (optD (leastW r k)), none) := by
  have hl := setI_len (hts r)
  have hl2 : (hts r).length = r.length := List.length_map ..
  have e1 : mOfL (mSortSet (mBin dAdd (mOfL (mLst (mCons (mC (.int 0)) mNil))) (mOfL (mFnL fList (mCons (mCall (g_waters_of) (mCons (mVar 0) mNil)) mNil))))) ⟨slotsOf 3 [.val (rowD r), .val (.int k)], none⟩ = some (.list ((wats r).map .int), ⟨slotsOf 3 [.val (rowD r), .val (.int k)], none⟩) := by
    refine e_ofL ?_
    unfold mSortSet
    rw [e_bin (x := .list [.int 0]) (y := .list ((tops r).map .int)) (z := .list (.int 0 :: (tops r).map .int)) (e_ofL (e_lst (e_cons rfl rfl) (Nat.le_of_ble_eq_true rfl))) (e_ofL (e_fnL (e_cons (e_call (e_cons rfl rfl) (waters_eq hr)) rfl) rfl)) ?_, Option.bind_some]
    · show (intsD (.int 0 :: (tops r).map .int)).bind _ = _
      rw [ints_cons]
      exact if_pos (by unfold tops; rw [List.length_cons]; omega)
    · exact if_pos (by unfold tops; simp [fits, sizeLine]; omega)
  have loop : ∀ (ws : List Int) (a : Option SV), (∃ w, ws.find? (fun w => decide (k ≤ lotsAt r w)) = some w ∧ forGo (gN 2) (sIf (mTst (mBin dGe (mCall (g_lots_at) (mCons (mVar 0) (mCons (mVar 2) mNil))) (mVar 1))) (sRetV 2) sNil) (ws.map .int) ⟨[some (.val (rowD r)), some (.val (.int k)), a], none⟩ = some (.rt (.val (.int w)) none)) ∨ ∃ a', ws.find? (fun w => decide (k ≤ lotsAt r w)) = none ∧ forGo (gN 2) (sIf (mTst (mBin dGe (mCall (g_lots_at) (mCons (mVar 0) (mCons (mVar 2) mNil))) (mVar 1))) (sRetV 2) sNil) (ws.map .int) ⟨[some (.val (rowD r)), some (.val (.int k)), a], none⟩ = some (.nx ⟨[some (.val (rowD r)), some (.val (.int k)), a'], none⟩) := by
    intro ws
    induction ws with
    | nil => intro a; exact .inr ⟨a, rfl, rfl⟩
    | cons w ws ih =>
      intro a
      have test : mTst (mBin dGe (mCall (g_lots_at) (mCons (mVar 0) (mCons (mVar 2) mNil))) (mVar 1)) ⟨[some (.val (rowD r)), some (.val (.int k)), some (.val (.int w))], none⟩ = some (decide (k ≤ lotsAt r w), ⟨[some (.val (rowD r)), some (.val (.int k)), some (.val (.int w))], none⟩) := e_tst (e_bin (e_call (e_cons rfl (e_cons rfl rfl)) (lotsAt_eq hr)) rfl rfl)
      by_cases h : k ≤ lotsAt r w
      · exact .inl ⟨w, List.find?_cons_of_pos (decide_eq_true h), for_ret rfl (e_sifT test (decide_eq_true h) rfl)⟩
      · rw [List.find?_cons_of_neg (by simpa using h)]
        rcases ih (some (.val (.int w))) with ⟨q, e1, e2⟩ | ⟨a', e1, e2⟩
        · exact .inl ⟨q, e1, for_step rfl (e_sifF test (decide_eq_false h) rfl) e2⟩
        · exact .inr ⟨a', e1, for_step rfl (e_sifF test (decide_eq_false h) rfl) e2⟩
  refine e_run rfl ?_
  unfold leastW
  rcases loop (wats r) none with ⟨q, e2, e3⟩ | ⟨a', e2, e3⟩
  · rw [e2]
    exact e_seqR (e_for (e_seqI e1 rfl) e3)
  · rw [e2]
    exact e_seq (e_for (e_seqI e1 rfl) e3) rfl
end DL

set_option Elab.async false
set_option linter.all false
set_option maxRecDepth 100000
set_option maxHeartbeats 4000000
namespace DL
open PySem PySem.Spec PyProof.Rows L2
/-! ### great rows: plain facts -/
def sumM (r : Rw) : Int := (r.map (·.1)).sum
theorem sumM_cons (m h : Int) (r : Rw) : sumM ((m, h) :: r) = m + sumM r := by
  unfold sumM
  rw [List.map_cons, List.sum_cons]
theorem isl_eq (r : Rw) : isl r = 1 + sumM r := rfl
def Pos (r : Rw) : Prop := ∀ q ∈ r, 0 < q.1
theorem Pos.tail {q : Int × Int} {r : Rw} (h : Pos (q :: r)) : Pos r := fun p hp => h p (List.mem_cons_of_mem _ hp)
theorem Pos.head {m h : Int} {r : Rw} (p : Pos ((m, h) :: r)) : 0 < m := p (m, h) List.mem_cons_self
theorem sumM_nonneg : ∀ {r : Rw}, Pos r → 0 ≤ sumM r
  | [], _ => Int.le_refl 0
  | (m, h) :: r, p => by
    have h1 := sumM_nonneg p.tail
    have h2 := p.head
    rw [sumM_cons]
    omega
theorem runs_in : ∀ {r : Rw} {f : Int} {t : Int × Int × Int}, Pos r → t ∈ runsI f r → f ≤ t.1 ∧ t.1 < t.2.1 ∧ t.2.1 ≤ f + sumM r ∧ (t.2.1 - t.1, t.2.2) ∈ r
  | (m, h) :: r, f, t, p, ht => by
    have h2 := p.head
    have h3 := sumM_nonneg p.tail
    rw [sumM_cons]
    rcases List.mem_cons.mp ht with rfl | ht
    · refine ⟨Int.le_refl _, by show f < f + m; omega, by show f + m ≤ _; omega, ?_⟩
      show (f + m - f, h) ∈ _
      rw [show f + m - f = m by omega]
      exact List.mem_cons_self
    · have := runs_in p.tail ht
      exact ⟨by omega, by omega, by omega, List.mem_cons_of_mem _ this.2.2.2⟩
theorem runs_cov : ∀ {r : Rw} {f x : Int}, f ≤ x → x < f + sumM r → ∃ t ∈ runsI f r, t.1 ≤ x ∧ x < t.2.1
  | [], f, x, h1, h2 => by
    have : sumM [] = 0 := rfl
    omega
  | (m, h) :: r, f, x, h1, h2 => by
    rw [sumM_cons] at h2
    by_cases hx : x < f + m
    · exact ⟨_, List.mem_cons_self, h1, hx⟩
    · obtain ⟨t, h3, h4⟩ := runs_cov (r := r) (f := f + m) (x := x) (by omega) (by omega)
      exact ⟨t, List.mem_cons_of_mem _ h3, h4⟩
theorem ovl_iff {lo hi : Int} {t : Int × Int × Int} : ovl lo hi t = true ↔ lo < hi ∧ lo < t.2.1 ∧ t.1 < hi ∧ t.1 < t.2.1 := by
  unfold ovl
  rw [decide_eq_true_eq]
  split <;> split <;> omega
structure Lot (w : Int) (rs : List (Int × Int × Int)) (E : Int) (q : Int × Int) : Prop where
  lo : 0 ≤ q.1
  lt : q.1 < q.2
  hi : q.2 ≤ E
  hg : ∀ t ∈ rs, ovl q.1 q.2 t = true → w < t.2.2
  le : q.1 = 0 ∨ ∃ t ∈ rs, t.2.1 = q.1 ∧ t.2.2 ≤ w ∧ t.1 < t.2.1
  re : q.2 = E ∨ ∃ t ∈ rs, t.1 = q.2 ∧ t.2.2 ≤ w ∧ t.1 < t.2.1
def Op (w f : Int) (pre : List (Int × Int × Int)) : Option Int → Prop
  | none => f = 0 ∨ ∃ t ∈ pre, t.2.1 = f ∧ t.2.2 ≤ w ∧ t.1 < t.2.1
  | some s => 0 ≤ s ∧ s < f ∧ (s = 0 ∨ ∃ t ∈ pre, t.2.1 = s ∧ t.2.2 ≤ w ∧ t.1 < t.2.1) ∧ ∀ t ∈ pre, s < t.2.1 → w < t.2.2
theorem runs_app (pre : List (Int × Int × Int)) (f m h : Int) (r : Rw) : pre ++ runsI f ((m, h) :: r) = (pre ++ [(f, f + m, h)]) ++ runsI (f + m) r := by
  rw [List.append_assoc] <;> rfl
theorem lots_lot {w : Int} : ∀ (r : Rw) (o : Option Int) (f : Int) (pre : List (Int × Int × Int)), Pos r → 0 ≤ f → (∀ t ∈ pre, t.1 < t.2.1 ∧ t.2.1 ≤ f) → Op w f pre o → ∀ q ∈ lotsG w o f r, Lot w (pre ++ runsI f r) (f + sumM r) q
  | [], none, f, pre, _, _, _, _, q, hq => nomatch hq
  | [], some s, f, pre, _, hf, hpre, ho, q, hq => by
    obtain ⟨h1, h2, h3, h4⟩ := ho
    rcases List.mem_cons.mp hq with rfl | hq
    · have e : f + sumM [] = f := Int.add_zero f
      rw [e, show runsI f [] = [] from rfl, List.append_nil]
      exact ⟨h1, h2, Int.le_refl _, fun t ht hov => h4 t ht (ovl_iff.mp hov).2.1, h3, .inl rfl⟩
    · cases hq
  | (m, h) :: r, none, f, pre, hp, hf, hpre, ho, q, hq => by
    have hm := hp.head
    have hpre' : ∀ t ∈ pre ++ [(f, f + m, h)], t.1 < t.2.1 ∧ t.2.1 ≤ f + m := by
      intro t ht
      rcases List.mem_append.mp ht with ht | ht
      · have := hpre t ht; omega
      · rcases List.mem_cons.mp ht with rfl | ht
        · exact ⟨by show f < f + m; omega, Int.le_refl _⟩
        · cases ht
    rw [runs_app, sumM_cons, ← Int.add_assoc]
    by_cases hw : w < h
    · rw [show lotsG w none f ((m, h) :: r) = lotsG w (some f) (f + m) r from if_pos hw] at hq
      refine lots_lot r (some f) (f + m) _ hp.tail (by omega) hpre' ⟨hf, by omega, ?_, ?_⟩ q hq
      · rcases ho with h0 | ⟨t, h1, h2⟩
        · exact .inl h0
        · exact .inr ⟨t, List.mem_append_left _ h1, h2⟩
      · intro t ht hs
        rcases List.mem_append.mp ht with ht | ht
        · have := hpre t ht; omega
        · rcases List.mem_cons.mp ht with rfl | ht
          · exact hw
          · cases ht
    · rw [show lotsG w none f ((m, h) :: r) = lotsG w none (f + m) r from if_neg hw] at hq
      refine lots_lot r none (f + m) _ hp.tail (by omega) hpre' (.inr ⟨(f, f + m, h), List.mem_append_right _ List.mem_cons_self, rfl, by show h ≤ w; omega, by show f < f + m; omega⟩) q hq
  | (m, h) :: r, some s, f, pre, hp, hf, hpre, ho, q, hq => by
    obtain ⟨h1, h2, h3, h4⟩ := ho
    have hm := hp.head
    have hpre' : ∀ t ∈ pre ++ [(f, f + m, h)], t.1 < t.2.1 ∧ t.2.1 ≤ f + m := by
      intro t ht
      rcases List.mem_append.mp ht with ht | ht
      · have := hpre t ht; omega
      · rcases List.mem_cons.mp ht with rfl | ht
        · exact ⟨by show f < f + m; omega, Int.le_refl _⟩
        · cases ht
    have h3' : s = 0 ∨ ∃ t ∈ pre ++ [(f, f + m, h)], t.2.1 = s ∧ t.2.2 ≤ w ∧ t.1 < t.2.1 := by
      rcases h3 with h0 | ⟨t, h5, h6⟩
      · exact .inl h0
      · exact .inr ⟨t, List.mem_append_left _ h5, h6⟩
    have hs := sumM_nonneg hp.tail
    rw [runs_app, sumM_cons, ← Int.add_assoc]
    by_cases hw : w < h
    · rw [show lotsG w (some s) f ((m, h) :: r) = lotsG w (some s) (f + m) r from if_pos hw] at hq
      refine lots_lot r (some s) (f + m) _ hp.tail (by omega) hpre' ⟨h1, by omega, h3', ?_⟩ q hq
      intro t ht hs
      rcases List.mem_append.mp ht with ht | ht
      · exact h4 t ht hs
      · rcases List.mem_cons.mp ht with rfl | ht
        · exact hw
        · cases ht
    · rw [show lotsG w (some s) f ((m, h) :: r) = (s, f) :: lotsG w none (f + m) r from if_neg hw] at hq
      have hme : (f, f + m, h) ∈ pre ++ [(f, f + m, h)] := List.mem_append_right _ List.mem_cons_self
      have hend : (f, f + m, h).2.2 ≤ w ∧ (f, f + m, h).1 < (f, f + m, h).2.1 := ⟨by show h ≤ w; omega, by show f < f + m; omega⟩
      rcases List.mem_cons.mp hq with rfl | hq
      · refine ⟨h1, h2, by show f ≤ _; omega, ?_, ?_, .inr ⟨_, List.mem_append_left _ hme, rfl, hend⟩⟩
        · intro t ht hov
          have ho := ovl_iff.mp hov
          rcases List.mem_append.mp ht with ht | ht
          · rcases List.mem_append.mp ht with ht | ht
            · exact h4 t ht ho.2.1
            · rcases List.mem_cons.mp ht with rfl | ht
              · exact absurd ho.2.2.1 (Int.lt_irrefl _)
              · cases ht
          · have := runs_in hp.tail ht
            have : t.1 < f := ho.2.2.1
            omega
        · rcases h3' with h0 | ⟨t, h5, h6⟩
          · exact .inl h0
          · exact .inr ⟨t, List.mem_append_left _ h5, h6⟩
      · exact lots_lot r none (f + m) _ hp.tail (by omega) hpre' (.inr ⟨_, hme, rfl, hend⟩) q hq
theorem lots_cov {w : Int} : ∀ (r : Rw) (f : Int), (∀ s, ∃ q ∈ lotsG w (some s) f r, q.1 = s ∧ (Pos r → f ≤ q.2)) ∧ (∀ o, (∀ s, o = some s → s ≤ f) → Pos r → ∀ t ∈ runsI f r, w < t.2.2 → ∃ q ∈ lotsG w o f r, q.1 ≤ t.1 ∧ t.2.1 ≤ q.2)
  | [], f => ⟨fun s => ⟨(s, f), List.mem_cons_self, rfl, fun _ => Int.le_refl _⟩, fun _ _ _ t ht => nomatch ht⟩
  | (m, h) :: r, f => by
    obtain ⟨i1, i2⟩ := lots_cov (w := w) r (f + m)
    refine ⟨fun s => ?_, fun o hs hp t ht hh => ?_⟩
    · by_cases hw : w < h
      · rw [show lotsG w (some s) f ((m, h) :: r) = lotsG w (some s) (f + m) r from if_pos hw]
        obtain ⟨q, h1, h2, h3⟩ := i1 s
        refine ⟨q, h1, h2, fun p => ?_⟩
        have := h3 p.tail
        have := p.head
        omega
      · rw [show lotsG w (some s) f ((m, h) :: r) = (s, f) :: lotsG w none (f + m) r from if_neg hw]
        exact ⟨_, List.mem_cons_self, rfl, fun _ => Int.le_refl _⟩
    · have hm := hp.head
      rcases List.mem_cons.mp ht with rfl | ht
      · have hw : w < h := hh
        cases o with
        | none =>
          rw [show lotsG w none f ((m, h) :: r) = lotsG w (some f) (f + m) r from if_pos hw]
          obtain ⟨q, h1, h2, h3⟩ := i1 f
          exact ⟨q, h1, by show q.1 ≤ f; omega, h3 hp.tail⟩
        | some s =>
          rw [show lotsG w (some s) f ((m, h) :: r) = lotsG w (some s) (f + m) r from if_pos hw]
          obtain ⟨q, h1, h2, h3⟩ := i1 s
          have := hs s rfl
          exact ⟨q, h1, by show q.1 ≤ f; omega, h3 hp.tail⟩
      · by_cases hw : w < h
        · cases o with
          | none =>
            rw [show lotsG w none f ((m, h) :: r) = lotsG w (some f) (f + m) r from if_pos hw]
            exact i2 _ (fun s e => by cases e; omega) hp.tail t ht hh
          | some s =>
            rw [show lotsG w (some s) f ((m, h) :: r) = lotsG w (some s) (f + m) r from if_pos hw]
            exact i2 _ (fun s' e => by cases e; have := hs s rfl; omega) hp.tail t ht hh
        · cases o with
          | none =>
            rw [show lotsG w none f ((m, h) :: r) = lotsG w none (f + m) r from if_neg hw]
            exact i2 _ (fun s e => absurd e (by simp)) hp.tail t ht hh
          | some s =>
            rw [show lotsG w (some s) f ((m, h) :: r) = (s, f) :: lotsG w none (f + m) r from if_neg hw]
            obtain ⟨q, h1, h2⟩ := i2 none (fun s e => nomatch e) hp.tail t ht hh
            exact ⟨q, List.mem_cons_of_mem _ h1, h2⟩
section
variable {r : Rw} {w : Int} (p : Pos r)
include p
theorem lot_of {q : Int × Int} (h : q ∈ lots r w) : Lot w (runsI 0 r) (sumM r) q := by
  have := lots_lot r none 0 [] p (Int.le_refl _) (fun t ht => nomatch ht) (.inl rfl) q h
  rwa [List.nil_append, Int.zero_add] at this
theorem lot_cov {t : Int × Int × Int} (ht : t ∈ runsI 0 r) (hh : w < t.2.2) : ∃ q ∈ lots r w, q.1 ≤ t.1 ∧ t.2.1 ≤ q.2 := (lots_cov r 0).2 none (fun s e => nomatch e) p t ht hh
/-- two lots that share an island are one -/
theorem lot_one {q q' : Int × Int} {i : Int} (h : Lot w (runsI 0 r) (sumM r) q) (h' : Lot w (runsI 0 r) (sumM r) q') (h1 : q.1 ≤ i) (h2 : i ≤ q.2) (h3 : q'.1 ≤ i) (h4 : i ≤ q'.2) : q = q' := by
  have key : ∀ {q q' : Int × Int}, Lot w (runsI 0 r) (sumM r) q → Lot w (runsI 0 r) (sumM r) q' → q.1 ≤ i → i ≤ q.2 → q'.1 ≤ i → i ≤ q'.2 → q'.2 ≤ q.2 ∧ q.1 ≤ q'.1 := by
    intro q q' h h' h1 h2 h3 h4
    have l1 := h.lt
    have l2 := h'.lt
    refine ⟨?_, ?_⟩
    · by_cases hc : q'.2 ≤ q.2
      · exact hc
      · rcases h.re with e | ⟨t, t1, t2, t3, t4⟩
        · have := h'.hi; omega
        · have := h'.hg t t1 (ovl_iff.mpr ⟨l2, by omega, by omega, t4⟩)
          omega
    · by_cases hc : q.1 ≤ q'.1
      · exact hc
      · rcases h.le with e | ⟨t, t1, t2, t3, t4⟩
        · have := h'.lo; omega
        · have := h'.hg t t1 (ovl_iff.mpr ⟨l2, by omega, by omega, t4⟩)
          omega
  have a := key h h' h1 h2 h3 h4
  have b := key h' h h3 h4 h1 h2
  exact Prod.ext (by omega) (by omega)
theorem lotAt_cases (i : Int) : (lotAt r i w ∈ lots r w ∧ (lotAt r i w).1 ≤ i ∧ i ≤ (lotAt r i w).2) ∨ (lotAt r i w = (i, i) ∧ ∀ q ∈ lots r w, ¬ (q.1 ≤ i ∧ i ≤ q.2)) := by
  unfold lotAt
  cases hf : (lots r w).find? (inLot i) with
  | none =>
    refine .inr ⟨rfl, fun q hq hc => ?_⟩
    have := List.find?_eq_none.mp hf q hq
    unfold inLot at this
    rw [decide_eq_true hc.1, decide_eq_true hc.2] at this
    exact this rfl
  | some q =>
    have h1 := List.mem_of_find?_eq_some hf
    have h2 := List.find?_some hf
    unfold inLot at h2
    rw [Bool.and_eq_true, decide_eq_true_eq, decide_eq_true_eq] at h2
    exact .inl ⟨h1, h2.1, h2.2⟩
theorem lotAt_in (i : Int) : (lotAt r i w).1 ≤ i ∧ i ≤ (lotAt r i w).2 := by
  rcases lotAt_cases (w := w) p i with h | h
  · exact h.2
  · rw [h.1]; exact ⟨Int.le_refl _, Int.le_refl _⟩
theorem lotAt_bd {i : Int} (h0 : 0 ≤ i) (h1 : i < isl r) : 0 ≤ (lotAt r i w).1 ∧ (lotAt r i w).2 < isl r := by
  rw [isl_eq] at h1 ⊢
  rcases lotAt_cases (w := w) p i with h | h
  · have := lot_of p h.1
    have a := this.lo
    have b := this.hi
    omega
  · rw [h.1]
    show 0 ≤ i ∧ i < _
    omega
theorem lotAt_again (i : Int) : lotAt r (lotAt r i w).2 w = lotAt r i w := by
  rcases lotAt_cases (w := w) p i with h | h
  · have l := lot_of p h.1
    have := l.lt
    rcases lotAt_cases (w := w) p (lotAt r i w).2 with h' | h'
    · exact (lot_one p l (lot_of p h'.1) (Int.le_of_lt this) (Int.le_refl _) h'.2.1 h'.2.2).symm
    · exact absurd ⟨Int.le_of_lt this, Int.le_refl _⟩ (h'.2 _ h.1)
  · have e : (lotAt r i w).2 = i := by rw [h.1]
    rw [e]
theorem maxI_ge {x y : Int} {xs : List Int} (h : y ∈ x :: xs) : y ≤ maxI (x :: xs) := by
  have := foldl_max_ge xs x
  rcases List.mem_cons.mp h with rfl | h
  · exact this.1
  · exact this.2 y h
theorem lotAt_size (i : Int) : (lotAt r i w).2 - (lotAt r i w).1 + 1 ≤ maxI (1 :: sizes r w) := by
  rcases lotAt_cases (w := w) p i with h | h
  · exact maxI_ge p (List.mem_cons_of_mem _ (List.mem_map.mpr ⟨_, h.1, rfl⟩))
  · have e1 : (lotAt r i w).2 = i := by rw [h.1]
    have e2 : (lotAt r i w).1 = i := by rw [h.1]
    have := maxI_ge p (x := 1) (xs := sizes r w) List.mem_cons_self
    omega
/-- who shares a lot with i -/
theorem lotAt_far {i j : Int} (hi : 0 ≤ i ∧ i < isl r) (hj : 0 ≤ j ∧ j < isl r) : ((lotAt r i w).1 ≤ j ∧ j ≤ (lotAt r i w).2) ↔ ∀ t ∈ runsI 0 r, ovl (mn i j) (mx i j) t = true → w < t.2.2 := by
  have hn : mn i j ≤ i ∧ mn i j ≤ j ∧ (mn i j = i ∨ mn i j = j) := by unfold mn; split <;> omega
  have hx : i ≤ mx i j ∧ j ≤ mx i j ∧ (mx i j = i ∨ mx i j = j) := by unfold mx; split <;> omega
  rw [isl_eq] at hi hj
  rcases lotAt_cases (w := w) p i with h | h
  · have l := lot_of p h.1
    refine ⟨fun hc t ht ho => l.hg t ht ?_, fun hc => ?_⟩
    · rw [ovl_iff] at ho ⊢
      omega
    · have l0 := l.lo
      have l1 := l.hi
      refine ⟨?_, ?_⟩
      · by_cases hb : (lotAt r i w).1 ≤ j
        · exact hb
        · rcases l.le with e | ⟨t, t1, t2, t3, t4⟩
          · omega
          · have := hc t t1 (ovl_iff.mpr ⟨by omega, by omega, by omega, t4⟩)
            omega
      · by_cases hb : j ≤ (lotAt r i w).2
        · exact hb
        · rcases l.re with e | ⟨t, t1, t2, t3, t4⟩
          · omega
          · have := hc t t1 (ovl_iff.mpr ⟨by omega, by omega, by omega, t4⟩)
            omega
  · have e1 : (lotAt r i w).2 = i := by rw [h.1]
    have e2 : (lotAt r i w).1 = i := by rw [h.1]
    rw [e1, e2]
    refine ⟨fun hc t ht ho => ?_, fun hc => ?_⟩
    · rw [ovl_iff] at ho
      omega
    · have hno : ∀ t ∈ runsI 0 r, t.1 ≤ i → i ≤ t.2.1 → ¬ w < t.2.2 := fun t ht a b c => by
        obtain ⟨q, h1, h2, h3⟩ := lot_cov p ht c
        exact h.2 q h1 ⟨by omega, by omega⟩
      by_cases e : i = j
      · omega
      · exfalso
        by_cases hlt : i < j
        · obtain ⟨t, t1, t2, t3⟩ := runs_cov (r := r) (f := 0) (x := i) (by omega) (by omega)
          exact hno t t1 (by omega) (by omega) (hc t t1 (ovl_iff.mpr ⟨by omega, by omega, by omega, by omega⟩))
        · obtain ⟨t, t1, t2, t3⟩ := runs_cov (r := r) (f := 0) (x := i - 1) (by omega) (by omega)
          exact hno t t1 (by omega) (by omega) (hc t t1 (ovl_iff.mpr ⟨by omega, by omega, by omega, by omega⟩))
theorem lastH_none {i j : Int} (hi : 0 ≤ i ∧ i < isl r) (hj : 0 ≤ j ∧ j < isl r) : lastH r i j = none ↔ i = j := by
  have hn : mn i j ≤ i ∧ mn i j ≤ j ∧ (mn i j = i ∨ mn i j = j) := by unfold mn; split <;> omega
  have hx : i ≤ mx i j ∧ j ≤ mx i j ∧ (mx i j = i ∨ mx i j = j) := by unfold mx; split <;> omega
  rw [isl_eq] at hi hj
  unfold lastH
  constructor
  · intro h
    by_cases e : i = j
    · exact e
    · exfalso
      have hlt : mn i j < mx i j := by omega
      obtain ⟨t, t1, t2, t3⟩ := runs_cov (r := r) (f := 0) (x := mn i j) (by omega) (by omega)
      have : t.2.2 ∈ hgts r (mn i j) (mx i j) := List.mem_map.mpr ⟨t, List.mem_filter.mpr ⟨t1, ovl_iff.mpr ⟨hlt, by omega, by omega, by omega⟩⟩, rfl⟩
      rw [if_pos (List.length_pos_of_mem this)] at h
      cases h
  · rintro rfl
    refine if_neg ?_
    intro h
    obtain ⟨x, hx⟩ := List.exists_mem_of_length_pos h
    obtain ⟨t, h1, h2⟩ := List.mem_map.mp hx
    have := ovl_iff.mp (List.mem_filter.mp h1).2
    omega
theorem lastH_gt {i j h : Int} (e : lastH r i j = some h) : w < h ↔ ∀ t ∈ runsI 0 r, ovl (mn i j) (mx i j) t = true → w < t.2.2 := by
  unfold lastH at e
  split at e
  · rename_i hl
    have e' := Option.some.inj e
    have hm : ∀ {l : List Int}, 0 < l.length → minI l ∈ l ∧ ∀ y ∈ l, minI l ≤ y := by
      intro l hl
      cases l with
      | nil => exact absurd hl (Nat.lt_irrefl _)
      | cons x xs =>
        clear e e' hl
        have : ∀ (xs : List Int) (x : Int), (xs.foldl min x = x ∨ xs.foldl min x ∈ xs) ∧ xs.foldl min x ≤ x ∧ ∀ y ∈ xs, xs.foldl min x ≤ y := by
          intro xs
          induction xs with
          | nil => intro x; exact ⟨.inl rfl, Int.le_refl _, fun y hy => nomatch hy⟩
          | cons a xs ih =>
            intro x
            obtain ⟨i1, i2, i3⟩ := ih (min x a)
            have e : (a :: xs).foldl min x = xs.foldl min (min x a) := rfl
            rw [e]
            refine ⟨?_, by omega, fun y hy => ?_⟩
            · rcases i1 with i1 | i1
              · rw [i1]
                by_cases hxa : x ≤ a
                · exact .inl (by omega)
                · exact .inr (by rw [show min x a = a by omega]; exact List.mem_cons_self)
              · exact .inr (List.mem_cons_of_mem _ i1)
            · rcases List.mem_cons.mp hy with rfl | hy
              · omega
              · exact i3 y hy
        obtain ⟨a, b, c⟩ := this xs x
        refine ⟨?_, fun y hy => ?_⟩
        · rcases a with a | a
          · exact List.mem_cons.mpr (.inl a)
          · exact List.mem_cons_of_mem _ a
        · rcases List.mem_cons.mp hy with rfl | hy
          · exact b
          · exact c y hy
    obtain ⟨m1, m2⟩ := hm hl
    rw [e'] at m1 m2
    constructor
    · intro hw t ht ho
      have := m2 t.2.2 (List.mem_map.mpr ⟨t, List.mem_filter.mpr ⟨ht, ho⟩, rfl⟩)
      omega
    · intro hc
      obtain ⟨t, h1, h2⟩ := List.mem_map.mp m1
      have h3 := List.mem_filter.mp h1
      have := hc t h3.1 h3.2
      have h2' : t.2.2 = h := h2
      omega
  · cases e
end
end DL

set_option Elab.async false
set_option linter.all false
set_option maxRecDepth 100000
set_option maxHeartbeats 4000000
namespace DL
open PySem PySem.Spec PyProof.Rows L2
/-! ### great rows: waters -/
theorem lotsAt_cons (m h w : Int) (r : Rw) : lotsAt ((m, h) :: r) w = (if h ≤ w then m else 0) + lotsAt r w := by
  unfold lotsAt
  by_cases c : h ≤ w
  · rw [List.filter_cons_of_pos (by simpa using c), List.map_cons, List.sum_cons, if_pos c]
    omega
  · rw [List.filter_cons_of_neg (by simpa using c), if_neg c]
    omega
theorem isl_cons (m h : Int) (r : Rw) : isl ((m, h) :: r) = m + isl r := by
  rw [isl_eq, isl_eq, sumM_cons]
  omega
theorem lotsAt_mono {w w' : Int} : ∀ {r : Rw}, Pos r → (∀ q ∈ r, q.2 ≤ w → q.2 ≤ w') → lotsAt r w ≤ lotsAt r w'
  | [], _, _ => Int.le_refl _
  | (m, h) :: r, p, k => by
    have h1 := lotsAt_mono p.tail fun q hq => k q (List.mem_cons_of_mem _ hq)
    have h2 := k (m, h) List.mem_cons_self
    have h3 := p.head
    rw [lotsAt_cons, lotsAt_cons]
    simp only at h2
    split <;> split <;> omega
theorem lotsAt_all {w : Int} : ∀ {r : Rw}, (∀ q ∈ r, q.2 ≤ w) → lotsAt r w = isl r
  | [], _ => rfl
  | (m, h) :: r, k => by
    rw [lotsAt_cons, isl_cons, if_pos (k (m, h) List.mem_cons_self), lotsAt_all fun q hq => k q (List.mem_cons_of_mem _ hq)]
theorem lotsAt_le {w : Int} : ∀ {r : Rw}, Pos r → lotsAt r w ≤ isl r ∧ 1 ≤ lotsAt r w
  | [], _ => ⟨Int.le_refl _, Int.le_refl _⟩
  | (m, h) :: r, p => by
    have h1 := lotsAt_le (w := w) p.tail
    have h3 := p.head
    rw [lotsAt_cons, isl_cons]
    split <;> omega
def zts (r : Rw) : List Int := 0 :: tops r
theorem tops_mem {r : Rw} {z : Int} : z ∈ tops r ↔ ∃ q ∈ r, q.2 = z := by
  unfold tops hts
  rw [setI_mem, List.mem_map]
def Hts (r : Rw) : Prop := ∀ q ∈ r, 0 ≤ q.2
theorem zts_asc {r : Rw} (h : Hts r) : (zts r).Pairwise (· ≤ ·) := by
  refine List.pairwise_cons.mpr ⟨fun z hz => ?_, (setI_asc _).imp fun hab => Int.le_of_lt hab⟩
  obtain ⟨q, h1, rfl⟩ := tops_mem.mp hz
  exact h q h1
theorem last_ge {l : List Int} {x : Int} (h : (l ++ [x]).Pairwise (· ≤ ·)) : ∀ y ∈ l ++ [x], y ≤ x := by
  intro y hy
  rcases List.mem_append.mp hy with hy | hy
  · exact (List.pairwise_append.mp h).2.2 y hy x List.mem_cons_self
  · rcases List.mem_cons.mp hy with rfl | hy
    · exact Int.le_refl _
    · cases hy
theorem zts_last {r : Rw} (h : Hts r) : ∃ pre x, zts r = pre ++ [x] ∧ ∀ q ∈ r, q.2 ≤ x := by
  rcases List.eq_nil_or_concat (zts r) with e | ⟨pre, x, e⟩
  · cases e
  · rw [List.concat_eq_append] at e
    refine ⟨pre, x, e, fun q hq => ?_⟩
    have h1 := zts_asc h
    rw [e] at h1
    refine last_ge h1 q.2 ?_
    rw [← e]
    exact List.mem_cons_of_mem _ (tops_mem.mpr ⟨q, hq, rfl⟩)
theorem sortI_self {l : List Int} (h : l.Pairwise (· ≤ ·)) : sortI l = l := sorted_unique (sortI_sorted l) h (sortI_perm l)
theorem sortI_rev {l : List Int} (h : l.Pairwise (· ≥ ·)) : (sortI l).reverse = l := by
  have h1 : l.reverse.Pairwise (· ≤ ·) := List.pairwise_reverse.mpr (h.imp fun hab => hab)
  rw [sorted_unique (sortI_sorted l) h1 ((sortI_perm l).trans (List.reverse_perm l).symm), List.reverse_reverse]
theorem counts_asc {r : Rw} (p : Pos r) (h : Hts r) : ((zts r).map (lotsAt r)).Pairwise (· ≤ ·) :=
  List.pairwise_map.mpr ((zts_asc h).imp fun hab => lotsAt_mono p fun q _ hq => Int.le_trans hq hab)
theorem wats_mem {r : Rw} {z : Int} : z ∈ wats r ↔ z = 0 ∨ ∃ q ∈ r, q.2 = z := by
  unfold wats
  rw [setI_mem, List.mem_cons, tops_mem]
theorem least_none {r : Rw} (p : Pos r) : leastW r (isl r + 1) = none := by
  unfold leastW
  refine List.find?_eq_none.mpr fun w _ => ?_
  have := (lotsAt_le (w := w) p).1
  simp only [decide_eq_true_eq]
  omega
theorem least_some {r : Rw} {k : Int} (p : Pos r) (h : Hts r) (hk : k ≤ isl r) : ∃ w, leastW r k = some w ∧ 0 ≤ w ∧ k ≤ lotsAt r w ∧ (0 < w → lotsAt r (w - 1) < k) := by
  cases e : leastW r k with
  | none =>
    exfalso
    obtain ⟨pre, x, e1, e2⟩ := zts_last h
    have hx : x ∈ wats r := by
      have : x ∈ zts r := by rw [e1]; exact List.mem_append_right _ List.mem_cons_self
      unfold wats
      rw [setI_mem]
      exact this
    unfold leastW at e
    have := List.find?_eq_none.mp e x hx
    rw [decide_eq_true_eq, lotsAt_all e2] at this
    exact this hk
  | some w =>
    unfold leastW at e
    obtain ⟨h1, as, bs, h2, h3⟩ := List.find?_eq_some_iff_append.mp e
    rw [decide_eq_true_eq] at h1
    have hw0 : w = 0 ∨ ∃ q ∈ r, q.2 = w := wats_mem.mp (by rw [h2]; exact List.mem_append_right _ List.mem_cons_self)
    have hw : 0 ≤ w := by
      rcases hw0 with rfl | ⟨q, h5, rfl⟩
      · exact Int.le_refl _
      · exact h q h5
    refine ⟨w, rfl, hw, h1, fun hpos => ?_⟩
    have hasc : (as ++ w :: bs).Pairwise (· < ·) := h2 ▸ setI_asc _
    have hb := (List.pairwise_cons.mp (List.pairwise_append.mp hasc).2.1).1
    have hin : ∀ z ∈ wats r, z < w → z ∈ as := by
      intro z hz hlt
      rw [h2] at hz
      rcases List.mem_append.mp hz with hz | hz
      · exact hz
      · rcases List.mem_cons.mp hz with rfl | hz
        · exact absurd hlt (Int.lt_irrefl _)
        · have := hb z hz; omega
    have h0 : (0 : Int) ∈ as := hin 0 (wats_mem.mpr (.inl rfl)) hpos
    rcases List.eq_nil_or_concat as with e1 | ⟨pre, v, e1⟩
    · rw [e1] at h0; cases h0
    · rw [List.concat_eq_append] at e1
      subst e1
      have hv := h3 v (List.mem_append_right _ List.mem_cons_self)
      have hasc2 := (List.pairwise_append.mp hasc).1.imp (fun {a b} (hab : a < b) => Int.le_of_lt hab)
      have := lotsAt_mono (w := w - 1) (w' := v) p fun q hq hle => last_ge hasc2 q.2 (hin q.2 (wats_mem.mpr (.inr ⟨q, hq, rfl⟩)) (by omega))
      simp at hv
      omega
/-! joined -/
def cc (n : Int) : Int := (n + 1) * (n + 1 - 1) / 2
theorem cc_zero : cc 0 = 0 := rfl
theorem cc_eq (n : Int) : cc n = (n * n + n) / 2 := by
  unfold cc
  rw [show n + 1 - 1 = n by omega, Int.add_mul, Int.one_mul]
theorem cc_add {a b : Int} (ha : 0 ≤ a) (hb : 0 ≤ b) : cc a + cc b ≤ cc (a + b) := by
  rw [cc_eq, cc_eq, cc_eq]
  have h1 : (a + b) * (a + b) = a * a + a * b + (a * b + b * b) := by
    rw [Int.add_mul, Int.mul_add, Int.mul_add, Int.mul_comm b a]
  have h2 := Int.mul_nonneg ha hb
  rw [h1]
  generalize a * a = x at *
  generalize b * b = y at *
  generalize a * b = z at *
  omega
theorem cc_nonneg {a : Int} (ha : 0 ≤ a) : 0 ≤ cc a := by
  rw [cc_eq]
  have := Int.mul_nonneg ha ha
  omega
theorem cc_mono {a b : Int} (ha : 0 ≤ a) (h : a ≤ b) : cc a ≤ cc b := by
  have h1 := cc_add ha (show 0 ≤ b - a by omega)
  have h2 := cc_nonneg (show 0 ≤ b - a by omega)
  rw [show a + (b - a) = b by omega] at h1
  omega
def jn (w : Int) (o : Option Int) (f : Int) (r : Rw) : Int := ((lotsG w o f r).map fun q => cc (q.2 - q.1)).sum
theorem jn_nilN (w f : Int) : jn w none f [] = 0 := rfl
theorem jn_nilS (w f s : Int) : jn w (some s) f [] = cc (f - s) := by
  show cc (f - s) + 0 = _
  omega
theorem jn_N {w f m h : Int} {r : Rw} : jn w none f ((m, h) :: r) = if w < h then jn w (some f) (f + m) r else jn w none (f + m) r := by
  unfold jn
  show ((if w < h then _ else _ : List (Int × Int)).map _).sum = _
  split <;> rfl
theorem jn_S {w f m h s : Int} {r : Rw} : jn w (some s) f ((m, h) :: r) = if w < h then jn w (some s) (f + m) r else cc (f - s) + jn w none (f + m) r := by
  unfold jn
  show ((if w < h then _ else _ : List (Int × Int)).map _).sum = _
  split
  · rfl
  · rw [List.map_cons, List.sum_cons]
theorem jn_anti {w w' : Int} (hw : w ≤ w') : ∀ (r : Rw), Pos r → ∀ g : Int,
    (∀ s t s', s ≤ t → t ≤ s' → s' ≤ g → cc (t - s) + jn w' (some s') g r ≤ jn w (some s) g r) ∧
    (∀ s t, s ≤ t → t ≤ g → cc (t - s) + jn w' none g r ≤ jn w (some s) g r) ∧ jn w' none g r ≤ jn w none g r
  | [], _, g => by
    refine ⟨fun s t s' h1 h2 h3 => ?_, fun s t h1 h2 => ?_, Int.le_refl _⟩
    · rw [jn_nilS, jn_nilS]
      have h4 := cc_add (show 0 ≤ t - s by omega) (show 0 ≤ g - s' by omega)
      have h5 := cc_mono (show 0 ≤ t - s + (g - s') by omega) (show t - s + (g - s') ≤ g - s by omega)
      omega
    · rw [jn_nilS, jn_nilN]
      have := cc_mono (show 0 ≤ t - s by omega) (show t - s ≤ g - s by omega)
      omega
  | (m, h) :: r, p, g => by
    have hm := p.head
    obtain ⟨A, B, N⟩ := jn_anti hw r p.tail (g + m)
    refine ⟨fun s t s' h1 h2 h3 => ?_, fun s t h1 h2 => ?_, ?_⟩
    · rw [jn_S, jn_S]
      by_cases c1 : w' < h
      · rw [if_pos c1, if_pos (by omega)]
        exact A s t s' h1 h2 (by omega)
      · rw [if_neg c1]
        have h4 := cc_add (show 0 ≤ t - s by omega) (show 0 ≤ g - s' by omega)
        by_cases c2 : w < h
        · rw [if_pos c2]
          have := B s (t + (g - s')) (by omega) (by omega)
          rw [show t + (g - s') - s = t - s + (g - s') by omega] at this
          omega
        · rw [if_neg c2]
          have h5 := cc_mono (show 0 ≤ t - s + (g - s') by omega) (show t - s + (g - s') ≤ g - s by omega)
          omega
    · rw [jn_S, jn_N]
      by_cases c1 : w' < h
      · rw [if_pos c1, if_pos (by omega)]
        exact A s t g h1 h2 (by omega)
      · rw [if_neg c1]
        by_cases c2 : w < h
        · rw [if_pos c2]
          exact B s t h1 (by omega)
        · rw [if_neg c2]
          have h5 := cc_mono (show 0 ≤ t - s by omega) (show t - s ≤ g - s by omega)
          omega
    · rw [jn_N, jn_N]
      by_cases c1 : w' < h
      · rw [if_pos c1, if_pos (by omega)]
        have := A g g g (Int.le_refl _) (Int.le_refl _) (by omega)
        rw [Int.sub_self, cc_zero] at this
        omega
      · rw [if_neg c1]
        by_cases c2 : w < h
        · rw [if_pos c2]
          have := B g g (Int.le_refl _) (by omega)
          rw [Int.sub_self, cc_zero] at this
          omega
        · rw [if_neg c2]
          exact N
theorem joined_jn (r : Rw) (w : Int) : joined r w = jn w none 0 r := by
  unfold joined sizes jn lots
  rw [List.map_map] <;> rfl
theorem joined_anti {r : Rw} {w w' : Int} (p : Pos r) (h : w ≤ w') : joined r w' ≤ joined r w := by
  rw [joined_jn, joined_jn]
  exact (jn_anti h r p 0).2.2
theorem lots_none {w : Int} : ∀ {r : Rw} {f : Int}, (∀ q ∈ r, q.2 ≤ w) → lotsG w none f r = []
  | [], _, _ => rfl
  | (m, h) :: r, f, k => by
    have : ¬ w < h := by have := k (m, h) List.mem_cons_self; simp only at this; omega
    rw [show lotsG w none f ((m, h) :: r) = lotsG w none (f + m) r from if_neg this]
    exact lots_none fun q hq => k q (List.mem_cons_of_mem _ hq)
theorem joined_zero {r : Rw} {w : Int} (k : ∀ q ∈ r, q.2 ≤ w) : joined r w = 0 := by
  unfold joined sizes lots
  rw [lots_none k] <;> rfl
theorem joineds_desc {r : Rw} (p : Pos r) (h : Hts r) : ((zts r).map (joined r)).Pairwise (· ≥ ·) :=
  List.pairwise_map.mpr ((zts_asc h).imp fun hab => joined_anti p hab)
theorem pw200 : 2 ^ 201 ≤ 2 ^ 8000 := Nat.pow_le_pow_right (by decide) (by decide)
theorem sizes_small {r : Rw} {w : Int} (p : Pos r) (h : sumM r < 2 ^ 200) : ∀ s ∈ sizes r w, s.natAbs < 2 ^ 8000 ∧ (s - 1).natAbs < 2 ^ 8000 := by
  intro s hs
  obtain ⟨q, h1, rfl⟩ := List.mem_map.mp hs
  have l := lot_of p h1
  have l1 := l.lo
  have l2 := l.lt
  have l3 := l.hi
  refine ⟨Nat.lt_of_lt_of_le ?_ pw200, Nat.lt_of_lt_of_le ?_ pw200⟩ <;> omega
end DL

set_option Elab.async false
set_option linter.all false
set_option maxRecDepth 100000
set_option maxHeartbeats 4000000
namespace DL
open PySem PySem.Spec PyProof.Rows L2
/-! ### drawing in a comprehension; loops that count -/
theorem lcGo_draw {α : Type} {g : MG} {mt : MT} {me : MD} {sb : List (Option SV)} (enc : α → Dt) (Good : α → Prop) (c K : Nat) : ∀ (ds : List Dt), (∀ d ∈ ds, ∀ k u, UOk k u → k + c ≤ K → ∃ a u', lcStep g mt me sb d (some u) = some (some (enc a), some u') ∧ Good a ∧ UOk (k + c) u') → ∀ k u, UOk k u → k + c * ds.length ≤ K → ∃ (as : List α) (u' : List Int), lcGo g mt me sb ds (some u) = some (as.map enc, some u') ∧ as.length = ds.length ∧ (∀ a ∈ as, Good a) ∧ UOk (k + c * ds.length) u'
  | [], _, k, u, hu, _ => ⟨[], u, rfl, rfl, fun a ha => absurd ha List.not_mem_nil, hu⟩
  | d :: ds, h, k, u, hu, hk => by
    rw [List.length_cons, Nat.mul_add, Nat.mul_one] at hk
    obtain ⟨a, u1, e1, g1, hu1⟩ := h d List.mem_cons_self k u hu (by omega)
    obtain ⟨as, u2, e2, l2, g2, hu2⟩ := lcGo_draw enc Good c K ds (fun x hx => h x (List.mem_cons_of_mem _ hx)) (k + c) u1 hu1 (by omega)
    refine ⟨a :: as, u2, ?_, by rw [List.length_cons, List.length_cons, l2], fun x hx => ?_, hu2.mono (by rw [List.length_cons, Nat.mul_add, Nat.mul_one]; omega)⟩
    · rw [lcGo_cons, e1, Option.bind_some, e2] <;> rfl
    · rcases List.mem_cons.mp hx with rfl | hx
      · exact g1
      · exact g2 x hx
theorem for_invN {g : MG} {mb : MS} (Iv : Nat → Stt → Prop) : ∀ (ds : List Dt) (n : Nat) (s : Stt), Iv n s → (∀ d ∈ ds, ∀ k s, k < n + ds.length → Iv k s → ∃ s1 s2, g d s = some s1 ∧ mb s1 = some (.nx s2) ∧ Iv (k + 1) s2) → ∃ s', forGo g mb ds s = some (.nx s') ∧ Iv (n + ds.length) s'
  | [], n, s, h, _ => ⟨s, rfl, h⟩
  | d :: ds, n, s, h, k => by
    rw [List.length_cons] at k ⊢
    obtain ⟨s1, s2, e1, e2, h2⟩ := k d List.mem_cons_self n s (by omega) h
    obtain ⟨s', e3, h3⟩ := for_invN Iv ds (n + 1) s2 h2 fun x hx j t hj => k x (List.mem_cons_of_mem _ hx) j t (by omega)
    refine ⟨s', ?_, by rwa [show n + 1 + ds.length = n + (ds.length + 1) by omega] at h3⟩
    show (g d s).bind _ = _
    rw [e1, Option.bind_some, e2]
    exact e3
theorem rngD_length (lo : Int) (n : Nat) : (rngD lo n).length = n := by
  unfold rngD
  rw [List.length_map, List.length_range]
theorem ne_self {d : Dt} (h : SeqAt.shaped d = true) : dNe d d = some (.bool false) := by
  unfold dNe eqOk
  rw [if_pos (by rw [h] <;> rfl), SeqAt.eqv_refl d (SeqAt.canLay_of_shaped h)] <;> rfl
theorem eq_self {d : Dt} (h : SeqAt.shaped d = true) : dEq d d = some (.bool true) := by
  unfold dEq eqOk
  rw [if_pos (by rw [h] <;> rfl), SeqAt.eqv_refl d (SeqAt.canLay_of_shaped h)]
theorem canLay_ints : ∀ ns : List Int, PyData.canLayAll0 (ns.map PyData.int) = true ∧ PyData.depthAll (ns.map PyData.int) = 0
  | [] => by simp [PyData.canLayAll0, PyData.depthAll]
  | n :: r => by simp [PyData.canLayAll0, PyData.canLay0, PyData.depthAll, PyData.depth, canLay_ints r]
theorem shaped_il (ns : List Int) : SeqAt.shaped (.list (ns.map .int)) = true := by
  unfold SeqAt.shaped
  simp only [PyData.canLay0, PyData.depth, canLay_ints ns]
  decide
theorem shaped_it (ns : List Int) : SeqAt.shaped (.tuple (ns.map .int)) = true := by
  unfold SeqAt.shaped
  simp only [PyData.canLay0, PyData.depth, canLay_ints ns]
  decide
theorem shaped_pr (q : Int × Int) : SeqAt.shaped (prD q) = true := shaped_it [q.1, q.2]
def rowB : MS := (sRet (mFn fTup (mCons (mOfL (mLc (iRng (mCons (mCallU takeF (cUrn 0 (cCons (mC (.int 6)) cNil))) mNil)) [] [3] (gN 3) mYes (mTup (mCons (mBin dAdd (mC (.int 1)) (mCallU takeF (cUrn 0 (cCons (mVar 1) cNil)))) (mCons (mCallU takeF (cUrn 0 (cCons (mVar 2) cNil))) mNil))))) mNil)))
def rowF : FM := runD 3 4 rowB
theorem row_ok {m t : Int} {k : Nat} {u : List Int} (hm : 0 < m) (hml : m.natAbs.log2 < 9000) (ht : 0 < t) (htl : t.natAbs.log2 < 9000) (hk : k + 20 < 1000000) (hu : UOk k u) : ∃ r u', rowF [.urn, .val (.int m), .val (.int t)] (some u) = some (.val (rowD r), some u') ∧ r.length ≤ 5 ∧ (∀ q ∈ r, 0 < q.1 ∧ q.1 ≤ m ∧ 0 ≤ q.2 ∧ q.2 < t) ∧ UOk (k + 11) u' := by
  obtain ⟨n, u1, e1, h1, h2, hu1⟩ := take_ok (n := 6) (by decide) (by decide) (by omega) hu
  have hlen : (rngD 0 n.toNat).length ≤ 5 := by rw [rngD_length]; omega
  obtain ⟨r, u2, e2, l2, g2, hu2⟩ := lcGo_draw (g := gN 3) (mt := mYes) (me := mTup (mCons (mBin dAdd (mC (.int 1)) (mCallU takeF (cUrn 0 (cCons (mVar 1) cNil)))) (mCons (mCallU takeF (cUrn 0 (cCons (mVar 2) cNil))) mNil))) (sb := blkSl [some .urn, some (.val (.int m)), some (.val (.int t)), none] [3]) prD (fun q => 0 < q.1 ∧ q.1 ≤ m ∧ 0 ≤ q.2 ∧ q.2 < t) 2 999990 (rngD 0 n.toNat) (fun d hd k u hu hk => by
    obtain ⟨a, u1, e1, a1, a2, hu1⟩ := take_ok hm hml (by omega) hu
    obtain ⟨b, u2, e2, b1, b2, hu2⟩ := take_ok ht htl (by omega) hu1
    refine ⟨(1 + a, b), u2, ?_, ⟨by show 0 < 1 + a; omega, by show 1 + a ≤ m; omega, b1, b2⟩, hu2⟩
    apply st_yes2 (b := true) rfl rfl rfl
    · exact e_tup (e_cons (e_bin rfl (e_callUV (e_curn rfl (e_ccons rfl rfl)) e1) rfl) (e_cons (e_callUV (e_curn rfl (e_ccons rfl rfl)) e2) rfl)) (Nat.le_of_ble_eq_true rfl)
    · rfl) (k + 1) u1 hu1 (by omega)
  refine ⟨r, u2, ?_, by omega, g2, hu2.mono (by omega)⟩
  have e0 : iRng (mCons (mCallU takeF (cUrn 0 (cCons (mC (.int 6)) cNil))) mNil) ⟨slotsOf 4 [.urn, .val (.int m), .val (.int t)], some u⟩ = some (rngD 0 n.toNat, ⟨[some .urn, some (.val (.int m)), some (.val (.int t)), none], some u1⟩) := e_rng (e_cons (e_callUV (e_curn rfl (e_ccons rfl rfl)) e1) rfl) (by omega)
  have e3 := e_lc (fz := []) (vs := [3]) e0 e2 (by rw [List.length_map]; omega)
  exact e_run rfl (e_ret2 (e_fn (e_cons (e_ofL e3) rfl) rfl) rfl)
end DL

set_option Elab.async false
set_option linter.all false
set_option maxRecDepth 100000
set_option maxHeartbeats 4000000
namespace DL
open PySem PySem.Spec PyProof.Rows L2
/-! ### the laws' own likeness: the same data are alike -/
def sameB (n : FM) : MS := (sSeq (sIf (mTru (mIsa ["list", "tuple"] (mVar 1))) (sSeq (sIf (mOrT (mTst (mBin dNe (mIsa ["list"] (mVar 0)) (mIsa ["list"] (mVar 1)))) (mTst (mBin dNe (mIsa ["tuple"] (mVar 0)) (mIsa ["tuple"] (mVar 1))))) (sRet (mC (.bool false))) sNil)
  (sRet (mAndV (mBin dEq (mLenN 0) (mLenN 1)) (mFn fAll (mCons (mOfL (mLc (iZip2 (mCons (mVar 0) (mCons (mVar 1) mNil))) [] [2, 3] (gT 2 (gsCons (gN 2) (gsCons (gN 3) gsNil))) mYes (mCall n (mCons (mVar 2) (mCons (mVar 3) mNil))))) mNil))))) sNil)
  (sSeq (sIf (mOrT (mTst (mBin dIs (mVar 1) (mC .none))) (mTru (mIsa ["bool", "str"] (mVar 1)))) (sRet (mAndV (mBin dEq (mVar 0) (mVar 1)) (mAndV (mBin dEq (mIsa ["bool"] (mVar 0)) (mIsa ["bool"] (mVar 1))) (mBin dEq (mBin dIs (mVar 0) (mC .none)) (mBin dIs (mVar 1) (mC .none)))))) sNil)
  (sRet (mAndV (mIsa ["int"] (mVar 0)) (mAndV (mNotV (mIsa ["bool"] (mVar 0))) (mBin dEq (mVar 0) (mVar 1)))))))
def sameF : Nat → FM
  | 0 => fun _ _ => none
  | n + 1 => runD 2 4 (sameB (sameF n))
def SOk : Nat → Dt → Prop
  | 0, _ => False
  | n + 1, .list xs => xs.length ≤ 100000 ∧ ∀ x ∈ xs, SOk n x
  | n + 1, .tuple xs => xs.length ≤ 100000 ∧ ∀ x ∈ xs, SOk n x
  | _ + 1, .dict _ => False
  | _ + 1, .str x => SeqAt.shaped (.str x) = true
  | _ + 1, _ => True
theorem zip_self : ∀ xs : List Dt, zipD xs xs = xs.map fun x => PyData.tuple [x, x]
  | [] => rfl
  | x :: xs => by
    show PyData.tuple [x, x] :: zipD xs xs = _
    rw [zip_self xs] <;> rfl
theorem len_eqD (n : Nat) : dEq (.int (n : Int)) (.int (n : Int)) = some (.bool true) := eq_self rfl
theorem same_all {F : FM} {d : Dt} {xs : List Dt} (hz : iZip2 (mCons (mVar 0) (mCons (mVar 1) mNil)) ⟨slotsOf 4 [.val d, .val d], none⟩ = some (zipD xs xs, ⟨slotsOf 4 [.val d, .val d], none⟩)) (hl : xs.length ≤ 100000) (h : ∀ x ∈ xs, F [.val x, .val x] none = some (.val (.bool true), none)) :
    mFn fAll (mCons (mOfL (mLc (iZip2 (mCons (mVar 0) (mCons (mVar 1) mNil))) [] [2, 3] (gT 2 (gsCons (gN 2) (gsCons (gN 3) gsNil))) mYes (mCall F (mCons (mVar 2) (mCons (mVar 3) mNil))))) mNil) ⟨slotsOf 4 [.val d, .val d], none⟩ = some (.bool true, ⟨slotsOf 4 [.val d, .val d], none⟩) := by
  rw [zip_self] at hz
  have e1 := e_lcm (fz := []) (vs := [2, 3]) (g := gT 2 (gsCons (gN 2) (gsCons (gN 3) gsNil))) (mt := mYes) (me := mCall F (mCons (mVar 2) (mCons (mVar 3) mNil))) (p := fun _ => true) (f := fun _ => PyData.bool true) hz (by
    intro x hx
    exact st_yes2 (b := true) rfl rfl rfl (e_callV (e_cons rfl (e_cons rfl rfl)) (h x hx)) rfl) hl
  refine e_fn (e_cons (e_ofL e1) rfl) ?_
  rw [filt_true, List.map_const']
  show (boolsD _).map _ = _
  rw [bools_true]
  show some (PyData.bool ((List.replicate xs.length true).all id)) = _
  have h1 : (List.replicate xs.length true).all id = true := by
    rw [List.all_eq_true]
    intro x hx
    exact List.eq_of_mem_replicate hx
  rw [h1]
theorem same_ok : ∀ (n : Nat) (d : Dt), SOk n d → sameF n [.val d, .val d] none = some (.val (.bool true), none)
  | n + 1, .int i, _ => e_run rfl (e_seq (e_sifF (b := false) rfl rfl rfl) (e_seq (e_sifF (b := false) rfl rfl rfl) (e_ret2 (e_andVT (b := true) rfl rfl rfl (e_andVT (b := true) rfl rfl rfl (e_bin rfl rfl (eq_self rfl)))) rfl)))
  | n + 1, .none, _ => rfl
  | n + 1, .bool b, _ => by cases b <;> rfl
  | n + 1, .str x, h => e_run rfl (e_seq (e_sifF (b := false) rfl rfl rfl) (e_seqR (e_sifT (b := true) rfl rfl (e_ret2 (e_andVT (b := true) (e_bin rfl rfl (eq_self h)) rfl rfl (e_andVT (b := true) rfl rfl rfl rfl)) rfl))))
  | n + 1, .list xs, h => e_run rfl (e_seqR (e_sifT (b := true) rfl rfl (e_seq (e_sifF (b := false) rfl rfl rfl) (e_ret2 (e_andVT (b := true) (e_bin (e_lenN rfl rfl) (e_lenN rfl rfl) (len_eqD _)) rfl rfl (same_all rfl h.1 fun x hx => same_ok n x (h.2 x hx))) rfl))))
  | n + 1, .tuple xs, h => e_run rfl (e_seqR (e_sifT (b := true) rfl rfl (e_seq (e_sifF (b := false) rfl rfl rfl) (e_ret2 (e_andVT (b := true) (e_bin (e_lenN rfl rfl) (e_lenN rfl rfl) (len_eqD _)) rfl rfl (same_all rfl h.1 fun x hx => same_ok n x (h.2 x hx))) rfl))))
end DL

set_option Elab.async false
set_option linter.all false
set_option maxRecDepth 100000
set_option maxHeartbeats 4000000
namespace DL
open PySem PySem.Spec PyProof.Rows L2
/-! ### blocks of a row: fords above the water, one behind another -/
def sg (w : Int) : Option Int → Rw → List Int
  | none, [] => []
  | some a, [] => [a]
  | none, (m, h) :: r => if w < h then sg w (some m) r else sg w none r
  | some a, (m, h) :: r => if w < h then sg w (some (a + m)) r else a :: sg w none r
theorem sg_lots {w : Int} : ∀ (r : Rw) (f : Int), (lotsG w none f r).map (fun q => q.2 - q.1) = sg w none r ∧ ∀ s, (lotsG w (some s) f r).map (fun q => q.2 - q.1) = sg w (some (f - s)) r
  | [], f => ⟨rfl, fun s => rfl⟩
  | (m, h) :: r, f => by
    obtain ⟨h1, h2⟩ := sg_lots (w := w) r (f + m)
    refine ⟨?_, fun s => ?_⟩
    · show (if w < h then _ else _ : List (Int × Int)).map _ = (if w < h then _ else _)
      split
      · rw [h2 f, show f + m - f = m by omega]
      · exact h1
    · show (if w < h then _ else _ : List (Int × Int)).map _ = (if w < h then _ else _)
      split
      · rw [h2 s, show f + m - s = f - s + m by omega]
      · rw [List.map_cons, h1]
theorem sizes_sg (r : Rw) (w : Int) : sizes r w = (sg w none r).map (· + 1) := by
  unfold sizes lots
  rw [← (sg_lots r 0).1, List.map_map] <;> rfl
theorem joined_sg (r : Rw) (w : Int) : joined r w = ((sg w none r).map cc).sum := by
  unfold joined
  rw [sizes_sg, List.map_map] <;> rfl
/-- the block at the row's head, and what is behind it -/
def hdB (w : Int) : Rw → Int
  | [] => 0
  | (m, h) :: r => if w < h then m + hdB w r else 0
def fh (w : Int) : Rw → Bool
  | [] => false
  | (_, h) :: _ => decide (w < h)
def tlB (w : Int) : Rw → List Int
  | [] => []
  | (_, h) :: r => if w < h then tlB w r else sg w none r
theorem sg_some {w : Int} : ∀ (r : Rw) (a : Int), sg w (some a) r = (a + hdB w r) :: tlB w r
  | [], a => by
    show [a] = [a + 0]
    rw [Int.add_zero]
  | (m, h) :: r, a => by
    show (if w < h then _ else _) = (a + (if w < h then _ else _)) :: (if w < h then _ else _)
    split
    · rw [sg_some r, Int.add_assoc]
    · rw [Int.add_zero]
theorem sg_none {w : Int} : ∀ (r : Rw), sg w none r = if fh w r then hdB w r :: tlB w r else tlB w r
  | [] => rfl
  | (m, h) :: r => by
    show (if w < h then sg w (some m) r else sg w none r) = if decide (w < h) then (if w < h then _ else _) :: (if w < h then _ else _) else (if w < h then _ else _)
    by_cases c : w < h
    · simp only [c, if_true, decide_true]
      exact sg_some r m
    · simp only [c, if_false, decide_false, Bool.false_eq_true]
theorem fh_hd {w : Int} : ∀ {r : Rw}, fh w r = false → hdB w r = 0
  | [], _ => rfl
  | (m, h) :: r, e => if_neg (of_decide_eq_false e)
/-- what is closed, what is open at the row's end -/
def clB (w : Int) : Option Int → Rw → List Int
  | _, [] => []
  | none, (m, h) :: r => if w < h then clB w (some m) r else clB w none r
  | some a, (m, h) :: r => if w < h then clB w (some (a + m)) r else a :: clB w none r
def opB (w : Int) : Option Int → Rw → Option Int
  | o, [] => o
  | none, (m, h) :: r => if w < h then opB w (some m) r else opB w none r
  | some a, (m, h) :: r => if w < h then opB w (some (a + m)) r else opB w none r
theorem sg_app {w : Int} : ∀ (r s : Rw) (o : Option Int), sg w o (r ++ s) = clB w o r ++ sg w (opB w o r) s
  | [], s, o => by cases o <;> rfl
  | (m, h) :: r, s, none => by
    show (if w < h then sg w (some m) (r ++ s) else sg w none (r ++ s)) = (if w < h then _ else _) ++ sg w (if w < h then _ else _) s
    split
    · exact sg_app r s _
    · exact sg_app r s _
  | (m, h) :: r, s, some a => by
    show (if w < h then sg w (some (a + m)) (r ++ s) else a :: sg w none (r ++ s)) = (if w < h then _ else _) ++ sg w (if w < h then _ else _) s
    split
    · exact sg_app r s _
    · rw [sg_app r s none, List.cons_append]
theorem sg_end {w : Int} (r : Rw) : sg w none r = clB w none r ++ (opB w none r).toList := by
  have h := sg_app (w := w) r [] none
  rw [List.append_nil] at h
  rw [h]
  cases opB w none r <;> rfl
theorem cl_app1 {w : Int} : ∀ (r : Rw) (m h : Int) (o : Option Int), clB w o (r ++ [(m, h)]) = if w < h then clB w o r else clB w o r ++ (opB w o r).toList
  | [], m, h, none => by
    show (if w < h then [] else []) = if w < h then [] else [] ++ []
    split <;> rfl
  | [], m, h, some a => by
    show (if w < h then [] else [a]) = if w < h then [] else [] ++ [a]
    split <;> rfl
  | (m', h') :: r, m, h, none => by
    show (if w < h' then clB w (some m') (r ++ [(m, h)]) else clB w none (r ++ [(m, h)])) = if w < h then (if w < h' then _ else _) else (if w < h' then _ else _) ++ Option.toList (if w < h' then _ else _)
    split
    · exact cl_app1 r m h _
    · exact cl_app1 r m h _
  | (m', h') :: r, m, h, some a => by
    show (if w < h' then clB w (some (a + m')) (r ++ [(m, h)]) else a :: clB w none (r ++ [(m, h)])) = if w < h then (if w < h' then _ else _) else (if w < h' then _ else _) ++ Option.toList (if w < h' then _ else _)
    split
    · exact cl_app1 r m h _
    · rw [cl_app1 r m h none]
      split
      · rfl
      · rfl
theorem op_app1 {w : Int} : ∀ (r : Rw) (m h : Int) (o : Option Int), opB w o (r ++ [(m, h)]) = if w < h then some ((opB w o r).getD 0 + m) else none
  | [], m, h, none => by
    show (if w < h then some m else none) = if w < h then some (0 + m) else none
    rw [Int.zero_add]
  | [], m, h, some a => rfl
  | (m', h') :: r, m, h, none => by
    show (if w < h' then opB w (some m') (r ++ [(m, h)]) else opB w none (r ++ [(m, h)])) = if w < h then some ((if w < h' then _ else _ : Option Int).getD 0 + m) else none
    split
    · exact op_app1 r m h _
    · exact op_app1 r m h _
  | (m', h') :: r, m, h, some a => by
    show (if w < h' then opB w (some (a + m')) (r ++ [(m, h)]) else opB w none (r ++ [(m, h)])) = if w < h then some ((if w < h' then _ else _ : Option Int).getD 0 + m) else none
    split
    · exact op_app1 r m h _
    · exact op_app1 r m h _
theorem rev_parts {w : Int} : ∀ (r : Rw), clB w none r.reverse = (tlB w r).reverse ∧ opB w none r.reverse = if fh w r then some (hdB w r) else none
  | [] => ⟨rfl, rfl⟩
  | (m, h) :: r => by
    obtain ⟨h1, h2⟩ := rev_parts (w := w) r
    rw [List.reverse_cons, cl_app1, op_app1, h1, h2]
    show (if w < h then _ else _) = (if w < h then tlB w r else sg w none r).reverse ∧ _ = if decide (w < h) then some (if w < h then _ else _) else none
    by_cases c : w < h
    · simp only [c, if_true, decide_true]
      refine ⟨trivial, ?_⟩
      cases e : fh w r with
      | true => simp [Int.add_comm]
      | false => simp [fh_hd e]
    · simp only [c, if_false, decide_false, Bool.false_eq_true]
      refine ⟨?_, trivial⟩
      rw [sg_none]
      cases fh w r with
      | true => simp
      | false => simp
theorem sg_rev (w : Int) (r : Rw) : sg w none r.reverse = (sg w none r).reverse := by
  obtain ⟨h1, h2⟩ := rev_parts (w := w) r
  rw [sg_end, h1, h2, sg_none]
  cases fh w r with
  | true => simp
  | false => simp
theorem sum_rev (l : List Int) : l.reverse.sum = l.sum := by
  induction l with
  | nil => rfl
  | cons x l ih => rw [List.reverse_cons, List.sum_append, ih, List.sum_cons, List.sum_cons, List.sum_nil]; omega
theorem joined_rev (r : Rw) (w : Int) : joined r.reverse w = joined r w := by
  rw [joined_sg, joined_sg, sg_rev, List.map_reverse, sum_rev]
theorem maxI_perm {x : Int} {l l' : List Int} (h : ∀ z, z ∈ l ↔ z ∈ l') : maxI (x :: l) = maxI (x :: l') := by
  have mem : maxI (x :: l) ∈ x :: l := by
    rcases foldl_max_mem l x with h | h
    · show l.foldl max x ∈ _
      rw [h]; exact List.mem_cons_self
    · exact List.mem_cons_of_mem _ h
  refine maxI_eq (ns := x :: l') ?_ fun y hy => ?_
  · rcases List.mem_cons.mp mem with h1 | h1
    · rw [h1]; exact List.mem_cons_self
    · exact List.mem_cons_of_mem _ ((h _).mp h1)
  · have := foldl_max_ge l x
    rcases List.mem_cons.mp hy with rfl | hy
    · exact this.1
    · exact this.2 y ((h y).mpr hy)
theorem great_rev (r : Rw) (w : Int) : maxI (1 :: sizes r.reverse w) = maxI (1 :: sizes r w) := by
  rw [sizes_sg, sizes_sg, sg_rev]
  refine maxI_perm fun z => ?_
  rw [List.map_reverse, List.mem_reverse]
theorem lotsAt_rev (r : Rw) (w : Int) : lotsAt r.reverse w = lotsAt r w := by
  unfold lotsAt
  rw [List.filter_reverse, List.map_reverse, sum_rev]
/-! ### one row behind another one, a ford between -/
section
variable {a b : Rw} {h w : Int}
abbrev jnR (a : Rw) (h : Int) (b : Rw) : Rw := a ++ (1, h) :: b
theorem sumM_app (a b : Rw) : sumM (a ++ b) = sumM a + sumM b := by
  unfold sumM
  rw [List.map_append, List.sum_append]
theorem isl_app : isl (jnR a h b) = isl a + isl b := by
  rw [isl_eq, isl_eq, isl_eq, sumM_app, sumM_cons]
  omega
theorem pos_app (pa : Pos a) (pb : Pos b) : Pos (jnR a h b) := fun q hq => by
  rcases List.mem_append.mp hq with h1 | h1
  · exact pa q h1
  · rcases List.mem_cons.mp h1 with rfl | h1
    · exact Int.one_pos
    · exact pb q h1
theorem tops_app : tops (jnR a h b) = setI (tops a ++ tops b ++ [h]) := by
  refine asc_unique (setI_asc _) (setI_asc _) fun z => ?_
  show z ∈ tops _ ↔ _
  rw [tops_mem, setI_mem, List.mem_append, List.mem_append, tops_mem, tops_mem, List.mem_singleton]
  constructor
  · rintro ⟨q, h1, h2⟩
    rcases List.mem_append.mp h1 with h1 | h1
    · exact .inl (.inl ⟨q, h1, h2⟩)
    · rcases List.mem_cons.mp h1 with rfl | h1
      · exact .inr h2.symm
      · exact .inl (.inr ⟨q, h1, h2⟩)
  · rintro ((⟨q, h1, h2⟩ | ⟨q, h1, h2⟩) | h1)
    · exact ⟨q, List.mem_append_left _ h1, h2⟩
    · exact ⟨q, List.mem_append_right _ (List.mem_cons_of_mem _ h1), h2⟩
    · exact ⟨(1, h), List.mem_append_right _ List.mem_cons_self, h1.symm⟩
theorem lotsAt_app : lotsAt (jnR a h b) w = lotsAt a w + lotsAt b w - (if w < h then 1 else 0) := by
  unfold lotsAt
  rw [List.filter_append, List.map_append, List.sum_append]
  by_cases c : w < h
  · rw [List.filter_cons_of_neg (by simp; omega), if_pos c]
    omega
  · rw [List.filter_cons_of_pos (by simp; omega), if_neg c, List.map_cons, List.sum_cons]
    show 1 + (_ + (1 + _)) = _
    omega
theorem cc_join (x y : Int) : cc (x + 1 + y) = cc x + cc y + (x + 1) * (y + 1) := by
  rw [cc_eq, cc_eq, cc_eq]
  have h1 : (x + 1 + y) * (x + 1 + y) + (x + 1 + y) = (x * x + x) + (y * y + y) + 2 * ((x + 1) * (y + 1)) := by
    simp only [Int.add_mul, Int.mul_add, Int.one_mul, Int.mul_one, Int.mul_comm y x]
    omega
  have h2 : ∀ z : Int, (z * z + z) % 2 = 0 := fun z => by
    have : z * z + z = z * (z + 1) := by rw [Int.mul_add, Int.mul_one]
    rw [this, Int.mul_emod]
    rcases Int.emod_two_eq z with h | h
    · rw [h, Int.zero_mul] <;> rfl
    · have h3 : (z + 1) % 2 = 0 := by omega
      rw [h3, Int.mul_zero] <;> rfl
  have h3 := h2 x
  have h4 := h2 y
  rw [h1]
  generalize x * x + x = p at *
  generalize y * y + y = q at *
  generalize (x + 1) * (y + 1) = t at *
  omega
theorem joined_app : joined (jnR a h b) w = joined a w + joined b w + (if w < h then ((opB w none a).getD 0 + 1) * (hdB w b + 1) else 0) := by
  have eb : ((sg w none b).map cc).sum = cc (hdB w b) + ((tlB w b).map cc).sum := by
    rw [sg_none]
    cases e : fh w b with
    | true => simp
    | false => simp [fh_hd e, cc_zero]
  have ea : ((sg w none a).map cc).sum = ((clB w none a).map cc).sum + cc ((opB w none a).getD 0) := by
    rw [sg_end, List.map_append, List.sum_append]
    cases opB w none a <;> simp [cc_zero]
  rw [joined_sg, joined_sg, joined_sg, sg_app, List.map_append, List.sum_append, ea, eb]
  have e2 : ((sg w (opB w none a) ((1, h) :: b)).map cc).sum = if w < h then cc ((opB w none a).getD 0 + 1 + hdB w b) + ((tlB w b).map cc).sum else cc ((opB w none a).getD 0) + ((sg w none b).map cc).sum := by
    cases opB w none a with
    | none =>
      show ((if w < h then sg w (some 1) b else sg w none b).map cc).sum = _
      split
      · rw [sg_some, List.map_cons, List.sum_cons]; rfl
      · show _ = cc 0 + _
        rw [cc_zero, Int.zero_add]
    | some s =>
      show ((if w < h then sg w (some (s + 1)) b else s :: sg w none b).map cc).sum = _
      split
      · rw [sg_some, List.map_cons, List.sum_cons]; rfl
      · rw [List.map_cons, List.sum_cons]; rfl
  rw [e2]
  split
  · rw [cc_join]
    omega
  · rw [eb]
    omega
end
end DL

set_option Elab.async false
set_option linter.all false
set_option maxRecDepth 100000
set_option maxHeartbeats 4000000
namespace DL
open PySem PySem.Spec PyProof.Rows L2
theorem runs_cat : ∀ (a b : Rw) (f : Int), runsI f (a ++ b) = runsI f a ++ runsI (f + sumM a) b
  | [], b, f => by
    show runsI f b = [] ++ runsI (f + 0) b
    rw [Int.add_zero, List.nil_append]
  | (m, h) :: a, b, f => by
    show (f, f + m, h) :: runsI (f + m) (a ++ b) = (f, f + m, h) :: runsI (f + m) a ++ runsI (f + sumM ((m, h) :: a)) b
    rw [runs_cat a b, sumM_cons, Int.add_assoc, List.cons_append]
def shT (c : Int) (t : Int × Int × Int) : Int × Int × Int := (t.1 + c, t.2.1 + c, t.2.2)
theorem runs_sh (c : Int) : ∀ (r : Rw) (f : Int), runsI (f + c) r = (runsI f r).map (shT c)
  | [], _ => rfl
  | (m, h) :: r, f => by
    show (f + c, f + c + m, h) :: runsI (f + c + m) r = (f + c, f + m + c, h) :: (runsI (f + m) r).map (shT c)
    rw [show f + c + m = f + m + c by omega, runs_sh c r]
theorem runs_join (a : Rw) (h : Int) (b : Rw) : runsI 0 (jnR a h b) = runsI 0 a ++ (sumM a, isl a, h) :: (runsI 0 b).map (shT (isl a)) := by
  rw [runs_cat]
  show _ ++ (0 + sumM a, 0 + sumM a + 1, h) :: runsI (0 + sumM a + 1) b = _
  rw [Int.zero_add, show sumM a + 1 = isl a by rw [isl_eq]; omega, ← runs_sh, Int.zero_add]
section
variable {a b : Rw} {h w : Int} (pa : Pos a) (pb : Pos b)
include pa pb
theorem hg_across {i j : Int} (hi : 0 ≤ i ∧ i < isl a) (hj : 0 ≤ j ∧ j < isl b) : hgts (jnR a h b) i (isl a + j) = hgts a i (isl a - 1) ++ h :: hgts b 0 j := by
  unfold hgts
  rw [runs_join, List.filter_append, List.map_append]
  have e := isl_eq a
  congr 1
  · congr 1
    refine List.filter_congr fun t ht => ?_
    have := runs_in pa ht
    rw [Bool.eq_iff_iff, ovl_iff, ovl_iff]
    omega
  · rw [List.filter_cons_of_pos (ovl_iff.mpr ⟨by omega, by show i < isl a; omega, by show sumM a < _; omega, by show sumM a < isl a; omega⟩), List.map_cons, List.filter_map, List.map_map]
    show h :: _ = h :: _
    congr 1
    have e2 : (runsI 0 b).filter (ovl i (isl a + j) ∘ shT (isl a)) = (runsI 0 b).filter (ovl 0 j) := by
      refine List.filter_congr fun t ht => ?_
      have := runs_in pb ht
      rw [Bool.eq_iff_iff, ovl_iff]
      show ovl i (isl a + j) (t.1 + isl a, t.2.1 + isl a, t.2.2) = true ↔ _
      rw [ovl_iff]
      show _ ∧ i < t.2.1 + isl a ∧ t.1 + isl a < isl a + j ∧ t.1 + isl a < t.2.1 + isl a ↔ _
      omega
    rw [e2]
    exact List.map_congr_left fun t _ => rfl
theorem hg_inside {i j : Int} (hi : 0 ≤ i) (hj : j < isl a) : hgts (jnR a h b) i j = hgts a i j := by
  unfold hgts
  rw [runs_join, List.filter_append, List.map_append]
  have e := isl_eq a
  have e1 : ((sumM a, isl a, h) :: (runsI 0 b).map (shT (isl a))).filter (ovl i j) = [] := by
    refine List.filter_eq_nil_iff.mpr fun t ht => ?_
    rw [ovl_iff]
    rcases List.mem_cons.mp ht with rfl | ht
    · show ¬ (_ ∧ i < isl a ∧ sumM a < j ∧ _)
      omega
    · obtain ⟨t', h1, rfl⟩ := List.mem_map.mp ht
      have := runs_in pb h1
      show ¬ (_ ∧ i < t'.2.1 + isl a ∧ t'.1 + isl a < j ∧ _)
      omega
  rw [e1, List.map_nil, List.append_nil]
theorem lotAt_join (hh : Int) : lotAt (jnR a h b) (isl a) w = (if w < h then (lotAt a (isl a - 1) w).1 else isl a, isl a + (lotAt b 0 w).2) := by
  have e := isl_eq a
  have e' := isl_eq b
  have sa := sumM_nonneg pa
  have sb := sumM_nonneg pb
  have pw := pos_app (h := h) pa pb
  have ew := isl_app (a := a) (b := b) (h := h)
  have hN : 0 ≤ isl a ∧ isl a < isl (jnR a h b) := by omega
  have hin := lotAt_in (w := w) pw (isl a)
  have hbd := lotAt_bd (w := w) pw hN.1 hN.2
  have far := fun j (hj : 0 ≤ j ∧ j < isl (jnR a h b)) => lotAt_far (w := w) pw hN hj
  have ain := lotAt_in (w := w) pa (isl a - 1)
  have abd := lotAt_bd (w := w) pa (i := isl a - 1) (by omega) (by omega)
  have bin := lotAt_in (w := w) pb 0
  have bbd := lotAt_bd (w := w) pb (i := 0) (by omega) (by omega)
  have up : ∀ j, 0 ≤ j → j < isl b → (((lotAt (jnR a h b) (isl a) w).1 ≤ isl a + j ∧ isl a + j ≤ (lotAt (jnR a h b) (isl a) w).2) ↔ j ≤ (lotAt b 0 w).2) := by
    intro j h0 h1
    rw [far _ (by omega)]
    have fb := lotAt_far (w := w) pb (i := 0) (j := j) ⟨by omega, by omega⟩ ⟨h0, h1⟩
    have m1 : mn (isl a) (isl a + j) = isl a := by unfold mn; rw [if_neg (by omega)]
    have m2 : mx (isl a) (isl a + j) = isl a + j := by
      unfold mx
      split <;> omega
    have m3 : mn 0 j = 0 := by unfold mn; rw [if_neg (by omega)]
    have m4 : mx 0 j = j := by
      unfold mx
      split <;> omega
    rw [m3, m4] at fb
    rw [m1, m2, runs_join]
    constructor
    · intro H
      refine (fb.mpr fun t ht ho => ?_).2
      have := H (shT (isl a) t) (List.mem_append_right _ (List.mem_cons_of_mem _ (List.mem_map_of_mem ht)))
      refine this (ovl_iff.mpr ?_)
      rw [ovl_iff] at ho
      show _ ∧ isl a < t.2.1 + isl a ∧ t.1 + isl a < isl a + j ∧ t.1 + isl a < t.2.1 + isl a
      omega
    · intro H t ht ho
      rw [ovl_iff] at ho
      rcases List.mem_append.mp ht with ht | ht
      · have := runs_in pa ht
        omega
      · rcases List.mem_cons.mp ht with rfl | ht
        · have : isl a < isl a := ho.2.1
          omega
        · obtain ⟨t', h3, rfl⟩ := List.mem_map.mp ht
          have ho2 : isl a < t'.2.1 + isl a ∧ t'.1 + isl a < isl a + j ∧ t'.1 + isl a < t'.2.1 + isl a := ho.2
          exact fb.mp ⟨by omega, H⟩ t' h3 (ovl_iff.mpr (by omega))
  have down : ∀ j, 0 ≤ j → j < isl a → (((lotAt (jnR a h b) (isl a) w).1 ≤ j ∧ j ≤ (lotAt (jnR a h b) (isl a) w).2) ↔ w < h ∧ (lotAt a (isl a - 1) w).1 ≤ j) := by
    intro j h0 h1
    rw [far _ (by omega)]
    have fa := lotAt_far (w := w) pa (i := isl a - 1) (j := j) ⟨by omega, by omega⟩ ⟨h0, h1⟩
    have m1 : mn (isl a) j = j := by unfold mn; rw [if_pos (by omega)]
    have m2 : mx (isl a) j = isl a := by
      unfold mx
      split <;> omega
    have m3 : mn (isl a - 1) j = j := by
      unfold mn
      split <;> omega
    have m4 : mx (isl a - 1) j = isl a - 1 := by
      unfold mx
      split <;> omega
    rw [m3, m4] at fa
    rw [m1, m2, runs_join]
    constructor
    · intro H
      refine ⟨?_, (fa.mpr fun t ht ho => ?_).1⟩
      · exact H (sumM a, isl a, h) (List.mem_append_right _ List.mem_cons_self) (ovl_iff.mpr ⟨by omega, by show j < isl a; omega, by show sumM a < isl a; omega, by show sumM a < isl a; omega⟩)
      · rw [ovl_iff] at ho
        exact H t (List.mem_append_left _ ht) (ovl_iff.mpr (by omega))
    · rintro ⟨H1, H2⟩ t ht ho
      rw [ovl_iff] at ho
      rcases List.mem_append.mp ht with ht | ht
      · have := runs_in pa ht
        exact fa.mp ⟨H2, by omega⟩ t ht (ovl_iff.mpr (by omega))
      · rcases List.mem_cons.mp ht with rfl | ht
        · exact H1
        · obtain ⟨t', h3, rfl⟩ := List.mem_map.mp ht
          have := runs_in pb h3
          have ho2 : t'.1 + isl a < isl a := ho.2.2.1
          omega
  have r1 := (up ((lotAt (jnR a h b) (isl a) w).2 - isl a) (by omega) (by omega)).mp ⟨by omega, by omega⟩
  have r2 := ((up (lotAt b 0 w).2 (by omega) (by omega)).mpr (Int.le_refl _)).2
  refine Prod.ext ?_ (by show _ = isl a + (lotAt b 0 w).2; omega)
  show (lotAt (jnR a h b) (isl a) w).1 = if w < h then (lotAt a (isl a - 1) w).1 else isl a
  by_cases c : w < h
  · rw [if_pos c]
    have l1 := ((down (lotAt a (isl a - 1) w).1 (by omega) (by omega)).mpr ⟨c, Int.le_refl _⟩).1
    have l2 := ((down (lotAt (jnR a h b) (isl a) w).1 (by omega) (by omega)).mp ⟨Int.le_refl _, by omega⟩).2
    omega
  · rw [if_neg c]
    by_cases d : (lotAt (jnR a h b) (isl a) w).1 < isl a
    · exact absurd ((down _ (by omega) d).mp ⟨Int.le_refl _, by omega⟩).1 c
    · omega
end
/-! the lots at a row's ends -/
theorem lots_end {w : Int} : ∀ (r : Rw) (o : Option Int) (f : Int), Pos r → (∀ x, opB w (o.map (f - ·)) r = some x → (f + sumM r - x, f + sumM r) ∈ lotsG w o f r) ∧ (opB w (o.map (f - ·)) r = none → ∀ q ∈ lotsG w o f r, q.2 < f + sumM r)
  | [], none, f, _ => ⟨fun x e => (nomatch e), fun _ q hq => nomatch hq⟩
  | [], some s, f, _ => by
    refine ⟨fun x e => ?_, fun e => (nomatch e)⟩
    have e1 : f - s = x := Option.some.inj e
    have e2 : f + sumM [] = f := Int.add_zero f
    rw [e2, show f - x = s by omega]
    exact List.mem_cons_self
  | (m, h) :: r, none, f, p => by
    have hm := p.head
    have hs := sumM_nonneg p.tail
    rw [sumM_cons, ← Int.add_assoc]
    show (∀ x, (if w < h then opB w (some m) r else opB w none r) = some x → _ ∈ (if w < h then lotsG w (some f) (f + m) r else lotsG w none (f + m) r)) ∧ ((if w < h then opB w (some m) r else opB w none r) = none → ∀ q ∈ (if w < h then lotsG w (some f) (f + m) r else lotsG w none (f + m) r), _)
    split
    · have := lots_end (w := w) r (some f) (f + m) p.tail
      simp only [Option.map_some, show f + m - f = m by omega] at this
      exact this
    · exact lots_end (w := w) r none (f + m) p.tail
  | (m, h) :: r, some s, f, p => by
    have hm := p.head
    have hs := sumM_nonneg p.tail
    rw [sumM_cons, ← Int.add_assoc]
    show (∀ x, (if w < h then opB w (some (f - s + m)) r else opB w none r) = some x → _ ∈ (if w < h then lotsG w (some s) (f + m) r else (s, f) :: lotsG w none (f + m) r)) ∧ ((if w < h then opB w (some (f - s + m)) r else opB w none r) = none → ∀ q ∈ (if w < h then lotsG w (some s) (f + m) r else (s, f) :: lotsG w none (f + m) r), _)
    split
    · have := lots_end (w := w) r (some s) (f + m) p.tail
      simp only [Option.map_some, show f + m - s = f - s + m by omega] at this
      exact this
    · have := lots_end (w := w) r none (f + m) p.tail
      refine ⟨fun x e => List.mem_cons_of_mem _ (this.1 x e), fun e q hq => ?_⟩
      rcases List.mem_cons.mp hq with rfl | hq
      · show f < _
        omega
      · exact this.2 e q hq
theorem lots_ge {w : Int} : ∀ (r : Rw) (f : Int), Pos r → (∀ q ∈ lotsG w none f r, f ≤ q.1) ∧ (∀ s, s ≤ f → (s, f + hdB w r) ∈ lotsG w (some s) f r ∧ ∀ q ∈ lotsG w (some s) f r, s ≤ q.1)
  | [], f, _ => by
    refine ⟨fun q hq => (nomatch hq), fun s hs => ⟨?_, fun q hq => ?_⟩⟩
    · show (s, f + 0) ∈ [(s, f)]
      rw [Int.add_zero]
      exact List.mem_cons_self
    · rcases List.mem_cons.mp hq with rfl | hq
      · exact Int.le_refl _
      · cases hq
  | (m, h) :: r, f, p => by
    have hm := p.head
    obtain ⟨i1, i2⟩ := lots_ge (w := w) r (f + m) p.tail
    show (∀ q ∈ (if w < h then lotsG w (some f) (f + m) r else lotsG w none (f + m) r), _) ∧ ∀ s, s ≤ f → (s, f + (if w < h then m + hdB w r else 0)) ∈ (if w < h then lotsG w (some s) (f + m) r else (s, f) :: lotsG w none (f + m) r) ∧ ∀ q ∈ (if w < h then lotsG w (some s) (f + m) r else (s, f) :: lotsG w none (f + m) r), _
    split
    · refine ⟨(i2 f (by omega)).2, fun s hs => ?_⟩
      have := i2 s (by omega)
      rw [Int.add_assoc] at this
      exact this
    · refine ⟨fun q hq => by have := i1 q hq; omega, fun s hs => ⟨?_, fun q hq => ?_⟩⟩
      · rw [Int.add_zero]
        exact List.mem_cons_self
      · rcases List.mem_cons.mp hq with rfl | hq
        · exact Int.le_refl _
        · have := i1 q hq
          omega
theorem lotAt_end {a : Rw} {w : Int} (p : Pos a) : lotAt a (isl a - 1) w = (isl a - 1 - (opB w none a).getD 0, isl a - 1) := by
  have e : isl a - 1 = sumM a := by rw [isl_eq]; omega
  rw [e]
  have L := lots_end (w := w) a none 0 p
  rw [Int.zero_add] at L
  rcases lotAt_cases (w := w) p (sumM a) with h | h
  · cases o : opB w none a with
    | some x =>
      have l0 := lot_of p (L.1 x o)
      have := l0.lt
      exact lot_one p (i := sumM a) (lot_of p h.1) l0 h.2.1 h.2.2 (Int.le_of_lt this) (Int.le_refl _)
    | none =>
      have := L.2 o _ h.1
      omega
  · cases o : opB w none a with
    | some x =>
      have := (lot_of p (L.1 x o)).lt
      exact absurd ⟨Int.le_of_lt this, Int.le_refl _⟩ (h.2 _ (L.1 x o))
    | none =>
      rw [h.1]
      show _ = (sumM a - 0, sumM a)
      rw [Int.sub_zero]
theorem lotAt_start {b : Rw} {w : Int} (p : Pos b) : lotAt b 0 w = (0, hdB w b) := by
  cases b with
  | nil => rfl
  | cons q r =>
    obtain ⟨m, h⟩ := q
    have hm := p.head
    have G := lots_ge (w := w) r (0 + m) p.tail
    rcases lotAt_cases (w := w) p 0 with k | k
    · by_cases c : w < h
      · have hmem : (0, hdB w ((m, h) :: r)) ∈ lots ((m, h) :: r) w := by
          show (0, if w < h then m + hdB w r else 0) ∈ if w < h then lotsG w (some 0) (0 + m) r else lotsG w none (0 + m) r
          rw [if_pos c, if_pos c]
          have := (G.2 0 (by omega)).1
          rw [Int.zero_add] at this ⊢
          exact this
        have l0 := lot_of p hmem
        have := l0.lt
        exact lot_one p (i := 0) (lot_of p k.1) l0 k.2.1 k.2.2 (Int.le_refl _) (Int.le_of_lt this)
      · have : lots ((m, h) :: r) w = lotsG w none (0 + m) r := if_neg c
        rw [this] at k
        have := G.1 _ k.1
        omega
    · by_cases c : w < h
      · have hmem : (0, hdB w ((m, h) :: r)) ∈ lots ((m, h) :: r) w := by
          show (0, if w < h then m + hdB w r else 0) ∈ if w < h then lotsG w (some 0) (0 + m) r else lotsG w none (0 + m) r
          rw [if_pos c, if_pos c]
          have := (G.2 0 (by omega)).1
          rw [Int.zero_add] at this ⊢
          exact this
        have := (lot_of p hmem).lt
        exact absurd ⟨Int.le_refl _, Int.le_of_lt this⟩ (k.2 _ hmem)
      · rw [k.1]
        show _ = (0, if w < h then m + hdB w r else 0)
        rw [if_neg c]
theorem minI_mem {x : Int} {l : List Int} : minI (x :: l) ∈ x :: l := by
  rcases foldl_min_mem l x with h | h
  · show l.foldl min x ∈ _
    rw [h]; exact List.mem_cons_self
  · exact List.mem_cons_of_mem _ h
theorem minI_le {x y : Int} {l : List Int} (h : y ∈ x :: l) : minI (x :: l) ≤ y := by
  have := foldl_min_le l x
  rcases List.mem_cons.mp h with rfl | h
  · exact this.1
  · exact this.2 y h
def lowO (l : List Int) : Option Int := if 0 < l.length then some (minI l) else none
theorem low_join (h : Int) (A B : List Int) : minI (A ++ h :: B) = minI (h :: ((lowO A).toList ++ (lowO B).toList)) := by
  have ha : ∀ (A : List Int), (∀ z ∈ (lowO A).toList, z ∈ A) ∧ (∀ y ∈ A, ∃ z ∈ (lowO A).toList, z ≤ y) := by
    intro A
    cases A with
    | nil => exact ⟨fun z hz => (nomatch hz), fun y hy => (nomatch hy)⟩
    | cons x A =>
      have e : lowO (x :: A) = some (minI (x :: A)) := if_pos (Nat.succ_pos _)
      rw [e]
      refine ⟨fun z hz => ?_, fun y hy => ⟨minI (x :: A), List.mem_cons_self, minI_le hy⟩⟩
      rcases List.mem_cons.mp hz with rfl | hz
      · exact minI_mem
      · cases hz
  refine (minI_eq ?_ fun y hy => ?_).symm
  · rcases List.mem_cons.mp (minI_mem (x := h) (l := (lowO A).toList ++ (lowO B).toList)) with e | e
    · rw [e]; exact List.mem_append_right _ List.mem_cons_self
    · rcases List.mem_append.mp e with e | e
      · exact List.mem_append_left _ ((ha A).1 _ e)
      · exact List.mem_append_right _ (List.mem_cons_of_mem _ ((ha B).1 _ e))
  · rcases List.mem_append.mp hy with hy | hy
    · obtain ⟨z, h1, h2⟩ := (ha A).2 y hy
      exact Int.le_trans (minI_le (List.mem_cons_of_mem _ (List.mem_append_left _ h1))) h2
    · rcases List.mem_cons.mp hy with rfl | hy
      · exact minI_le List.mem_cons_self
      · obtain ⟨z, h1, h2⟩ := (ha B).2 y hy
        exact Int.le_trans (minI_le (List.mem_cons_of_mem _ (List.mem_append_right _ h1))) h2
section
variable {a b : Rw} {h : Int} (pa : Pos a) (pb : Pos b)
include pa pb
theorem lastH_across {i j : Int} (hi : 0 ≤ i ∧ i < isl a) (hj : 0 ≤ j ∧ j < isl b) : lastH (jnR a h b) i (isl a + j) = some (minI (h :: ((lastH a i (isl a - 1)).toList ++ (lastH b 0 j).toList))) ∧ lastH (jnR a h b) (isl a + j) i = lastH (jnR a h b) i (isl a + j) := by
  have m1 : mn i (isl a + j) = i := by unfold mn; rw [if_neg (by omega)]
  have m2 : mx i (isl a + j) = isl a + j := by unfold mx; rw [if_pos (by omega)]
  have m3 : mn (isl a + j) i = i := by unfold mn; rw [if_pos (by omega)]
  have m4 : mx (isl a + j) i = isl a + j := by unfold mx; rw [if_neg (by omega)]
  have m5 : mn i (isl a - 1) = i := by unfold mn; rw [if_neg (by omega)]
  have m6 : mx i (isl a - 1) = isl a - 1 := by
    unfold mx
    split <;> omega
  have m7 : mn 0 j = 0 := by unfold mn; rw [if_neg (by omega)]
  have m8 : mx 0 j = j := by
    unfold mx
    split <;> omega
  unfold lastH
  rw [m1, m2, m3, m4, m5, m6, m7, m8]
  refine ⟨?_, rfl⟩
  rw [hg_across pa pb hi hj, if_pos (by rw [List.length_append, List.length_cons]; omega)]
  congr 1
  exact low_join h _ _
theorem lastH_inside {i : Int} (hi : 0 ≤ i ∧ i < isl a) : lastH (jnR a h b) i (isl a - 1) = lastH a i (isl a - 1) := by
  have m5 : mn i (isl a - 1) = i := by unfold mn; rw [if_neg (by omega)]
  have m6 : mx i (isl a - 1) = isl a - 1 := by
    unfold mx
    split <;> omega
  unfold lastH
  rw [m5, m6, hg_inside pa pb hi.1 (by omega)]
end
end DL

set_option pp.maxSteps 60
set_option Elab.async false
set_option linter.all false
set_option maxRecDepth 100000
namespace DT
open PySem PySem.Spec PyProof.Rows L2 DL
def b_islands_in : MS := (sRet (mBin dAdd (mC (.int 1)) (mFn fSum (mCons (mOfL (mLc (iSeq (mVar 0)) [] [1, 2] (gT 2 (gsCons (gN 1) (gsCons (gN 2) gsNil))) mYes (mVar 1))) mNil))))
def m_islands_in : FM := runD 1 3 b_islands_in
def b_check : MS := (sSeq (sAsg (mCall (m_islands_in) (mCons (mVar 0) mNil)) (gN 2))
  (sFor (iSeq (mVar 1)) (gN 3) (sIf (mNotT (mTst (mChain dLe dLt (mC (.int 0)) (mVar 3) (mVar 2)))) sNever sNil)))
def m_check : FM := runD 2 4 b_check
def b_runs_of : MS := (sSeq (sPar [1, 2] (pL (mLst mNil) (pD (mC (.int 0)) pNil)))
  (sSeq (sFor (iSeq (mVar 0)) (gT 2 (gsCons (gN 3) (gsCons (gN 4) gsNil))) (sSeq (sApp 1 (mTup (mCons (mVar 2) (mCons (mBin dAdd (mVar 2) (mVar 3)) (mCons (mVar 4) mNil)))))
  (sAsg (mBin dAdd (mVar 2) (mVar 3)) (gN 2))))
  (sRetV 1)))
def m_runs_of : FM := runD 1 5 b_runs_of
def b_last_height : MS := (sSeq (sDrop (mCall (m_check) (mCons (mVar 0) (mCons (mTup (mCons (mVar 1) (mCons (mVar 2) mNil))) mNil))))
  (sSeq (sAsg (mTup (mCons (mFn fMin (mCons (mVar 1) (mCons (mVar 2) mNil))) (mCons (mFn fMax (mCons (mVar 1) (mCons (mVar 2) mNil))) mNil))) (gT 2 (gsCons (gN 4) (gsCons (gN 5) gsNil))))
  (sSeq (sSetL 3 (mLc (iSeq (mCall (m_runs_of) (mCons (mVar 0) mNil))) [] [6, 7, 8] (gT 3 (gsCons (gN 6) (gsCons (gN 7) (gsCons (gN 8) gsNil)))) (mTst (mBin dLt (mFn fMax (mCons (mVar 6) (mCons (mVar 4) mNil))) (mFn fMin (mCons (mVar 7) (mCons (mVar 5) mNil))))) (mVar 8)))
  (sRet (mIf (mTst (mBin dGt (mLenN 3) (mC (.int 0)))) (mFn fMin (mCons (mVar 3) mNil)) (mC .none))))))
def m_last_height : FM := runD 3 9 b_last_height
def b_lots_of : MS := (sSeq (sSetL 2 (mLst mNil))
  (sSeq (sFor (iSeq (mCall (m_runs_of) (mCons (mVar 0) mNil))) (gT 3 (gsCons (gN 3) (gsCons (gN 4) (gsCons (gN 5) gsNil)))) (sIf (mTst (mBin dGt (mVar 5) (mVar 1))) (sIf (mAndT (mTst (mBin dGt (mLenN 2) (mC (.int 0)))) (mTst (mBin dEq (mBin dIx (mIxN 2 (mUn dNeg (mC (.int 1)))) (mC (.int 1))) (mVar 3)))) (sSetIx 2 (mTup (mCons (mBin dIx (mIxN 2 (mUn dNeg (mC (.int 1)))) (mC (.int 0))) (mCons (mVar 4) mNil))) (mUn dNeg (mC (.int 1)))) (sApp 2 (mTup (mCons (mVar 3) (mCons (mVar 4) mNil))))) sNil))
  (sRetV 2)))
def m_lots_of : FM := runD 2 6 b_lots_of
def b_lots_at : MS := (sRet (mBin dAdd (mC (.int 1)) (mFn fSum (mCons (mOfL (mLc (iSeq (mVar 0)) [] [2, 3] (gT 2 (gsCons (gN 2) (gsCons (gN 3) gsNil))) (mTst (mBin dLe (mVar 3) (mVar 1))) (mVar 2))) mNil))))
def m_lots_at : FM := runD 2 4 b_lots_at
def b_lot_at : MS := (sSeq (sDrop (mCall (m_check) (mCons (mVar 0) (mCons (mTup (mCons (mVar 1) mNil)) mNil))))
  (sSeq (sFor (iSeq (mCall (m_lots_of) (mCons (mVar 0) (mCons (mVar 2) mNil)))) (gT 2 (gsCons (gN 3) (gsCons (gN 4) gsNil))) (sIf (mTst (mChain dLe dLe (mVar 3) (mVar 1) (mVar 4))) (sRet (mTup (mCons (mVar 3) (mCons (mVar 4) mNil)))) sNil))
  (sRet (mTup (mCons (mVar 1) (mCons (mVar 1) mNil))))))
def m_lot_at : FM := runD 3 5 b_lot_at
def b_greatest_lot : MS := (sRet (mFn fMax (mCons (mOfL (mLst (mCons (mC (.int 1)) (mStar (mOfL (mLc (iSeq (mCall (m_lots_of) (mCons (mVar 0) (mCons (mVar 1) mNil)))) [] [2, 3] (gT 2 (gsCons (gN 2) (gsCons (gN 3) gsNil))) mYes (mBin dAdd (mBin dSub (mVar 3) (mVar 2)) (mC (.int 1))))) mNil)))) mNil)))
def m_greatest_lot : FM := runD 2 4 b_greatest_lot
def b_how_many_joined : MS := (sSeq (sSetL 2 (mLc (iSeq (mCall (m_lots_of) (mCons (mVar 0) (mCons (mVar 1) mNil)))) [] [3, 4] (gT 2 (gsCons (gN 3) (gsCons (gN 4) gsNil))) mYes (mBin dAdd (mBin dSub (mVar 4) (mVar 3)) (mC (.int 1)))))
  (sRet (mFn fSum (mCons (mOfL (mLc (iSeq (mVar 2)) [] [5] (gN 5) mYes (mBin dFdiv (mBin dMul (mVar 5) (mBin dSub (mVar 5) (mC (.int 1)))) (mC (.int 2))))) mNil))))
def m_how_many_joined : FM := runD 2 6 b_how_many_joined
def b_waters_of : MS := (sRet (mFn fTup (mCons (mOfL (mSortSet (mOfL (mLc (iSeq (mVar 0)) [] [1, 2] (gT 2 (gsCons (gN 1) (gsCons (gN 2) gsNil))) mYes (mVar 2))))) mNil)))
def m_waters_of : FM := runD 1 3 b_waters_of
def b__law_box : MS := (sSeq (sAsg (mIf (mTst (mBin dLt (mVar 1) (mLenN 0))) (mIxN 0 (mVar 1)) (mC (.int 0))) (gN 2))
  (sRetL (mLst (mCons (mBin dMul (mFn fAbs (mCons (mVar 2) mNil)) (mFn fInt (mCons (mBin dGe (mFn fAbs (mCons (mVar 2) mNil)) (mBin dPow (mC (.int 10)) (mC (.int 18)))) mNil))) (mCons (mBin dAdd (mBin dAdd (mBin dMod (mFn fInt (mCons (mVar 2) mNil)) (mC (.int 2305843009213693951))) (mBin dMul (mC (.int 39373)) (mVar 1))) (mC (.int 142398))) (mCons (mC (.int 0)) mNil))))))
def m__law_box : FM := runD 2 3 b__law_box
def b__law_take : MS := (sSeq (sIf (mTst (mBin dGt (mIxN 0 (mC (.int 0))) (mC (.int 0)))) (sSeq (sAsg (mBin dMod (mFn fInt (mCons (mIxN 0 (mC (.int 0))) mNil)) (mVar 1)) (gN 5))
  (sSeq (sSetIx 0 (mBin dFdiv (mIxN 0 (mC (.int 0))) (mVar 1)) (mC (.int 0)))
  (sRetV 5))) sNil)
  (sSeq (sSetIx 0 (mBin dAdd (mIxN 0 (mC (.int 2))) (mC (.int 1))) (mC (.int 2)))
  (sSeq (sAsg (mBin dMod (mFn fInt (mCons (mBin dMul (mBin dAdd (mIxN 0 (mC (.int 1))) (mBin dMul (mC (.int 48271)) (mIxN 0 (mC (.int 2))))) (mBin dAdd (mC (.int 39373)) (mIxN 0 (mC (.int 2))))) mNil)) (mC (.int 2147483647))) (gN 2))
  (sSeq (sAsg (mBin dAdd (mBin dMod (mFn fInt (mCons (mVar 2) mNil)) (mC (.int 40009))) (mC (.int 7))) (gN 3))
  (sSeq (sAsg (mBin dMod (mFn fInt (mCons (mBin dMul (mBin dAdd (mBin dAdd (mVar 2) (mIxN 0 (mC (.int 2)))) (mBin dFdiv (mIxN 0 (mC (.int 1))) (mC (.int 1000003)))) (mVar 3)) mNil)) (mC (.int 2147483629))) (gN 4))
  (sRet (mBin dMod (mFn fInt (mCons (mBin dFdiv (mBin dMod (mFn fInt (mCons (mBin dAdd (mBin dMul (mVar 4) (mC (.int 48271))) (mVar 2)) mNil)) (mC (.int 2147483587))) (mC (.int 64))) mNil)) (mVar 1))))))))
def m__law_take : FM := runD 2 6 b__law_take
def b__law_cells : MS := (sSeq (sSetL 2 (mOrL (mFnL fList (mCons (mSl (mVar 0) oNone (oSome (mVar 1))) mNil)) (mLst (mCons (mC (.int 0)) mNil))))
  (sSeq (sFor (iEnumL (mCons (mSl (mVar 0) (oSome (mVar 1)) (oSome (mC (.int 63)))) mNil)) (gT 2 (gsCons (gN 3) (gsCons (gN 4) gsNil))) (sSeq (sAsg (mBin dMod (mFn fInt (mCons (mVar 3) mNil)) (mVar 1)) (gN 5))
  (sSetIx 2 (mBin dAdd (mIxN 2 (mVar 5)) (mBin dMul (mVar 4) (mBin dAdd (mVar 3) (mC (.int 2))))) (mVar 5))))
  (sRetV 2)))
def m__law_cells : FM := runD 2 6 b__law_cells
def b__law_of : MS := (sRet (mIxN 1 (mCallU (m__law_take) (cUrn 0 (cCons (mLenN 1) cNil)))))
def m__law_of : FM := runD 2 2 b__law_of
def b__law_same (n : FM) : MS := (sSeq (sIf (mTru (mIsa ["list", "tuple"] (mVar 1))) (sSeq (sIf (mOrT (mTst (mBin dNe (mIsa ["list"] (mVar 0)) (mIsa ["list"] (mVar 1)))) (mTst (mBin dNe (mIsa ["tuple"] (mVar 0)) (mIsa ["tuple"] (mVar 1))))) (sRet (mC (.bool false))) sNil)
  (sRet (mAndV (mBin dEq (mLenN 0) (mLenN 1)) (mFn fAll (mCons (mOfL (mLc (iZip2 (mCons (mVar 0) (mCons (mVar 1) mNil))) [] [2, 3] (gT 2 (gsCons (gN 2) (gsCons (gN 3) gsNil))) mYes (mCall n (mCons (mVar 2) (mCons (mVar 3) mNil))))) mNil))))) sNil)
  (sSeq (sIf (mOrT (mTst (mBin dIs (mVar 1) (mC .none))) (mTru (mIsa ["bool", "str"] (mVar 1)))) (sRet (mAndV (mBin dEq (mVar 0) (mVar 1)) (mAndV (mBin dEq (mIsa ["bool"] (mVar 0)) (mIsa ["bool"] (mVar 1))) (mBin dEq (mBin dIs (mVar 0) (mC .none)) (mBin dIs (mVar 1) (mC .none)))))) sNil)
  (sRet (mAndV (mIsa ["int"] (mVar 0)) (mAndV (mNotV (mIsa ["bool"] (mVar 0))) (mBin dEq (mVar 0) (mVar 1)))))))
def m__law_same : Nat → FM
  | 0 => fun _ _ => none
  | n + 1 => runD 2 4 (b__law_same (m__law_same n))
def b__law_row : MS := (sRet (mFn fTup (mCons (mOfL (mLc (iRng (mCons (mCallU (m__law_take) (cUrn 0 (cCons (mC (.int 6)) cNil))) mNil)) [] [3] (gN 3) mYes (mTup (mCons (mBin dAdd (mC (.int 1)) (mCallU (m__law_take) (cUrn 0 (cCons (mVar 1) cNil)))) (mCons (mCallU (m__law_take) (cUrn 0 (cCons (mVar 2) cNil))) mNil))))) mNil)))
def m__law_row : FM := runD 3 4 b__law_row
def b__law_by_hand_right : MS := (sSeq (sAsg (mBin dPow (mC (.int 10)) (mC (.int 30))) (gN 0))
  (sSeq (sAsg (mBin dAdd (mBin dAdd (mTup (mCons (mTup (mCons (mVar 0) (mCons (mC (.int 4)) mNil))) mNil)) (mTup (mCons (mTup (mCons (mC (.int 1)) (mCons (mC (.int 2)) mNil))) mNil))) (mTup (mCons (mTup (mCons (mVar 0) (mCons (mC (.int 6)) mNil))) (mCons (mTup (mCons (mC (.int 3)) (mCons (mC (.int 1)) mNil))) mNil)))) (gN 1))
  (sSeq (sAsg (mOfL (mLst (mCons (mCall (m_islands_in) (mCons (mVar 1) mNil)) (mCons (mCall (m_last_height) (mCons (mVar 1) (mCons (mC (.int 0)) (mCons (mVar 0) mNil)))) (mCons (mCall (m_last_height) (mCons (mVar 1) (mCons (mVar 0) (mCons (mBin dAdd (mVar 0) (mC (.int 1))) mNil)))) mNil))))) (gN 2))
  (sSeq (sAsg (mBin dAdd (mVar 2) (mOfL (mLst (mCons (mCall (m_last_height) (mCons (mVar 1) (mCons (mC (.int 3)) (mCons (mBin dAdd (mVar 0) (mC (.int 9))) mNil)))) mNil)))) (gN 2))
  (sSeq (sAsg (mBin dAdd (mVar 2) (mOfL (mLst (mCons (mCall (m_lots_at) (mCons (mVar 1) (mCons (mC (.int 2)) mNil))) (mCons (mCall (m_lot_at) (mCons (mVar 1) (mCons (mVar 0) (mCons (mC (.int 1)) mNil)))) (mCons (mCall (m_greatest_lot) (mCons (mVar 1) (mCons (mC (.int 1)) mNil))) mNil)))))) (gN 2))
  (sSeq (sAsg (mBin dAdd (mVar 2) (mOfL (mLst (mCons (mCall (m_how_many_joined) (mCons (mVar 1) (mCons (mC (.int 5)) mNil))) mNil)))) (gN 2))
  (sSeq (sAsg (mOfL (mLst (mCons (mBin dAdd (mBin dMul (mC (.int 2)) (mVar 0)) (mC (.int 5))) (mCons (mC (.int 4)) (mCons (mC (.int 2)) (mCons (mC (.int 2)) (mCons (mC (.int 5)) (mCons (mTup (mCons (mC (.int 0)) (mCons (mBin dAdd (mBin dMul (mC (.int 2)) (mVar 0)) (mC (.int 1))) mNil))) (mCons (mBin dAdd (mBin dMul (mC (.int 2)) (mVar 0)) (mC (.int 2))) (mCons (mBin dFdiv (mBin dMul (mBin dAdd (mVar 0) (mC (.int 1))) (mVar 0)) (mC (.int 2))) mNil)))))))))) (gN 3))
  (sRet (mCall (m__law_same 9) (mCons (mVar 2) (mCons (mVar 3) mNil)))))))))))
def m__law_by_hand_right : FM := runD 0 4 b__law_by_hand_right
def b__law_right : MS := (sSeq (sIf (mNotT (mTru (mCall0 (m__law_by_hand_right)))) (sRet (mC (.bool false))) sNil)
  (sSeq (sFor (iRng (mCons (mC (.int 8)) mNil)) (gN 1) (sSeq (sAsg (mOfL (mLc (iRng (mCons (mC (.int 2)) mNil)) [] [20] (gN 20) mYes (mCallU (m__law_row) (cUrn 0 (cCons (mCallU (m__law_of) (cUrn 0 (cCons (mOfL (mLst (mCons (mC (.int 3)) (mCons (mBin dPow (mC (.int 10)) (mC (.int 30))) mNil)))) cNil))) (cCons (mC (.int 5)) cNil)))))) (gL 2 (gsCons (gN 8) (gsCons (gN 9) gsNil))))
  (sSeq (sAsg (mCallU (m__law_take) (cUrn 0 (cCons (mC (.int 6)) cNil))) (gN 2))
  (sSeq (sPar [10, 11, 12] (pD (mBin dAdd (mBin dAdd (mVar 8) (mTup (mCons (mTup (mCons (mC (.int 1)) (mCons (mVar 2) mNil))) mNil))) (mVar 9)) (pD (mCall (m_islands_in) (mCons (mVar 8) mNil)) (pD (mCall (m_islands_in) (mCons (mVar 9) mNil)) pNil))))
  (sSeq (sAsg (mOfL (mSortSet (mBin dAdd (mBin dAdd (mCall (m_waters_of) (mCons (mVar 8) mNil)) (mCall (m_waters_of) (mCons (mVar 9) mNil))) (mTup (mCons (mVar 2) mNil))))) (gN 3))
  (sSeq (sIf (mNotT (mTru (mCall (m__law_same 9) (mCons (mOfL (mLst (mCons (mCall (m_islands_in) (mCons (mVar 10) mNil)) (mCons (mCall (m_waters_of) (mCons (mVar 10) mNil)) mNil)))) (mCons (mOfL (mLst (mCons (mBin dAdd (mVar 11) (mVar 12)) (mCons (mFn fTup (mCons (mVar 3) mNil)) mNil)))) mNil))))) (sRet (mC (.bool false))) sNil)
  (sSeq (sPar [13, 14] (pD (mCallU (m__law_take) (cUrn 0 (cCons (mVar 11) cNil))) (pD (mCallU (m__law_take) (cUrn 0 (cCons (mVar 12) cNil))) pNil)))
  (sSeq (sAsg (mOfL (mLst (mCons (mCall (m_last_height) (mCons (mVar 8) (mCons (mVar 13) (mCons (mBin dSub (mVar 11) (mC (.int 1))) mNil)))) (mCons (mCall (m_last_height) (mCons (mVar 9) (mCons (mC (.int 0)) (mCons (mVar 14) mNil)))) mNil)))) (gN 4))
  (sSeq (sAsg (mFn fMin (mCons (mBin dAdd (mOfL (mLst (mCons (mVar 2) mNil))) (mOfL (mLc (iSeq (mVar 4)) [] [20] (gN 20) (mTst (mBin dIsNot (mVar 20) (mC .none))) (mVar 20)))) mNil)) (gN 5))
  (sSeq (sAsg (mOfL (mLst (mCons (mCall (m_last_height) (mCons (mVar 10) (mCons (mVar 13) (mCons (mBin dAdd (mVar 11) (mVar 14)) mNil)))) mNil))) (gN 6))
  (sSeq (sAsg (mBin dAdd (mVar 6) (mOfL (mLst (mCons (mCall (m_last_height) (mCons (mVar 10) (mCons (mBin dAdd (mVar 11) (mVar 14)) (mCons (mVar 13) mNil)))) mNil)))) (gN 6))
  (sSeq (sIf (mNotT (mTru (mCall (m__law_same 9) (mCons (mVar 6) (mCons (mOfL (mLst (mCons (mVar 5) (mCons (mVar 5) mNil)))) mNil))))) (sRet (mC (.bool false))) sNil)
  (sSeq (sIf (mNotT (mTru (mCall (m__law_same 9) (mCons (mCall (m_last_height) (mCons (mVar 10) (mCons (mVar 13) (mCons (mBin dSub (mVar 11) (mC (.int 1))) mNil)))) (mCons (mIxN 4 (mC (.int 0))) mNil))))) (sRet (mC (.bool false))) sNil)
  (sFor (iRng (mCons (mC (.int 6)) mNil)) (gN 7) (sSeq (sAsg (mBin dSub (mBin dAdd (mCall (m_lots_at) (mCons (mVar 8) (mCons (mVar 7) mNil))) (mCall (m_lots_at) (mCons (mVar 9) (mCons (mVar 7) mNil)))) (mFn fInt (mCons (mBin dGt (mVar 2) (mVar 7)) mNil))) (gN 15))
  (sSeq (sPar [21, 22] (pD (mCall (m_lot_at) (mCons (mVar 8) (mCons (mBin dSub (mVar 11) (mC (.int 1))) (mCons (mVar 7) mNil)))) (pD (mCall (m_lot_at) (mCons (mVar 9) (mCons (mC (.int 0)) (mCons (mVar 7) mNil)))) pNil)))
  (sSeq (sAsg (mBin dMul (mBin dMul (mBin dSub (mVar 11) (mIxN 21 (mC (.int 0)))) (mBin dAdd (mIxN 22 (mC (.int 1))) (mC (.int 1)))) (mFn fInt (mCons (mBin dGt (mVar 2) (mVar 7)) mNil))) (gN 16))
  (sSeq (sAsg (mOfL (mLst (mCons (mCall (m_lots_at) (mCons (mVar 10) (mCons (mVar 7) mNil))) (mCons (mCall (m_how_many_joined) (mCons (mVar 10) (mCons (mVar 7) mNil))) mNil)))) (gN 6))
  (sSeq (sAsg (mBin dAdd (mVar 6) (mOfL (mLst (mCons (mCall (m_lot_at) (mCons (mVar 10) (mCons (mVar 11) (mCons (mVar 7) mNil)))) mNil)))) (gN 6))
  (sSeq (sAsg (mBin dAdd (mBin dAdd (mCall (m_how_many_joined) (mCons (mVar 8) (mCons (mVar 7) mNil))) (mCall (m_how_many_joined) (mCons (mVar 9) (mCons (mVar 7) mNil)))) (mVar 16)) (gN 17))
  (sSeq (sAsg (mIf (mTst (mBin dGt (mVar 2) (mVar 7))) (mIxN 21 (mC (.int 0))) (mVar 11)) (gN 18))
  (sSeq (sIf (mNotT (mTru (mCall (m__law_same 9) (mCons (mVar 6) (mCons (mOfL (mLst (mCons (mVar 15) (mCons (mVar 17) (mCons (mTup (mCons (mVar 18) (mCons (mBin dAdd (mVar 11) (mIxN 22 (mC (.int 1)))) mNil))) mNil))))) mNil))))) (sRet (mC (.bool false))) sNil)
  (sSeq (sAsg (mUn dRevA (mVar 10)) (gN 19))
  (sSeq (sAsg (mOfL (mLst (mCons (mCall (m_lots_at) (mCons (mVar 19) (mCons (mVar 7) mNil))) (mCons (mCall (m_greatest_lot) (mCons (mVar 19) (mCons (mVar 7) mNil))) (mCons (mCall (m_how_many_joined) (mCons (mVar 19) (mCons (mVar 7) mNil))) mNil))))) (gN 6))
  (sIf (mNotT (mTru (mCall (m__law_same 9) (mCons (mVar 6) (mCons (mOfL (mLst (mCons (mVar 15) (mCons (mCall (m_greatest_lot) (mCons (mVar 10) (mCons (mVar 7) mNil))) (mCons (mCall (m_how_many_joined) (mCons (mVar 10) (mCons (mVar 7) mNil))) mNil))))) mNil))))) (sRet (mC (.bool false))) sNil)))))))))))))))))))))))))
  (sRet (mC (.bool true)))))
def m__law_right : FM := runD 1 23 b__law_right
def b_law : MS := (sSeq (sAsg (mCall (m__law_cells) (mCons (mVar 0) (mCons (mC (.int 3)) mNil))) (gN 1))
  (sRet (mFn fAll (mCons (mOfL (mLc (iRng (mCons (mLenN 1) mNil)) [] [2] (gN 2) mYes (mCallN (m__law_right) (mCallL (m__law_box) (mCons (mVar 1) (mCons (mVar 2) mNil)))))) mNil))))
def m_law : FM := runD 1 3 b_law
end DT

set_option Elab.async false
set_option linter.all false
set_option maxRecDepth 100000
set_option maxHeartbeats 4000000
namespace DT
open PySem PySem.Spec PyProof.Rows L2 DL
theorem p_islands {r : Rw} (hr : r.length ≤ 50) : m_islands_in [.val (rowD r)] none = some (.val (.int (isl r)), none) := islands_eq hr
theorem p_waters {r : Rw} (hr : r.length ≤ 50) : m_waters_of [.val (rowD r)] none = some (.val (.tuple ((tops r).map .int)), none) := waters_eq hr
theorem p_lotsAt {r : Rw} {w : Int} (hr : r.length ≤ 50) : m_lots_at [.val (rowD r), .val (.int w)] none = some (.val (.int (lotsAt r w)), none) := lotsAt_eq hr
theorem p_last {r : Rw} {i j : Int} (hr : r.length ≤ 50) (hi : 0 ≤ i ∧ i < isl r) (hj : 0 ≤ j ∧ j < isl r) : m_last_height [.val (rowD r), .val (.int i), .val (.int j)] none = some (.val (optD (lastH r i j)), none) := last_eq hr hi hj
theorem p_lotAt {r : Rw} {i w : Int} (hr : r.length ≤ 50) (hp : Pos r) (hi : 0 ≤ i ∧ i < isl r) : m_lot_at [.val (rowD r), .val (.int i), .val (.int w)] none = some (.val (prD (lotAt r i w)), none) := lotAt_eq hr hp hi
theorem p_great {r : Rw} {w : Int} (hr : r.length ≤ 50) (hp : Pos r) : m_greatest_lot [.val (rowD r), .val (.int w)] none = some (.val (.int (maxI (1 :: sizes r w))), none) := greatest_eq hr hp
theorem p_joined {r : Rw} {w : Int} (hr : r.length ≤ 50) (hp : Pos r) (hb : sumM r < 2 ^ 200) : m_how_many_joined [.val (rowD r), .val (.int w)] none = some (.val (.int (joined r w)), none) := joined_eq hr hp (sizes_small hp hb)
theorem p_take {n : Int} {k : Nat} {u : List Int} (hn : 0 < n) (hl : n.natAbs.log2 < 9000) (hk : k < 1000000) (hu : UOk k u) : ∃ v u', m__law_take [.urn, .val (.int n)] (some u) = some (.val (.int v), some u') ∧ 0 ≤ v ∧ v < n ∧ UOk (k + 1) u' := take_ok hn hl hk hu
theorem p_of {d : Dt} {ds : List Dt} {k : Nat} {u : List Int} (hd : d = .list ds ∨ d = .tuple ds) (h0 : 0 < ds.length) (h1 : ds.length < 2 ^ 30) (hk : k < 1000000) (hu : UOk k u) : ∃ x u', m__law_of [.urn, .val d] (some u) = some (.val x, some u') ∧ x ∈ ds ∧ UOk (k + 1) u' := of_ok hd h0 h1 hk hu
theorem p_row {m t : Int} {k : Nat} {u : List Int} (hm : 0 < m) (hml : m.natAbs.log2 < 9000) (ht : 0 < t) (htl : t.natAbs.log2 < 9000) (hk : k + 20 < 1000000) (hu : UOk k u) : ∃ r u', m__law_row [.urn, .val (.int m), .val (.int t)] (some u) = some (.val (rowD r), some u') ∧ r.length ≤ 5 ∧ (∀ q ∈ r, 0 < q.1 ∧ q.1 ≤ m ∧ 0 ≤ q.2 ∧ q.2 < t) ∧ UOk (k + 11) u' := row_ok hm hml ht htl hk hu
theorem byhand : m__law_by_hand_right [] none = some (.val (.bool true), none) := by kernel_rfl
theorem same_F : ∀ n, m__law_same n = sameF n
  | 0 => rfl
  | n + 1 => by
    show runD 2 4 (b__law_same (m__law_same n)) = runD 2 4 (sameB (sameF n))
    rw [same_F n] <;> rfl
theorem p_same {d e : Dt} (h : e = d) (hd : SOk 9 d) : m__law_same 9 [.val d, .val e] none = some (.val (.bool true), none) := by
  subst h
  rw [same_F]
  exact same_ok 9 _ hd
theorem log_small {n : Int} (h0 : 0 ≤ n) (h : n < 2 ^ 200) : n.natAbs.log2 < 9000 := log2_small (Nat.lt_of_lt_of_le (show n.natAbs < 2 ^ 201 by omega) pw200)
theorem abs_small {n : Int} (h0 : 0 ≤ n) (h : n < 2 ^ 200) : n.natAbs < 2 ^ 8000 := Nat.lt_of_lt_of_le (show n.natAbs < 2 ^ 201 by omega) pw200
theorem e_ifI {mt : MT} {p q : MD} {s s1 : Stt} {b : Bool} {i j : Int} (h1 : mt s = some (b, s1)) (h2 : p s1 = some (.int i, s1)) (h3 : q s1 = some (.int j, s1)) : mIf mt p q s = some (.int (if b then i else j), s1) := by
  cases b with
  | true => exact e_ifT h1 rfl h2
  | false => exact e_ifF h1 rfl h3
/-- a drawn row -/
structure RowOk (r : Rw) : Prop where
  len : r.length ≤ 5
  pos : Pos r
  sm : sumM r < 2 ^ 198
theorem row_add {x y : Rw} (hx : x.length ≤ 50) (hy : y.length ≤ 50) : dAdd (rowD x) (rowD y) = some (rowD (x ++ y)) := by
  have h : (x.map prD).length + (y.map prD).length ≤ sizeLine := Nat.le_trans (show _ ≤ 100000 by rw [List.length_map, List.length_map]; omega) (by decide)
  show (if _ then some (PyData.tuple _) else none) = _
  rw [if_pos h, ← List.map_append] <;> rfl
theorem il_add {x y : List Int} (hx : x.length ≤ 500) (hy : y.length ≤ 500) : dAdd (.tuple (x.map .int)) (.tuple (y.map .int)) = some (.tuple ((x ++ y).map .int)) := by
  have h : (x.map PyData.int).length + (y.map PyData.int).length ≤ sizeLine := Nat.le_trans (show _ ≤ 100000 by rw [List.length_map, List.length_map]; omega) (by decide)
  show (if _ then some (PyData.tuple _) else none) = _
  rw [if_pos h, ← List.map_append]
theorem dl_add {x y : List Dt} (hx : x.length ≤ 500) (hy : y.length ≤ 500) : dAdd (.list x) (.list y) = some (.list (x ++ y)) := by
  have h : x.length + y.length ≤ sizeLine := Nat.le_trans (show _ ≤ 100000 by omega) (by decide)
  show (if _ then some (PyData.list _) else none) = _
  rw [if_pos h]
theorem row_rev (r : Rw) : dRevA (rowD r) = some (rowD r.reverse) := by
  show some (PyData.tuple (r.map prD).reverse) = _
  rw [← List.map_reverse] <;> rfl
theorem pos_rev {r : Rw} (h : Pos r) : Pos r.reverse := fun q hq => h q (List.mem_reverse.mp hq)
theorem sumM_rev (r : Rw) : sumM r.reverse = sumM r := by
  unfold sumM
  rw [List.map_reverse, sum_rev]
theorem sok_opt (o : Option Int) (n : Nat) : SOk (n + 1) (optD o) := by cases o <;> trivial
theorem sok_pr (q : Int × Int) (n : Nat) : SOk (n + 2) (prD q) := ⟨Nat.le_of_ble_eq_true rfl, fun x hx => by
  rcases List.mem_cons.mp hx with rfl | hx
  · trivial
  · rcases List.mem_cons.mp hx with rfl | hx
    · trivial
    · cases hx⟩
theorem sok_it {ns : List Int} {n : Nat} (h : ns.length ≤ 1000) : SOk (n + 2) (.tuple (ns.map .int)) := ⟨by rw [List.length_map]; omega, fun x hx => by
  obtain ⟨i, _, rfl⟩ := List.mem_map.mp hx
  trivial⟩
theorem sok2 {n : Nat} {x y : Dt} (hx : SOk n x) (hy : SOk n y) : SOk (n + 1) (.list [x, y]) := ⟨Nat.le_of_ble_eq_true rfl, fun z hz => by
  rcases List.mem_cons.mp hz with rfl | hz
  · exact hx
  · rcases List.mem_cons.mp hz with rfl | hz
    · exact hy
    · cases hz⟩
theorem sok3 {n : Nat} {x y z : Dt} (hx : SOk n x) (hy : SOk n y) (hw : SOk n z) : SOk (n + 1) (.list [x, y, z]) := ⟨Nat.le_of_ble_eq_true rfl, fun t ht => by
  rcases List.mem_cons.mp ht with rfl | ht
  · exact hx
  · rcases List.mem_cons.mp ht with rfl | ht
    · exact hy
    · rcases List.mem_cons.mp ht with rfl | ht
      · exact hw
      · cases ht⟩
def levB : MS := (sSeq (sAsg (mBin dSub (mBin dAdd (mCall (m_lots_at) (mCons (mVar 8) (mCons (mVar 7) mNil))) (mCall (m_lots_at) (mCons (mVar 9) (mCons (mVar 7) mNil)))) (mFn fInt (mCons (mBin dGt (mVar 2) (mVar 7)) mNil))) (gN 15))
  (sSeq (sPar [21, 22] (pD (mCall (m_lot_at) (mCons (mVar 8) (mCons (mBin dSub (mVar 11) (mC (.int 1))) (mCons (mVar 7) mNil)))) (pD (mCall (m_lot_at) (mCons (mVar 9) (mCons (mC (.int 0)) (mCons (mVar 7) mNil)))) pNil)))
  (sSeq (sAsg (mBin dMul (mBin dMul (mBin dSub (mVar 11) (mIxN 21 (mC (.int 0)))) (mBin dAdd (mIxN 22 (mC (.int 1))) (mC (.int 1)))) (mFn fInt (mCons (mBin dGt (mVar 2) (mVar 7)) mNil))) (gN 16))
  (sSeq (sAsg (mOfL (mLst (mCons (mCall (m_lots_at) (mCons (mVar 10) (mCons (mVar 7) mNil))) (mCons (mCall (m_how_many_joined) (mCons (mVar 10) (mCons (mVar 7) mNil))) mNil)))) (gN 6))
  (sSeq (sAsg (mBin dAdd (mVar 6) (mOfL (mLst (mCons (mCall (m_lot_at) (mCons (mVar 10) (mCons (mVar 11) (mCons (mVar 7) mNil)))) mNil)))) (gN 6))
  (sSeq (sAsg (mBin dAdd (mBin dAdd (mCall (m_how_many_joined) (mCons (mVar 8) (mCons (mVar 7) mNil))) (mCall (m_how_many_joined) (mCons (mVar 9) (mCons (mVar 7) mNil)))) (mVar 16)) (gN 17))
  (sSeq (sAsg (mIf (mTst (mBin dGt (mVar 2) (mVar 7))) (mIxN 21 (mC (.int 0))) (mVar 11)) (gN 18))
  (sSeq (sIf (mNotT (mTru (mCall (m__law_same 9) (mCons (mVar 6) (mCons (mOfL (mLst (mCons (mVar 15) (mCons (mVar 17) (mCons (mTup (mCons (mVar 18) (mCons (mBin dAdd (mVar 11) (mIxN 22 (mC (.int 1)))) mNil))) mNil))))) mNil))))) (sRet (mC (.bool false))) sNil)
  (sSeq (sAsg (mUn dRevA (mVar 10)) (gN 19))
  (sSeq (sAsg (mOfL (mLst (mCons (mCall (m_lots_at) (mCons (mVar 19) (mCons (mVar 7) mNil))) (mCons (mCall (m_greatest_lot) (mCons (mVar 19) (mCons (mVar 7) mNil))) (mCons (mCall (m_how_many_joined) (mCons (mVar 19) (mCons (mVar 7) mNil))) mNil))))) (gN 6))
  (sIf (mNotT (mTru (mCall (m__law_same 9) (mCons (mVar 6) (mCons (mOfL (mLst (mCons (mVar 15) (mCons (mCall (m_greatest_lot) (mCons (mVar 10) (mCons (mVar 7) mNil))) (mCons (mCall (m_how_many_joined) (mCons (mVar 10) (mCons (mVar 7) mNil))) mNil))))) mNil))))) (sRet (mC (.bool false))) sNil)))))))))))
def turnB : MS := (sSeq (sAsg (mOfL (mLc (iRng (mCons (mC (.int 2)) mNil)) [] [20] (gN 20) mYes (mCallU (m__law_row) (cUrn 0 (cCons (mCallU (m__law_of) (cUrn 0 (cCons (mOfL (mLst (mCons (mC (.int 3)) (mCons (mBin dPow (mC (.int 10)) (mC (.int 30))) mNil)))) cNil))) (cCons (mC (.int 5)) cNil)))))) (gL 2 (gsCons (gN 8) (gsCons (gN 9) gsNil))))
  (sSeq (sAsg (mCallU (m__law_take) (cUrn 0 (cCons (mC (.int 6)) cNil))) (gN 2))
  (sSeq (sPar [10, 11, 12] (pD (mBin dAdd (mBin dAdd (mVar 8) (mTup (mCons (mTup (mCons (mC (.int 1)) (mCons (mVar 2) mNil))) mNil))) (mVar 9)) (pD (mCall (m_islands_in) (mCons (mVar 8) mNil)) (pD (mCall (m_islands_in) (mCons (mVar 9) mNil)) pNil))))
  (sSeq (sAsg (mOfL (mSortSet (mBin dAdd (mBin dAdd (mCall (m_waters_of) (mCons (mVar 8) mNil)) (mCall (m_waters_of) (mCons (mVar 9) mNil))) (mTup (mCons (mVar 2) mNil))))) (gN 3))
  (sSeq (sIf (mNotT (mTru (mCall (m__law_same 9) (mCons (mOfL (mLst (mCons (mCall (m_islands_in) (mCons (mVar 10) mNil)) (mCons (mCall (m_waters_of) (mCons (mVar 10) mNil)) mNil)))) (mCons (mOfL (mLst (mCons (mBin dAdd (mVar 11) (mVar 12)) (mCons (mFn fTup (mCons (mVar 3) mNil)) mNil)))) mNil))))) (sRet (mC (.bool false))) sNil)
  (sSeq (sPar [13, 14] (pD (mCallU (m__law_take) (cUrn 0 (cCons (mVar 11) cNil))) (pD (mCallU (m__law_take) (cUrn 0 (cCons (mVar 12) cNil))) pNil)))
  (sSeq (sAsg (mOfL (mLst (mCons (mCall (m_last_height) (mCons (mVar 8) (mCons (mVar 13) (mCons (mBin dSub (mVar 11) (mC (.int 1))) mNil)))) (mCons (mCall (m_last_height) (mCons (mVar 9) (mCons (mC (.int 0)) (mCons (mVar 14) mNil)))) mNil)))) (gN 4))
  (sSeq (sAsg (mFn fMin (mCons (mBin dAdd (mOfL (mLst (mCons (mVar 2) mNil))) (mOfL (mLc (iSeq (mVar 4)) [] [20] (gN 20) (mTst (mBin dIsNot (mVar 20) (mC .none))) (mVar 20)))) mNil)) (gN 5))
  (sSeq (sAsg (mOfL (mLst (mCons (mCall (m_last_height) (mCons (mVar 10) (mCons (mVar 13) (mCons (mBin dAdd (mVar 11) (mVar 14)) mNil)))) mNil))) (gN 6))
  (sSeq (sAsg (mBin dAdd (mVar 6) (mOfL (mLst (mCons (mCall (m_last_height) (mCons (mVar 10) (mCons (mBin dAdd (mVar 11) (mVar 14)) (mCons (mVar 13) mNil)))) mNil)))) (gN 6))
  (sSeq (sIf (mNotT (mTru (mCall (m__law_same 9) (mCons (mVar 6) (mCons (mOfL (mLst (mCons (mVar 5) (mCons (mVar 5) mNil)))) mNil))))) (sRet (mC (.bool false))) sNil)
  (sSeq (sIf (mNotT (mTru (mCall (m__law_same 9) (mCons (mCall (m_last_height) (mCons (mVar 10) (mCons (mVar 13) (mCons (mBin dSub (mVar 11) (mC (.int 1))) mNil)))) (mCons (mIxN 4 (mC (.int 0))) mNil))))) (sRet (mC (.bool false))) sNil)
  (sFor (iRng (mCons (mC (.int 6)) mNil)) (gN 7) levB)))))))))))))
theorem rng_int {lo : Int} {n : Nat} {d : Dt} (h : d ∈ rngD lo n) : ∃ w : Int, d = .int w := by
  unfold rngD at h
  obtain ⟨i, _, rfl⟩ := List.mem_map.mp h
  exact ⟨_, rfl⟩
theorem lev_ok {a b : Rw} {h w : Int} (A : RowOk a) (B : RowOk b) (u : List Int) (a1 a3 a4 a5 a6 a13 a14 a15 a16 a17 a18 a19 a20 a21 a22 : Option SV) : ∃ b1 b3 b4 b5 b6 b13 b14 b15 b16 b17 b18 b19 b20 b21 b22 : Option SV, levB ⟨[some .urn, a1, some (.val (.int h)), a3, a4, a5, a6, some (.val (.int w)), some (.val (rowD a)), some (.val (rowD b)), some (.val (rowD (jnR a h b))), some (.val (.int (isl a))), some (.val (.int (isl b))), a13, a14, a15, a16, a17, a18, a19, a20, a21, a22], some u⟩ = some (.nx ⟨[some .urn, b1, some (.val (.int h)), b3, b4, b5, b6, some (.val (.int w)), some (.val (rowD a)), some (.val (rowD b)), some (.val (rowD (jnR a h b))), some (.val (.int (isl a))), some (.val (.int (isl b))), b13, b14, b15, b16, b17, b18, b19, b20, b21, b22], some u⟩) := by
  have ha : a.length ≤ 50 := Nat.le_trans A.len (by decide)
  have hb : b.length ≤ 50 := Nat.le_trans B.len (by decide)
  have hw : (jnR a h b).length ≤ 50 := by
    have := A.len
    have := B.len
    rw [List.length_append, List.length_cons]
    omega
  have pa := A.pos
  have pb := B.pos
  have pw := pos_app (h := h) pa pb
  have sa := sumM_nonneg pa
  have sb := sumM_nonneg pb
  have sa2 := A.sm
  have sb2 := B.sm
  have sw : sumM (jnR a h b) < 2 ^ 200 := by
    rw [sumM_app, sumM_cons]
    omega
  have ea := isl_eq a
  have eb := isl_eq b
  have ew := isl_app (a := a) (b := b) (h := h)
  have in1 := lotAt_in (w := w) pa (isl a - 1)
  have bd1 := lotAt_bd (w := w) pa (i := isl a - 1) (by omega) (by omega)
  have in2 := lotAt_in (w := w) pb 0
  have bd2 := lotAt_bd (w := w) pb (i := 0) (by omega) (by omega)
  have en := lotAt_end (w := w) pa
  have sta := lotAt_start (w := w) pb
  have jo := lotAt_join (w := w) (h := h) pa pb 0
  have jn := joined_app (a := a) (b := b) (h := h) (w := w)
  have ln := lotsAt_app (a := a) (b := b) (h := h) (w := w)
  have p1 := p_lotAt (w := w) (i := isl a - 1) ha pa ⟨by omega, by omega⟩
  have p2 := p_lotAt (w := w) (i := 0) hb pb ⟨by omega, by omega⟩
  have p3 := p_lotAt (w := w) (i := isl a) hw pw ⟨by omega, by omega⟩
  rw [en] at in1 bd1 p1 jo
  rw [sta] at in2 bd2 p2 jo
  rw [jo] at p3
  generalize (opB w none a).getD 0 = x at *
  generalize hdB w b = y at *
  simp only at in1 bd1 in2 bd2
  have E1 : lotsAt (jnR a h b) w = lotsAt a w + lotsAt b w - (if decide (w < h) = true then 1 else 0) := by
    rw [ln]
    simp only [decide_eq_true_eq]
  have E2 : joined (jnR a h b) w = joined a w + joined b w + (isl a - (isl a - 1 - x)) * (y + 1) * (if decide (w < h) = true then 1 else 0) := by
    rw [jn, show isl a - (isl a - 1 - x) = x + 1 by omega]
    simp only [decide_eq_true_eq]
    split
    · rw [Int.mul_one]
    · rw [Int.mul_zero]
  have E3 : (if w < h then isl a - 1 - x else isl a) = if decide (w < h) = true then isl a - 1 - x else isl a := by
    simp only [decide_eq_true_eq]
  iterate 15 apply Exists.intro
  refine e_seq (e_asg (e_bin (e_bin (e_callV (e_cons rfl (e_cons rfl rfl)) (p_lotsAt ha)) (e_callV (e_cons rfl (e_cons rfl rfl)) (p_lotsAt hb)) rfl) (e_fn (e_cons (e_bin rfl rfl rfl) rfl) rfl) rfl) rfl) ?_
  refine e_seq (e_par (e_pD (e_callV (e_cons rfl (e_cons (e_bin rfl rfl rfl) (e_cons rfl rfl))) p1) (e_pD (e_callV (e_cons rfl (e_cons rfl (e_cons rfl rfl))) p2) rfl)) rfl) ?_
  refine e_seq (e_asg (e_bin (e_bin (e_bin rfl (e_ixN rfl rfl rfl) rfl) (e_bin (e_ixN rfl rfl rfl) rfl rfl) (e_mulB (abs_small (by omega) (by omega)) (abs_small (by omega) (by omega)))) (e_fn (e_cons (e_bin rfl rfl rfl) rfl) rfl) (e_mul (.inr (by split <;> decide)))) rfl) ?_
  refine e_seq (e_asg (e_ofL (e_lst (e_cons (e_callV (e_cons rfl (e_cons rfl rfl)) (p_lotsAt hw)) (e_cons (e_callV (e_cons rfl (e_cons rfl rfl)) (p_joined hw pw sw)) rfl)) (Nat.le_of_ble_eq_true rfl))) rfl) ?_
  refine e_seq (e_asg (e_bin rfl (e_ofL (e_lst (e_cons (e_callV (e_cons rfl (e_cons rfl (e_cons rfl rfl))) p3) rfl) (Nat.le_of_ble_eq_true rfl))) (dl_add (Nat.le_of_ble_eq_true rfl) (Nat.le_of_ble_eq_true rfl))) rfl) ?_
  refine e_seq (e_asg (e_bin (e_bin (e_callV (e_cons rfl (e_cons rfl rfl)) (p_joined ha pa (by omega))) (e_callV (e_cons rfl (e_cons rfl rfl)) (p_joined hb pb (by omega))) rfl) rfl rfl) rfl) ?_
  refine e_seq (e_asg (e_ifI (i := isl a - 1 - x) (j := isl a) (e_tst (e_bin rfl rfl rfl)) (e_ixN rfl rfl rfl) rfl) rfl) ?_
  refine e_seq (e_sifF (e_notT (e_tru (e_callV (e_cons rfl (e_cons (e_ofL (e_lst (e_cons rfl (e_cons rfl (e_cons (e_tup (e_cons rfl (e_cons (e_bin rfl (e_ixN rfl rfl rfl) rfl) rfl)) (Nat.le_of_ble_eq_true rfl)) rfl))) (Nat.le_of_ble_eq_true rfl))) rfl)) (p_same (d := .list [.int (lotsAt (jnR a h b) w), .int (joined (jnR a h b) w), prD (if w < h then isl a - 1 - x else isl a, isl a + y)]) (by rw [E1, E2, E3]; rfl) (sok3 trivial trivial (sok_pr _ _)))) rfl)) rfl rfl) ?_
  refine e_seq (e_asg (e_un rfl (row_rev _)) rfl) ?_
  have hw' : (jnR a h b).reverse.length ≤ 50 := by rw [List.length_reverse]; exact hw
  refine e_seq (e_asg (e_ofL (e_lst (e_cons (e_callV (e_cons rfl (e_cons rfl rfl)) (p_lotsAt hw')) (e_cons (e_callV (e_cons rfl (e_cons rfl rfl)) (p_great hw' (pos_rev pw))) (e_cons (e_callV (e_cons rfl (e_cons rfl rfl)) (p_joined hw' (pos_rev pw) (by rw [sumM_rev]; exact sw))) rfl))) (Nat.le_of_ble_eq_true rfl))) rfl) ?_
  exact (e_sifF (e_notT (e_tru (e_callV (e_cons rfl (e_cons (e_ofL (e_lst (e_cons rfl (e_cons (e_callV (e_cons rfl (e_cons rfl rfl)) (p_great hw pw)) (e_cons (e_callV (e_cons rfl (e_cons rfl rfl)) (p_joined hw pw sw)) rfl))) (Nat.le_of_ble_eq_true rfl))) rfl)) (p_same (by rw [lotsAt_rev, great_rev, joined_rev, E1]) (sok3 trivial trivial trivial))) rfl)) rfl rfl)
theorem levs_ok {a b : Rw} {h : Int} (A : RowOk a) (B : RowOk b) (u : List Int) (a1 a3 a4 a5 a6 a7 a13 a14 a15 a16 a17 a18 a19 a20 a21 a22 : Option SV) : ∃ b1 b3 b4 b5 b6 b7 b13 b14 b15 b16 b17 b18 b19 b20 b21 b22 : Option SV, sFor (iRng (mCons (mC (.int 6)) mNil)) (gN 7) levB ⟨[some .urn, a1, some (.val (.int h)), a3, a4, a5, a6, a7, some (.val (rowD a)), some (.val (rowD b)), some (.val (rowD (jnR a h b))), some (.val (.int (isl a))), some (.val (.int (isl b))), a13, a14, a15, a16, a17, a18, a19, a20, a21, a22], some u⟩ = some (.nx ⟨[some .urn, b1, some (.val (.int h)), b3, b4, b5, b6, b7, some (.val (rowD a)), some (.val (rowD b)), some (.val (rowD (jnR a h b))), some (.val (.int (isl a))), some (.val (.int (isl b))), b13, b14, b15, b16, b17, b18, b19, b20, b21, b22], some u⟩) := by
  obtain ⟨s', e, b1, b3, b4, b5, b6, b7, b13, b14, b15, b16, b17, b18, b19, b20, b21, b22, rfl⟩ := for_inv (g := gN 7) (mb := levB) (fun s => ∃ b1 b3 b4 b5 b6 b7 b13 b14 b15 b16 b17 b18 b19 b20 b21 b22 : Option SV, s = ⟨[some .urn, b1, some (.val (.int h)), b3, b4, b5, b6, b7, some (.val (rowD a)), some (.val (rowD b)), some (.val (rowD (jnR a h b))), some (.val (.int (isl a))), some (.val (.int (isl b))), b13, b14, b15, b16, b17, b18, b19, b20, b21, b22], some u⟩) (rngD 0 6) ⟨[some .urn, a1, some (.val (.int h)), a3, a4, a5, a6, a7, some (.val (rowD a)), some (.val (rowD b)), some (.val (rowD (jnR a h b))), some (.val (.int (isl a))), some (.val (.int (isl b))), a13, a14, a15, a16, a17, a18, a19, a20, a21, a22], some u⟩ ⟨a1, a3, a4, a5, a6, a7, a13, a14, a15, a16, a17, a18, a19, a20, a21, a22, rfl⟩ (by
    rintro d hd s ⟨c1, c3, c4, c5, c6, c7, c13, c14, c15, c16, c17, c18, c19, c20, c21, c22, rfl⟩
    obtain ⟨w, rfl⟩ : ∃ w : Int, d = .int w := rng_int hd
    obtain ⟨b1, b3, b4, b5, b6, b13, b14, b15, b16, b17, b18, b19, b20, b21, b22, e⟩ := lev_ok (w := w) (h := h) A B u c1 c3 c4 c5 c6 c13 c14 c15 c16 c17 c18 c19 c20 c21 c22
    exact ⟨_, _, rfl, e, b1, b3, b4, b5, b6, _, b13, b14, b15, b16, b17, b18, b19, b20, b21, b22, rfl⟩)
  exact ⟨b1, b3, b4, b5, b6, b7, b13, b14, b15, b16, b17, b18, b19, b20, b21, b22, e_for rfl e⟩
theorem e_sortSet {m : MD} {s s1 : Stt} {d : Dt} {ns : List Int} (h1 : m s = some (d, s1)) (hd : d = .list (ns.map .int) ∨ d = .tuple (ns.map .int)) (hl : ns.length < 64) : mSortSet m s = some ((setI ns).map .int, s1) := by
  unfold mSortSet
  rw [h1, Option.bind_some]
  have : lisD d = some (ns.map .int) := by rcases hd with rfl | rfl <;> rfl
  show (lisD d).bind _ = _
  rw [this, Option.bind_some, intsD_map]
  exact if_pos hl
theorem tops_len (r : Rw) : (tops r).length ≤ r.length := by
  have h1 := setI_len (hts r)
  have h2 : (hts r).length = r.length := List.length_map ..
  unfold tops
  omega
theorem gt_sm : (10 : Int) ^ 30 * 5 < 2 ^ 198 := by decide
theorem sum_le {r : Rw} {m : Int} (h0 : 0 ≤ m) (h : ∀ q ∈ r, q.1 ≤ m) : sumM r ≤ m * r.length := by
  induction r with
  | nil => exact Int.le_of_eq (Int.mul_zero m).symm
  | cons q r ih =>
    have h1 := ih fun q hq => h q (List.mem_cons_of_mem _ hq)
    have h2 := h q List.mem_cons_self
    obtain ⟨a, b⟩ := q
    rw [sumM_cons, List.length_cons]
    have : m * ((r.length + 1 : Nat) : Int) = m * (r.length : Int) + m := by rw [Int.natCast_add, Int.mul_add]; simp
    simp only at h2
    omega
theorem mul5 {m : Int} {n : Nat} (h0 : 0 ≤ m) (h : n ≤ 5) : m * (n : Int) ≤ m * 5 := Int.mul_le_mul_of_nonneg_left (by omega) h0
theorem opt_filt (o1 o2 : Option Int) : (([o1, o2].filter Option.isSome).map optD) = (o1.toList ++ o2.toList).map .int := by
  cases o1 <;> cases o2 <;> rfl
theorem min_ints {x : Int} {xs : List Int} : fMin [.list (.int x :: xs.map .int)] = some (.int (minI (x :: xs))) := by
  show (intsD _).bind _ = _
  rw [DL.ints_cons] <;> rfl
theorem turn_ok {k : Nat} (hk : k + 200 < 1000000) {u : List Int} (hu : UOk k u) (a1 a2 a3 a4 a5 a6 a7 a8 a9 a10 a11 a12 a13 a14 a15 a16 a17 a18 a19 a20 a21 a22 : Option SV) : ∃ b1 b2 b3 b4 b5 b6 b7 b8 b9 b10 b11 b12 b13 b14 b15 b16 b17 b18 b19 b20 b21 b22 : Option SV, ∃ u', turnB ⟨[some .urn, a1, a2, a3, a4, a5, a6, a7, a8, a9, a10, a11, a12, a13, a14, a15, a16, a17, a18, a19, a20, a21, a22], some u⟩ = some (.nx ⟨[some .urn, b1, b2, b3, b4, b5, b6, b7, b8, b9, b10, b11, b12, b13, b14, b15, b16, b17, b18, b19, b20, b21, b22], some u'⟩) ∧ UOk (k + 30) u' := by
  have g30 : (10 : Int) ^ 30 < 2 ^ 199 := by decide
  obtain ⟨as, u1, e1, l1, g1, hu1⟩ := lcGo_draw (g := gN 20) (mt := mYes) (me := (mCallU (m__law_row) (cUrn 0 (cCons (mCallU (m__law_of) (cUrn 0 (cCons (mOfL (mLst (mCons (mC (.int 3)) (mCons (mBin dPow (mC (.int 10)) (mC (.int 30))) mNil)))) cNil))) (cCons (mC (.int 5)) cNil))))) (sb := blkSl [some .urn, a1, a2, a3, a4, a5, a6, a7, a8, a9, a10, a11, a12, a13, a14, a15, a16, a17, a18, a19, a20, a21, a22] [20]) rowD (fun r => RowOk r) 12 999990 (rngD 0 2) (fun d hd k u hu hk => by
    obtain ⟨x, u1, e1, hx, hu1⟩ := p_of (d := .list [.int 3, .int (10 ^ 30)]) (.inl rfl) (by decide) (by decide) (by omega) hu
    obtain ⟨m, rfl, m1, m2⟩ : ∃ m : Int, x = .int m ∧ 0 < m ∧ m ≤ 10 ^ 30 := by
      simp only [List.mem_cons, List.not_mem_nil, or_false] at hx
      rcases hx with rfl | rfl
      · exact ⟨_, rfl, by decide, by decide⟩
      · exact ⟨_, rfl, by decide, by decide⟩
    obtain ⟨r, u3, e3, r1, r2, hu3⟩ := p_row (t := 5) m1 (log_small (by omega) (by omega)) (by decide) (by decide) (by omega) hu1
    refine ⟨r, u3, ?_, ⟨r1, fun q hq => (r2 q hq).1, ?_⟩, hu3.mono (by omega)⟩
    · refine st_yes2 (b := true) rfl rfl rfl (e_callUV (e_curn rfl (e_ccons (e_callUV (e_curn rfl (e_ccons (e_ofL (e_lst (e_cons rfl (e_cons (e_bin rfl rfl rfl) rfl)) (Nat.le_of_ble_eq_true rfl))) rfl)) e1) (e_ccons rfl rfl))) e3) rfl
    · have h1 := sum_le (Int.le_of_lt m1) fun q hq => (r2 q hq).2.1
      have h2 := mul5 (Int.le_of_lt m1) r1
      have h3 := gt_sm
      omega) k u hu (by rw [rngD_length]; omega)
  rw [rngD_length] at l1 hu1
  obtain ⟨a, b, rfl⟩ : ∃ a b, as = [a, b] := by
    match as, l1 with
    | [a, b], _ => exact ⟨a, b, rfl⟩
  have A : RowOk a := g1 a List.mem_cons_self
  have B : RowOk b := g1 b (List.mem_cons_of_mem _ List.mem_cons_self)
  have ha : a.length ≤ 50 := Nat.le_trans A.len (by decide)
  have hb : b.length ≤ 50 := Nat.le_trans B.len (by decide)
  have pa := A.pos
  have pb := B.pos
  have sa := sumM_nonneg pa
  have sb := sumM_nonneg pb
  have sa2 := A.sm
  have sb2 := B.sm
  have ea := isl_eq a
  have eb := isl_eq b
  obtain ⟨h, u2, e2, h1, h2, hu2⟩ := p_take (n := 6) (by decide) (by decide) (by omega) hu1
  obtain ⟨i, u3, e3, i1, i2, hu3⟩ := p_take (n := isl a) (by omega) (log_small (by omega) (by omega)) (by omega) hu2
  obtain ⟨j, u4, e4, j1, j2, hu4⟩ := p_take (n := isl b) (by omega) (log_small (by omega) (by omega)) (by omega) hu3
  have hw : (jnR a h b).length ≤ 50 := by
    have := A.len
    have := B.len
    rw [List.length_append, List.length_cons]
    omega
  have pw := pos_app (h := h) pa pb
  have ew := isl_app (a := a) (b := b) (h := h)
  have tw := tops_app (a := a) (b := b) (h := h)
  have la := tops_len a
  have la5 := A.len
  have lb := tops_len b
  have lb5 := B.len
  have lw := tops_len (jnR a h b)
  have ac := lastH_across (h := h) pa pb ⟨i1, i2⟩ ⟨j1, j2⟩
  have inn := lastH_inside (h := h) pa pb ⟨i1, i2⟩
  have q1 := p_last (i := i) (j := isl a - 1) ha ⟨i1, i2⟩ ⟨by omega, by omega⟩
  have q2 := p_last (i := 0) (j := j) hb ⟨by omega, by omega⟩ ⟨j1, j2⟩
  have q3 := p_last (i := i) (j := isl a + j) hw ⟨i1, by omega⟩ ⟨by omega, by omega⟩
  have q4 := p_last (i := isl a + j) (j := i) hw ⟨by omega, by omega⟩ ⟨i1, by omega⟩
  have q5 := p_last (i := i) (j := isl a - 1) hw ⟨i1, by omega⟩ ⟨by omega, by omega⟩
  rw [ac.1] at q3
  rw [ac.2, ac.1] at q4
  rw [inn] at q5
  generalize lastH a i (isl a - 1) = o1 at *
  generalize lastH b 0 j = o2 at *
  obtain ⟨b1, b3, b4, b5, b6, b7, b13, b14, b15, b16, b17, b18, b19, b20, b21, b22, e5⟩ := levs_ok (h := h) A B u4 a1 (some (.val (.list ((setI (tops a ++ tops b ++ [h])).map .int)))) (some (.val (.list [optD o1, optD o2]))) (some (.val (.int (minI (h :: (o1.toList ++ o2.toList)))))) (some (.val (.list [.int (minI (h :: (o1.toList ++ o2.toList))), .int (minI (h :: (o1.toList ++ o2.toList)))]))) a7 (some (.val (.int i))) (some (.val (.int j))) a15 a16 a17 a18 a19 a20 a21 a22
  refine ⟨b1, some (.val (.int h)), b3, b4, b5, b6, b7, some (.val (rowD a)), some (.val (rowD b)), some (.val (rowD (jnR a h b))), some (.val (.int (isl a))), some (.val (.int (isl b))), b13, b14, b15, b16, b17, b18, b19, b20, b21, b22, u4, ?_, hu4.mono (by omega)⟩
  refine e_seq (e_asg (e_ofL (e_lc (fz := []) (e_rng (n := 2) rfl (by decide)) e1 (Nat.le_of_ble_eq_true rfl))) rfl) ?_
  refine e_seq (e_asg (e_callUV (e_curn rfl (e_ccons rfl rfl)) e2) rfl) ?_
  refine e_seq (e_par (e_pD (e_bin (e_bin (y := rowD [(1, h)]) rfl (e_tup (e_cons (e_tup (e_cons rfl (e_cons rfl rfl)) (Nat.le_of_ble_eq_true rfl)) rfl) (Nat.le_of_ble_eq_true rfl)) (row_add ha (Nat.le_of_ble_eq_true rfl))) rfl (row_add (by have := A.len; rw [List.length_append]; show _ + 1 ≤ _; omega) hb)) (e_pD (e_callV (e_cons rfl rfl) (p_islands ha)) (e_pD (e_callV (e_cons rfl rfl) (p_islands hb)) rfl))) rfl) ?_
  rw [show a ++ [(1, h)] ++ b = jnR a h b by rw [List.append_assoc] <;> rfl]
  refine e_seq (e_asg (e_ofL (e_sortSet (ns := tops a ++ tops b ++ [h]) (e_bin (e_bin (e_callV (e_cons rfl rfl) (p_waters ha)) (e_callV (e_cons rfl rfl) (p_waters hb)) (il_add (by omega) (by omega))) (y := .tuple ([h].map .int)) (e_tup (e_cons rfl rfl) (Nat.le_of_ble_eq_true rfl)) (il_add (by rw [List.length_append]; omega) (Nat.le_of_ble_eq_true rfl))) (.inr rfl) (by rw [List.length_append, List.length_append]; show _ + 1 < _; omega))) rfl) ?_
  refine e_seq (e_sifF (e_notT (e_tru (e_callV (e_cons (e_ofL (e_lst (e_cons (e_callV (e_cons rfl rfl) (p_islands hw)) (e_cons (e_callV (e_cons rfl rfl) (p_waters hw)) rfl)) (Nat.le_of_ble_eq_true rfl))) (e_cons (e_ofL (e_lst (e_cons (e_bin rfl rfl rfl) (e_cons (e_fn (e_cons rfl rfl) rfl) rfl)) (Nat.le_of_ble_eq_true rfl))) rfl)) (p_same (by rw [ew, tw]) (sok2 trivial (sok_it (by omega))))) rfl)) rfl rfl) ?_
  refine e_seq (e_par (e_pD (e_callUV (e_curn rfl (e_ccons rfl rfl)) e3) (e_pD (e_callUV (e_curn rfl (e_ccons rfl rfl)) e4) rfl)) rfl) ?_
  refine e_seq (e_asg (e_ofL (e_lst (e_cons (e_callV (e_cons rfl (e_cons rfl (e_cons (e_bin rfl rfl rfl) rfl))) q1) (e_cons (e_callV (e_cons rfl (e_cons rfl (e_cons rfl rfl))) q2) rfl)) (Nat.le_of_ble_eq_true rfl))) rfl) ?_
  refine e_seq (e_asg (e_fn (d := .int (minI (h :: (o1.toList ++ o2.toList)))) (e_cons (e_bin (e_ofL (e_lst (e_cons rfl rfl) (Nat.le_of_ble_eq_true rfl))) (e_ofL (e_lcm (xs := [o1, o2]) (enc := optD) (p := Option.isSome) (f := optD) rfl (fun o _ => by cases o <;> rfl) (Nat.le_of_ble_eq_true rfl))) (dl_add (Nat.le_of_ble_eq_true rfl) (by rw [opt_filt, List.length_map]; cases o1 <;> cases o2 <;> exact Nat.le_of_ble_eq_true rfl))) rfl) (by rw [opt_filt]; exact min_ints)) rfl) ?_
  refine e_seq (e_asg (e_ofL (e_lst (e_cons (e_callV (e_cons rfl (e_cons rfl (e_cons (e_bin rfl rfl rfl) rfl))) q3) rfl) (Nat.le_of_ble_eq_true rfl))) rfl) ?_
  refine e_seq (e_asg (e_bin rfl (e_ofL (e_lst (e_cons (e_callV (e_cons rfl (e_cons (e_bin rfl rfl rfl) (e_cons rfl rfl))) q4) rfl) (Nat.le_of_ble_eq_true rfl))) (dl_add (Nat.le_of_ble_eq_true rfl) (Nat.le_of_ble_eq_true rfl))) rfl) ?_
  refine e_seq (e_sifF (e_notT (e_tru (e_callV (e_cons rfl (e_cons (e_ofL (e_lst (e_cons rfl (e_cons rfl rfl)) (Nat.le_of_ble_eq_true rfl))) rfl)) (p_same rfl (sok2 trivial trivial))) rfl)) rfl rfl) ?_
  refine e_seq (e_sifF (e_notT (e_tru (e_callV (e_cons (e_callV (e_cons rfl (e_cons rfl (e_cons (e_bin rfl rfl rfl) rfl))) q5) (e_cons (e_ixN rfl rfl rfl) rfl)) (p_same rfl (sok_opt _ _))) rfl)) rfl rfl) ?_
  exact e5
theorem right_ok {u : List Int} (hu : UOk 0 u) : ∃ u', m__law_right [.urn] (some u) = some (.val (.bool true), u') := by
  obtain ⟨s', e, b1, b2, b3, b4, b5, b6, b7, b8, b9, b10, b11, b12, b13, b14, b15, b16, b17, b18, b19, b20, b21, b22, u', rfl, hu'⟩ := for_invN (g := gN 1) (mb := turnB) (fun n s => ∃ b1 b2 b3 b4 b5 b6 b7 b8 b9 b10 b11 b12 b13 b14 b15 b16 b17 b18 b19 b20 b21 b22 : Option SV, ∃ u' : List Int, s = ⟨[some .urn, b1, b2, b3, b4, b5, b6, b7, b8, b9, b10, b11, b12, b13, b14, b15, b16, b17, b18, b19, b20, b21, b22], some u'⟩ ∧ UOk (30 * n) u') (rngD 0 8) 0 ⟨slotsOf 23 [.urn], some u⟩ ⟨none, none, none, none, none, none, none, none, none, none, none, none, none, none, none, none, none, none, none, none, none, none, u, rfl, hu⟩ (by
    rintro d hd n s hn ⟨c1, c2, c3, c4, c5, c6, c7, c8, c9, c10, c11, c12, c13, c14, c15, c16, c17, c18, c19, c20, c21, c22, u1, rfl, hu1⟩
    have hn' : n < 8 := by rw [rngD_length] at hn; omega
    obtain ⟨b1, b2, b3, b4, b5, b6, b7, b8, b9, b10, b11, b12, b13, b14, b15, b16, b17, b18, b19, b20, b21, b22, u2, e, hu2⟩ := turn_ok (k := 30 * n) (by omega) hu1 (some (.val d)) c2 c3 c4 c5 c6 c7 c8 c9 c10 c11 c12 c13 c14 c15 c16 c17 c18 c19 c20 c21 c22
    exact ⟨_, _, rfl, e, b1, b2, b3, b4, b5, b6, b7, b8, b9, b10, b11, b12, b13, b14, b15, b16, b17, b18, b19, b20, b21, b22, u2, rfl, hu2.mono (by omega)⟩)
  exact ⟨some u', e_run rfl (e_seq (e_sifF (e_notT (e_tru (e_call0 byhand) rfl)) rfl rfl) (e_seq (e_for rfl e) rfl))⟩
theorem plain : ∀ ns : List Int, ns.length ≤ 63 → m_law [.val (scrD ns)] none = some (.val (.bool true), none) := by
  intro ns hl
  obtain ⟨cs, e, h1, h2⟩ := cells_ok (ns := ns) (t := 3) (by decide) (by decide) hl
  exact e_run rfl (e_seq (e_asg (e_callW (e_cons rfl (e_cons rfl rfl)) e) rfl) (e_ret2 (all_ok (R := m__law_right) (c := 142398) (by decide) (by decide) h2 fun u hu => right_ok hu) rfl))
end DT

set_option pp.maxSteps 60
set_option Elab.async false
set_option linter.all false
set_option maxRecDepth 100000
set_option maxHeartbeats 4000000
namespace DT
open PySem PySem.Spec PyProof.Rows L2 DL
def topS (i : Nat) : Stmt := PySem.Challenge.pw_lastfords_k98_whole_great_rows_one_behin.main.body.getD i (.Pass ⟨0, 0, 0, 0⟩)
structure Mg (mg : Str → Option Value) : Prop where
  «abs» : mg "abs" = none
  «all» : mg "all" = none
  «bool» : mg "bool" = none
  «enumerate» : mg "enumerate" = none
  «int» : mg "int" = none
  «isinstance» : mg "isinstance" = none
  «len» : mg "len" = none
  «list» : mg "list" = none
  «max» : mg "max" = none
  «min» : mg "min" = none
  «range» : mg "range" = none
  «set» : mg "set" = none
  «sorted» : mg "sorted" = none
  «str» : mg "str" = none
  «sum» : mg "sum" = none
  «tuple» : mg "tuple" = none
  «zip» : mg "zip" = none
section
variable {P : Program} {w : World} {K : PySem.W.Frag} {mg : Str → Option Value} {base : Heap}
abbrev st_islands_in : Stmt := topS 3
theorem sc_islands_in : FnScope ["row", "many", "height"] ["row"] (defScope st_islands_in) := ⟨rfl, rfl, rfl, by decide +kernel, rfl, by decide +kernel, by decide +kernel⟩
theorem ok_islands_in {f : Addr} {fd : FuncData} (T : Mg mg) (F : Fun K "islands_in" "islands_in" st_islands_in f fd) (hm : mg "islands_in" = some (.ref f))  : FnD P w K mg base "islands_in" 1 m_islands_in :=
  fnD_mk (m := b_islands_in) F sc_islands_in hm (F.binds (ps := ["row"]) fun _ _ _ _ _ _ us hl => match us, hl with | [_], _ => rfl) (fun cdv A outer s H E hr => (dss_one (ds_ret (de_bin od_add de_int (de_fnB (cd_sum rfl) T.sum (by decide +kernel) (da_cons (de_ofL (dl_lc (own := [("many", 1), ("height", 2)]) [] sc_islands_in.nd (di_seq (dv 0)) (blkOk_by (by kernel_rfl)) (fun _ _ _ _ _ => (dg_tup rfl (dgs_cons (dg (i := 1) sc_islands_in.nd) (dgs_cons (dg (i := 2) sc_islands_in.nd) dgs_nil)))) (fun _ _ _ _ _ => dts_nil) (fun _ _ _ _ _ => (dv 1)))) da_nil))))))
abbrev st_check : Stmt := topS 4
theorem sc_check : FnScope ["row", "islands", "many", "island"] ["row", "islands"] (defScope st_check) := ⟨rfl, rfl, rfl, by decide +kernel, rfl, by decide +kernel, by decide +kernel⟩
theorem ok_check {f : Addr} {fd : FuncData} (T : Mg mg) (F : Fun K "check" "check" st_check f fd) (hm : mg "check" = some (.ref f)) (G_islands_in : FnD P w K mg base "islands_in" 1 (m_islands_in)) : FnD P w K mg base "check" 2 m_check :=
  fnD_mk (m := b_check) F sc_check hm (F.binds (ps := ["row", "islands"]) fun _ _ _ _ _ _ us hl => match us, hl with | [_, _], _ => rfl) (fun cdv A outer s H E hr => (dss_cons (ds_set (i := 2) sc_check.nd (de_call G_islands_in (hr.mono (by decide)) (da_cons (dv 0) da_nil)))
  (dss_one (ds_for (di_seq (dv 1)) (dg (i := 3) sc_check.nd) (dss_one (ds_if (dt_not (dt_chn od_le od_lt de_int (dv 3) (dv 2))) (dss_one ds_never) dss_nil))))))
abbrev st_runs_of : Stmt := topS 5
theorem sc_runs_of : FnScope ["row", "found", "first", "many", "height"] ["row"] (defScope st_runs_of) := ⟨rfl, rfl, rfl, by decide +kernel, rfl, by decide +kernel, by decide +kernel⟩
theorem ok_runs_of {f : Addr} {fd : FuncData} (T : Mg mg) (F : Fun K "runs_of" "runs_of" st_runs_of f fd) (hm : mg "runs_of" = some (.ref f))  : FnD P w K mg base "runs_of" 1 m_runs_of :=
  fnD_mk (m := b_runs_of) F sc_runs_of hm (F.binds (ps := ["row"]) fun _ _ _ _ _ _ us hl => match us, hl with | [_], _ => rfl) (fun cdv A outer s H E hr => (dss_cons (ds_par (i := 1) (j := 2) sc_runs_of.nd (dp_l (dl_lst da_nil) (dp_d de_int dp_nil)))
  (dss_cons (ds_for (di_seq (dv 0)) (dg_tup rfl (dgs_cons (dg (i := 3) sc_runs_of.nd) (dgs_cons (dg (i := 4) sc_runs_of.nd) dgs_nil))) (dss_cons (ds_app (pv 1) (de_tup (da_cons (dv 2) (da_cons (de_bin od_add (dv 2) (dv 3)) (da_cons (dv 4) da_nil)))))
  (dss_one (ds_set (i := 2) sc_runs_of.nd (de_bin od_add (dv 2) (dv 3))))))
  (dss_one (ds_retV (pv 1))))))
abbrev st_last_height : Stmt := topS 6
theorem sc_last_height : FnScope ["row", "one", "other", "heights", "low", "high", "first", "last", "height"] ["row", "one", "other"] (defScope st_last_height) := ⟨rfl, rfl, rfl, by decide +kernel, rfl, by decide +kernel, by decide +kernel⟩
theorem ok_last_height {f : Addr} {fd : FuncData} (T : Mg mg) (F : Fun K "last_height" "last_height" st_last_height f fd) (hm : mg "last_height" = some (.ref f)) (G_check : FnD P w K mg base "check" 2 (m_check)) (G_runs_of : FnD P w K mg base "runs_of" 1 (m_runs_of)) : FnD P w K mg base "last_height" 3 m_last_height :=
  fnD_mk (m := b_last_height) F sc_last_height hm (F.binds (ps := ["row", "one", "other"]) fun _ _ _ _ _ _ us hl => match us, hl with | [_, _, _], _ => rfl) (fun cdv A outer s H E hr => (dss_cons (ds_expr (de_call G_check (hr.mono (by decide)) (da_cons (dv 0) (da_cons (de_tup (da_cons (dv 1) (da_cons (dv 2) da_nil))) da_nil))))
  (dss_cons (ds_asg (de_tup (da_cons (de_fnB (cd_min rfl) T.min (by decide +kernel) (da_cons (dv 1) (da_cons (dv 2) da_nil))) (da_cons (de_fnB (cd_max rfl) T.max (by decide +kernel) (da_cons (dv 1) (da_cons (dv 2) da_nil))) da_nil))) (dg_tup rfl (dgs_cons (dg (i := 4) sc_last_height.nd) (dgs_cons (dg (i := 5) sc_last_height.nd) dgs_nil))))
  (dss_cons (ds_setLc (i := 3) (own := [("first", 6), ("last", 7), ("height", 8)]) [] sc_last_height.nd (sw_true rfl rfl rfl (by decide +kernel)) (di_seq (de_call G_runs_of (hr.mono (by decide)) (da_cons (dv 0) da_nil))) (blkOk_by (by kernel_rfl)) (fun _ _ _ _ _ => (dg_tup rfl (dgs_cons (dg (i := 6) sc_last_height.nd) (dgs_cons (dg (i := 7) sc_last_height.nd) (dgs_cons (dg (i := 8) sc_last_height.nd) dgs_nil))))) (fun _ _ _ _ _ => (dts_one (dt_cmp od_lt (de_fnB (cd_max rfl) T.max (by decide +kernel) (da_cons (dv 6) (da_cons (dv 4) da_nil))) (de_fnB (cd_min rfl) T.min (by decide +kernel) (da_cons (dv 7) (da_cons (dv 5) da_nil))) (nomark _)))) (fun _ _ _ _ _ => (dv 8)))
  (dss_one (ds_ret (de_if (dt_cmp od_gt (de_lenN T.len (pv 3)) de_int (nomark _)) (de_fnB (cd_min rfl) T.min (by decide +kernel) (da_cons (dv 3) da_nil)) de_non)))))))
abbrev st_lots_of : Stmt := topS 7
theorem sc_lots_of : FnScope ["row", "water", "found", "first", "last", "height"] ["row", "water"] (defScope st_lots_of) := ⟨rfl, rfl, rfl, by decide +kernel, rfl, by decide +kernel, by decide +kernel⟩
theorem ok_lots_of {f : Addr} {fd : FuncData} (T : Mg mg) (F : Fun K "lots_of" "lots_of" st_lots_of f fd) (hm : mg "lots_of" = some (.ref f)) (G_runs_of : FnD P w K mg base "runs_of" 1 (m_runs_of)) : FnD P w K mg base "lots_of" 2 m_lots_of :=
  fnD_mk (m := b_lots_of) F sc_lots_of hm (F.binds (ps := ["row", "water"]) fun _ _ _ _ _ _ us hl => match us, hl with | [_, _], _ => rfl) (fun cdv A outer s H E hr => (dss_cons (ds_setL (i := 2) sc_lots_of.nd (dl_lst da_nil))
  (dss_cons (ds_for (di_seq (de_call G_runs_of (hr.mono (by decide)) (da_cons (dv 0) da_nil))) (dg_tup rfl (dgs_cons (dg (i := 3) sc_lots_of.nd) (dgs_cons (dg (i := 4) sc_lots_of.nd) (dgs_cons (dg (i := 5) sc_lots_of.nd) dgs_nil)))) (dss_one (ds_if (dt_cmp od_gt (dv 5) (dv 1) (nomark _)) (dss_one (ds_if (PW.pt (dw_and (dt_cmp od_gt (de_lenN T.len (pv 2)) de_int (nomark _)) (dw_and1 (dt_cmp (od_eq hr.units) (de_ix (de_ixN' (pv 2) (de_un ud_neg de_int)) de_int) (dv 3) (nomark _))))) (dss_one (ds_setIx' (i := 2) (de_tup (da_cons (de_ix (de_ixN' (pv 2) (de_un ud_neg de_int)) de_int) (da_cons (dv 4) da_nil))) (pg_sub (pv 2) (de_un ud_neg de_int) set_list))) (dss_one (ds_app (pv 2) (de_tup (da_cons (dv 3) (da_cons (dv 4) da_nil))))))) dss_nil)))
  (dss_one (ds_retV (pv 2))))))
abbrev st_lots_at : Stmt := topS 8
theorem sc_lots_at : FnScope ["row", "water", "many", "height"] ["row", "water"] (defScope st_lots_at) := ⟨rfl, rfl, rfl, by decide +kernel, rfl, by decide +kernel, by decide +kernel⟩
theorem ok_lots_at {f : Addr} {fd : FuncData} (T : Mg mg) (F : Fun K "lots_at" "lots_at" st_lots_at f fd) (hm : mg "lots_at" = some (.ref f))  : FnD P w K mg base "lots_at" 1 m_lots_at :=
  fnD_mk (m := b_lots_at) F sc_lots_at hm (F.binds (ps := ["row", "water"]) fun _ _ _ _ _ _ us hl => match us, hl with | [_, _], _ => rfl) (fun cdv A outer s H E hr => (dss_one (ds_ret (de_bin od_add de_int (de_fnB (cd_sum rfl) T.sum (by decide +kernel) (da_cons (de_ofL (dl_lc (own := [("many", 2), ("height", 3)]) [] sc_lots_at.nd (di_seq (dv 0)) (blkOk_by (by kernel_rfl)) (fun _ _ _ _ _ => (dg_tup rfl (dgs_cons (dg (i := 2) sc_lots_at.nd) (dgs_cons (dg (i := 3) sc_lots_at.nd) dgs_nil)))) (fun _ _ _ _ _ => (dts_one (dt_cmp od_le (dv 3) (dv 1) (nomark _)))) (fun _ _ _ _ _ => (dv 2)))) da_nil))))))
abbrev st_lot_at : Stmt := topS 9
theorem sc_lot_at : FnScope ["row", "island", "water", "first", "last"] ["row", "island", "water"] (defScope st_lot_at) := ⟨rfl, rfl, rfl, by decide +kernel, rfl, by decide +kernel, by decide +kernel⟩
theorem ok_lot_at {f : Addr} {fd : FuncData} (T : Mg mg) (F : Fun K "lot_at" "lot_at" st_lot_at f fd) (hm : mg "lot_at" = some (.ref f)) (G_check : FnD P w K mg base "check" 2 (m_check)) (G_lots_of : FnD P w K mg base "lots_of" 2 (m_lots_of)) : FnD P w K mg base "lot_at" 3 m_lot_at :=
  fnD_mk (m := b_lot_at) F sc_lot_at hm (F.binds (ps := ["row", "island", "water"]) fun _ _ _ _ _ _ us hl => match us, hl with | [_, _, _], _ => rfl) (fun cdv A outer s H E hr => (dss_cons (ds_expr (de_call G_check (hr.mono (by decide)) (da_cons (dv 0) (da_cons (de_tup (da_cons (dv 1) da_nil)) da_nil))))
  (dss_cons (ds_for (di_seq (de_call G_lots_of (hr.mono (by decide)) (da_cons (dv 0) (da_cons (dv 2) da_nil)))) (dg_tup rfl (dgs_cons (dg (i := 3) sc_lot_at.nd) (dgs_cons (dg (i := 4) sc_lot_at.nd) dgs_nil))) (dss_one (ds_if (dt_chn od_le od_le (dv 3) (dv 1) (dv 4)) (dss_one (ds_ret (de_tup (da_cons (dv 3) (da_cons (dv 4) da_nil))))) dss_nil)))
  (dss_one (ds_ret (de_tup (da_cons (dv 1) (da_cons (dv 1) da_nil))))))))
abbrev st_greatest_lot : Stmt := topS 10
theorem sc_greatest_lot : FnScope ["row", "water", "first", "last"] ["row", "water"] (defScope st_greatest_lot) := ⟨rfl, rfl, rfl, by decide +kernel, rfl, by decide +kernel, by decide +kernel⟩
theorem ok_greatest_lot {f : Addr} {fd : FuncData} (T : Mg mg) (F : Fun K "greatest_lot" "greatest_lot" st_greatest_lot f fd) (hm : mg "greatest_lot" = some (.ref f)) (G_lots_of : FnD P w K mg base "lots_of" 2 (m_lots_of)) : FnD P w K mg base "greatest_lot" 3 m_greatest_lot :=
  fnD_mk (m := b_greatest_lot) F sc_greatest_lot hm (F.binds (ps := ["row", "water"]) fun _ _ _ _ _ _ us hl => match us, hl with | [_, _], _ => rfl) (fun cdv A outer s H E hr => (dss_one (ds_ret (de_fnB (cd_max rfl) T.max (by decide +kernel) (da_cons (de_ofL (dl_lst (da_cons de_int (da_star (de_ofL (dl_lc (own := [("first", 2), ("last", 3)]) [] sc_greatest_lot.nd (di_seq (de_call G_lots_of (hr.mono (by decide)) (da_cons (dv 0) (da_cons (dv 1) da_nil)))) (blkOk_by (by kernel_rfl)) (fun _ _ _ _ _ => (dg_tup rfl (dgs_cons (dg (i := 2) sc_greatest_lot.nd) (dgs_cons (dg (i := 3) sc_greatest_lot.nd) dgs_nil)))) (fun _ _ _ _ _ => dts_nil) (fun _ _ _ _ _ => (de_bin od_add (de_bin od_sub (dv 3) (dv 2)) de_int)))) da_nil)))) da_nil)))))
abbrev st_how_many_joined : Stmt := topS 11
theorem sc_how_many_joined : FnScope ["row", "water", "sizes", "first", "last", "size"] ["row", "water"] (defScope st_how_many_joined) := ⟨rfl, rfl, rfl, by decide +kernel, rfl, by decide +kernel, by decide +kernel⟩
theorem ok_how_many_joined {f : Addr} {fd : FuncData} (T : Mg mg) (F : Fun K "how_many_joined" "how_many_joined" st_how_many_joined f fd) (hm : mg "how_many_joined" = some (.ref f)) (G_lots_of : FnD P w K mg base "lots_of" 2 (m_lots_of)) : FnD P w K mg base "how_many_joined" 3 m_how_many_joined :=
  fnD_mk (m := b_how_many_joined) F sc_how_many_joined hm (F.binds (ps := ["row", "water"]) fun _ _ _ _ _ _ us hl => match us, hl with | [_, _], _ => rfl) (fun cdv A outer s H E hr => (dss_cons (ds_setLc (i := 2) (own := [("first", 3), ("last", 4)]) [] sc_how_many_joined.nd (sw_true rfl rfl rfl (by decide +kernel)) (di_seq (de_call G_lots_of (hr.mono (by decide)) (da_cons (dv 0) (da_cons (dv 1) da_nil)))) (blkOk_by (by kernel_rfl)) (fun _ _ _ _ _ => (dg_tup rfl (dgs_cons (dg (i := 3) sc_how_many_joined.nd) (dgs_cons (dg (i := 4) sc_how_many_joined.nd) dgs_nil)))) (fun _ _ _ _ _ => dts_nil) (fun _ _ _ _ _ => (de_bin od_add (de_bin od_sub (dv 4) (dv 3)) de_int)))
  (dss_one (ds_ret (de_fnB (cd_sum rfl) T.sum (by decide +kernel) (da_cons (de_ofL (dl_lc (own := [("size", 5)]) [] sc_how_many_joined.nd (di_seq (dv 2)) (blkOk_by (by kernel_rfl)) (fun _ _ _ _ _ => (dg (i := 5) sc_how_many_joined.nd)) (fun _ _ _ _ _ => dts_nil) (fun _ _ _ _ _ => (de_bin od_fdiv (de_bin od_mul (dv 5) (de_bin od_sub (dv 5) de_int)) de_int)))) da_nil))))))
abbrev st_waters_of : Stmt := topS 12
theorem sc_waters_of : FnScope ["row", "many", "height"] ["row"] (defScope st_waters_of) := ⟨rfl, rfl, rfl, by decide +kernel, rfl, by decide +kernel, by decide +kernel⟩
theorem ok_waters_of {f : Addr} {fd : FuncData} (T : Mg mg) (F : Fun K "waters_of" "waters_of" st_waters_of f fd) (hm : mg "waters_of" = some (.ref f))  : FnD P w K mg base "waters_of" 1 m_waters_of :=
  fnD_mk (m := b_waters_of) F sc_waters_of hm (F.binds (ps := ["row"]) fun _ _ _ _ _ _ us hl => match us, hl with | [_], _ => rfl) (fun cdv A outer s H E hr => (dss_one (ds_ret (de_fnT cd_tup T.tuple (by decide +kernel) (da_cons (de_ofL (dl_sortSet T.sorted T.set (de_ofL (dl_lc (own := [("many", 1), ("height", 2)]) [] sc_waters_of.nd (di_seq (dv 0)) (blkOk_by (by kernel_rfl)) (fun _ _ _ _ _ => (dg_tup rfl (dgs_cons (dg (i := 1) sc_waters_of.nd) (dgs_cons (dg (i := 2) sc_waters_of.nd) dgs_nil)))) (fun _ _ _ _ _ => dts_nil) (fun _ _ _ _ _ => (dv 2)))))) da_nil)))))
abbrev st__law_box : Stmt := topS 14
theorem sc__law_box : FnScope ["_law_script", "_law_k", "_law_cell"] ["_law_script", "_law_k"] (defScope st__law_box) := ⟨rfl, rfl, rfl, by decide +kernel, rfl, by decide +kernel, by decide +kernel⟩
theorem ok__law_box {f : Addr} {fd : FuncData} (T : Mg mg) (F : Fun K "_law_box" "_law_box" st__law_box f fd) (hm : mg "_law_box" = some (.ref f))  : FnD P w K mg base "_law_box" 1 m__law_box :=
  fnD_mk (m := b__law_box) F sc__law_box hm (F.binds (ps := ["_law_script", "_law_k"]) fun _ _ _ _ _ _ us hl => match us, hl with | [_, _], _ => rfl) (fun cdv A outer s H E hr => (dss_cons (ds_set (i := 2) sc__law_box.nd (de_if (dt_cmp od_lt (dv 1) (de_lenN T.len (pv 0)) (nomark _)) (de_ixN' (pv 0) (dv 1)) de_int))
  (dss_one (ds_retL (dl_lst (da_cons (de_bin od_mul (de_fnB cd_abs T.abs (by decide +kernel) (da_cons (dv 2) da_nil)) (de_fnT cd_int T.int (by decide +kernel) (da_cons (de_cmp od_ge (de_fnB cd_abs T.abs (by decide +kernel) (da_cons (dv 2) da_nil)) (de_bin od_pow de_int de_int) (nomark _)) da_nil))) (da_cons (de_bin od_add (de_bin od_add (de_bin od_mod (de_fnT cd_int T.int (by decide +kernel) (da_cons (dv 2) da_nil)) de_int) (de_bin od_mul de_int (dv 1))) de_int) (da_cons de_int da_nil))))))))
abbrev st__law_take : Stmt := topS 15
theorem sc__law_take : FnScope ["_law_urn", "_law_low_so", "_law_once", "_law_far", "_law_twice", "_law_drawn"] ["_law_urn", "_law_low_so"] (defScope st__law_take) := ⟨rfl, rfl, rfl, by decide +kernel, rfl, by decide +kernel, by decide +kernel⟩
theorem ok__law_take {f : Addr} {fd : FuncData} (T : Mg mg) (F : Fun K "_law_take" "_law_take" st__law_take f fd) (hm : mg "_law_take" = some (.ref f))  : FnD P w K mg base "_law_take" 1 m__law_take :=
  fnD_mk (m := b__law_take) F sc__law_take hm (F.binds (ps := ["_law_urn", "_law_low_so"]) fun _ _ _ _ _ _ us hl => match us, hl with | [_, _], _ => rfl) (fun cdv A outer s H E hr => (dss_cons (ds_if (dt_cmp od_gt (de_ixN' (pv 0) de_int) de_int (nomark _)) (dss_cons (ds_set (i := 5) sc__law_take.nd (de_bin od_mod (de_fnT cd_int T.int (by decide +kernel) (da_cons (de_ixN' (pv 0) de_int) da_nil)) (dv 1)))
  (dss_cons (ds_setIx' (i := 0) (de_bin od_fdiv (de_ixN' (pv 0) de_int) (dv 1)) (pg_sub (pv 0) de_int set_list))
  (dss_one (ds_retV (pv 5))))) dss_nil)
  (dss_cons (ds_setIx' (i := 0) (de_bin od_add (de_ixN' (pv 0) de_int) de_int) (pg_sub (pv 0) de_int set_list))
  (dss_cons (ds_set (i := 2) sc__law_take.nd (de_bin od_mod (de_fnT cd_int T.int (by decide +kernel) (da_cons (de_bin od_mul (de_bin od_add (de_ixN' (pv 0) de_int) (de_bin od_mul de_int (de_ixN' (pv 0) de_int))) (de_bin od_add de_int (de_ixN' (pv 0) de_int))) da_nil)) de_int))
  (dss_cons (ds_set (i := 3) sc__law_take.nd (de_bin od_add (de_bin od_mod (de_fnT cd_int T.int (by decide +kernel) (da_cons (dv 2) da_nil)) de_int) de_int))
  (dss_cons (ds_set (i := 4) sc__law_take.nd (de_bin od_mod (de_fnT cd_int T.int (by decide +kernel) (da_cons (de_bin od_mul (de_bin od_add (de_bin od_add (dv 2) (de_ixN' (pv 0) de_int)) (de_bin od_fdiv (de_ixN' (pv 0) de_int) de_int)) (dv 3)) da_nil)) de_int))
  (dss_one (ds_ret (de_bin od_mod (de_fnT cd_int T.int (by decide +kernel) (da_cons (de_bin od_fdiv (de_bin od_mod (de_fnT cd_int T.int (by decide +kernel) (da_cons (de_bin od_add (de_bin od_mul (dv 4) de_int) (dv 2)) da_nil)) de_int) de_int) da_nil)) (dv 1))))))))))
abbrev st__law_cells : Stmt := topS 16
theorem sc__law_cells : FnScope ["_law_script", "_law_top", "_law_cells_here", "_law_k", "_law_cell", "_law_at_so"] ["_law_script", "_law_top"] (defScope st__law_cells) := ⟨rfl, rfl, rfl, by decide +kernel, rfl, by decide +kernel, by decide +kernel⟩
theorem ok__law_cells {f : Addr} {fd : FuncData} (T : Mg mg) (F : Fun K "_law_cells" "_law_cells" st__law_cells f fd) (hm : mg "_law_cells" = some (.ref f))  : FnD P w K mg base "_law_cells" 1 m__law_cells :=
  fnD_mk (m := b__law_cells) F sc__law_cells hm (F.binds (ps := ["_law_script", "_law_top"]) fun _ _ _ _ _ _ us hl => match us, hl with | [_, _], _ => rfl) (fun cdv A outer s H E hr => (dss_cons (ds_setL (i := 2) sc__law_cells.nd (dl_or (dl_fnT cl_list T.list (by decide +kernel) (da_cons (de_sl (dv 0) do_none (do_some (dv 1))) da_nil)) (dl_one (dl_lst (da_cons de_int da_nil)))))
  (dss_cons (ds_for (di_enum T.enumerate (da_cons (de_sl (dv 0) (do_some (dv 1)) (do_some de_int)) da_nil)) (dg_tup rfl (dgs_cons (dg (i := 3) sc__law_cells.nd) (dgs_cons (dg (i := 4) sc__law_cells.nd) dgs_nil))) (dss_cons (ds_set (i := 5) sc__law_cells.nd (de_bin od_mod (de_fnT cd_int T.int (by decide +kernel) (da_cons (dv 3) da_nil)) (dv 1)))
  (dss_one (ds_setIx' (i := 2) (de_bin od_add (de_ixN' (pv 2) (dv 5)) (de_bin od_mul (dv 4) (de_bin od_add (dv 3) de_int))) (pg_sub (pv 2) (dv 5) set_list)))))
  (dss_one (ds_retV (pv 2))))))
abbrev st__law_of : Stmt := topS 17
theorem sc__law_of : FnScope ["_law_urn", "_law_some_so"] ["_law_urn", "_law_some_so"] (defScope st__law_of) := ⟨rfl, rfl, rfl, by decide +kernel, rfl, by decide +kernel, by decide +kernel⟩
theorem ok__law_of {f : Addr} {fd : FuncData} (T : Mg mg) (F : Fun K "_law_of" "_law_of" st__law_of f fd) (hm : mg "_law_of" = some (.ref f)) (G__law_take : FnD P w K mg base "_law_take" 1 (m__law_take)) : FnD P w K mg base "_law_of" 2 m__law_of :=
  fnD_mk (m := b__law_of) F sc__law_of hm (F.binds (ps := ["_law_urn", "_law_some_so"]) fun _ _ _ _ _ _ us hl => match us, hl with | [_, _], _ => rfl) (fun cdv A outer s H E hr => (dss_one (ds_ret (de_ixN' (pv 1) (de_callU G__law_take (hr.mono (by decide)) (dc_urn (pv 0) (dc_cons (de_lenN T.len (pv 1)) dc_nil)))))))
abbrev st__law_same : Stmt := topS 18
theorem sc__law_same : FnScope ["_law_got", "_law_goal", "_law_mine_so", "_law_own"] ["_law_got", "_law_goal"] (defScope st__law_same) := ⟨rfl, rfl, rfl, by decide +kernel, rfl, by decide +kernel, by decide +kernel⟩
theorem ok__law_same {f : Addr} {fd : FuncData} (T : Mg mg) (F : Fun K "_law_same" "_law_same" st__law_same f fd) (hm : mg "_law_same" = some (.ref f))  : ∀ n, FnD P w K mg base "_law_same" (n + 1) (m__law_same n)
  | 0 => fnD_none F sc__law_same hm (F.binds (ps := ["_law_got", "_law_goal"]) fun _ _ _ _ _ _ us hl => match us, hl with | [_, _], _ => rfl)
  | n + 1 => by
    have ih := ok__law_same T F hm  n
    exact fnD_mk (m := b__law_same (m__law_same n)) F sc__law_same hm (F.binds (ps := ["_law_got", "_law_goal"]) fun _ _ _ _ _ _ us hl => match us, hl with | [_, _], _ => rfl) (fun cdv A outer s H E hr => (dss_cons (ds_if (dt_val (de_isa2 (t := "list") (u := "tuple") T.isinstance T.list (by decide +kernel) T.tuple (by decide +kernel) (by decide +kernel) (by decide +kernel) (dv 1))) (dss_cons (ds_if (PW.pt (dw_or (dt_cmp (od_ne hr.units) (de_isa (k := 0) (t := "list") T.isinstance T.list (by decide +kernel) (by decide +kernel) (dv 0)) (de_isa (k := 0) (t := "list") T.isinstance T.list (by decide +kernel) (by decide +kernel) (dv 1)) (nomark _)) (dw_or1 (dt_cmp (od_ne hr.units) (de_isa (k := 0) (t := "tuple") T.isinstance T.tuple (by decide +kernel) (by decide +kernel) (dv 0)) (de_isa (k := 0) (t := "tuple") T.isinstance T.tuple (by decide +kernel) (by decide +kernel) (dv 1)) (nomark _))))) (dss_one (ds_ret de_bl)) dss_nil)
  (dss_one (ds_ret (de_and (de_cmp (od_eq hr.units) (de_lenN T.len (pv 0)) (de_lenN T.len (pv 1)) (nomark _)) (de_one (de_fnB (cd_all rfl) T.all (by decide +kernel) (da_cons (de_ofL (dl_lc (own := [("_law_mine_so", 2), ("_law_own", 3)]) [] sc__law_same.nd (di_zip T.zip (da_cons (dv 0) (da_cons (dv 1) da_nil))) (blkOk_by (by kernel_rfl)) (fun _ _ _ _ _ => (dg_tup rfl (dgs_cons (dg (i := 2) sc__law_same.nd) (dgs_cons (dg (i := 3) sc__law_same.nd) dgs_nil)))) (fun _ _ _ _ _ => dts_nil) (fun _ _ _ _ _ => (de_call ih hr (da_cons (dv 2) (da_cons (dv 3) da_nil)))))) da_nil))))))) dss_nil)
  (dss_cons (ds_if (PW.pt (dw_or (dt_cmp od_is (dv 1) de_non (nomark _)) (dw_or1 (dt_val (de_isa2 (t := "bool") (u := "str") T.isinstance T.bool (by decide +kernel) T.str (by decide +kernel) (by decide +kernel) (by decide +kernel) (dv 1)))))) (dss_one (ds_ret (de_and (de_cmp (od_eq hr.units) (dv 0) (dv 1) (nomark _)) (de_and (de_cmp (od_eq hr.units) (de_isa (k := 0) (t := "bool") T.isinstance T.bool (by decide +kernel) (by decide +kernel) (dv 0)) (de_isa (k := 0) (t := "bool") T.isinstance T.bool (by decide +kernel) (by decide +kernel) (dv 1)) (nomark _)) (de_one (de_cmp (od_eq hr.units) (de_cmp od_is (dv 0) de_non (nomark _)) (de_cmp od_is (dv 1) de_non (nomark _)) (nomark _))))))) dss_nil)
  (dss_one (ds_ret (de_and (de_isa (k := 0) (t := "int") T.isinstance T.int (by decide +kernel) (by decide +kernel) (dv 0)) (de_and (de_not (de_isa (k := 0) (t := "bool") T.isinstance T.bool (by decide +kernel) (by decide +kernel) (dv 0))) (de_one (de_cmp (od_eq hr.units) (dv 0) (dv 1) (nomark _))))))))))
abbrev st__law_row : Stmt := topS 19
theorem sc__law_row : FnScope ["_law_urn", "_law_most", "_law_top", "_law_own"] ["_law_urn", "_law_most", "_law_top"] (defScope st__law_row) := ⟨rfl, rfl, rfl, by decide +kernel, rfl, by decide +kernel, by decide +kernel⟩
theorem ok__law_row {f : Addr} {fd : FuncData} (T : Mg mg) (F : Fun K "_law_row" "_law_row" st__law_row f fd) (hm : mg "_law_row" = some (.ref f)) (G__law_take : FnD P w K mg base "_law_take" 1 (m__law_take)) : FnD P w K mg base "_law_row" 2 m__law_row :=
  fnD_mk (m := b__law_row) F sc__law_row hm (F.binds (ps := ["_law_urn", "_law_most", "_law_top"]) fun _ _ _ _ _ _ us hl => match us, hl with | [_, _, _], _ => rfl) (fun cdv A outer s H E hr => (dss_one (ds_ret (de_fnT cd_tup T.tuple (by decide +kernel) (da_cons (de_ofL (dl_lc (own := [("_law_own", 3)]) [] sc__law_row.nd (di_range1 T.range (da_cons (de_callU G__law_take (hr.mono (by decide)) (dc_urn (pv 0) (dc_cons de_int dc_nil))) da_nil)) (blkOk_by (by kernel_rfl)) (fun _ _ _ _ _ => (dg (i := 3) sc__law_row.nd)) (fun _ _ _ _ _ => dts_nil) (fun _ _ _ _ _ => (de_tup (da_cons (de_bin od_add de_int (de_callU G__law_take (hr.mono (by decide)) (dc_urn (pv 0) (dc_cons (dv 1) dc_nil)))) (da_cons (de_callU G__law_take (hr.mono (by decide)) (dc_urn (pv 0) (dc_cons (dv 2) dc_nil))) da_nil)))))) da_nil)))))
abbrev st__law_by_hand_right : Stmt := topS 20
theorem sc__law_by_hand_right : FnScope ["_law_far", "_law_row_so", "_law_got", "_law_goal"] [] (defScope st__law_by_hand_right) := ⟨rfl, rfl, rfl, by decide +kernel, rfl, by decide +kernel, by decide +kernel⟩
theorem ok__law_by_hand_right {f : Addr} {fd : FuncData} (T : Mg mg) (F : Fun K "_law_by_hand_right" "_law_by_hand_right" st__law_by_hand_right f fd) (hm : mg "_law_by_hand_right" = some (.ref f)) (G__law_same : FnD P w K mg base "_law_same" 10 (m__law_same 9)) (G_greatest_lot : FnD P w K mg base "greatest_lot" 3 (m_greatest_lot)) (G_how_many_joined : FnD P w K mg base "how_many_joined" 3 (m_how_many_joined)) (G_islands_in : FnD P w K mg base "islands_in" 1 (m_islands_in)) (G_last_height : FnD P w K mg base "last_height" 3 (m_last_height)) (G_lot_at : FnD P w K mg base "lot_at" 3 (m_lot_at)) (G_lots_at : FnD P w K mg base "lots_at" 1 (m_lots_at)) : FnD P w K mg base "_law_by_hand_right" 11 m__law_by_hand_right :=
  fnD_mk (m := b__law_by_hand_right) F sc__law_by_hand_right hm (F.binds (ps := []) fun _ _ _ _ _ _ us hl => match us, hl with | [], _ => rfl) (fun cdv A outer s H E hr => (dss_cons (ds_set (i := 0) sc__law_by_hand_right.nd (de_bin od_pow de_int de_int))
  (dss_cons (ds_set (i := 1) sc__law_by_hand_right.nd (de_bin od_add (de_bin od_add (de_tup (da_cons (de_tup (da_cons (dv 0) (da_cons de_int da_nil))) da_nil)) (de_tup (da_cons (de_tup (da_cons de_int (da_cons de_int da_nil))) da_nil))) (de_tup (da_cons (de_tup (da_cons (dv 0) (da_cons de_int da_nil))) (da_cons (de_tup (da_cons de_int (da_cons de_int da_nil))) da_nil)))))
  (dss_cons (ds_set (i := 2) sc__law_by_hand_right.nd (de_ofL (dl_lst (da_cons (de_call G_islands_in (hr.mono (by decide)) (da_cons (dv 1) da_nil)) (da_cons (de_call G_last_height (hr.mono (by decide)) (da_cons (dv 1) (da_cons de_int (da_cons (dv 0) da_nil)))) (da_cons (de_call G_last_height (hr.mono (by decide)) (da_cons (dv 1) (da_cons (dv 0) (da_cons (de_bin od_add (dv 0) de_int) da_nil)))) da_nil))))))
  (dss_cons (ds_set (i := 2) sc__law_by_hand_right.nd (de_bin od_add (dv 2) (de_ofL (dl_lst (da_cons (de_call G_last_height (hr.mono (by decide)) (da_cons (dv 1) (da_cons de_int (da_cons (de_bin od_add (dv 0) de_int) da_nil)))) da_nil)))))
  (dss_cons (ds_set (i := 2) sc__law_by_hand_right.nd (de_bin od_add (dv 2) (de_ofL (dl_lst (da_cons (de_call G_lots_at (hr.mono (by decide)) (da_cons (dv 1) (da_cons de_int da_nil))) (da_cons (de_call G_lot_at (hr.mono (by decide)) (da_cons (dv 1) (da_cons (dv 0) (da_cons de_int da_nil)))) (da_cons (de_call G_greatest_lot (hr.mono (by decide)) (da_cons (dv 1) (da_cons de_int da_nil))) da_nil)))))))
  (dss_cons (ds_set (i := 2) sc__law_by_hand_right.nd (de_bin od_add (dv 2) (de_ofL (dl_lst (da_cons (de_call G_how_many_joined (hr.mono (by decide)) (da_cons (dv 1) (da_cons de_int da_nil))) da_nil)))))
  (dss_cons (ds_set (i := 3) sc__law_by_hand_right.nd (de_ofL (dl_lst (da_cons (de_bin od_add (de_bin od_mul de_int (dv 0)) de_int) (da_cons de_int (da_cons de_int (da_cons de_int (da_cons de_int (da_cons (de_tup (da_cons de_int (da_cons (de_bin od_add (de_bin od_mul de_int (dv 0)) de_int) da_nil))) (da_cons (de_bin od_add (de_bin od_mul de_int (dv 0)) de_int) (da_cons (de_bin od_fdiv (de_bin od_mul (de_bin od_add (dv 0) de_int) (dv 0)) de_int) da_nil)))))))))))
  (dss_one (ds_ret (de_call G__law_same (hr.mono (by decide)) (da_cons (dv 2) (da_cons (dv 3) da_nil)))))))))))))
abbrev st__law_right : Stmt := topS 21
theorem sc__law_right : FnScope ["_law_urn", "_law_turn", "_law_high", "_law_tops", "_law_sides_so", "_law_due", "_law_got", "_law_level", "_law_early", "_law_late", "_law_whole_so", "_law_near", "_law_far", "_law_one_so", "_law_two_so", "_law_count", "_law_across", "_law_pairs", "_law_low", "_law_mirror", "_law_own", "_law_first", "_law_last"] ["_law_urn"] (defScope st__law_right) := ⟨rfl, rfl, rfl, by decide +kernel, rfl, by decide +kernel, by decide +kernel⟩
theorem ok__law_right {f : Addr} {fd : FuncData} (T : Mg mg) (F : Fun K "_law_right" "_law_right" st__law_right f fd) (hm : mg "_law_right" = some (.ref f)) (G__law_by_hand_right : FnD P w K mg base "_law_by_hand_right" 11 (m__law_by_hand_right)) (G__law_of : FnD P w K mg base "_law_of" 2 (m__law_of)) (G__law_row : FnD P w K mg base "_law_row" 2 (m__law_row)) (G__law_same : FnD P w K mg base "_law_same" 10 (m__law_same 9)) (G__law_take : FnD P w K mg base "_law_take" 1 (m__law_take)) (G_greatest_lot : FnD P w K mg base "greatest_lot" 3 (m_greatest_lot)) (G_how_many_joined : FnD P w K mg base "how_many_joined" 3 (m_how_many_joined)) (G_islands_in : FnD P w K mg base "islands_in" 1 (m_islands_in)) (G_last_height : FnD P w K mg base "last_height" 3 (m_last_height)) (G_lot_at : FnD P w K mg base "lot_at" 3 (m_lot_at)) (G_lots_at : FnD P w K mg base "lots_at" 1 (m_lots_at)) (G_waters_of : FnD P w K mg base "waters_of" 1 (m_waters_of)) : FnD P w K mg base "_law_right" 12 m__law_right :=
  fnD_mk (m := b__law_right) F sc__law_right hm (F.binds (ps := ["_law_urn"]) fun _ _ _ _ _ _ us hl => match us, hl with | [_], _ => rfl) (fun cdv A outer s H E hr => (dss_cons (ds_if (dt_not (dt_val (de_call0 G__law_by_hand_right (hr.mono (by decide))))) (dss_one (ds_ret de_bl)) dss_nil)
  (dss_cons (ds_for (di_range1 T.range (da_cons de_int da_nil)) (dg (i := 1) sc__law_right.nd) (dss_cons (ds_asg (de_ofL (dl_lc (own := [("_law_own", 20)]) [] sc__law_right.nd (di_range1 T.range (da_cons de_int da_nil)) (blkOk_by (by kernel_rfl)) (fun _ _ _ _ _ => (dg (i := 20) sc__law_right.nd)) (fun _ _ _ _ _ => dts_nil) (fun _ _ _ _ _ => (de_callU G__law_row (hr.mono (by decide)) (dc_urn (pv 0) (dc_cons (de_callU G__law_of (hr.mono (by decide)) (dc_urn (pv 0) (dc_cons (de_ofL (dl_lst (da_cons de_int (da_cons (de_bin od_pow de_int de_int) da_nil)))) dc_nil))) (dc_cons de_int dc_nil))))))) (dg_lst rfl (dgs_cons (dg (i := 8) sc__law_right.nd) (dgs_cons (dg (i := 9) sc__law_right.nd) dgs_nil))))
  (dss_cons (ds_set (i := 2) sc__law_right.nd (de_callU G__law_take (hr.mono (by decide)) (dc_urn (pv 0) (dc_cons de_int dc_nil))))
  (dss_cons (ds_par3 (i := 10) (j := 11) (l := 12) sc__law_right.nd (dp_d (de_bin od_add (de_bin od_add (dv 8) (de_tup (da_cons (de_tup (da_cons de_int (da_cons (dv 2) da_nil))) da_nil))) (dv 9)) (dp_d (de_call G_islands_in (hr.mono (by decide)) (da_cons (dv 8) da_nil)) (dp_d (de_call G_islands_in (hr.mono (by decide)) (da_cons (dv 9) da_nil)) dp_nil))))
  (dss_cons (ds_set (i := 3) sc__law_right.nd (de_ofL (dl_sortSet T.sorted T.set (de_bin od_add (de_bin od_add (de_call G_waters_of (hr.mono (by decide)) (da_cons (dv 8) da_nil)) (de_call G_waters_of (hr.mono (by decide)) (da_cons (dv 9) da_nil))) (de_tup (da_cons (dv 2) da_nil))))))
  (dss_cons (ds_if (dt_not (dt_val (de_call G__law_same (hr.mono (by decide)) (da_cons (de_ofL (dl_lst (da_cons (de_call G_islands_in (hr.mono (by decide)) (da_cons (dv 10) da_nil)) (da_cons (de_call G_waters_of (hr.mono (by decide)) (da_cons (dv 10) da_nil)) da_nil)))) (da_cons (de_ofL (dl_lst (da_cons (de_bin od_add (dv 11) (dv 12)) (da_cons (de_fnT cd_tup T.tuple (by decide +kernel) (da_cons (dv 3) da_nil)) da_nil)))) da_nil))))) (dss_one (ds_ret de_bl)) dss_nil)
  (dss_cons (ds_par (i := 13) (j := 14) sc__law_right.nd (dp_d (de_callU G__law_take (hr.mono (by decide)) (dc_urn (pv 0) (dc_cons (dv 11) dc_nil))) (dp_d (de_callU G__law_take (hr.mono (by decide)) (dc_urn (pv 0) (dc_cons (dv 12) dc_nil))) dp_nil)))
  (dss_cons (ds_set (i := 4) sc__law_right.nd (de_ofL (dl_lst (da_cons (de_call G_last_height (hr.mono (by decide)) (da_cons (dv 8) (da_cons (dv 13) (da_cons (de_bin od_sub (dv 11) de_int) da_nil)))) (da_cons (de_call G_last_height (hr.mono (by decide)) (da_cons (dv 9) (da_cons de_int (da_cons (dv 14) da_nil)))) da_nil)))))
  (dss_cons (ds_set (i := 5) sc__law_right.nd (de_fnB (cd_min rfl) T.min (by decide +kernel) (da_cons (de_bin od_add (de_ofL (dl_lst (da_cons (dv 2) da_nil))) (de_ofL (dl_lc (own := [("_law_own", 20)]) [] sc__law_right.nd (di_seq (dv 4)) (blkOk_by (by kernel_rfl)) (fun _ _ _ _ _ => (dg (i := 20) sc__law_right.nd)) (fun _ _ _ _ _ => (dts_one (dt_cmp od_isnot (dv 20) de_non (nomark _)))) (fun _ _ _ _ _ => (dv 20))))) da_nil)))
  (dss_cons (ds_set (i := 6) sc__law_right.nd (de_ofL (dl_lst (da_cons (de_call G_last_height (hr.mono (by decide)) (da_cons (dv 10) (da_cons (dv 13) (da_cons (de_bin od_add (dv 11) (dv 14)) da_nil)))) da_nil))))
  (dss_cons (ds_set (i := 6) sc__law_right.nd (de_bin od_add (dv 6) (de_ofL (dl_lst (da_cons (de_call G_last_height (hr.mono (by decide)) (da_cons (dv 10) (da_cons (de_bin od_add (dv 11) (dv 14)) (da_cons (dv 13) da_nil)))) da_nil)))))
  (dss_cons (ds_if (dt_not (dt_val (de_call G__law_same (hr.mono (by decide)) (da_cons (dv 6) (da_cons (de_ofL (dl_lst (da_cons (dv 5) (da_cons (dv 5) da_nil)))) da_nil))))) (dss_one (ds_ret de_bl)) dss_nil)
  (dss_cons (ds_if (dt_not (dt_val (de_call G__law_same (hr.mono (by decide)) (da_cons (de_call G_last_height (hr.mono (by decide)) (da_cons (dv 10) (da_cons (dv 13) (da_cons (de_bin od_sub (dv 11) de_int) da_nil)))) (da_cons (de_ixN' (pv 4) de_int) da_nil))))) (dss_one (ds_ret de_bl)) dss_nil)
  (dss_one (ds_for (di_range1 T.range (da_cons de_int da_nil)) (dg (i := 7) sc__law_right.nd) (dss_cons (ds_set (i := 15) sc__law_right.nd (de_bin od_sub (de_bin od_add (de_call G_lots_at (hr.mono (by decide)) (da_cons (dv 8) (da_cons (dv 7) da_nil))) (de_call G_lots_at (hr.mono (by decide)) (da_cons (dv 9) (da_cons (dv 7) da_nil)))) (de_fnT cd_int T.int (by decide +kernel) (da_cons (de_cmp od_gt (dv 2) (dv 7) (nomark _)) da_nil))))
  (dss_cons (ds_par (i := 21) (j := 22) sc__law_right.nd (dp_d (de_call G_lot_at (hr.mono (by decide)) (da_cons (dv 8) (da_cons (de_bin od_sub (dv 11) de_int) (da_cons (dv 7) da_nil)))) (dp_d (de_call G_lot_at (hr.mono (by decide)) (da_cons (dv 9) (da_cons de_int (da_cons (dv 7) da_nil)))) dp_nil)))
  (dss_cons (ds_set (i := 16) sc__law_right.nd (de_bin od_mul (de_bin od_mul (de_bin od_sub (dv 11) (de_ixN' (pv 21) de_int)) (de_bin od_add (de_ixN' (pv 22) de_int) de_int)) (de_fnT cd_int T.int (by decide +kernel) (da_cons (de_cmp od_gt (dv 2) (dv 7) (nomark _)) da_nil))))
  (dss_cons (ds_set (i := 6) sc__law_right.nd (de_ofL (dl_lst (da_cons (de_call G_lots_at (hr.mono (by decide)) (da_cons (dv 10) (da_cons (dv 7) da_nil))) (da_cons (de_call G_how_many_joined (hr.mono (by decide)) (da_cons (dv 10) (da_cons (dv 7) da_nil))) da_nil)))))
  (dss_cons (ds_set (i := 6) sc__law_right.nd (de_bin od_add (dv 6) (de_ofL (dl_lst (da_cons (de_call G_lot_at (hr.mono (by decide)) (da_cons (dv 10) (da_cons (dv 11) (da_cons (dv 7) da_nil)))) da_nil)))))
  (dss_cons (ds_set (i := 17) sc__law_right.nd (de_bin od_add (de_bin od_add (de_call G_how_many_joined (hr.mono (by decide)) (da_cons (dv 8) (da_cons (dv 7) da_nil))) (de_call G_how_many_joined (hr.mono (by decide)) (da_cons (dv 9) (da_cons (dv 7) da_nil)))) (dv 16)))
  (dss_cons (ds_set (i := 18) sc__law_right.nd (de_if (dt_cmp od_gt (dv 2) (dv 7) (nomark _)) (de_ixN' (pv 21) de_int) (dv 11)))
  (dss_cons (ds_if (dt_not (dt_val (de_call G__law_same (hr.mono (by decide)) (da_cons (dv 6) (da_cons (de_ofL (dl_lst (da_cons (dv 15) (da_cons (dv 17) (da_cons (de_tup (da_cons (dv 18) (da_cons (de_bin od_add (dv 11) (de_ixN' (pv 22) de_int)) da_nil))) da_nil))))) da_nil))))) (dss_one (ds_ret de_bl)) dss_nil)
  (dss_cons (ds_set (i := 19) sc__law_right.nd (de_revA (dv 10)))
  (dss_cons (ds_set (i := 6) sc__law_right.nd (de_ofL (dl_lst (da_cons (de_call G_lots_at (hr.mono (by decide)) (da_cons (dv 19) (da_cons (dv 7) da_nil))) (da_cons (de_call G_greatest_lot (hr.mono (by decide)) (da_cons (dv 19) (da_cons (dv 7) da_nil))) (da_cons (de_call G_how_many_joined (hr.mono (by decide)) (da_cons (dv 19) (da_cons (dv 7) da_nil))) da_nil))))))
  (dss_one (ds_if (dt_not (dt_val (de_call G__law_same (hr.mono (by decide)) (da_cons (dv 6) (da_cons (de_ofL (dl_lst (da_cons (dv 15) (da_cons (de_call G_greatest_lot (hr.mono (by decide)) (da_cons (dv 10) (da_cons (dv 7) da_nil))) (da_cons (de_call G_how_many_joined (hr.mono (by decide)) (da_cons (dv 10) (da_cons (dv 7) da_nil))) da_nil))))) da_nil))))) (dss_one (ds_ret de_bl)) dss_nil)))))))))))))))))))))))))))
  (dss_one (ds_ret de_bl)))))
abbrev st_law : Stmt := topS 22
theorem sc_law : FnScope ["_law_script", "_law_cells_here", "_law_k"] ["_law_script"] (defScope st_law) := ⟨rfl, rfl, rfl, by decide +kernel, rfl, by decide +kernel, by decide +kernel⟩
theorem okl_law {f : Addr} {fd : FuncData} (T : Mg mg) (F : Fun K "law" "law" st_law f fd) (G__law_box : FnD P w K mg base "_law_box" 1 (m__law_box)) (G__law_cells : FnD P w K mg base "_law_cells" 1 (m__law_cells)) (G__law_right : FnD P w K mg base "_law_right" 12 (m__law_right)) : FnOk P w K mg base CX0 13 f fd ["_law_script"] (spD K m_law) :=
  fn_ok (m := b_law) F sc_law (fun cdv A outer s H E hr => (dss_cons (ds_set (i := 1) sc_law.nd (de_call G__law_cells (hr.mono (by decide)) (da_cons (dv 0) (da_cons de_int da_nil))))
  (dss_one (ds_ret (de_fnB (cd_all rfl) T.all (by decide +kernel) (da_cons (de_ofL (dl_lc (own := [("_law_k", 2)]) [] sc_law.nd (di_range1 T.range (da_cons (de_lenN T.len (pv 1)) da_nil)) (blkOk_by (by kernel_rfl)) (fun _ _ _ _ _ => (dg (i := 2) sc_law.nd)) (fun _ _ _ _ _ => dts_nil) (fun _ _ _ _ _ => (de_callN G__law_right (hr.mono (by decide)) (dl_call G__law_box (hr.mono (by decide)) (da_cons (dv 1) (da_cons (dv 2) da_nil))))))) da_nil))))))
end
end DT

set_option pp.maxSteps 60
set_option Elab.async false
set_option linter.all false
set_option maxRecDepth 100000
set_option maxHeartbeats 4000000
namespace DT
open PySem PySem.Spec PyProof.Rows L2 DL
def topS0 (i : Nat) : Stmt := PySem.Challenge.pw_lastfords_k98_whole_great_rows_one_behin.main.body.getD i (.Pass ⟨0, 0, 0, 0⟩)
theorem all_mk {l : PySem.W.OpenLaw} {w : World} {K : PySem.W.Frag} {h : Heap} {mg : Str → Option Value} {fa : Addr} (X : K.In h) (G : h.Ns mainGlobals mg) (hfa : mg "law" = some (.ref fa))
    {f0 : Addr} {od0 an0 : Option Addr} {sl0 : Array (Option Value)} {oc0 kV0 dc0 pm0 cd0 ct0 : Value}
    (a0 : PySem.W.nsIn K mainGlobals "islands_in" = some (some (.ref f0))) (l0 : K.lookup f0 = some ⟨oc0, od0, .func (PySem.W.fnOf "islands_in" "islands_in" (defArgs st_islands_in) (defBody st_islands_in) (defScope st_islands_in) .none kV0 dc0 pm0 an0 cd0 ct0), sl0⟩) (c0 : PySem.W.codeIn K cd0 "islands_in" = true) (k0 : PySem.W.keepIn K (.ref f0) = true)
    {f1 : Addr} {od1 an1 : Option Addr} {sl1 : Array (Option Value)} {oc1 kV1 dc1 pm1 cd1 ct1 : Value}
    (a1 : PySem.W.nsIn K mainGlobals "check" = some (some (.ref f1))) (l1 : K.lookup f1 = some ⟨oc1, od1, .func (PySem.W.fnOf "check" "check" (defArgs st_check) (defBody st_check) (defScope st_check) .none kV1 dc1 pm1 an1 cd1 ct1), sl1⟩) (c1 : PySem.W.codeIn K cd1 "check" = true) (k1 : PySem.W.keepIn K (.ref f1) = true)
    {f2 : Addr} {od2 an2 : Option Addr} {sl2 : Array (Option Value)} {oc2 kV2 dc2 pm2 cd2 ct2 : Value}
    (a2 : PySem.W.nsIn K mainGlobals "runs_of" = some (some (.ref f2))) (l2 : K.lookup f2 = some ⟨oc2, od2, .func (PySem.W.fnOf "runs_of" "runs_of" (defArgs st_runs_of) (defBody st_runs_of) (defScope st_runs_of) .none kV2 dc2 pm2 an2 cd2 ct2), sl2⟩) (c2 : PySem.W.codeIn K cd2 "runs_of" = true) (k2 : PySem.W.keepIn K (.ref f2) = true)
    {f3 : Addr} {od3 an3 : Option Addr} {sl3 : Array (Option Value)} {oc3 kV3 dc3 pm3 cd3 ct3 : Value}
    (a3 : PySem.W.nsIn K mainGlobals "last_height" = some (some (.ref f3))) (l3 : K.lookup f3 = some ⟨oc3, od3, .func (PySem.W.fnOf "last_height" "last_height" (defArgs st_last_height) (defBody st_last_height) (defScope st_last_height) .none kV3 dc3 pm3 an3 cd3 ct3), sl3⟩) (c3 : PySem.W.codeIn K cd3 "last_height" = true) (k3 : PySem.W.keepIn K (.ref f3) = true)
    {f4 : Addr} {od4 an4 : Option Addr} {sl4 : Array (Option Value)} {oc4 kV4 dc4 pm4 cd4 ct4 : Value}
    (a4 : PySem.W.nsIn K mainGlobals "lots_of" = some (some (.ref f4))) (l4 : K.lookup f4 = some ⟨oc4, od4, .func (PySem.W.fnOf "lots_of" "lots_of" (defArgs st_lots_of) (defBody st_lots_of) (defScope st_lots_of) .none kV4 dc4 pm4 an4 cd4 ct4), sl4⟩) (c4 : PySem.W.codeIn K cd4 "lots_of" = true) (k4 : PySem.W.keepIn K (.ref f4) = true)
    {f5 : Addr} {od5 an5 : Option Addr} {sl5 : Array (Option Value)} {oc5 kV5 dc5 pm5 cd5 ct5 : Value}
    (a5 : PySem.W.nsIn K mainGlobals "lots_at" = some (some (.ref f5))) (l5 : K.lookup f5 = some ⟨oc5, od5, .func (PySem.W.fnOf "lots_at" "lots_at" (defArgs st_lots_at) (defBody st_lots_at) (defScope st_lots_at) .none kV5 dc5 pm5 an5 cd5 ct5), sl5⟩) (c5 : PySem.W.codeIn K cd5 "lots_at" = true) (k5 : PySem.W.keepIn K (.ref f5) = true)
    {f6 : Addr} {od6 an6 : Option Addr} {sl6 : Array (Option Value)} {oc6 kV6 dc6 pm6 cd6 ct6 : Value}
    (a6 : PySem.W.nsIn K mainGlobals "lot_at" = some (some (.ref f6))) (l6 : K.lookup f6 = some ⟨oc6, od6, .func (PySem.W.fnOf "lot_at" "lot_at" (defArgs st_lot_at) (defBody st_lot_at) (defScope st_lot_at) .none kV6 dc6 pm6 an6 cd6 ct6), sl6⟩) (c6 : PySem.W.codeIn K cd6 "lot_at" = true) (k6 : PySem.W.keepIn K (.ref f6) = true)
    {f7 : Addr} {od7 an7 : Option Addr} {sl7 : Array (Option Value)} {oc7 kV7 dc7 pm7 cd7 ct7 : Value}
    (a7 : PySem.W.nsIn K mainGlobals "greatest_lot" = some (some (.ref f7))) (l7 : K.lookup f7 = some ⟨oc7, od7, .func (PySem.W.fnOf "greatest_lot" "greatest_lot" (defArgs st_greatest_lot) (defBody st_greatest_lot) (defScope st_greatest_lot) .none kV7 dc7 pm7 an7 cd7 ct7), sl7⟩) (c7 : PySem.W.codeIn K cd7 "greatest_lot" = true) (k7 : PySem.W.keepIn K (.ref f7) = true)
    {f8 : Addr} {od8 an8 : Option Addr} {sl8 : Array (Option Value)} {oc8 kV8 dc8 pm8 cd8 ct8 : Value}
    (a8 : PySem.W.nsIn K mainGlobals "how_many_joined" = some (some (.ref f8))) (l8 : K.lookup f8 = some ⟨oc8, od8, .func (PySem.W.fnOf "how_many_joined" "how_many_joined" (defArgs st_how_many_joined) (defBody st_how_many_joined) (defScope st_how_many_joined) .none kV8 dc8 pm8 an8 cd8 ct8), sl8⟩) (c8 : PySem.W.codeIn K cd8 "how_many_joined" = true) (k8 : PySem.W.keepIn K (.ref f8) = true)
    {f9 : Addr} {od9 an9 : Option Addr} {sl9 : Array (Option Value)} {oc9 kV9 dc9 pm9 cd9 ct9 : Value}
    (a9 : PySem.W.nsIn K mainGlobals "waters_of" = some (some (.ref f9))) (l9 : K.lookup f9 = some ⟨oc9, od9, .func (PySem.W.fnOf "waters_of" "waters_of" (defArgs st_waters_of) (defBody st_waters_of) (defScope st_waters_of) .none kV9 dc9 pm9 an9 cd9 ct9), sl9⟩) (c9 : PySem.W.codeIn K cd9 "waters_of" = true) (k9 : PySem.W.keepIn K (.ref f9) = true)
    {f10 : Addr} {od10 an10 : Option Addr} {sl10 : Array (Option Value)} {oc10 kV10 dc10 pm10 cd10 ct10 : Value}
    (a10 : PySem.W.nsIn K mainGlobals "_law_box" = some (some (.ref f10))) (l10 : K.lookup f10 = some ⟨oc10, od10, .func (PySem.W.fnOf "_law_box" "_law_box" (defArgs st__law_box) (defBody st__law_box) (defScope st__law_box) .none kV10 dc10 pm10 an10 cd10 ct10), sl10⟩) (c10 : PySem.W.codeIn K cd10 "_law_box" = true) (k10 : PySem.W.keepIn K (.ref f10) = true)
    {f11 : Addr} {od11 an11 : Option Addr} {sl11 : Array (Option Value)} {oc11 kV11 dc11 pm11 cd11 ct11 : Value}
    (a11 : PySem.W.nsIn K mainGlobals "_law_take" = some (some (.ref f11))) (l11 : K.lookup f11 = some ⟨oc11, od11, .func (PySem.W.fnOf "_law_take" "_law_take" (defArgs st__law_take) (defBody st__law_take) (defScope st__law_take) .none kV11 dc11 pm11 an11 cd11 ct11), sl11⟩) (c11 : PySem.W.codeIn K cd11 "_law_take" = true) (k11 : PySem.W.keepIn K (.ref f11) = true)
    {f12 : Addr} {od12 an12 : Option Addr} {sl12 : Array (Option Value)} {oc12 kV12 dc12 pm12 cd12 ct12 : Value}
    (a12 : PySem.W.nsIn K mainGlobals "_law_cells" = some (some (.ref f12))) (l12 : K.lookup f12 = some ⟨oc12, od12, .func (PySem.W.fnOf "_law_cells" "_law_cells" (defArgs st__law_cells) (defBody st__law_cells) (defScope st__law_cells) .none kV12 dc12 pm12 an12 cd12 ct12), sl12⟩) (c12 : PySem.W.codeIn K cd12 "_law_cells" = true) (k12 : PySem.W.keepIn K (.ref f12) = true)
    {f13 : Addr} {od13 an13 : Option Addr} {sl13 : Array (Option Value)} {oc13 kV13 dc13 pm13 cd13 ct13 : Value}
    (a13 : PySem.W.nsIn K mainGlobals "_law_of" = some (some (.ref f13))) (l13 : K.lookup f13 = some ⟨oc13, od13, .func (PySem.W.fnOf "_law_of" "_law_of" (defArgs st__law_of) (defBody st__law_of) (defScope st__law_of) .none kV13 dc13 pm13 an13 cd13 ct13), sl13⟩) (c13 : PySem.W.codeIn K cd13 "_law_of" = true) (k13 : PySem.W.keepIn K (.ref f13) = true)
    {f14 : Addr} {od14 an14 : Option Addr} {sl14 : Array (Option Value)} {oc14 kV14 dc14 pm14 cd14 ct14 : Value}
    (a14 : PySem.W.nsIn K mainGlobals "_law_same" = some (some (.ref f14))) (l14 : K.lookup f14 = some ⟨oc14, od14, .func (PySem.W.fnOf "_law_same" "_law_same" (defArgs st__law_same) (defBody st__law_same) (defScope st__law_same) .none kV14 dc14 pm14 an14 cd14 ct14), sl14⟩) (c14 : PySem.W.codeIn K cd14 "_law_same" = true) (k14 : PySem.W.keepIn K (.ref f14) = true)
    {f15 : Addr} {od15 an15 : Option Addr} {sl15 : Array (Option Value)} {oc15 kV15 dc15 pm15 cd15 ct15 : Value}
    (a15 : PySem.W.nsIn K mainGlobals "_law_row" = some (some (.ref f15))) (l15 : K.lookup f15 = some ⟨oc15, od15, .func (PySem.W.fnOf "_law_row" "_law_row" (defArgs st__law_row) (defBody st__law_row) (defScope st__law_row) .none kV15 dc15 pm15 an15 cd15 ct15), sl15⟩) (c15 : PySem.W.codeIn K cd15 "_law_row" = true) (k15 : PySem.W.keepIn K (.ref f15) = true)
    {f16 : Addr} {od16 an16 : Option Addr} {sl16 : Array (Option Value)} {oc16 kV16 dc16 pm16 cd16 ct16 : Value}
    (a16 : PySem.W.nsIn K mainGlobals "_law_by_hand_right" = some (some (.ref f16))) (l16 : K.lookup f16 = some ⟨oc16, od16, .func (PySem.W.fnOf "_law_by_hand_right" "_law_by_hand_right" (defArgs st__law_by_hand_right) (defBody st__law_by_hand_right) (defScope st__law_by_hand_right) .none kV16 dc16 pm16 an16 cd16 ct16), sl16⟩) (c16 : PySem.W.codeIn K cd16 "_law_by_hand_right" = true) (k16 : PySem.W.keepIn K (.ref f16) = true)
    {f17 : Addr} {od17 an17 : Option Addr} {sl17 : Array (Option Value)} {oc17 kV17 dc17 pm17 cd17 ct17 : Value}
    (a17 : PySem.W.nsIn K mainGlobals "_law_right" = some (some (.ref f17))) (l17 : K.lookup f17 = some ⟨oc17, od17, .func (PySem.W.fnOf "_law_right" "_law_right" (defArgs st__law_right) (defBody st__law_right) (defScope st__law_right) .none kV17 dc17 pm17 an17 cd17 ct17), sl17⟩) (c17 : PySem.W.codeIn K cd17 "_law_right" = true) (k17 : PySem.W.keepIn K (.ref f17) = true)
    {f18 : Addr} {od18 an18 : Option Addr} {sl18 : Array (Option Value)} {oc18 kV18 dc18 pm18 cd18 ct18 : Value}
    (a18 : PySem.W.nsIn K mainGlobals "law" = some (some (.ref f18))) (l18 : K.lookup f18 = some ⟨oc18, od18, .func (PySem.W.fnOf "law" "law" (defArgs st_law) (defBody st_law) (defScope st_law) .none kV18 dc18 pm18 an18 cd18 ct18), sl18⟩) (c18 : PySem.W.codeIn K cd18 "law" = true) (k18 : PySem.W.keepIn K (.ref f18) = true)
    (z_abs : PySem.W.nsIn K mainGlobals "abs" = some none)
    (z_all : PySem.W.nsIn K mainGlobals "all" = some none)
    (z_bool : PySem.W.nsIn K mainGlobals "bool" = some none)
    (z_enumerate : PySem.W.nsIn K mainGlobals "enumerate" = some none)
    (z_int : PySem.W.nsIn K mainGlobals "int" = some none)
    (z_isinstance : PySem.W.nsIn K mainGlobals "isinstance" = some none)
    (z_len : PySem.W.nsIn K mainGlobals "len" = some none)
    (z_list : PySem.W.nsIn K mainGlobals "list" = some none)
    (z_max : PySem.W.nsIn K mainGlobals "max" = some none)
    (z_min : PySem.W.nsIn K mainGlobals "min" = some none)
    (z_range : PySem.W.nsIn K mainGlobals "range" = some none)
    (z_set : PySem.W.nsIn K mainGlobals "set" = some none)
    (z_sorted : PySem.W.nsIn K mainGlobals "sorted" = some none)
    (z_str : PySem.W.nsIn K mainGlobals "str" = some none)
    (z_sum : PySem.W.nsIn K mainGlobals "sum" = some none)
    (z_tuple : PySem.W.nsIn K mainGlobals "tuple" = some none)
    (z_zip : PySem.W.nsIn K mainGlobals "zip" = some none)
    : ∃ fd : FuncData, (∀ (s : Shared) (v : Value), BindsTo s fd ⟨[v], []⟩ [("_law_script", v)]) ∧ ∀ base : Heap, K.In base → base.Ns mainGlobals mg → FnOk l.prog w K mg base CX0 13 fa fd ["_law_script"] (spD K m_law) := by
  have e := hfa.symm.trans (PySem.W.mg_of X G a18)
  cases e
  have T : Mg mg := ⟨PySem.W.mg_none_of X G z_abs, PySem.W.mg_none_of X G z_all, PySem.W.mg_none_of X G z_bool, PySem.W.mg_none_of X G z_enumerate, PySem.W.mg_none_of X G z_int, PySem.W.mg_none_of X G z_isinstance, PySem.W.mg_none_of X G z_len, PySem.W.mg_none_of X G z_list, PySem.W.mg_none_of X G z_max, PySem.W.mg_none_of X G z_min, PySem.W.mg_none_of X G z_range, PySem.W.mg_none_of X G z_set, PySem.W.mg_none_of X G z_sorted, PySem.W.mg_none_of X G z_str, PySem.W.mg_none_of X G z_sum, PySem.W.mg_none_of X G z_tuple, PySem.W.mg_none_of X G z_zip⟩
  have F0 := fun_mk (st := st_islands_in) l0 c0 k0
  have F1 := fun_mk (st := st_check) l1 c1 k1
  have F2 := fun_mk (st := st_runs_of) l2 c2 k2
  have F3 := fun_mk (st := st_last_height) l3 c3 k3
  have F4 := fun_mk (st := st_lots_of) l4 c4 k4
  have F5 := fun_mk (st := st_lots_at) l5 c5 k5
  have F6 := fun_mk (st := st_lot_at) l6 c6 k6
  have F7 := fun_mk (st := st_greatest_lot) l7 c7 k7
  have F8 := fun_mk (st := st_how_many_joined) l8 c8 k8
  have F9 := fun_mk (st := st_waters_of) l9 c9 k9
  have F10 := fun_mk (st := st__law_box) l10 c10 k10
  have F11 := fun_mk (st := st__law_take) l11 c11 k11
  have F12 := fun_mk (st := st__law_cells) l12 c12 k12
  have F13 := fun_mk (st := st__law_of) l13 c13 k13
  have F14 := fun_mk (st := st__law_same) l14 c14 k14
  have F15 := fun_mk (st := st__law_row) l15 c15 k15
  have F16 := fun_mk (st := st__law_by_hand_right) l16 c16 k16
  have F17 := fun_mk (st := st__law_right) l17 c17 k17
  have F18 := fun_mk (st := st_law) l18 c18 k18
  refine ⟨PySem.W.fnOf "law" "law" (defArgs st_law) (defBody st_law) (defScope st_law) .none kV18 dc18 pm18 an18 cd18 ct18, fun s v => .of_eq rfl, fun base _ _ => ?_⟩
  have G_islands_in := ok_islands_in (P := l.prog) (w := w) (base := base) T F0 (PySem.W.mg_of X G a0) 
  have G_check := ok_check (P := l.prog) (w := w) (base := base) T F1 (PySem.W.mg_of X G a1) G_islands_in
  have G_runs_of := ok_runs_of (P := l.prog) (w := w) (base := base) T F2 (PySem.W.mg_of X G a2) 
  have G_last_height := ok_last_height (P := l.prog) (w := w) (base := base) T F3 (PySem.W.mg_of X G a3) G_check G_runs_of
  have G_lots_of := ok_lots_of (P := l.prog) (w := w) (base := base) T F4 (PySem.W.mg_of X G a4) G_runs_of
  have G_lots_at := ok_lots_at (P := l.prog) (w := w) (base := base) T F5 (PySem.W.mg_of X G a5) 
  have G_lot_at := ok_lot_at (P := l.prog) (w := w) (base := base) T F6 (PySem.W.mg_of X G a6) G_check G_lots_of
  have G_greatest_lot := ok_greatest_lot (P := l.prog) (w := w) (base := base) T F7 (PySem.W.mg_of X G a7) G_lots_of
  have G_how_many_joined := ok_how_many_joined (P := l.prog) (w := w) (base := base) T F8 (PySem.W.mg_of X G a8) G_lots_of
  have G_waters_of := ok_waters_of (P := l.prog) (w := w) (base := base) T F9 (PySem.W.mg_of X G a9) 
  have G__law_box := ok__law_box (P := l.prog) (w := w) (base := base) T F10 (PySem.W.mg_of X G a10) 
  have G__law_take := ok__law_take (P := l.prog) (w := w) (base := base) T F11 (PySem.W.mg_of X G a11) 
  have G__law_cells := ok__law_cells (P := l.prog) (w := w) (base := base) T F12 (PySem.W.mg_of X G a12) 
  have G__law_of := ok__law_of (P := l.prog) (w := w) (base := base) T F13 (PySem.W.mg_of X G a13) G__law_take
  have G__law_same := ok__law_same (P := l.prog) (w := w) (base := base) T F14 (PySem.W.mg_of X G a14)  9
  have G__law_row := ok__law_row (P := l.prog) (w := w) (base := base) T F15 (PySem.W.mg_of X G a15) G__law_take
  have G__law_by_hand_right := ok__law_by_hand_right (P := l.prog) (w := w) (base := base) T F16 (PySem.W.mg_of X G a16) G__law_same G_greatest_lot G_how_many_joined G_islands_in G_last_height G_lot_at G_lots_at
  have G__law_right := ok__law_right (P := l.prog) (w := w) (base := base) T F17 (PySem.W.mg_of X G a17) G__law_by_hand_right G__law_of G__law_row G__law_same G__law_take G_greatest_lot G_how_many_joined G_islands_in G_last_height G_lot_at G_lots_at G_waters_of
  exact okl_law T F18 G__law_box G__law_cells G__law_right
end DT
open PySem PySem.W PyProof.Rows
set_option maxHeartbeats 0 in
theorem PySem.Challenge.cw_lastfords_k98_whole_great_rows_one_behin_holds : PySem.Challenge.rw_lastfords_k98_whole_great_rows_one_behin.Holds := by
  w_on; o_law; k_head; (case hw => w_witness2)
  k_fill
  refine L2.walk_ofB (l := PySem.Challenge.rw_lastfords_k98_whole_great_rows_one_behin) (n := 63) (k := 13) (x := "_law_script") (CX := fun _ => L2.CX0) (sp := fun w => DL.spD _ DT.m_law) rfl (by decide) rfl ⟨rfl, by decide, by decide⟩ (fun w h Y => PySem.W.kIn_of Y) ?F (fun _ _ a ns hl hb hO hS => DL.law_end hO hS (DT.plain ns hl)) (fun _ _ _ _ _ h => h)
  case F =>
    intro w mg fa h KX G hmg
    refine' DT.all_mk KX G hmg ?a0 ?l0 ?c0 ?k0 ?a1 ?l1 ?c1 ?k1 ?a2 ?l2 ?c2 ?k2 ?a3 ?l3 ?c3 ?k3 ?a4 ?l4 ?c4 ?k4 ?a5 ?l5 ?c5 ?k5 ?a6 ?l6 ?c6 ?k6 ?a7 ?l7 ?c7 ?k7 ?a8 ?l8 ?c8 ?k8 ?a9 ?l9 ?c9 ?k9 ?a10 ?l10 ?c10 ?k10 ?a11 ?l11 ?c11 ?k11 ?a12 ?l12 ?c12 ?k12 ?a13 ?l13 ?c13 ?k13 ?a14 ?l14 ?c14 ?k14 ?a15 ?l15 ?c15 ?k15 ?a16 ?l16 ?c16 ?k16 ?a17 ?l17 ?c17 ?k17 ?a18 ?l18 ?c18 ?k18 ?z_abs ?z_all ?z_bool ?z_enumerate ?z_int ?z_isinstance ?z_len ?z_list ?z_max ?z_min ?z_range ?z_set ?z_sorted ?z_str ?z_sum ?z_tuple ?z_zip
    (case a0 => k_is); (case l0 => k_is); (case c0 => k_is); (case k0 => k_is); (case a1 => k_is); (case l1 => k_is); (case c1 => k_is); (case k1 => k_is); (case a2 => k_is); (case l2 => k_is); (case c2 => k_is); (case k2 => k_is); (case a3 => k_is); (case l3 => k_is); (case c3 => k_is); (case k3 => k_is); (case a4 => k_is); (case l4 => k_is); (case c4 => k_is); (case k4 => k_is); (case a5 => k_is); (case l5 => k_is); (case c5 => k_is); (case k5 => k_is); (case a6 => k_is); (case l6 => k_is); (case c6 => k_is); (case k6 => k_is); (case a7 => k_is); (case l7 => k_is); (case c7 => k_is); (case k7 => k_is); (case a8 => k_is); (case l8 => k_is); (case c8 => k_is); (case k8 => k_is); (case a9 => k_is); (case l9 => k_is); (case c9 => k_is); (case k9 => k_is); (case a10 => k_is); (case l10 => k_is); (case c10 => k_is); (case k10 => k_is); (case a11 => k_is); (case l11 => k_is); (case c11 => k_is); (case k11 => k_is); (case a12 => k_is); (case l12 => k_is); (case c12 => k_is); (case k12 => k_is); (case a13 => k_is); (case l13 => k_is); (case c13 => k_is); (case k13 => k_is); (case a14 => k_is); (case l14 => k_is); (case c14 => k_is); (case k14 => k_is); (case a15 => k_is); (case l15 => k_is); (case c15 => k_is); (case k15 => k_is); (case a16 => k_is); (case l16 => k_is); (case c16 => k_is); (case k16 => k_is); (case a17 => k_is); (case l17 => k_is); (case c17 => k_is); (case k17 => k_is); (case a18 => k_is); (case l18 => k_is); (case c18 => k_is); (case k18 => k_is); (case z_abs => k_is); (case z_all => k_is); (case z_bool => k_is); (case z_enumerate => k_is); (case z_int => k_is); (case z_isinstance => k_is); (case z_len => k_is); (case z_list => k_is); (case z_max => k_is); (case z_min => k_is); (case z_range => k_is); (case z_set => k_is); (case z_sorted => k_is); (case z_str => k_is); (case z_sum => k_is); (case z_tuple => k_is); (case z_zip => k_is)
