import PyProof.Rows.All
import Wide.All
import OpenK.AllK
import Wide.FinOn
import HandS.ForMost
import KE.KeyNested
import HandS.Dict
import HandS.Iter
import HandS.ExcField
import HandS.ExcIs
import HandS.Slots
import HandS.SlotsOwn
import HandS.Flow
import HandS.Style
import HandS.Wide
import HandS.TupAny
import HandS.IsInst
import HandS.Star
import HandS.SortInts
import HandS.Zip
import HandS.Strs
import HandS.TupSets
import HandS.Text
import KE.SortKeyHeap
import HandS.SetKeys
import KE.KDictKeyed
import HandS.DictComp
import KE.GoesEnum
import KE.DataCmp
import PyProof.Rows.ListMul
import HandS.TupMul
import PyProof.FString5
import HandS.Deep
import KE.KDictWalk
import PySem.Challenge.RW_lastfords_k67_waters_one_by_one
import HandS.EndBits
set_option Elab.async false
set_option linter.all false
set_option maxRecDepth 100000
set_option maxHeartbeats 2000000
namespace DL
open PySem PySem.Spec PyProof.Rows L2
def memN : List Nat → Nat
  | [] => 0
  | n :: l => 2 ^ n * (2 * memN l + 1)
theorem pow_odd : ∀ (a b x y : Nat), 2 ^ a * (2 * x + 1) = 2 ^ b * (2 * y + 1) → a = b ∧ x = y
  | 0, 0, x, y, h => ⟨rfl, by rw [Nat.pow_zero, Nat.one_mul, Nat.one_mul] at h; omega⟩
  | 0, b + 1, x, y, h => by
    rw [Nat.pow_zero, Nat.one_mul, Nat.pow_succ, Nat.mul_comm (2 ^ b) 2, Nat.mul_assoc] at h
    omega
  | a + 1, 0, x, y, h => by
    rw [Nat.pow_zero, Nat.one_mul, Nat.pow_succ, Nat.mul_comm (2 ^ a) 2, Nat.mul_assoc] at h
    omega
  | a + 1, b + 1, x, y, h => by
    rw [Nat.pow_succ, Nat.mul_comm (2 ^ a) 2, Nat.mul_assoc, Nat.pow_succ, Nat.mul_comm (2 ^ b) 2, Nat.mul_assoc] at h
    obtain ⟨h1, h2⟩ := pow_odd a b x y (Nat.eq_of_mul_eq_mul_left (by decide) h)
    exact ⟨by rw [h1], h2⟩
theorem memN_pos (n : Nat) (l : List Nat) : memN (n :: l) ≠ 0 := fun e => by
  have : 0 < 2 ^ n * (2 * memN l + 1) := Nat.mul_pos (Nat.pow_pos (by decide)) (Nat.succ_pos _)
  have e' : 2 ^ n * (2 * memN l + 1) = 0 := e
  omega
theorem memN_inj : ∀ {l m : List Nat}, memN l = memN m → l = m
  | [], [], _ => rfl
  | [], n :: m, h => absurd h.symm (memN_pos n m)
  | n :: l, [], h => absurd h (memN_pos n l)
  | n :: l, k :: m, h => by
    obtain ⟨h1, h2⟩ := pow_odd n k _ _ h
    rw [h1, memN_inj h2]
def memI : Int → Nat
  | .ofNat n => 2 * n
  | .negSucc n => 2 * n + 1
theorem memI_inj {i j : Int} (h : memI i = memI j) : i = j := by
  cases i <;> cases j <;> simp only [memI] at h
  · congr 1; omega
  · omega
  · omega
  · congr 1; omega
def memK : Key → Nat
  | .inl i => memN [0, memI i]
  | .inr s => memN (1 :: s.cps.toList)
theorem memK_inj {k l : Key} (h : memK k = memK l) : k = l := by
  cases k with
  | inl i =>
    cases l with
    | inl j =>
      have e := memN_inj h
      injection e with _ e
      injection e with e _
      rw [memI_inj e]
    | inr s =>
      have e := memN_inj h
      injection e with e _
      cases e
  | inr s =>
    cases l with
    | inl j =>
      have e := memN_inj h
      injection e with e _
      cases e
    | inr t =>
      have e := memN_inj h
      injection e with _ e
      obtain ⟨⟨s⟩⟩ := s
      obtain ⟨⟨t⟩⟩ := t
      have e : s = t := e
      rw [e]
def memL (L : List Key) : Nat := memN (L.map memK)
theorem memL_inj {L M : List Key} (h : memL L = memL M) : L = M := (List.map_inj_right fun a b q => memK_inj q).mp (memN_inj h)
abbrev MTok := List Key → Prop
abbrev MEn := Addr × V × Int
def EntR (x : MEn) (e : DictEntry) : Prop := e.hash = x.2.2 ∧ e.key = .ref x.1 ∧ L2.RelV x.2.1 e.val
def unV : Value → Option V
  | .none => some .non
  | .bool b => some (.bl b)
  | .int i _ => some (.int i)
  | .str x _ => some (.str x)
  | .bytes b _ => some (.byt b)
  | .float b _ => some (.flt b)
  | .ref a => some (.ref a)
  | .type n => some (.ty n)
  | _ => none
theorem relV_un {v : V} {u : Value} (h : L2.RelV v u) : unV u = some v := by
  cases v with
  | non => have h : u = .none := h; subst h; rfl
  | bl b => have h : u = .bool b := h; subst h; rfl
  | int i => have h : ∃ t, u = .int i t := h; obtain ⟨t, rfl⟩ := h; rfl
  | str x => have h : ∃ t, u = .str x t := h; obtain ⟨t, rfl⟩ := h; rfl
  | byt x => have h : ∃ t, u = .bytes x t := h; obtain ⟨t, rfl⟩ := h; rfl
  | flt x => have h : ∃ t, u = .float x t := h; obtain ⟨t, rfl⟩ := h; rfl
  | ref a => have h : u = .ref a := h; subst h; rfl
  | ty n => have h : u = .type n := h; subst h; rfl
theorem relV_inj {v v' : V} {u : Value} (h : L2.RelV v u) (h' : L2.RelV v' u) : v = v' := Option.some.inj ((relV_un h).symm.trans (relV_un h'))
theorem entR_inj : ∀ {xs ys : List MEn} {es : List DictEntry}, Paired EntR xs es → Paired EntR ys es → xs = ys
  | _, _, _, .nil, .nil => rfl
  | (a, v, n) :: xs, (b, v', n') :: ys, e :: es, .cons h r, .cons k t => by
    obtain ⟨h1, h2, h3⟩ := h
    obtain ⟨k1, k2, k3⟩ := k
    have e1 : n = n' := h1.symm.trans k1
    have e2 : Value.ref a = Value.ref b := h2.symm.trans k2
    injection e2 with e2
    rw [e1, e2, show v = v' from relV_inj h3 k3, entR_inj r t]
def MemB (S : MTok) (xs : List MEn) (o : Obj) : Prop := o.ExactDict ∧ ∃ es ep, o.data = .dict es ep ∧ Paired EntR xs es.toList ∧ (ep = xs.length ∨ ep = xs.length + 1 ∨ ∃ L, S L ∧ ep = xs.length + 3 + memL L)
def MemP (a : Addr) (S : MTok) (xs : List MEn) (h : Heap) : Prop := (a == sysModules) = false ∧ xs.length ≤ sizeLine ∧ ∃ o, h.get? a = some o ∧ MemB S xs o
def MemO (a : Addr) (S : MTok) (xs : List MEn) : HO := .ext (MemP a S xs)
def Me (o : HO) : Prop := ∃ a S xs, o = MemO a S xs ∧ ∃ h, MemP a S xs h
theorem not_freed {c : Value} {d : Option Addr} {es : Array DictEntry} {n : Nat} {sl : Array (Option Value)} : Obj.isFreed ⟨c, d, .dict es n, sl⟩ = false := rfl
def epo (n : Nat) : Obj → Obj
  | ⟨c, d, .dict es _, sl⟩ => ⟨c, d, .dict es n, sl⟩
  | o => o
theorem set_ep {h : Heap} {a : Addr} {o : Obj} {es : Array DictEntry} {ep : Nat} (e : h.get? a = some o) (x : o.ExactDict) (hd : o.data = .dict es ep) (n : Nat) : ∃ o', (h.update a (epo n)).get? a = some o' ∧ o'.ExactDict ∧ o'.data = .dict es n := by
  obtain ⟨c, d, dt, sl⟩ := o
  have hd : dt = .dict es ep := hd
  subst hd
  exact ⟨_, Heap.get?_update_self (epo n) e not_freed, x, rfl⟩
theorem memP_ep {h : Heap} {a : Addr} {S : MTok} {xs : List MEn} (m : MemP a S xs h) (n : Nat) : MemP a S xs (h.update a (epo n)) ↔ n = xs.length ∨ n = xs.length + 1 ∨ ∃ L, S L ∧ n = xs.length + 3 + memL L := by
  obtain ⟨m1, m2, o, e, x, es, ep, hd, pr, _⟩ := m
  obtain ⟨o', e', x', hd'⟩ := set_ep e x hd n
  constructor
  · rintro ⟨_, _, o2, e2, _, es2, ep2, hd2, _, q⟩
    rw [e'] at e2
    cases e2
    rw [hd'] at hd2
    injection hd2 with h1 h2
    rw [h2]
    exact q
  · exact fun q => ⟨m1, m2, o', e', x', es, n, hd', pr, q⟩
theorem memO_inj {a b : Addr} {S T : MTok} {xs ys : List MEn} (e : MemO a S xs = MemO b T ys) (sat : ∃ h, MemP a S xs h) : a = b ∧ S = T ∧ xs = ys := by
  obtain ⟨h, m⟩ := sat
  have e : MemP a S xs = MemP b T ys := by
    unfold MemO at e
    injection e
  have mk : MemP b T ys h := e ▸ m
  have ab : a = b := Classical.byContradiction fun n => by
    -- junk at b
    obtain ⟨_, _, o, eo, x, es, ep, hd, _⟩ := mk
    have k : MemP a S xs (h.update b (epo (ys.length + 2))) := by
      obtain ⟨m1, m2, o1, e1, r⟩ := m
      exact ⟨m1, m2, o1, by rw [Heap.get?_update_other h _ fun z => n z.symm]; exact e1, r⟩
    rw [e] at k
    rcases (memP_ep (e ▸ m) _).mp k with z | z | ⟨L, _, z⟩ <;> omega
  subst ab
  have xy : xs = ys := by
    obtain ⟨_, _, o, e1, _, es, ep, hd, pr, _⟩ := m
    obtain ⟨_, _, o2, e2, _, es2, ep2, hd2, pr2, _⟩ := mk
    rw [e1] at e2
    cases e2
    rw [hd] at hd2
    injection hd2 with q1 _
    subst q1
    exact entR_inj pr pr2
  subst xy
  refine ⟨rfl, ?_, rfl⟩
  funext L
  refine propext ?_
  have c1 := memP_ep m (xs.length + 3 + memL L)
  have c2 := memP_ep mk (xs.length + 3 + memL L)
  rw [e] at c1
  have one : ∀ U : MTok, (xs.length + 3 + memL L = xs.length ∨ xs.length + 3 + memL L = xs.length + 1 ∨ ∃ M, U M ∧ xs.length + 3 + memL L = xs.length + 3 + memL M) ↔ U L := fun U => by
    constructor
    · rintro (z | z | ⟨M, u, z⟩)
      · omega
      · omega
      · rw [memL_inj (L := L) (M := M) (by omega)]
        exact u
    · exact fun u => .inr (.inr ⟨L, u, rfl⟩)
  rw [one] at c1 c2
  exact c1.symm.trans c2
theorem me_lst {xs : List V} : ¬ Me (.lst xs) := fun ⟨_, _, _, e, _⟩ => by cases e
theorem me_tup {xs : List V} : ¬ Me (.tup xs) := fun ⟨_, _, _, e, _⟩ => by cases e
theorem me_dK {kvs : List (Key × V)} : ¬ Me (.dK kvs) := fun ⟨_, _, _, e, _⟩ => by cases e
theorem me_frz {o : Obj} {u : HO} : ¬ Me (.frz o u) := fun ⟨_, _, _, e, _⟩ => by cases e
theorem me_xd {fs : List (Str × V)} : ¬ Me (.xd fs) := fun ⟨_, _, _, e, _⟩ => by cases e
theorem me_at {b : Addr} {φ : Heap → Prop} (loc : ∀ h1 h2 : Heap, φ h1 → (∀ o, h1.get? b = some o → h2.get? b = some o) → φ h2) {a : Addr} {S : MTok} {xs : List MEn} (e : HO.ext φ = MemO a S xs) {h : Heap} (m : MemP a S xs h) : a = b := Classical.byContradiction fun n => by
  have e : φ = MemP a S xs := by
    unfold MemO at e
    injection e
  have k : φ (h.update a (epo (xs.length + 2))) := loc h _ (e ▸ m) fun o q => by rw [Heap.get?_update_other h _ n]; exact q
  rw [e] at k
  rcases (memP_ep m _).mp k with z | z | ⟨L, _, z⟩ <;> omega
theorem me_obj {b : Addr} {φ : Heap → Prop} (loc : ∀ h1 h2 : Heap, φ h1 → (∀ o, h1.get? b = some o → h2.get? b = some o) → φ h2) (no : ∀ h o, φ h → h.get? b = some o → ¬ o.ExactDict) : ¬ Me (.ext φ) := fun ⟨a, S, xs, e, h, m⟩ => by
  have ab := me_at loc e m
  subst ab
  have e' : φ = MemP a S xs := by
    unfold MemO at e
    injection e
  obtain ⟨_, _, o, e1, x, _⟩ := m
  exact no h o (e' ▸ ⟨‹_›, ‹_›, o, e1, x, ‹_›⟩) e1 x
theorem me_any {b : Addr} {φ : Heap → Prop} (loc : ∀ h1 h2 : Heap, φ h1 → (∀ o, h1.get? b = some o → h2.get? b = some o) → φ h2) (any : ∀ h n, φ h → φ (h.update b (epo n))) : ¬ Me (.ext φ) := fun ⟨a, S, xs, e, h, m⟩ => by
  have ab := me_at loc e m
  subst ab
  have e' : φ = MemP a S xs := by
    unfold MemO at e
    injection e
  have k := any h (xs.length + 2) (e' ▸ m)
  rw [e'] at k
  rcases (memP_ep m _).mp k with z | z | ⟨L, _, z⟩ <;> omega
def KT (H : Hp) (S : MTok) (b : Addr) (k : List Key) : Prop := H b = some (.tup (k.map kV)) ∨ (∃ o, H b = some (.frz o (.tup (k.map kV)))) ∨ S (.inl 1 :: .inl (b : Int) :: k)
abbrev MVal := Int ⊕ List (Key × Int)
def encE : List (Key × Int) → List Key
  | [] => []
  | p :: es => p.1 :: .inl p.2 :: encE es
def tokE : MVal → List Key → Int → List Key
  | .inl i, k, h => .inl 0 :: (k ++ [.inl i, .inl h])
  | .inr es, k, h => .inl 2 :: .inl (es.length : Int) :: (encE es ++ (k ++ [.inl h]))
def DctE (a : Addr) : HO := .ext fun h => (a == sysModules) = false ∧ ∃ o es ep, h.get? a = some o ∧ o.ExactDict ∧ o.data = .dict es ep ∧ es.toList = []
def MV (H : Hp) (v : V) : MVal → Prop
  | .inl i => v = .int i
  | .inr es => ∃ (c : Addr) (ob : Obj) (u : HO), v = .ref c ∧ H c = some (.frz ob u) ∧ (u = .dK (es.map fun p => (p.1, V.int p.2)) ∨ es = [] ∧ u = DctE c)
def VT (H : Hp) (S : MTok) (k : List Key) (x : MEn) : Prop := ∃ m : MVal, MV H x.2.1 m ∧ S (tokE m k x.2.2)
def EnsOk (H : Hp) (S : MTok) (xs : List MEn) (ks : List (List Key)) : Prop := ks.Nodup ∧ Paired (fun (k : List Key) (x : MEn) => KT H S x.1 k ∧ VT H S k x) ks xs
def MemAt (H : Hp) (a : Addr) (S : MTok) (ns : List (List Key)) : Prop := ∃ xs ks, H a = some (MemO a S xs) ∧ (∃ h, MemP a S xs h) ∧ EnsOk H S xs ks ∧ ∀ k ∈ ns, k ∈ ks
structure Evo (H H' : Hp) : Prop where
  dm : ∀ b, H b ≠ none → H' b ≠ none
  up : ∀ a S ns, MemAt H a S ns → MemAt H' a S ns
theorem Evo.refl (H : Hp) : Evo H H := ⟨fun _ h => h, fun _ _ _ h => h⟩
theorem Evo.trans {H H1 H2 : Hp} (a : Evo H H1) (b : Evo H1 H2) : Evo H H2 := ⟨fun x h => b.dm x (a.dm x h), fun x S ns h => b.up x S ns (a.up x S ns h)⟩
def TpO (o : HO) : Prop := (∃ ys, o = .tup ys) ∨ ∃ q u, o = .frz q u
theorem KT.kp {H H' : Hp} {S : MTok} {b : Addr} {k : List Key} (q : ∀ b o, TpO o → H b = some o → H' b = some o) (h : KT H S b k) : KT H' S b k := by
  rcases h with h | ⟨o, h⟩ | h
  · exact .inl (q _ _ (.inl ⟨_, rfl⟩) h)
  · exact .inr (.inl ⟨o, q _ _ (.inr ⟨_, _, rfl⟩) h⟩)
  · exact .inr (.inr h)
theorem MV.kp {H H' : Hp} {v : V} (q : ∀ b o, TpO o → H b = some o → H' b = some o) : ∀ {m : MVal}, MV H v m → MV H' v m
  | .inl _, h => h
  | .inr _, ⟨c, ob, u, h1, h2, h3⟩ => ⟨c, ob, u, h1, q _ _ (.inr ⟨_, _, rfl⟩) h2, h3⟩
theorem EnsOk.kp {H H' : Hp} {S : MTok} {xs : List MEn} {ks : List (List Key)} (k : ∀ b o, TpO o → H b = some o → H' b = some o) (h : EnsOk H S xs ks) : EnsOk H' S xs ks := ⟨h.1, Paired.mapP h.2 fun _ _ q => ⟨q.1.kp k, let ⟨m, a, b⟩ := q.2; ⟨m, a.kp k, b⟩⟩⟩
theorem MemAt.kp {H H' : Hp} {a : Addr} {S : MTok} {ns : List (List Key)} (k : ∀ b o, H b = some o → H' b = some o) (h : MemAt H a S ns) : MemAt H' a S ns := let ⟨xs, ks, h1, h2, h3, h4⟩ := h; ⟨xs, ks, k _ _ h1, h2, h3.kp fun b o _ e => k b o e, h4⟩
theorem Evo.of_same {H H' : Hp} (k : ∀ b o, H b = some o → H' b = some o) : Evo H H' where
  dm := fun b h => by
    cases q : H b with
    | none => exact absurd q h
    | some o => rw [k b o q]; intro z; cases z
  up := fun a S ns h => h.kp k
theorem Evo.set {H : Hp} {p : Addr} {o1 o2 : HO} (h : H p = some o1) (n : ¬ Me o1) (t : ∀ xs, o1 ≠ .tup xs) (t2 : ∀ o u, o1 ≠ .frz o u) : Evo H (upd H p o2) where
  dm := fun b hb => by
    by_cases z : b = p
    · rw [z, upd_same]; intro z; cases z
    · rw [upd_ne z]; exact hb
  up := fun a S ns ⟨xs, ks, e, sat, ok, pr⟩ => by
    have ap : a ≠ p := fun z => by
      subst z
      rw [h] at e
      cases e
      exact n ⟨_, _, _, rfl, sat⟩
    exact ⟨xs, ks, by rw [upd_ne ap]; exact e, sat, ok.kp fun b o tp q => by
      rw [upd_ne fun z => by
        subst z
        rw [h] at q
        cases q
        rcases tp with ⟨ys, rfl⟩ | ⟨q, ys, rfl⟩
        · exact t _ rfl
        · exact t2 _ _ rfl]
      exact q, pr⟩
theorem paired_end {α β : Type} {F : α → β → Prop} {a : α} {b : β} : ∀ {l : List α} {m : List β}, Paired F l m → F a b → Paired F (l ++ [a]) (m ++ [b])
  | _, _, .nil, h => .cons h .nil
  | _, _, .cons q r, h => .cons q (paired_end r h)
theorem memO_tp {a : Addr} {S : MTok} {xs : List MEn} : ¬ TpO (MemO a S xs) := fun h => by
  rcases h with ⟨_, h⟩ | ⟨_, _, h⟩ <;> cases h
theorem Evo.put {H : Hp} {a : Addr} {S : MTok} {xs : List MEn} {x : MEn} {k : List Key} (h : H a = some (MemO a S xs)) (sat : ∃ h, MemP a S xs h) (sat' : ∃ h, MemP a S (xs ++ [x]) h)
    (hk : ∀ ls, EnsOk H S xs ls → k ∉ ls) (hx : KT H S x.1 k ∧ VT H S k x) : Evo H (upd H a (MemO a S (xs ++ [x]))) := by
  have tk : ∀ b o, TpO o → H b = some o → upd H a (MemO a S (xs ++ [x])) b = some o := fun b o tp q => by
    rw [upd_ne fun z => by subst z; rw [h] at q; cases q; exact memO_tp tp]
    exact q
  refine ⟨fun b hb => ?_, fun b T ns ⟨ys, ls, e, sat2, ok2, pr⟩ => ?_⟩
  · by_cases z : b = a
    · rw [z, upd_same]; intro z; cases z
    · rw [upd_ne z]; exact hb
  · by_cases z : b = a
    · subst z
      rw [h] at e
      obtain ⟨_, e1, e2⟩ := memO_inj (Option.some.inj e) sat
      subst e1
      subst e2
      have nk : k ∉ ls := hk ls ok2
      refine ⟨xs ++ [x], ls ++ [k], upd_same, sat', ⟨List.nodup_append.mpr ⟨ok2.1, List.nodup_cons.mpr ⟨List.not_mem_nil, List.nodup_nil⟩, fun c hc d hd e => nk (by rw [List.mem_singleton.mp hd] at e; exact e ▸ hc)⟩, ?_⟩, ?_⟩
      · exact Paired.mapP (paired_end ok2.2 ⟨hx.1, hx.2⟩) fun _ _ q => ⟨q.1.kp tk, let ⟨m, a, b⟩ := q.2; ⟨m, a.kp tk, b⟩⟩
      · exact fun k hk => List.mem_append_left _ (pr k hk)
    · exact ⟨ys, ls, by rw [upd_ne z]; exact e, sat2, ok2.kp tk, pr⟩
theorem Evo.mod {H : Hp} {a : Addr} {S : MTok} {xs zs : List MEn} (h : H a = some (MemO a S xs)) (sat : ∃ h, MemP a S xs h) (sat' : ∃ h, MemP a S zs h) (hx : ∀ ls, EnsOk H S xs ls → EnsOk H S zs ls) : Evo H (upd H a (MemO a S zs)) := by
  have tk : ∀ b o, TpO o → H b = some o → upd H a (MemO a S zs) b = some o := fun b o tp q => by
    rw [upd_ne fun z => by subst z; rw [h] at q; cases q; exact memO_tp tp]
    exact q
  refine ⟨fun b hb => ?_, fun b T ns ⟨ys, ls, e, sat2, ok2, pr⟩ => ?_⟩
  · by_cases z : b = a
    · rw [z, upd_same]; intro z; cases z
    · rw [upd_ne z]; exact hb
  · by_cases z : b = a
    · subst z
      rw [h] at e
      obtain ⟨_, e1, e2⟩ := memO_inj (Option.some.inj e) sat
      subst e1
      subst e2
      exact ⟨zs, ls, upd_same, sat', (hx ls ok2).kp tk, pr⟩
    · exact ⟨ys, ls, by rw [upd_ne z]; exact e, sat2, ok2.kp tk, pr⟩
end DL
set_option Elab.async false
set_option linter.all false
set_option maxRecDepth 100000
set_option maxHeartbeats 2000000
namespace DL
open PySem PySem.Spec PyProof.Rows L2
abbrev Dt := PyData
abbrev Bad := Addr → Prop
structure KW where
  F : PySem.W.Frag
  w : World
  mg : Str → Option Value
instance : CoeOut KW PySem.W.Frag := ⟨KW.F⟩
end DL
namespace L2
@[reducible] def Cx.kw (X : Cx) : DL.KW := ⟨X.K, X.w, X.mg⟩
end L2
namespace DL
open PySem PySem.Spec PyProof.Rows L2
def Tq (K : KW) (H : Hp) (a : Addr) (xs : List V) : Prop :=
  H a = some (.tup xs) ∨ (∃ (o : Obj) (its : Array Value) (n : Nat), K.F.lookup a = some o ∧ o.cls = .type "tuple" ∧ o.data = .seq its n ∧ its.size ≤ sizeLine ∧ Vals xs its.toList) ∨ ∃ o, H a = some (.frz o (.tup xs))
theorem Tq.sq {K : KW} {H : Hp} {a : Addr} {xs : List V} (h : Tq K H a xs) : SqT K H a xs := by
  rcases h with h | h | ⟨o, h⟩
  · exact .inl (.inl h)
  · exact .inr h
  · exact .inl (.inr ⟨o, h⟩)
def Sq (K : KW) (H : Hp) (a : Addr) (ns : List Int) : Prop :=
  (∃ o, H a = some (.frz o (.lst (ns.map V.int)))) ∨ ∃ (o : Obj) (its : Array Value) (n : Nat), K.F.lookup a = some o ∧ o.cls = .type "list" ∧ o.dict = none ∧ o.data = .seq its n ∧ its.size ≤ sizeLine ∧ Vals (ns.map V.int) its.toList
theorem Sq.sq {K : KW} {H : Hp} {a : Addr} {ns : List Int} (h : Sq K H a ns) : SqL K H a (ns.map V.int) := h.imp (fun ⟨o, h⟩ => .inr ⟨o, h⟩) id
abbrev scrD (ns : List Int) : Dt := .dict [(.none, .list (ns.map .int))]
abbrev epD (n : Nat) : Dt := .dict [(.none, .int (n : Int))]
def ErO (C : Addr) (d : Option Addr) (a : Addr) : HO := .ext fun h => ∃ (oe : Obj) (vs : Array Value), h.get? a = some oe ∧ Zc (.ref C) d oe ∧ oe.data = .fields vs
structure ErK (F : PySem.W.Frag) (C : Addr) (bs : List String) (fs : List Str) : Prop where
  xf : XfC F C
  ex : ExcC F C
  up : ∀ b ∈ bs, PySem.W.kitOne F (.ref C) (.type b) = some true
  no : ∀ f ∈ fs, PySem.W.findIn F (.ref C) f = some none
abbrev erT (bs : List String) (fs : List Str) : Dt := .tuple [.str "error", .tuple (bs.map fun b => .str (PySem.Str.ofString b)), .tuple (fs.map .str)]
abbrev erTc (c : Str) (bs : List String) (fs : List Str) : Dt := .tuple [.str c, .tuple (bs.map fun b => .str (PySem.Str.ofString b)), .tuple (fs.map .str)]
inductive ObW (K : KW) (a : Addr) : List (Addr × HO) → Dt → List V → Prop
  | er0 {C : Addr} {bs : List String} : ErK K.F C bs [] → ObW K a [(a, ErO C none a)] (erT bs []) []
  | er1 {C dd : Addr} {bs : List String} {f : Str} {x : V} : ErK K.F C bs [f] → ObW K a [(a, ErO C (some dd) a), (dd, .xd [(f, x)])] (erT bs [f]) [x]
  | ec0 {C : Addr} {c : Str} {bs : List String} : K.mg c = some (.ref C) → ErK K.F C bs [] → ObW K a [(a, ErO C none a)] (erTc c bs []) []
  | ec1 {C dd : Addr} {c : Str} {bs : List String} {f : Str} {x : V} : K.mg c = some (.ref C) → ErK K.F C bs [f] → ObW K a [(a, ErO C (some dd) a), (dd, .xd [(f, x)])] (erTc c bs [f]) [x]
  /-- a def of the module -/
  | fn {c : Str} : K.mg c = some (.ref a) → ObW K a [] (.list [.str c]) []
  /-- a tuple of which it is known that it has no dict of its own -/
  | tq {o : Obj} {xs : List V} : o.dict = none → ObW K a [(a, .frz o (.tup xs))] (.bool true) xs
  | sl {C dx : Addr} {vs : List V} {tag : Str} : K.mg tag = some (.ref C) → ObW K a [(a, SlX.SlO a C dx (vs.map some)), (dx, .xd [])] (.str tag) vs
abbrev obD (tag : Dt) (ds : List Dt) : Dt := .dict [(.none, .tuple (tag :: ds))]
def kD : Key → Dt
  | .inl i => .int i
  | .inr x => .str x
abbrev DEn := NestedKey × Addr × V
def entW (w : World) (x : NestedKey × Addr × Value) : DictEntry := ⟨x.1.hash w, .ref x.2.1, x.2.2⟩
def DctO (w : World) (a : Addr) (xs : List DEn) : HO := .ext fun h => (a == sysModules) = false ∧ xs.length ≤ sizeLine ∧ ∃ ys : List (NestedKey × Addr × Value),
  Paired (fun (p : DEn) (q : NestedKey × Addr × Value) => p.1 = q.1 ∧ p.2.1 = q.2.1 ∧ RelV p.2.2 q.2.2) xs ys ∧ ∃ o es ep, h.get? a = some o ∧ o.ExactDict ∧ o.data = .dict es ep ∧ es.toList = ys.map (entW w) ∧ (ys.map (·.1)).Nodup
def nkOf (k : List Key) : NestedKey := .tup (k.map fun | .inl i => .num i | .inr x => .text x)
abbrev memD (kvs : List (Dt × Dt)) : Dt := .dict [(.none, .dict kvs)]
def vD : MVal → Dt
  | .inl i => .int i
  | .inr es => .dict (es.map fun p => (kD p.1, PyData.int p.2))
def tokOf (K : KW) (kvs : List (Dt × Dt)) : MTok := fun L => (∃ k m, (PyData.tuple (k.map kD), vD m) ∈ kvs ∧ L = tokE m k ((nkOf k).hash K.w)) ∨
  ∃ (b : Addr) (k : List Key) (o : Obj) (its : Array Value) (n : Nat), (K.F.lookup b = some o ∧ o.cls = .type "tuple" ∧ o.data = .seq its n ∧ its.size ≤ sizeLine ∧ Vals (k.map kV) its.toList) ∧ L = .inl 1 :: .inl (b : Int) :: k
def Mb (o : HO) : Prop := (∃ xs, o = .lst xs) ∨ (∃ kvs, o = .dK kvs) ∨ ∃ φ, o = .ext φ
mutual
/-- v stands for d in H; no list of d stands at an address of B -/
inductive Rp (K : KW) (H : Hp) (B : Bad) : V → Dt → Prop
  | non : Rp K H B .non .none
  | bl (b : Bool) : Rp K H B (.bl b) (.bool b)
  | int (i : Int) : Rp K H B (.int i) (.int i)
  | str (x : Str) : Rp K H B (.str x) (.str x)
  | lst {a : Addr} {xs : List V} {ds : List Dt} : Rd H a (.lst xs) → ¬ B a → RpL K H B xs ds → Rp K H B (.ref a) (.list ds)
  | tup {a : Addr} {xs : List V} {ds : List Dt} : Tq K H a xs → RpL K H B xs ds → Rp K H B (.ref a) (.tuple ds)
  | scr {a : Addr} {ns : List Int} : Sq K H a ns → Rp K H B (.ref a) (scrD ns)
  | dct {a : Addr} {ob : Obj} {o : HO} {kvs : List (Dt × Dt)} : H a = some (.frz ob o) → Dc K H B a o kvs → Rp K H B (.ref a) (.dict kvs)
  | ep {a : Addr} {ob : Obj} {u : HO} {es : Array DictEntry} {n : Nat} : H a = some (.frz ob u) → ob.data = .dict es n → Rp K H B (.ref a) (epD n)
  | ob {a : Addr} {ps : List (Addr × HO)} {tag : Dt} {xs : List V} {ds : List Dt} : ObW K a ps tag xs → (∀ p ∈ ps, H p.1 = some p.2 ∧ (¬ B p.1 ∨ ¬ Mb p.2)) → RpL K H B xs ds → Rp K H B (.ref a) (obD tag ds)
  | mem {a : Addr} {kvs : List (Dt × Dt)} : MemAt H a (tokOf K kvs) [] → Rp K H B (.ref a) (memD kvs)
inductive RpL (K : KW) (H : Hp) (B : Bad) : List V → List Dt → Prop
  | nil : RpL K H B [] []
  | cons {v : V} {vs : List V} {d : Dt} {ds : List Dt} : Rp K H B v d → RpL K H B vs ds → RpL K H B (v :: vs) (d :: ds)
/-- what a dict's object holds -/
inductive Dc (K : KW) (H : Hp) (B : Bad) : Addr → HO → List (Dt × Dt) → Prop
  | ky {a : Addr} {kvs : List (Key × V)} {vs : List Dt} : RpL K H B (kvs.map (·.2)) vs → Dc K H B a (.dK kvs) ((kvs.map fun p => kD p.1).zip vs)
  | tp {a : Addr} {xs : List DEn} {vs : List Dt} : (∀ x ∈ xs, x.1.depth ≤ 8) → RpL K H B (xs.map fun x => V.ref x.2.1) (xs.map fun x => x.1.data) → RpL K H B (xs.map (·.2.2)) vs → Dc K H B a (DctO K.w a xs) ((xs.map fun x => x.1.data).zip vs)
end
theorem Dc.mb {K : KW} {H : Hp} {B : Bad} {a : Addr} {o : HO} {kvs : List (Dt × Dt)} (h : Dc K H B a o kvs) : Mb o := by
  cases h with
  | ky _ => exact .inr (.inl ⟨_, rfl⟩)
  | tp _ _ _ => exact .inr (.inr ⟨_, rfl⟩)
theorem me_dct {w : World} {a : Addr} {xs : List DEn} : ¬ Me (DctO w a xs) := me_any (b := a) (fun h1 h2 ⟨q1, q2, ys, pr, o, es, ep, e, r⟩ k => ⟨q1, q2, ys, pr, o, es, ep, k _ e, r⟩) fun h n ⟨q1, q2, ys, pr, o, es, ep, e, x, hd, r⟩ => by
  obtain ⟨o', e', x', hd'⟩ := set_ep e x hd n
  exact ⟨q1, q2, ys, pr, o', es, n, e', x', hd', r⟩
theorem Dc.nme {K : KW} {H : Hp} {B : Bad} {a : Addr} {o : HO} {kvs : List (Dt × Dt)} (h : Dc K H B a o kvs) : ¬ Me o := by
  cases h with
  | ky _ => exact me_dK
  | tp _ _ _ => exact me_dct
theorem Dc.no_none {K : KW} {H : Hp} {B : Bad} {a : Addr} {o : HO} {v : Dt} {r kvs : List (Dt × Dt)} (h : Dc K H B a o kvs) (e : kvs = (.none, v) :: r) : False := by
  cases h with
  | @ky _ kv vs _ =>
    cases kv with
    | nil => cases e
    | cons p kv =>
      cases vs with
      | nil => cases e
      | cons u vs =>
        have e1 : kD p.1 = .none := congrArg Prod.fst (List.cons.inj e).1
        cases hp : p.1 <;> rw [hp] at e1 <;> cases e1
  | @tp _ xs vs _ q _ =>
    cases xs with
    | nil => cases e
    | cons p kv =>
      cases vs with
      | nil => cases e
      | cons u vs =>
        have e1 : p.1.data = .none := congrArg Prod.fst (List.cons.inj e).1
        cases q with
        | cons h _ =>
          have h' : Rp K H B (V.ref p.2.1) p.1.data := h
          rw [e1] at h'
          cases h'
structure Kp (B : Bad) (H H' : Hp) : Prop where
  at_ : ∀ b o, H b = some o → (¬ B b ∨ ¬ Mb o) → ¬ Me o → H' b = some o
  evo : Evo H H'
theorem mb_tup {xs : List V} : ¬ Mb (.tup xs) := fun h => by
  rcases h with ⟨_, h⟩ | ⟨_, h⟩ | ⟨_, h⟩ <;> cases h
theorem mb_frz {o : Obj} {u : HO} : ¬ Mb (.frz o u) := fun h => by
  rcases h with ⟨_, h⟩ | ⟨_, h⟩ | ⟨_, h⟩ <;> cases h
theorem Kp.refl (B : Bad) (H : Hp) : Kp B H H := ⟨fun _ _ h _ _ => h, Evo.refl H⟩
theorem Kp.trans {B : Bad} {H H1 H2 : Hp} (a : Kp B H H1) (b : Kp B H1 H2) : Kp B H H2 := ⟨fun c o h q n => b.at_ c o (a.at_ c o h q n) q n, a.evo.trans b.evo⟩
theorem Kp.mono {B B' : Bad} {H H' : Hp} (a : Kp B H H') (h : ∀ x, B x → B' x) : Kp B' H H' := ⟨fun c o e q => a.at_ c o e (q.imp (fun n z => n (h c z)) id), a.evo⟩
theorem Kp.of_same {B : Bad} {H H' : Hp} (h : Same H H') : Kp B H H' := ⟨fun b o e _ _ => h b o e, Evo.of_same h⟩
theorem same_new {H : Hp} {p : Addr} {o : HO} (h : H p = none) : Same H (upd H p o) := fun b x e => by
  rw [upd_ne (ne_of_none e h)]
  exact e
theorem Kp.set {B : Bad} {H : Hp} {p : Addr} {o1 o2 : HO} (hb : B p) (h : H p = some o1) (hm : Mb o1) (hn : ¬ Me o1) : Kp B H (upd H p o2) := ⟨fun b o e q _ => by
  have hne : b ≠ p := fun z => by
    subst z
    rcases q with q | q
    · exact q hb
    · rw [h] at e; cases e; exact q hm
  rw [upd_ne hne]
  exact e, Evo.set h hn (fun xs z => mb_tup (z ▸ hm)) fun o u z => mb_frz (z ▸ hm)⟩
theorem rd_kp {B : Bad} {H H' : Hp} {a : Addr} {xs : List V} (k : Kp B H H') (n : ¬ B a) (h : Rd H a (.lst xs)) : Rd H' a (.lst xs) := by
  rcases h with h | ⟨o, h⟩
  · exact .inl (k.at_ _ _ h (.inl n) me_lst)
  · exact .inr ⟨o, k.at_ _ _ h (.inl n) me_frz⟩
theorem rd_same {H H' : Hp} {a : Addr} {u : HO} (k : Same H H') (h : Rd H a u) : Rd H' a u := h.imp (fun h => k _ _ h) fun ⟨o, h⟩ => ⟨o, k _ _ h⟩
theorem rd_ne {H : Hp} {a p : Addr} {u : HO} (h : Rd H a u) (hp : H p = none) : a ≠ p := by
  rcases h with h | ⟨o, h⟩
  · exact ne_of_none h hp
  · exact ne_of_none h hp
theorem sqT_kp {K : KW} {B : Bad} {H H' : Hp} {a : Addr} {xs : List V} (k : Kp B H H') (h : Tq K H a xs) : Tq K H' a xs := by
  rcases h with h | h | ⟨o, h⟩
  · exact .inl (k.at_ _ _ h (.inr mb_tup) me_tup)
  · exact .inr (.inl h)
  · exact .inr (.inr ⟨o, k.at_ _ _ h (.inr mb_frz) me_frz⟩)
theorem me_er {C : Addr} {d : Option Addr} {a : Addr} : ¬ Me (ErO C d a) := me_obj (b := a) (fun h1 h2 ⟨oe, vs, e, r⟩ k => ⟨oe, vs, k _ e, r⟩) fun h o ⟨oe, vs, e, z, _⟩ q x => by
  rw [e] at q
  cases q
  have c := z.1
  rw [x.1] at c
  cases c
theorem me_sl {a C dx : Addr} {vs : List (Option V)} : ¬ Me (SlX.SlO a C dx vs) := me_obj (b := a) (fun h1 h2 ⟨sl, e, r⟩ k => ⟨sl, k _ e, r⟩) fun h o ⟨sl, e, _⟩ q x => by
  rw [e] at q
  cases q
  cases x.1
theorem ObW.nme {K : KW} {a : Addr} {ps : List (Addr × HO)} {tag : Dt} {xs : List V} (w : ObW K a ps tag xs) : ∀ p ∈ ps, ¬ Me p.2 := by
  cases w with
  | er0 _ => intro p hp; rw [List.mem_singleton.mp hp]; exact me_er
  | er1 _ =>
    intro p hp
    rcases List.mem_cons.mp hp with rfl | hp
    · exact me_er
    · rw [List.mem_singleton.mp hp]; exact me_xd
  | ec0 _ _ => intro p hp; rw [List.mem_singleton.mp hp]; exact me_er
  | ec1 _ _ =>
    intro p hp
    rcases List.mem_cons.mp hp with rfl | hp
    · exact me_er
    · rw [List.mem_singleton.mp hp]; exact me_xd
  | fn _ => intro p hp; exact absurd hp List.not_mem_nil
  | tq _ => intro p hp; rw [List.mem_singleton.mp hp]; exact me_frz
  | sl _ =>
    intro p hp
    rcases List.mem_cons.mp hp with rfl | hp
    · exact me_sl
    · rw [List.mem_singleton.mp hp]; exact me_xd
theorem sq_kp {K : KW} {B : Bad} {H H' : Hp} {a : Addr} {ns : List Int} (k : Kp B H H') (h : Sq K H a ns) : Sq K H' a ns :=
  h.imp (fun ⟨o, h⟩ => ⟨o, k.at_ _ _ h (.inr mb_frz) me_frz⟩) id
mutual
theorem Rp.mono {K : KW} {B B' : Bad} {H H' : Hp} (k : Kp B H H') (hb : ∀ x, B' x → B x) : ∀ {v : V} {d : Dt}, Rp K H B v d → Rp K H' B' v d
  | _, _, .non => .non
  | _, _, .bl b => .bl b
  | _, _, .int i => .int i
  | _, _, .str x => .str x
  | _, _, .lst h n r => .lst (rd_kp k n h) (fun z => n (hb _ z)) (RpL.mono k hb r)
  | _, _, .tup h r => .tup (sqT_kp k h) (RpL.mono k hb r)
  | _, _, .scr h => .scr (sq_kp k h)
  | _, _, .dct h c => .dct (k.at_ _ _ h (.inr mb_frz) me_frz) (Dc.mono k hb c)
  | _, _, .ep h e => .ep (k.at_ _ _ h (.inr mb_frz) me_frz) e
  | _, _, .ob w h r => .ob w (fun p hp => ⟨k.at_ _ _ (h p hp).1 (h p hp).2 (w.nme p hp), (h p hp).2.imp (fun n z => n (hb _ z)) id⟩) (RpL.mono k hb r)
  | _, _, .mem h => .mem (k.evo.up _ _ _ h)
theorem RpL.mono {K : KW} {B B' : Bad} {H H' : Hp} (k : Kp B H H') (hb : ∀ x, B' x → B x) : ∀ {vs : List V} {ds : List Dt}, RpL K H B vs ds → RpL K H' B' vs ds
  | _, _, .nil => .nil
  | _, _, .cons h r => .cons (Rp.mono k hb h) (RpL.mono k hb r)
theorem Dc.mono {K : KW} {B B' : Bad} {H H' : Hp} (k : Kp B H H') (hb : ∀ x, B' x → B x) : ∀ {a : Addr} {o : HO} {kvs : List (Dt × Dt)}, Dc K H B a o kvs → Dc K H' B' a o kvs
  | _, _, _, .ky r => .ky (RpL.mono k hb r)
  | _, _, _, .tp d q r => .tp d (RpL.mono k hb q) (RpL.mono k hb r)
end
mutual
/-- a new address may join B -/
theorem Rp.fresh {K : KW} {B : Bad} {H : Hp} {p : Addr} {o : HO} (hp : H p = none) : ∀ {v : V} {d : Dt}, Rp K H B v d → Rp K (upd H p o) (fun a => B a ∨ a = p) v d
  | _, _, .non => .non
  | _, _, .bl b => .bl b
  | _, _, .int i => .int i
  | _, _, .str x => .str x
  | _, _, .lst h n r => .lst (rd_same (same_new hp) h) (fun z => z.elim n fun e => rd_ne h hp e) (RpL.fresh hp r)
  | _, _, .tup h r => .tup (sqT_kp (B := fun _ => False) (Kp.of_same (same_new hp)) h) (RpL.fresh hp r)
  | _, _, .scr h => .scr (sq_kp (B := fun _ => False) (Kp.of_same (same_new hp)) h)
  | _, _, .dct h c => .dct (same_new hp _ _ h) (Dc.fresh hp c)
  | _, _, .ep h e => .ep (same_new hp _ _ h) e
  | _, _, .ob w h r => .ob w (fun q hq => ⟨same_new hp _ _ (h q hq).1, (h q hq).2.imp (fun n z => z.elim n fun e => ne_of_none (h q hq).1 hp e) id⟩) (RpL.fresh hp r)
  | _, _, .mem h => .mem (h.kp (same_new hp))
theorem RpL.fresh {K : KW} {B : Bad} {H : Hp} {p : Addr} {o : HO} (hp : H p = none) : ∀ {vs : List V} {ds : List Dt}, RpL K H B vs ds → RpL K (upd H p o) (fun a => B a ∨ a = p) vs ds
  | _, _, .nil => .nil
  | _, _, .cons h r => .cons (Rp.fresh hp h) (RpL.fresh hp r)
theorem Dc.fresh {K : KW} {B : Bad} {H : Hp} {p : Addr} {o : HO} (hp : H p = none) : ∀ {a : Addr} {u : HO} {kvs : List (Dt × Dt)}, Dc K H B a u kvs → Dc K (upd H p o) (fun a => B a ∨ a = p) a u kvs
  | _, _, _, .ky r => .ky (RpL.fresh hp r)
  | _, _, _, .tp d q r => .tp d (RpL.fresh hp q) (RpL.fresh hp r)
end
theorem Rp.same {K : KW} {B : Bad} {H H' : Hp} {v : V} {d : Dt} (k : Same H H') (h : Rp K H B v d) : Rp K H' B v d := h.mono (Kp.of_same k) fun _ z => z
theorem RpL.same {K : KW} {B : Bad} {H H' : Hp} {vs : List V} {ds : List Dt} (k : Same H H') (h : RpL K H B vs ds) : RpL K H' B vs ds := h.mono (Kp.of_same k) fun _ z => z
theorem Dc.same {K : KW} {B : Bad} {H H' : Hp} {a : Addr} {o : HO} {kvs : List (Dt × Dt)} (k : Same H H') (h : Dc K H B a o kvs) : Dc K H' B a o kvs := h.mono (Kp.of_same k) fun _ z => z
theorem RpL.len {K : KW} {B : Bad} {H : Hp} : ∀ {vs : List V} {ds : List Dt}, RpL K H B vs ds → vs.length = ds.length
  | _, _, .nil => rfl
  | _, _, .cons _ r => by rw [List.length_cons, List.length_cons, r.len]
theorem RpL.get {K : KW} {B : Bad} {H : Hp} : ∀ {vs : List V} {ds : List Dt} {i : Nat} {d : Dt}, RpL K H B vs ds → ds[i]? = some d → ∃ v, vs[i]? = some v ∧ Rp K H B v d
  | _, _, _, _, .nil, e => by simp at e
  | _, _, 0, _, .cons h _, e => by simp at e; subst e; exact ⟨_, rfl, h⟩
  | _, _, i + 1, d, .cons _ r, e => by
    obtain ⟨v, h1, h2⟩ := RpL.get (i := i) (d := d) r (by simpa using e)
    exact ⟨v, by simpa using h1, h2⟩
theorem RpL.getV {K : KW} {B : Bad} {H : Hp} : ∀ {vs : List V} {ds : List Dt} {i : Nat} {v : V}, RpL K H B vs ds → vs[i]? = some v → ∃ d, ds[i]? = some d ∧ Rp K H B v d
  | _, _, _, _, .nil, e => by simp at e
  | _, _, 0, _, .cons h _, e => by simp at e; subst e; exact ⟨_, rfl, h⟩
  | _, _, i + 1, d, .cons _ r, e => by
    obtain ⟨v, h1, h2⟩ := RpL.getV (i := i) (v := d) r (by simpa using e)
    exact ⟨v, by simpa using h1, h2⟩
theorem RpL.append {K : KW} {B : Bad} {H : Hp} : ∀ {vs ws : List V} {ds es : List Dt}, RpL K H B vs ds → RpL K H B ws es → RpL K H B (vs ++ ws) (ds ++ es)
  | _, _, _, _, .nil, s => s
  | _, _, _, _, .cons h r, s => .cons h (RpL.append r s)
theorem RpL.set {K : KW} {B : Bad} {H : Hp} {v : V} {d : Dt} (h : Rp K H B v d) : ∀ {vs : List V} {ds : List Dt} (i : Nat), RpL K H B vs ds → RpL K H B (vs.set i v) (ds.set i d)
  | _, _, _, .nil => .nil
  | _, _, 0, .cons _ r => .cons h r
  | _, _, i + 1, .cons q r => .cons q (RpL.set h i r)
theorem RpL.take {K : KW} {B : Bad} {H : Hp} : ∀ {vs : List V} {ds : List Dt} (n : Nat), RpL K H B vs ds → RpL K H B (vs.take n) (ds.take n)
  | _, _, 0, _ => .nil
  | _, _, _ + 1, .nil => .nil
  | _, _, n + 1, .cons h r => .cons h (RpL.take n r)
theorem RpL.drop {K : KW} {B : Bad} {H : Hp} : ∀ {vs : List V} {ds : List Dt} (n : Nat), RpL K H B vs ds → RpL K H B (vs.drop n) (ds.drop n)
  | _, _, 0, r => r
  | _, _, _ + 1, .nil => .nil
  | _, _, n + 1, .cons _ r => RpL.drop n r
theorem RpL.erase {K : KW} {B : Bad} {H : Hp} : ∀ {vs : List V} {ds : List Dt} (n : Nat), RpL K H B vs ds → RpL K H B (vs.eraseIdx n) (ds.eraseIdx n)
  | _, _, _, .nil => .nil
  | _, _, 0, .cons _ r => r
  | _, _, n + 1, .cons h r => .cons h (RpL.erase n r)
theorem RpL.ints {K : KW} {B : Bad} {H : Hp} : ∀ {vs : List V} {ns : List Int}, RpL K H B vs (ns.map .int) → vs = ns.map V.int
  | _, [], .nil => rfl
  | _, n :: ns, .cons (.int _) r => by rw [RpL.ints r]; rfl
theorem RpL.of_ints {K : KW} {B : Bad} {H : Hp} : ∀ (ns : List Int), RpL K H B (ns.map V.int) (ns.map .int)
  | [] => .nil
  | n :: ns => .cons (.int n) (RpL.of_ints ns)
mutual
theorem Rp.dp {K : KW} {B : Bad} {H : Hp} : ∀ {v : V} {d : Dt}, Rp K H B v d → d.canLay0 = true → Dp K H v d
  | _, _, .non, _ => .non
  | _, _, .bl b, _ => .bl b
  | _, _, .int i, _ => .int i
  | _, _, .str x, _ => .str x
  | _, _, .lst h _ r, c => .lst (.inl h) (RpL.dp r (by simpa [PyData.canLay0] using c))
  | _, _, .tup h r, c => .tup h.sq (RpL.dp r (by simpa [PyData.canLay0] using c))
  | _, _, .scr _, c => by simp [PyData.canLay0] at c
  | _, _, .dct _ _, c => by simp [PyData.canLay0] at c
  | _, _, .ep _ _, c => by simp [PyData.canLay0] at c
  | _, _, .ob _ _ _, c => by simp [PyData.canLay0] at c
  | _, _, .mem _, c => by simp [PyData.canLay0] at c
theorem RpL.dp {K : KW} {B : Bad} {H : Hp} : ∀ {vs : List V} {ds : List Dt}, RpL K H B vs ds → PyData.canLayAll0 ds = true → DpAll K H vs ds
  | _, _, .nil, _ => .nil
  | _, _, .cons h r, c => by
    rw [PyData.canLayAll0, Bool.and_eq_true] at c
    exact .cons (Rp.dp h c.1) (RpL.dp r c.2)
end
inductive SV where
  | val (d : Dt) | own (ds : List Dt) | urn | dic (kvs : List (Dt × Dt))
def SV.mine : SV → Bool
  | .own _ => true
  | .dic _ => true
  | _ => false
structure Stt where
  sl : List (Option SV)
  ur : Option (List Int)
def Ow (σ : L2.St) (sl : List (Option SV)) : Bad := fun a => ∃ (i : Nat) (x : SV), sl[i]? = some (some x) ∧ x.mine = true ∧ σ[i]? = some (some (.ref a))
def Bh (B : Bad) (σ : L2.St) (sl : List (Option SV)) : Bad := fun a => B a ∨ Ow σ sl a
def Bp (B : Bad) (p : Addr) : Bad := fun a => B a ∨ a = p
def UrOk (H : Hp) (γ : Option Addr) (u : Option (List Int)) : Prop := ∀ p, γ = some p → ∃ ns : List Int, u = some ns ∧ H p = some (.lst (ns.map V.int))
structure Nx (γ : Option Addr) (b : Addr) (o : HO) : Prop where
  u : γ ≠ some b
  m : ¬ Me o
theorem nxl {γ : Option Addr} {b : Addr} {xs : List V} (h : γ ≠ some b) : Nx γ b (.lst xs) := ⟨h, me_lst⟩
structure Sx (H H' : Hp) : Prop where
  at_ : ∀ b o, H b = some o → ¬ Me o → H' b = some o
  evo : Evo H H'
theorem Sx.of_same {H H' : Hp} (k : Same H H') : Sx H H' := ⟨fun b o h _ => k b o h, Evo.of_same k⟩
theorem Sx.kp {H H' : Hp} (k : Sx H H') (B : Bad) : Kp B H H' := ⟨fun b o h _ n => k.at_ b o h n, k.evo⟩
theorem Sx.trans {H H1 H2 : Hp} (a : Sx H H1) (b : Sx H1 H2) : Sx H H2 := ⟨fun c o h n => b.at_ c o (a.at_ c o h n) n, a.evo.trans b.evo⟩
structure Kx (γ : Option Addr) (H H' : Hp) : Prop where
  at_ : ∀ b o, H b = some o → Nx γ b o → H' b = some o
  evo : Evo H H'
theorem Kx.sx {H H' : Hp} (k : Kx none H H') : Sx H H' := ⟨fun b o h n => k.at_ b o h ⟨(fun z => nomatch z), n⟩, k.evo⟩
theorem Kx.of_sx {γ : Option Addr} {H H' : Hp} (k : Sx H H') : Kx γ H H' := ⟨fun b o h n => k.at_ b o h n.m, k.evo⟩
theorem Kx.of_same {γ : Option Addr} {H H' : Hp} (k : Same H H') : Kx γ H H' := .of_sx (.of_same k)
theorem Kx.trans {γ : Option Addr} {H H1 H2 : Hp} (a : Kx γ H H1) (b : Kx γ H1 H2) : Kx γ H H2 := ⟨fun c o h n => b.at_ c o (a.at_ c o h n) n, a.evo.trans b.evo⟩
theorem Kx.refl {γ : Option Addr} {H : Hp} : Kx γ H H := ⟨fun _ _ h _ => h, Evo.refl H⟩
structure Rel (K : KW) (B : Bad) (γ : Option Addr) (H0 : Hp) (σ : L2.St) (H : Hp) (s : Stt) : Prop where
  len : s.sl.length = σ.length
  val : ∀ (i : Nat) (d : Dt), s.sl[i]? = some (some (.val d)) → ∃ v, σ[i]? = some (some v) ∧ Rp K H (Bh B σ s.sl) v d
  own : ∀ (i : Nat) (ds : List Dt), s.sl[i]? = some (some (.own ds)) → ∃ p vs, σ[i]? = some (some (.ref p)) ∧ H p = some (.lst vs) ∧ RpL K H (Bh B σ s.sl) vs ds ∧ ¬ B p ∧ H0 p = none
  dic : ∀ (i : Nat) (kvs : List (Dt × Dt)), s.sl[i]? = some (some (.dic kvs)) → ∃ p o, σ[i]? = some (some (.ref p)) ∧ H p = some o ∧ Dc K H (Bh B σ s.sl) p o kvs ∧ ¬ B p ∧ H0 p = none
  inj : ∀ (i j : Nat) (x y : SV) (p : Addr), s.sl[i]? = some (some x) → x.mine = true → s.sl[j]? = some (some y) → y.mine = true → σ[i]? = some (some (.ref p)) → σ[j]? = some (some (.ref p)) → i = j
  urn : ∀ (i : Nat), s.sl[i]? = some (some .urn) → ∃ p, γ = some p ∧ σ[i]? = some (some (.ref p))
  ur : UrOk H γ s.ur
  gB : ∀ p, γ = some p → B p
  bd : ∀ a, B a → H a ≠ none
  ent : ∀ b o, H0 b = some o → Nx γ b o → H b = some o
  ev : Evo H0 H
section
variable {K : KW} {B : Bad} {γ : Option Addr} {H0 H H' : Hp} {σ : L2.St} {s s' : Stt}
theorem same_dom (k : Same H H') {a : Addr} (h : H a ≠ none) : H' a ≠ none := by
  cases q : H a with
  | none => exact absurd q h
  | some o => rw [k a o q]; intro z; cases z
theorem UrOk.same {u : Option (List Int)} (r : UrOk H γ u) (k : Same H H') : UrOk H' γ u := fun p e => let ⟨ns, h1, h2⟩ := r p e; ⟨ns, h1, k _ _ h2⟩
theorem Rel.same (r : Rel K B γ H0 σ H s) (k : Same H H') : Rel K B γ H0 σ H' s where
  len := r.len
  val := fun i d e => let ⟨v, h1, h2⟩ := r.val i d e; ⟨v, h1, h2.same k⟩
  own := fun i ds e => let ⟨p, vs, h1, h2, h3, h4⟩ := r.own i ds e; ⟨p, vs, h1, k _ _ h2, h3.same k, h4⟩
  dic := fun i ds e => let ⟨p, o, h1, h2, h3, h4⟩ := r.dic i ds e; ⟨p, o, h1, k _ _ h2, h3.same k, h4⟩
  inj := r.inj
  urn := r.urn
  ur := r.ur.same k
  gB := r.gB
  bd := fun a ha => same_dom k (r.bd a ha)
  ent := fun b o h g => k _ _ (r.ent b o h g)
  ev := r.ev.trans (Evo.of_same k)
theorem Rel.bdh (r : Rel K B γ H0 σ H s) : ∀ a, Bh B σ s.sl a → H a ≠ none := fun a ha => by
  rcases ha with ha | ⟨i, ds, h1, hm, h2⟩
  · exact r.bd a ha
  · cases ds with
    | own ds =>
      obtain ⟨p, vs, e1, e2, _⟩ := r.own i ds h1
      rw [h2] at e1; cases e1
      rw [e2]; intro z; cases z
    | dic ds =>
      obtain ⟨p, vs, e1, e2, _⟩ := r.dic i ds h1
      rw [h2] at e1; cases e1
      rw [e2]; intro z; cases z
    | val _ => cases hm
    | urn => cases hm
theorem Rel.mine (r : Rel K B γ H0 σ H s) {i : Nat} {x : SV} (h : s.sl[i]? = some (some x)) (hm : x.mine = true) : ∃ p o, σ[i]? = some (some (.ref p)) ∧ H p = some o ∧ Mb o ∧ ¬ B p ∧ H0 p = none := by
  cases x with
  | own ds =>
    obtain ⟨p, vs, e1, e2, _, e4, e5⟩ := r.own i ds h
    exact ⟨p, _, e1, e2, .inl ⟨_, rfl⟩, e4, e5⟩
  | dic ds =>
    obtain ⟨p, o, e1, e2, e3, e4, e5⟩ := r.dic i ds h
    exact ⟨p, o, e1, e2, e3.mb, e4, e5⟩
  | val _ => cases hm
  | urn => cases hm
theorem Rel.mineN (r : Rel K B γ H0 σ H s) {i : Nat} {x : SV} (h : s.sl[i]? = some (some x)) (hm : x.mine = true) : ∃ p o, σ[i]? = some (some (.ref p)) ∧ H p = some o ∧ ¬ Me o := by
  cases x with
  | own ds =>
    obtain ⟨p, vs, e1, e2, _, e4, e5⟩ := r.own i ds h
    exact ⟨p, _, e1, e2, me_lst⟩
  | dic ds =>
    obtain ⟨p, o, e1, e2, e3, e4, e5⟩ := r.dic i ds h
    exact ⟨p, o, e1, e2, e3.nme⟩
  | val _ => cases hm
  | urn => cases hm
theorem Rel.ownN (r : Rel K B γ H0 σ H s) {b : Addr} (hb : Ow σ s.sl b) {o : HO} (h : H b = some o) : ¬ Me o := by
  obtain ⟨i, x, h1, hm, h2⟩ := hb
  obtain ⟨p, u, e1, e2, n⟩ := r.mineN h1 hm
  rw [h2] at e1; cases e1
  rw [h] at e2; cases e2
  exact n
theorem Rel.kx (r : Rel K B γ H0 σ H s) : Kx γ H0 H := ⟨r.ent, r.ev⟩
theorem Rel.h0 (r : Rel K B γ H0 σ H s) {p : Addr} (h : H p = none) : H0 p = none := by
  cases q : H0 p with
  | none => rfl
  | some o => exact absurd h (r.ev.dm p (by rw [q]; intro z; cases z))
mutual
theorem Rp.avoid {p : Addr} (hp : H p = none) : ∀ {v : V} {d : Dt}, Rp K H B v d → Rp K H (Bp B p) v d
  | _, _, .non => .non
  | _, _, .bl b => .bl b
  | _, _, .int i => .int i
  | _, _, .str x => .str x
  | _, _, .lst h n r => .lst h (fun z => z.elim n fun e => rd_ne h hp e) (RpL.avoid hp r)
  | _, _, .tup h r => .tup h (RpL.avoid hp r)
  | _, _, .scr h => .scr h
  | _, _, .dct h c => .dct h (Dc.avoid hp c)
  | _, _, .ep h e => .ep h e
  | _, _, .ob w h r => .ob w (fun q hq => ⟨(h q hq).1, (h q hq).2.imp (fun n z => z.elim n fun e => ne_of_none (h q hq).1 hp e) id⟩) (RpL.avoid hp r)
  | _, _, .mem h => .mem h
theorem RpL.avoid {p : Addr} (hp : H p = none) : ∀ {vs : List V} {ds : List Dt}, RpL K H B vs ds → RpL K H (Bp B p) vs ds
  | _, _, .nil => .nil
  | _, _, .cons h r => .cons (Rp.avoid hp h) (RpL.avoid hp r)
theorem Dc.avoid {p : Addr} (hp : H p = none) : ∀ {a : Addr} {u : HO} {kvs : List (Dt × Dt)}, Dc K H B a u kvs → Dc K H (Bp B p) a u kvs
  | _, _, _, .ky r => .ky (RpL.avoid hp r)
  | _, _, _, .tp d q r => .tp d (RpL.avoid hp q) (RpL.avoid hp r)
end
theorem RpL.sub {B' : Bad} {vs : List V} {ds : List Dt} (r : RpL K H B vs ds) (h : ∀ a, B' a → B a) : RpL K H B' vs ds := r.mono (Kp.refl _ _) h
theorem Rp.sub {B' : Bad} {v : V} {d : Dt} (r : Rp K H B v d) (h : ∀ a, B' a → B a) : Rp K H B' v d := r.mono (Kp.refl _ _) h
theorem Dc.sub {B' : Bad} {a : Addr} {o : HO} {kvs : List (Dt × Dt)} (r : Dc K H B a o kvs) (h : ∀ a, B' a → B a) : Dc K H B' a o kvs := r.mono (Kp.refl _ _) h
theorem bh_bp {p a : Addr} {sl : List (Option SV)} : Bh (Bp B p) σ sl a → Bp (Bh B σ sl) p a := fun h => by
  rcases h with (h | h) | h
  · exact .inl (.inl h)
  · exact .inr h
  · exact .inl (.inr h)
theorem Rel.bp (r : Rel K B γ H0 σ H s) {p : Addr} {o : HO} (hp : H p = none) : Rel K (Bp B p) γ H0 σ (upd H p o) s := by
  have sm : Same H (upd H p o) := same_new hp
  have cv : ∀ {v d}, Rp K H (Bh B σ s.sl) v d → Rp K (upd H p o) (Bh (Bp B p) σ s.sl) v d := fun h => ((h.avoid hp).sub fun _ => bh_bp).same sm
  have cl : ∀ {v d}, RpL K H (Bh B σ s.sl) v d → RpL K (upd H p o) (Bh (Bp B p) σ s.sl) v d := fun h => ((h.avoid hp).sub fun _ => bh_bp).same sm
  exact {
    len := r.len
    val := fun i d e => let ⟨v, h1, h2⟩ := r.val i d e; ⟨v, h1, cv h2⟩
    own := fun i ds e => let ⟨q, vs, h1, h2, h3, h4, h5⟩ := r.own i ds e; ⟨q, vs, h1, sm _ _ h2, cl h3, fun z => z.elim h4 fun z => ne_of_none h2 hp z, h5⟩
    dic := fun i ds e => let ⟨q, vs, h1, h2, h3, h4, h5⟩ := r.dic i ds e; ⟨q, vs, h1, sm _ _ h2, ((h3.avoid hp).sub fun _ => bh_bp).same sm, fun z => z.elim h4 fun z => ne_of_none h2 hp z, h5⟩
    inj := r.inj
    urn := r.urn
    ur := r.ur.same sm
    gB := fun q e => .inl (r.gB q e)
    bd := fun a ha => by
      rcases ha with ha | ha
      · exact same_dom sm (r.bd a ha)
      · rw [ha, upd_same]; intro z; cases z
    ent := fun b u h g => sm _ _ (r.ent b u h g)
    ev := r.ev.trans (Evo.of_same sm) }
theorem Rel.unB {B' : Bad} (r : Rel K B γ H0 σ H s) (h : ∀ a, B' a → B a) (g : ∀ p, γ = some p → B' p) : Rel K B' γ H0 σ H s := by
  have sb : ∀ a, Bh B' σ s.sl a → Bh B σ s.sl a := fun a z => z.imp (h a) id
  exact {
    len := r.len
    val := fun i d e => let ⟨v, h1, h2⟩ := r.val i d e; ⟨v, h1, h2.sub sb⟩
    own := fun i ds e => let ⟨q, vs, h1, h2, h3, h4, h5⟩ := r.own i ds e; ⟨q, vs, h1, h2, h3.sub sb, fun z => h4 (h _ z), h5⟩
    dic := fun i ds e => let ⟨q, vs, h1, h2, h3, h4, h5⟩ := r.dic i ds e; ⟨q, vs, h1, h2, h3.sub sb, fun z => h4 (h _ z), h5⟩
    inj := r.inj
    urn := r.urn
    ur := r.ur
    gB := g
    bd := fun a ha => r.bd a (h a ha)
    ent := r.ent
    ev := r.ev }
end
abbrev MD := Stt → Option (Dt × Stt)
abbrev MA := Stt → Option (List Dt × Stt)
abbrev MT := Stt → Option (Bool × Stt)
structure Mv (K : KW) (B : Bad) (γ : Option Addr) (H : Hp) (C : Bad) (H' : Hp) (C' : Bad) : Prop where
  frm : ∀ v d, Rp K H C v d → Rp K H' C' v d
  pv : ∀ b o, B b → Nx γ b o → H b = some o → H' b = some o
  dom : ∀ b, H b ≠ none → H' b ≠ none
section
variable {K : KW} {B : Bad} {γ : Option Addr} {H H1 H' : Hp} {C C1 C' : Bad}
theorem Mv.refl : Mv K B γ H C H C := ⟨fun _ _ h => h, fun _ _ _ _ h => h, fun _ h => h⟩
theorem Mv.trans (a : Mv K B γ H C H1 C1) (b : Mv K B γ H1 C1 H' C') : Mv K B γ H C H' C' :=
  ⟨fun v d h => b.frm v d (a.frm v d h), fun x o h g e => b.pv x o h g (a.pv x o h g e), fun x h => b.dom x (a.dom x h)⟩
theorem Mv.of_same (k : Same H H') (h : ∀ a, C' a → C a) : Mv K B γ H C H' C' := ⟨fun _ _ r => (r.sub h).same k, fun _ _ _ _ e => k _ _ e, fun _ z => same_dom k z⟩
theorem Mv.rpl (a : Mv K B γ H C H' C') : ∀ {vs : List V} {ds : List Dt}, RpL K H C vs ds → RpL K H' C' vs ds
  | _, _, .nil => .nil
  | _, _, .cons h r => .cons (a.frm _ _ h) (a.rpl r)
theorem Mv.back (a : Mv K B γ H C H' C') {p : Addr} (h : H' p = none) : H p = none := by
  cases q : H p with
  | none => rfl
  | some o => exact absurd h (a.dom p (by rw [q]; intro z; cases z))
end
structure Aft (K : KW) (B : Bad) (γ : Option Addr) (H0 : Hp) (σ : L2.St) (H : Hp) (s : Stt) (σ' : L2.St) (H' : Hp) (s' : Stt) : Prop where
  rel : Rel K B γ H0 σ' H' s'
  mv : Mv K B γ H (Bh B σ s.sl) H' (Bh B σ' s'.sl)
section
variable {K : KW} {B : Bad} {γ : Option Addr} {H0 H H1 H' : Hp} {σ σ1 σ' : L2.St} {s s1 s' : Stt}
theorem Aft.refl (r : Rel K B γ H0 σ H s) : Aft K B γ H0 σ H s σ H s := ⟨r, Mv.refl⟩
theorem Aft.trans (a : Aft K B γ H0 σ H s σ1 H1 s1) (b : Aft K B γ H0 σ1 H1 s1 σ' H' s') : Aft K B γ H0 σ H s σ' H' s' := ⟨b.rel, a.mv.trans b.mv⟩
theorem Aft.same (a : Aft K B γ H0 σ H s σ1 H1 s1) (k : Same H1 H') : Aft K B γ H0 σ H s σ1 H' s1 := ⟨a.rel.same k, a.mv.trans (Mv.of_same k fun _ z => z)⟩
end
theorem Rp.samx {K : KW} {B : Bad} {H H' : Hp} {v : V} {d : Dt} (k : Sx H H') (h : Rp K H B v d) : Rp K H' B v d := h.mono (k.kp B) fun _ z => z
theorem RpL.samx {K : KW} {B : Bad} {H H' : Hp} {vs : List V} {ds : List Dt} (k : Sx H H') (h : RpL K H B vs ds) : RpL K H' B vs ds := h.mono (k.kp B) fun _ z => z
theorem Dc.samx {K : KW} {B : Bad} {H H' : Hp} {a : Addr} {o : HO} {kvs : List (Dt × Dt)} (k : Sx H H') (h : Dc K H B a o kvs) : Dc K H' B a o kvs := h.mono (k.kp B) fun _ z => z
section
variable {K : KW} {B : Bad} {γ : Option Addr} {H0 H H1 H' : Hp} {σ σ1 σ' : L2.St} {s s1 s' : Stt}
theorem UrOk.samx {u : Option (List Int)} (r : UrOk H γ u) (k : Sx H H') : UrOk H' γ u := fun p e => let ⟨ns, h1, h2⟩ := r p e; ⟨ns, h1, k.at_ _ _ h2 me_lst⟩
theorem Rel.samx (r : Rel K B γ H0 σ H s) (k : Sx H H') : Rel K B γ H0 σ H' s where
  len := r.len
  val := fun i d e => let ⟨v, h1, h2⟩ := r.val i d e; ⟨v, h1, h2.samx k⟩
  own := fun i ds e => let ⟨p, vs, h1, h2, h3, h4⟩ := r.own i ds e; ⟨p, vs, h1, k.at_ _ _ h2 me_lst, h3.samx k, h4⟩
  dic := fun i ds e => let ⟨p, o, h1, h2, h3, h4⟩ := r.dic i ds e; ⟨p, o, h1, k.at_ _ _ h2 h3.nme, h3.samx k, h4⟩
  inj := r.inj
  urn := r.urn
  ur := r.ur.samx k
  gB := r.gB
  bd := fun a ha => k.evo.dm a (r.bd a ha)
  ent := fun b o h g => k.at_ _ _ (r.ent b o h g) g.m
  ev := r.ev.trans k.evo
theorem Mv.of_samx {C C' : Bad} (k : Sx H H') (h : ∀ a, C' a → C a) : Mv K B γ H C H' C' := ⟨fun _ _ r => (r.sub h).samx k, fun _ _ _ g e => k.at_ _ _ e g.m, k.evo.dm⟩
theorem Aft.samx (a : Aft K B γ H0 σ H s σ1 H1 s1) (k : Sx H1 H') : Aft K B γ H0 σ H s σ1 H' s1 := ⟨a.rel.samx k, a.mv.trans (Mv.of_samx k fun _ z => z)⟩
end
def tD (K : KW) (m : MD) : TE := fun σ H Q => ∃ B γ H0 s d s', Rel K B γ H0 σ H s ∧ m s = some (d, s') ∧ ∀ v H', Aft K B γ H0 σ H s σ H' s' → Rp K H' (Bh B σ s'.sl) v d → Q v H'
def tDA (K : KW) (m : MA) : TA := fun σ H Q => ∃ B γ H0 s d s', Rel K B γ H0 σ H s ∧ m s = some (d, s') ∧ ∀ v H', Aft K B γ H0 σ H s σ H' s' → RpL K H' (Bh B σ s'.sl) v d → Q v H'
def tDT (K : KW) (m : MT) : TT := fun σ H Q => ∃ B γ H0 s d s', Rel K B γ H0 σ H s ∧ m s = some (d, s') ∧ ∀ H', Aft K B γ H0 σ H s σ H' s' → Q d H'
def tDL (K : KW) (m : MA) : TE := fun σ H Q => ∃ B γ H0 s d s', Rel K B γ H0 σ H s ∧ m s = some (d, s') ∧ ∀ p vs H', Rel K (Bp B p) γ H0 σ H' s' → Mv K B γ H (Bh B σ s.sl) H' (Bh (Bp B p) σ s'.sl) → H p = none → H' p = some (.lst vs) → RpL K H' (Bh (Bp B p) σ s'.sl) vs d → Q (.ref p) H'
abbrev MDc := Stt → Option (List (Dt × Dt) × Stt)
def tDD (K : KW) (m : MDc) : TE := fun σ H Q => ∃ B γ H0 s d s', Rel K B γ H0 σ H s ∧ m s = some (d, s') ∧ ∀ p o H', Rel K (Bp B p) γ H0 σ H' s' → Mv K B γ H (Bh B σ s.sl) H' (Bh (Bp B p) σ s'.sl) → H p = none → H' p = some o → Dc K H' (Bh (Bp B p) σ s'.sl) p o d → Q (.ref p) H'
theorem PE.imp {X : Cx} {e : Expr} {t t' : TE} (h : PE X e t) (k : ∀ σ H Q, t' σ H Q → t σ H Q) : PE X e t' := ⟨fun pins s σ H Q I q => h.run pins s σ H Q I (k σ H Q q)⟩
theorem Mb.mut {o : HO} (h : Mb o) : Mut (some o) := by
  rcases h with ⟨_, rfl⟩ | ⟨_, rfl⟩ | ⟨_, rfl⟩ <;> exact trivial
inductive Lks (P : Hp → Prop) : Hp → Prop
  | done {H : Hp} : P H → Lks P H
  | lock {H : Hp} {d : Addr} {u : HO} : H d = some u → Mut (some u) → (∀ od, Lks P (upd H d (.frz od u))) → Lks P H
theorem Lks.inv {X : Cx} {pins : List (Addr × Obj)} {σ : L2.St} {s : Shared} {P : Hp → Prop} {H : Hp} (h : Lks P H) : Inv X pins σ H s → ∃ H', Inv X pins σ H' s ∧ P H' ∧ ∀ b, H b = none → H' b = none := by
  induction h with
  | done h => exact fun I => ⟨_, I, h, fun _ z => z⟩
  | @lock H d u hd mu _ ih =>
    intro I
    obtain ⟨od, I1⟩ := I.lock hd mu
    obtain ⟨H', I2, h2, h3⟩ := ih od I1
    exact ⟨H', I2, h2, fun b hb => h3 b (by rw [upd_ne (fun z => by rw [z, hd] at hb; cases hb)]; exact hb)⟩
theorem PE.lk {X : Cx} {e : Expr} {t : TE} (h : PE X e t) : PE X e (fun σ H Q => t σ H fun v H1 => Lks (Q v) H1) := ⟨fun pins s σ H Q I q => thn (h.run pins s σ H _ I q) fun u s1 ⟨x, H1, I1, rx, q1⟩ => by
  obtain ⟨H2, I2, q2, _⟩ := q1.inv I1
  exact ⟨x, H2, I2, rx, q2⟩⟩
abbrev lkI (t : TI) : TI := fun σ H R => t σ H fun J H1 => Lks (R J) H1
theorem PI.lk {X : Cx} {tg e : Expr} {t : TI} (h : PI X tg e t) : PI X tg e (lkI t) := ⟨fun pins s σ H R I q => thn (h.run pins s σ H _ I q) fun u s1 h1 => thn h1 fun itv s2 ⟨it, fp, tn, J, H', e, I2, T, st, f, q2⟩ => by
  obtain ⟨H3, I3, q3, k3⟩ := q2.inv I2
  exact ⟨it, fp, tn, J, H3, e, I3, T, st, fun b hb => ⟨k3 b (f b hb).1, (f b hb).2⟩, q3⟩⟩
theorem PT.imp {X : Cx} {e : Expr} {t t' : TT} (h : PT X e t) (k : ∀ σ H Q, t' σ H Q → t σ H Q) : PT X e t' := ⟨fun pins s σ H Q I q => h.run pins s σ H Q I (k σ H Q q)⟩
theorem PA.imp {X : Cx} {e : List Expr} {t t' : TA} (h : PA X e t) (k : ∀ σ H Q, t' σ H Q → t σ H Q) : PA X e t' := ⟨fun pos pins s σ H Q I q => h.run pos pins s σ H Q I (k σ H Q q)⟩
end DL
set_option Elab.async false
set_option linter.all false
set_option maxRecDepth 100000
set_option maxHeartbeats 2000000
namespace DL
open PySem PySem.Spec PyProof.Rows L2
theorem ob {α β : Type} {o : Option α} {f : α → Option β} {b : β} (h : o.bind f = some b) : ∃ a, o = some a ∧ f a = some b := Option.bind_eq_some_iff.mp h
theorem om {α β : Type} {o : Option α} {f : α → β} {b : β} (h : o.map f = some b) : ∃ a, o = some a ∧ f a = b := Option.map_eq_some_iff.mp h
def frzD (s : Stt) (i : Nat) (d : Dt) : Stt := { s with sl := s.sl.set i (some (.val d)) }
abbrev frz (s : Stt) (i : Nat) (ds : List Dt) : Stt := frzD s i (.list ds)
section
variable {K : KW} {B : Bad} {γ : Option Addr} {H0 H H' : Hp} {σ : L2.St} {s s' : Stt}
theorem frz_own {i j : Nat} {d : Dt} {x : SV} (h : (frzD s i d).sl[j]? = some (some x)) (hm : x.mine = true) : j ≠ i ∧ s.sl[j]? = some (some x) := by
  unfold frzD at h
  by_cases e : i = j
  · subst e
    rw [List.getElem?_set] at h
    split at h
    · split at h
      · cases h; cases hm
      · cases h
    · exact absurd rfl ‹_›
  · rw [List.getElem?_set_ne e] at h
    exact ⟨fun z => e z.symm, h⟩
theorem frz_sub {i : Nat} {d : Dt} {a : Addr} (h : Bh B σ (frzD s i d).sl a) : Bh B σ s.sl a := by
  rcases h with h | ⟨j, es, h1, hm, h2⟩
  · exact .inl h
  · exact .inr ⟨j, es, (frz_own h1 hm).2, hm, h2⟩
theorem Rel.frzH (r : Rel K B γ H0 σ H s) {i : Nat} {x : SV} {d : Dt} {p : Addr} (h : s.sl[i]? = some (some x)) (hm : x.mine = true) (h1 : σ[i]? = some (some (.ref p))) (h4 : ¬ B p) (h0 : H0 p = none) (kp : ∀ b o, b ≠ p → H b = some o → H' b = some o) (ev : Evo H H') (hp : H' p ≠ none)
    (frm : ∀ v d', Rp K H (Bh B σ s.sl) v d' → Rp K H' (Bh B σ (frzD s i d).sl) v d') (rp : Rp K H' (Bh B σ (frzD s i d).sl) (.ref p) d) : Aft K B γ H0 σ H s σ H' (frzD s i d) := by
  have hi : i < s.sl.length := (List.getElem?_eq_some_iff.mp h).1
  have frL : ∀ {vs : List V} {ds : List Dt}, RpL K H (Bh B σ s.sl) vs ds → RpL K H' (Bh B σ (frzD s i d).sl) vs ds := fun {vs ds} q => by
    induction vs generalizing ds with
    | nil => cases q; exact .nil
    | cons v vs ih => cases q with | cons a b => exact .cons (frm _ _ a) (ih b)
  have frD : ∀ {a : Addr} {o : HO} {kvs : List (Dt × Dt)}, Dc K H (Bh B σ s.sl) a o kvs → Dc K H' (Bh B σ (frzD s i d).sl) a o kvs := fun q => by
    cases q with
    | ky r => exact .ky (frL r)
    | tp e q r => exact .tp e (frL q) (frL r)
  have nq : ∀ {j : Nat} {y : SV} {q : Addr}, (frzD s i d).sl[j]? = some (some y) → y.mine = true → σ[j]? = some (some (.ref q)) → q ≠ p := fun {j y q} e1 em e2 z => by
    obtain ⟨n, e3⟩ := frz_own e1 em
    rw [z] at e2
    exact n (r.inj j i y x p e3 em h hm e2 h1)
  refine ⟨?_, frm, fun b o hb _ e => kp b o (fun z => h4 (z ▸ hb)) e, fun b hb => ?_⟩
  · exact {
      len := by show (s.sl.set i _).length = _; rw [List.length_set]; exact r.len
      val := fun j d' e => by
        by_cases hj : i = j
        · subst hj
          have e' : (s.sl.set i (some (SV.val d)))[i]? = some (some (.val d')) := e
          rw [List.getElem?_set_self hi] at e'
          cases e'
          exact ⟨_, h1, rp⟩
        · have e' : (s.sl.set i (some (SV.val d)))[j]? = some (some (.val d')) := e
          rw [List.getElem?_set_ne hj] at e'
          obtain ⟨v, q1, q2⟩ := r.val j d' e'
          exact ⟨v, q1, frm _ _ q2⟩
      own := fun j es e => by
        obtain ⟨q, ws, q1, q2, q3, q4⟩ := r.own j es (frz_own e rfl).2
        exact ⟨q, ws, q1, kp _ _ (nq e rfl q1) q2, frL q3, q4⟩
      dic := fun j es e => by
        obtain ⟨q, ws, q1, q2, q3, q4⟩ := r.dic j es (frz_own e rfl).2
        exact ⟨q, ws, q1, kp _ _ (nq e rfl q1) q2, frD q3, q4⟩
      inj := fun j k es fs q e1 m1 e2 m2 => r.inj j k es fs q (frz_own e1 m1).2 m1 (frz_own e2 m2).2 m2
      urn := fun j e => by
        by_cases hj : i = j
        · subst hj
          have e' : (s.sl.set i (some (SV.val d)))[i]? = some (some .urn) := e
          rw [List.getElem?_set_self hi] at e'
          cases e'
        · have e' : (s.sl.set i (some (SV.val d)))[j]? = some (some .urn) := e
          rw [List.getElem?_set_ne hj] at e'
          exact r.urn j e'
      ur := fun q e => let ⟨ns, z1, z2⟩ := r.ur q e; ⟨ns, z1, kp _ _ (fun z => h4 (z ▸ r.gB q e)) z2⟩
      gB := r.gB
      bd := fun a ha => by
        cases q : H a with
        | none => exact absurd q (r.bd a ha)
        | some o => rw [kp a o (fun z => h4 (z ▸ ha)) q]; intro z; cases z
      ent := fun b o e g => kp b o (fun z => by rw [z, h0] at e; cases e) (r.ent b o e g)
      ev := r.ev.trans ev }
  · by_cases z : b = p
    · rw [z]; exact hp
    · cases q : H b with
      | none => exact absurd q hb
      | some o => rw [kp b o z q]; intro z; cases z
theorem Rel.frz_np (r : Rel K B γ H0 σ H s) {i : Nat} {x : SV} {d : Dt} {p : Addr} (h : s.sl[i]? = some (some x)) (hm : x.mine = true) (h1 : σ[i]? = some (some (.ref p))) (h4 : ¬ B p) : ¬ Bh B σ (frzD s i d).sl p := fun z => by
  rcases z with z | ⟨j, es, e1, em, e2⟩
  · exact h4 z
  · obtain ⟨n, e3⟩ := frz_own e1 em
    exact n (r.inj j i es x p e3 em h hm e2 h1)
theorem Rel.frz (r : Rel K B γ H0 σ H s) {i : Nat} {ds : List Dt} (h : s.sl[i]? = some (some (.own ds))) :
    ∃ v, σ[i]? = some (some v) ∧ Rp K H (Bh B σ (DL.frz s i ds).sl) v (.list ds) ∧ Aft K B γ H0 σ H s σ H (DL.frz s i ds) := by
  obtain ⟨p, vs, h1, h2, h3, h4, h5⟩ := r.own i ds h
  have rp : Rp K H (Bh B σ (DL.frz s i ds).sl) (.ref p) (.list ds) := .lst (.inl h2) (r.frz_np h rfl h1 h4) (h3.sub fun _ => frz_sub)
  exact ⟨_, h1, rp, r.frzH h rfl h1 h4 h5 (fun _ _ _ e => e) (Evo.refl H) (by rw [h2]; intro z; cases z) (fun v d' q => q.sub fun _ => frz_sub) rp⟩
theorem Rel.frzDic (r : Rel K B γ H0 σ H s) {i : Nat} {kvs : List (Dt × Dt)} (h : s.sl[i]? = some (some (.dic kvs))) :
    ∃ p o, σ[i]? = some (some (.ref p)) ∧ H p = some o ∧ Mut (some o) ∧ ∀ ob, Rp K (upd H p (.frz ob o)) (Bh B σ (frzD s i (.dict kvs)).sl) (.ref p) (.dict kvs) ∧ Aft K B γ H0 σ H s σ (upd H p (.frz ob o)) (frzD s i (.dict kvs)) := by
  obtain ⟨p, o, h1, h2, h3, h4, h5⟩ := r.dic i kvs h
  refine ⟨p, o, h1, h2, h3.mb.mut, fun ob => ?_⟩
  have kp : Kp (Bh B σ s.sl) H (upd H p (.frz ob o)) := Kp.set (.inr ⟨i, _, h, rfl, h1⟩) h2 h3.mb h3.nme
  have rp : Rp K (upd H p (.frz ob o)) (Bh B σ (frzD s i (.dict kvs)).sl) (.ref p) (.dict kvs) := .dct upd_same (h3.mono kp fun _ => frz_sub)
  exact ⟨rp, r.frzH h rfl h1 h4 h5 (fun b u n e => by rw [upd_ne n]; exact e) kp.evo (by rw [upd_same]; intro z; cases z) (fun v d' q => q.mono kp fun _ => frz_sub) rp⟩
end
section
variable {X : Cx} {e a b c : Expr} {pos : Pos}
def mC (d : Dt) : MD := fun s => some (d, s)
theorem de_c {v : V} {d : Dt} (h : PE X e (tC v)) (hr : ∀ H B, Rp X.kw H B v d) : PE X e (tD X.kw (mC d)) := PE.imp h fun σ H Q q => by
  obtain ⟨B, γ, H0, s, d', s', r, e1, k⟩ := q
  cases e1
  exact k _ _ (Aft.refl r) (hr _ _)
theorem de_int {i : Int} {j} : PE X (.Constant (.int i) j pos) (tD X.kw (mC (.int i))) := de_c pe_int fun _ _ => .int i
theorem de_bl {i : Bool} {j} : PE X (.Constant (.bool i) j pos) (tD X.kw (mC (.bool i))) := de_c pe_bl fun _ _ => .bl i
theorem de_non {j} : PE X (.Constant .none j pos) (tD X.kw (mC .none)) := de_c pe_non fun _ _ => .non
theorem de_str {x : Str} {j} : PE X (.Constant (.str x) j pos) (tD X.kw (mC (.str x))) := de_c pe_str fun _ _ => .str x
def mVar (i : Nat) : MD := fun s => match s.sl[i]? with
  | some (some (.val d)) => some (d, s)
  | some (some (.own ds)) => some (.list ds, frz s i ds)
  | some (some (.dic kvs)) => some (.dict kvs, frzD s i (.dict kvs))
  | _ => none
theorem de_var' {i : Nat} (h : PE X e (tVar i)) : PE X e (tD X.kw (mVar i)) := PE.imp (PE.lk h) fun σ H Q q => by
  obtain ⟨B, γ, H0, s, d, s', r, e1, k⟩ := q
  unfold mVar at e1
  split at e1
  · rename_i d' he
    cases e1
    obtain ⟨v, h1, h2⟩ := r.val i d he
    exact ⟨v, h1, .done (k _ _ (Aft.refl r) h2)⟩
  · rename_i ds he
    cases e1
    obtain ⟨v, h1, h2, h3⟩ := r.frz he
    exact ⟨v, h1, .done (k _ _ h3 h2)⟩
  · rename_i ds he
    cases e1
    obtain ⟨p, o, h1, h2, h3, h4⟩ := r.frzDic he
    exact ⟨_, h1, .lock h2 h3 fun ob => .done (k _ _ (h4 ob).2 (h4 ob).1)⟩
  · cases e1
theorem dv (i : Nat) {x : Str} (hN : X.N[i]? = some x := by rfl) (hv : Vis X.env.scope x := by first | exact Or.inl rfl | exact Or.inr (Or.inl rfl) | exact Or.inr (Or.inr rfl)) (hd : (x == ("__debug__" : Str)) = false := by decide)
    (hcd : (x == ("__classdict__" : Str)) = false := by decide) : PE X (.Name x pos) (tD X.kw (mVar i)) := de_var' (pe_var hN hv hd hcd)
structure OpD (X : Cx) (g : Value → Value → Sem Value) (f : Dt → Dt → Option Dt) : Prop where
  ex : ∃ r : R2, OpR X g r ∧ ∀ (B : Bad) (H : Hp) (x y : V) (dx dy d : Dt) (Q : VK), Rp X.kw H B x dx → Rp X.kw H B y dy → (∀ a, B a → H a ≠ none) → f dx dy = some d → (∀ v H', Same H H' → Rp X.kw H' B v d → Q v H') → r x y H Q
theorem OpD.or {g : Value → Value → Sem Value} {f f' : Dt → Dt → Option Dt} (h : OpD X g f) (h' : OpD X g f') : OpD X g (fun x y => (f x y).or (f' x y)) := by
  obtain ⟨r, h1, h2⟩ := h.ex
  obtain ⟨r', h1', h2'⟩ := h'.ex
  refine ⟨⟨fun x y H Q => r x y H Q ∨ r' x y H Q, fun pins s σ H x y v u Q I rx ry q => ?_, fun B H x y dx dy d Q r1 r2 bd e k => ?_⟩⟩
  · rcases q with q | q
    · exact h1 pins s σ H x y v u Q I rx ry q
    · exact h1' pins s σ H x y v u Q I rx ry q
  · cases q : f dx dy with
    | some z =>
      rw [q] at e
      exact .inl (h2 B H x y dx dy d Q r1 r2 bd (q.trans e) k)
    | none =>
      rw [q] at e
      exact .inr (h2' B H x y dx dy d Q r1 r2 bd e k)
def mBin (f : Dt → Dt → Option Dt) (ma mb : MD) : MD := fun s => (ma s).bind fun p => (mb p.2).bind fun q => (f p.1 q.1).map fun z => (z, q.2)
theorem bin_go {g : Value → Value → Sem Value} {f : Dt → Dt → Option Dt} {ma mb : MD} {r : R2} {σ : L2.St} {H : Hp} {Q : VK}
    (h2 : ∀ (B : Bad) (H : Hp) (x y : V) (dx dy d : Dt) (Q : VK), Rp X.kw H B x dx → Rp X.kw H B y dy → (∀ a, B a → H a ≠ none) → f dx dy = some d → (∀ v H', Same H H' → Rp X.kw H' B v d → Q v H') → r x y H Q)
    (q : tD X.kw (mBin f ma mb) σ H Q) : tOp r (tD X.kw ma) (tD X.kw mb) σ H Q := by
  obtain ⟨B, γ, H0, s, d, s', rl, e, k⟩ := q
  obtain ⟨⟨x, s1⟩, e1, e2⟩ := ob e
  obtain ⟨⟨y, s2⟩, e3, e4⟩ := ob e2
  obtain ⟨z, e5, e6⟩ := om e4
  obtain ⟨rfl, rfl⟩ := Prod.mk.inj e6
  refine ⟨B, γ, H0, s, x, s1, rl, e1, fun v1 H1 a1 r1 => ⟨B, γ, H0, s1, y, s2, a1.rel, e3, fun v2 H2 a2 r2 => ?_⟩⟩
  exact h2 _ H2 v1 v2 x y z Q (a2.mv.frm _ _ r1) r2 a2.rel.bdh e5 fun v H' sm rv => k v H' ((a1.trans a2).same sm) rv
theorem de_bin {op : Operator} {f : Dt → Dt → Option Dt} {ma mb : MD} (ho : OpD X (binaryOp op) f) (ha : PE X a (tD X.kw ma)) (hb : PE X b (tD X.kw mb)) : PE X (.BinOp a op b pos) (tD X.kw (mBin f ma mb)) := by
  obtain ⟨r, h1, h2⟩ := ho.ex
  exact PE.imp (pe_op h1 ha hb) fun σ H Q q => bin_go (g := binaryOp op) h2 q
theorem de_cmp {op : CmpOp} {f : Dt → Dt → Option Dt} {ma mb : MD} (ho : OpD X (compareOp op) f) (ha : PE X a (tD X.kw ma)) (hb : PE X b (tD X.kw mb)) (hm : behindInMarks op b = false) : PE X (.Compare a [op] [b] pos) (tD X.kw (mBin f ma mb)) := by
  obtain ⟨r, h1, h2⟩ := ho.ex
  exact PE.imp (pe_cmpR h1 ha hb hm) fun σ H Q q => bin_go (g := compareOp op) h2 q
structure UnD (X : Cx) (g : Value → Sem Value) (f : Dt → Option Dt) : Prop where
  ex : ∃ r : V → Hp → VK → Prop, UnR X g r ∧ ∀ (B : Bad) (H : Hp) (x : V) (dx d : Dt) (Q : VK), Rp X.kw H B x dx → f dx = some d → (∀ v H', Same H H' → Rp X.kw H' B v d → Q v H') → r x H Q
def mUn (f : Dt → Option Dt) (ma : MD) : MD := fun s => (ma s).bind fun p => (f p.1).map fun z => (z, p.2)
def mNil : MA := fun s => some ([], s)
def mCons (ma : MD) (mr : MA) : MA := fun s => (ma s).bind fun p => (mr p.2).map fun q => (p.1 :: q.1, q.2)
theorem da_nil : PA X [] (tDA X.kw mNil) := PA.imp pa_nil fun σ H Q q => by
  obtain ⟨B, γ, H0, s, d, s', rl, e, k⟩ := q
  cases e
  exact k [] H (Aft.refl rl) .nil
theorem da_cons {es : List Expr} {ma : MD} {mr : MA} (ha : PE X e (tD X.kw ma)) (hr : PA X es (tDA X.kw mr)) (hs : starEach (e :: es) X.env = (false, eval e X.env) :: starEach es X.env := by rfl) : PA X (e :: es) (tDA X.kw (mCons ma mr)) :=
  PA.imp (pa_cons ha hr hs) fun σ H Q q => by
    obtain ⟨B, γ, H0, s, d, s', rl, e, k⟩ := q
    obtain ⟨⟨x, s1⟩, e1, e2⟩ := ob e
    obtain ⟨⟨y, s2⟩, e3, e4⟩ := om e2
    obtain ⟨rfl, rfl⟩ := Prod.mk.inj e4
    exact ⟨B, γ, H0, s, x, s1, rl, e1, fun v1 H1 a1 r1 => ⟨B, γ, H0, s1, y, s2, a1.rel, e3, fun v2 H2 a2 r2 => k _ _ (a1.trans a2) (.cons (a2.mv.frm _ _ r1) r2)⟩⟩
def fits (ds : List Dt) : Bool := decide (ds.length ≤ sizeLine)
def mTup (m : MA) : MD := fun s => (m s).bind fun p => if fits p.1 then some (.tuple p.1, p.2) else none
theorem de_tup {es : List Expr} {m : MA} {x1} (h : PA X es (tDA X.kw m)) : PE X (.Tuple es x1 pos) (tD X.kw (mTup m)) := PE.imp (pe_tup h) fun σ H Q q => by
  obtain ⟨B, γ, H0, s, d, s', rl, e, k⟩ := q
  obtain ⟨⟨x, s1⟩, e1, e2⟩ := ob e
  split at e2
  · rename_i hf
    obtain ⟨rfl, rfl⟩ := Prod.mk.inj (Option.some.inj e2)
    refine ⟨B, γ, H0, s, x, s1, rl, e1, fun vs H1 a1 r1 => ⟨?_, fun p hp => ?_⟩⟩
    · rw [r1.len]; exact of_decide_eq_true hf
    · exact k _ _ (a1.same (same_new hp)) (.tup (.inl upd_same) (r1.same (same_new hp)))
  · cases e2
def mLst (m : MA) : MA := fun s => (m s).bind fun p => if fits p.1 then some p else none
theorem dl_of {m : MA} {te : TE} (h : PE X e te) (k : ∀ σ H Q B γ H0 s ds s', Rel X.kw B γ H0 σ H s → m s = some (ds, s') → (∀ p vs H1, Aft X.kw B γ H0 σ H s σ H1 s' → H1 p = none → RpL X.kw H1 (Bh B σ s'.sl) vs ds → Q (.ref p) (upd H1 p (.lst vs))) → te σ H Q) :
    PE X e (tDL X.kw m) := PE.imp h fun σ H Q q => by
  obtain ⟨B, γ, H0, s, d, s', rl, e, kk⟩ := q
  refine k σ H Q B γ H0 s d s' rl e fun p vs H1 a1 hp r1 => ?_
  have sm : Same H1 (upd H1 p (.lst vs)) := same_new hp
  refine kk p vs _ (a1.rel.bp hp) ⟨fun v dd r => ?_, fun b o hb hg eb => sm _ _ (a1.mv.pv b o hb hg eb), fun b hb => same_dom sm (a1.mv.dom b hb)⟩ (a1.mv.back hp) upd_same ?_
  · exact (((a1.mv.frm v dd r).avoid hp).sub fun _ => bh_bp).same sm
  · exact ((r1.avoid hp).sub fun _ => bh_bp).same sm
theorem dl_lst {es : List Expr} {m : MA} (h : PA X es (tDA X.kw m)) : PE X (.List es pos) (tDL X.kw (mLst m)) := dl_of (pe_lst h) fun σ H Q B γ H0 s ds s' rl e k => by
  obtain ⟨⟨x, s1⟩, e1, e2⟩ := ob e
  split at e2
  · rename_i hf
    cases e2
    refine ⟨B, γ, H0, s, ds, s', rl, e1, fun vs H1 a1 r1 => ⟨?_, fun p hp => k p vs H1 a1 hp r1⟩⟩
    rw [r1.len]; exact of_decide_eq_true hf
  · cases e2
def mOfL (m : MA) : MD := fun s => (m s).map fun p => (.list p.1, p.2)
theorem de_ofL {m : MA} (h : PE X e (tDL X.kw m)) : PE X e (tD X.kw (mOfL m)) := PE.imp h fun σ H Q q => by
  obtain ⟨B, γ, H0, s, d, s', rl, e, k⟩ := q
  obtain ⟨⟨x, s1⟩, e1, e2⟩ := om e
  cases e2
  refine ⟨B, γ, H0, s, x, s1, rl, e1, fun p vs H' r1 mv hp h' rl' => ?_⟩
  have np : ¬ Bh B σ s1.sl p := fun z => by
    rcases z with z | ⟨i, ds, z1, zm, z2⟩
    · exact rl.bd p z hp
    · obtain ⟨q, ws, q1, _, _, q4, q5⟩ := r1.mine z1 zm
      rw [z2] at q1; cases q1
      exact q4 (.inr rfl)
  have sb : ∀ a, Bh B σ s1.sl a → Bh (Bp B p) σ s1.sl a := fun a z => z.imp .inl id
  exact k _ _ ⟨r1.unB (fun a z => .inl z) rl.gB, ⟨fun v dd r => (mv.frm v dd r).sub sb, mv.pv, mv.dom⟩⟩ (.lst (.inl h') np (rl'.sub sb))
end
end DL
set_option Elab.async false
set_option linter.all false
set_option maxRecDepth 100000
set_option maxHeartbeats 2000000
namespace DL
open PySem PySem.Spec PyProof.Rows L2
def dTru : Dt → Option Bool
  | .none => some false
  | .bool b => some b
  | .int i => some (i != 0)
  | .str x => if x.length ≤ sizeLine then some ((x.length : Int) != 0) else none
  | .list xs => some (!xs.isEmpty)
  | .tuple xs => some (!xs.isEmpty)
  | .dict _ => none
theorem RpL.emp {K : KW} {B : Bad} {H : Hp} {vs : List V} {ds : List Dt} (r : RpL K H B vs ds) : vs.isEmpty = ds.isEmpty := by
  cases r <;> rfl
theorem truV_of {K : KW} {H : Hp} {B : Bad} {v : V} {d : Dt} {b : Bool} (r : Rp K H B v d) (h : dTru d = some b) : TruV K v H b := by
  cases r with
  | non => cases h; rfl
  | bl _ => cases h; rfl
  | int _ => cases h; rfl
  | str x =>
    have h' : (if x.length ≤ sizeLine then some ((x.length : Int) != 0) else none) = some b := h
    split at h'
    · rename_i hz
      cases h'
      exact ⟨hz, rfl⟩
    · cases h'
  | lst h1 _ h3 =>
    cases h
    exact .inl ⟨_, .inl h1, by rw [h3.emp]⟩
  | tup h1 h3 =>
    cases h
    exact .inr (.inl ⟨_, h1.sq, by rw [h3.emp]⟩)
  | scr _ => cases h
  | dct _ _ => cases h
  | ep _ _ => cases h
  | ob _ _ _ => cases h
  | mem _ => cases h
section
variable {X : Cx} {e a b c : Expr} {rest : List Expr} {pos : Pos}
def mTru (m : MD) : MT := fun s => (m s).bind fun p => (dTru p.1).map fun b => (b, p.2)
theorem dt_val {m : MD} (h : PE X e (tD X.kw m)) (he : ∀ whole, isTrue e X.env whole = (do let v ← whole; standAt e.pos; holding [v] (truthy v)) := by intro _; rfl) : PT X e (tDT X.kw (mTru m)) :=
  PT.imp (pt_truth h he) fun σ H Q q => by
    obtain ⟨B, γ, H0, s, d, s', rl, e, k⟩ := q
    obtain ⟨⟨x, s1⟩, e1, e2⟩ := ob e
    obtain ⟨z, e5, e6⟩ := om e2
    obtain ⟨rfl, rfl⟩ := Prod.mk.inj e6
    exact ⟨B, γ, H0, s, x, s1, rl, e1, fun v1 H1 a1 r1 => ⟨z, truV_of r1 e5, k H1 a1⟩⟩
def mNotT (m : MT) : MT := fun s => (m s).map fun p => (!p.1, p.2)
theorem dt_not {m : MT} (h : PT X a (tDT X.kw m)) : PT X (.UnaryOp .Not a pos) (tDT X.kw (mNotT m)) := PT.imp (pt_not h) fun σ H Q q => by
  obtain ⟨B, γ, H0, s, d, s', rl, e, k⟩ := q
  obtain ⟨⟨x, s1⟩, e1, e2⟩ := om e
  obtain ⟨rfl, rfl⟩ := Prod.mk.inj e2
  exact ⟨B, γ, H0, s, x, s1, rl, e1, fun H1 a1 => k H1 a1⟩
def mAndT (m n : MT) : MT := fun s => (m s).bind fun p => if p.1 then n p.2 else some (false, p.2)
def mOrT (m n : MT) : MT := fun s => (m s).bind fun p => if p.1 then some (true, p.2) else n p.2
theorem tand_go {m n : MT} {σ : L2.St} {H : Hp} {Q : Bool → Hp → Prop} {K : KW} (q : tDT K (mAndT m n) σ H Q) : tAnd (tDT K m) (tDT K n) σ H Q := by
  obtain ⟨B, γ, H0, s, d, s', rl, e, k⟩ := q
  obtain ⟨⟨x, s1⟩, e1, e2⟩ := ob e
  refine ⟨B, γ, H0, s, x, s1, rl, e1, fun H1 a1 => ?_⟩
  cases x with
  | true => exact iteT ⟨B, γ, H0, s1, d, s', a1.rel, e2, fun H2 a2 => k H2 (a1.trans a2)⟩
  | false =>
    obtain ⟨rfl, rfl⟩ := Prod.mk.inj (Option.some.inj e2)
    exact iteF (k H1 a1)
theorem tor_go {m n : MT} {σ : L2.St} {H : Hp} {Q : Bool → Hp → Prop} {K : KW} (q : tDT K (mOrT m n) σ H Q) : tOr (tDT K m) (tDT K n) σ H Q := by
  obtain ⟨B, γ, H0, s, d, s', rl, e, k⟩ := q
  obtain ⟨⟨x, s1⟩, e1, e2⟩ := ob e
  refine ⟨B, γ, H0, s, x, s1, rl, e1, fun H1 a1 => ?_⟩
  cases x with
  | false => exact iteF ⟨B, γ, H0, s1, d, s', a1.rel, e2, fun H2 a2 => k H2 (a1.trans a2)⟩
  | true =>
    obtain ⟨rfl, rfl⟩ := Prod.mk.inj (Option.some.inj e2)
    exact iteT (k H1 a1)
theorem PW.imp {t t' : TT} (h : PW X e t) (k : ∀ σ H Q, t' σ H Q → t σ H Q) : PW X e t' := ⟨fun whole pins s σ H Q I q => h.run whole pins s σ H Q I (k σ H Q q)⟩
theorem dw_and1 {m : MT} (ha : PT X a (tDT X.kw m)) : PW X (.BoolOp .And [a] pos) (tDT X.kw m) := pw_and1 ha
theorem dw_or1 {m : MT} (ha : PT X a (tDT X.kw m)) : PW X (.BoolOp .Or [a] pos) (tDT X.kw m) := pw_or1 ha
theorem dw_and {m n : MT} (ha : PT X a (tDT X.kw m)) (hb : PW X (.BoolOp .And (b :: rest) pos) (tDT X.kw n)) : PW X (.BoolOp .And (a :: b :: rest) pos) (tDT X.kw (mAndT m n)) := PW.imp (pw_and ha hb) fun _ _ _ q => tand_go q
theorem dw_or {m n : MT} (ha : PT X a (tDT X.kw m)) (hb : PW X (.BoolOp .Or (b :: rest) pos) (tDT X.kw n)) : PW X (.BoolOp .Or (a :: b :: rest) pos) (tDT X.kw (mOrT m n)) := PW.imp (pw_or ha hb) fun _ _ _ q => tor_go q
def mAndV (m n : MD) : MD := fun s => (m s).bind fun p => (dTru p.1).bind fun b => if b then n p.2 else some p
def mNotV (m : MD) : MD := fun s => (m s).bind fun p => (dTru p.1).map fun b => (.bool (!b), p.2)
theorem de_one {op} {m : MD} (h : PE X a (tD X.kw m)) : PE X (.BoolOp op [a] pos) (tD X.kw m) := pe_one h
theorem de_and {m n : MD} (ha : PE X a (tD X.kw m)) (hb : PE X (.BoolOp .And (b :: rest) pos) (tD X.kw n)) : PE X (.BoolOp .And (a :: b :: rest) pos) (tD X.kw (mAndV m n)) := PE.imp (pe_andT ha hb) fun σ H Q q => by
  obtain ⟨B, γ, H0, s, d, s', rl, e, k⟩ := q
  obtain ⟨⟨x, s1⟩, e1, e2⟩ := ob e
  obtain ⟨z, e3, e4⟩ := ob e2
  refine ⟨B, γ, H0, s, x, s1, rl, e1, fun v1 H1 a1 r1 => ⟨z, truV_of r1 e3, ?_⟩⟩
  cases z with
  | true => exact iteT ⟨B, γ, H0, s1, d, s', a1.rel, e4, fun v2 H2 a2 r2 => k v2 H2 (a1.trans a2) r2⟩
  | false =>
    obtain ⟨rfl, rfl⟩ := Prod.mk.inj (Option.some.inj e4)
    exact iteF (k v1 H1 a1 r1)
theorem de_not {m : MD} (ha : PE X a (tD X.kw m)) : PE X (.UnaryOp .Not a pos) (tD X.kw (mNotV m)) := PE.imp (pe_notT ha) fun σ H Q q => by
  obtain ⟨B, γ, H0, s, d, s', rl, e, k⟩ := q
  obtain ⟨⟨x, s1⟩, e1, e2⟩ := ob e
  obtain ⟨z, e3, e4⟩ := om e2
  obtain ⟨rfl, rfl⟩ := Prod.mk.inj e4
  exact ⟨B, γ, H0, s, x, s1, rl, e1, fun v1 H1 a1 r1 => ⟨z, truV_of r1 e3, k _ H1 a1 (.bl _)⟩⟩
def mIf {α : Type} (mt : MT) (ma mb : Stt → Option α) : Stt → Option α := fun s => (mt s).bind fun p => if p.1 then ma p.2 else mb p.2
theorem de_if {mt : MT} {ma mb : MD} (hc : PT X c (tDT X.kw mt)) (ha : PE X a (tD X.kw ma)) (hb : PE X b (tD X.kw mb)) : PE X (.IfExp c a b pos) (tD X.kw (mIf mt ma mb)) := PE.imp (pe_ifExp hc ha hb) fun σ H Q q => by
  obtain ⟨B, γ, H0, s, d, s', rl, e, k⟩ := q
  obtain ⟨⟨x, s1⟩, e1, e2⟩ := ob e
  refine ⟨B, γ, H0, s, x, s1, rl, e1, fun H1 a1 => ?_⟩
  cases x with
  | true => exact iteT ⟨B, γ, H0, s1, d, s', a1.rel, e2, fun v2 H2 a2 r2 => k v2 H2 (a1.trans a2) r2⟩
  | false => exact iteF ⟨B, γ, H0, s1, d, s', a1.rel, e2, fun v2 H2 a2 r2 => k v2 H2 (a1.trans a2) r2⟩
theorem RpL.atI {K : KW} {B : Bad} {H : Hp} {vs : List V} {ds : List Dt} {i : Int} {d : Dt} (r : RpL K H B vs ds) (h : L2.atI ds i = some d) : ∃ v, L2.atI vs i = some v ∧ Rp K H B v d := by
  unfold L2.atI at h ⊢
  rw [r.len]
  obtain ⟨j, e1, e2⟩ := ob h
  obtain ⟨v, e3, e4⟩ := r.get e2
  exact ⟨v, by rw [e1]; exact e3, e4⟩
def dIx : Dt → Dt → Option Dt
  | .list xs, .int i => atI xs i
  | .tuple xs, .int i => atI xs i
  | .str z, .int i => if z.length ≤ sizeLine then (atI z.cps.toList i).map fun c => .str ⟨#[c]⟩ else none
  | _, _ => none
theorem ix_go {K : KW} {H : Hp} {B : Bad} {x y : V} {dx dy d : Dt} {Q : VK} (rx : Rp K H B x dx) (ry : Rp K H B y dy) (h : dIx dx dy = some d) (k : ∀ v, Rp K H B v d → Q v H) : rIx K x y H Q := by
  cases ry with
  | int i =>
    cases rx with
    | lst h1 _ h3 =>
      obtain ⟨v, e1, e2⟩ := h3.atI (show atI _ i = some d from h)
      exact .inl ⟨_, _, i, v, rfl, rfl, .inl h1, e1, k v e2⟩
    | tup h1 h3 =>
      obtain ⟨v, e1, e2⟩ := h3.atI (show atI _ i = some d from h)
      exact .inr (.inl ⟨_, _, i, v, rfl, rfl, h1.sq, e1, k v e2⟩)
    | str z =>
      have h' : (if z.length ≤ sizeLine then (atI z.cps.toList i).map fun c => PyData.str ⟨#[c]⟩ else none) = some d := h
      split at h'
      · rename_i hz
        obtain ⟨cc, e1, e2⟩ := om h'
        subst e2
        exact .inr (.inr ⟨z, i, cc, rfl, rfl, hz, e1, k _ (.str _)⟩)
      · cases h'
    | _ => cases h
  | _ => cases rx <;> cases h
def slotD (s s1 : Stt) (i : Nat) : Option Dt := match s.sl[i]? with
  | some (some (.val d)) => some d
  | some (some (.own _)) => (match s1.sl[i]? with
    | some (some (.own ds)) => some (.list ds)
    | _ => none)
  | some (some .urn) => s1.ur.map fun ns => .list (ns.map .int)
  | _ => none
def mIxN (i : Nat) (mb : MD) : MD := fun s => (mb s).bind fun q => (slotD s q.2 i).bind fun d => (dIx d q.1).map fun z => (z, q.2)
theorem slot_read {K : KW} {B : Bad} {γ : Option Addr} {H0 H H1 : Hp} {σ : L2.St} {s s1 : Stt} {i : Nat} {d : Dt} (r : Rel K B γ H0 σ H s) (a : Aft K B γ H0 σ H s σ H1 s1) (h : slotD s s1 i = some d) :
    ∃ v, σ[i]? = some (some v) ∧ (Rp K H1 (Bh B σ s1.sl) v d ∨ ∃ p vs ds, v = .ref p ∧ d = .list ds ∧ H1 p = some (.lst vs) ∧ RpL K H1 (Bh B σ s1.sl) vs ds) := by
  unfold slotD at h
  split at h
  · rename_i d' he
    cases h
    obtain ⟨v, h1, h2⟩ := r.val i d he
    exact ⟨v, h1, .inl (a.mv.frm _ _ h2)⟩
  · rename_i ds' he
    split at h
    · rename_i ds he1
      cases h
      obtain ⟨p, vs, h1, h2, h3, _⟩ := a.rel.own i ds he1
      exact ⟨_, h1, .inr ⟨p, vs, ds, rfl, rfl, h2, h3⟩⟩
    · cases h
  · rename_i he
    obtain ⟨ds, e1, e2⟩ := om h
    obtain ⟨p, h1, h2⟩ := r.urn i he
    obtain ⟨ds', h3, h4⟩ := a.rel.ur p h1
    rw [e1] at h3; cases h3
    subst e2
    exact ⟨_, h2, .inr ⟨p, _, _, rfl, rfl, h4, RpL.of_ints ds⟩⟩
  · cases h
theorem slot_any {s s1 : Stt} {i : Nat} {d : Dt} {K : KW} {B : Bad} {γ : Option Addr} {H0 H : Hp} {σ : L2.St} (r : Rel K B γ H0 σ H s) (h : slotD s s1 i = some d) : ∃ v, σ[i]? = some (some v) := by
  unfold slotD at h
  split at h
  · rename_i d' he
    obtain ⟨v, h1, h2⟩ := r.val i d' he
    exact ⟨v, h1⟩
  · rename_i ds' he
    obtain ⟨p, vs, h1, _⟩ := r.own i _ he
    exact ⟨_, h1⟩
  · rename_i he
    obtain ⟨p, h1, h2⟩ := r.urn i he
    exact ⟨_, h2⟩
  · cases h
theorem de_ixN' {i : Nat} {mb : MD} (ha : PE X a (tVar i)) (hb : PE X b (tD X.kw mb)) (hs : PlainIx b := by intro _ _; rfl) : PE X (.Subscript a b pos) (tD X.kw (mIxN i mb)) :=
  PE.imp (pe_ix ix_seq ha hb hs) fun σ H Q q => by
    obtain ⟨B, γ, H0, s, d, s', rl, e, k⟩ := q
    obtain ⟨⟨y, s1⟩, e1, e2⟩ := ob e
    obtain ⟨dx, e3, e4⟩ := ob e2
    obtain ⟨z, e5, e6⟩ := om e4
    obtain ⟨rfl, rfl⟩ := Prod.mk.inj e6
    obtain ⟨v, hv⟩ := slot_any rl e3
    refine ⟨v, hv, B, γ, H0, s, y, s1, rl, e1, fun v2 H2 a2 r2 => ?_⟩
    obtain ⟨v', hv', hr⟩ := slot_read rl a2 e3
    rw [hv] at hv'; cases hv'
    rcases hr with hr | ⟨p, vs, ds, rfl, rfl, h2, h3⟩
    · exact ix_go hr r2 e5 fun v r => k v H2 a2 r
    · cases r2 with
      | int j =>
        obtain ⟨w, w1, w2⟩ := h3.atI (show atI _ j = some z from e5)
        exact .inl ⟨_, _, j, w, rfl, rfl, .inl (.inl h2), w1, k w H2 a2 w2⟩
      | _ => cases e5
end
end DL
set_option Elab.async false
set_option linter.all false
set_option maxRecDepth 100000
set_option maxHeartbeats 2000000
namespace DL
open PySem PySem.Spec PyProof.Rows L2
inductive RV where
  | val (d : Dt) | new (ds : List Dt) | newd (kvs : List (Dt × Dt))
def RV.dt : RV → Dt
  | .val d => d
  | .new ds => .list ds
  | .newd kvs => .dict kvs
inductive AV where
  | val (d : Dt) | urn
abbrev Ur := Option (List Int)
abbrev FM := List AV → Ur → Option (RV × Ur)
def RvOk (K : KW) (H H' : Hp) (C : Bad) (v : V) : RV → Prop
  | .val d => Rp K H' C v d
  | .new ds => ∃ p vs, v = .ref p ∧ H p = none ∧ H' p = some (.lst vs) ∧ RpL K H' (Bp C p) vs ds
  | .newd kvs => ∃ p o, v = .ref p ∧ H p = none ∧ H' p = some o ∧ Dc K H' (Bp C p) p o kvs
inductive RpA (K : KW) (H : Hp) (C : Bad) (γ : Option Addr) : V → AV → Prop
  | val {v : V} {d : Dt} : Rp K H C v d → RpA K H C γ v (.val d)
  | urn {p : Addr} : γ = some p → RpA K H C γ (.ref p) .urn
inductive RpAs (K : KW) (H : Hp) (C : Bad) (γ : Option Addr) : List V → List AV → Prop
  | nil : RpAs K H C γ [] []
  | cons {v : V} {a : AV} {vs : List V} {as : List AV} : RpA K H C γ v a → RpAs K H C γ vs as → RpAs K H C γ (v :: vs) (a :: as)
structure Ret (K : KW) (H : Hp) (C : Bad) (γ : Option Addr) (H' : Hp) (v : V) (r : RV) (u' : Ur) : Prop where
  keep : Kx γ H H'
  ur : UrOk H' γ u'
  rv : RvOk K H H' C v r
def spD (K : KW) (F : FM) : Sp := fun vs H Q _ => ∃ C γ as u r u', RpAs K H C γ vs as ∧ UrOk H γ u ∧ (∀ p, γ = some p → C p) ∧ (∀ a, C a → H a ≠ none) ∧ F as u = some (r, u') ∧ ∀ v H', Ret K H C γ H' v r u' → Q v H'
section
variable {K : KW} {B B' C : Bad} {γ : Option Addr} {H0 H H' : Hp} {σ : L2.St} {s : Stt}
theorem Ret.lk {v : V} {r : RV} {u' : Ur} (rt : Ret K H C γ H' v r u') (bd : ∀ a, C a → H a ≠ none) (gC : ∀ p, γ = some p → C p) {P : Hp → Prop} (k : ∀ H'', Ret K H C γ H'' v (.val r.dt) u' → P H'') : Lks P H' := by
  obtain ⟨keep, ur, rv⟩ := rt
  cases r with
  | val d => exact .done (k H' ⟨keep, ur, rv⟩)
  | new ds =>
    obtain ⟨p, vs, rfl, h1, h2, h3⟩ := rv
    exact .done (k H' ⟨keep, ur, .lst (.inl h2) (fun z => bd p z h1) (h3.sub fun a z => .inl z)⟩)
  | newd ds =>
    obtain ⟨p, o, rfl, h1, h2, h3⟩ := rv
    refine .lock h2 h3.mb.mut fun ob => .done (k _ ⟨⟨fun b u e g => ?_, keep.evo.trans (Evo.set h2 h3.nme (fun xs z => mb_tup (z ▸ h3.mb)) fun o u z => mb_frz (z ▸ h3.mb))⟩, fun q e => ?_, ?_⟩)
    · rw [upd_ne (ne_of_none e h1)]; exact keep.at_ b u e g
    · obtain ⟨ns, z1, z2⟩ := ur q e
      exact ⟨ns, z1, by rw [upd_ne (fun z : q = p => bd q (gC q e) (z ▸ h1))]; exact z2⟩
    · exact .dct upd_same (h3.mono (Kp.set (.inr rfl) h2 h3.mb h3.nme) fun a z => .inl z)
theorem RpL.by_frm {C C' : Bad} (frm : ∀ v d, Rp K H C v d → Rp K H' C' v d) : ∀ {vs : List V} {ds : List Dt}, RpL K H C vs ds → RpL K H' C' vs ds
  | _, _, .nil => .nil
  | _, _, .cons h r => .cons (frm _ _ h) (RpL.by_frm frm r)
theorem Dc.by_frm {C C' : Bad} (frm : ∀ v d, Rp K H C v d → Rp K H' C' v d) {a : Addr} {o : HO} {kvs : List (Dt × Dt)} (h : Dc K H C a o kvs) : Dc K H' C' a o kvs := by
  cases h with
  | ky r => exact .ky (RpL.by_frm frm r)
  | tp d q r => exact .tp d (RpL.by_frm frm q) (RpL.by_frm frm r)
theorem Rel.to {u' : Ur} (r : Rel K B γ H0 σ H s) (frm : ∀ v d, Rp K H (Bh B σ s.sl) v d → Rp K H' (Bh B' σ s.sl) v d) (ownk : ∀ b, Ow σ s.sl b → (∀ o, H b = some o → H' b = some o) ∧ ¬ B' b)
    (ur : UrOk H' γ u') (gB : ∀ p, γ = some p → B' p) (bd : ∀ a, B' a → H' a ≠ none) (ent : Kx γ H0 H') : Rel K B' γ H0 σ H' { s with ur := u' } where
  len := r.len
  val := fun i d e => let ⟨v, h1, h2⟩ := r.val i d e; ⟨v, h1, frm _ _ h2⟩
  own := fun i ds e => by
    obtain ⟨p, vs, h1, h2, h3, h4, h5⟩ := r.own i ds e
    have q := ownk p ⟨i, _, e, rfl, h1⟩
    exact ⟨p, vs, h1, q.1 _ h2, RpL.by_frm frm h3, q.2, h5⟩
  dic := fun i ds e => by
    obtain ⟨p, vs, h1, h2, h3, h4, h5⟩ := r.dic i ds e
    have q := ownk p ⟨i, _, e, rfl, h1⟩
    exact ⟨p, vs, h1, q.1 _ h2, h3.by_frm frm, q.2, h5⟩
  inj := r.inj
  urn := r.urn
  ur := ur
  gB := gB
  bd := bd
  ent := ent.at_
  ev := ent.evo
theorem RpAs.of_vals : ∀ {vs : List V} {ds : List Dt}, RpL K H C vs ds → RpAs K H C γ vs (ds.map .val)
  | _, _, .nil => .nil
  | _, _, .cons h r => .cons (.val h) (RpAs.of_vals r)
theorem RpAs.len : ∀ {vs : List V} {as : List AV}, RpAs K H C γ vs as → vs.length = as.length
  | _, _, .nil => rfl
  | _, _, .cons _ r => by rw [List.length_cons, List.length_cons, r.len]
theorem RpAs.by_frm {C C' : Bad} (frm : ∀ v d, Rp K H C v d → Rp K H' C' v d) : ∀ {vs : List V} {as : List AV}, RpAs K H C γ vs as → RpAs K H' C' γ vs as
  | _, _, .nil => .nil
  | _, _, .cons (.val h) r => .cons (.val (frm _ _ h)) (RpAs.by_frm frm r)
  | _, _, .cons (.urn h) r => .cons (.urn h) (RpAs.by_frm frm r)
theorem keep_frm (g : ∀ p, γ = some p → C p) (hu : ∀ p, γ = some p → ∃ vs, H p = some (.lst vs)) (keep : Kx γ H H') : ∀ v d, Rp K H C v d → Rp K H' C v d := fun v d h =>
  h.mono ⟨fun b o e q n => keep.at_ b o e ⟨fun z => by
    rcases q with q | q
    · exact q (g b z)
    · obtain ⟨vs, hv⟩ := hu b z
      rw [hv] at e; cases e
      exact q (.inl ⟨vs, rfl⟩), n⟩, keep.evo⟩ fun _ z => z
theorem UrOk.isl {u : Ur} (h : UrOk H γ u) : ∀ p, γ = some p → ∃ vs, H p = some (.lst vs) := fun p e => let ⟨_, _, h2⟩ := h p e; ⟨_, h2⟩
theorem Rel.called {u' : Ur} (r : Rel K B γ H0 σ H s) (keep : Kx γ H H') (ur : UrOk H' γ u') : Aft K B γ H0 σ H s σ H' { s with ur := u' } := by
  have gb : ∀ p, γ = some p → Bh B σ s.sl p := fun p e => .inl (r.gB p e)
  have frm := keep_frm (K := K) gb r.ur.isl keep
  refine ⟨r.to frm (fun b hb => ?_) ur r.gB (fun a ha => keep.evo.dm a (r.bd a ha)) (Kx.trans ⟨r.ent, r.ev⟩ keep), ⟨frm, fun b o _ g e => keep.at_ b o e g, keep.evo.dm⟩⟩
  obtain ⟨i, ds, h1, hm, h2⟩ := hb
  have nm : ∀ o, H b = some o → ¬ Me o := fun o e => by
    obtain ⟨p, u, e1, e2, n⟩ := r.mineN h1 hm
    rw [h2] at e1; cases e1
    rw [e] at e2; cases e2
    exact n
  obtain ⟨p, vs, e1, e2, _, e4, e5⟩ := r.mine h1 hm
  rw [h2] at e1; cases e1
  exact ⟨fun o e => keep.at_ b o e ⟨fun g => e4 (r.gB b g), nm o e⟩, e4⟩
end
section
variable {X : Cx} {e a b c : Expr} {es : List Expr} {pos : Pos}
def tDC (K : KW) (m : Stt → Option (List AV × Stt)) : TA := fun σ H Q => ∃ B γ H0 s as s', Rel K B γ H0 σ H s ∧ m s = some (as, s') ∧ ∀ vs H', Aft K B γ H0 σ H s σ H' s' → RpAs K H' (Bh B σ s'.sl) γ vs as → Q vs H'
def cNil : Stt → Option (List AV × Stt) := fun s => some ([], s)
def cCons (ma : MD) (mr : Stt → Option (List AV × Stt)) : Stt → Option (List AV × Stt) := fun s => (ma s).bind fun p => (mr p.2).map fun q => (.val p.1 :: q.1, q.2)
def cUrn (i : Nat) (mr : Stt → Option (List AV × Stt)) : Stt → Option (List AV × Stt) := fun s => match s.sl[i]? with
  | some (some .urn) => (mr s).map fun q => (.urn :: q.1, q.2)
  | _ => none
theorem dc_nil : PA X [] (tDC X.kw cNil) := PA.imp pa_nil fun σ H Q q => by
  obtain ⟨B, γ, H0, s, d, s', rl, e, k⟩ := q
  cases e
  exact k [] H (Aft.refl rl) .nil
theorem dc_cons {ma : MD} {mr} (ha : PE X e (tD X.kw ma)) (hr : PA X es (tDC X.kw mr)) (hs : starEach (e :: es) X.env = (false, eval e X.env) :: starEach es X.env := by rfl) : PA X (e :: es) (tDC X.kw (cCons ma mr)) :=
  PA.imp (pa_cons ha hr hs) fun σ H Q q => by
    obtain ⟨B, γ, H0, s, d, s', rl, e, k⟩ := q
    obtain ⟨⟨x, s1⟩, e1, e2⟩ := ob e
    obtain ⟨⟨y, s2⟩, e3, e4⟩ := om e2
    obtain ⟨rfl, rfl⟩ := Prod.mk.inj e4
    exact ⟨B, γ, H0, s, x, s1, rl, e1, fun v1 H1 a1 r1 => ⟨B, γ, H0, s1, y, s2, a1.rel, e3, fun v2 H2 a2 r2 => k _ _ (a1.trans a2) (.cons (.val (a2.mv.frm _ _ r1)) r2)⟩⟩
theorem dc_urn {i : Nat} {mr} (ha : PE X e (tVar i)) (hr : PA X es (tDC X.kw mr)) (hs : starEach (e :: es) X.env = (false, eval e X.env) :: starEach es X.env := by rfl) : PA X (e :: es) (tDC X.kw (cUrn i mr)) :=
  PA.imp (pa_cons ha hr hs) fun σ H Q q => by
    obtain ⟨B, γ, H0, s, d, s', rl, e, k⟩ := q
    unfold cUrn at e
    split at e
    · rename_i hs
      obtain ⟨⟨y, s2⟩, e3, e4⟩ := om e
      obtain ⟨rfl, rfl⟩ := Prod.mk.inj e4
      obtain ⟨p, h1, h2⟩ := rl.urn i hs
      exact ⟨_, h2, B, γ, H0, s, y, s2, rl, e3, fun v2 H2 a2 r2 => k _ _ a2 (.cons (.urn h1) r2)⟩
    · cases e
structure FnD (P : Program) (w : World) (K : PySem.W.Frag) (mg : Str → Option Value) (base : Heap) (x : Str) (k : Nat) (F : FM) : Prop where
  ex : ∃ f fd ps, FnOk P w K mg base CX0 k f fd ps (spD ⟨K, w, mg⟩ F) ∧ mg x = some (.ref f) ∧ PySem.W.keepIn K (.ref f) = true ∧ Binds K fd ps []
variable {x : Str} {p : Pos} {k : Nat} {F : FM}
theorem call_pure {σ : L2.St} {H : Hp} {B γ H0 s as s1 r u} {vs : List V} {H1 : Hp} {Q : VK} {E : XK} (a1 : Aft X.kw B γ H0 σ H s σ H1 s1) (r1 : RpL X.kw H1 (Bh B σ s1.sl) vs as) (hF : F (as.map .val) none = some (r, u))
    (k : ∀ v H', Sx H1 H' → RvOk X.kw H1 H' (Bh B σ s1.sl) v r → Q v H') : spD X.kw F (vs ++ []) H1 Q E := by
  rw [List.append_nil]
  exact ⟨Bh B σ s1.sl, none, as.map .val, none, r, u, RpAs.of_vals r1, (fun p e => nomatch e), (fun p e => nomatch e), a1.rel.bdh, hF, fun v H' rt => k v H' rt.keep.sx rt.rv⟩
theorem call_pureV {σ : L2.St} {H : Hp} {B γ H0 s as s1 r u} {vs : List V} {H1 : Hp} {Q : VK} {E : XK} (a1 : Aft X.kw B γ H0 σ H s σ H1 s1) (r1 : RpL X.kw H1 (Bh B σ s1.sl) vs as) (hF : F (as.map .val) none = some (r, u))
    (k : ∀ v H', Sx H1 H' → Rp X.kw H' (Bh B σ s1.sl) v r.dt → Q v H') : spD X.kw F (vs ++ []) H1 (fun v H' => Lks (Q v) H') E := by
  rw [List.append_nil]
  exact ⟨Bh B σ s1.sl, none, as.map .val, none, r, u, RpAs.of_vals r1, (fun p e => nomatch e), (fun p e => nomatch e), a1.rel.bdh, hF, fun v H' rt => rt.lk a1.rel.bdh (fun p e => nomatch e) fun H'' rt' => k v H'' rt'.keep.sx rt'.rv⟩
theorem call_urnV {σ : L2.St} {H : Hp} {B γ H0 s as s1 r u} {vs : List V} {H1 : Hp} {Q : VK} {E : XK} (a1 : Aft X.kw B γ H0 σ H s σ H1 s1) (r1 : RpAs X.kw H1 (Bh B σ s1.sl) γ vs as) (hF : F as s1.ur = some (r, u))
    (k : ∀ v H', Aft X.kw B γ H0 σ H1 s1 σ H' { s1 with ur := u } → Rp X.kw H' (Bh B σ s1.sl) v r.dt → Q v H') : spD X.kw F (vs ++ []) H1 (fun v H' => Lks (Q v) H') E := by
  rw [List.append_nil]
  exact ⟨Bh B σ s1.sl, γ, as, s1.ur, r, u, r1, a1.rel.ur, fun p e => .inl (a1.rel.gB p e), a1.rel.bdh, hF, fun v H' rt => rt.lk a1.rel.bdh (fun p e => .inl (a1.rel.gB p e)) fun H'' rt' => k v H'' (a1.rel.called rt'.keep rt'.ur) rt'.rv⟩
theorem new_core {σ : L2.St} {H H1 H' : Hp} {B γ H0 s s1 s2} {p : Addr} {o : HO} (a1 : Aft X.kw B γ H0 σ H s σ H1 s1) (a2 : Aft X.kw B γ H0 σ H1 s1 σ H' s2) (e2 : s2.sl = s1.sl) (hp : H1 p = none) (h2 : H' p = some o)
    (keep : Kx γ H1 H') : Rel X.kw (Bp B p) γ H0 σ H' s2 ∧ Mv X.kw B γ H (Bh B σ s.sl) H' (Bh (Bp B p) σ s2.sl) ∧ H p = none := by
  have frm : ∀ v d, Rp X.kw H1 (Bh B σ s1.sl) v d → Rp X.kw H' (Bh (Bp B p) σ s1.sl) v d := fun v d h => by
    have h' := h.avoid hp
    refine (keep_frm (K := X.kw) (C := Bp (Bh B σ s1.sl) p) (fun q e => .inl (.inl (a1.rel.gB q e))) a1.rel.ur.isl keep v d h').sub fun _ => bh_bp
  have hr2 : Rel X.kw (Bp B p) γ H0 σ H' { s1 with ur := s2.ur } := by
    refine a1.rel.to frm (fun b hb => ?_) a2.rel.ur (fun q e => .inl (a1.rel.gB q e)) (fun a ha => ?_) (Kx.trans ⟨a1.rel.ent, a1.rel.ev⟩ keep)
    · obtain ⟨i, es, h5, hm, h6⟩ := hb
      have nm : ∀ o, H1 b = some o → ¬ Me o := fun o e => by
        obtain ⟨p, u, e1, e2, n⟩ := a1.rel.mineN h5 hm
        rw [h6] at e1; cases e1
        rw [e] at e2; cases e2
        exact n
      obtain ⟨q, ws, e3, e4, _, e6, e7⟩ := a1.rel.mine h5 hm
      rw [h6] at e3; cases e3
      exact ⟨fun o e => keep.at_ b o e ⟨fun g => e6 (a1.rel.gB b g), nm o e⟩, fun z => z.elim e6 fun z => ne_of_none e4 hp z⟩
    · rcases ha with ha | ha
      · exact a2.rel.bd a ha
      · rw [ha, h2]; intro z; cases z
  have es : ({ s1 with ur := s2.ur } : Stt) = s2 := by
    cases s2
    cases s1
    simp only at e2
    rw [e2]
  rw [es] at hr2
  refine ⟨hr2, ?_, a1.mv.back hp⟩
  rw [e2]
  exact ⟨fun v d h => frm v d (a1.mv.frm v d h), fun b o hb hg e => keep.at_ b o (a1.mv.pv b o hb hg e) hg, fun b hb => a2.mv.dom b (a1.mv.dom b hb)⟩
theorem new_go {σ : L2.St} {H H1 H' : Hp} {B γ H0 s s1 s2 ds v} {Q : VK} (a1 : Aft X.kw B γ H0 σ H s σ H1 s1) (a2 : Aft X.kw B γ H0 σ H1 s1 σ H' s2) (e2 : s2.sl = s1.sl) (hrv : RvOk X.kw H1 H' (Bh B σ s1.sl) v (.new ds))
    (keep : Kx γ H1 H')
    (kk : ∀ p vs H', Rel X.kw (Bp B p) γ H0 σ H' s2 → Mv X.kw B γ H (Bh B σ s.sl) H' (Bh (Bp B p) σ s2.sl) → H p = none → H' p = some (.lst vs) → RpL X.kw H' (Bh (Bp B p) σ s2.sl) vs ds → Q (.ref p) H') : Q v H' := by
  obtain ⟨p, vs, rfl, hp, h2, h3⟩ := hrv
  obtain ⟨c1, c2, c3⟩ := new_core a1 a2 e2 hp h2 keep
  refine kk p vs H' c1 c2 c3 h2 ?_
  rw [e2]
  exact h3.sub fun _ => bh_bp
theorem new_goD {σ : L2.St} {H H1 H' : Hp} {B γ H0 s s1 s2 ds v} {Q : VK} (a1 : Aft X.kw B γ H0 σ H s σ H1 s1) (a2 : Aft X.kw B γ H0 σ H1 s1 σ H' s2) (e2 : s2.sl = s1.sl) (hrv : RvOk X.kw H1 H' (Bh B σ s1.sl) v (.newd ds))
    (keep : Kx γ H1 H')
    (kk : ∀ p o H', Rel X.kw (Bp B p) γ H0 σ H' s2 → Mv X.kw B γ H (Bh B σ s.sl) H' (Bh (Bp B p) σ s2.sl) → H p = none → H' p = some o → Dc X.kw H' (Bh (Bp B p) σ s2.sl) p o ds → Q (.ref p) H') : Q v H' := by
  obtain ⟨p, vs, rfl, hp, h2, h3⟩ := hrv
  obtain ⟨c1, c2, c3⟩ := new_core a1 a2 e2 hp h2 keep
  refine kk p vs H' c1 c2 c3 h2 ?_
  rw [e2]
  exact h3.sub fun _ => bh_bp
def mCall (F : FM) (m : MA) : MD := fun s => (m s).bind fun q => (F (q.1.map .val) none).map fun r => (r.1.dt, q.2)
theorem de_call {m : MA} (G : FnD X.prog X.w X.K X.mg X.base x k F) (hr : Room k X.A) (ha : PA X (e :: es) (tDA X.kw m)) (hg : Gl X x := by rfl) (hdb : (x == ("__debug__" : Str)) = false := by decide)
    (he : starEach (e :: es) X.env = (false, eval e X.env) :: starEach es X.env := by rfl) (hpl : (backTo pos (starEach es X.env)).any (·.1) = false := by rfl) : PE X (.Call (.Name x p) (e :: es) [] pos) (tD X.kw (mCall F m)) := by
  obtain ⟨f, fd, ps, hF, hm, hk, hb⟩ := G.ex
  refine PE.imp (PE.lk (pe_call hF hr hg hm hk hb .nil pass0 ha hdb he hpl)) fun σ H Q q => ?_
  obtain ⟨B, γ, H0, s, d, s', rl, e, kk⟩ := q
  obtain ⟨⟨as, s1⟩, e1, e2⟩ := ob e
  obtain ⟨⟨r, u⟩, e3, e4⟩ := om e2
  obtain ⟨rfl, rfl⟩ := Prod.mk.inj e4
  refine ⟨B, γ, H0, s, as, s1, rl, e1, fun vs H1 a1 r1 => ?_⟩
  exact call_pureV a1 r1 e3 (fun v H' sm rv => kk v H' (a1.samx sm) rv)
def mCallL (F : FM) (m : MA) : MA := fun s => (m s).bind fun q => (F (q.1.map .val) none).bind fun r => match r.1 with
  | .new ds => some (ds, q.2)
  | _ => none
theorem dl_call {m : MA} (G : FnD X.prog X.w X.K X.mg X.base x k F) (hr : Room k X.A) (ha : PA X (e :: es) (tDA X.kw m)) (hg : Gl X x := by rfl) (hdb : (x == ("__debug__" : Str)) = false := by decide)
    (he : starEach (e :: es) X.env = (false, eval e X.env) :: starEach es X.env := by rfl) (hpl : (backTo pos (starEach es X.env)).any (·.1) = false := by rfl) : PE X (.Call (.Name x p) (e :: es) [] pos) (tDL X.kw (mCallL F m)) := by
  obtain ⟨f, fd, ps, hF, hm, hk, hb⟩ := G.ex
  refine PE.imp (pe_call hF hr hg hm hk hb .nil pass0 ha hdb he hpl) fun σ H Q q => ?_
  obtain ⟨B, γ, H0, s, d, s', rl, e, kk⟩ := q
  obtain ⟨⟨as, s1⟩, e1, e2⟩ := ob e
  obtain ⟨⟨r, u⟩, e3, e4⟩ := ob e2
  cases r with
  | val _ => cases e4
  | newd _ => cases e4
  | new ds =>
    obtain ⟨rfl, rfl⟩ := Prod.mk.inj (Option.some.inj e4)
    refine ⟨B, γ, H0, s, as, s1, rl, e1, fun vs H1 a1 r1 => ?_⟩
    exact call_pure a1 r1 e3 (fun v H' sm rv => new_go a1 ((Aft.refl a1.rel).samx sm) rfl rv (Kx.of_sx sm) kk)
def mCallD (F : FM) (m : MA) : MDc := fun s => (m s).bind fun q => (F (q.1.map .val) none).bind fun r => match r.1 with
  | .newd ds => some (ds, q.2)
  | _ => none
theorem dd_call {m : MA} (G : FnD X.prog X.w X.K X.mg X.base x k F) (hr : Room k X.A) (ha : PA X (e :: es) (tDA X.kw m)) (hg : Gl X x := by rfl) (hdb : (x == ("__debug__" : Str)) = false := by decide)
    (he : starEach (e :: es) X.env = (false, eval e X.env) :: starEach es X.env := by rfl) (hpl : (backTo pos (starEach es X.env)).any (·.1) = false := by rfl) : PE X (.Call (.Name x p) (e :: es) [] pos) (tDD X.kw (mCallD F m)) := by
  obtain ⟨f, fd, ps, hF, hm, hk, hb⟩ := G.ex
  refine PE.imp (pe_call hF hr hg hm hk hb .nil pass0 ha hdb he hpl) fun σ H Q q => ?_
  obtain ⟨B, γ, H0, s, d, s', rl, e, kk⟩ := q
  obtain ⟨⟨as, s1⟩, e1, e2⟩ := ob e
  obtain ⟨⟨r, u⟩, e3, e4⟩ := ob e2
  cases r with
  | val _ => cases e4
  | new _ => cases e4
  | newd ds =>
    obtain ⟨rfl, rfl⟩ := Prod.mk.inj (Option.some.inj e4)
    refine ⟨B, γ, H0, s, as, s1, rl, e1, fun vs H1 a1 r1 => ?_⟩
    exact call_pure a1 r1 e3 (fun v H' sm rv => new_goD a1 ((Aft.refl a1.rel).samx sm) rfl rv (Kx.of_sx sm) kk)
def mCallU (F : FM) (m : Stt → Option (List AV × Stt)) : MD := fun s => (m s).bind fun q => (F q.1 q.2.ur).map fun r => (r.1.dt, { q.2 with ur := r.2 })
theorem de_callU {m} (G : FnD X.prog X.w X.K X.mg X.base x k F) (hr : Room k X.A) (ha : PA X (e :: es) (tDC X.kw m)) (hg : Gl X x := by rfl) (hdb : (x == ("__debug__" : Str)) = false := by decide)
    (he : starEach (e :: es) X.env = (false, eval e X.env) :: starEach es X.env := by rfl) (hpl : (backTo pos (starEach es X.env)).any (·.1) = false := by rfl) : PE X (.Call (.Name x p) (e :: es) [] pos) (tD X.kw (mCallU F m)) := by
  obtain ⟨f, fd, ps, hF, hm, hk, hb⟩ := G.ex
  refine PE.imp (PE.lk (pe_call hF hr hg hm hk hb .nil pass0 ha hdb he hpl)) fun σ H Q q => ?_
  obtain ⟨B, γ, H0, s, d, s', rl, e, kk⟩ := q
  obtain ⟨⟨as, s1⟩, e1, e2⟩ := ob e
  obtain ⟨⟨r, u⟩, e3, e4⟩ := om e2
  obtain ⟨rfl, rfl⟩ := Prod.mk.inj e4
  refine ⟨B, γ, H0, s, as, s1, rl, e1, fun vs H1 a1 r1 => ?_⟩
  exact call_urnV a1 r1 e3 (fun v H' a2 rv => kk v H' (a1.trans a2) rv)
def mCallUL (F : FM) (m : Stt → Option (List AV × Stt)) : MA := fun s => (m s).bind fun q => (F q.1 q.2.ur).bind fun r => match r.1 with
  | .new ds => some (ds, { q.2 with ur := r.2 })
  | _ => none
end
end DL
set_option Elab.async false
set_option linter.all false
set_option maxRecDepth 100000
set_option maxHeartbeats 2000000
namespace DL
open PySem PySem.Spec PyProof.Rows L2
def put (s : Stt) (i : Nat) (x : SV) : Stt := { s with sl := s.sl.set i (some x) }
def Cn (K : KW) (H : Hp) (C : Bad) (p : Addr) (o : HO) : SV → Prop
  | .own ds => ∃ vs, o = .lst vs ∧ RpL K H C vs ds
  | .dic kvs => Dc K H C p o kvs
  | _ => False
section
variable {K : KW} {B C C' : Bad} {γ : Option Addr} {H0 H H' : Hp} {σ : L2.St} {s s' : Stt}
theorem Cn.mine {p : Addr} {o : HO} {x : SV} (h : Cn K H C p o x) : x.mine = true := by
  cases x with
  | own _ => rfl
  | dic _ => rfl
  | val _ => exact h.elim
  | urn => exact h.elim
theorem Cn.mb {p : Addr} {o : HO} {x : SV} (h : Cn K H C p o x) : Mb o := by
  cases x with
  | own _ => obtain ⟨vs, rfl, _⟩ := h; exact .inl ⟨_, rfl⟩
  | dic _ => exact Dc.mb h
  | val _ => exact h.elim
  | urn => exact h.elim
theorem Cn.mono {p : Addr} {o : HO} {x : SV} (k : Kp C H H') (hb : ∀ a, C' a → C a) (h : Cn K H C p o x) : Cn K H' C' p o x := by
  cases x with
  | own _ => obtain ⟨vs, h1, h2⟩ := h; exact ⟨vs, h1, h2.mono k hb⟩
  | dic _ => exact Dc.mono k hb h
  | val _ => exact h.elim
  | urn => exact h.elim
theorem Cn.sub {p : Addr} {o : HO} {x : SV} (h : Cn K H C p o x) (hb : ∀ a, C' a → C a) : Cn K H C' p o x := h.mono (Kp.refl _ _) hb
theorem set_other {α : Type} {l : List α} {i j : Nat} {x : α} (h : j ≠ i) : (l.set i x)[j]? = l[j]? := List.getElem?_set_ne (fun e => h e.symm)
theorem put_cases (hl : s.sl.length = σ.length) {i j : Nat} {x y : SV} {v : V} (e : (put s i x).sl[j]? = some (some y)) : (j = i ∧ j < σ.length ∧ y = x) ∨ (j ≠ i ∧ s.sl[j]? = some (some y) ∧ (σ.set i (some v))[j]? = σ[j]?) := by
  have e' : (s.sl.set i (some x))[j]? = some (some y) := e
  by_cases ej : j = i
  · subst ej
    by_cases hj : j < s.sl.length
    · rw [List.getElem?_set_self hj] at e'
      cases e'
      exact .inl ⟨rfl, hl ▸ hj, rfl⟩
    · rw [List.getElem?_eq_none (by rw [List.length_set]; omega)] at e'; cases e'
  · rw [set_other ej] at e'
    exact .inr ⟨ej, e', set_other ej⟩
theorem setV_sub {i : Nat} {d : Dt} {v : V} {a : Addr} (hl : s.sl.length = σ.length) (h : Bh B (σ.set i (some v)) (put s i (.val d)).sl a) : Bh B σ s.sl a := by
  rcases h with h | ⟨j, y, h1, hm, h2⟩
  · exact .inl h
  · rcases put_cases (v := v) hl h1 with ⟨_, _, rfl⟩ | ⟨_, e1, e2⟩
    · cases hm
    · exact .inr ⟨j, y, e1, hm, e2.symm.trans h2⟩
theorem Rel.setV (r : Rel K B γ H0 σ H s) {i : Nat} {d : Dt} {v : V} (h : Rp K H (Bh B σ s.sl) v d) : Aft K B γ H0 σ H s (σ.set i (some v)) H (put s i (.val d)) := by
  have sb : ∀ a, Bh B (σ.set i (some v)) (put s i (.val d)).sl a → Bh B σ s.sl a := fun a => setV_sub r.len
  refine ⟨?_, Mv.of_same (Same.refl H) sb⟩
  exact {
    len := by show (s.sl.set i _).length = _; rw [List.length_set, List.length_set]; exact r.len
    val := fun j d' e => by
      rcases put_cases (v := v) r.len e with ⟨rfl, hj, hx⟩ | ⟨_, e1, e2⟩
      · cases hx
        exact ⟨v, List.getElem?_set_self hj, h.sub sb⟩
      · obtain ⟨w, q1, q2⟩ := r.val j d' e1
        exact ⟨w, e2.trans q1, q2.sub sb⟩
    own := fun j es e => by
      rcases put_cases (v := v) r.len e with ⟨_, _, hx⟩ | ⟨_, e1, e2⟩
      · cases hx
      · obtain ⟨q, ws, q1, q2, q3, q4⟩ := r.own j es e1
        exact ⟨q, ws, e2.trans q1, q2, q3.sub sb, q4⟩
    dic := fun j es e => by
      rcases put_cases (v := v) r.len e with ⟨_, _, hx⟩ | ⟨_, e1, e2⟩
      · cases hx
      · obtain ⟨q, ws, q1, q2, q3, q4⟩ := r.dic j es e1
        exact ⟨q, ws, e2.trans q1, q2, q3.sub sb, q4⟩
    inj := fun j k x y q e1 m1 e2 m2 e3 e4 => by
      rcases put_cases (v := v) r.len e1 with ⟨_, _, rfl⟩ | ⟨_, f1, f2⟩
      · cases m1
      · rcases put_cases (v := v) r.len e2 with ⟨_, _, rfl⟩ | ⟨_, g1, g2⟩
        · cases m2
        · exact r.inj j k x y q f1 m1 g1 m2 (f2.symm.trans e3) (g2.symm.trans e4)
    urn := fun j e => by
      rcases put_cases (v := v) r.len e with ⟨_, _, hx⟩ | ⟨_, e1, e2⟩
      · cases hx
      · obtain ⟨p, q1, q2⟩ := r.urn j e1
        exact ⟨p, q1, e2.trans q2⟩
    ur := r.ur
    gB := r.gB
    bd := r.bd
    ent := r.ent
    ev := r.ev }
theorem Rel.setC (r : Rel K (Bp B p) γ H0 σ H s) {i : Nat} {x : SV} {o : HO} (hB : ¬ B p) (hg : ∀ q, γ = some q → B q) (h0 : H0 p = none) (hp : H p = some o) (h : Cn K H (Bh (Bp B p) σ s.sl) p o x) :
    Rel K B γ H0 (σ.set i (some (.ref p))) H (put s i x) ∧ ∀ a, Bh B (σ.set i (some (.ref p))) (put s i x).sl a → Bh (Bp B p) σ s.sl a := by
  have sb : ∀ a, Bh B (σ.set i (some (.ref p))) (put s i x).sl a → Bh (Bp B p) σ s.sl a := fun a ha => by
    rcases ha with ha | ⟨j, y, h1, hm, h2⟩
    · exact .inl (.inl ha)
    · rcases put_cases (v := .ref p) r.len h1 with ⟨rfl, hj, hx⟩ | ⟨_, e1, e2⟩
      · rw [List.getElem?_set_self hj] at h2
        cases h2
        exact .inl (.inr rfl)
      · rw [e2] at h2
        exact .inr ⟨j, y, e1, hm, h2⟩
  have away : ∀ (k : Nat) (y : SV), s.sl[k]? = some (some y) → y.mine = true → σ[k]? ≠ some (some (.ref p)) := fun k y g1 m e => by
    obtain ⟨q, ws, q1, _, _, q4, q5⟩ := r.mine g1 m
    rw [e] at q1; cases q1
    exact q4 (.inr rfl)
  refine ⟨?_, sb⟩
  exact {
    len := by show (s.sl.set i _).length = _; rw [List.length_set, List.length_set]; exact r.len
    val := fun j d' e => by
      rcases put_cases (v := .ref p) r.len e with ⟨_, _, hx⟩ | ⟨_, e1, e2⟩
      · rw [← hx] at h; exact h.elim
      · obtain ⟨w, q1, q2⟩ := r.val j d' e1
        exact ⟨w, e2.trans q1, q2.sub sb⟩
    own := fun j es e => by
      rcases put_cases (v := .ref p) r.len e with ⟨rfl, hj, hx⟩ | ⟨_, e1, e2⟩
      · rw [← hx] at h
        obtain ⟨vs, rfl, hr⟩ := h
        exact ⟨p, vs, List.getElem?_set_self hj, hp, hr.sub sb, hB, h0⟩
      · obtain ⟨q, ws, q1, q2, q3, q4, q5⟩ := r.own j es e1
        exact ⟨q, ws, e2.trans q1, q2, q3.sub sb, fun z => q4 (.inl z), q5⟩
    dic := fun j es e => by
      rcases put_cases (v := .ref p) r.len e with ⟨rfl, hj, hx⟩ | ⟨_, e1, e2⟩
      · rw [← hx] at h
        exact ⟨p, o, List.getElem?_set_self hj, hp, Dc.sub h sb, hB, h0⟩
      · obtain ⟨q, ws, q1, q2, q3, q4, q5⟩ := r.dic j es e1
        exact ⟨q, ws, e2.trans q1, q2, q3.sub sb, fun z => q4 (.inl z), q5⟩
    inj := fun j k y z q e1 m1 e2 m2 e3 e4 => by
      rcases put_cases (v := .ref p) r.len e1 with ⟨rfl, hj, hx⟩ | ⟨n1, f1, f2⟩
      · rcases put_cases (v := .ref p) r.len e2 with ⟨rfl, _, _⟩ | ⟨n2, g1, g2⟩
        · rfl
        · rw [List.getElem?_set_self hj] at e3
          cases e3
          exact absurd (g2.symm.trans e4) (away k z g1 m2)
      · rcases put_cases (v := .ref p) r.len e2 with ⟨rfl, hk, hx⟩ | ⟨n2, g1, g2⟩
        · rw [List.getElem?_set_self hk] at e4
          cases e4
          exact absurd (f2.symm.trans e3) (away j y f1 m1)
        · exact r.inj j k y z q f1 m1 g1 m2 (f2.symm.trans e3) (g2.symm.trans e4)
    urn := fun j e => by
      rcases put_cases (v := .ref p) r.len e with ⟨_, _, hx⟩ | ⟨_, e1, e2⟩
      · rw [← hx] at h; exact h.elim
      · obtain ⟨p, q1, q2⟩ := r.urn j e1
        exact ⟨p, q1, e2.trans q2⟩
    ur := r.ur
    gB := hg
    bd := fun a ha => r.bd a (.inl ha)
    ent := r.ent
    ev := r.ev }
theorem Rel.setO (r : Rel K (Bp B p) γ H0 σ H s) {i : Nat} {ds : List Dt} {vs : List V} (hB : ¬ B p) (hg : ∀ q, γ = some q → B q) (h0 : H0 p = none) (hp : H p = some (.lst vs)) (h : RpL K H (Bh (Bp B p) σ s.sl) vs ds) :
    Rel K B γ H0 (σ.set i (some (.ref p))) H (put s i (.own ds)) ∧ ∀ a, Bh B (σ.set i (some (.ref p))) (put s i (.own ds)).sl a → Bh (Bp B p) σ s.sl a := r.setC hB hg h0 hp ⟨vs, rfl, h⟩
theorem Rel.chgC (r : Rel K B γ H0 σ H s) {i : Nat} {x y : SV} {o : HO} {p : Addr} (hi : s.sl[i]? = some (some x)) (hmx : x.mine = true) (hp : σ[i]? = some (some (.ref p))) (h : Cn K H (Bh B σ s.sl) p o y) :
    Aft K B γ H0 σ H s σ (upd H p o) (put s i y) := by
  obtain ⟨p', ox, e1, hv, hmb, nB, h0⟩ := r.mine hi hmx
  rw [hp] at e1; cases e1
  have hnm : ¬ Me ox := by
    obtain ⟨q, o2, f1, f2, f3⟩ := r.mineN hi hmx
    rw [hp] at f1; cases f1
    rw [hv] at f2; cases f2
    exact f3
  have hil : i < s.sl.length := (List.getElem?_eq_some_iff.mp hi).1
  have hmy := h.mine
  have cases' : ∀ (j : Nat) (z : SV), (put s i y).sl[j]? = some (some z) → (j = i ∧ z = y) ∨ (j ≠ i ∧ s.sl[j]? = some (some z)) := fun j z e => by
    rcases put_cases (v := .ref p) r.len e with ⟨h1, _, h2⟩ | ⟨h1, h2, _⟩
    · exact .inl ⟨h1, h2⟩
    · exact .inr ⟨h1, h2⟩
  have sb : ∀ a, Bh B σ (put s i y).sl a → Bh B σ s.sl a := fun a ha => by
    rcases ha with ha | ⟨j, fs, h1, hm, h2⟩
    · exact .inl ha
    · rcases cases' j _ h1 with ⟨rfl, hx⟩ | ⟨_, e1⟩
      · exact .inr ⟨j, x, hi, hmx, h2⟩
      · exact .inr ⟨j, fs, e1, hm, h2⟩
  have bp : Bh B σ s.sl p := .inr ⟨i, x, hi, hmx, hp⟩
  have kp : Kp (Bh B σ s.sl) H (upd H p o) := Kp.set bp hv hmb hnm
  have nB' : ∀ b, B b → b ≠ p := fun b hb z => nB (z ▸ hb)
  have away : ∀ (j : Nat) (z : SV) (q : Addr), j ≠ i → s.sl[j]? = some (some z) → z.mine = true → σ[j]? = some (some (.ref q)) → q ≠ p := fun j z q nj e1 m q1 w => nj (r.inj j i z x q e1 m hi hmx q1 (by rw [w]; exact hp))
  refine ⟨?_, ⟨fun v d q => q.mono kp sb, fun b o hb _ e => by rw [upd_ne (nB' b hb)]; exact e, fun b hb => ?_⟩⟩
  · exact {
      len := by show (s.sl.set i _).length = _; rw [List.length_set]; exact r.len
      val := fun j d' e => by
        rcases cases' j _ e with ⟨_, hx⟩ | ⟨_, e1⟩
        · rw [← hx] at hmy; cases hmy
        · obtain ⟨w, q1, q2⟩ := r.val j d' e1
          exact ⟨w, q1, q2.mono kp sb⟩
      own := fun j fs e => by
        rcases cases' j _ e with ⟨rfl, hx⟩ | ⟨nj, e1⟩
        · rw [← hx] at h
          obtain ⟨ws, rfl, hr⟩ := h
          exact ⟨p, ws, hp, upd_same, hr.mono kp sb, nB, h0⟩
        · obtain ⟨q, us, q1, q2, q3, q4, q5⟩ := r.own j fs e1
          exact ⟨q, us, q1, by rw [upd_ne (away j _ q nj e1 rfl q1)]; exact q2, q3.mono kp sb, q4, q5⟩
      dic := fun j fs e => by
        rcases cases' j _ e with ⟨rfl, hx⟩ | ⟨nj, e1⟩
        · rw [← hx] at h
          exact ⟨p, o, hp, upd_same, Dc.mono kp sb h, nB, h0⟩
        · obtain ⟨q, us, q1, q2, q3, q4, q5⟩ := r.dic j fs e1
          exact ⟨q, us, q1, by rw [upd_ne (away j _ q nj e1 rfl q1)]; exact q2, q3.mono kp sb, q4, q5⟩
      inj := fun j k z w q e1 m1 e2 m2 e3 e4 => by
        have f : ∀ (j : Nat) (z : SV), (put s i y).sl[j]? = some (some z) → z.mine = true → ∃ z', s.sl[j]? = some (some z') ∧ z'.mine = true := fun j z e m => by
          rcases cases' j _ e with ⟨rfl, _⟩ | ⟨_, e1⟩
          · exact ⟨x, hi, hmx⟩
          · exact ⟨z, e1, m⟩
        obtain ⟨z', h1, n1⟩ := f j z e1 m1
        obtain ⟨w', h2, n2⟩ := f k w e2 m2
        exact r.inj j k z' w' q h1 n1 h2 n2 e3 e4
      urn := fun j e => by
        rcases cases' j _ e with ⟨_, hx⟩ | ⟨_, e1⟩
        · rw [← hx] at hmy; cases hmy
        · exact r.urn j e1
      ur := fun q e => by
        obtain ⟨ns, h1, h2⟩ := r.ur q e
        exact ⟨ns, h1, by rw [upd_ne (nB' q (r.gB q e))]; exact h2⟩
      gB := r.gB
      bd := fun a ha => by rw [upd_ne (nB' a ha)]; exact r.bd a ha
      ent := fun b o e g => by
        have nb : b ≠ p := fun z => by rw [z, h0] at e; cases e
        rw [upd_ne nb]; exact r.ent b o e g
      ev := r.ev.trans kp.evo }
  · by_cases e : b = p
    · subst e; rw [upd_same]; intro z; cases z
    · rw [upd_ne e]; exact hb
theorem Rel.chg (r : Rel K B γ H0 σ H s) {i : Nat} {ds es : List Dt} {ws : List V} {p : Addr} (hi : s.sl[i]? = some (some (.own ds))) (hp : σ[i]? = some (some (.ref p))) (h : RpL K H (Bh B σ s.sl) ws es) :
    Aft K B γ H0 σ H s σ (upd H p (.lst ws)) (put s i (.own es)) := r.chgC hi rfl hp ⟨ws, rfl, h⟩
theorem Rel.chgU (r : Rel K B γ H0 σ H s) {p : Addr} {ns : List Int} (hg : γ = some p) : Aft K B γ H0 σ H s σ (upd H p (.lst (ns.map V.int))) { s with ur := some ns } := by
  obtain ⟨ms, _, h2⟩ := r.ur p hg
  refine r.called ⟨fun b o e g => ?_, Evo.set h2 me_lst (fun xs z => nomatch z) fun o u z => nomatch z⟩ fun q e => ?_
  · have nb : b ≠ p := fun z => g.u (by rw [hg, z])
    rw [upd_ne nb]; exact e
  · rw [hg] at e; cases e
    exact ⟨ns, rfl, upd_same⟩
end
end DL
set_option Elab.async false
set_option linter.all false
set_option maxRecDepth 100000
set_option maxHeartbeats 2000000
namespace DL
open PySem PySem.Spec PyProof.Rows L2
abbrev MG := Dt → Stt → Option Stt
abbrev MGs := List Dt → Stt → Option Stt
def tDG (K : KW) (ts : List Nat) (m : MG) : TG := fun v σ H Q => ∃ B γ H0 s d s', Rel K B γ H0 σ H s ∧ Rp K H (Bh B σ s.sl) v d ∧ m d s = some s' ∧ ∀ σ', Aft K B γ H0 σ H s σ' H s' → (∀ i, i ∉ ts → σ'[i]? = σ[i]?) → σ'.length = σ.length → Q σ' H
def tDGs (K : KW) (ts : List Nat) (m : MGs) : TGs := fun v σ H Q => ∃ B γ H0 s d s', Rel K B γ H0 σ H s ∧ RpL K H (Bh B σ s.sl) v d ∧ m d s = some s' ∧ ∀ σ', Aft K B γ H0 σ H s σ' H s' → (∀ i, i ∉ ts → σ'[i]? = σ[i]?) → σ'.length = σ.length → Q σ' H
theorem PG.imp {X : Cx} {e : Expr} {t t' : TG} (h : PG X e t) (k : ∀ v σ H Q, t' v σ H Q → t v σ H Q) : PG X e t' := ⟨fun pins s σ H v u Q I r q => h.run pins s σ H v u Q I r (k v σ H Q q)⟩
theorem PGs.imp {X : Cx} {e : List Expr} {t t' : TGs} (h : PGs X e t) (k : ∀ v σ H Q, t' v σ H Q → t v σ H Q) : PGs X e t' := ⟨fun pins s σ H v u Q I r q => h.run pins s σ H v u Q I r (k v σ H Q q)⟩
section
variable {X : Cx} {e a b c : Expr} {es : List Expr} {pos : Pos}
def gN (i : Nat) : MG := fun d s => some (put s i (.val d))
theorem dg_of {i : Nat} (h : PG X e (gName i)) : PG X e (tDG X.kw [i] (gN i)) := PG.imp h fun v σ H Q q => by
  obtain ⟨B, γ, H0, s, d, s', rl, rp, e, k⟩ := q
  cases e
  exact k _ (rl.setV rp) (fun j hj => List.getElem?_set_ne fun e => hj (by rw [e]; exact List.mem_singleton_self j)) List.length_set
theorem dg {i : Nat} {x : Str} (hN : X.N.Nodup) (hi : X.N[i]? = some x := by rfl) (hx : Loc X.env.scope x := by first | exact Or.inl rfl | exact Or.inr rfl) (hf : X.fn x = true ∨ X.env.scope.names.lookup x = some .local := by first | exact .inl rfl | exact .inr rfl | assumption) : PG X (.Name x pos) (tDG X.kw [i] (gN i)) := dg_of (pg_name hN hi hx hf)
def gsNil : MGs := fun ds s => if ds.isEmpty then some s else none
def gsCons (m : MG) (n : MGs) : MGs := fun ds s => match ds with
  | d :: r => (m d s).bind fun s1 => n r s1
  | [] => none
theorem dgs_nil : PGs X [] (tDGs X.kw [] gsNil) := PGs.imp pgs_nil fun v σ H Q q => by
  obtain ⟨B, γ, H0, s, d, s', rl, rp, e, k⟩ := q
  unfold gsNil at e
  split at e
  · rename_i hd
    cases e
    cases rp with
    | nil => exact ⟨rfl, k σ (Aft.refl rl) (fun _ _ => rfl) rfl⟩
    | cons _ _ => cases hd
  · cases e
theorem dgs_cons {ts us : List Nat} {m : MG} {n : MGs} (h1 : PG X e (tDG X.kw ts m)) (h2 : PGs X es (tDGs X.kw us n)) (h3 : (assignEach (e :: es) X.env).map (·.2) = assign e X.env :: (assignEach es X.env).map (·.2) := by rfl) : PGs X (e :: es) (tDGs X.kw (ts ++ us) (gsCons m n)) :=
  PGs.imp (pgs_cons h1 h2 h3) fun v σ H Q q => by
    obtain ⟨B, γ, H0, s, d, s', rl, rp, e, k⟩ := q
    cases rp with
    | nil => cases e
    | cons r1 r2 =>
      obtain ⟨s1, e1, e2⟩ := ob (show (m _ s).bind _ = some s' from e)
      refine ⟨_, _, rfl, B, γ, H0, s, _, s1, rl, r1, e1, fun σ1 a1 c1 l1 => ⟨B, γ, H0, s1, _, s', a1.rel, a1.mv.rpl r2, e2, fun σ2 a2 c2 l2 => k σ2 (a1.trans a2) (fun i hi => ?_) (l2.trans l1)⟩⟩
      rw [c2 i fun z => hi (List.mem_append_right _ z), c1 i fun z => hi (List.mem_append_left _ z)]
def gT (n : Nat) (m : MGs) : MG := fun d s => match d with
  | .tuple ds => if ds.length = n then m ds s else none
  | _ => none
theorem dg_tup {k : Nat} {ts : List Nat} {m : MGs} {n : Nat} (hc : X.calm = true) (h : PGs X es (tDGs X.kw ts m)) (hn : (assignEach es X.env).length = n := by rfl) (hst : (assignEach es X.env).findIdx? (·.1) = none := by rfl) : PG X (.Tuple es k pos) (tDG X.kw ts (gT n m)) :=
  PG.imp (pg_tup hc h hn hst) fun v σ H Q q => by
    obtain ⟨B, γ, H0, s, d, s', rl, rp, e, k⟩ := q
    cases rp with
    | tup h1 h3 =>
      have e' : (if _ = n then m _ s else none) = some s' := e
      split at e'
      · rename_i hl
        exact ⟨_, _, rfl, h1.sq, by rw [h3.len]; exact hl, B, γ, H0, s, _, s', rl, h3, e', fun σ2 a2 c2 l2 => k σ2 a2 c2 l2⟩
      · cases e'
    | _ => cases e
end
inductive Fl where
  | nx (s : Stt) | rt (r : RV) (u : Ur) | bk (s : Stt) | ct (s : Stt)
abbrev MS := Stt → Option Fl
def FlOk (K : KW) (B : Bad) (γ : Option Addr) (H0 : Hp) (σ : L2.St) (H : Hp) (s : Stt) (D : Ends) : Fl → Prop
  | .nx s' => ∀ σ' H', Aft K B γ H0 σ H s σ' H' s' → D.nx σ' H'
  | .bk s' => ∀ σ' H', Aft K B γ H0 σ H s σ' H' s' → D.bk σ' H'
  | .ct s' => ∀ σ' H', Aft K B γ H0 σ H s σ' H' s' → D.ct σ' H'
  | .rt r u => ∀ v H', Ret K H0 B γ H' v r u → D.rt v H'
def tDS (K : KW) (m : MS) : TS := fun D σ H => ∃ B γ H0 s o, Rel K B γ H0 σ H s ∧ m s = some o ∧ FlOk K B γ H0 σ H s D o
theorem PS.imp {X : Cx} {e : Stmt} {t t' : TS} (h : PS X e t) (k : ∀ D σ H, t' D σ H → t D σ H) : PS X e t' := ⟨fun pins s σ H D I q => h.run pins s σ H D I (k D σ H q)⟩
theorem PSs.imp {X : Cx} {e : List Stmt} {t t' : TS} (h : PSs X e t) (k : ∀ D σ H, t' D σ H → t D σ H) : PSs X e t' := ⟨fun pins s σ H D I q => h.run pins s σ H D I (k D σ H q)⟩
section
variable {K : KW} {B : Bad} {γ : Option Addr} {H0 H H1 : Hp} {σ σ1 : L2.St} {s s1 : Stt} {D D' : Ends} {o : Fl}
theorem FlOk.back (a : Aft K B γ H0 σ H s σ1 H1 s1) (h : FlOk K B γ H0 σ H s D o) : FlOk K B γ H0 σ1 H1 s1 D o := by
  cases o with
  | nx s' => exact fun σ' H' a' => h σ' H' (a.trans a')
  | bk s' => exact fun σ' H' a' => h σ' H' (a.trans a')
  | ct s' => exact fun σ' H' a' => h σ' H' (a.trans a')
  | rt r u => exact h
theorem Rel.ret (r : Rel K B γ H0 σ H s) {v : V} {d : Dt} (h : Rp K H (Bh B σ s.sl) v d) : Ret K H0 B γ H v (.val d) s.ur := ⟨⟨r.ent, r.ev⟩, r.ur, h.sub fun _ z => .inl z⟩
end
section
variable {X : Cx} {e a b c : Expr} {es : List Expr} {pos : Pos} {st : Stmt} {rest : List Stmt}
def sNil : MS := fun s => some (.nx s)
def sSeq (m n : MS) : MS := fun s => (m s).bind fun o => match o with
  | .nx s1 => n s1
  | o => some o
theorem dss_nil : PSs X [] (tDS X.kw sNil) := PSs.imp pss_nil fun D σ H q => by
  obtain ⟨B, γ, H0, s, o, rl, e, k⟩ := q
  cases e
  exact k σ H (Aft.refl rl)
theorem dss_cons {m n : MS} (h1 : PS X st (tDS X.kw m)) (h2 : PSs X rest (tDS X.kw n)) : PSs X (st :: rest) (tDS X.kw (sSeq m n)) := PSs.imp (pss_cons h1 h2) fun D σ H q => by
  obtain ⟨B, γ, H0, s, o, rl, e, k⟩ := q
  obtain ⟨o1, e1, e2⟩ := ob e
  refine ⟨B, γ, H0, s, o1, rl, e1, ?_⟩
  cases o1 with
  | nx s1 => exact fun σ1 H1 a1 => ⟨B, γ, H0, s1, o, a1.rel, e2, k.back a1⟩
  | bk s1 => cases e2; exact k
  | ct s1 => cases e2; exact k
  | rt r u => cases e2; exact k
theorem dss_one {m : MS} (h1 : PS X st (tDS X.kw m)) : PSs X [st] (tDS X.kw m) := pss_one h1
def sDrop (m : MD) : MS := fun s => (m s).map fun p => .nx p.2
def sRet (m : MD) : MS := fun s => (m s).map fun p => .rt (.val p.1) p.2.ur
theorem ds_ret {m : MD} (he : PE X e (tD X.kw m)) : PS X (.Return (some e) pos) (tDS X.kw (sRet m)) := PS.imp (ps_ret he) fun D σ H q => by
  obtain ⟨B, γ, H0, s, o, rl, e, k⟩ := q
  obtain ⟨⟨x, s1⟩, e1, e2⟩ := om e
  subst e2
  exact ⟨B, γ, H0, s, x, s1, rl, e1, fun v H1 a1 r1 => k v H1 (a1.rel.ret r1)⟩
def sRetL (m : MA) : MS := fun s => (m s).map fun p => .rt (.new p.1) p.2.ur
theorem ds_retL {m : MA} (he : PE X e (tDL X.kw m)) : PS X (.Return (some e) pos) (tDS X.kw (sRetL m)) := PS.imp (ps_ret he) fun D σ H q => by
  obtain ⟨B, γ, H0, s, o, rl, e, k⟩ := q
  obtain ⟨⟨x, s1⟩, e1, e2⟩ := om e
  subst e2
  refine ⟨B, γ, H0, s, x, s1, rl, e1, fun p vs H1 r1 mv hp h1 h2 => k _ _ ⟨⟨r1.ent, r1.ev⟩, r1.ur, p, vs, rfl, rl.h0 hp, h1, h2.sub fun a z => ?_⟩⟩
  rcases z with z | z
  · exact .inl (.inl z)
  · exact .inl (.inr z)
def sRetV (i : Nat) : MS := fun s => match s.sl[i]? with
  | some (some (.val d)) => some (.rt (.val d) s.ur)
  | some (some (.own ds)) => some (.rt (.new ds) s.ur)
  | some (some (.dic ds)) => some (.rt (.newd ds) s.ur)
  | _ => none
theorem ds_retV {i : Nat} (he : PE X e (tVar i)) : PS X (.Return (some e) pos) (tDS X.kw (sRetV i)) := PS.imp (ps_ret he) fun D σ H q => by
  obtain ⟨B, γ, H0, s, o, rl, e, k⟩ := q
  unfold sRetV at e
  split at e
  · rename_i d he
    cases e
    obtain ⟨v, h1, h2⟩ := rl.val i d he
    exact ⟨v, h1, k _ _ (rl.ret h2)⟩
  · rename_i ds he
    cases e
    obtain ⟨p, vs, h1, h2, h3, h4, h5⟩ := rl.own i ds he
    refine ⟨_, h1, k _ _ ⟨⟨rl.ent, rl.ev⟩, rl.ur, p, vs, rfl, h5, h2, h3.sub fun a z => ?_⟩⟩
    rcases z with z | z
    · exact .inl z
    · exact .inr ⟨i, _, he, rfl, by rw [z]; exact h1⟩
  · rename_i ds he
    cases e
    obtain ⟨p, vs, h1, h2, h3, h4, h5⟩ := rl.dic i ds he
    refine ⟨_, h1, k _ _ ⟨⟨rl.ent, rl.ev⟩, rl.ur, p, vs, rfl, h5, h2, h3.sub fun a z => ?_⟩⟩
    rcases z with z | z
    · exact .inl z
    · exact .inr ⟨i, _, he, rfl, by rw [z]; exact h1⟩
  · cases e
def sIf (mt : MT) (m n : MS) : MS := mIf mt m n
theorem ds_if {x y : List Stmt} {mt : MT} {m n : MS} (hc : PT X c (tDT X.kw mt)) (ha : PSs X x (tDS X.kw m)) (hb : PSs X y (tDS X.kw n)) : PS X (.If c x y pos) (tDS X.kw (sIf mt m n)) := PS.imp (ps_if hc ha hb) fun D σ H q => by
  obtain ⟨B, γ, H0, s, o, rl, e, k⟩ := q
  obtain ⟨⟨z, s1⟩, e1, e2⟩ := ob e
  refine ⟨B, γ, H0, s, z, s1, rl, e1, fun H1 a1 => ?_⟩
  cases z with
  | true => exact iteT ⟨B, γ, H0, s1, o, a1.rel, e2, k.back a1⟩
  | false => exact iteF ⟨B, γ, H0, s1, o, a1.rel, e2, k.back a1⟩
def sAsg (m : MD) (g : MG) : MS := fun s => (m s).bind fun p => (g p.1 p.2).map .nx
theorem asg_go {m : MD} {g : MG} {ts : List Nat} {D : Ends} {σ : L2.St} {H : Hp} (q : tDS X.kw (sAsg m g) D σ H) : tAsg (tD X.kw m) (tDG X.kw ts g) D σ H := by
  obtain ⟨B, γ, H0, s, o, rl, e, k⟩ := q
  obtain ⟨⟨x, s1⟩, e1, e2⟩ := ob e
  obtain ⟨s2, e3, e4⟩ := om e2
  subst e4
  exact ⟨B, γ, H0, s, x, s1, rl, e1, fun v H1 a1 r1 => ⟨B, γ, H0, s1, x, s2, a1.rel, r1, e3, fun σ' a2 _ _ => k σ' H1 (a1.trans a2)⟩⟩
theorem ds_asg {m : MD} {g : MG} {ts : List Nat} (he : PE X e (tD X.kw m)) (hg : PG X a (tDG X.kw ts g)) (hs : swapsWithSole [a] e pos.line X.env = pure false := by rfl) (hw : swappedStores [a] e X.env = pure none := by rfl)
    (h1 : (assignEach [a] X.env).map (·.2) = [assign a X.env] := by rfl) : PS X (.Assign [a] e pos) (tDS X.kw (sAsg m g)) := PS.imp (ps_asg he hg hs hw h1) fun D σ H q => asg_go q
theorem ds_set {i : Nat} {x : Str} {m : MD} {pos' : Pos} (hN : X.N.Nodup) (he : PE X e (tD X.kw m)) (hi : X.N[i]? = some x := by rfl) (hx : Loc X.env.scope x := by first | exact Or.inl rfl | exact Or.inr rfl) (hs : swapsWith e (some (.Name x pos')) pos.line X.env = pure false := by rfl) (hf : X.fn x = true ∨ X.env.scope.names.lookup x = some .local := by first | exact .inl rfl | exact .inr rfl | assumption) :
    PS X (.Assign [.Name x pos'] e pos) (tDS X.kw (sAsg m (gN i))) := PS.imp (ps_set hN hi hx he hs hf) fun D σ H q => by
  obtain ⟨B, γ, H0, s, o, rl, e, k⟩ := q
  obtain ⟨⟨x, s1⟩, e1, e2⟩ := ob e
  obtain ⟨s2, e3, e4⟩ := om e2
  subst e4
  cases e3
  exact ⟨B, γ, H0, s, x, s1, rl, e1, fun v H1 a1 r1 => k _ H1 (a1.trans (a1.rel.setV r1))⟩
def sSetL (i : Nat) (m : MA) : MS := fun s => (m s).map fun p => .nx (put p.2 i (.own p.1))
theorem setL_go {i : Nat} {m : MA} {D : Ends} {σ : L2.St} {H : Hp} (q : tDS X.kw (sSetL i m) D σ H) : tAsg (tDL X.kw m) (gName i) D σ H := by
  obtain ⟨B, γ, H0, s, o, rl, e, k⟩ := q
  obtain ⟨⟨x, s1⟩, e1, e2⟩ := om e
  subst e2
  refine ⟨B, γ, H0, s, x, s1, rl, e1, fun p vs H1 r1 mv hp h1 h2 => ?_⟩
  obtain ⟨r2, sb⟩ := r1.setO (i := i) (fun z => rl.bd p z hp) rl.gB (rl.h0 hp) h1 h2
  exact k _ H1 ⟨r2, ⟨fun v d r => (mv.frm v d r).sub sb, mv.pv, mv.dom⟩⟩
theorem ds_setL {i : Nat} {x : Str} {m : MA} {pos' : Pos} (hN : X.N.Nodup) (he : PE X e (tDL X.kw m)) (hi : X.N[i]? = some x := by rfl) (hx : Loc X.env.scope x := by first | exact Or.inl rfl | exact Or.inr rfl) (hs : swapsWith e (some (.Name x pos')) pos.line X.env = pure false := by rfl) (hf : X.fn x = true ∨ X.env.scope.names.lookup x = some .local := by first | exact .inl rfl | exact .inr rfl | assumption) :
    PS X (.Assign [.Name x pos'] e pos) (tDS X.kw (sSetL i m)) := PS.imp (ps_set hN hi hx he hs hf) fun D σ H q => setL_go q
def sSetD (i : Nat) (m : MDc) : MS := fun s => (m s).map fun p => .nx (put p.2 i (.dic p.1))
theorem setD_go {i : Nat} {m : MDc} {D : Ends} {σ : L2.St} {H : Hp} (q : tDS X.kw (sSetD i m) D σ H) : tAsg (tDD X.kw m) (gName i) D σ H := by
  obtain ⟨B, γ, H0, s, o, rl, e, k⟩ := q
  obtain ⟨⟨x, s1⟩, e1, e2⟩ := om e
  subst e2
  refine ⟨B, γ, H0, s, x, s1, rl, e1, fun p vs H1 r1 mv hp h1 h2 => ?_⟩
  obtain ⟨r2, sb⟩ := r1.setC (i := i) (x := .dic x) (fun z => rl.bd p z hp) rl.gB (rl.h0 hp) h1 h2
  exact k _ H1 ⟨r2, ⟨fun v d r => (mv.frm v d r).sub sb, mv.pv, mv.dom⟩⟩
end
end DL
set_option Elab.async false
set_option linter.all false
set_option maxRecDepth 100000
set_option maxHeartbeats 2000000
namespace DL
open PySem PySem.Spec PyProof.Rows L2
structure ItOk (K : KW) (J : It) (H : Hp) (C : Bad) (ds : List Dt) : Prop where
  ex : ∃ G : Hp → Bad → Prop, G H C ∧ (∀ H C H' C', (∀ v d, Rp K H C v d → Rp K H' C' v d) → G H C → G H' C') ∧ (∀ i H C, G H C → i < ds.length → J.go i H) ∧ (∀ i H C, G H C → ds.length ≤ i → J.stop i H) ∧
    ∀ i H C x H' d, G H C → ds[i]? = some d → J.yld i H x H' → Same H H' ∧ Rp K H' C x d
def tDI (K : KW) (m : MA) : TI := fun σ H R => ∃ B γ H0 s ds s', Rel K B γ H0 σ H s ∧ m s = some (ds, s') ∧ ∀ J H', Aft K B γ H0 σ H s σ H' s' → ItOk K J H' (Bh B σ s'.sl) ds → R J H'
theorem PI.imp {X : Cx} {tg e : Expr} {t t' : TI} (h : PI X tg e t) (k : ∀ σ H R, t' σ H R → t σ H R) : PI X tg e t' := ⟨fun pins s σ H R I q => h.run pins s σ H R I (k σ H R q)⟩
theorem PI.or {X : Cx} {tg e : Expr} {t t' : TI} (h : PI X tg e t) (h' : PI X tg e t') : PI X tg e (fun σ H R => t σ H R ∨ t' σ H R) := ⟨fun pins s σ H R I q => q.elim (h.run pins s σ H R I) (h'.run pins s σ H R I)⟩
section
variable {K : KW} {H : Hp} {C : Bad}
theorem it_list {a : Addr} {ds : List Dt} (h : Rp K H C (.ref a) (.list ds)) : ItOk K (Itl K a) H C ds := by
  have op : ∀ {H C}, Rp K H C (.ref a) (.list ds) → ∃ vs, SqL K H a vs ∧ RpL K H C vs ds := fun h => by
    cases h with
    | lst h1 _ h3 => exact ⟨_, .inl h1, h3⟩
  refine ⟨fun H C => Rp K H C (.ref a) (.list ds), h, fun H C H' C' f g => f _ _ g, fun i H C g hi => ?_, fun i H C g hi => ?_, fun i H C x H' d g e y => ?_⟩
  · obtain ⟨vs, h1, h2⟩ := op g
    obtain ⟨v, e1, _⟩ := h2.get (List.getElem?_eq_getElem hi)
    exact ⟨vs, v, h1, e1⟩
  · obtain ⟨vs, h1, h2⟩ := op g
    exact ⟨vs, h1, by rw [h2.len]; exact hi⟩
  · obtain ⟨vs, h1, h2⟩ := op g
    obtain ⟨rfl, y⟩ := y
    obtain ⟨v, e1, e2⟩ := h2.get e
    have := y vs h1
    rw [e1] at this; cases this
    exact ⟨Same.refl _, e2⟩
theorem it_tup {a : Addr} {ds : List Dt} (h : Rp K H C (.ref a) (.tuple ds)) : ItOk K (Itt K a) H C ds := by
  have op : ∀ {H C}, Rp K H C (.ref a) (.tuple ds) → ∃ vs, SqT K H a vs ∧ RpL K H C vs ds := fun h => by
    cases h with
    | tup h1 h3 => exact ⟨_, h1.sq, h3⟩
  refine ⟨fun H C => Rp K H C (.ref a) (.tuple ds), h, fun H C H' C' f g => f _ _ g, fun i H C g hi => ?_, fun i H C g hi => ?_, fun i H C x H' d g e y => ?_⟩
  · obtain ⟨vs, h1, h2⟩ := op g
    obtain ⟨v, e1, _⟩ := h2.get (List.getElem?_eq_getElem hi)
    exact ⟨vs, v, h1, e1⟩
  · obtain ⟨vs, h1, h2⟩ := op g
    exact ⟨vs, h1, by rw [h2.len]; exact hi⟩
  · obtain ⟨vs, h1, h2⟩ := op g
    obtain ⟨rfl, y⟩ := y
    obtain ⟨v, e1, e2⟩ := h2.get e
    have := y vs h1
    rw [e1] at this; cases this
    exact ⟨Same.refl _, e2⟩
def rngD (lo : Int) (n : Nat) : List Dt := (List.range n).map fun i : Nat => .int (lo + (i : Int))
theorem rngD_len (lo : Int) (n : Nat) : (rngD lo n).length = n := by unfold rngD; simp
theorem it_rng {lo : Int} {n : Nat} : ItOk K (Itr lo n) H C (rngD lo n) := by
  refine ⟨fun _ _ => True, trivial, fun _ _ _ _ _ _ => trivial, fun i H C _ hi => ?_, fun i H C _ hi => ?_, fun i H C x H' d _ e y => ?_⟩
  · rw [rngD_len] at hi; exact hi
  · rw [rngD_len] at hi; exact hi
  · obtain ⟨rfl, rfl⟩ := y
    unfold rngD at e
    rw [List.getElem?_map] at e
    obtain ⟨j, e1, e2⟩ := om e
    have : j = i := by
      rw [List.getElem?_range] at e1
      · exact (Option.some.inj e1).symm
      · have := (List.getElem?_eq_some_iff.mp e1).1
        rw [List.length_range] at this; exact this
    subst this
    subst e2
    exact ⟨Same.refl _, .int _⟩
def strD (x : Str) : List Dt := x.cps.toList.map fun c => .str ⟨#[c]⟩
theorem it_str {x : Str} : ItOk K (Its x) H C (strD x) := by
  have hl : (strD x).length = x.cps.size := by unfold strD; simp
  refine ⟨fun _ _ => True, trivial, fun _ _ _ _ _ _ => trivial, fun i H C _ hi => ?_, fun i H C _ hi => ?_, fun i H C v H' d _ e y => ?_⟩
  · rw [hl] at hi; exact hi
  · rw [hl] at hi; exact hi
  · obtain ⟨rfl, c, hc, rfl⟩ := y
    unfold strD at e
    rw [List.getElem?_map] at e
    obtain ⟨j, e1, e2⟩ := om e
    rw [Array.getElem?_toList, hc] at e1
    cases e1
    subst e2
    exact ⟨Same.refl _, .str _⟩
end
section
variable {X : Cx} {tg e a b c : Expr} {es : List Expr} {pos p : Pos}
def seqD : Dt → Option (List Dt)
  | .list xs => some xs
  | .tuple xs => some xs
  | .str x => some (strD x)
  | _ => none
def iSeq (m : MD) : MA := fun s => (m s).bind fun q => (seqD q.1).map fun ds => (ds, q.2)
theorem di_seq {m : MD} (h : PE X e (tD X.kw m)) : PI X tg e (tDI X.kw (iSeq m)) := PI.imp (DL.PI.or (pi_list (tg := tg) h) (DL.PI.or (pi_tup h) (pi_str h))) fun σ H R q => by
  obtain ⟨B, γ, H0, s, ds, s', rl, e, k⟩ := q
  obtain ⟨⟨x, s1⟩, e1, e2⟩ := ob e
  obtain ⟨xs, e3, e4⟩ := om e2
  obtain ⟨rfl, rfl⟩ := Prod.mk.inj e4
  cases x with
  | list ys =>
    cases e3
    refine .inl ⟨B, γ, H0, s, _, s1, rl, e1, fun v H1 a1 r1 => ?_⟩
    have r1' := r1
    cases r1 with
    | lst h1 _ h3 => exact ⟨_, rfl, ⟨_, .inl h1⟩, k _ H1 a1 (it_list r1')⟩
  | tuple ys =>
    cases e3
    refine .inr (.inl ⟨B, γ, H0, s, _, s1, rl, e1, fun v H1 a1 r1 => ?_⟩)
    have r1' := r1
    cases r1 with
    | tup h1 h3 => exact ⟨_, rfl, ⟨_, h1.sq⟩, k _ H1 a1 (it_tup r1')⟩
  | str y =>
    cases e3
    refine .inr (.inr ⟨B, γ, H0, s, _, s1, rl, e1, fun v H1 a1 r1 => ?_⟩)
    cases r1 with
    | str _ => exact ⟨_, rfl, k _ H1 a1 it_str⟩
  | none => cases e3
  | bool _ => cases e3
  | int _ => cases e3
  | dict _ => cases e3
def iRng (m : MA) : MA := fun s => (m s).bind fun q => match q.1 with
  | [.int j] => if -(2 ^ 62) ≤ j ∧ j < 2 ^ 62 then some (rngD 0 j.toNat, q.2) else none
  | _ => none
def iRng2 (m : MA) : MA := fun s => (m s).bind fun q => match q.1 with
  | [.int i, .int j] => if -(2 ^ 62) ≤ i ∧ i < 2 ^ 62 ∧ -(2 ^ 62) ≤ j ∧ j < 2 ^ 62 then some (rngD i (j - i).toNat, q.2) else none
  | _ => none
theorem di_range1 {m : MA} (hm : X.mg "range" = none) (ha : PA X [a] (tDA X.kw m)) (hg : Gl X "range" := by rfl) (hs : starEach [a] X.env = [(false, eval a X.env)] := by rfl) : PI X tg (.Call (.Name "range" p) [a] [] pos) (tDI X.kw (iRng m)) := PI.imp (pi_range1 hg hm ha hs) fun σ H R q => by
  obtain ⟨B, γ, H0, s, ds, s', rl, e, k⟩ := q
  obtain ⟨⟨x, s1⟩, e1, e2⟩ := ob e
  refine ⟨B, γ, H0, s, x, s1, rl, e1, fun vs H1 a1 r1 => ?_⟩
  dsimp only at e2
  split at e2
  · rename_i j
    split at e2
    · rename_i hj
      obtain ⟨rfl, rfl⟩ := Prod.mk.inj (Option.some.inj e2)
      cases r1 with
      | cons q1 q2 =>
        cases q1
        cases q2
        exact ⟨j, rfl, hj.1, hj.2, k _ H1 a1 it_rng⟩
    · cases e2
  · cases e2
theorem di_range2 {m : MA} (hm : X.mg "range" = none) (ha : PA X [a, b] (tDA X.kw m)) (hg : Gl X "range" := by rfl) (hs : starEach [a, b] X.env = [(false, eval a X.env), (false, eval b X.env)] := by rfl) (hs2 : starEach [b] X.env = [(false, eval b X.env)] := by rfl) : PI X tg (.Call (.Name "range" p) [a, b] [] pos) (tDI X.kw (iRng2 m)) := PI.imp (pi_range2 hg hm ha hs hs2) fun σ H R q => by
  obtain ⟨B, γ, H0, s, ds, s', rl, e, k⟩ := q
  obtain ⟨⟨x, s1⟩, e1, e2⟩ := ob e
  refine ⟨B, γ, H0, s, x, s1, rl, e1, fun vs H1 a1 r1 => ?_⟩
  dsimp only at e2
  split at e2
  · rename_i i j
    split at e2
    · rename_i hj
      obtain ⟨rfl, rfl⟩ := Prod.mk.inj (Option.some.inj e2)
      cases r1 with
      | cons q1 q2 =>
        cases q1
        cases q2 with
        | cons q3 q4 =>
          cases q3
          cases q4
          exact ⟨i, j, rfl, hj, k _ H1 a1 it_rng⟩
    · cases e2
  · cases e2
end
def forGo (g : MG) (mb : MS) : List Dt → MS
  | [], s => some (.nx s)
  | d :: ds, s => (g d s).bind fun s1 => (mb s1).bind fun o => match o with
    | .nx s2 => forGo g mb ds s2
    | .ct s2 => forGo g mb ds s2
    | .bk s2 => some (.nx s2)
    | .rt r u => some (.rt r u)
def sFor (mi : MA) (g : MG) (mb : MS) : MS := fun s => (mi s).bind fun q => forGo g mb q.1 q.2
section
variable {X : Cx} {tg iter e a b c : Expr} {es : List Expr} {pos p : Pos} {body : List Stmt}
theorem for_go {mi : MA} {g : MG} {ts : List Nat} {mb : MS} {D : Ends} {σ : L2.St} {H : Hp} (q : tDS X.kw (sFor mi g mb) D σ H) : tFor (tDI X.kw mi) (tDG X.kw ts g) (tDS X.kw mb) D σ H := by
  obtain ⟨B, γ, H0, s, o, rl, e, k⟩ := q
  obtain ⟨⟨ds, s1⟩, e1, e2⟩ := ob e
  refine ⟨B, γ, H0, s, ds, s1, rl, e1, fun J H1 a1 it => ?_⟩
  obtain ⟨G, g0, gst, ggo, gstop, gyld⟩ := it.ex
  refine ⟨fun i m σi Hi => ∃ si, m = ds.length - i ∧ i ≤ ds.length ∧ Aft X.kw B γ H0 σ H s σi Hi si ∧ G Hi (Bh B σi si.sl) ∧ forGo g mb (ds.drop i) si = some o, ⟨ds.length, s1, by omega, by omega, a1, g0, e2⟩, ?_⟩
  rintro i m σi Hi ⟨si, rfl, hi, ai, gi, ei⟩
  by_cases hlt : i < ds.length
  · right
    rw [List.drop_eq_getElem_cons hlt] at ei
    obtain ⟨s2, e3, e4⟩ := ob (show (g _ si).bind _ = some o from ei)
    obtain ⟨o2, e5, e6⟩ := ob e4
    refine ⟨ggo i Hi _ gi hlt, fun σ' H' => ∃ s', Aft X.kw B γ H0 σ H s σ' H' s' ∧ G H' (Bh B σ' s'.sl) ∧ forGo g mb (ds.drop (i + 1)) s' = some o, fun σ' H' hN => ?_, fun x H' hy => ?_⟩
    · obtain ⟨s', h1, h2, h3⟩ := hN
      exact ⟨ds.length - (i + 1), by omega, s', rfl, by omega, h1, h2, h3⟩
    · obtain ⟨sm, rp⟩ := gyld i Hi _ x H' _ gi (List.getElem?_eq_getElem hlt) hy
      have ai' := ai.same sm
      refine ⟨B, γ, H0, si, _, s2, ai'.rel, rp, e3, fun σ2 a2 _ _ => ⟨B, γ, H0, s2, o2, a2.rel, e5, ?_⟩⟩
      have a3 := ai'.trans a2
      have g3 : G H' (Bh B σ2 s2.sl) := gst _ _ _ _ (fun v d r => a2.mv.frm v d (r.same sm)) gi
      cases o2 with
      | nx s3 => exact fun σ3 H3 a4 => ⟨s3, a3.trans a4, gst _ _ _ _ a4.mv.frm g3, e6⟩
      | ct s3 => exact fun σ3 H3 a4 => ⟨s3, a3.trans a4, gst _ _ _ _ a4.mv.frm g3, e6⟩
      | bk s3 =>
        cases e6
        exact fun σ3 H3 a4 => k σ3 H3 (a3.trans a4)
      | rt r u =>
        cases e6
        exact k
  · left
    have ei0 : i = ds.length := by omega
    subst ei0
    refine ⟨gstop _ Hi _ gi (Nat.le_refl _), ?_⟩
    rw [List.drop_length] at ei
    cases ei
    exact k σi Hi ai
theorem ds_for {mi : MA} {g : MG} {ts : List Nat} {mb : MS} (hi : PI X tg iter (tDI X.kw mi)) (hg : PG X tg (tDG X.kw ts g)) (hb : PSs X body (tDS X.kw mb)) (hp : PassesOwn (model X.prog X.w) X.A X.env X.xe := by exact PassesOwn.never) (hc : X.calm = true := by rfl)
    (hs : ∀ x, foldedSetIterable iter X.env x = pure x := by intro _; rfl) : PS X (.For tg iter body [] pos) (tDS X.kw (sFor mi g mb)) := PS.imp (ps_for hp hc hi hg hb hs) fun D σ H q => for_go q
end
end DL
set_option Elab.async false
set_option linter.all false
set_option maxRecDepth 100000
set_option maxHeartbeats 2000000
namespace DL
open PySem PySem.Spec PyProof.Rows L2
def hid : Option SV → Option SV
  | some (.own _) => none
  | some (.dic _) => none
  | x => x
def wipeS (sl : List (Option SV)) : List Nat → List (Option SV)
  | [] => sl
  | v :: vs => (wipeS sl vs).set v none
def blkSl (sl : List (Option SV)) (vs : List Nat) : List (Option SV) := wipeS (sl.map hid) vs
theorem wipeS_len (sl : List (Option SV)) : ∀ vs, (wipeS sl vs).length = sl.length
  | [] => rfl
  | v :: vs => by unfold wipeS; rw [List.length_set, wipeS_len sl vs]
theorem wipeS_get {sl : List (Option SV)} {i : Nat} {x : SV} : ∀ {vs : List Nat}, (wipeS sl vs)[i]? = some (some x) → sl[i]? = some (some x) ∧ i ∉ vs
  | [], h => ⟨h, by simp⟩
  | v :: vs, h => by
    unfold wipeS at h
    by_cases hi : v = i
    · subst hi
      by_cases hv : v < (wipeS sl vs).length
      · rw [List.getElem?_set_self hv] at h; cases h
      · rw [List.getElem?_eq_none (by simpa using hv)] at h; cases h
    · rw [List.getElem?_set_ne hi] at h
      obtain ⟨h1, h2⟩ := wipeS_get h
      exact ⟨h1, by simp only [List.mem_cons, not_or]; exact ⟨fun e => hi e.symm, h2⟩⟩
theorem blkSl_get {sl : List (Option SV)} {i : Nat} {x : SV} {vs : List Nat} (h : (blkSl sl vs)[i]? = some (some x)) : sl[i]? = some (some x) ∧ i ∉ vs ∧ x.mine = false := by
  obtain ⟨h1, h2⟩ := wipeS_get h
  rw [List.getElem?_map] at h1
  obtain ⟨y, e1, e2⟩ := om h1
  cases y with
  | none => cases e2
  | some y =>
    cases y with
    | own _ => cases e2
    | dic _ => cases e2
    | val d => cases e2; exact ⟨e1, h2, rfl⟩
    | urn => cases e2; exact ⟨e1, h2, rfl⟩
theorem wipe_get {σ : L2.St} {i : Nat} : ∀ {vs : List Nat}, i ∉ vs → (wipe σ vs)[i]? = σ[i]?
  | [], _ => rfl
  | v :: vs, h => by
    unfold wipe
    have h' : i ≠ v ∧ i ∉ vs := by simpa using h
    rw [List.getElem?_set_ne (Ne.symm h'.1)]
    exact wipe_get h'.2
theorem wipe_in {σ : L2.St} {i : Nat} : ∀ {vs : List Nat}, i ∈ vs → i < σ.length → (wipe σ vs)[i]? = some none
  | v :: vs, h, hl => by
    unfold wipe
    by_cases e : v = i
    · subst e
      rw [List.getElem?_set_self (by rw [wipe_length]; exact hl)]
    · rw [List.getElem?_set_ne e]
      exact wipe_in ((List.mem_cons.mp h).resolve_left fun z => e z.symm) hl
theorem wipe_eq {σ σ2 : L2.St} {vs : List Nat} (hl : σ2.length = σ.length) (h : ∀ i, i ∉ vs → σ2[i]? = σ[i]?) : wipe σ2 vs = wipe σ vs := by
  apply List.ext_getElem?
  intro i
  by_cases hi : i ∈ vs
  · by_cases hn : i < σ.length
    · rw [wipe_in hi hn, wipe_in hi (hl ▸ hn)]
    · rw [List.getElem?_eq_none (by rw [wipe_length]; omega), List.getElem?_eq_none (by rw [wipe_length]; omega)]
  · rw [wipe_get hi, wipe_get hi, h i hi]
def lcGo (g : MG) (mt : MT) (me : MD) (sb : List (Option SV)) : List Dt → Ur → Option (List Dt × Ur)
  | [], u => some ([], u)
  | d :: ds, u => (g d ⟨sb, u⟩).bind fun s1 => (mt s1).bind fun q => if q.1 then (me q.2).bind fun y => (lcGo g mt me sb ds y.2.ur).map fun r => (y.1 :: r.1, r.2) else lcGo g mt me sb ds q.2.ur
def frzL : Stt → List Nat → Stt
  | s, [] => s
  | s, i :: is => frzL (match s.sl[i]? with
    | some (some (.own ds)) => frz s i ds
    | some (some (.dic ds)) => frzD s i (.dict ds)
    | _ => s) is
def mLc (mi : MA) (fz : List Nat) (vs : List Nat) (g : MG) (mt : MT) (me : MD) : MA := fun s => (mi s).bind fun q => (lcGo g mt me (blkSl (frzL q.2 fz).sl vs) q.1 (frzL q.2 fz).ur).bind fun r => if fits r.1 then some (r.1, { frzL q.2 fz with ur := r.2 }) else none
theorem Rel.frzL {K : KW} {B : Bad} {γ : Option Addr} {H0 : Hp} {σ : L2.St} : ∀ (is : List Nat) {H : Hp} {s : Stt}, Rel K B γ H0 σ H s → ∀ {P : Hp → Prop}, (∀ H', Aft K B γ H0 σ H s σ H' (frzL s is) → P H') → Lks P H
  | [], H, s, r, P, k => .done (k H (Aft.refl r))
  | i :: is, H, s, r, P, k => by
    unfold DL.frzL at k
    split at k
    · rename_i ds e
      obtain ⟨_, _, _, a⟩ := r.frz e
      exact Rel.frzL is a.rel fun H' a' => k H' (a.trans a')
    · rename_i ds e
      obtain ⟨p, o, h1, h2, h3, h4⟩ := r.frzDic e
      exact .lock h2 h3 fun ob => Rel.frzL is (h4 ob).2.rel fun H' a' => k H' ((h4 ob).2.trans a')
    · exact Rel.frzL is r k
section
variable {K : KW} {B : Bad} {γ : Option Addr} {H0 H H1 H' : Hp} {σ σ' : L2.St} {s : Stt} {D : Addr}
theorem bh_blk {B' : Bad} {sl : List (Option SV)} {vs : List Nat} {a : Addr} (h : Bh B' σ' (blkSl sl vs) a) : B' a := by
  rcases h with h | ⟨i, ds, h1, hm, _⟩
  · exact h
  · rw [(blkSl_get h1).2.2] at hm; cases hm
theorem Rel.blk (r : Rel K B γ H0 σ H1 s) (hD : H1 D = none) {u : Ur} {vs : List Nat} (frm : ∀ v d, Rp K (upd H1 D (.lst [])) (Bp (Bh B σ s.sl) D) v d → Rp K H (Bp (Bh B σ s.sl) D) v d) (ur : UrOk H γ u) (bd : ∀ a, Bp (Bh B σ s.sl) D a → H a ≠ none)
    (ent : Kx γ H0 H) : Rel K (Bp (Bh B σ s.sl) D) γ H0 (wipe σ vs) H ⟨blkSl s.sl vs, u⟩ where
  len := by show (wipeS _ vs).length = _; rw [wipeS_len, wipe_length, List.length_map]; exact r.len
  val := fun i d e => by
    obtain ⟨e1, e2, _⟩ := blkSl_get e
    obtain ⟨v, h1, h2⟩ := r.val i d e1
    exact ⟨v, (wipe_get e2).trans h1, (frm _ _ ((h2.avoid hD).same (same_new hD))).sub fun a z => bh_blk z⟩
  own := fun i ds e => nomatch (blkSl_get e).2.2
  dic := fun i ds e => nomatch (blkSl_get e).2.2
  inj := fun i j x y p e m => by rw [(blkSl_get e).2.2] at m; cases m
  urn := fun i e => by
    obtain ⟨e1, e2, _⟩ := blkSl_get e
    obtain ⟨p, h1, h2⟩ := r.urn i e1
    exact ⟨p, h1, (wipe_get e2).trans h2⟩
  ur := ur
  gB := fun p e => .inl (.inl (r.gB p e))
  bd := bd
  ent := ent.at_
  ev := ent.evo
end
section
variable {X : Cx} {tg iter elt e a b c : Expr} {es : List Expr} {pos p : Pos}
theorem lc_go {mi : MA} {fz vs ts : List Nat} {g : MG} {mt : MT} {me : MD} {σ : L2.St} {H : Hp} {Q : VK} (hts : ∀ i ∈ ts, i ∈ vs) (q : tDL X.kw (mLc mi fz vs g mt me) σ H Q) : tLc (lkI (tDI X.kw mi)) (tDG X.kw ts g) (tDT X.kw mt) (tD X.kw me) vs σ H Q := by
  obtain ⟨B, γ, H0, s, out, s', rl, e, k⟩ := q
  obtain ⟨⟨ds, s0⟩, e1, e2⟩ := ob e
  obtain ⟨⟨rr, uu⟩, e3, e4⟩ := ob e2
  split at e4
  · rename_i hf
    obtain ⟨rfl, rfl⟩ := Prod.mk.inj (Option.some.inj e4)
    refine ⟨B, γ, H0, s, ds, s0, rl, e1, fun J H1' a0 it => a0.rel.frzL fz fun H1 az => ?_⟩
    obtain ⟨G, g0, gst, ggo, gstop, gyld⟩ := it.ex
    have a1 := a0.trans az
    have g1 : G H1 (Bh B σ (frzL s0 fz).sl) := gst _ _ _ _ az.mv.frm g0
    generalize frzL s0 fz = s1 at *
    intro D hD
    have gD : γ ≠ some D := fun z => a1.rel.bd D (a1.rel.gB D z) hD
    have smD : Same H1 (upd H1 D (.lst [])) := same_new hD
    have tot : rr.length ≤ sizeLine := of_decide_eq_true hf
    have g2 : G (upd H1 D (.lst [])) (Bp (Bh B σ s1.sl) D) := gst _ _ _ _ (fun v d r => (r.avoid hD).same smD) g1
    refine ⟨fun i m Hi => ∃ u acc va rest, m = ds.length - i ∧ i ≤ ds.length ∧ (∀ v d, Rp X.kw (upd H1 D (.lst [])) (Bp (Bh B σ s1.sl) D) v d → Rp X.kw Hi (Bp (Bh B σ s1.sl) D) v d) ∧ UrOk Hi γ u ∧ (∀ b o, Bh B σ s1.sl b → Nx γ b o → H1 b = some o → Hi b = some o) ∧ (∀ b, upd H1 D (.lst []) b ≠ none → Hi b ≠ none) ∧
        (Kx γ H0 Hi) ∧ Hi D = some (.lst va) ∧ RpL X.kw Hi (Bp (Bh B σ s1.sl) D) va acc ∧ lcGo g mt me (blkSl s1.sl vs) (ds.drop i) u = some (rest, uu) ∧ acc ++ rest = rr,
      ⟨ds.length, s1.ur, [], [], rr, by omega, by omega, fun _ _ h => h, a1.rel.ur.same smD, fun b o _ _ h => smD b o h, fun _ h => h, a1.rel.kx.trans (.of_same smD), upd_same, .nil, e3, rfl⟩, ?_⟩
    rintro i m Hi ⟨u, acc, va, rest, rfl, hi, frm, ur, pv, dom, ent, hDi, racc, el, etot⟩
    have bdB : ∀ a, Bp (Bh B σ s1.sl) D a → Hi a ≠ none := fun a ha => dom a (by
      rcases ha with ha | ha
      · exact same_dom smD (a1.rel.bdh a ha)
      · rw [ha, upd_same]; intro z; cases z)
    have gi : G Hi (Bp (Bh B σ s1.sl) D) := gst _ _ _ _ frm g2
    by_cases hlt : i < ds.length
    · right
      rw [List.drop_eq_getElem_cons hlt] at el
      obtain ⟨s2, f1, f2⟩ := ob (show (g _ ⟨_, u⟩).bind _ = some (rest, uu) from el)
      obtain ⟨⟨tb, s3⟩, f3, f4⟩ := ob f2
      refine ⟨ggo i Hi _ gi hlt, fun Hn => ∃ u acc va rest, (∀ v d, Rp X.kw (upd H1 D (.lst [])) (Bp (Bh B σ s1.sl) D) v d → Rp X.kw Hn (Bp (Bh B σ s1.sl) D) v d) ∧ UrOk Hn γ u ∧ (∀ b o, Bh B σ s1.sl b → Nx γ b o → H1 b = some o → Hn b = some o) ∧ (∀ b, upd H1 D (.lst []) b ≠ none → Hn b ≠ none) ∧
        (Kx γ H0 Hn) ∧ Hn D = some (.lst va) ∧ RpL X.kw Hn (Bp (Bh B σ s1.sl) D) va acc ∧ lcGo g mt me (blkSl s1.sl vs) (ds.drop (i + 1)) u = some (rest, uu) ∧ acc ++ rest = rr, fun Hn hN => ?_, fun x H' hy => ?_⟩
      · obtain ⟨u, acc, va, rest, h1, h2, h3, h4, h5, h6, h7, h8, h9⟩ := hN
        exact ⟨ds.length - (i + 1), by omega, u, acc, va, rest, rfl, by omega, h1, h2, h3, h4, h5, h6, h7, h8, h9⟩
      · obtain ⟨sm, rp⟩ := gyld i Hi _ x H' _ gi (List.getElem?_eq_getElem hlt) hy
        have r0 : Rel X.kw (Bp (Bh B σ s1.sl) D) γ H0 (wipe σ vs) H' ⟨blkSl s1.sl vs, u⟩ := (a1.rel.blk hD frm ur bdB ent).same sm
        refine ⟨Bp (Bh B σ s1.sl) D, γ, H0, _, _, s2, r0, rp.sub (fun a z => bh_blk z), f1, fun σ2 a2 c2 l2 => ⟨?_, ?_⟩⟩
        · have := wipe_eq (vs := vs) l2 fun j hj => c2 j fun z => hj (hts j z)
          rw [this]
          exact wipe_eq (wipe_length _ _) fun j hj => wipe_get hj
        · refine ⟨_, γ, H0, s2, tb, s3, a2.rel, f3, fun H3 a3 => ?_⟩
          have a4 := a2.trans a3
          cases tb with
          | true =>
            refine iteT ?_
            obtain ⟨⟨y, s4⟩, f5, f6⟩ := ob f4
            obtain ⟨⟨r2, u2⟩, f7, f8⟩ := om f6
            obtain ⟨rfl, rfl⟩ := Prod.mk.inj f8
            refine ⟨_, γ, H0, s3, y, s4, a3.rel, f5, fun vy H4 a5 ry => ?_⟩
            have a6 := a4.trans a5
            have hD4 : H4 D = some (.lst va) := a6.mv.pv D _ (.inr rfl) (nxl gD) (sm _ _ hDi)
            have lacc : acc.length < sizeLine := by
              have : (acc ++ y :: r2).length ≤ sizeLine := by rw [etot]; exact tot
              rw [List.length_append, List.length_cons] at this
              omega
            have fr4 : ∀ v d, Rp X.kw Hi (Bp (Bh B σ s1.sl) D) v d → Rp X.kw H4 (Bp (Bh B σ s1.sl) D) v d := fun v d r => (a6.mv.frm v d ((r.same sm).sub fun a z => bh_blk z)).sub fun a z => .inl z
            have kp : Kp (Bp (Bh B σ s1.sl) D) H4 (upd H4 D (.lst (va ++ [vy]))) := Kp.set (.inr rfl) hD4 (.inl ⟨_, rfl⟩) me_lst
            have fr5 : ∀ v d, Rp X.kw H4 (Bp (Bh B σ s1.sl) D) v d → Rp X.kw (upd H4 D (.lst (va ++ [vy]))) (Bp (Bh B σ s1.sl) D) v d := fun v d r => r.mono kp fun _ z => z
            refine ⟨va, hD4, by rw [racc.len]; exact lacc, s4.ur, acc ++ [y], va ++ [vy], r2, fun v d r => fr5 _ _ (fr4 _ _ (frm _ _ r)), fun q e => ?_, fun b o hb hg hh => ?_, fun b hb => ?_, ⟨fun b o hb hg => ?_, a6.rel.ev.trans kp.evo⟩, upd_same, ?_, f7, by rw [← etot]; simp⟩
            · obtain ⟨ns, h1, h2⟩ := a6.rel.ur q e
              refine ⟨ns, h1, ?_⟩
              rw [upd_ne (fun z => gD (by rw [← z]; exact e))]; exact h2
            · have nb : b ≠ D := fun z => by rw [z, hD] at hh; cases hh
              rw [upd_ne nb]
              exact a6.mv.pv b o (.inl hb) hg (sm _ _ (pv b o hb hg hh))
            · by_cases z : b = D
              · subst z; rw [upd_same]; intro z; cases z
              · rw [upd_ne z]; exact a6.mv.dom b (same_dom sm (dom b hb))
            · have nb : b ≠ D := fun z => by
                have := a1.rel.h0 hD
                rw [z, this] at hb; cases hb
              rw [upd_ne nb]
              exact a6.rel.ent b o hb hg
            · exact (RpL.append (RpL.by_frm fr5 (RpL.by_frm fr4 racc)) (.cons (fr5 _ _ (ry.sub fun a z => .inl z)) .nil))
          | false =>
            refine iteF ?_
            have fr4 : ∀ v d, Rp X.kw Hi (Bp (Bh B σ s1.sl) D) v d → Rp X.kw H3 (Bp (Bh B σ s1.sl) D) v d := fun v d r => (a4.mv.frm v d ((r.same sm).sub fun a z => bh_blk z)).sub fun a z => .inl z
            exact ⟨s3.ur, acc, va, rest, fun v d r => fr4 _ _ (frm _ _ r), a4.rel.ur, fun b o hb hg hh => a4.mv.pv b o (.inl hb) hg (sm _ _ (pv b o hb hg hh)), fun b hb => a4.mv.dom b (same_dom sm (dom b hb)), a4.rel.kx, a4.mv.pv D _ (.inr rfl) (nxl gD) (sm _ _ hDi), RpL.by_frm fr4 racc, f4, etot⟩
    · left
      have ei0 : i = ds.length := by omega
      subst ei0
      refine ⟨gstop _ Hi _ gi (Nat.le_refl _), ?_⟩
      rw [List.drop_length] at el
      obtain ⟨h1, h2⟩ := Prod.mk.inj (Option.some.inj el)
      subst h1
      subst h2
      rw [List.append_nil] at etot
      subst etot
      have f9 : ∀ v d, Rp X.kw H1 (Bh B σ s1.sl) v d → Rp X.kw Hi (Bh (Bp B D) σ s1.sl) v d := fun v d r => (frm v d ((r.avoid hD).same smD)).sub fun _ => bh_bp
      refine k D va Hi (a1.rel.to f9 (fun b hb => ?_) ur (fun p e => .inl (a1.rel.gB p e)) (fun a ha => ?_) ent) ⟨fun v d r => f9 v d (a1.mv.frm v d r), fun b o hb hg hh => pv b o (.inl hb) hg (a1.mv.pv b o hb hg hh), fun b hb => dom b (same_dom smD (a1.mv.dom b hb))⟩ (a1.mv.back hD) hDi (racc.sub fun _ => bh_bp)
      · obtain ⟨j, es, h5, hm, h6⟩ := hb
        obtain ⟨p', ws, q1, q2, _, q4, q5⟩ := a1.rel.mine h5 hm
        rw [h6] at q1; cases q1
        exact ⟨fun o ho => pv b o (.inr ⟨j, es, h5, hm, h6⟩) ⟨fun g => q4 (a1.rel.gB b g), a1.rel.ownN ⟨j, es, h5, hm, h6⟩ ho⟩ ho, fun z => z.elim q4 fun z => ne_of_none q2 hD z⟩
      · rcases ha with ha | ha
        · exact bdB a (.inl (.inl ha))
        · exact bdB a (.inr ha)
  · cases e4
end
end DL
set_option Elab.async false
set_option linter.all false
set_option maxRecDepth 100000
set_option maxHeartbeats 2000000
namespace DL
open PySem PySem.Spec PyProof.Rows L2
theorem PTs.imp {X : Cx} {e : List Expr} {t t' : TT} (h : PTs X e t) (k : ∀ σ H Q, t' σ H Q → t σ H Q) : PTs X e t' := ⟨fun pins s σ H Q I q => h.run pins s σ H Q I (k σ H Q q)⟩
section
variable {X : Cx} {tg iter elt e a b c : Expr} {es ifs : List Expr} {pos p : Pos}
def mYes : MT := fun s => some (true, s)
theorem dts_nil : PTs X [] (tDT X.kw mYes) := PTs.imp pts_nil fun σ H Q q => by
  obtain ⟨B, γ, H0, s, d, s', rl, e, k⟩ := q
  obtain ⟨rfl, rfl⟩ := Prod.mk.inj (Option.some.inj e)
  exact k H (Aft.refl rl)
theorem dts_one {m : MT} (h : PT X c (tDT X.kw m)) : PTs X [c] (tDT X.kw m) := pts_one h
theorem dl_lc {scope : Scope} {own : List (Str × Nat)} {mi : MA} {ts : List Nat} {g : MG} {mt : MT} {me : MD} (fz : List Nat) (hN : X.N.Nodup) (hi : PI X tg iter (tDI X.kw mi)) (ok : BlkOk X.N X.env.scope scope own)
    (hg : ∀ (s : Shared) (H : Hp) (C : Addr) (cl : List (Str × Addr)) (fp : List Addr), PG (X.blk s H scope (compEnvC scope cl C X.env) fp) tg (tDG X.kw ts g)) (ht : ∀ (s : Shared) (H : Hp) (C : Addr) (cl : List (Str × Addr)) (fp : List Addr), PTs (X.blk s H scope (compEnvC scope cl C X.env) fp) ifs (tDT X.kw mt))
    (he : ∀ (s : Shared) (H : Hp) (C : Addr) (cl : List (Str × Addr)) (fp : List Addr), PE (X.blk s H scope (compEnvC scope cl C X.env) fp) elt (tD X.kw me)) (hts : ∀ i ∈ ts, i ∈ own.map (·.2) := by decide) (hc : X.calm = true := by rfl) (hs : ∀ x, foldedSetIterable iter X.env x = pure x := by intro _; rfl) :
    PE X (.ListComp elt [⟨tg, iter, ifs, 0⟩] scope pos) (tDL X.kw (mLc mi fz (own.map (·.2)) g mt me)) := PE.imp (pe_lc hc hN (PI.lk hi) ok hg ht he hs) fun σ H Q q => lc_go hts q
theorem ds_setLc {i : Nat} {y : Str} {py spos : Pos} {scope : Scope} {own : List (Str × Nat)} {mi : MA} {ts : List Nat} {g : MG} {mt : MT} {me : MD} (fz : List Nat) (hN : X.N.Nodup)
    (hsw : swapsWith (.ListComp elt [⟨tg, iter, ifs, 0⟩] scope pos) (some (.Name y py)) spos.line X.env = pure true) (hi : PI X tg iter (tDI X.kw mi)) (ok : BlkOk X.N X.env.scope scope own)
    (hg : ∀ (s : Shared) (H : Hp) (C : Addr) (cl : List (Str × Addr)) (fp : List Addr), PG (X.blk s H scope (compEnvC scope cl C X.env) fp) tg (tDG X.kw ts g)) (ht : ∀ (s : Shared) (H : Hp) (C : Addr) (cl : List (Str × Addr)) (fp : List Addr), PTs (X.blk s H scope (compEnvC scope cl C X.env) fp) ifs (tDT X.kw mt))
    (he : ∀ (s : Shared) (H : Hp) (C : Addr) (cl : List (Str × Addr)) (fp : List Addr), PE (X.blk s H scope (compEnvC scope cl C X.env) fp) elt (tD X.kw me)) (hts : ∀ i ∈ ts, i ∈ own.map (·.2) := by decide) (hc : X.calm = true := by rfl) (hy : X.N[i]? = some y := by rfl) (hyl : X.env.scope.names.lookup y = some .local := by rfl) (hs : ∀ x, foldedSetIterable iter X.env x = pure x := by intro _; rfl) :
    PS X (.Assign [.Name y py] (.ListComp elt [⟨tg, iter, ifs, 0⟩] scope pos) spos) (tDS X.kw (sSetL i (mLc mi fz (own.map (·.2)) g mt me))) := PS.imp (ps_setLc hc hN hy hyl hsw (PI.lk hi) ok hg ht he hs) fun D σ H q => by
  obtain ⟨B, γ, H0, s, o, rl, e, k⟩ := q
  have q' : tDL X.kw (mLc mi fz (own.map (·.2)) g mt me) σ H fun x H1 => gName i x σ H1 D.nx := setL_go ⟨B, γ, H0, s, o, rl, e, k⟩
  exact lc_go hts q'
def isOwn (s : Stt) (i : Nat) : Option (List Dt) := match s.sl[i]? with
  | some (some (.own ds)) => some ds
  | _ => none
theorem isOwn_eq {s : Stt} {i : Nat} {ds : List Dt} (h : isOwn s i = some ds) : s.sl[i]? = some (some (.own ds)) := by
  unfold isOwn at h
  split at h
  · cases h; assumption
  · cases h
def sApp (i : Nat) (m : MD) : MS := fun s => (isOwn s i).bind fun _ => (m s).bind fun q => (isOwn q.2 i).bind fun ds => if ds.length < sizeLine then some (.nx (put q.2 i (.own (ds ++ [q.1])))) else none
theorem ds_app {i : Nat} {m : MD} {p1 p2 : Pos} {o : Expr} (ho : PE X o (tVar i)) (he : PE X e (tD X.kw m))
    (hbase : attributeBase o "append" X.env (eval o X.env) = eval o X.env := by rfl)
    (hfew : ((backTo p2 (starEach [e] X.env)).all (fun x => !x.1) && (backToKw p2 (keywordEach [] X.env)).all (fun x => x.1.isSome)
      && decide ([e].length + ([] : List Keyword).length + (if ([] : List Keyword).isEmpty then 0 else 1) < 30)) = true := by rfl)
    (hline : (p1.endLine == p2.line) = true := by rfl) (hs : starEach [e] X.env = (false, eval e X.env) :: starEach [] X.env := by rfl)
    (hsw : swapsWith (.Call (.Attribute o "append" p1) [e] [] p2) none pos.line X.env = pure false := by rfl) :
    PS X (.Expr (.Call (.Attribute o "append" p1) [e] [] p2) pos) (tDS X.kw (sApp i m)) :=
  PS.imp (ps_expr (pe_bm PySem.F.plainAttrs_list PySem.F.slot_list_append PySem.F.type_list_append mt_append ho (pa_cons he pa_nil hs) hbase hfew hline hs rfl) hsw) fun D σ H q => by
    obtain ⟨B, γ, H0, s, o, rl, e, k⟩ := q
    obtain ⟨ds0, e0, e⟩ := ob e
    obtain ⟨⟨x, s1⟩, e1, e2⟩ := ob e
    obtain ⟨ds, e3, e4⟩ := ob e2
    split at e4
    · rename_i hl
      cases e4
      obtain ⟨p0, vs0, h1, h2, h3, _⟩ := rl.own i ds0 (isOwn_eq e0)
      refine ⟨_, h1, .inl ⟨rfl, vs0, .inl (.inl h2)⟩, B, γ, H0, s, x, s1, rl, e1, fun v H1 a1 r1 => ?_⟩
      obtain ⟨p1, vs, g1, g2, g3, _⟩ := a1.rel.own i ds (isOwn_eq e3)
      rw [h1] at g1; cases g1
      refine ⟨_, vs, v, rfl, rfl, g2, by rw [g3.len]; exact hl, ?_⟩
      exact k σ _ (a1.trans (a1.rel.chg (isOwn_eq e3) h1 (g3.append (.cons r1 .nil))))
    · cases e4
def mPop (i : Nat) (m : MD) : MD := fun s => (isOwn s i).bind fun _ => (m s).bind fun q => (isOwn q.2 i).bind fun ds => match q.1 with
  | .int k => if -(2 ^ 63) ≤ k ∧ k < 2 ^ 63 then (seqIndex? k ds.length).bind fun j => ds[j]?.map fun d => (d, put q.2 i (.own (ds.eraseIdx j))) else none
  | _ => none
theorem de_pop {i : Nat} {m : MD} {p1 p2 : Pos} {o : Expr} (ho : PE X o (tVar i)) (he : PE X e (tD X.kw m))
    (hbase : attributeBase o "pop" X.env (eval o X.env) = eval o X.env := by rfl)
    (hfew : ((backTo p2 (starEach [e] X.env)).all (fun x => !x.1) && (backToKw p2 (keywordEach [] X.env)).all (fun x => x.1.isSome)
      && decide ([e].length + ([] : List Keyword).length + (if ([] : List Keyword).isEmpty then 0 else 1) < 30)) = true := by rfl)
    (hline : (p1.endLine == p2.line) = true := by rfl) (hs : starEach [e] X.env = (false, eval e X.env) :: starEach [] X.env := by rfl) :
    PE X (.Call (.Attribute o "pop" p1) [e] [] p2) (tD X.kw (mPop i m)) :=
  PE.imp (pe_bm PySem.F.plainAttrs_list PySem.F.slot_list_pop PySem.F.type_list_pop mt_popAt ho (pa_cons he pa_nil hs) hbase hfew hline hs rfl) fun σ H Q q => by
    obtain ⟨B, γ, H0, s, d, s', rl, e, k⟩ := q
    obtain ⟨ds0, e0, e⟩ := ob e
    obtain ⟨⟨x, s1⟩, e1, e2⟩ := ob e
    obtain ⟨ds, e3, e4⟩ := ob e2
    dsimp only at e4
    split at e4
    · rename_i kk
      split at e4
      · rename_i hk
        obtain ⟨j, e5, e6⟩ := ob e4
        obtain ⟨d2, e7, e8⟩ := om e6
        obtain ⟨rfl, rfl⟩ := Prod.mk.inj e8
        obtain ⟨p0, vs0, h1, h2, h3, _⟩ := rl.own i ds0 (isOwn_eq e0)
        refine ⟨_, h1, .inl ⟨rfl, vs0, .inl (.inl h2)⟩, B, γ, H0, s, _, s1, rl, e1, fun v H1 a1 r1 => ?_⟩
        obtain ⟨p1, vs, g1, g2, g3, _⟩ := a1.rel.own i ds (isOwn_eq e3)
        rw [h1] at g1; cases g1
        obtain ⟨w, w1, w2⟩ := g3.get e7
        cases r1
        have ac := a1.rel.chg (isOwn_eq e3) h1 (g3.erase j)
        refine ⟨_, vs, kk, j, w, rfl, rfl, g2, hk.1, hk.2, by rw [g3.len]; exact e5, w1, ?_⟩
        exact k _ _ (a1.trans ac) (ac.mv.frm _ _ w2)
      · cases e4
    · cases e4
def sSetIx (i : Nat) (m mk : MD) : MS := fun s => (m s).bind fun q => match q.2.sl[i]? with
  | some (some (.own _)) => (mk q.2).bind fun t => (isOwn t.2 i).bind fun ds => (match t.1 with
    | .int k => (ixN ds.length k).map fun j => .nx (put t.2 i (.own (ds.set j q.1)))
    | _ => none)
  | some (some .urn) => (mk q.2).bind fun t => (match t.1, q.1, t.2.ur with
    | .int k, .int z, some ns => (ixN ns.length k).map fun j => .nx { t.2 with ur := some (ns.set j z) }
    | _, _, _ => none)
  | _ => none
theorem ds_setIx' {i : Nat} {m mk : MD} {o ix : Expr} {p1 : Pos} (he : PE X e (tD X.kw m)) (hg : PG X (.Subscript o ix p1) (gSub (tVar i) (tD X.kw mk) rSetL))
    (hs : swapsWithSole [.Subscript o ix p1] e pos.line X.env = pure false := by rfl) (hw : swappedStores [.Subscript o ix p1] e X.env = pure none := by rfl) (h1 : (assignEach [.Subscript o ix p1] X.env).map (·.2) = [assign (.Subscript o ix p1) X.env] := by rfl) :
    PS X (.Assign [.Subscript o ix p1] e pos) (tDS X.kw (sSetIx i m mk)) := PS.imp (ps_asg he hg hs hw h1) fun D σ H q => by
  obtain ⟨B, γ, H0, s, o, rl, e, k⟩ := q
  obtain ⟨⟨x, s1⟩, e1, e2⟩ := ob e
  refine ⟨B, γ, H0, s, x, s1, rl, e1, fun v1 H1 a1 r1 => ?_⟩
  dsimp only at e2
  split at e2
  · rename_i ds0 hs1
    obtain ⟨⟨y, s2⟩, e3, e4⟩ := ob e2
    obtain ⟨ds, e5, e6⟩ := ob e4
    dsimp only at e6
    split at e6
    · rename_i kk
      obtain ⟨j, e7, e8⟩ := om e6
      subst e8
      obtain ⟨p0, vs0, g1, g2, g3, _⟩ := a1.rel.own i ds0 hs1
      refine ⟨_, g1, B, γ, H0, s1, _, s2, a1.rel, e3, fun v2 H2 a2 r2 => ?_⟩
      obtain ⟨p2, vs, f1, f2, f3, _⟩ := a2.rel.own i ds (isOwn_eq e5)
      rw [g1] at f1; cases f1
      cases r2
      have ac := a2.rel.chg (isOwn_eq e5) g1 (f3.set (a2.mv.frm _ _ r1) j)
      exact ⟨_, vs, kk, j, rfl, rfl, f2, by rw [f3.len]; exact e7, k σ _ ((a1.trans a2).trans ac)⟩
    · cases e6
  · rename_i hs1
    obtain ⟨⟨y, s2⟩, e3, e4⟩ := ob e2
    dsimp only at e4
    obtain ⟨kk, z, ns, rfl, rfl, hur, j, e7, rfl⟩ : ∃ (kk z : Int) (ns : List Int), y = .int kk ∧ x = .int z ∧ s2.ur = some ns ∧ ∃ j, ixN ns.length kk = some j ∧ o = .nx { s2 with ur := some (ns.set j z) } := by
      cases y with
      | int kk =>
        cases x with
        | int z =>
          cases hu : s2.ur with
          | none => rw [hu] at e4; cases e4
          | some ns =>
            rw [hu] at e4
            obtain ⟨j, e7, e8⟩ := om e4
            exact ⟨kk, z, ns, rfl, rfl, rfl, j, e7, e8.symm⟩
        | _ => cases e4
      | _ => cases e4
    · skip
      obtain ⟨p0, g1, g2⟩ := a1.rel.urn i hs1
      cases r1
      refine ⟨_, g2, B, γ, H0, s1, _, s2, a1.rel, e3, fun v2 H2 a2 r2 => ?_⟩
      obtain ⟨ns', f1, f2⟩ := a2.rel.ur p0 g1
      rw [hur] at f1; cases f1
      cases r2
      have ac := a2.rel.chgU (ns := ns.set j z) g1
      refine ⟨_, ns.map V.int, kk, j, rfl, rfl, f2, by rw [List.length_map]; exact e7, ?_⟩
      rw [show (ns.map V.int).set j (.int z) = (ns.set j z).map V.int from (List.map_set).symm]
      exact k σ _ ((a1.trans a2).trans ac)
  · cases e2
end
end DL
set_option Elab.async false
set_option linter.all false
set_option maxRecDepth 100000
set_option maxHeartbeats 2000000
namespace DL
open PySem PySem.Spec PyProof.Rows L2
def Bs (B : Bad) (ps : List Addr) : Bad := fun a => B a ∨ a ∈ ps
inductive PvOk (K : KW) (H : Hp) (C : Bad) (H0 : Hp) : List V → List SV → List Addr → Prop
  | nil : PvOk K H C H0 [] [] []
  | val {v : V} {d : Dt} {vs : List V} {ss : List SV} {ps : List Addr} : Rp K H C v d → PvOk K H C H0 vs ss ps → PvOk K H C H0 (v :: vs) (.val d :: ss) ps
  | own {p : Addr} {o : HO} {x : SV} {vs : List V} {ss : List SV} {ps : List Addr} : H p = some o → Cn K H C p o x → H0 p = none → p ∉ ps → PvOk K H C H0 vs ss ps → PvOk K H C H0 (.ref p :: vs) (x :: ss) (p :: ps)
abbrev MP := Stt → Option (List SV × Stt)
def tPL (K : KW) (m : MP) : TA := fun σ H Q => ∃ B γ H0 s ss s', Rel K B γ H0 σ H s ∧ m s = some (ss, s') ∧ ∀ vs H' ps, Rel K (Bs B ps) γ H0 σ H' s' → Mv K B γ H (Bh B σ s.sl) H' (Bh (Bs B ps) σ s'.sl) → (∀ p ∈ ps, ¬ B p) → PvOk K H' (Bh (Bs B ps) σ s'.sl) H0 vs ss ps → Q vs H'
section
variable {K : KW} {B C C' : Bad} {γ : Option Addr} {H0 H H' : Hp} {σ : L2.St} {s : Stt}
theorem PvOk.sub {vs : List V} {ss : List SV} {ps : List Addr} (h : PvOk K H C H0 vs ss ps) (hc : ∀ a, C' a → C a) : PvOk K H C' H0 vs ss ps := by
  induction h with
  | nil => exact .nil
  | val r _ ih => exact .val (r.sub hc) ih
  | own h1 h2 h3 h4 _ ih => exact .own h1 (h2.sub hc) h3 h4 ih
def sets : L2.St → List Nat → List V → L2.St
  | σ, i :: is, v :: vs => sets (σ.set i (some v)) is vs
  | σ, _, _ => σ
def puts : Stt → List Nat → List SV → Stt
  | s, i :: is, x :: xs => puts (put s i x) is xs
  | s, _, _ => s
theorem store_all {vs : List V} {ss : List SV} {ps : List Addr} : ∀ (is : List Nat) (σ : L2.St) (s : Stt), Rel K (Bs B ps) γ H0 σ H s → PvOk K H C H0 vs ss ps → (∀ a, Bh (Bs B ps) σ s.sl a → C a) → (∀ p ∈ ps, ¬ B p) → (∀ p, γ = some p → B p) →
    ss.length = is.length → Rel K B γ H0 (sets σ is vs) H (puts s is ss) ∧ ∀ a, Bh B (sets σ is vs) (puts s is ss).sl a → Bh (Bs B ps) σ s.sl a := fun is σ s r h => by
  induction h generalizing is σ s B with
  | nil =>
    intro _ _ _ hl
    cases is with
    | nil => exact ⟨r.unB (fun a z => .inl z) ‹_›, fun a z => z.imp .inl id⟩
    | cons _ _ => cases hl
  | @val v d vs ss ps rp h2 ih =>
    intro hC hp hg hl
    cases is with
    | nil => cases hl
    | cons i is =>
      have rp' := rp.sub hC
      have a1 := r.setV (i := i) rp'
      have sb : ∀ a, Bh (Bs B ps) (σ.set i (some v)) (put s i (.val d)).sl a → Bh (Bs B ps) σ s.sl a := fun a => setV_sub r.len
      obtain ⟨r2, s2⟩ := ih is _ _ a1.rel (fun a z => hC a (sb a z)) hp hg (by simpa using hl)
      exact ⟨r2, fun a z => sb a (s2 a z)⟩
  | @own p o x vs ss ps h1 h2 h3 h4 h5 ih =>
    intro hC hp hg hl
    cases is with
    | nil => cases hl
    | cons i is =>
      have r' : Rel K (Bp (Bs B ps) p) γ H0 σ H s := r.unB (fun a z => by
        rcases z with (z | z) | z
        · exact .inl z
        · exact .inr (List.mem_cons_of_mem _ z)
        · exact .inr (by rw [z]; exact List.mem_cons_self)) fun q e => .inl (.inl (hg q e))
      have sb0 : ∀ a, Bh (Bp (Bs B ps) p) σ s.sl a → Bh (Bs B (p :: ps)) σ s.sl a := fun a z => by
        rcases z with ((z | z) | z) | z
        · exact .inl (.inl z)
        · exact .inl (.inr (List.mem_cons_of_mem _ z))
        · exact .inl (.inr (by rw [z]; exact List.mem_cons_self))
        · exact .inr z
      have npB : ¬ Bs B ps p := fun z => z.elim (hp p List.mem_cons_self) h4
      obtain ⟨r1, sb⟩ := r'.setC (i := i) npB (fun q e => .inl (hg q e)) h3 h1 (h2.sub fun a z => hC a (sb0 a z))
      obtain ⟨r2, s2⟩ := ih is _ _ r1 (fun a z => hC a (sb0 a (sb a z))) (fun q hq => hp q (List.mem_cons_of_mem _ hq)) hg (by simpa using hl)
      exact ⟨r2, fun a z => sb0 a (sb a (s2 a z))⟩
end
section
variable {X : Cx} {e a b c : Expr} {es : List Expr} {pos p : Pos}
def pNil : MP := fun s => some ([], s)
def pD (m : MD) (n : MP) : MP := fun s => (m s).bind fun q => (n q.2).map fun t => (.val q.1 :: t.1, t.2)
def pL (m : MA) (n : MP) : MP := fun s => (m s).bind fun q => (n q.2).map fun t => (.own q.1 :: t.1, t.2)
theorem dp_nil : PA X [] (tPL X.kw pNil) := PA.imp pa_nil fun σ H Q q => by
  obtain ⟨B, γ, H0, s, d, s', rl, e, k⟩ := q
  cases e
  have hb : ∀ a, Bs B [] a → B a := fun a z => z.elim id fun z => nomatch z
  exact k [] H [] (rl.unB hb fun p e => .inl (rl.gB p e)) (Mv.of_same (Same.refl H) fun a z => z.imp (hb a) id) (fun p hp => nomatch hp) .nil
theorem dp_d {m : MD} {n : MP} (ha : PE X e (tD X.kw m)) (hr : PA X es (tPL X.kw n)) (hs : starEach (e :: es) X.env = (false, eval e X.env) :: starEach es X.env := by rfl) : PA X (e :: es) (tPL X.kw (pD m n)) :=
  PA.imp (pa_cons ha hr hs) fun σ H Q q => by
    obtain ⟨B, γ, H0, s, d, s', rl, e, k⟩ := q
    obtain ⟨⟨x, s1⟩, e1, e2⟩ := ob e
    obtain ⟨⟨y, s2⟩, e3, e4⟩ := om e2
    obtain ⟨rfl, rfl⟩ := Prod.mk.inj e4
    exact ⟨B, γ, H0, s, x, s1, rl, e1, fun v1 H1 a1 r1 => ⟨B, γ, H0, s1, y, s2, a1.rel, e3, fun vs H2 ps r2 mv hp pv => k _ _ ps r2 (a1.mv.trans mv) hp (.val (mv.frm _ _ r1) pv)⟩⟩
theorem dp_l {m : MA} {n : MP} (ha : PE X e (tDL X.kw m)) (hr : PA X es (tPL X.kw n)) (hs : starEach (e :: es) X.env = (false, eval e X.env) :: starEach es X.env := by rfl) : PA X (e :: es) (tPL X.kw (pL m n)) :=
  PA.imp (pa_cons ha hr hs) fun σ H Q q => by
    obtain ⟨B, γ, H0, s, d, s', rl, e, k⟩ := q
    obtain ⟨⟨x, s1⟩, e1, e2⟩ := ob e
    obtain ⟨⟨y, s2⟩, e3, e4⟩ := om e2
    obtain ⟨rfl, rfl⟩ := Prod.mk.inj e4
    refine ⟨B, γ, H0, s, x, s1, rl, e1, fun p ws H1 r1 mv1 hp h1 h2 => ⟨Bp B p, γ, H0, s1, y, s2, r1, e3, fun vs H2 ps r2 mv2 hps pv => ?_⟩⟩
    have gp : γ ≠ some p := fun z => rl.bd p (rl.gB p z) hp
    have f1 : ∀ a, Bs B (p :: ps) a → Bs (Bp B p) ps a := fun a z => by
      rcases z with z | z
      · exact .inl (.inl z)
      · rcases List.mem_cons.mp z with z | z
        · exact .inl (.inr z)
        · exact .inr z
    have f2 : ∀ a, Bh (Bs B (p :: ps)) σ s2.sl a → Bh (Bs (Bp B p) ps) σ s2.sl a := fun a z => z.imp (f1 a) id
    refine k _ _ (p :: ps) (r2.unB f1 fun q e => .inl (rl.gB q e)) ⟨fun v d r => ((mv2.frm _ _ (mv1.frm v d r))).sub f2, fun b o hb hg eb => mv2.pv b o (.inl hb) hg (mv1.pv b o hb hg eb), fun b hb => mv2.dom b (mv1.dom b hb)⟩ (fun q hq => ?_)
      (.own (mv2.pv p _ (.inr rfl) (nxl gp) h1) ⟨ws, rfl, (mv2.rpl h2).sub f2⟩ (rl.h0 hp) (fun z => hps p z (.inr rfl)) (pv.sub f2))
    rcases List.mem_cons.mp hq with rfl | hq
    · exact fun z => rl.bd q z hp
    · exact fun z => hps q hq (.inl z)
def pK (m : MDc) (n : MP) : MP := fun s => (m s).bind fun q => (n q.2).map fun t => (.dic q.1 :: t.1, t.2)
theorem dp_k {m : MDc} {n : MP} (ha : PE X e (tDD X.kw m)) (hr : PA X es (tPL X.kw n)) (hs : starEach (e :: es) X.env = (false, eval e X.env) :: starEach es X.env := by rfl) : PA X (e :: es) (tPL X.kw (pK m n)) :=
  PA.imp (pa_cons ha hr hs) fun σ H Q q => by
    obtain ⟨B, γ, H0, s, d, s', rl, e, k⟩ := q
    obtain ⟨⟨x, s1⟩, e1, e2⟩ := ob e
    obtain ⟨⟨y, s2⟩, e3, e4⟩ := om e2
    obtain ⟨rfl, rfl⟩ := Prod.mk.inj e4
    refine ⟨B, γ, H0, s, x, s1, rl, e1, fun p ws H1 r1 mv1 hp h1 h2 => ⟨Bp B p, γ, H0, s1, y, s2, r1, e3, fun vs H2 ps r2 mv2 hps pv => ?_⟩⟩
    have gp : γ ≠ some p := fun z => rl.bd p (rl.gB p z) hp
    have f1 : ∀ a, Bs B (p :: ps) a → Bs (Bp B p) ps a := fun a z => by
      rcases z with z | z
      · exact .inl (.inl z)
      · rcases List.mem_cons.mp z with z | z
        · exact .inl (.inr z)
        · exact .inr z
    have f2 : ∀ a, Bh (Bs B (p :: ps)) σ s2.sl a → Bh (Bs (Bp B p) ps) σ s2.sl a := fun a z => z.imp (f1 a) id
    refine k _ _ (p :: ps) (r2.unB f1 fun q e => .inl (rl.gB q e)) ⟨fun v d r => ((mv2.frm _ _ (mv1.frm v d r))).sub f2, fun b o hb hg eb => mv2.pv b o (.inl hb) hg (mv1.pv b o hb hg eb), fun b hb => mv2.dom b (mv1.dom b hb)⟩ (fun q hq => ?_)
      (.own (mv2.pv p _ (.inr rfl) ⟨gp, h2.nme⟩ h1) (Dc.sub (Dc.by_frm mv2.frm h2) f2) (rl.h0 hp) (fun z => hps p z (.inr rfl)) (pv.sub f2))
    rcases List.mem_cons.mp hq with rfl | hq
    · exact fun z => rl.bd q z hp
    · exact fun z => hps q hq (.inl z)
def sPar (is : List Nat) (m : MP) : MS := fun s => (m s).bind fun q => if q.1.length = is.length then some (.nx (puts q.2 is q.1)) else none
theorem PvOk.len {K : KW} {H H0 : Hp} {C : Bad} {vs : List V} {ss : List SV} {ps : List Addr} (h : PvOk K H C H0 vs ss ps) : vs.length = ss.length := by
  induction h with
  | nil => rfl
  | val _ _ ih => rw [List.length_cons, List.length_cons, ih]
  | own _ _ _ _ _ ih => rw [List.length_cons, List.length_cons, ih]
theorem par_go {is : List Nat} {m : MP} {D : Ends} {σ : L2.St} {H : Hp} (q : tDS X.kw (sPar is m) D σ H) : tPL X.kw m σ H fun vs H1 => vs.length = is.length ∧ D.nx (sets σ is vs) H1 := by
  obtain ⟨B, γ, H0, s, o, rl, e, k⟩ := q
  obtain ⟨⟨ss, s1⟩, e1, e2⟩ := ob e
  split at e2
  · rename_i hl
    cases e2
    refine ⟨B, γ, H0, s, ss, s1, rl, e1, fun vs H1 ps r1 mv hp pv => ⟨by rw [pv.len]; exact hl, ?_⟩⟩
    obtain ⟨r2, sb⟩ := store_all is σ s1 r1 pv (fun a z => z) hp rl.gB hl
    exact k _ _ ⟨r2, ⟨fun v d r => (mv.frm v d r).sub sb, mv.pv, mv.dom⟩⟩
  · cases e2
theorem ds_par {i j : Nat} {x y : Str} {m : MP} {px py pt : Pos} {kt k2 pt2} (hN : X.N.Nodup) (ha : PA X [a, b] (tPL X.kw m)) (hij : i ≠ j := by decide) (hc : X.calm = true := by rfl) (hi : X.N[i]? = some x := by rfl) (hj : X.N[j]? = some y := by rfl)
    (hx : X.env.scope.names.lookup x = some .local := by rfl) (hy : X.env.scope.names.lookup y = some .local := by rfl)
    (hw : swappedStores [.Tuple [.Name x px, .Name y py] kt pt] (.Tuple [a, b] k2 pt2) X.env = pure (some [x, y]) := by rfl)
    (hs : swapsWithSole [.Tuple [.Name x px, .Name y py] kt pt] (.Tuple [a, b] k2 pt2) pos.line X.env = pure false := by rfl) :
    PS X (.Assign [.Tuple [.Name x px, .Name y py] kt pt] (.Tuple [a, b] k2 pt2) pos) (tDS X.kw (sPar [i, j] m)) := PS.imp (ps_par hc hN hi hj hij hx hy ha hw hs) fun D σ H q => by
  have h := par_go q
  obtain ⟨B, γ, H0, s, ss, s1, rl, e1, kk⟩ := h
  refine ⟨B, γ, H0, s, ss, s1, rl, e1, fun vs H1 ps r1 mv hp pv => ?_⟩
  obtain ⟨hl, hd⟩ := kk vs H1 ps r1 mv hp pv
  match vs, hl, hd with
  | [v, w], _, hd => exact ⟨v, w, rfl, hd⟩
theorem ds_par3 {i j l : Nat} {x y z : Str} {m : MP} {px py pz pt : Pos} {kt k2 pt2} (hN : X.N.Nodup) (ha : PA X [a, b, c] (tPL X.kw m)) (hij : i ≠ j := by decide) (hil : i ≠ l := by decide) (hjl : j ≠ l := by decide) (hc : X.calm = true := by rfl) (hi : X.N[i]? = some x := by rfl) (hj : X.N[j]? = some y := by rfl) (hl : X.N[l]? = some z := by rfl)
    (hx : X.env.scope.names.lookup x = some .local := by rfl) (hy : X.env.scope.names.lookup y = some .local := by rfl) (hz : X.env.scope.names.lookup z = some .local := by rfl)
    (hw : swappedStores [.Tuple [.Name x px, .Name y py, .Name z pz] kt pt] (.Tuple [a, b, c] k2 pt2) X.env = pure (some [x, y, z]) := by rfl)
    (hs : swapsWithSole [.Tuple [.Name x px, .Name y py, .Name z pz] kt pt] (.Tuple [a, b, c] k2 pt2) pos.line X.env = pure false := by rfl) :
    PS X (.Assign [.Tuple [.Name x px, .Name y py, .Name z pz] kt pt] (.Tuple [a, b, c] k2 pt2) pos) (tDS X.kw (sPar [i, j, l] m)) := PS.imp (ps_par3 hc hN hi hj hl hij hil hjl hx hy hz ha hw hs) fun D σ H q => by
  have h := par_go q
  obtain ⟨B, γ, H0, s, ss, s1, rl, e1, kk⟩ := h
  refine ⟨B, γ, H0, s, ss, s1, rl, e1, fun vs H1 ps r1 mv hp pv => ?_⟩
  obtain ⟨hl, hd⟩ := kk vs H1 ps r1 mv hp pv
  match vs, hl, hd with
  | [v, w, u], _, hd => exact ⟨v, w, u, rfl, hd⟩
def slotsOf (N : Nat) (as : List AV) : List (Option SV) := as.map (fun a => match a with
  | .val d => some (SV.val d)
  | .urn => some SV.urn) ++ List.replicate (N - as.length) none
def runD (n N : Nat) (m : MS) : FM := fun as u => if as.length = n then (m ⟨slotsOf N as, u⟩).bind fun o => match o with
  | .rt r u' => some (r, u')
  | .nx s => some (.val .none, s.ur)
  | _ => none else none
theorem rpAs_start {K : KW} {H : Hp} {C : Bad} {γ : Option Addr} {N : List Str} {vs : List V} {as : List AV} (h : RpAs K H C γ vs as) (i : Nat) (x : SV) (e : (slotsOf N.length as)[i]? = some (some x)) :
    ∃ v a, (L2.start N vs)[i]? = some (some v) ∧ RpA K H C γ v a ∧ x = (match a with
      | .val d => SV.val d
      | .urn => SV.urn) := by
  unfold slotsOf at e
  unfold L2.start
  have hl := h.len
  by_cases hi : i < as.length
  · rw [List.getElem?_append_left (by simpa using hi), List.getElem?_map] at e
    obtain ⟨a, e1, e2⟩ := om e
    have hg : ∀ {vs : List V} {as : List AV} {i : Nat} {a : AV}, RpAs K H C γ vs as → as[i]? = some a → ∃ v, vs[i]? = some v ∧ RpA K H C γ v a := by
      intro vs as i a h
      induction h generalizing i with
      | nil => intro e; simp at e
      | cons h1 _ ih =>
        intro e
        cases i with
        | zero => simp at e; subst e; exact ⟨_, rfl, h1⟩
        | succ i =>
          obtain ⟨v, q1, q2⟩ := ih (by simpa using e)
          exact ⟨v, by simpa using q1, q2⟩
    obtain ⟨v, q1, q2⟩ := hg h e1
    refine ⟨v, a, ?_, q2, ?_⟩
    · rw [List.getElem?_append_left (by rw [List.length_map]; omega), List.getElem?_map, q1]
      rfl
    · cases a <;> exact (Option.some.inj e2).symm
  · rw [List.getElem?_append_right (by simpa using hi)] at e
    have := List.getElem?_eq_some_iff.mp e
    obtain ⟨_, e'⟩ := this
    rw [List.getElem_replicate] at e'
    cases e'
theorem rel_start {K : KW} {H : Hp} {C : Bad} {γ : Option Addr} {N : List Str} {vs : List V} {as : List AV} {u : Ur} (h : RpAs K H C γ vs as) (hu : UrOk H γ u) (hg : ∀ p, γ = some p → C p) (hb : ∀ a, C a → H a ≠ none) :
    Rel K C γ H (L2.start N vs) H ⟨slotsOf N.length as, u⟩ := by
  have no : ∀ (i : Nat) (x : SV), (slotsOf N.length as)[i]? = some (some x) → x.mine = false := fun i ds e => by
    obtain ⟨v, a, _, _, e3⟩ := rpAs_start h i _ e
    cases a <;> (cases e3; rfl)
  have sb : ∀ a, Bh C (L2.start N vs) (slotsOf N.length as) a → C a := fun a z => by
    rcases z with z | ⟨i, ds, z1, m, _⟩
    · exact z
    · rw [no i ds z1] at m; cases m
  exact {
    len := by
      show (slotsOf N.length as).length = (L2.start N vs).length
      unfold slotsOf L2.start
      rw [List.length_append, List.length_append, List.length_map, List.length_map, List.length_replicate, List.length_replicate, h.len]
    val := fun i d e => by
      obtain ⟨v, a, e1, e2, e3⟩ := rpAs_start h i _ e
      cases e2 with
      | val r => cases e3; exact ⟨v, e1, r.sub sb⟩
      | urn _ => cases e3
    own := fun i ds e => nomatch no i _ e
    dic := fun i ds e => nomatch no i _ e
    inj := fun i j x y p e m => by rw [no i x e] at m; cases m
    urn := fun i e => by
      obtain ⟨v, a, e1, e2, e3⟩ := rpAs_start h i _ e
      cases e2 with
      | val r => cases e3
      | urn hp => exact ⟨_, hp, e1⟩
    ur := hu
    gB := hg
    bd := hb
    ent := fun b o e _ => e
    ev := Evo.refl H }
section
variable {P : Program} {w : World} {K : PySem.W.Frag} {mg : Str → Option Value} {base : Heap}
theorem fn_ok {x qual : Str} {st : Stmt} {f : Addr} {fd : FuncData} {N ps : List Str} {k : Nat} {m : MS} (F : Fun K x qual st f fd) (S : FnScope N ps (defScope st))
    (hbody : ∀ (cdv : Value) (A : Around) (outer : List Env) (s : Shared) (H : Hp) (E : XK), Room k (A.deeper (envOfC qual (defScope st) s.heap.objs.size f cdv)) →
      PSs (cxOf CX0 P w K mg base N qual (defScope st) f cdv A outer s H E).nox (defBody st) (tDS ⟨K, w, mg⟩ m)) : FnOk P w K mg base CX0 (k + 1) f fd ps (spD ⟨K, w, mg⟩ (runD ps.length N.length m)) := by
  refine F.ok S (fun vs H Q E h => ?_) fun cdv A outer s H vs Q E hr h => ⟨_, hbody cdv A outer s H E hr, ?_⟩
  · obtain ⟨C, γ, as, u, r, u', h1, _, _, _, h5, _⟩ := h
    unfold runD at h5
    split at h5
    · rename_i hl
      rw [h1.len, hl]
    · cases h5
  · obtain ⟨C, γ, as, u, r, u', h1, h2, h3, h4, h5, k⟩ := h
    unfold runD at h5
    split at h5
    · obtain ⟨o, e1, e2⟩ := ob h5
      refine ⟨C, γ, H, _, o, rel_start h1 h2 h3 h4, e1, ?_⟩
      cases o with
      | rt r0 u0 =>
        cases e2
        exact fun v H' rt => k v H' rt
      | nx s' =>
        cases e2
        exact fun σ' H' a => k _ H' (a.rel.ret .non)
      | bk s' => cases e2
      | ct s' => cases e2
    · cases h5
theorem fnD_mk {x qual : Str} {st : Stmt} {f : Addr} {fd : FuncData} {N ps : List Str} {k : Nat} {m : MS} (F : Fun K x qual st f fd) (S : FnScope N ps (defScope st)) (hm : mg x = some (.ref f)) (hb : Binds K fd ps [])
    (hbody : ∀ (cdv : Value) (A : Around) (outer : List Env) (s : Shared) (H : Hp) (E : XK), Room k (A.deeper (envOfC qual (defScope st) s.heap.objs.size f cdv)) →
      PSs (cxOf CX0 P w K mg base N qual (defScope st) f cdv A outer s H E).nox (defBody st) (tDS ⟨K, w, mg⟩ m)) : FnD P w K mg base x (k + 1) (runD ps.length N.length m) := ⟨f, fd, ps, fn_ok F S hbody, hm, F.kp, hb⟩
end
end
end DL
set_option Elab.async false
set_option linter.all false
set_option maxRecDepth 100000
set_option maxHeartbeats 2000000
namespace DL
open PySem PySem.Spec PyProof.Rows L2
section
variable {X : Cx}
def dII (c : Int → Int → Bool) (g : Int → Int → Dt) : Dt → Dt → Option Dt
  | .int i, .int j => if c i j then some (g i j) else none
  | _, _ => none
theorem dII_inv {c : Int → Int → Bool} {g : Int → Int → Dt} {x y d : Dt} (h : dII c g x y = some d) : ∃ i j, x = .int i ∧ y = .int j ∧ c i j = true ∧ d = g i j := by
  cases x with
  | int i =>
    cases y with
    | int j =>
      have h' : (if c i j then some (g i j) else none) = some d := h
      split at h'
      · rename_i hc
        cases h'
        exact ⟨i, j, rfl, rfl, hc, rfl⟩
      · cases h'
    | _ => cases h
  | _ => cases h
theorem od_II {f : Value → Value → Sem Value} {C : Int → Int → Prop} {c : Int → Int → Bool} {g : Int → Int → V} {gd : Int → Int → Dt} (h : OpR X f (rI C g)) (hc : ∀ i j, c i j = true → C i j) (hg : ∀ i j H B, Rp X.kw H B (g i j) (gd i j)) : OpD X f (dII c gd) :=
  ⟨_, h, fun B H x y dx dy d Q rx ry _ e k => by
    obtain ⟨i, j, rfl, rfl, h1, rfl⟩ := dII_inv e
    cases rx
    cases ry
    exact ⟨i, j, rfl, rfl, hc i j h1, k _ H (Same.refl H) (hg i j H B)⟩⟩
theorem od_I0 {f : Value → Value → Sem Value} {g : Int → Int → V} {gd : Int → Int → Dt} (h : OpR X f (rI0 g)) (hg : ∀ i j H B, Rp X.kw H B (g i j) (gd i j)) : OpD X f (dII (fun _ _ => true) gd) :=
  ⟨_, h, fun B H x y dx dy d Q rx ry _ e k => by
    obtain ⟨i, j, rfl, rfl, h1, rfl⟩ := dII_inv e
    cases rx
    cases ry
    exact ⟨i, j, rfl, rfl, k _ H (Same.refl H) (hg i j H B)⟩⟩
def yes2 : Int → Int → Bool := fun _ _ => true
def dSub := dII yes2 fun i j => .int (i - j)
theorem od_sub : OpD X (binaryOp .Sub) dSub := od_I0 op_sub fun i j _ _ => .int (i - j)
def smallI (i : Int) : Bool := decide (-(2 ^ 64) < i) && decide (i < 2 ^ 64)
theorem smallI_ok {i : Int} (h : smallI i = true) : -(2 ^ 64) < i ∧ i < 2 ^ 64 := by
  unfold smallI at h
  rw [Bool.and_eq_true, decide_eq_true_eq, decide_eq_true_eq] at h
  exact h
def mulOk (i j : Int) : Bool := smallI i || smallI j || decide (i.natAbs.log2 + j.natAbs.log2 < 1000000)
def dMulI := dII mulOk fun i j => .int (i * j)
theorem od_mulI : OpD X (binaryOp .Mult) dMulI := by
  have h1 := od_II (X := X) (c := fun i j => smallI i || smallI j) (gd := fun i j => .int (i * j)) op_mul (fun i j h => by
    rcases Bool.or_eq_true_iff.mp h with h | h
    · exact .inl (smallI_ok h)
    · exact .inr (smallI_ok h)) fun i j _ _ => .int (i * j)
  have h2 := od_II (X := X) (c := fun i j => decide (i.natAbs.log2 + j.natAbs.log2 < 1000000)) (gd := fun i j => .int (i * j)) op_mulW (fun i j h => by
    show i.natAbs.log2 + j.natAbs.log2 < 1000000
    exact of_decide_eq_true h) fun i j _ _ => .int (i * j)
  obtain ⟨r, q1, q2⟩ := (h1.or h2).ex
  refine ⟨r, q1, fun B H x y dx dy d Q rx ry bd e k => q2 B H x y dx dy d Q rx ry bd ?_ k⟩
  obtain ⟨i, j, rfl, rfl, h3, rfl⟩ := dII_inv e
  show (if (smallI i || smallI j) = true then some (PyData.int (i * j)) else none).or (if decide (i.natAbs.log2 + j.natAbs.log2 < 1000000) = true then some (PyData.int (i * j)) else none) = _
  unfold mulOk at h3
  by_cases h4 : (smallI i || smallI j) = true
  · rw [if_pos h4]; rfl
  · rw [if_neg h4, if_pos (by
      rcases Bool.or_eq_true_iff.mp h3 with h | h
      · exact absurd h h4
      · exact h)]; rfl
def divOk (_ j : Int) : Bool := decide (0 < j) && decide (j.natAbs.log2 < 9000)
def dFdiv := dII divOk fun i j => .int (i / j)
theorem od_fdiv : OpD X (binaryOp .FloorDiv) dFdiv := od_II op_fdivW (fun i j h => by
  unfold divOk at h
  rw [Bool.and_eq_true, decide_eq_true_eq, decide_eq_true_eq] at h
  exact h) fun i j _ _ => .int (i / j)
def dMod := dII (fun _ j => decide (0 < j)) fun i j => .int (i % j)
theorem od_mod : OpD X (binaryOp .Mod) dMod := od_II op_mod (fun i j h => of_decide_eq_true h) fun i j _ _ => .int (i % j)
def powOk (i j : Int) : Bool := decide (0 ≤ j) && decide (j ≤ 1000000) && decide (i.natAbs < 2 ^ 64)
def dPow := dII powOk fun i j => .int (i ^ j.toNat)
theorem od_pow : OpD X (binaryOp .Pow) dPow := od_II op_pow (fun i j h => by
  unfold powOk at h
  rw [Bool.and_eq_true, Bool.and_eq_true, decide_eq_true_eq, decide_eq_true_eq, decide_eq_true_eq] at h
  exact ⟨h.1.1, h.1.2, h.2⟩) fun i j _ _ => .int (i ^ j.toNat)
def dAddS : Dt → Dt → Option Dt
  | .str x, .str y => if x.length + y.length ≤ sizeLine then some (.str (x ++ y)) else none
  | _, _ => none
def dAddT : Dt → Dt → Option Dt
  | .tuple xs, .tuple ys => if xs.length + ys.length ≤ sizeLine then some (.tuple (xs ++ ys)) else none
  | _, _ => none
theorem od_addT : OpD X (binaryOp .Add) dAddT := ⟨_, op_catA, fun B H x y dx dy d Q rx ry bd e k => by
  cases rx with
  | @tup a xs ds h1 h3 =>
    cases ry with
    | @tup b ys es g1 g3 =>
      have e' : (if ds.length + es.length ≤ sizeLine then some (PyData.tuple (ds ++ es)) else none) = some d := e
      split at e'
      · rename_i hl
        cases e'
        refine ⟨a, b, xs, ys, rfl, rfl, h1.sq, g1.sq, by rw [h3.len, g3.len]; exact hl, fun z => ?_, fun z1 z2 => ?_, fun z1 z2 p hp => ?_⟩
        · subst z
          cases h3
          exact k _ H (Same.refl H) (.tup g1 g3)
        · subst z2
          cases g3
          rw [List.append_nil] at k
          exact k _ H (Same.refl H) (.tup h1 h3)
        · exact k _ _ (same_new hp) (.tup (.inl upd_same) ((h3.append g3).same (same_new hp)))
      · cases e'
    | _ => cases e
  | _ => cases e⟩
theorem od_addS : OpD X (binaryOp .Add) dAddS := ⟨_, op_add_str, fun B H x y dx dy d Q rx ry bd e k => by
  cases rx with
  | str x =>
    cases ry with
    | str y =>
      have e' : (if x.length + y.length ≤ sizeLine then some (PyData.str (x ++ y)) else none) = some d := e
      split at e'
      · rename_i hl
        cases e'
        exact ⟨x, y, rfl, rfl, hl, k _ H (Same.refl H) (.str _)⟩
      · cases e'
    | _ => cases e
  | _ => cases e⟩
def rCatR : R2 := fun x y H Q => ∃ l b xs zs, x = .ref l ∧ y = .ref b ∧ Rd H l (.lst xs) ∧ Rd H b (.lst zs) ∧ xs.length + zs.length ≤ sizeLine ∧ ∀ p, H p = none → Q (.ref p) (upd H p (.lst (xs ++ zs)))
theorem op_catR : OpR X (binaryOp .Add) rCatR := fun pins s σ H x y v u Q I rx ry ⟨l, b, xs, zs, ex, ey, hl, hb, hz, q⟩ => by
  subst ex
  subst ey
  cases rx
  cases ry
  obtain ⟨z1, i1, n1, v1, g1⟩ := hl.ok I.hok
  obtain ⟨z2, i2, n2, v2, g2⟩ := hb.ok I.hok
  have l1 := v1.length
  have l2 := v2.length
  have ap : i1.toArray ++ i2.toArray = (i1 ++ i2).toArray := by simp
  refine PySem.P.add_list g1 g2 ?_ (by rw [List.size_toArray, List.size_toArray]; omega)
  rw [ap]
  exact ⟨.ref _, _, I.lnew (t' := s.toks) (v1.append v2) (by rw [List.length_append]; omega), rfl, q _ I.fresh⟩
def dAddL : Dt → Dt → Option Dt
  | .list xs, .list ys => if xs.length + ys.length ≤ sizeLine then some (.list (xs ++ ys)) else none
  | _, _ => none
theorem od_addL : OpD X (binaryOp .Add) dAddL := ⟨_, op_catR, fun B H x y dx dy d Q rx ry bd e k => by
  cases rx with
  | @lst a xs ds h1 n1 h3 =>
    cases ry with
    | @lst b ys es g1 n2 g3 =>
      have e' : (if ds.length + es.length ≤ sizeLine then some (PyData.list (ds ++ es)) else none) = some d := e
      split at e'
      · rename_i hl
        cases e'
        refine ⟨a, b, xs, ys, rfl, rfl, h1, g1, by rw [h3.len, g3.len]; exact hl, fun p hp => ?_⟩
        exact k _ _ (same_new hp) (.lst (.inl upd_same) (fun z => bd p z hp) ((h3.append g3).same (same_new hp)))
      · cases e'
    | _ => cases e
  | _ => cases e⟩
def dAdd : Dt → Dt → Option Dt
  | .int i, .int j => some (.int (i + j))
  | .str x, .str y => dAddS (.str x) (.str y)
  | .tuple xs, .tuple ys => dAddT (.tuple xs) (.tuple ys)
  | .list xs, .list ys => dAddL (.list xs) (.list ys)
  | _, _ => none
theorem od_add : OpD X (binaryOp .Add) dAdd := by
  obtain ⟨r, q1, q2⟩ := ((od_I0 (X := X) (gd := fun i j => .int (i + j)) op_add fun i j _ _ => .int (i + j)).or (od_addS.or (od_addT.or od_addL))).ex
  refine ⟨r, q1, fun B H x y dx dy d Q rx ry bd e k => q2 B H x y dx dy d Q rx ry bd ?_ k⟩
  have orE : ∀ {o o' : Option Dt}, o = some d → o.or o' = some d := fun h => by rw [h]; rfl
  have orN : ∀ {o o' : Option Dt}, o = none → o' = some d → o.or o' = some d := fun h h' => by rw [h]; exact h'
  cases dx <;> cases dy <;> first
    | exact e
    | exact orN rfl (orE e)
    | exact orN rfl (orN rfl (orE e))
    | exact orN rfl (orN rfl (orN rfl e))
    | cases e
def dLtI := dII yes2 fun i j => .bool (decide (i < j))
def dGtI := dII yes2 fun i j => .bool (decide (j < i))
def dGeI := dII yes2 fun i j => .bool (decide (j ≤ i))
theorem od_ltI : OpD X (compareOp .Lt) dLtI := od_I0 op_lt fun i j _ _ => .bl _
theorem od_gtI : OpD X (compareOp .Gt) dGtI := od_I0 op_gt fun i j _ _ => .bl _
theorem od_geI : OpD X (compareOp .GtE) dGeI := od_I0 op_ge fun i j _ _ => .bl _
def eqOk (x y : Dt) : Bool := SeqAt.shaped x && SeqAt.shaped y
def dEq (x y : Dt) : Option Dt := if eqOk x y then some (.bool (PyData.eqv x y)) else none
def dNe (x y : Dt) : Option Dt := if eqOk x y then some (.bool (!PyData.eqv x y)) else none
theorem od_eq (hu : X.A.units + 64 < cLine) : OpD X (compareOp .Eq) dEq := ⟨_, op_eqD hu, fun B H x y dx dy d Q rx ry bd e k => by
  unfold dEq at e
  split at e
  · rename_i hs
    cases e
    obtain ⟨h1, h2⟩ := Bool.and_eq_true_iff.mp hs
    exact ⟨dx, dy, rx.dp (SeqAt.canLay_of_shaped h1), ry.dp (SeqAt.canLay_of_shaped h2), h1, h2, k _ H (Same.refl H) (.bl _)⟩
  · cases e⟩
theorem od_ne (hu : X.A.units + 64 < cLine) : OpD X (compareOp .NotEq) dNe := ⟨_, op_neD hu, fun B H x y dx dy d Q rx ry bd e k => by
  unfold dNe at e
  split at e
  · rename_i hs
    cases e
    obtain ⟨h1, h2⟩ := Bool.and_eq_true_iff.mp hs
    exact ⟨dx, dy, rx.dp (SeqAt.canLay_of_shaped h1), ry.dp (SeqAt.canLay_of_shaped h2), h1, h2, k _ H (Same.refl H) (.bl _)⟩
  · cases e⟩
def isNone : Dt → Bool
  | .none => true
  | _ => false
def dIs : Dt → Dt → Option Dt
  | x, .none => some (.bool (isNone x))
  | _, _ => none
theorem isNone_rp {K : KW} {H : Hp} {B : Bad} {x : V} {d : Dt} (r : Rp K H B x d) : decide (x = V.non) = isNone d := by
  cases r with
  | non => rfl
  | _ => exact decide_eq_false (fun z => nomatch z)
theorem od_is : OpD X (compareOp .Is) dIs := ⟨_, op_isN, fun B H x y dx dy d Q rx ry bd e k => by
  cases ry with
  | non =>
    cases e
    exact ⟨rfl, by rw [isNone_rp rx]; exact k _ H (Same.refl H) (.bl _)⟩
  | _ => cases e⟩
structure CallD (X : Cx) (f : Value) (g : List Dt → Option Dt) : Prop where
  ex : ∃ r : List V → Hp → VK → Prop, CallR X f r ∧ ∀ (B : Bad) (H : Hp) (vs : List V) (ds : List Dt) (d : Dt) (Q : VK), RpL X.kw H B vs ds → (∀ a, B a → H a ≠ none) → g ds = some d → (∀ v H', Same H H' → Rp X.kw H' B v d → Q v H') → r vs H Q
theorem CallD.or {f : Value} {g g' : List Dt → Option Dt} (h : CallD X f g) (h' : CallD X f g') : CallD X f (fun ds => (g ds).or (g' ds)) := by
  obtain ⟨r, h1, h2⟩ := h.ex
  obtain ⟨r', h1', h2'⟩ := h'.ex
  refine ⟨_, h1.or h1', fun B H vs ds d Q rl bd e k => ?_⟩
  cases q : g ds with
  | some z =>
    rw [q] at e
    exact .inl (h2 B H vs ds d Q rl bd (q.trans e) k)
  | none =>
    rw [q] at e
    exact .inr (h2' B H vs ds d Q rl bd e k)
theorem CallD.to {f : Value} {g g' : List Dt → Option Dt} (h : CallD X f g) (e : ∀ ds d, g' ds = some d → g ds = some d) : CallD X f g' := by
  obtain ⟨r, h1, h2⟩ := h.ex
  exact ⟨r, h1, fun B H vs ds d Q rl bd eq k => h2 B H vs ds d Q rl bd (e ds d eq) k⟩
def mFn (g : List Dt → Option Dt) (m : MA) : MD := fun s => (m s).bind fun q => (g q.1).map fun d => (d, q.2)
theorem fn_go {f : Value} {g : List Dt → Option Dt} {m : MA} {r : List V → Hp → VK → Prop} {σ : L2.St} {H : Hp} {Q : VK}
    (h2 : ∀ (B : Bad) (H : Hp) (vs : List V) (ds : List Dt) (d : Dt) (Q : VK), RpL X.kw H B vs ds → (∀ a, B a → H a ≠ none) → g ds = some d → (∀ v H', Same H H' → Rp X.kw H' B v d → Q v H') → r vs H Q)
    (q : tD X.kw (mFn g m) σ H Q) : tCB r (tDA X.kw m) σ H Q := by
  obtain ⟨B, γ, H0, s, d, s', rl, e, k⟩ := q
  obtain ⟨⟨x, s1⟩, e1, e2⟩ := ob e
  obtain ⟨z, e5, e6⟩ := om e2
  obtain ⟨rfl, rfl⟩ := Prod.mk.inj e6
  exact ⟨B, γ, H0, s, x, s1, rl, e1, fun vs H1 a1 r1 => h2 _ H1 vs x z Q r1 a1.rel.bdh e5 fun v H' sm rv => k v H' (a1.same sm) rv⟩
variable {x : Str} {p pos : Pos} {e : Expr} {es : List Expr}
theorem de_fnB {id : String} {g : List Dt → Option Dt} {m : MA} (hc : CallD X (.builtin id) g) (hm : X.mg x = none) (hv : bootBuiltins x = some (.builtin id)) (ha : PA X (e :: es) (tDA X.kw m)) (hg : Gl X x := by rfl) (hn : x ≠ "__name__" := by decide) (hdb : (x == ("__debug__" : Str)) = false := by decide)
    (he : starEach (e :: es) X.env = (false, eval e X.env) :: starEach es X.env := by rfl) (hpl : (backTo pos (starEach es X.env)).any (·.1) = false := by rfl) : PE X (.Call (.Name x p) (e :: es) [] pos) (tD X.kw (mFn g m)) := by
  obtain ⟨r, h1, h2⟩ := hc.ex
  exact PE.imp (pe_callB h1 hg hm hv ha hn hdb he hpl) fun σ H Q q => fn_go (f := .builtin id) h2 q
theorem de_fnT {T : String} {g : List Dt → Option Dt} {m : MA} (hc : CallD X (.type T) g) (hm : X.mg x = none) (hv : bootBuiltins x = some (.type T)) (ha : PA X (e :: es) (tDA X.kw m)) (hg : Gl X x := by rfl) (hn : x ≠ "__name__" := by decide) (hdb : (x == ("__debug__" : Str)) = false := by decide)
    (he : starEach (e :: es) X.env = (false, eval e X.env) :: starEach es X.env := by rfl) (hpl : (backTo pos (starEach es X.env)).any (·.1) = false := by rfl) : PE X (.Call (.Name x p) (e :: es) [] pos) (tD X.kw (mFn g m)) := by
  obtain ⟨r, h1, h2⟩ := hc.ex
  exact PE.imp (pe_callTy h1 hg hm hv ha hn hdb he hpl) fun σ H Q q => fn_go (f := .type T) h2 q
end
end DL
set_option Elab.async false
set_option linter.all false
set_option maxRecDepth 100000
set_option maxHeartbeats 2000000
namespace DL
open PySem PySem.Spec PyProof.Rows L2
def intsD : List Dt → Option (List Int)
  | [] => some []
  | .int i :: r => (intsD r).map fun ns => i :: ns
  | _ :: _ => none
theorem intsD_eq : ∀ {ds : List Dt} {ns : List Int}, intsD ds = some ns → ds = ns.map .int
  | [], ns, h => by cases h; rfl
  | d :: r, ns, h => by
    cases d with
    | int i =>
      obtain ⟨ms, e1, e2⟩ := om (show (intsD r).map _ = some ns from h)
      subst e2
      rw [intsD_eq e1]
      rfl
    | _ => cases h
theorem intsD_map : ∀ ns : List Int, intsD (ns.map .int) = some ns
  | [] => rfl
  | n :: ns => by
    show (intsD (ns.map .int)).map _ = _
    rw [intsD_map ns]
    rfl
def boolsD : List Dt → Option (List Bool)
  | [] => some []
  | .bool i :: r => (boolsD r).map fun ns => i :: ns
  | _ :: _ => none
theorem boolsD_eq : ∀ {ds : List Dt} {ns : List Bool}, boolsD ds = some ns → ds = ns.map .bool
  | [], ns, h => by cases h; rfl
  | d :: r, ns, h => by
    cases d with
    | bool i =>
      obtain ⟨ms, e1, e2⟩ := om (show (boolsD r).map _ = some ns from h)
      subst e2
      rw [boolsD_eq e1]
      rfl
    | _ => cases h
theorem RpL.bools {K : KW} {B : Bad} {H : Hp} : ∀ {vs : List V} {ns : List Bool}, RpL K H B vs (ns.map .bool) → vs = ns.map V.bl
  | _, [], .nil => rfl
  | _, n :: ns, .cons (.bl _) r => by rw [RpL.bools r]; rfl
section
variable {X : Cx} {x : Str} {p pos : Pos} {e a b : Expr} {es : List Expr}
def fLen : List Dt → Option Dt
  | [.list xs] => some (.int xs.length)
  | [.tuple xs] => some (.int xs.length)
  | [.str z] => if z.length ≤ sizeLine then some (.int z.length) else none
  | _ => none
theorem one_arg {K : KW} {H : Hp} {B : Bad} {vs : List V} {d : Dt} (r : RpL K H B vs [d]) : ∃ v, vs = [v] ∧ Rp K H B v d := by
  cases r with
  | cons h t => cases t; exact ⟨_, rfl, h⟩
theorem two_arg {K : KW} {H : Hp} {B : Bad} {vs : List V} {d d' : Dt} (r : RpL K H B vs [d, d']) : ∃ v v', vs = [v, v'] ∧ Rp K H B v d ∧ Rp K H B v' d' := by
  cases r with
  | cons h t =>
    obtain ⟨w, rfl, h2⟩ := one_arg t
    exact ⟨_, w, rfl, h, h2⟩
def mLenN (i : Nat) : MD := fun s => (slotD s s i).bind fun d => (fLen [d]).map fun z => (z, s)
theorem de_lenN {i : Nat} (hm : X.mg "len" = none) (ha : PE X a (tVar i)) (hg : Gl X "len" := by rfl) (hs : starEach [a] X.env = (false, eval a X.env) :: starEach [] X.env := by rfl) : PE X (.Call (.Name "len" p) [a] [] pos) (tD X.kw (mLenN i)) :=
  PE.imp (pe_callB (call_len_seq.or call_len_str) hg hm PySem.boot_len (pa_cons ha pa_nil hs) (by decide) (by decide) hs rfl) fun σ H Q q => by
    obtain ⟨B, γ, H0, s, d, s', rl, e, k⟩ := q
    obtain ⟨dx, e1, e2⟩ := ob e
    obtain ⟨z, e3, e4⟩ := om e2
    obtain ⟨rfl, rfl⟩ := Prod.mk.inj e4
    obtain ⟨v, hv, hr⟩ := slot_read rl (Aft.refl rl) e1
    refine ⟨v, hv, ?_⟩
    have kk : ∀ n : Int, z = .int n → Q (.int n) H := fun n ez => by
      subst ez
      exact k _ H (Aft.refl rl) (.int n)
    rcases hr with hr | ⟨p', vs, ds, rfl, rfl, h2, h3⟩
    · cases hr with
      | lst h1 _ h3 => cases e3; exact .inl ⟨_, _, rfl, .inl (.inl h1), by rw [h3.len]; exact kk _ rfl⟩
      | tup h1 h3 => cases e3; exact .inl ⟨_, _, rfl, .inr h1.sq, by rw [h3.len]; exact kk _ rfl⟩
      | str y =>
        have e3' : (if y.length ≤ sizeLine then some (PyData.int y.length) else none) = some z := e3
        split at e3'
        · rename_i hz
          cases e3'
          exact .inr ⟨y, rfl, hz, kk _ rfl⟩
        · cases e3'
      | _ => cases e3
    · cases e3
      exact .inl ⟨_, _, rfl, .inl (.inl (.inl h2)), by rw [h3.len]; exact kk _ rfl⟩
def maxI : List Int → Int
  | [] => 0
  | n :: ns => ns.foldl max n
def minI : List Int → Int
  | [] => 0
  | n :: ns => ns.foldl min n
theorem foldl_max_ge : ∀ (ns : List Int) (n : Int), n ≤ ns.foldl max n ∧ ∀ y ∈ ns, y ≤ ns.foldl max n
  | [], n => ⟨Int.le_refl n, fun _ h => nomatch h⟩
  | m :: ns, n => by
    obtain ⟨h1, h2⟩ := foldl_max_ge ns (max n m)
    refine ⟨?_, fun y hy => ?_⟩
    · show n ≤ ns.foldl max (max n m)
      omega
    · show y ≤ ns.foldl max (max n m)
      rcases List.mem_cons.mp hy with rfl | hy
      · omega
      · exact h2 y hy
theorem foldl_max_mem : ∀ (ns : List Int) (n : Int), ns.foldl max n = n ∨ ns.foldl max n ∈ ns
  | [], n => .inl rfl
  | m :: ns, n => by
    rcases foldl_max_mem ns (max n m) with h | h
    · show ns.foldl max (max n m) = n ∨ ns.foldl max (max n m) ∈ m :: ns
      rw [h]
      rcases Int.le_total n m with q | q
      · rw [Int.max_eq_right q]; exact .inr List.mem_cons_self
      · rw [Int.max_eq_left q]; exact .inl rfl
    · exact .inr (List.mem_cons_of_mem _ h)
theorem foldl_min_le : ∀ (ns : List Int) (n : Int), ns.foldl min n ≤ n ∧ ∀ y ∈ ns, ns.foldl min n ≤ y
  | [], n => ⟨Int.le_refl n, fun _ h => nomatch h⟩
  | m :: ns, n => by
    obtain ⟨h1, h2⟩ := foldl_min_le ns (min n m)
    refine ⟨?_, fun y hy => ?_⟩
    · show ns.foldl min (min n m) ≤ n
      omega
    · show ns.foldl min (min n m) ≤ y
      rcases List.mem_cons.mp hy with rfl | hy
      · omega
      · exact h2 y hy
theorem foldl_min_mem : ∀ (ns : List Int) (n : Int), ns.foldl min n = n ∨ ns.foldl min n ∈ ns
  | [], n => .inl rfl
  | m :: ns, n => by
    rcases foldl_min_mem ns (min n m) with h | h
    · show ns.foldl min (min n m) = n ∨ ns.foldl min (min n m) ∈ m :: ns
      rw [h]
      rcases Int.le_total n m with q | q
      · rw [Int.min_eq_left q]; exact .inl rfl
      · rw [Int.min_eq_right q]; exact .inr List.mem_cons_self
    · exact .inr (List.mem_cons_of_mem _ h)
theorem maxI_eq {ns : List Int} {m : Int} (h : m ∈ ns) (hm : ∀ y ∈ ns, y ≤ m) : m = maxI ns := by
  cases ns with
  | nil => cases h
  | cons n r =>
    show m = r.foldl max n
    obtain ⟨h1, h2⟩ := foldl_max_ge r n
    have a : r.foldl max n ≤ m := by
      rcases foldl_max_mem r n with q | q
      · rw [q]; exact hm n List.mem_cons_self
      · exact hm _ (List.mem_cons_of_mem _ q)
    have b : m ≤ r.foldl max n := by
      rcases List.mem_cons.mp h with q | q
      · rw [q]; exact h1
      · exact h2 m q
    omega
theorem minI_eq {ns : List Int} {m : Int} (h : m ∈ ns) (hm : ∀ y ∈ ns, m ≤ y) : m = minI ns := by
  cases ns with
  | nil => cases h
  | cons n r =>
    show m = r.foldl min n
    obtain ⟨h1, h2⟩ := foldl_min_le r n
    have a : m ≤ r.foldl min n := by
      rcases foldl_min_mem r n with q | q
      · rw [q]; exact hm n List.mem_cons_self
      · exact hm _ (List.mem_cons_of_mem _ q)
    have b : r.foldl min n ≤ m := by
      rcases List.mem_cons.mp h with q | q
      · rw [q]; exact h1
      · exact h2 m q
    omega
def fMax : List Dt → Option Dt
  | [.list ds] => (intsD ds).bind fun ns => if ns.isEmpty then none else some (.int (maxI ns))
  | [.int i, .int j] => some (.int (if j > i then j else i))
  | _ => none
def fMin : List Dt → Option Dt
  | [.list ds] => (intsD ds).bind fun ns => if ns.isEmpty then none else some (.int (minI ns))
  | [.int i, .int j] => some (.int (if j < i then j else i))
  | _ => none
theorem len_pos_of {ns : List Int} (h : ¬ ns.isEmpty = true) : 0 < ns.length := by
  cases ns with
  | nil => exact absurd rfl h
  | cons _ _ => exact Nat.succ_pos _
theorem cd_max (hc : X.calm = true) : CallD X (.builtin "max") fMax := ⟨_, (cr_max hc).or (call_max2 hc), fun B H vs ds d Q rl bd eq k => by
  unfold fMax at eq
  split at eq
  · obtain ⟨ns, e1, e2⟩ := ob eq
    split at e2
    · cases e2
    · rename_i hne
      cases e2
      obtain ⟨v, rfl, h⟩ := one_arg rl
      rw [intsD_eq e1] at h
      cases h with
      | lst h1 _ h3 =>
        rw [h3.ints] at h1
        exact .inl ⟨_, ns, rfl, .inl h1, len_pos_of hne, fun m hm hy => by rw [maxI_eq hm hy]; exact k _ H (Same.refl H) (.int _)⟩
  · cases eq
    obtain ⟨v, w, rfl, h1, h2⟩ := two_arg rl
    cases h1
    cases h2
    exact .inr ⟨_, _, rfl, k _ H (Same.refl H) (.int _)⟩
  · cases eq⟩
theorem cd_min (hc : X.calm = true) : CallD X (.builtin "min") fMin := ⟨_, (cr_min hc).or (call_min2 hc), fun B H vs ds d Q rl bd eq k => by
  unfold fMin at eq
  split at eq
  · obtain ⟨ns, e1, e2⟩ := ob eq
    split at e2
    · cases e2
    · rename_i hne
      cases e2
      obtain ⟨v, rfl, h⟩ := one_arg rl
      rw [intsD_eq e1] at h
      cases h with
      | lst h1 _ h3 =>
        rw [h3.ints] at h1
        exact .inl ⟨_, ns, rfl, .inl h1, len_pos_of hne, fun m hm hy => by rw [minI_eq hm hy]; exact k _ H (Same.refl H) (.int _)⟩
  · cases eq
    obtain ⟨v, w, rfl, h1, h2⟩ := two_arg rl
    cases h1
    cases h2
    exact .inr ⟨_, _, rfl, k _ H (Same.refl H) (.int _)⟩
  · cases eq⟩
def fAbs : List Dt → Option Dt
  | [.int i] => some (.int (if i < 0 then -i else i))
  | _ => none
theorem cd_abs : CallD X (.builtin "abs") fAbs := ⟨_, call_abs, fun B H vs ds d Q rl bd eq k => by
  unfold fAbs at eq
  split at eq
  · cases eq
    obtain ⟨v, rfl, h⟩ := one_arg rl
    cases h
    exact ⟨_, rfl, k _ H (Same.refl H) (.int _)⟩
  · cases eq⟩
def fInt : List Dt → Option Dt
  | [.int i] => some (.int i)
  | [.bool b] => some (.int (if b then 1 else 0))
  | _ => none
theorem cd_int : CallD X (.type "int") fInt := ⟨_, call_int1, fun B H vs ds d Q rl bd eq k => by
  unfold fInt at eq
  split at eq
  · cases eq
    obtain ⟨v, rfl, h⟩ := one_arg rl
    cases h
    exact .inl ⟨_, rfl, k _ H (Same.refl H) (.int _)⟩
  · cases eq
    obtain ⟨v, rfl, h⟩ := one_arg rl
    cases h
    exact .inr ⟨_, rfl, k _ H (Same.refl H) (.int _)⟩
  · cases eq⟩
def fAll : List Dt → Option Dt
  | [.list ds] => (boolsD ds).map fun bs => .bool (bs.all id)
  | _ => none
theorem cd_all (hc : X.calm = true) : CallD X (.builtin "all") fAll := ⟨_, cr_all hc, fun B H vs ds d Q rl bd eq k => by
  unfold fAll at eq
  split at eq
  · obtain ⟨ns, e1, e2⟩ := om eq
    subst e2
    obtain ⟨v, rfl, h⟩ := one_arg rl
    rw [boolsD_eq e1] at h
    cases h with
    | lst h1 _ h3 =>
      rw [h3.bools] at h1
      exact ⟨_, ns, rfl, .inl h1, k _ H (Same.refl H) (.bl _)⟩
  · cases eq⟩
def fTup : List Dt → Option Dt
  | [.list xs] => some (.tuple xs)
  | [.tuple xs] => some (.tuple xs)
  | _ => none
theorem cd_tup : CallD X (.type "tuple") fTup := ⟨_, call_tuple_of, fun B H vs ds d Q rl bd eq k => by
  unfold fTup at eq
  split at eq
  · cases eq
    obtain ⟨v, rfl, h⟩ := one_arg rl
    cases h with
    | lst h1 _ h3 => exact ⟨_, _, rfl, .inl ⟨.inl h1, fun l hl => k _ _ (same_new hl) (.tup (.inl upd_same) (h3.same (same_new hl)))⟩⟩
  · cases eq
    obtain ⟨v, rfl, h⟩ := one_arg rl
    cases h with
    | tup h1 h3 => exact ⟨_, _, rfl, .inr ⟨h1.sq, k _ H (Same.refl H) (.tup h1 h3)⟩⟩
  · cases eq⟩
structure CallL (X : Cx) (f : Value) (g : List Dt → Option (List Dt)) : Prop where
  ex : ∃ r : List V → Hp → VK → Prop, CallR X f r ∧ ∀ (B : Bad) (H : Hp) (vs : List V) (ds out : List Dt) (Q : VK), RpL X.kw H B vs ds → g ds = some out → (∀ p ws, H p = none → RpL X.kw H B ws out → Q (.ref p) (upd H p (.lst ws))) → r vs H Q
def mFnL (g : List Dt → Option (List Dt)) (m : MA) : MA := fun s => (m s).bind fun q => (g q.1).map fun d => (d, q.2)
theorem dl_fnT {T : String} {g : List Dt → Option (List Dt)} {m : MA} (hc : CallL X (.type T) g) (hm : X.mg x = none) (hv : bootBuiltins x = some (.type T)) (ha : PA X (e :: es) (tDA X.kw m)) (hg : Gl X x := by rfl) (hn : x ≠ "__name__" := by decide) (hdb : (x == ("__debug__" : Str)) = false := by decide)
    (he : starEach (e :: es) X.env = (false, eval e X.env) :: starEach es X.env := by rfl) (hpl : (backTo pos (starEach es X.env)).any (·.1) = false := by rfl) : PE X (.Call (.Name x p) (e :: es) [] pos) (tDL X.kw (mFnL g m)) := by
  obtain ⟨r, h1, h2⟩ := hc.ex
  refine dl_of (pe_callTy h1 hg hm hv ha hn hdb he hpl) fun σ H Q B γ H0 s ds s' rl e k => ?_
  obtain ⟨⟨x, s1⟩, e1, e2⟩ := ob e
  obtain ⟨z, e5, e6⟩ := om e2
  obtain ⟨rfl, rfl⟩ := Prod.mk.inj e6
  exact ⟨B, γ, H0, s, x, s1, rl, e1, fun vs H1 a1 r1 => h2 _ H1 vs x z Q r1 e5 fun p ws hp rw => k p ws H1 a1 hp rw⟩
theorem dl_fnB {id : String} {g : List Dt → Option (List Dt)} {m : MA} (hc : CallL X (.builtin id) g) (hm : X.mg x = none) (hv : bootBuiltins x = some (.builtin id)) (ha : PA X (e :: es) (tDA X.kw m)) (hg : Gl X x := by rfl) (hn : x ≠ "__name__" := by decide) (hdb : (x == ("__debug__" : Str)) = false := by decide)
    (he : starEach (e :: es) X.env = (false, eval e X.env) :: starEach es X.env := by rfl) (hpl : (backTo pos (starEach es X.env)).any (·.1) = false := by rfl) : PE X (.Call (.Name x p) (e :: es) [] pos) (tDL X.kw (mFnL g m)) := by
  obtain ⟨r, h1, h2⟩ := hc.ex
  refine dl_of (pe_callB h1 hg hm hv ha hn hdb he hpl) fun σ H Q B γ H0 s ds s' rl e k => ?_
  obtain ⟨⟨x, s1⟩, e1, e2⟩ := ob e
  obtain ⟨z, e5, e6⟩ := om e2
  obtain ⟨rfl, rfl⟩ := Prod.mk.inj e6
  exact ⟨B, γ, H0, s, x, s1, rl, e1, fun vs H1 a1 r1 => h2 _ H1 vs x z Q r1 e5 fun p ws hp rw => k p ws H1 a1 hp rw⟩
def fList : List Dt → Option (List Dt)
  | [.list xs] => some xs
  | [.tuple xs] => some xs
  | _ => none
theorem cl_list : CallL X (.type "list") fList := ⟨_, call_list_of, fun B H vs ds out Q rl eq k => by
  unfold fList at eq
  split at eq
  · cases eq
    obtain ⟨v, rfl, h⟩ := one_arg rl
    cases h with
    | lst h1 _ h3 => exact ⟨_, _, rfl, .inl (.inl h1), fun l hl => k l _ hl h3⟩
  · cases eq
    obtain ⟨v, rfl, h⟩ := one_arg rl
    cases h with
    | tup h1 h3 => exact ⟨_, _, rfl, .inr h1.sq, fun l hl => k l _ hl h3⟩
  · cases eq⟩
end
end DL
set_option Elab.async false
set_option linter.all false
set_option maxRecDepth 100000
set_option maxHeartbeats 2000000
namespace DL
open PySem PySem.Spec PyProof.Rows L2
def cutL {α : Type} (xs : List α) (lo hi : Option Int) : List α := (xs.drop (HT.sIx xs.length 0 lo)).take (HT.sIx xs.length xs.length hi - HT.sIx xs.length 0 lo)
theorem RpL.cut {K : KW} {H : Hp} {B : Bad} {vs : List V} {ds : List Dt} (r : RpL K H B vs ds) (lo hi : Option Int) : RpL K H B (cutV vs lo hi) (cutL ds lo hi) := by
  unfold cutV cutL
  rw [r.len]
  exact (r.drop _).take _
abbrev MO := Stt → Option (Option Int × Stt)
def tDO (K : KW) (m : MO) : TO := fun σ H Q => ∃ B γ H0 s o s', Rel K B γ H0 σ H s ∧ m s = some (o, s') ∧ ∀ H', Aft K B γ H0 σ H s σ H' s' → Q o H'
theorem PO.imp {X : Cx} {e : Option Expr} {t t' : TO} (h : PO X e t) (k : ∀ σ H Q, t' σ H Q → t σ H Q) : PO X e t' := ⟨fun pins s σ H Q I q => h.run pins s σ H Q I (k σ H Q q)⟩
section
variable {X : Cx} {x : Str} {p p2 pos : Pos} {e a b : Expr} {es : List Expr} {lo hi : Option Expr}
def oNone : MO := fun s => some (none, s)
def intD : Dt → Option Int
  | .int i => some i
  | _ => none
theorem intD_eq {d : Dt} {i : Int} (h : intD d = some i) : d = .int i := by
  cases d <;> first | (cases h; rfl) | cases h
def oSome (m : MD) : MO := fun s => (m s).bind fun q => (intD q.1).map fun i => (some i, q.2)
theorem do_none : PO X none (tDO X.kw oNone) := PO.imp po_none fun σ H Q q => by
  obtain ⟨B, γ, H0, s, d, s', rl, e, k⟩ := q
  obtain ⟨rfl, rfl⟩ := Prod.mk.inj (Option.some.inj e)
  exact k H (Aft.refl rl)
theorem do_some {m : MD} (h : PE X e (tD X.kw m)) : PO X (some e) (tDO X.kw (oSome m)) := PO.imp (po_some h) fun σ H Q q => by
  obtain ⟨B, γ, H0, s, d, s', rl, e, k⟩ := q
  obtain ⟨⟨x, s1⟩, e1, e2⟩ := ob e
  obtain ⟨i, e5, e6⟩ := om e2
  obtain ⟨rfl, rfl⟩ := Prod.mk.inj e6
  have ex := intD_eq e5
  subst ex
  refine ⟨B, γ, H0, s, _, s1, rl, e1, fun v H1 a1 r1 => ?_⟩
  cases r1
  exact ⟨i, rfl, k H1 a1⟩
theorem SlR.or {r r' : V → Option Int → Option Int → Hp → VK → Prop} (h : SlR X r) (h' : SlR X r') : SlR X (fun x l u H Q => r x l u H Q ∨ r' x l u H Q) := by
  intro pins s σ H x v vl vu lo hi sl Q I rx hs pl pu q
  rcases q with q | q
  · exact h pins s σ H x v vl vu lo hi sl Q I rx hs pl pu q
  · exact h' pins s σ H x v vl vu lo hi sl Q I rx hs pl pu q
def dSl (d : Dt) (l u : Option Int) : Option Dt := match d with
  | .tuple xs => some (.tuple (cutL xs l u))
  | .str z => if z.length ≤ sizeLine then some (.str (cutS z l u)) else none
  | .list xs => some (.list (cutL xs l u))
  | .dict [(.none, .list xs)] => some (.list (cutL xs l u))
  | _ => none
def mSl (m : MD) (ml mh : MO) : MD := fun s => (m s).bind fun q => (ml q.2).bind fun l => (mh l.2).bind fun u => (dSl q.1 l.1 u.1).map fun z => (z, u.2)
theorem cutL_whole {α : Type} {xs : List α} {l u : Option Int} (h1 : HT.sIx xs.length 0 l = 0) (h2 : HT.sIx xs.length xs.length u = xs.length) : cutL xs l u = xs := by
  unfold cutL
  rw [h1, h2, List.drop_zero, Nat.sub_zero, List.take_length]
theorem sl_go {K : KW} {H : Hp} {B : Bad} {v : V} {d z : Dt} {l u : Option Int} {Q : VK} (r : Rp K H B v d) (bd : ∀ a, B a → H a ≠ none) (e : dSl d l u = some z) (k : ∀ w H', Same H H' → Rp K H' B w z → Q w H') :
    rSlL K v l u H Q ∨ (rSlA K v l u H Q ∨ rSlS v l u H Q) := by
  cases r with
  | lst h1 n h3 =>
    cases e
    exact .inl ⟨_, _, rfl, .inl h1, fun p hp => k _ _ (same_new hp) (.lst (.inl upd_same) (fun z => bd p z hp) ((h3.cut l u).same (same_new hp)))⟩
  | @tup a xs ds h1 h3 =>
    cases e
    refine .inr (.inl ⟨_, _, rfl, h1.sq, fun hw => ?_, fun hw p hp => ?_⟩)
    · have e1 : cutL ds l u = ds := by rw [h3.len] at hw; exact cutL_whole hw.1 hw.2
      rw [e1] at k
      exact k _ H (Same.refl H) (.tup h1 h3)
    · exact k _ _ (same_new hp) (.tup (.inl upd_same) ((h3.cut l u).same (same_new hp)))
  | str y =>
    have e' : (if y.length ≤ sizeLine then some (PyData.str (cutS y l u)) else none) = some z := e
    split at e'
    · rename_i hz
      cases e'
      exact .inr (.inr ⟨y, rfl, hz, k _ H (Same.refl H) (.str _)⟩)
    · cases e'
  | @scr a ns h1 =>
    cases e
    exact .inl ⟨_, _, rfl, h1.sq, fun p hp => k _ _ (same_new hp) (.lst (.inl upd_same) (fun z => bd p z hp) (((RpL.of_ints ns).cut l u).same (same_new hp)))⟩
  | dct _ c =>
    exfalso
    unfold dSl at e
    split at e
    · rename_i h; cases h
    · rename_i h; cases h
    · rename_i h; cases h
    · rename_i h; exact c.no_none (PyData.dict.inj h)
    · cases e
  | _ => cases e
theorem de_sl {m : MD} {ml mh : MO} (h : PE X e (tD X.kw m)) (hl : PO X lo (tDO X.kw ml)) (hu : PO X hi (tDO X.kw mh)) : PE X (.Subscript e (.Slice lo hi none p2) pos) (tD X.kw (mSl m ml mh)) :=
  PE.imp (pe_slice (SlR.or sl_list (SlR.or sl_tupA sl_str)) h hl hu) fun σ H Q q => by
    obtain ⟨B, γ, H0, s, d, s', rl, e, k⟩ := q
    obtain ⟨⟨x, s1⟩, e1, e2⟩ := ob e
    obtain ⟨⟨l, s2⟩, e3, e4⟩ := ob e2
    obtain ⟨⟨u, s3⟩, e5, e6⟩ := ob e4
    obtain ⟨z, e7, e8⟩ := om e6
    obtain ⟨rfl, rfl⟩ := Prod.mk.inj e8
    refine ⟨B, γ, H0, s, x, s1, rl, e1, fun v H1 a1 r1 => ⟨B, γ, H0, s1, l, s2, a1.rel, e3, fun H2 a2 => ⟨B, γ, H0, s2, u, s3, a2.rel, e5, fun H3 a3 => ?_⟩⟩⟩
    have a := (a1.trans a2).trans a3
    exact sl_go (a3.mv.frm _ _ (a2.mv.frm _ _ r1)) a.rel.bdh e7 fun w H' sm rw => k w H' (a.same sm) rw
def lisD : Dt → Option (List Dt)
  | .list xs => some xs
  | .tuple xs => some xs
  | _ => none
def mStar (m : MD) (n : MA) : MA := fun s => (m s).bind fun q => (lisD q.1).bind fun xs => (n q.2).map fun t => (xs ++ t.1, t.2)
def tyName : Dt → Option String
  | .none => some "NoneType"
  | .bool _ => some "bool"
  | .int _ => some "int"
  | .str _ => some "str"
  | .list _ => some "list"
  | .tuple _ => some "tuple"
  | .dict _ => none
theorem tyX_of {K : KW} {H : Hp} {B : Bad} {v : V} {d : Dt} {n : String} (r : Rp K H B v d) (h : tyName d = some n) : TyX K H v (.type n) := by
  cases r with
  | non => cases h; exact .base .non
  | bl b => cases h; exact .base (.bl b)
  | int i => cases h; exact .base (.int i)
  | str x => cases h; exact .base (.str x)
  | lst h1 _ _ =>
    cases h
    rcases h1 with h1 | ⟨o, h1⟩
    · exact .base (.lst h1)
    · exact .base (.frz h1)
  | tup h1 _ =>
    cases h
    rcases h1 with h1 | ⟨o, its, n, h1, h2, _⟩ | ⟨o, h1⟩
    · exact .base (.tup h1)
    · exact .kTuple h1 h2
    · exact .fTuple h1
  | scr _ => cases h
  | dct _ _ => cases h
  | ep _ _ => cases h
  | ob _ _ _ => cases h
  | mem _ => cases h
def mIsa (ts : List String) (m : MD) : MD := fun s => (m s).bind fun q => (tyName q.1).map fun n => (.bool (ts.any fun t => n == t || (n == "bool" && t == "int")), q.2)
def isaOk (t : String) : Bool := ["NoneType", "bool", "int", "str", "list", "tuple"].all fun n => decide (kitB n t = some (n == t || (n == "bool" && t == "int")))
theorem isa_one {K : PySem.W.Frag} {t n : String} {d : Dt} (h : isaOk t = true) (hn : tyName d = some n) : PySem.W.kitOne K (.type n) (.type t) = some (n == t || (n == "bool" && t == "int")) := by
  unfold isaOk at h
  rw [List.all_eq_true] at h
  refine kit_ty (of_decide_eq_true (h n ?_))
  cases d <;> cases hn <;> decide
theorem de_isa {t : String} {m : MD} {k : Nat} {T : Str} {pT pN : Pos} (hm : X.mg "isinstance" = none) (hmT : X.mg T = none) (hbT : bootBuiltins T = some (.type t)) (ho : isaOk t = true) (he : PE X e (tD X.kw m)) (hg : Gl X "isinstance" := by rfl) (hgT : Gl X T := by rfl) (hnT : T ≠ "__name__" := by decide) (hdT : (T == ("__debug__" : Str)) = false := by decide)
    (hs : starEach [e, .Name T pT] X.env = (false, eval e X.env) :: starEach [.Name T pT] X.env := by rfl) (hs2 : starEach [.Name T pT] X.env = (false, eval (.Name T pT) X.env) :: starEach [] X.env := by rfl) : PE X (.Call (.Name "isinstance" pN) [e, .Name T pT] [] pos) (tD X.kw (mIsa [t] m)) :=
  PE.imp (pe_callB call_isi hg hm PyProof.Rows.boot_isinstance (pa_cons he (pa_cons (pe_bltn (v := .ty t) hgT hmT hbT rfl hnT hdT) pa_nil hs2) hs) (by decide) (by decide) hs rfl) fun σ H Q q => by
    obtain ⟨B, γ, H0, s, d, s', rl, e, k⟩ := q
    obtain ⟨⟨x, s1⟩, e1, e2⟩ := ob e
    obtain ⟨n, e3, e4⟩ := om e2
    obtain ⟨rfl, rfl⟩ := Prod.mk.inj e4
    refine ⟨B, γ, H0, s, x, s1, rl, e1, fun v H1 a1 r1 => ⟨v, .ty t, .type n, .type t, _, rfl, .ty t, tyX_of r1 e3, isa_one ho e3, ?_⟩⟩
    have := k (.bl ([t].any fun t => n == t || (n == "bool" && t == "int"))) H1 a1 (.bl _)
    simpa using this
theorem de_isa2 {t u : String} {m : MD} {k : Nat} {T U : Str} {pT pU pP pN : Pos} (hm : X.mg "isinstance" = none) (hmT : X.mg T = none) (hbT : bootBuiltins T = some (.type t)) (hmU : X.mg U = none) (hbU : bootBuiltins U = some (.type u)) (ho : isaOk t = true) (ho2 : isaOk u = true) (he : PE X e (tD X.kw m)) (hg : Gl X "isinstance" := by rfl) (hgT : Gl X T := by rfl) (hgU : Gl X U := by rfl)
    (hnT : T ≠ "__name__" := by decide) (hdT : (T == ("__debug__" : Str)) = false := by decide) (hnU : U ≠ "__name__" := by decide) (hdU : (U == ("__debug__" : Str)) = false := by decide)
    (hs : starEach [e, .Tuple [.Name T pT, .Name U pU] k pP] X.env = (false, eval e X.env) :: starEach [.Tuple [.Name T pT, .Name U pU] k pP] X.env := by rfl) (hs2 : starEach [.Tuple [.Name T pT, .Name U pU] k pP] X.env = (false, eval (.Tuple [.Name T pT, .Name U pU] k pP) X.env) :: starEach [] X.env := by rfl)
    (hs3 : starEach [.Name T pT, .Name U pU] X.env = (false, eval (.Name T pT) X.env) :: starEach [.Name U pU] X.env := by rfl) (hs4 : starEach [.Name U pU] X.env = (false, eval (.Name U pU) X.env) :: starEach [] X.env := by rfl) :
    PE X (.Call (.Name "isinstance" pN) [e, .Tuple [.Name T pT, .Name U pU] k pP] [] pos) (tD X.kw (mIsa [t, u] m)) :=
  PE.imp (pe_callB call_isiT hg hm PyProof.Rows.boot_isinstance (pa_cons he (pa_cons (pe_tup (pa_cons (pe_bltn (v := .ty t) hgT hmT hbT rfl hnT hdT) (pa_cons (pe_bltn (v := .ty u) hgU hmU hbU rfl hnU hdU) pa_nil hs4) hs3)) pa_nil hs2) hs) (by decide) (by decide) hs rfl) fun σ H Q q => by
    obtain ⟨B, γ, H0, s, d, s', rl, e, k⟩ := q
    obtain ⟨⟨x, s1⟩, e1, e2⟩ := ob e
    obtain ⟨n, e3, e4⟩ := om e2
    obtain ⟨rfl, rfl⟩ := Prod.mk.inj e4
    refine ⟨B, γ, H0, s, x, s1, rl, e1, fun v H1 a1 r1 => ⟨by show 2 ≤ sizeLine; decide, fun tp htp => ?_⟩⟩
    have sm : Same H1 (upd H1 tp (.tup [.ty t, .ty u])) := same_new htp
    refine ⟨v, tp, [.ty t, .ty u], .type n, [.type t, .type u], ((n == t || (n == "bool" && t == "int")) || (n == u || (n == "bool" && u == "int"))), rfl, upd_same, .cons (.ty t) (.cons (.ty u) .nil), tyX_of (r1.same sm) e3, ?_, ?_⟩
    · cases hb : (n == t || (n == "bool" && t == "int")) with
      | true => exact kitAny_cons (b := true) (by rw [isa_one ho e3, hb]) (fun z => nomatch z) (fun _ => rfl)
      | false =>
        refine kitAny_cons (b := false) (by rw [isa_one ho e3, hb]) (fun _ => ?_) (fun z => nomatch z)
        refine kitAny_cons (isa_one ho2 e3) (fun z => ?_) (fun z => ?_)
        · rw [z]; rfl
        · rw [z]; rfl
    · have := k (.bl ([t, u].any fun t => n == t || (n == "bool" && t == "int"))) _ (a1.same sm) (.bl _)
      simpa using this
def zipD : List Dt → List Dt → List Dt
  | x :: xs, y :: ys => .tuple [x, y] :: zipD xs ys
  | _, _ => []
theorem zipD_get : ∀ {xs ys : List Dt} {i : Nat} {d : Dt}, (zipD xs ys)[i]? = some d → ∃ x y, xs[i]? = some x ∧ ys[i]? = some y ∧ d = .tuple [x, y]
  | [], _, _, _, h => by simp [zipD] at h
  | _ :: _, [], _, _, h => by simp [zipD] at h
  | x :: xs, y :: ys, 0, d, h => ⟨x, y, rfl, rfl, (Option.some.inj h).symm⟩
  | x :: xs, y :: ys, i + 1, d, h => by
    obtain ⟨a, b, h1, h2, h3⟩ := zipD_get (xs := xs) (ys := ys) (i := i) (d := d) h
    exact ⟨a, b, h1, h2, h3⟩
theorem zipD_len : ∀ (xs ys : List Dt), (zipD xs ys).length = min xs.length ys.length
  | [], ys => by simp [zipD]
  | x :: xs, [] => by simp [zipD]
  | x :: xs, y :: ys => by
    show (zipD xs ys).length + 1 = min (xs.length + 1) (ys.length + 1)
    rw [zipD_len xs ys]
    omega
theorem it_zip {K : KW} {H : Hp} {C : Bad} {a b : Addr} {xs ys : List Dt} (h1 : Rp K H C (.ref a) (.list xs)) (h2 : Rp K H C (.ref b) (.list ys)) : ItOk K (Itz K a b) H C (zipD xs ys) := by
  have op : ∀ {H C a zs}, Rp K H C (.ref a) (.list zs) → ∃ vs, SqL K H a vs ∧ RpL K H C vs zs := fun h => by
    cases h with
    | lst h1 _ h3 => exact ⟨_, .inl h1, h3⟩
  refine ⟨fun H C => Rp K H C (.ref a) (.list xs) ∧ Rp K H C (.ref b) (.list ys), ⟨h1, h2⟩, fun H C H' C' f g => ⟨f _ _ g.1, f _ _ g.2⟩, fun i H C g hi => ?_, fun i H C g hi => ?_, fun i H C x H' d g e y => ?_⟩
  · obtain ⟨vs, q1, q2⟩ := op g.1
    obtain ⟨ws, q3, q4⟩ := op g.2
    rw [zipD_len] at hi
    obtain ⟨v, e1, _⟩ := q2.get (List.getElem?_eq_getElem (show i < xs.length by omega))
    obtain ⟨w, e2, _⟩ := q4.get (List.getElem?_eq_getElem (show i < ys.length by omega))
    exact ⟨vs, ws, v, w, q1, q3, e1, e2⟩
  · obtain ⟨vs, q1, q2⟩ := op g.1
    obtain ⟨ws, q3, q4⟩ := op g.2
    rw [zipD_len] at hi
    refine ⟨vs, ws, q1, q3, ?_⟩
    rw [q2.len, q4.len]
    omega
  · obtain ⟨vs, q1, q2⟩ := op g.1
    obtain ⟨ws, q3, q4⟩ := op g.2
    obtain ⟨T, x1, x2, rfl, nT, rfl, f1, f2⟩ := y
    obtain ⟨d1, d2, e1, e2, rfl⟩ := zipD_get e
    obtain ⟨v, w1, w2⟩ := q2.get e1
    obtain ⟨w, w3, w4⟩ := q4.get e2
    have z1 := f1 vs q1
    have z2 := f2 ws q3
    rw [w1] at z1; cases z1
    rw [w3] at z2; cases z2
    exact ⟨same_new nT, .tup (.inl upd_same) ((RpL.cons w2 (.cons w4 .nil)).same (same_new nT))⟩
theorem it_zipT {K : KW} {H : Hp} {C : Bad} {a b : Addr} {xs ys : List Dt} (h1 : Rp K H C (.ref a) (.tuple xs)) (h2 : Rp K H C (.ref b) (.tuple ys)) : ItOk K (RZ.ItzT K a b) H C (zipD xs ys) := by
  have op : ∀ {H C a zs}, Rp K H C (.ref a) (.tuple zs) → ∃ vs, SqT K H a vs ∧ RpL K H C vs zs := fun h => by
    cases h with
    | tup h1 h3 => exact ⟨_, h1.sq, h3⟩
  refine ⟨fun H C => Rp K H C (.ref a) (.tuple xs) ∧ Rp K H C (.ref b) (.tuple ys), ⟨h1, h2⟩, fun H C H' C' f g => ⟨f _ _ g.1, f _ _ g.2⟩, fun i H C g hi => ?_, fun i H C g hi => ?_, fun i H C x H' d g e y => ?_⟩
  · obtain ⟨vs, q1, q2⟩ := op g.1
    obtain ⟨ws, q3, q4⟩ := op g.2
    rw [zipD_len] at hi
    obtain ⟨v, e1, _⟩ := q2.get (List.getElem?_eq_getElem (show i < xs.length by omega))
    obtain ⟨w, e2, _⟩ := q4.get (List.getElem?_eq_getElem (show i < ys.length by omega))
    exact ⟨vs, ws, v, w, q1, q3, e1, e2⟩
  · obtain ⟨vs, q1, q2⟩ := op g.1
    obtain ⟨ws, q3, q4⟩ := op g.2
    rw [zipD_len] at hi
    refine ⟨vs, ws, q1, q3, ?_⟩
    rw [q2.len, q4.len]
    omega
  · obtain ⟨vs, q1, q2⟩ := op g.1
    obtain ⟨ws, q3, q4⟩ := op g.2
    obtain ⟨T, x1, x2, rfl, nT, rfl, f1, f2⟩ := y
    obtain ⟨d1, d2, e1, e2, rfl⟩ := zipD_get e
    obtain ⟨v, w1, w2⟩ := q2.get e1
    obtain ⟨w, w3, w4⟩ := q4.get e2
    have z1 := f1 vs q1
    have z2 := f2 ws q3
    rw [w1] at z1; cases z1
    rw [w3] at z2; cases z2
    exact ⟨same_new nT, .tup (.inl upd_same) ((RpL.cons w2 (.cons w4 .nil)).same (same_new nT))⟩
def iZip2 (m : MA) : MA := fun s => (m s).bind fun q => match q.1 with
  | [.list xs, .list ys] => some (zipD xs ys, q.2)
  | [.tuple xs, .tuple ys] => some (zipD xs ys, q.2)
  | _ => none
theorem di_zip {m : MA} {tpos : Pos} {elts : List Expr} {kk : Nat} (hm : X.mg "zip" = none) (ha : PA X [a, b] (tDA X.kw m)) (hg : Gl X "zip" := by rfl) (hs : starEach [a, b] X.env = (false, eval a X.env) :: starEach [b] X.env := by rfl) (hpl : (backTo pos (starEach [b] X.env)).any (·.1) = false := by rfl) :
    PI X (.Tuple elts kk tpos) (.Call (.Name "zip" p) [a, b] [] pos) (tDI X.kw (iZip2 m)) := PI.imp (RZ.pi_zipA hg hm ha hs hpl) fun σ H R q => by
  obtain ⟨B, γ, H0, s, ds, s', rl, e, k⟩ := q
  obtain ⟨⟨x, s1⟩, e1, e2⟩ := ob e
  refine ⟨B, γ, H0, s, x, s1, rl, e1, fun vs H1 a1 r1 => ?_⟩
  dsimp only at e2
  split at e2
  · obtain ⟨rfl, rfl⟩ := Prod.mk.inj (Option.some.inj e2)
    obtain ⟨v, w, rfl, h1, h2⟩ := two_arg r1
    have h1' := h1
    have h2' := h2
    cases h1 with
    | lst q1 _ _ =>
      cases h2 with
      | lst q2 _ _ => exact ⟨_, _, _, _, rfl, .inl ⟨.inl q1, .inl q2, k _ H1 a1 (it_zip h1' h2')⟩⟩
  · obtain ⟨rfl, rfl⟩ := Prod.mk.inj (Option.some.inj e2)
    obtain ⟨v, w, rfl, h1, h2⟩ := two_arg r1
    have h1' := h1
    have h2' := h2
    cases h1 with
    | tup q1 _ =>
      cases h2 with
      | tup q2 _ => exact ⟨_, _, _, _, rfl, .inr ⟨q1.sq, q2.sq, k _ H1 a1 (it_zipT h1' h2')⟩⟩
  · cases e2
def enumD (n : Nat) : List Dt → List Dt
  | [] => []
  | x :: xs => .tuple [.int n, x] :: enumD (n + 1) xs
theorem enumD_len : ∀ (n : Nat) (xs : List Dt), (enumD n xs).length = xs.length
  | _, [] => rfl
  | n, x :: xs => by
    show (enumD (n + 1) xs).length + 1 = xs.length + 1
    rw [enumD_len]
theorem enumD_get : ∀ {n : Nat} {xs : List Dt} {i : Nat} {d : Dt}, (enumD n xs)[i]? = some d → ∃ x, xs[i]? = some x ∧ d = .tuple [.int ((n + i : Nat) : Int), x]
  | _, [], _, _, h => by simp [enumD] at h
  | n, x :: xs, 0, d, h => ⟨x, rfl, (Option.some.inj h).symm⟩
  | n, x :: xs, i + 1, d, h => by
    obtain ⟨a, h1, h2⟩ := enumD_get (n := n + 1) (xs := xs) (i := i) (d := d) h
    exact ⟨a, h1, by rw [h2]; congr 3; omega⟩
theorem it_enum {K : KW} {H : Hp} {C : Bad} {a : Addr} {xs : List Dt} (h1 : Rp K H C (.ref a) (.list xs)) : ItOk K (Ite K a) H C (enumD 0 xs) := by
  have op : ∀ {H C}, Rp K H C (.ref a) (.list xs) → ∃ vs, SqL K H a vs ∧ RpL K H C vs xs := fun h => by
    cases h with
    | lst h1 _ h3 => exact ⟨_, .inl h1, h3⟩
  refine ⟨fun H C => Rp K H C (.ref a) (.list xs), h1, fun H C H' C' f g => f _ _ g, fun i H C g hi => ?_, fun i H C g hi => ?_, fun i H C x H' d g e y => ?_⟩
  · obtain ⟨vs, q1, q2⟩ := op g
    rw [enumD_len] at hi
    obtain ⟨v, e1, _⟩ := q2.get (List.getElem?_eq_getElem hi)
    exact ⟨vs, v, q1, e1⟩
  · obtain ⟨vs, q1, q2⟩ := op g
    rw [enumD_len] at hi
    exact ⟨vs, q1, by rw [q2.len]; exact hi⟩
  · obtain ⟨vs, q1, q2⟩ := op g
    obtain ⟨T, x1, rfl, nT, rfl, f1⟩ := y
    obtain ⟨d1, e1, rfl⟩ := enumD_get e
    obtain ⟨v, w1, w2⟩ := q2.get e1
    have z1 := f1 vs q1
    rw [w1] at z1; cases z1
    rw [Nat.zero_add]
    exact ⟨same_new nT, .tup (.inl upd_same) ((RpL.cons (.int _) (.cons w2 .nil)).same (same_new nT))⟩
def iEnumL (m : MA) : MA := fun s => (m s).bind fun q => match q.1 with
  | [.list xs] => some (enumD 0 xs, q.2)
  | _ => none
theorem di_enum {m : MA} {tpos : Pos} {elts : List Expr} {kk : Nat} (hm : X.mg "enumerate" = none) (ha : PA X [a] (tDA X.kw m)) (hg : Gl X "enumerate" := by rfl) (hs : starEach [a] X.env = [(false, eval a X.env)] := by rfl) :
    PI X (.Tuple elts kk tpos) (.Call (.Name "enumerate" p) [a] [] pos) (tDI X.kw (iEnumL m)) := PI.imp (pi_enum hg hm ha hs) fun σ H R q => by
  obtain ⟨B, γ, H0, s, ds, s', rl, e, k⟩ := q
  obtain ⟨⟨x, s1⟩, e1, e2⟩ := ob e
  refine ⟨B, γ, H0, s, x, s1, rl, e1, fun vs H1 a1 r1 => ?_⟩
  dsimp only at e2
  split at e2
  · obtain ⟨rfl, rfl⟩ := Prod.mk.inj (Option.some.inj e2)
    obtain ⟨v, rfl, h1⟩ := one_arg r1
    have h1' := h1
    cases h1 with
    | lst q1 _ _ => exact ⟨_, _, rfl, .inl q1, k _ H1 a1 (it_enum h1')⟩
  · cases e2
end
end DL
set_option Elab.async false
set_option linter.all false
set_option maxRecDepth 100000
set_option maxHeartbeats 4000000
namespace DL
open PySem PySem.Spec PyProof.Rows L2
theorem le_ne1 {a b : Nat} (h : b ≤ a) (e : b = a + 1) : False := by omega
theorem lt_ne1 {a b : Nat} (h : b < a) (e : b = a + 1) : False := by omega
abbrev newSetO (w : World) : Obj := { cls := .type "set", dict := none, data := .set #[] 0 (.fresh 0 0 (!w.params.followText "set-order")) }
section
variable {P : Program} {w : World} {A : Around} {E : Value → Shared → Prop} {s : Shared}
def AddsAt (P : Program) (w : World) (A : Around) (S : Addr) (at_ : Nat → Value → Prop) (Iv : Nat → Heap → Prop) : Prop :=
  ∀ (i : Nat) (v : Value) (s : Shared) (Q : Bool → Shared → Prop) (E : Value → Shared → Prop), at_ i v → Iv i s.heap → (∀ b h' tk, Heap.SameBut S s.heap h' → s.toks ≤ tk → Iv (i + 1) h' → Q b { s with heap := h', toks := tk }) → wpAny (model P w) A (setAdd S v) Q E s
theorem upd_loop {I : Addr} {fp wr : List Addr} {G : Array GenState → Array GenState → Prop} {n : Nat} {Pv : Nat → Value → Prop} {St : Nat → Shared → Prop} {R : Result → Shared → Prop}
    (W : WalksS P w A.in1 I fp wr G n Pv St) (S : Addr) (nS : S ∉ fp) (Iv : Nat → Heap → Prop) (mono : ∀ i h h', Iv i h → (∀ b o, b ∉ wr → h.get? b = some o → h'.get? b = some o) → Iv i h') (ad : AddsAt P w A.in1 S Pv Iv) :
    ∀ (k i : Nat) (s : Shared), n - i = k → i ≤ n → St i s → Iv i s.heap → (∀ s', Moved (S :: wr) G s s' → Iv n s'.heap → R (.ok (.ret .none)) s') → codeAny (model P w) A (.builtin "set.update.loop" ⟨[.ref S, .ref I], []⟩) R s := by
  have mo : ∀ b ∈ wr, b ∈ S :: wr := fun b z => List.mem_cons_of_mem S z
  intro k
  induction k with
  | zero =>
    intro i s ek li st iv fin
    have ei : i = n := by omega
    subst ei
    apply codeAny_builtin F.entry_set_update_loop
    rw [Around.under_plainId F.plain_set_update_loop _]
    show wpAny _ A.in1 (pyNext (.ref I) >>= _) _ _ s
    refine wpAny_bind (W.done s _ _ st fun s' m => ?_)
    show wpAny _ A.in1 (ret Value.none) _ _ s'
    exact wpAny_pure (fin s' (m.mono mo) (mono _ _ _ iv fun b o nb e => m.heap b o nb e))
  | succ k ih =>
    intro i s ek li st iv fin
    have lt : i < n := by omega
    apply codeAny_builtin F.entry_set_update_loop
    rw [Around.under_plainId F.plain_set_update_loop _]
    show wpAny _ A.in1 (pyNext (.ref I) >>= _) _ _ s
    refine wpAny_bind (W.item i s _ _ lt st fun v s1 pv st1 m => ?_)
    show wpAny _ A.in1 (holding [v] (setAdd S v) >>= _) _ _ s1
    refine wpAny_bind (wpAny_holding (ad i v s1 _ _ pv (mono _ _ _ iv fun b o nb e => m.heap b o nb e) fun b h2 tk sb le iv2 => ?_))
    refine wpAny_pure ⟨plainId_quiet F.plain_set_update_loop _, ih (i + 1) _ (by omega) lt (W.frame _ s1 _ _ st1 le fun b hb o e => ?_) iv2 fun s3 m3 iv3 => ?_⟩
    · rw [sb.2 b fun z => nS (z ▸ hb)]
      exact e
    · refine fin s3 (Moved.trans W.gtrans ((m.mono mo).then_heap le fun b o hb e => ?_) m3) iv3
      rw [sb.2 b fun z => hb (by rw [z]; exact List.mem_cons_self)]
      exact e
theorem call_set_by {l : Addr} {items : Array Value} {Q : Value → Shared → Prop} (hh : A.handled = none) (hl : s.heap.IsList l items) (Iv : Nat → Heap → Prop)
    (mono : ∀ i h h', Iv i h → (∀ b o, b ≤ s.heap.objs.size → h.get? b = some o → h'.get? b = some o) → Iv i h') (start : Iv 0 (s.heap.push (newSetO w)))
    (ad : ∀ A' : Around, A'.units ≤ A.units + 5 → AddsAt P w A' s.heap.objs.size (fun i v => items[i]? = some v) Iv)
    (fin : ∀ (h' : Heap) (tk : Nat), Iv items.size h' → (∀ b o, s.heap.get? b = some o → h'.get? b = some o) → Q (.ref s.heap.objs.size) { s with heap := h', toks := tk }) : wpAny (model P w) A (call (.type "set") [.ref l]) Q E s := by
  obtain ⟨cc, tl, mro⟩ := F.called_set.mro
  have f1 := F.called_set.made
  have f2 := F.called_set.sub
  apply wpAny_call
  apply codeAny_of_tree
  show wpAny _ _ (callAny (.type "set") _) _ _ _
  refine wpAny_pure ⟨Code.quiet_builtin _ (by decide +kernel), ?_⟩
  apply codeAny_builtin F.entry_type_call
  rw [Around.under_plain (weight_type_call_type "set" [.ref l] []) rfl]
  have f3 := F.called_set.notType
  have f4 := F.called_set.canCreate
  have f5 := F.typeCall_set_1 (.ref l)
  repeat (any_goals (first | wp_step | assumption))
  refine codeAny_mono (L2.code_set_led1 (.ref l) (E := E) (Q₁ := fun ob s1 => ob = .ref s.heap.objs.size ∧ s1 = { s with heap := s.heap.push (newSetO w) }) ⟨rfl, rfl⟩) fun r s1 hr => ?_
  rcases r with er | fl
  · exact hr
  cases fl with
  | ret ob =>
    obtain ⟨rfl, rfl⟩ := hr
    have gS : (s.heap.push (newSetO w)).get? s.heap.objs.size = some (newSetO w) := Heap.get?_push_size _ rfl
    have tyS : Shared.TypeIs { s with heap := s.heap.push (newSetO w) } (.ref s.heap.objs.size) "set" := ⟨_, gS, rfl⟩
    have f6 := F.called_set.init.lookup
    have f7 := F.called_set.init.bind (.ref s.heap.objs.size)
    repeat (any_goals (first | wp_step | assumption))
    refine codeAny_mono (codeAny_call_builtin (R := wants (fun r s2 => r = .none ∧ ∃ h' tk, s2 = { s with heap := h', toks := tk } ∧ Iv items.size h' ∧ ∀ b o, s.heap.get? b = some o → h'.get? b = some o) E) F.called_set.init.plain F.entry_set_init (check_set_init_1 tyS ?_)) fun r2 s2 hr2 => ?_
    · obtain ⟨ol, gl, cl, nl, dl⟩ := hl
      obtain ⟨oc, od, oda, os⟩ := ol
      simp only at cl dl
      subst cl
      subst dl
      have gl2 : (s.heap.push (newSetO w)).get? l = some { cls := .type "list", dict := od, data := .seq items nl, slots := os } := Heap.get?_push_of_some _ gl
      have f8 := F.sub_list_set
      have f9 := F.sub_list_frozenset
      have f10 : (Value.type "list" == Value.type "dict") = false := by decide
      have il : (s.heap.push (newSetO w)).IsList l items := ⟨_, gl2, rfl, nl, rfl⟩
      unfold Builtin.«set.__init__» noKeywords Builtin.Frozenset.updateFrom
      generalize hPI : pyIter = PI
      wp_walk
      subst hPI
      refine wpAny_pyIter_list il (wpAny_bind (wpAny_runValue ?_))
      have lS : l < s.heap.objs.size := Heap.lt_size gl
      have szp : (s.heap.push (newSetO w)).objs.size = s.heap.objs.size + 1 := Heap.size_push ..
      have ne1 : l ≠ (s.heap.push (newSetO w)).objs.size := by
        rw [szp]
        exact Nat.ne_of_lt (Nat.lt_succ_of_lt lS)
      have ni : s.heap.objs.size ∉ [(s.heap.push (newSetO w)).objs.size, l] := by
        rw [szp]
        simp only [List.mem_cons, List.not_mem_nil, or_false, not_or]
        exact ⟨Nat.ne_of_lt (Nat.lt_succ_self _), Nat.ne_of_gt lS⟩
      refine upd_loop ((Walks.list (by simp [hh]) _ l ne1 items).toS) s.heap.objs.size ni Iv (fun i h h' iv kp => mono i h h' iv fun b o hb e => kp b o (fun z => ?_) e) (ad _ ?_) (items.size - 0) 0 _ (by omega) (Nat.zero_le _) ⟨⟨_, Heap.get?_push_size _ rfl, rfl, rfl⟩, il.push _⟩ ?_ ?_
      · have z' := List.mem_singleton.mp z
        rw [szp] at z'
        exact le_ne1 hb z'
      · show A.units + 1 + 1 + 1 ≤ A.units + 5
        omega
      · exact mono 0 _ _ start fun b o hb e => Heap.get?_push_of_some _ e
      · intro s3 m3 iv3
        obtain ⟨h3, g3, d3, tk3, os3⟩ := s3
        have q1 : g3 = s.gens := m3.gens
        have q2 : d3 = s.drawn := m3.drawn
        have q3 : os3 = s.os := m3.os
        subst q1
        subst q2
        subst q3
        show wpAny _ _ _ _ _ _
        refine wpAny_pure ?_
        show wpAny _ _ (ret Value.none) _ _ _
        refine wpAny_pure ⟨rfl, h3, tk3, rfl, iv3, fun b o e => m3.heap b o (fun z => ?_) (Heap.get?_push_of_some _ (Heap.get?_push_of_some _ e))⟩
        have lb : b < s.heap.objs.size := Heap.lt_size e
        rcases List.mem_cons.mp z with z | z
        · exact Nat.ne_of_lt lb z
        · have z' := List.mem_singleton.mp z
          rw [szp] at z'
          exact lt_ne1 lb z'
    · rcases r2 with er | fl2
      · exact hr2
      cases fl2 with
      | ret rv =>
        obtain ⟨rfl, h2, tk, rfl, iv2, kp⟩ := hr2
        repeat (any_goals (first | wp_step | assumption))
        exact fin _ _ iv2 kp
      | _ => exact hr2.elim
  | _ => exact hr.elim
theorem call_set_byT {l : Addr} {items : Array Value} {Q : Value → Shared → Prop} (hh : A.handled = none) (hl : s.heap.IsTuple l items) (Iv : Nat → Heap → Prop)
    (mono : ∀ i h h', Iv i h → (∀ b o, b ≤ s.heap.objs.size → h.get? b = some o → h'.get? b = some o) → Iv i h') (start : Iv 0 (s.heap.push (newSetO w)))
    (ad : ∀ A' : Around, A'.units ≤ A.units + 5 → AddsAt P w A' s.heap.objs.size (fun i v => items[i]? = some v) Iv)
    (fin : ∀ (h' : Heap) (tk : Nat), Iv items.size h' → (∀ b o, s.heap.get? b = some o → h'.get? b = some o) → Q (.ref s.heap.objs.size) { s with heap := h', toks := tk }) : wpAny (model P w) A (call (.type "set") [.ref l]) Q E s := by
  obtain ⟨cc, tl, mro⟩ := F.called_set.mro
  have f1 := F.called_set.made
  have f2 := F.called_set.sub
  apply wpAny_call
  apply codeAny_of_tree
  show wpAny _ _ (callAny (.type "set") _) _ _ _
  refine wpAny_pure ⟨Code.quiet_builtin _ (by decide +kernel), ?_⟩
  apply codeAny_builtin F.entry_type_call
  rw [Around.under_plain (weight_type_call_type "set" [.ref l] []) rfl]
  have f3 := F.called_set.notType
  have f4 := F.called_set.canCreate
  have f5 := F.typeCall_set_1 (.ref l)
  repeat (any_goals (first | wp_step | assumption))
  refine codeAny_mono (L2.code_set_led1 (.ref l) (E := E) (Q₁ := fun ob s1 => ob = .ref s.heap.objs.size ∧ s1 = { s with heap := s.heap.push (newSetO w) }) ⟨rfl, rfl⟩) fun r s1 hr => ?_
  rcases r with er | fl
  · exact hr
  cases fl with
  | ret ob =>
    obtain ⟨rfl, rfl⟩ := hr
    have gS : (s.heap.push (newSetO w)).get? s.heap.objs.size = some (newSetO w) := Heap.get?_push_size _ rfl
    have tyS : Shared.TypeIs { s with heap := s.heap.push (newSetO w) } (.ref s.heap.objs.size) "set" := ⟨_, gS, rfl⟩
    have f6 := F.called_set.init.lookup
    have f7 := F.called_set.init.bind (.ref s.heap.objs.size)
    repeat (any_goals (first | wp_step | assumption))
    refine codeAny_mono (codeAny_call_builtin (R := wants (fun r s2 => r = .none ∧ ∃ h' tk, s2 = { s with heap := h', toks := tk } ∧ Iv items.size h' ∧ ∀ b o, s.heap.get? b = some o → h'.get? b = some o) E) F.called_set.init.plain F.entry_set_init (check_set_init_1 tyS ?_)) fun r2 s2 hr2 => ?_
    · obtain ⟨ol, gl, cl, nl, dl⟩ := hl
      obtain ⟨oc, od, oda, os⟩ := ol
      simp only at cl dl
      subst cl
      subst dl
      have gl2 : (s.heap.push (newSetO w)).get? l = some { cls := .type "tuple", dict := od, data := .seq items nl, slots := os } := Heap.get?_push_of_some _ gl
      have f8 := F.sub_tuple_set
      have f9 := F.sub_tuple_frozenset
      have f10 : (Value.type "tuple" == Value.type "dict") = false := by decide
      have il : (s.heap.push (newSetO w)).IsTuple l items := ⟨_, gl2, rfl, nl, rfl⟩
      unfold Builtin.«set.__init__» noKeywords Builtin.Frozenset.updateFrom
      generalize hPI : pyIter = PI
      wp_walk
      subst hPI
      refine wpAny_pyIter_tuple il (wpAny_bind (wpAny_runValue ?_))
      have lS : l < s.heap.objs.size := Heap.lt_size gl
      have szp : (s.heap.push (newSetO w)).objs.size = s.heap.objs.size + 1 := Heap.size_push ..
      have ne1 : l ≠ (s.heap.push (newSetO w)).objs.size := by
        rw [szp]
        exact Nat.ne_of_lt (Nat.lt_succ_of_lt lS)
      have ni : s.heap.objs.size ∉ [(s.heap.push (newSetO w)).objs.size, l] := by
        rw [szp]
        simp only [List.mem_cons, List.not_mem_nil, or_false, not_or]
        exact ⟨Nat.ne_of_lt (Nat.lt_succ_self _), Nat.ne_of_gt lS⟩
      refine upd_loop ((Walks.tuple (by simp [hh]) _ l ne1 items).toS) s.heap.objs.size ni Iv (fun i h h' iv kp => mono i h h' iv fun b o hb e => kp b o (fun z => ?_) e) (ad _ ?_) (items.size - 0) 0 _ (by omega) (Nat.zero_le _) ⟨⟨_, Heap.get?_push_size _ rfl, rfl, rfl⟩, il.push _⟩ ?_ ?_
      · have z' := List.mem_singleton.mp z
        rw [szp] at z'
        exact le_ne1 hb z'
      · show A.units + 1 + 1 + 1 ≤ A.units + 5
        omega
      · exact mono 0 _ _ start fun b o hb e => Heap.get?_push_of_some _ e
      · intro s3 m3 iv3
        obtain ⟨h3, g3, d3, tk3, os3⟩ := s3
        have q1 : g3 = s.gens := m3.gens
        have q2 : d3 = s.drawn := m3.drawn
        have q3 : os3 = s.os := m3.os
        subst q1
        subst q2
        subst q3
        show wpAny _ _ _ _ _ _
        refine wpAny_pure ?_
        show wpAny _ _ (ret Value.none) _ _ _
        refine wpAny_pure ⟨rfl, h3, tk3, rfl, iv3, fun b o e => m3.heap b o (fun z => ?_) (Heap.get?_push_of_some _ (Heap.get?_push_of_some _ e))⟩
        have lb : b < s.heap.objs.size := Heap.lt_size e
        rcases List.mem_cons.mp z with z | z
        · exact Nat.ne_of_lt lb z
        · have z' := List.mem_singleton.mp z
          rw [szp] at z'
          exact lt_ne1 lb z'
    · rcases r2 with er | fl2
      · exact hr2
      cases fl2 with
      | ret rv =>
        obtain ⟨rfl, h2, tk, rfl, iv2, kp⟩ := hr2
        repeat (any_goals (first | wp_step | assumption))
        exact fin _ _ iv2 kp
      | _ => exact hr2.elim
  | _ => exact hr.elim
end
end DL
set_option Elab.async false
set_option linter.all false
set_option maxRecDepth 100000
set_option maxHeartbeats 4000000
namespace DL
open PySem PySem.Spec PyProof.Rows L2
section
variable {X : Cx} {x : Str} {p pos : Pos} {e a b : Expr} {es : List Expr}
end
end DL
set_option Elab.async false
set_option linter.all false
set_option maxRecDepth 100000
set_option maxHeartbeats 4000000
namespace DL
open PySem PySem.Spec PyProof.Rows L2
section
variable {X : Cx} {x : Str} {p pos : Pos} {e a b : Expr} {es rest : List Expr} {k : Nat} {F : FM}
def mOrL (m n : MA) : MA := fun s => (m s).bind fun q => if q.1.isEmpty then n q.2 else some q
theorem dl_or {m n : MA} (ha : PE X a (tDL X.kw m)) (hb : PE X (.BoolOp .Or (b :: rest) pos) (tDL X.kw n)) : PE X (.BoolOp .Or (a :: b :: rest) pos) (tDL X.kw (mOrL m n)) := PE.imp (pe_orT ha hb) fun σ H Q q => by
  obtain ⟨B, γ, H0, s, d, s', rl, e, k⟩ := q
  obtain ⟨⟨xs, s1⟩, e1, e2⟩ := ob e
  refine ⟨B, γ, H0, s, xs, s1, rl, e1, fun p vs H1 r1 mv1 hp h1 h2 => ⟨!vs.isEmpty, .inl ⟨vs, .inl (.inl h1), rfl⟩, ?_⟩⟩
  have em := h2.emp
  split at e2
  · rename_i he
    rw [em, show xs.isEmpty = true from he]
    have sb : ∀ a, Bh B σ s1.sl a → Bh (Bp B p) σ s1.sl a := fun a z => z.imp .inl id
    refine iteF ⟨B, γ, H0, s1, d, s', r1.unB (fun a z => .inl z) rl.gB, e2, fun p2 vs2 H2 r2 mv2 hp2 h3 h4 => k p2 vs2 H2 r2 ⟨fun v dd r => mv2.frm _ _ ((mv1.frm v dd r).sub sb), fun b o hb hg eb => mv2.pv b o hb hg (mv1.pv b o hb hg eb), fun b hb => mv2.dom b (mv1.dom b hb)⟩ ?_ h3 h4⟩
    cases q : H p2 with
    | none => rfl
    | some o => exact absurd hp2 (mv1.dom p2 (by rw [q]; intro z; cases z))
  · rename_i he
    obtain ⟨rfl, rfl⟩ := Prod.mk.inj (Option.some.inj e2)
    have he' : xs.isEmpty = false := by
      cases hx : xs.isEmpty with
      | true => exact absurd hx he
      | false => rfl
    rw [em, he']
    exact iteT (k p vs H1 r1 mv1 hp h1 h2)
theorem dl_one {op} {m : MA} (h : PE X a (tDL X.kw m)) : PE X (.BoolOp op [a] pos) (tDL X.kw m) := pe_one h
def boolD : Dt → Option Bool
  | .bool b => some b
  | _ => none
theorem boolD_rp {K : KW} {H : Hp} {B : Bad} {v : V} {d : Dt} {c : Bool} (r : Rp K H B v d) (h : boolD d = some c) : v = .bl c := by
  cases r with
  | bl b => cases h; rfl
  | _ => cases h
def mTst (m : MD) : MT := fun s => (m s).bind fun q => (boolD q.1).map fun c => (c, q.2)
theorem dt_cmp {op : CmpOp} {f : Dt → Dt → Option Dt} {ma mb : MD} (ho : OpD X (compareOp op) f) (ha : PE X a (tD X.kw ma)) (hb : PE X b (tD X.kw mb)) (hm : behindInMarks op b = false) : PT X (.Compare a [op] [b] pos) (tDT X.kw (mTst (mBin f ma mb))) := by
  obtain ⟨r, h1, h2⟩ := ho.ex
  refine PT.imp (pt_cmpR h1 ha hb hm) fun σ H Q q => ?_
  obtain ⟨B, γ, H0, s, d, s', rl, e, k⟩ := q
  obtain ⟨⟨x, s1⟩, e1, e2⟩ := ob e
  obtain ⟨c, e3, e4⟩ := om e2
  obtain ⟨rfl, rfl⟩ := Prod.mk.inj e4
  exact bin_go (g := compareOp op) h2 ⟨B, γ, H0, s, x, s1, rl, e1, fun v H1 a1 r1 => ⟨c, boolD_rp r1 e3, k H1 a1⟩⟩
def mCall0 (F : FM) : MD := fun s => (F [] none).map fun r => (r.1.dt, s)
theorem de_call0 (G : FnD X.prog X.w X.kw X.mg X.base x k F) (hr : Room k X.A) (hg : Gl X x := by rfl) (hdb : (x == ("__debug__" : Str)) = false := by decide) : PE X (.Call (.Name x p) [] [] pos) (tD X.kw (mCall0 F)) := by
  obtain ⟨f, fd, ps, hF, hm, hk, hb⟩ := G.ex
  refine PE.imp (PE.lk (pe_call0 hF hr hg hm hk hb .nil pass0 hdb)) fun σ H Q q => ?_
  obtain ⟨B, γ, H0, s, d, s', rl, e, kk⟩ := q
  obtain ⟨⟨r, u⟩, e3, e4⟩ := om e
  obtain ⟨rfl, rfl⟩ := Prod.mk.inj e4
  have h := call_pureV (X := X) (F := F) (Q := Q) (E := E0) (Aft.refl rl) (vs := []) (as := []) .nil e3 (fun v H' sm rv => kk v H' ((Aft.refl rl).samx sm) rv)
  exact h
def mCallN (F : FM) (m : MA) : MD := fun s => (m s).bind fun q => (intsD q.1).bind fun ns => (F [.urn] (some ns)).map fun r => (r.1.dt, q.2)
theorem de_callN {m : MA} (G : FnD X.prog X.w X.kw X.mg X.base x k F) (hr : Room k X.A) (ha : PE X e (tDL X.kw m)) (hg : Gl X x := by rfl) (hdb : (x == ("__debug__" : Str)) = false := by decide)
    (he : starEach [e] X.env = (false, eval e X.env) :: starEach [] X.env := by rfl) : PE X (.Call (.Name x p) [e] [] pos) (tD X.kw (mCallN F m)) := by
  obtain ⟨f, fd, ps, hF, hm, hk, hb⟩ := G.ex
  refine PE.imp (PE.lk (pe_call hF hr hg hm hk hb .nil pass0 (pa_cons ha pa_nil he) hdb he rfl)) fun σ H Q q => ?_
  obtain ⟨B, γ, H0, s, d, s', rl, e, kk⟩ := q
  obtain ⟨⟨ds, s1⟩, e1, e2⟩ := ob e
  obtain ⟨ns, e3, e4⟩ := ob e2
  obtain ⟨⟨r, u⟩, e5, e6⟩ := om e4
  obtain ⟨rfl, rfl⟩ := Prod.mk.inj e6
  refine ⟨B, γ, H0, s, ds, s1, rl, e1, fun p vs H1 r1 mv1 hp h1 h2 => ?_⟩
  have ed := intsD_eq e3
  subst ed
  rw [h2.ints] at h1
  have hu : UrOk H1 (some p) (some ns) := fun q eq => by cases eq; exact ⟨ns, rfl, h1⟩
  have hC : ∀ q, some p = some q → Bh (Bp B p) σ s1.sl q := fun q eq => by cases eq; exact .inl (.inr rfl)
  have gp : γ ≠ some p := fun z => rl.bd p (rl.gB p z) hp
  show spD X.kw F ([V.ref p] ++ []) H1 (fun v H' => Lks (Q v) H') E0
  rw [List.append_nil]
  refine ⟨Bh (Bp B p) σ s1.sl, some p, [.urn], some ns, r, u, .cons (.urn rfl) .nil, hu, hC, r1.bdh, e5, fun v H0' rt0 => rt0.lk r1.bdh hC fun H' rt => ?_⟩
  have frm1 := keep_frm (K := X.kw) (C := Bh (Bp B p) σ s1.sl) hC hu.isl rt.keep
  have sb : ∀ a, Bh B σ s1.sl a → Bh (Bp B p) σ s1.sl a := fun a z => z.imp .inl id
  have keepB : ∀ b o, (B b ∨ Ow σ s1.sl b) → Nx γ b o → H1 b = some o → H' b = some o := fun b o hb hg eb => by
    refine rt.keep.at_ b o eb ⟨fun y => ?_, hg.m⟩
    cases y
    rcases hb with hb | ⟨i, es, z1, zm, z2⟩
    · exact rl.bd p hb hp
    · obtain ⟨q, ws, q1, q2, _, q4, q5⟩ := r1.mine z1 zm
      rw [z2] at q1; cases q1
      exact q4 (.inr rfl)
  have hr2 : Rel X.kw (Bp B p) γ H0 σ H' { s1 with ur := s1.ur } := by
    refine r1.to frm1 (fun b hb => ?_) (fun q eq => ?_) (fun q eq => .inl (rl.gB q eq)) (fun a ha => rt.keep.evo.dm a (r1.bd a ha)) ⟨fun b o eb hg => ?_, r1.ev.trans rt.keep.evo⟩
    · obtain ⟨i, es, z1, zm, z2⟩ := hb
      obtain ⟨q, ws, q1, q2, _, q4, q5⟩ := r1.mine z1 zm
      rw [z2] at q1; cases q1
      exact ⟨fun o eo => keepB b o (.inr ⟨i, es, z1, zm, z2⟩) ⟨fun g => q4 (.inl (rl.gB b g)), r1.ownN ⟨i, es, z1, zm, z2⟩ eo⟩ eo, q4⟩
    · obtain ⟨ms, q1, q2⟩ := r1.ur q eq
      exact ⟨ms, q1, rt.keep.at_ q _ q2 ⟨fun y => gp (by rw [eq, Option.some.inj y]), me_lst⟩⟩
    · refine rt.keep.at_ b o (r1.ent b o eb hg) ⟨fun y => ?_, hg.m⟩
      cases y
      rw [rl.h0 hp] at eb
      cases eb
  exact kk v H' ⟨hr2.unB (fun a z => .inl z) rl.gB, ⟨fun v dd r => (frm1 _ _ (mv1.frm v dd r)).sub sb, fun b o hb hg eb => keepB b o (.inl hb) hg (mv1.pv b o hb hg eb), fun b hb => rt.keep.evo.dm b (mv1.dom b hb)⟩⟩ (Rp.sub (show Rp X.kw H' _ v r.dt from rt.rv) sb)
def dRev : Dt → Option Dt
  | .list xs => some (.list xs.reverse)
  | _ => none
theorem RpL.rev {K : KW} {B : Bad} {H : Hp} : ∀ {vs : List V} {ds : List Dt}, RpL K H B vs ds → RpL K H B vs.reverse ds.reverse
  | _, _, .nil => .nil
  | _, _, .cons h r => by
    rw [List.reverse_cons, List.reverse_cons]
    exact (RpL.rev r).append (.cons h .nil)
theorem de_rev {m : MD} {kc : Nat} {p1 p2 p3 : Pos} (h : PE X e (tD X.kw m)) : PE X (.Subscript e (.Slice none none (some (.UnaryOp .USub (.Constant (.int 1) kc p1) p2)) p3) pos) (tD X.kw (mUn dRev m)) :=
  PE.imp (pe_revL h) fun σ H Q q => by
    obtain ⟨B, γ, H0, s, d, s', rl, e, k⟩ := q
    obtain ⟨⟨x, s1⟩, e1, e2⟩ := ob e
    obtain ⟨z, e5, e6⟩ := om e2
    obtain ⟨rfl, rfl⟩ := Prod.mk.inj e6
    refine ⟨B, γ, H0, s, x, s1, rl, e1, fun v1 H1 a1 r1 => ?_⟩
    cases r1 with
    | lst h1 n h3 =>
      cases e5
      exact ⟨_, _, rfl, .inl h1, fun p hp => k _ _ (a1.same (same_new hp)) (.lst (.inl upd_same) (fun z => a1.rel.bdh p z hp) (h3.rev.same (same_new hp)))⟩
    | _ => cases e5
def dMul : Dt → Dt → Option Dt := dMulI
theorem od_mul : OpD X (binaryOp .Mult) dMul := od_mulI
def dSS (f : Str → Str → Bool) : Dt → Dt → Option Dt
  | .str x, .str y => some (.bool (f x y))
  | _, _ => none
theorem od_SS {g : Value → Value → Sem Value} {f : Str → Str → Bool} (h : OpR X g (fun x y H Q => ∃ i j, x = .str i ∧ y = .str j ∧ Q (.bl (f i j)) H)) : OpD X g (dSS f) := ⟨_, h, fun B H x y dx dy d Q rx ry bd e k => by
  unfold dSS at e
  split at e
  · cases e
    cases rx
    cases ry
    exact ⟨_, _, rfl, rfl, k _ H (Same.refl H) (.bl _)⟩
  · cases e⟩
def dLt (x y : Dt) : Option Dt := (dLtI x y).or (dSS (fun x y => decide (x.cps.toList < y.cps.toList)) x y)
def dGt (x y : Dt) : Option Dt := (dGtI x y).or (dSS (fun x y => decide (y.cps.toList < x.cps.toList)) x y)
def dGe : Dt → Dt → Option Dt := dGeI
theorem od_lt : OpD X (compareOp .Lt) dLt := od_ltI.or (od_SS op_lt_str)
theorem od_gt : OpD X (compareOp .Gt) dGt := od_gtI.or (od_SS op_gt_str)
theorem od_ge : OpD X (compareOp .GtE) dGe := od_geI
end
section
variable {P : Program} {w : World} {K : PySem.W.Frag} {mg : Str → Option Value} {base : Heap}
theorem fnD_none {x qual : Str} {st : Stmt} {f : Addr} {fd : FuncData} {N ps : List Str} {k : Nat} (F : Fun K x qual st f fd) (S : FnScope N ps (defScope st)) (hm : mg x = some (.ref f)) (hb : Binds K fd ps []) : FnD P w K mg base x (k + 1) (fun _ _ => none) :=
  ⟨f, fd, ps, F.ok S (fun vs H Q E h => by
    obtain ⟨C, γ, as, u, r, u', _, _, _, _, h5, _⟩ := h
    cases h5) (fun cdv A outer s H vs Q E hr h => by
    obtain ⟨C, γ, as, u, r, u', _, _, _, _, h5, _⟩ := h
    cases h5), hm, F.kp, hb⟩
theorem FnD.ok {x : Str} {k : Nat} {F : FM} (G : FnD P w K mg base x k F) : ∃ f fd ps, FnOk P w K mg base CX0 k f fd ps (spD ⟨K, w, mg⟩ F) ∧ mg x = some (.ref f) := let ⟨f, fd, ps, h1, h2, _⟩ := G.ex; ⟨f, fd, ps, h1, h2⟩
end
end DL
set_option Elab.async false
set_option linter.all false
set_option maxRecDepth 100000
set_option maxHeartbeats 4000000
namespace DL
open PySem PySem.Spec PyProof.Rows L2
theorem law_end {K : KW} {H : Hp} {a : Addr} {ns : List Int} {F : FM} {E : XK} (hO : Only H) (hS : SqL K H a (ns.map V.int)) (hF : F [.val (scrD ns)] none = some (.val (.bool true), none)) : spD K F [.ref a] H (fun v _ => v = .bl true) E := by
  have hq : Sq K H a ns := by
    rcases hS with (h | h) | h
    · rcases hO a with z | ⟨o, xs, z⟩
      · rw [z] at h; cases h
      · rw [z] at h; cases h
    · exact .inl h
    · exact .inr h
  refine ⟨fun _ => False, none, [.val (scrD ns)], none, _, _, .cons (.val (.scr hq)) .nil, (fun p e => nomatch e), (fun p e => nomatch e), (fun a z => z.elim), hF, fun v H' rt => ?_⟩
  have h := rt.rv
  cases h with
  | bl b => rfl
def spLaw (K : PySem.W.Frag) : Sp := fun vs H Q _ => ∃ (a : Addr) (ns : List Int), vs = [.ref a] ∧ ns.length ≤ 63 ∧ Only H ∧ SqL K H a (ns.map V.int) ∧ ∀ H', Q (.bl true) H'
theorem law_imp {K : KW} {F : FM} (plain : ∀ ns : List Int, ns.length ≤ 63 → F [.val (scrD ns)] none = some (.val (.bool true), none)) : ∀ vs H Q E, spLaw K.F vs H Q E → spD K F vs H Q E := fun vs H Q E h => by
  obtain ⟨a, ns, rfl, hl, hO, hS, k⟩ := h
  obtain ⟨C, γ, as, u, r, u', h1, h2, h3, h4, h5, h6⟩ := law_end (K := K) (E := E) hO hS (plain ns hl)
  exact ⟨C, γ, as, u, r, u', h1, h2, h3, h4, h5, fun v H' rt => by
    have e := h6 v H' rt
    rw [e]
    exact k H'⟩
end DL
set_option Elab.async false
set_option linter.all false
set_option maxRecDepth 100000
set_option maxHeartbeats 4000000
namespace DL
open PySem PySem.Spec PyProof.Rows L2
section
variable {s s1 s2 s3 : Stt} {x y z d : Dt} {ds es : List Dt} {f f' : Dt → Dt → Option Dt} {ma mb mc m : MD} {mt nt : MT} {mr : MA} {b c : Bool} {F : FM} {r : RV} {u : Ur} {ms ns : MS} {o : Fl} {i : Nat}
theorem e_bin (h1 : ma s = some (x, s1)) (h2 : mb s1 = some (y, s2)) (h3 : f x y = some z) : mBin f ma mb s = some (z, s2) := by
  unfold mBin
  rw [h1, Option.bind_some, h2, Option.bind_some, h3] <;> rfl
theorem e_un {g : Dt → Option Dt} (h1 : ma s = some (x, s1)) (h3 : g x = some z) : mUn g ma s = some (z, s1) := by
  unfold mUn
  rw [h1, Option.bind_some, h3] <;> rfl
theorem e_fn {g : List Dt → Option Dt} (h1 : mr s = some (ds, s1)) (h2 : g ds = some d) : mFn g mr s = some (d, s1) := by
  unfold mFn
  rw [h1, Option.bind_some, h2] <;> rfl
theorem e_fnL {g : List Dt → Option (List Dt)} (h1 : mr s = some (ds, s1)) (h2 : g ds = some es) : mFnL g mr s = some (es, s1) := by
  unfold mFnL
  rw [h1, Option.bind_some, h2] <;> rfl
theorem e_cons (h1 : m s = some (d, s1)) (h2 : mr s1 = some (ds, s2)) : mCons m mr s = some (d :: ds, s2) := by
  unfold mCons
  rw [h1, Option.bind_some, h2] <;> rfl
theorem e_star (h1 : m s = some (d, s1)) (h2 : lisD d = some es) (h3 : mr s1 = some (ds, s2)) : mStar m mr s = some (es ++ ds, s2) := by
  unfold mStar
  rw [h1, Option.bind_some, h2, Option.bind_some, h3] <;> rfl
theorem fits_ok {ds : List Dt} (h : ds.length ≤ 100000) : fits ds = true := decide_eq_true (Nat.le_trans h (by decide))
theorem e_tup (h1 : mr s = some (ds, s1)) (h2 : ds.length ≤ 100000) : mTup mr s = some (.tuple ds, s1) := by
  unfold mTup
  rw [h1, Option.bind_some]
  exact if_pos (fits_ok h2)
theorem e_lst (h1 : mr s = some (ds, s1)) (h2 : ds.length ≤ 100000) : mLst mr s = some (ds, s1) := by
  unfold mLst
  rw [h1, Option.bind_some]
  exact if_pos (fits_ok h2)
theorem e_ofL (h1 : mr s = some (ds, s1)) : mOfL mr s = some (.list ds, s1) := by
  unfold mOfL
  rw [h1] <;> rfl
theorem e_ixN (h1 : mb s = some (y, s1)) (h2 : slotD s s1 i = some x) (h3 : dIx x y = some z) : mIxN i mb s = some (z, s1) := by
  unfold mIxN
  rw [h1, Option.bind_some, h2, Option.bind_some, h3] <;> rfl
theorem e_lenN (h2 : slotD s s i = some x) (h3 : fLen [x] = some z) : mLenN i s = some (z, s) := by
  unfold mLenN
  rw [h2, Option.bind_some, h3] <;> rfl
theorem e_call (h1 : mr s = some (ds, s1)) (h2 : F (ds.map .val) none = some (r, u)) : mCall F mr s = some (r.dt, s1) := by
  unfold mCall
  rw [h1, Option.bind_some, h2] <;> rfl
theorem e_callL (h1 : mr s = some (ds, s1)) (h2 : F (ds.map .val) none = some (.new es, u)) : mCallL F mr s = some (es, s1) := by
  unfold mCallL
  rw [h1, Option.bind_some, h2] <;> rfl
theorem e_call0 (h2 : F [] none = some (r, u)) : mCall0 F s = some (r.dt, s) := by
  unfold mCall0
  rw [h2] <;> rfl
variable {mv : Stt → Option (List AV × Stt)} {as : List AV}
theorem e_callU (h1 : mv s = some (as, s1)) (h2 : F as s1.ur = some (r, u)) : mCallU F mv s = some (r.dt, { s1 with ur := u }) := by
  unfold mCallU
  rw [h1, Option.bind_some, h2] <;> rfl
theorem e_callUL (h1 : mv s = some (as, s1)) (h2 : F as s1.ur = some (.new es, u)) : mCallUL F mv s = some (es, { s1 with ur := u }) := by
  unfold mCallUL
  rw [h1, Option.bind_some, h2] <;> rfl
theorem e_callN {ks : List Int} (h1 : mr s = some (ds, s1)) (h0 : intsD ds = some ks) (h2 : F [.urn] (some ks) = some (r, u)) : mCallN F mr s = some (r.dt, s1) := by
  unfold mCallN
  rw [h1, Option.bind_some, h0, Option.bind_some, h2] <;> rfl
theorem e_ccons (h1 : m s = some (d, s1)) (h2 : mv s1 = some (as, s2)) : cCons m mv s = some (.val d :: as, s2) := by
  unfold cCons
  rw [h1, Option.bind_some, h2] <;> rfl
theorem e_curn (h1 : s.sl[i]? = some (some .urn)) (h2 : mv s = some (as, s2)) : cUrn i mv s = some (.urn :: as, s2) := by
  unfold cUrn
  rw [h1]
  show (mv s).map _ = _
  rw [h2] <;> rfl
theorem e_tst (h1 : m s = some (.bool b, s1)) : mTst m s = some (b, s1) := by
  unfold mTst
  rw [h1] <;> rfl
theorem e_tru (h1 : m s = some (d, s1)) (h2 : dTru d = some b) : mTru m s = some (b, s1) := by
  unfold mTru
  rw [h1, Option.bind_some, h2] <;> rfl
theorem e_notT (h1 : mt s = some (b, s1)) : mNotT mt s = some (!b, s1) := by
  unfold mNotT
  rw [h1] <;> rfl
theorem e_andT (h1 : mt s = some (b, s1)) (hb : b = true) (h2 : nt s1 = some (c, s2)) : mAndT mt nt s = some (c, s2) := by
  unfold mAndT
  rw [h1, Option.bind_some, if_pos hb, h2]
theorem e_andF (h1 : mt s = some (b, s1)) (hb : b = false) : mAndT mt nt s = some (false, s1) := by
  unfold mAndT
  rw [h1, Option.bind_some, if_neg (by rw [show b = false from hb]; exact Bool.false_ne_true)]
theorem e_orT (h1 : mt s = some (b, s1)) (hb : b = true) : mOrT mt nt s = some (true, s1) := by
  unfold mOrT
  rw [h1, Option.bind_some, if_pos hb]
theorem e_orF (h1 : mt s = some (b, s1)) (hb : b = false) (h2 : nt s1 = some (c, s2)) : mOrT mt nt s = some (c, s2) := by
  unfold mOrT
  rw [h1, Option.bind_some, if_neg (by rw [show b = false from hb]; exact Bool.false_ne_true), h2]
theorem e_andVT (h1 : ma s = some (x, s1)) (h2 : dTru x = some b) (hb : b = true) (h3 : mb s1 = some (y, s2)) : mAndV ma mb s = some (y, s2) := by
  unfold mAndV
  rw [h1, Option.bind_some, h2, Option.bind_some, if_pos hb, h3]
theorem e_ifT {α : Type} {p q : Stt → Option α} {v : α} (h1 : mt s = some (b, s1)) (hb : b = true) (h2 : p s1 = some v) : mIf mt p q s = some v := by
  unfold mIf
  rw [h1, Option.bind_some, if_pos hb, h2]
theorem e_ifF {α : Type} {p q : Stt → Option α} {v : α} (h1 : mt s = some (b, s1)) (hb : b = false) (h2 : q s1 = some v) : mIf mt p q s = some v := by
  unfold mIf
  rw [h1, Option.bind_some, if_neg (by rw [show b = false from hb]; exact Bool.false_ne_true), h2]
theorem e_sifT (h1 : mt s = some (b, s1)) (hb : b = true) (h2 : ms s1 = some o) : sIf mt ms ns s = some o := e_ifT h1 hb h2
theorem e_sifF (h1 : mt s = some (b, s1)) (hb : b = false) (h2 : ns s1 = some o) : sIf mt ms ns s = some o := e_ifF h1 hb h2
theorem e_seq (h1 : ms s = some (.nx s1)) (h2 : ns s1 = some o) : sSeq ms ns s = some o := by
  unfold sSeq
  rw [h1] <;> exact h2
theorem e_seqR (h1 : ms s = some (.rt r u)) : sSeq ms ns s = some (.rt r u) := by
  unfold sSeq
  rw [h1] <;> rfl
theorem e_drop (h1 : m s = some (d, s1)) : sDrop m s = some (.nx s1) := by
  unfold sDrop
  rw [h1] <;> rfl
theorem e_ret (h1 : m s = some (d, s1)) : sRet m s = some (.rt (.val d) s1.ur) := by
  unfold sRet
  rw [h1] <;> rfl
theorem e_retL (h1 : mr s = some (ds, s1)) : sRetL mr s = some (.rt (.new ds) s1.ur) := by
  unfold sRetL
  rw [h1] <;> rfl
theorem e_asg {g : MG} (h1 : m s = some (d, s1)) (h2 : g d s1 = some s2) : sAsg m g s = some (.nx s2) := by
  unfold sAsg
  rw [h1, Option.bind_some, h2] <;> rfl
theorem e_setL (h1 : mr s = some (ds, s1)) : sSetL i mr s = some (.nx (put s1 i (.own ds))) := by
  unfold sSetL
  rw [h1] <;> rfl
theorem e_app (h0 : isOwn s i = some es) (h1 : m s = some (d, s1)) (h2 : isOwn s1 i = some ds) (h3 : ds.length < 100000) : sApp i m s = some (.nx (put s1 i (.own (ds ++ [d])))) := by
  unfold sApp
  rw [h0, Option.bind_some, h1, Option.bind_some, h2, Option.bind_some, if_pos (Nat.lt_of_lt_of_le h3 (by decide))]
variable {mp : MP} {ss ts : List SV}
theorem e_pD (h1 : m s = some (d, s1)) (h2 : mp s1 = some (ss, s2)) : pD m mp s = some (.val d :: ss, s2) := by
  unfold pD
  rw [h1, Option.bind_some, h2] <;> rfl
theorem e_pL (h1 : mr s = some (ds, s1)) (h2 : mp s1 = some (ss, s2)) : pL mr mp s = some (.own ds :: ss, s2) := by
  unfold pL
  rw [h1, Option.bind_some, h2] <;> rfl
theorem e_par {is : List Nat} (h1 : mp s = some (ss, s1)) (h2 : ss.length = is.length) : sPar is mp s = some (.nx (puts s1 is ss)) := by
  unfold sPar
  rw [h1, Option.bind_some, if_pos h2]
theorem e_setO {mk : MD} {k : Int} {j : Nat} (h1 : m s = some (d, s1)) (h2 : isOwn s1 i = some es) (h3 : mk s1 = some (.int k, s2)) (h4 : isOwn s2 i = some ds) (h5 : ixN ds.length k = some j) : sSetIx i m mk s = some (.nx (put s2 i (.own (ds.set j d)))) := by
  unfold sSetIx
  rw [h1, Option.bind_some, isOwn_eq h2]
  show (mk s1).bind _ = _
  rw [h3, Option.bind_some, h4, Option.bind_some]
  show (ixN ds.length k).map _ = _
  rw [h5] <;> rfl
theorem e_setU {mk : MD} {k v : Int} {j : Nat} {nn : List Int} (h1 : m s = some (.int v, s1)) (h2 : s1.sl[i]? = some (some .urn)) (h3 : mk s1 = some (.int k, s2)) (h4 : s2.ur = some nn) (h5 : ixN nn.length k = some j) : sSetIx i m mk s = some (.nx { s2 with ur := some (nn.set j v) }) := by
  unfold sSetIx
  rw [h1, Option.bind_some, h2]
  show (mk s1).bind _ = _
  rw [h3, Option.bind_some]
  obtain ⟨sl, ur⟩ := s2
  simp only at h4
  subst h4
  show (ixN nn.length k).map _ = _
  rw [h5] <;> rfl
theorem e_for {mi : MA} {g : MG} (h1 : mi s = some (ds, s1)) (h2 : forGo g ms ds s1 = some o) : sFor mi g ms s = some o := by
  unfold sFor
  rw [h1] <;> exact h2
theorem e_seqI (h1 : m s = some (d, s1)) (h2 : seqD d = some ds) : iSeq m s = some (ds, s1) := by
  unfold iSeq
  rw [h1, Option.bind_some, h2] <;> rfl
theorem e_rng {n : Int} (h1 : mr s = some ([.int n], s1)) (h2 : -(2 ^ 62) ≤ n ∧ n < 2 ^ 62) : iRng mr s = some (rngD 0 n.toNat, s1) := by
  unfold iRng
  rw [h1, Option.bind_some]
  exact if_pos h2
theorem e_run {n N : Nat} {as : List AV} {u' : Ur} (hl : as.length = n) (h : ms ⟨slotsOf N as, u⟩ = some (.rt r u')) : runD n N ms as u = some (r, u') := by
  unfold runD
  rw [if_pos hl, h] <;> rfl
variable {i1 i2 : Int}
theorem e_mul (h : (-(2 ^ 64) < i1 ∧ i1 < 2 ^ 64) ∨ (-(2 ^ 64) < i2 ∧ i2 < 2 ^ 64)) : dMul (.int i1) (.int i2) = some (.int (i1 * i2)) := by
  refine if_pos ?_
  unfold mulOk smallI
  rcases h with h | h
  · rw [decide_eq_true h.1, decide_eq_true h.2]; simp
  · rw [decide_eq_true h.1, decide_eq_true h.2]; simp
theorem e_fdiv (h : 0 < i2) (h2 : i2.natAbs.log2 < 9000) : dFdiv (.int i1) (.int i2) = some (.int (i1 / i2)) := by
  refine if_pos ?_
  unfold divOk
  rw [decide_eq_true h, decide_eq_true h2]
  rfl
theorem e_mod (h : 0 < i2) : dMod (.int i1) (.int i2) = some (.int (i1 % i2)) := if_pos (decide_eq_true h)
def lcStep (g : MG) (mt : MT) (me : MD) (sb : List (Option SV)) (d : Dt) (u : Ur) : Option (Option Dt × Ur) :=
  (g d ⟨sb, u⟩).bind fun s1 => (mt s1).bind fun q => if q.1 then (me q.2).bind fun y => some (some y.1, y.2.ur) else some (none, q.2.ur)
theorem lcGo_cons (g : MG) (mt : MT) (me : MD) (sb : List (Option SV)) (d : Dt) (ds : List Dt) (u : Ur) : lcGo g mt me sb (d :: ds) u = (lcStep g mt me sb d u).bind fun q => (lcGo g mt me sb ds q.2).map fun r => (q.1.toList ++ r.1, r.2) := by
  show (g d ⟨sb, u⟩).bind _ = _
  unfold lcStep
  cases g d ⟨sb, u⟩ with
  | none => rfl
  | some s1 =>
    show (mt s1).bind _ = ((mt s1).bind _).bind _
    cases mt s1 with
    | none => rfl
    | some q =>
      show (if q.1 = true then _ else _) = (if q.1 = true then _ else _ : Option (Option Dt × Ur)).bind _
      cases q.1 with
      | true =>
        show (me q.2).bind _ = ((me q.2).bind _).bind _
        cases me q.2 with
        | none => rfl
        | some y => rfl
      | false =>
        show lcGo g mt me sb ds q.2.ur = (lcGo g mt me sb ds q.2.ur).map _
        cases lcGo g mt me sb ds q.2.ur <;> rfl
theorem lcGo_map {α : Type} {g : MG} {mt : MT} {me : MD} {sb : List (Option SV)} {u : Ur} {enc : α → Dt} {p : α → Bool} {f : α → Dt} : ∀ {xs : List α}, (∀ x ∈ xs, lcStep g mt me sb (enc x) u = some (if p x then some (f x) else none, u)) → lcGo g mt me sb (xs.map enc) u = some ((xs.filter p).map f, u)
  | [], _ => rfl
  | x :: xs, h => by
    rw [List.map_cons, lcGo_cons, h x List.mem_cons_self]
    show (lcGo g mt me sb (xs.map enc) u).map _ = _
    rw [lcGo_map fun y hy => h y (List.mem_cons_of_mem _ hy)]
    cases hp : p x with
    | true => rw [List.filter_cons_of_pos hp]; rfl
    | false => rw [List.filter_cons_of_neg (by rw [hp]; exact Bool.false_ne_true)]; rfl
theorem e_lc {mi : MA} {fz vs : List Nat} {g : MG} {me : MD} {u' : Ur} (h1 : mi s = some (ds, s1)) (h2 : lcGo g mt me (blkSl (frzL s1 fz).sl vs) ds (frzL s1 fz).ur = some (es, u')) (h3 : es.length ≤ 100000) : mLc mi fz vs g mt me s = some (es, { frzL s1 fz with ur := u' }) := by
  unfold mLc
  rw [h1, Option.bind_some, h2, Option.bind_some]
  exact if_pos (fits_ok h3)
theorem e_lcm {α : Type} {mi : MA} {fz vs : List Nat} {g : MG} {me : MD} {xs : List α} {enc : α → Dt} {p : α → Bool} {f : α → Dt} (h1 : mi s = some (xs.map enc, s1)) (h2 : ∀ x ∈ xs, lcStep g mt me (blkSl (frzL s1 fz).sl vs) (enc x) (frzL s1 fz).ur = some (if p x then some (f x) else none, (frzL s1 fz).ur)) (h3 : xs.length ≤ 100000) :
    mLc mi fz vs g mt me s = some ((xs.filter p).map f, frzL s1 fz) := by
  have h := e_lc (fz := fz) (vs := vs) (g := g) (mt := mt) (me := me) h1 (lcGo_map h2) (by rw [List.length_map]; exact Nat.le_trans (List.length_filter_le _ _) h3)
  exact h
theorem st_yes {g : MG} {me : MD} {sb : List (Option SV)} {s2 : Stt} (h1 : g x ⟨sb, u⟩ = some s) (h2 : mt s = some (b, s1)) (hb : b = true) (h3 : me s1 = some (d, s2)) : lcStep g mt me sb x u = some (some d, s2.ur) := by
  unfold lcStep
  rw [h1, Option.bind_some, h2, Option.bind_some, if_pos hb, h3] <;> rfl
theorem st_no {g : MG} {me : MD} {sb : List (Option SV)} (h1 : g x ⟨sb, u⟩ = some s) (h2 : mt s = some (b, s1)) (hb : b = false) : lcStep g mt me sb x u = some (none, s1.ur) := by
  unfold lcStep
  rw [h1, Option.bind_some, h2, Option.bind_some, if_neg (by rw [show b = false from hb]; exact Bool.false_ne_true)]
theorem for_inv {g : MG} {mb : MS} (Iv : Stt → Prop) : ∀ (ds : List Dt) (s : Stt), Iv s → (∀ d ∈ ds, ∀ s, Iv s → ∃ s1 s2, g d s = some s1 ∧ mb s1 = some (.nx s2) ∧ Iv s2) → ∃ s', forGo g mb ds s = some (.nx s') ∧ Iv s'
  | [], s, h, _ => ⟨s, rfl, h⟩
  | d :: ds, s, h, k => by
    obtain ⟨s1, s2, e1, e2, h2⟩ := k d List.mem_cons_self s h
    obtain ⟨s', e3, h3⟩ := for_inv Iv ds s2 h2 fun x hx => k x (List.mem_cons_of_mem _ hx)
    refine ⟨s', ?_, h3⟩
    show (g d s).bind _ = _
    rw [e1, Option.bind_some, e2]
    exact e3
theorem for_step {g : MG} {mb : MS} (h1 : g d s = some s1) (h2 : mb s1 = some (.nx s2)) (h3 : forGo g mb ds s2 = some o) : forGo g mb (d :: ds) s = some o := by
  show (g d s).bind _ = _
  rw [h1, Option.bind_some, h2]
  exact h3
end
end DL
set_option Elab.async false
set_option linter.all false
set_option maxRecDepth 100000
set_option maxHeartbeats 4000000
namespace DL
open PySem PySem.Spec PyProof.Rows L2
theorem e_ret2 {m : MD} {s s1 : Stt} {d : Dt} {u : Ur} (h1 : m s = some (d, s1)) (h2 : s1.ur = u) : sRet m s = some (.rt (.val d) u) := h2 ▸ e_ret h1
theorem e_retL2 {m : MA} {s s1 : Stt} {d : List Dt} {u : Ur} (h1 : m s = some (d, s1)) (h2 : s1.ur = u) : sRetL m s = some (.rt (.new d) u) := h2 ▸ e_retL h1
local macro_rules | `(tactic| walk_at "dec") => `(tactic| first | rfl | assumption | (exact decide_eq_true (by assumption)) | (exact decide_eq_true (by omega)) | (exact decide_eq_false (by omega)))
local macro_rules | `(tactic| walk_at "go") => `(tactic| first
  | assumption
  | ((with_reducible apply e_bin) <;> walk_at "go") | ((with_reducible apply e_un) <;> walk_at "go") | ((with_reducible apply e_fn) <;> walk_at "go") | ((with_reducible apply e_fnL) <;> walk_at "go") | ((with_reducible apply e_cons) <;> walk_at "go") | ((with_reducible apply e_star) <;> walk_at "go")
  | ((with_reducible apply e_tup) <;> walk_at "go") | ((with_reducible apply e_lst) <;> walk_at "go") | ((with_reducible apply e_ofL) <;> walk_at "go") | ((with_reducible apply e_ixN) <;> walk_at "go") | ((with_reducible apply e_lenN) <;> walk_at "go")
  | ((with_reducible apply e_call) <;> walk_at "go") | ((with_reducible apply e_callL) <;> walk_at "go") | ((with_reducible apply e_callU) <;> walk_at "go") | ((with_reducible apply e_callUL) <;> walk_at "go") | ((with_reducible apply e_ccons) <;> walk_at "go") | ((with_reducible apply e_curn) <;> walk_at "go")
  | ((with_reducible apply e_tst) <;> walk_at "go") | ((with_reducible apply e_tru) <;> walk_at "go") | ((with_reducible apply e_notT) <;> walk_at "go") | ((with_reducible apply e_asg) <;> walk_at "go") | ((with_reducible apply e_drop) <;> walk_at "go") | ((with_reducible apply e_ret2) <;> walk_at "go") | ((with_reducible apply e_retL2) <;> walk_at "go")
  | ((with_reducible apply e_setL) <;> walk_at "go") | ((with_reducible apply e_pD) <;> walk_at "go") | ((with_reducible apply e_pL) <;> walk_at "go") | ((with_reducible apply e_par) <;> walk_at "go") | ((with_reducible apply e_seqI) <;> walk_at "go") | ((with_reducible apply e_app) <;> walk_at "go")
  | ((with_reducible apply e_mul); first | (left; constructor <;> omega) | (right; constructor <;> omega))
  | ((with_reducible apply e_fdiv); omega; first | assumption | decide)
  | ((with_reducible apply e_mod); omega)
  | rfl | exact Nat.le_of_ble_eq_true rfl | omega | decide)
def takeB : MS := (sSeq (sIf (mTst (mBin dGt (mIxN 0 (mC (.int 0))) (mC (.int 0)))) (sSeq (sAsg (mBin dMod (mFn fInt (mCons (mIxN 0 (mC (.int 0))) mNil)) (mVar 1)) (gN 5))
  (sSeq (sSetIx 0 (mBin dFdiv (mIxN 0 (mC (.int 0))) (mVar 1)) (mC (.int 0)))
  (sRetV 5))) sNil)
  (sSeq (sSetIx 0 (mBin dAdd (mIxN 0 (mC (.int 2))) (mC (.int 1))) (mC (.int 2)))
  (sSeq (sAsg (mBin dMod (mFn fInt (mCons (mBin dMul (mBin dAdd (mIxN 0 (mC (.int 1))) (mBin dMul (mC (.int 48271)) (mIxN 0 (mC (.int 2))))) (mBin dAdd (mC (.int 39373)) (mIxN 0 (mC (.int 2))))) mNil)) (mC (.int 2147483647))) (gN 2))
  (sSeq (sAsg (mBin dAdd (mBin dMod (mFn fInt (mCons (mVar 2) mNil)) (mC (.int 40009))) (mC (.int 7))) (gN 3))
  (sSeq (sAsg (mBin dMod (mFn fInt (mCons (mBin dMul (mBin dAdd (mBin dAdd (mVar 2) (mIxN 0 (mC (.int 2)))) (mBin dFdiv (mIxN 0 (mC (.int 1))) (mC (.int 1000003)))) (mVar 3)) mNil)) (mC (.int 2147483629))) (gN 4))
  (sRet (mBin dMod (mFn fInt (mCons (mBin dFdiv (mBin dMod (mFn fInt (mCons (mBin dAdd (mBin dMul (mVar 4) (mC (.int 48271))) (mVar 2)) mNil)) (mC (.int 2147483587))) (mC (.int 64))) mNil)) (mVar 1))))))))
def takeF : FM := runD 2 6 takeB
structure UOk (k : Nat) (u : List Int) : Prop where
  ex : ∃ a b c : Int, u = [a, b, c] ∧ 0 ≤ a ∧ 0 ≤ b ∧ b < 2 ^ 62 ∧ 0 ≤ c ∧ c ≤ (k : Int)
theorem UOk.mono {k j : Nat} {u : List Int} (h : UOk k u) (hk : k ≤ j) : UOk j u := by
  obtain ⟨a, b, c, h1, h2, h3, h4, h5, h6⟩ := h.ex
  exact ⟨a, b, c, h1, h2, h3, h4, h5, by omega⟩
theorem take_ok {n : Int} {k : Nat} {u : List Int} (hn : 0 < n) (hl : n.natAbs.log2 < 9000) (hk : k < 1000000) (hu : UOk k u) : ∃ v u', takeF [.urn, .val (.int n)] (some u) = some (.val (.int v), some u') ∧ 0 ≤ v ∧ v < n ∧ UOk (k + 1) u' := by
  obtain ⟨a, b, c, rfl, ha, hb, hb2, hc, hc2⟩ := hu.ex
  by_cases h0 : 0 < a
  · refine ⟨a % n, [a / n, b, c], ?_, Int.emod_nonneg _ (by omega), Int.emod_lt_of_pos _ hn, ⟨a / n, b, c, rfl, Int.ediv_nonneg ha (by omega), hb, hb2, hc, by omega⟩⟩
    refine e_run rfl (e_seqR ?_)
    refine e_sifT (b := decide (0 < a)) (by walk_at "go") (decide_eq_true h0) ?_
    refine e_seq (by walk_at "go") ?_
    refine e_seq (e_setU (by walk_at "go") rfl rfl rfl rfl) ?_
    rfl
  · have hm : ∀ x : Int, 0 ≤ x % n ∧ x % n < n := fun x => ⟨Int.emod_nonneg _ (by omega), Int.emod_lt_of_pos _ hn⟩
    have key : ∃ v, takeF [.urn, .val (.int n)] (some [a, b, c]) = some (.val (.int (v % n)), some [a, b, c + 1]) := by
      apply Exists.intro
      apply e_run rfl
      apply e_seq (e_sifF (b := decide (0 < a)) (by walk_at "go") (decide_eq_false h0) rfl)
      apply e_seq (e_setU (v := c + 1) (by walk_at "go") rfl rfl rfl rfl)
      apply e_seq
      · walk_at "go"
      apply e_seq
      · walk_at "go"
      apply e_seq
      · walk_at "go"
      walk_at "go"
    obtain ⟨v, e⟩ := key
    exact ⟨v % n, [a, b, c + 1], e, (hm v).1, (hm v).2, ⟨a, b, c + 1, rfl, ha, hb, hb2, by omega, by omega⟩⟩
end DL
set_option Elab.async false
set_option linter.all false
set_option maxRecDepth 100000
set_option maxHeartbeats 4000000
namespace DL
open PySem PySem.Spec PyProof.Rows L2
local macro_rules | `(tactic| walk_at "dec") => `(tactic| first | rfl | assumption | (exact decide_eq_true (by assumption)) | (exact decide_eq_true (by omega)) | (exact decide_eq_false (by omega)))
local macro_rules | `(tactic| walk_at "go") => `(tactic| first
  | assumption
  | ((with_reducible apply e_bin) <;> walk_at "go") | ((with_reducible apply e_un) <;> walk_at "go") | ((with_reducible apply e_fn) <;> walk_at "go") | ((with_reducible apply e_fnL) <;> walk_at "go") | ((with_reducible apply e_cons) <;> walk_at "go") | ((with_reducible apply e_star) <;> walk_at "go")
  | ((with_reducible apply e_tup) <;> walk_at "go") | ((with_reducible apply e_lst) <;> walk_at "go") | ((with_reducible apply e_ofL) <;> walk_at "go") | ((with_reducible apply e_ixN) <;> walk_at "go") | ((with_reducible apply e_lenN) <;> walk_at "go")
  | ((with_reducible apply e_call) <;> walk_at "go") | ((with_reducible apply e_callL) <;> walk_at "go") | ((with_reducible apply e_callU) <;> walk_at "go") | ((with_reducible apply e_callUL) <;> walk_at "go") | ((with_reducible apply e_ccons) <;> walk_at "go") | ((with_reducible apply e_curn) <;> walk_at "go")
  | ((with_reducible apply e_tst) <;> walk_at "go") | ((with_reducible apply e_tru) <;> walk_at "go") | ((with_reducible apply e_notT) <;> walk_at "go") | ((with_reducible apply e_asg) <;> walk_at "go") | ((with_reducible apply e_drop) <;> walk_at "go") | ((with_reducible apply e_ret2) <;> walk_at "go") | ((with_reducible apply e_retL2) <;> walk_at "go")
  | ((with_reducible apply e_setL) <;> walk_at "go") | ((with_reducible apply e_pD) <;> walk_at "go") | ((with_reducible apply e_pL) <;> walk_at "go") | ((with_reducible apply e_par) <;> walk_at "go") | ((with_reducible apply e_seqI) <;> walk_at "go") | ((with_reducible apply e_app) <;> walk_at "go")
  | ((with_reducible apply e_mul); first | (left; constructor <;> omega) | (right; constructor <;> omega))
  | ((with_reducible apply e_fdiv); omega; first | assumption | decide)
  | ((with_reducible apply e_mod); omega)
  | rfl | exact Nat.le_of_ble_eq_true rfl | omega | decide)
theorem e_callV {F : FM} {mr : MA} {s s1 : Stt} {ds : List Dt} {d : Dt} {u : Ur} (h1 : mr s = some (ds, s1)) (h2 : F (ds.map .val) none = some (.val d, u)) : mCall F mr s = some (d, s1) := e_call h1 h2
theorem e_callW {F : FM} {mr : MA} {s s1 : Stt} {ds es : List Dt} {u : Ur} (h1 : mr s = some (ds, s1)) (h2 : F (ds.map .val) none = some (.new es, u)) : mCall F mr s = some (.list es, s1) := e_call h1 h2
theorem e_callUV {F : FM} {mv : Stt → Option (List AV × Stt)} {s s1 : Stt} {as : List AV} {d : Dt} {u : Ur} (h1 : mv s = some (as, s1)) (h2 : F as s1.ur = some (.val d, u)) : mCallU F mv s = some (d, { s1 with ur := u }) := e_callU h1 h2
theorem e_callUW {F : FM} {mv : Stt → Option (List AV × Stt)} {s s1 : Stt} {as : List AV} {es : List Dt} {u : Ur} (h1 : mv s = some (as, s1)) (h2 : F as s1.ur = some (.new es, u)) : mCallU F mv s = some (.list es, { s1 with ur := u }) := e_callU h1 h2
theorem ix_nat {n k : Nat} (h : k < n) : ixN n (k : Int) = some k := by
  unfold ixN
  rw [if_pos (by omega), if_pos (by omega), Int.toNat_natCast]
theorem at_nat {α : Type} {xs : List α} {k : Nat} {x : α} (h : xs[k]? = some x) : atI xs (k : Int) = some x := by
  have hk : k < xs.length := (List.getElem?_eq_some_iff.mp h).1
  unfold atI
  rw [ix_nat hk]
  exact h
theorem at_int {α : Type} {xs : List α} {i : Int} (h0 : 0 ≤ i) (h1 : i < xs.length) : ∃ x, atI xs i = some x ∧ x ∈ xs := by
  have hk : i.toNat < xs.length := by omega
  refine ⟨xs[i.toNat], ?_, List.getElem_mem hk⟩
  have := at_nat (List.getElem?_eq_getElem hk)
  rwa [Int.toNat_of_nonneg h0] at this
def boxB (c : Int) : MS := (sSeq (sAsg (mIf (mTst (mBin dLt (mVar 1) (mLenN 0))) (mIxN 0 (mVar 1)) (mC (.int 0))) (gN 2))
  (sRetL (mLst (mCons (mBin dMul (mFn fAbs (mCons (mVar 2) mNil)) (mFn fInt (mCons (mBin dGe (mFn fAbs (mCons (mVar 2) mNil)) (mBin dPow (mC (.int 10)) (mC (.int 18)))) mNil))) (mCons (mBin dAdd (mBin dAdd (mBin dMod (mFn fInt (mCons (mVar 2) mNil)) (mC (.int 2305843009213693951))) (mBin dMul (mC (.int 39373)) (mVar 1))) (mC (.int c))) (mCons (mC (.int 0)) mNil))))))
def boxF (c : Int) : FM := runD 2 3 (boxB c)
theorem box_ok {c : Int} {cs : List Int} {k : Nat} (hk : k < cs.length) (hk2 : k < 64) (h0 : 0 ≤ c) (hc : c < 2 ^ 60) : ∃ u : List Int, boxF c [.val (.list (cs.map .int)), .val (.int (k : Int))] none = some (.new (u.map .int), none) ∧ UOk 0 u := by
  have e1 : dIx (.list (cs.map .int)) (.int (k : Int)) = some (.int cs[k]) := by
    refine at_nat ?_
    rw [List.getElem?_map, List.getElem?_eq_getElem hk] <;> rfl
  generalize cs[k] = z at e1
  have hm : ∀ (x : Int) (b : Bool), dMul (.int x) (.int (if b then 1 else 0)) = some (.int (x * if b then 1 else 0)) := fun x b => by
    cases b
    · exact e_mul (.inr ⟨by decide, by decide⟩)
    · exact e_mul (.inr ⟨by decide, by decide⟩)
  refine ⟨[(if z < 0 then -z else z) * (if decide ((10 : Int) ^ 18 ≤ (if z < 0 then -z else z)) = true then 1 else 0), z % 2305843009213693951 + 39373 * (k : Int) + c, 0], ?_, ⟨_, _, _, rfl, ?_, ?_, ?_, ?_, ?_⟩⟩
  · show boxF c _ none = some (.new [.int _, .int _, .int _], none)
    refine e_run rfl (e_seq (e_asg (e_ifT (b := decide ((k : Int) < (cs.map PyData.int).length)) (by walk_at "go") (decide_eq_true (by rw [List.length_map]; omega)) (by walk_at "go")) rfl) ?_)
    have hm' := hm (if z < 0 then -z else z) (decide ((10 : Int) ^ 18 ≤ (if z < 0 then -z else z)))
    apply e_retL2
    · apply e_lst
      · apply e_cons
        · walk_at "go"
        · apply e_cons
          · walk_at "go"
          · walk_at "go"
      · walk_at "go"
    · rfl
  · refine Int.mul_nonneg ?_ ?_ <;> split <;> omega
  · have := Int.emod_nonneg z (show (2305843009213693951 : Int) ≠ 0 by decide); omega
  · have := Int.emod_lt_of_pos z (show (0 : Int) < 2305843009213693951 by decide); omega
  · omega
  · omega
def cellsB : MS := (sSeq (sSetL 2 (mOrL (mFnL fList (mCons (mSl (mVar 0) oNone (oSome (mVar 1))) mNil)) (mLst (mCons (mC (.int 0)) mNil))))
  (sSeq (sFor (iEnumL (mCons (mSl (mVar 0) (oSome (mVar 1)) (oSome (mC (.int 63)))) mNil)) (gT 2 (gsCons (gN 3) (gsCons (gN 4) gsNil))) (sSeq (sAsg (mBin dMod (mFn fInt (mCons (mVar 3) mNil)) (mVar 1)) (gN 5))
  (sSetIx 2 (mBin dAdd (mIxN 2 (mVar 5)) (mBin dMul (mVar 4) (mBin dAdd (mVar 3) (mC (.int 2))))) (mVar 5))))
  (sRetV 2)))
def cellsF : FM := runD 2 6 cellsB
theorem enum_mem {d : Dt} : ∀ {xs : List Int} {n : Nat}, d ∈ enumD n (xs.map .int) → ∃ (k : Nat) (x : Int), d = .tuple [.int (k : Int), .int x] ∧ k < n + xs.length
  | [], _, h => nomatch h
  | x :: xs, n, h => by
    cases h with
    | head _ => exact ⟨n, x, rfl, by rw [List.length_cons]; omega⟩
    | tail _ h =>
      obtain ⟨k, y, e1, e2⟩ := enum_mem h
      exact ⟨k, y, e1, by rw [List.length_cons]; omega⟩
theorem e_sl {m : MD} {ml mh : MO} {s s1 s2 s3 : Stt} {d z : Dt} {l u : Option Int} (h1 : m s = some (d, s1)) (h2 : ml s1 = some (l, s2)) (h3 : mh s2 = some (u, s3)) (h4 : dSl d l u = some z) : mSl m ml mh s = some (z, s3) := by
  unfold mSl
  rw [h1, Option.bind_some, h2, Option.bind_some, h3, Option.bind_some, h4] <;> rfl
theorem cutL_map {α β : Type} (f : α → β) (xs : List α) (l u : Option Int) : cutL (xs.map f) l u = (cutL xs l u).map f := by
  unfold cutL
  rw [List.length_map, List.map_take, List.map_drop]
theorem cutL_len {α : Type} (xs : List α) (l u : Option Int) : (cutL xs l u).length ≤ xs.length := by
  unfold cutL
  rw [List.length_take, List.length_drop]
  omega
theorem e_enum {m : MA} {s s1 : Stt} {xs : List Dt} (h : m s = some ([.list xs], s1)) : iEnumL m s = some (enumD 0 xs, s1) := by
  unfold iEnumL
  rw [h] <;> rfl
theorem e_orLT {m n : MA} {s s1 : Stt} {x : Dt} {xs : List Dt} (h : m s = some (x :: xs, s1)) : mOrL m n s = some (x :: xs, s1) := by
  unfold mOrL
  rw [h] <;> rfl
theorem e_orLF {m n : MA} {s s1 : Stt} {q : List Dt × Stt} (h : m s = some ([], s1)) (h2 : n s1 = some q) : mOrL m n s = some q := by
  unfold mOrL
  rw [h] <;> exact h2
theorem cells_ok {ns : List Int} {t : Nat} (ht : 0 < t) (ht2 : t ≤ 63) (hn : ns.length ≤ 63) : ∃ cs : List Int, cellsF [.val (scrD ns), .val (.int (t : Int))] none = some (.new (cs.map .int), none) ∧ 0 < cs.length ∧ cs.length ≤ 63 := by
  have go : ∀ (c0 : List Int), (c0.length = t ∨ ns.length ≤ t) → 0 < c0.length → c0.length ≤ 63 → mOrL (mFnL fList (mCons (mSl (mVar 0) oNone (oSome (mVar 1))) mNil)) (mLst (mCons (mC (.int 0)) mNil)) ⟨slotsOf 6 [.val (scrD ns), .val (.int (t : Int))], none⟩ = some (c0.map .int, ⟨slotsOf 6 [.val (scrD ns), .val (.int (t : Int))], none⟩) → ∃ cs : List Int, cellsF [.val (scrD ns), .val (.int (t : Int))] none = some (.new (cs.map .int), none) ∧ 0 < cs.length ∧ cs.length ≤ 63 := by
    intro c0 hc hc1 hc2 he
    have loop : ∃ cs : List Int, ∃ a b c : Option SV, forGo (gT 2 (gsCons (gN 3) (gsCons (gN 4) gsNil))) (sSeq (sAsg (mBin dMod (mFn fInt (mCons (mVar 3) mNil)) (mVar 1)) (gN 5)) (sSetIx 2 (mBin dAdd (mIxN 2 (mVar 5)) (mBin dMul (mVar 4) (mBin dAdd (mVar 3) (mC (.int 2))))) (mVar 5))) (enumD 0 ((cutL ns (some (t : Int)) (some 63)).map .int)) ⟨[some (.val (scrD ns)), some (.val (.int (t : Int))), some (.own (c0.map .int)), none, none, none], none⟩ = some (.nx ⟨[some (.val (scrD ns)), some (.val (.int (t : Int))), some (.own (cs.map .int)), a, b, c], none⟩) ∧ cs.length = c0.length := by
      rcases hc with hc | hc
      · obtain ⟨s', e, cs, a, b, c, rfl, hl⟩ := for_inv (g := gT 2 (gsCons (gN 3) (gsCons (gN 4) gsNil))) (mb := sSeq (sAsg (mBin dMod (mFn fInt (mCons (mVar 3) mNil)) (mVar 1)) (gN 5)) (sSetIx 2 (mBin dAdd (mIxN 2 (mVar 5)) (mBin dMul (mVar 4) (mBin dAdd (mVar 3) (mC (.int 2))))) (mVar 5))) (fun s => ∃ (cs : List Int) (a b c : Option SV), s = ⟨[some (.val (scrD ns)), some (.val (.int (t : Int))), some (.own (cs.map .int)), a, b, c], none⟩ ∧ cs.length = c0.length) (enumD 0 ((cutL ns (some (t : Int)) (some 63)).map .int)) _ ⟨c0, none, none, none, rfl, rfl⟩ (by
          rintro d hd s ⟨cs, a, b, c, rfl, hl⟩
          obtain ⟨k, x, rfl, hk⟩ := enum_mem hd
          have hk' : (k : Int) < 64 := by have := cutL_len ns (some (t : Int)) (some 63); omega
          have hi : k % t < cs.length := by rw [hl, hc]; exact Nat.mod_lt _ ht
          have e1 : dIx (.list (cs.map .int)) (.int ((k : Int) % (t : Int))) = some (.int cs[k % t]) := by
            rw [← Int.natCast_emod]
            refine at_nat ?_
            rw [List.getElem?_map, List.getElem?_eq_getElem hi] <;> rfl
          have e2 : ixN (cs.map PyData.int).length ((k : Int) % (t : Int)) = some (k % t) := by
            rw [← Int.natCast_emod, List.length_map]
            exact ix_nat hi
          refine ⟨_, _, rfl, e_seq (by walk_at "go") (e_setO (by walk_at "go") rfl (by walk_at "go") rfl e2), cs.set (k % t) (cs[k % t] + x * ((k : Int) + 2)), some (.val (.int (k : Int))), some (.val (.int x)), some (.val (.int ((k : Int) % (t : Int)))), ?_, by rw [List.length_set]; exact hl⟩
          rw [List.map_set] <;> rfl)
        exact ⟨cs, a, b, c, e, hl⟩
      · refine ⟨c0, none, none, none, ?_, rfl⟩
        have : cutL ns (some (t : Int)) (some 63) = [] := by
          unfold cutL
          rw [HT.sIx_nat, Nat.min_eq_right hc, List.drop_length, List.take_nil]
        rw [this] <;> rfl
    obtain ⟨cs, a, b, c, e, hl⟩ := loop
    refine ⟨cs, ?_, by omega, by omega⟩
    refine e_run rfl (e_seq (e_setL he) (e_seq (e_for (e_enum (e_cons (e_sl rfl rfl rfl ?_) rfl)) e) rfl))
    show some (PyData.list (cutL (ns.map .int) _ _)) = _
    rw [cutL_map]
  have hcut : ∀ q, cutL (ns.map PyData.int) none (some (t : Int)) = q → mFnL fList (mCons (mSl (mVar 0) oNone (oSome (mVar 1))) mNil) ⟨slotsOf 6 [.val (scrD ns), .val (.int (t : Int))], none⟩ = some (q, ⟨slotsOf 6 [.val (scrD ns), .val (.int (t : Int))], none⟩) := by
    rintro q rfl
    exact e_fnL (e_cons (e_sl rfl rfl rfl rfl) rfl) rfl
  have hl : (cutL ns none (some (t : Int))).length = min t ns.length := by
    unfold cutL
    rw [HT.sIx_nat, HT.sIx_none, List.drop_zero, Nat.sub_zero, List.length_take]
    omega
  cases hq : cutL ns none (some (t : Int)) with
  | nil =>
    rw [hq] at hl
    have h0 : ns.length = 0 := by rw [List.length_nil] at hl; omega
    exact go [0] (.inr (by omega)) (by decide) (by decide) (e_orLF (hcut [] (by rw [cutL_map, hq] <;> rfl)) rfl)
  | cons x xs =>
    rw [hq] at hl
    refine go (x :: xs) ?_ (by simp) (by omega) (e_orLT (hcut _ (by rw [cutL_map, hq] <;> rfl)))
    by_cases h : t ≤ ns.length
    · left; omega
    · right; omega
def ofB : MS := (sRet (mIxN 1 (mCallU takeF (cUrn 0 (cCons (mLenN 1) cNil)))))
def ofF : FM := runD 2 2 ofB
theorem log2_small {n : Nat} (h : n < 2 ^ 8000) : n.log2 < 9000 := by
  rcases Nat.eq_zero_or_pos n with h0 | h0
  · subst h0; decide
  · exact Nat.lt_trans ((Nat.log2_lt (by omega)).mpr h) (by decide)
set_option exponentiation.threshold 9000 in
theorem pw_le : 2 ^ 30 ≤ 2 ^ 8000 := Nat.pow_le_pow_right (by decide) (by decide)
theorem of_ok {d : Dt} {ds : List Dt} {k : Nat} {u : List Int} (hd : d = .list ds ∨ d = .tuple ds) (h0 : 0 < ds.length) (h1 : ds.length < 2 ^ 30) (hk : k < 1000000) (hu : UOk k u) : ∃ x u', ofF [.urn, .val d] (some u) = some (.val x, some u') ∧ x ∈ ds ∧ UOk (k + 1) u' := by
  obtain ⟨v, u', e, h2, h3, h4⟩ := take_ok (n := (ds.length : Int)) (by omega) (by rw [Int.natAbs_natCast]; exact log2_small (Nat.lt_of_lt_of_le h1 pw_le)) hk hu
  obtain ⟨x, e2, h5⟩ := at_int h2 h3
  refine ⟨x, u', ?_, h5, h4⟩
  rcases hd with rfl | rfl
  · exact e_run rfl (e_ret2 (e_ixN (e_callU (e_curn rfl (e_ccons (e_lenN rfl rfl) rfl)) e) rfl e2) rfl)
  · exact e_run rfl (e_ret2 (e_ixN (e_callU (e_curn rfl (e_ccons (e_lenN rfl rfl) rfl)) e) rfl e2) rfl)
theorem st_yes2 {x d : Dt} {u u' : Ur} {mt : MT} {b : Bool} {s s1 : Stt} {g : MG} {me : MD} {sb : List (Option SV)} {s2 : Stt} (h1 : g x ⟨sb, u⟩ = some s) (h2 : mt s = some (b, s1)) (hb : b = true) (h3 : me s1 = some (d, s2)) (hu : s2.ur = u') : lcStep g mt me sb x u = some (some d, u') := hu ▸ st_yes h1 h2 hb h3
def allM (R : FM) (c : Int) : MD := (mFn fAll (mCons (mOfL (mLc (iRng (mCons (mLenN 1) mNil)) [] [2] (gN 2) mYes (mCallN R (mCallL (boxF c) (mCons (mVar 1) (mCons (mVar 2) mNil)))))) mNil))
theorem bools_true (n : Nat) : boolsD ((List.replicate n (PyData.bool true))) = some (List.replicate n true) := by
  induction n with
  | zero => rfl
  | succ n ih =>
    show (boolsD (List.replicate n (PyData.bool true))).map _ = _
    rw [ih] <;> rfl
theorem all_ok {R : FM} {c : Int} {sc : Dt} {cs : List Int} (h0 : 0 ≤ c) (hc : c < 2 ^ 60) (hl : cs.length ≤ 63) (hR : ∀ u, UOk 0 u → ∃ u', R [.urn] (some u) = some (.val (.bool true), u')) :
    allM R c ⟨[some (.val sc), some (.val (.list (cs.map .int))), none], none⟩ = some (.bool true, ⟨[some (.val sc), some (.val (.list (cs.map .int))), none], none⟩) := by
  have e0 : iRng (mCons (mLenN 1) mNil) ⟨[some (.val sc), some (.val (.list (cs.map .int))), none], none⟩ = some ((List.range cs.length).map (fun i : Nat => PyData.int (0 + (i : Int))), ⟨[some (.val sc), some (.val (.list (cs.map .int))), none], none⟩) := by
    have := e_rng (mr := mCons (mLenN 1) mNil) (s := ⟨[some (.val sc), some (.val (.list (cs.map .int))), none], none⟩) (n := ((cs.map PyData.int).length : Int)) (e_cons (e_lenN rfl rfl) rfl) (by rw [List.length_map]; omega)
    rw [List.length_map, Int.toNat_natCast] at this
    exact this
  have e1 := e_lcm (fz := []) (vs := [2]) (g := gN 2) (mt := mYes) (me := mCallN R (mCallL (boxF c) (mCons (mVar 1) (mCons (mVar 2) mNil)))) (p := fun _ => true) (f := fun _ => PyData.bool true) e0 (by
    intro i hi
    rw [List.mem_range] at hi
    obtain ⟨u, e1, hu⟩ := box_ok (c := c) hi (by omega) h0 hc
    obtain ⟨u', e2⟩ := hR u hu
    have e1' : boxF c [.val (.list (cs.map .int)), .val (.int (0 + (i : Int)))] none = some (.new (u.map .int), none) := by
      rw [Int.zero_add]
      exact e1
    apply st_yes2 (b := true) rfl rfl rfl
    · exact e_callN (e_callL (u := none) (e_cons rfl (e_cons rfl rfl)) e1') (intsD_map u) e2
    · rfl) (by rw [List.length_range]; omega)
  refine e_fn (e_cons (e_ofL e1) rfl) ?_
  rw [List.filter_eq_self.mpr (fun _ _ => rfl), List.map_const', List.length_range]
  show (boolsD _).map _ = _
  rw [bools_true]
  show some (PyData.bool ((List.replicate cs.length true).all id)) = _
  have h1 : (List.replicate cs.length true).all id = true := by
    rw [List.all_eq_true]
    intro x hx
    exact List.eq_of_mem_replicate hx
  rw [h1]
end DL
set_option Elab.async false
set_option linter.all false
set_option maxRecDepth 100000
set_option maxHeartbeats 4000000
namespace DL
open PySem PySem.Spec PyProof.Rows L2
section
variable {prog : Program} {w : World} {A : Around} {E : Value → Shared → Prop} {s : Shared}
theorem draw_lst {it t : Addr} {items : Array Value} (hne : t ≠ it) : ∀ (n i : Nat) (s : Shared) (Q : List Value → Shared → Prop), s.heap.IsListIter it t i → s.heap.IsList t items → i + n ≤ items.size →
    (∀ h', h'.IsListIter it t (i + n) → Heap.SameBut it s.heap h' → Q ((items.toList.drop i).take n) { s with heap := h' }) → wpAny (model prog w) A (draw (.ref it) n) Q E s
  | 0, i, s, Q, hit, _, _, hQ => by
    show wpAny _ _ (pure []) Q E s
    refine wpAny_pure ?_
    simpa using hQ s.heap hit (Heap.SameBut.refl ..)
  | n + 1, i, s, Q, hit, ht, hle, hQ => by
    have hlt : i < items.size := by omega
    refine wpAny_bind (m := pyNext (.ref it)) (wpAny_pyNext_list_item hit ht (x := items[i]) (by simp [hlt]) fun h1 hit1 hs1 => ?_)
    refine wpAny_bind (wpAny_holding (draw_lst hne n (i + 1) _ _ hit1 (ht.extBut hs1.extBut hne) (by omega) fun h2 hit2 hs2 => wpAny_pure ?_))
    have hd : items.toList.drop i = items[i] :: items.toList.drop (i + 1) := by simp [List.drop_eq_getElem_cons, hlt]
    have q := hQ h2 (by rw [show i + (n + 1) = i + 1 + n by omega]; exact hit2) (hs1.trans hs2)
    rwa [hd, List.take_succ_cons] at q
theorem parts_lst {t : Addr} {items : Array Value} {Q : List Value → Shared → Prop} (hh : A.handled = none) (ht : s.heap.IsList t items)
    (hQ : ∀ h', Heap.ExtBut s.heap.objs.size s.heap h' → Q items.toList { s with heap := h' }) : wpAny (model prog w) A (unpackItems (.ref t) items.size none) Q E s := by
  have hlt : t ≠ s.heap.objs.size := by obtain ⟨o, ho, _⟩ := ht; exact Nat.ne_of_lt (Heap.lt_size ho)
  unfold unpackItems
  refine wpAny_bind ?_
  unfold notIterableAtAll
  refine wpAny_bind (wpAny_specialOf ht.typeIs slot_list_iter.lookup ?_)
  refine wpAny_pure ?_
  simp only [Bool.false_eq_true, if_false]
  refine wpAny_bind (wpAny_holding (wpAny_pyIter_list ht ?_))
  refine wpAny_bind (wpAny_holding (draw_lst hlt items.size 0 _ _ ⟨_, Heap.get?_push_size _ rfl, rfl, rfl⟩ (ht.push _) (by omega) fun h1 hit1 hs1 => ?_))
  have hall : List.take items.size (List.drop 0 items.toList) = items.toList := by
    rw [List.drop_zero]; exact List.take_of_length_le (by simp)
  rw [hall, if_neg (by simp)]
  have ht1 : h1.IsList t items := (ht.push _).extBut hs1.extBut hlt
  refine wpAny_bind (wpAny_holding (wpAny_pyNext_list_end hh hit1 ht1 (by simp) fun h2 he2 => ?_))
  simp only [Option.isSome_none, Bool.false_eq_true, if_false]
  exact wpAny_pure (hQ h2 fun b o hb e => he2 b o hb (hs1.extBut b o hb (Heap.get?_push_of_some _ e)))
theorem asg_lst {env : Env} {elts : List Expr} {x1} {pos : Pos} {t : Addr} {items : Array Value} {Q : Unit → Shared → Prop} (hh : A.handled = none) (ht : s.heap.IsList t items)
    (hn : (assignEach elts env).length = items.size) (hstar : (assignEach elts env).findIdx? (·.1) = none)
    (h : ∀ h', Heap.ExtBut s.heap.objs.size s.heap h' → wpAny (model prog w) A (assignInOrder ((assignEach elts env).map (·.2)) items.toList) Q E { s with heap := h' }) :
    wpAny (model prog w) A (assign (.Tuple elts x1 pos) env (.ref t)) Q E s := by
  rw [assign_Tuple]
  refine wpAny_bind (wpAny_standAt ?_)
  unfold unpack
  rw [hn, hstar]
  exact wpAny_bind (wpAny_holding (parts_lst hh ht h))
end
section
variable {X : Cx} {e a b c : Expr} {es : List Expr} {pos : Pos}
def gLst (K : KW) (n : Nat) (t : TGs) : TG := fun v σ H Q => ∃ a xs, v = .ref a ∧ SqL K H a xs ∧ xs.length = n ∧ t xs σ H Q
theorem pg_lst {k : Nat} {t : TGs} {n : Nat} (hc : X.calm = true) (h : PGs X es t)
    (hn : (assignEach es X.env).length = n := by rfl) (hst : (assignEach es X.env).findIdx? (·.1) = none := by rfl) : PG X (.Tuple es k pos) (gLst X.kw n t) := by
  refine ⟨fun pins s σ H v u Q I r hw => ?_⟩
  obtain ⟨a, xs, e1, hq, hl, hw⟩ := hw
  subst e1
  cases r
  obtain ⟨its, rv, ht, hz⟩ := I.list hq
  refine asg_lst (I.ok.hd hc) ht.isList (by simp [hn, ← hl, rv.length]) hst fun h' hx => ?_
  have I1 : Inv X pins σ H { s with heap := h' } := I.kept (t' := s.toks) fun b o e => hx b o (Nat.ne_of_lt (Heap.lt_size e)) e
  exact h.run pins _ σ H xs _ Q I1 (by simpa using rv) hw
def gL (n : Nat) (m : MGs) : MG := fun d s => match d with
  | .list ds => if ds.length = n then m ds s else none
  | _ => none
theorem dg_lst {k : Nat} {ts : List Nat} {m : MGs} {n : Nat} (hc : X.calm = true) (h : PGs X es (tDGs X.kw ts m)) (hn : (assignEach es X.env).length = n := by rfl) (hst : (assignEach es X.env).findIdx? (·.1) = none := by rfl) : PG X (.Tuple es k pos) (tDG X.kw ts (gL n m)) :=
  PG.imp (pg_lst hc h hn hst) fun v σ H Q q => by
    obtain ⟨B, γ, H0, s, d, s', rl, rp, e, k⟩ := q
    cases rp with
    | lst h1 h2 h3 =>
      have e' : (if _ = n then m _ s else none) = some s' := e
      split at e'
      · rename_i hl
        exact ⟨_, _, rfl, .inl h1, by rw [h3.len]; exact hl, B, γ, H0, s, _, s', rl, h3, e', fun σ2 a2 c2 l2 => k σ2 a2 c2 l2⟩
      · cases e'
    | _ => cases e
end
section
variable {prog : Program} {w : World} {A : Around} {E : Value → Shared → Prop} {s : Shared}
theorem places_rev (n : Nat) : Builtin.Slice.slicePlaces ((n : Int) - 1) (-1) (-1) = n := by
  unfold Builtin.Slice.slicePlaces
  rw [if_neg (by omega)]
  by_cases h : (n : Int) - 1 > -1
  · rw [if_pos h, show (- -1 : Int) = 1 by decide, Int.ediv_one]
    omega
  · rw [if_neg h]
    omega
theorem adjust_rev (n : Nat) : Builtin.Slice.sliceAdjust none none (-1) (n : Int) = ((n : Int) - 1, -1) := by
  unfold Builtin.Slice.sliceAdjust
  have h : ((-1 : Int) < 0) := by omega
  simp only [h, if_true]
theorem pick_rev (xs : Array Value) : ((List.range xs.size).filterMap fun (m : Nat) => xs[((xs.size : Int) - 1 + (m : Int) * (-1)).toNat]?).toArray = xs.toList.reverse.toArray := by
  have e : ∀ l : List Nat, (∀ m ∈ l, m < xs.size) → (l.filterMap fun (m : Nat) => xs[((xs.size : Int) - 1 + (m : Int) * (-1)).toNat]?) = (l.map fun k => xs.size - 1 - k).filterMap (xs[·]?) := by
    intro l
    induction l with
    | nil => intro _; rfl
    | cons m l ih =>
      intro hl
      have h1 := hl m List.mem_cons_self
      have h2 : ((xs.size : Int) - 1 + (m : Int) * (-1)).toNat = xs.size - 1 - m := by omega
      rw [List.map_cons, List.filterMap_cons, List.filterMap_cons, ih fun k hk => hl k (List.mem_cons_of_mem _ hk), h2]
  rw [e _ fun m hm => List.mem_range.mp hm, PySem.W.krv_range, List.filterMap_reverse, PySem.W.krv_all]
theorem applied_rev {sl : Addr} {vl vu vs : Value} {n : Nat} {Q : Int × Int × Nat → Shared → Prop} (hs : s.heap.IsSliceOf sl vl vu vs) (pl : IsPart vl none) (pu : IsPart vu none) (ps : IsPart vs (some (-1)))
    (h : Q ((n : Int) - 1, -1, n) s) : wpAny (model prog w) A (Builtin.Slice.sliceApplied (.ref sl) (pure (n : Int))) Q E s := by
  obtain ⟨os, hos, hcs, hds⟩ := id hs
  unfold Builtin.Slice.sliceApplied Builtin.Slice.sliceFields
  refine wpAny_bind (wpAny_bind (wpAny_field hos hds (x := vl) rfl (wpAny_bind (wpAny_field hos hds (x := vu) rfl (wpAny_bind (wpAny_field hos hds (x := vs) rfl (wpAny_pure ?_)))))))
  refine wpAny_bind (HT.slicePart_ ps ?_)
  show wpAny _ _ (if ((-1 : Int) == 0) = true then _ else _) _ _ s
  rw [if_neg (by decide)]
  refine wpAny_bind (HT.slicePart_ pl (wpAny_bind (HT.slicePart_ pu (wpAny_bind (wpAny_pure ?_)))))
  show wpAny _ _ (match Builtin.Slice.sliceAdjust none none (-1) (n : Int) with | (lo, hi) => pure (lo, (-1 : Int), Builtin.Slice.slicePlaces lo hi (-1))) _ _ s
  rw [adjust_rev n]
  show wpAny _ _ (pure ((n : Int) - 1, (-1 : Int), Builtin.Slice.slicePlaces ((n : Int) - 1) (-1) (-1))) _ _ s
  rw [places_rev]
  exact wpAny_pure h
theorem item_rev {t sl : Addr} {items : Array Value} {vl vu vs : Value} {Q : Value → Shared → Prop} (ht : IsTup s.heap t items) (hs : s.heap.IsSliceOf sl vl vu vs) (pl : IsPart vl none) (pu : IsPart vu none) (ps : IsPart vs (some (-1)))
    (h : Q (.ref s.heap.objs.size) { s with heap := s.heap.push { cls := .type "tuple", data := .seq items.toList.reverse.toArray } })
    (hsz : items.size ≤ sizeLine) : wpAny (model prog w) A (getItem (.ref t) (.ref sl)) Q E s := by
  have htake : sizeOk (.seq items.toList.reverse.toArray) := by
    show items.toList.reverse.toArray.size ≤ sizeLine
    rw [List.size_toArray, List.length_reverse, Array.length_toList]
    exact hsz
  obtain ⟨os, hos, hcs, hds⟩ := id hs
  have hTs : s.TypeIs (.ref sl) "slice" := ⟨os, hos, hcs⟩
  unfold getItem
  try with_reducible refine wpAny_holding ?_
  first | refine wpAny_bind (wpAny_pure ?_) | skip
  refine wpAny_bind (wpAny_sequenceKey ht.typeIs (by decide) ?_)
  refine wpAny_bind (wpAny_callSpecial?_slot (name := Str.ofString "__getitem__") ht.typeIs PyProof.Rows.slot_tuple_getitem
    (wpAny_call_entry PyProof.Rows.slot_tuple_getitem ht.typeIs entry_tuple_getitem ?_ (args_tuple_getitem _ _)))
  show wpAny _ _ (Builtin.Tuple.tupleItemsOf (.ref t) >>= _) _ _ s
  refine wpAny_bind (tupleItemsOf_ ht ?_)
  refine wpAny_bind (wpAny_typeOf hTs ?_)
  rw [if_pos (by decide)]
  refine wpAny_bind (applied_rev hs pl pu ps ?_)
  have hno : ¬ ((((items.size : Int) - 1) == 0 && (-1 : Int) == 1 && items.size == items.size) = true) := by simp
  show wpAny _ _ (if (((items.size : Int) - 1) == 0 && (-1 : Int) == 1 && items.size == items.size) = true then _ else _) _ _ s
  rw [if_neg hno, pick_rev]
  first
    | exact wpAny_bind (m := Builtin.Tuple.tupleExact _) (wpAny_newObj_type (wpAny_pure ⟨_, rfl, wpAny_pure h⟩) htake)
    | exact wpAny_bind (m := Builtin.Tuple.tupleExact _) (wpAny_newObj_type (wpAny_bind (wpAny_pure (wpAny_pure ⟨_, rfl, wpAny_pure h⟩))) htake)
    | exact wpAny_bind (wpAny_bind (m := Builtin.Tuple.tupleExact _) (wpAny_newObj_type (wpAny_pure (wpAny_pure ⟨_, rfl, wpAny_pure h⟩)) htake))
    | exact wpAny_bind (wpAny_bind (m := Builtin.Tuple.tupleExact _) (wpAny_newObj_type (wpAny_pure ⟨_, rfl, wpAny_pure h⟩) htake))
end
section
variable {X : Cx} {e a b c : Expr} {es : List Expr} {pos : Pos}
def tRevT (K : KW) (te : TE) : TE := fun σ H Q => te σ H fun x H1 => ∃ a xs, x = .ref a ∧ SqT K H1 a xs ∧ ∀ p, H1 p = none → Q (.ref p) (upd H1 p (.tup xs.reverse))
theorem pe_revT {te : TE} {k : Nat} {p1 p2 p3 pos : Pos} (he : PE X e te) : PE X (.Subscript e (.Slice none none (some (.UnaryOp .USub (.Constant (.int 1) k p1) p2)) p3) pos) (tRevT X.kw te) := by
  refine ⟨fun pins s σ H Q I h => ?_⟩
  refine Subscript_ (thn (he.run pins s σ H _ I h) fun v s1 ⟨x, H1, I1, r1, q1⟩ => ?_)
  obtain ⟨a, xs, ex, hx, q⟩ := q1
  subst ex
  cases r1
  have hst : PO X (some (.UnaryOp .USub (.Constant (.int 1) k p1) p2)) (tPart (tUn (rU fun i => .int (-i)) (tC (.int 1)))) := po_some (pe_un un_neg pe_int)
  refine wpAny_Slice (thn (po_none.run pins s1 σ H1 (fun o H2 => o = none ∧ H2 = H1) I1 ⟨rfl, rfl⟩) fun vl s2 ⟨l, H2, I2, pl, el, e2⟩ => ?_)
  subst el e2
  refine thn (po_none.run pins s2 σ H2 (fun o H3 => o = none ∧ H3 = H2) I2 ⟨rfl, rfl⟩) fun vu s3 ⟨u, H3, I3, pu, eu, e3⟩ => ?_
  subst eu e3
  refine thn (hst.run pins s3 σ H3 (fun o H4 => o = some (-1) ∧ H4 = H3) I3 ⟨1, rfl, -1, rfl, rfl, rfl⟩) fun vs s4 ⟨o, H4, I4, ps, eo, e4⟩ => ?_
  subst eo e4
  have I5 : Inv X pins σ H4 { s4 with heap := s4.heap.push { cls := .type "slice", data := .fields #[vl, vu, vs] } } := I4.kept (t' := s4.toks) fun b ob q => Heap.get?_push_of_some _ q
  obtain ⟨its, r, ht, hz⟩ := I5.tuple hx
  have hlen := r.length
  show wpAny (model X.prog X.w) X.A (subscriptTail e (.Slice none none (some (.UnaryOp .USub (.Constant (.int 1) k p1) p2)) p3) (.ref a) (.ref s4.heap.objs.size)) (EP X pins σ Q) X.xe { s4 with heap := s4.heap.push { cls := .type "slice", data := .fields #[vl, vu, vs] } }
  refine tail_any (ops := [.ref a, .ref s4.heap.objs.size]) ht.typeIs (PyProof.Rows.slot_tuple_getitem.lookup) ?_ (by with_unfolding_all rfl)
  refine item_rev ht (Heap.IsSliceOf.new _ vl vu vs) pl pu ps ?_ (by first | exact hz | (rw [List.size_toArray]; omega))
  refine ⟨.ref _, _, I5.laid (t' := s4.toks) (o := .tup xs.reverse) (fun b ob q => Heap.get?_push_of_some _ q) (Nat.le_refl _) ?_, rfl, q _ (I5.hok.fresh (Nat.le_refl _))⟩
  exact ⟨by rw [List.length_reverse]; exact hz, _, r.reverse, IsTup.new _ _⟩
def dRevT : Dt → Option Dt
  | .tuple xs => some (.tuple xs.reverse)
  | _ => none
theorem de_revT {m : MD} {kc : Nat} {p1 p2 p3 : Pos} (h : PE X e (tD X.kw m)) : PE X (.Subscript e (.Slice none none (some (.UnaryOp .USub (.Constant (.int 1) kc p1) p2)) p3) pos) (tD X.kw (mUn dRevT m)) :=
  PE.imp (pe_revT h) fun σ H Q q => by
    obtain ⟨B, γ, H0, s, d, s', rl, e, k⟩ := q
    obtain ⟨⟨x, s1⟩, e1, e2⟩ := ob e
    obtain ⟨z, e5, e6⟩ := om e2
    obtain ⟨rfl, rfl⟩ := Prod.mk.inj e6
    refine ⟨B, γ, H0, s, x, s1, rl, e1, fun v1 H1 a1 r1 => ?_⟩
    cases r1 with
    | tup h1 h3 =>
      cases e5
      exact ⟨_, _, rfl, h1.sq, fun p hp => k _ _ (a1.same (same_new hp)) (.tup (.inl upd_same) (h3.rev.same (same_new hp)))⟩
    | _ => cases e5
def dRevA : Dt → Option Dt
  | .tuple xs => some (.tuple xs.reverse)
  | .list xs => some (.list xs.reverse)
  | _ => none
theorem PE.or {t t' : TE} (h : PE X e t) (h' : PE X e t') : PE X e (fun σ H Q => t σ H Q ∨ t' σ H Q) := ⟨fun pins s σ H Q I q => q.elim (h.run pins s σ H Q I) (h'.run pins s σ H Q I)⟩
theorem de_revA {m : MD} {kc : Nat} {p1 p2 p3 : Pos} (h : PE X e (tD X.kw m)) : PE X (.Subscript e (.Slice none none (some (.UnaryOp .USub (.Constant (.int 1) kc p1) p2)) p3) pos) (tD X.kw (mUn dRevA m)) :=
  PE.imp (PE.or (de_revT h) (de_rev h)) fun σ H Q q => by
    obtain ⟨B, γ, H0, s, d, s', rl, e, k⟩ := q
    obtain ⟨⟨x, s1⟩, e1, e2⟩ := ob e
    obtain ⟨z, e5, e6⟩ := om e2
    obtain ⟨rfl, rfl⟩ := Prod.mk.inj e6
    cases x with
    | tuple xs =>
      refine .inl ⟨B, γ, H0, s, z, s1, rl, ?_, k⟩
      cases e5
      unfold mUn
      rw [e1] <;> rfl
    | list xs =>
      refine .inr ⟨B, γ, H0, s, z, s1, rl, ?_, k⟩
      cases e5
      unfold mUn
      rw [e1] <;> rfl
    | _ => cases e5
end
end DL
set_option Elab.async false
set_option linter.all false
set_option maxRecDepth 100000
set_option maxHeartbeats 4000000
namespace DL
open PySem PySem.Spec PyProof.Rows L2
section
variable {P : Program} {w : World} {κ : Type} [DecidableEq κ] (knd : PySem.KeyKind P w κ)
def EntK (e : Int × Value) (k : κ) : Prop := knd.is k e.2 = true ∧ e.1 = knd.hash k ∧ e.2.scannable = true
def SetV (h : Heap) (a : Addr) (ks : List κ) : Prop :=
  ∃ o es ep t, h.get? a = some o ∧ o.ExactSet ∧ o.data = .set es ep t ∧ Paired (EntK knd) es.toList ks ∧ ks.Nodup ∧ es.size < scanBound ∧ t.fits es.size = true ∧ Ris t.place.toList ∧ (w.params.followText "set-order" = true ∨ t.led = true)
end
section
variable {P : Program} {w : World} {κ : Type} [DecidableEq κ] {knd : PySem.KeyKind P w κ} {A : Around} {E : Value → Shared → Prop} {s : Shared} {a : Addr} {ks : List κ}
theorem SetV.at {h h' : Heap} (R : SetV knd h a ks) (k : ∀ o, h.get? a = some o → h'.get? a = some o) : SetV knd h' a ks := by
  obtain ⟨o, es, ep, t, ho, r⟩ := R
  exact ⟨o, es, ep, t, k o ho, r⟩
theorem ent_els : ∀ {es : List (Int × Value)} {ks : List κ}, Paired (EntK knd) es ks → ElemsOf knd es
  | _, _, .nil => fun e he => nomatch he
  | _, _, .cons h r => fun e he => by
    rcases List.mem_cons.mp he with rfl | he
    · exact ⟨⟨_, h.1, h.2.1⟩, h.2.2⟩
    · exact ent_els r e he
theorem ent_has {k : κ} : ∀ {es : List (Int × Value)} {ks : List κ}, Paired (EntK knd) es ks → (k ∈ ks ↔ ∃ e ∈ es, knd.is k e.2 = true)
  | _, _, .nil => ⟨fun h => (nomatch h), fun ⟨_, h, _⟩ => (nomatch h)⟩
  | e0 :: es, k0 :: ks, .cons h r => by
    rw [List.mem_cons, ent_has r]
    constructor
    · rintro (rfl | ⟨e, h1, h2⟩)
      · exact ⟨e0, List.mem_cons_self, h.1⟩
      · exact ⟨e, List.mem_cons_of_mem _ h1, h2⟩
    · rintro ⟨e, h1, h2⟩
      rcases List.mem_cons.mp h1 with rfl | h1
      · exact .inl (knd.inj _ _ _ h2 h.1)
      · exact .inr ⟨e, h1, h2⟩
theorem ent_perm {es es' : List (Int × Value)} (p : es'.Perm es) : ∀ {ks : List κ}, Paired (EntK knd) es ks → ∃ ks', ks'.Perm ks ∧ Paired (EntK knd) es' ks' := by
  induction p with
  | nil => exact fun r => ⟨_, List.Perm.refl _, r⟩
  | cons x _ ih =>
    intro ks r
    cases r with
    | cons h r =>
      obtain ⟨ks', p', r'⟩ := ih r
      exact ⟨_, p'.cons _, .cons h r'⟩
  | swap x y l =>
    intro ks r
    cases r with
    | cons h r =>
      cases r with
      | cons h2 r => exact ⟨_, List.Perm.swap .., .cons h2 (.cons h r)⟩
  | trans _ _ ih1 ih2 =>
    intro ks r
    obtain ⟨k1, p1, r1⟩ := ih2 r
    obtain ⟨k2, p2, r2⟩ := ih1 r1
    exact ⟨k2, p2.trans p1, r2⟩
theorem setV_laid {g : Bool → Sem Unit} (hg : ∀ (b : Bool) (s₁ : Shared) (Q' : Unit → Shared → Prop), Q' () s₁ → wpAny (model P w) A (g b) Q' E s₁)
    {o : Obj} {es es1 : Array (Int × Value)} {ep : Nat} {t t2 : SetTable} (ho : s.heap.get? a = some o) (hex : o.ExactSet) (hd : o.data = .set es ep t) (r1 : Paired (EntK knd) es1.toList ks) (nd1 : ks.Nodup)
    (hb1 : es1.size < scanBound) (hf2 : t2.fits es1.size = true) (hr : Ris t2.place.toList) (hl : w.params.followText "set-order" = true ∨ t2.led = true) {wd : Bool} {R : Option Bool → Shared → Prop}
    (hR : ∀ h' ks', Heap.SameBut a s.heap h' → ks'.Perm ks → SetV knd h' a ks' → R (some true) { s with heap := h' }) :
    wpAny (model P w) A (do
        storeSet a es1 t2
        if (!wd && t2.tooFull) = true then do
            g (relayAll t2 es1 (SetTable.grown es1.size)).2.2; storeSet a (relayAll t2 es1 (SetTable.grown es1.size)).1 (relayAll t2 es1 (SetTable.grown es1.size)).2.1; pure (some true)
          else pure (some true)) R E s := by
  have ho1 := store_at (es' := es1) (t' := t2) ho hd
  have sb1 := Heap.SameBut.update s.heap a (Obj.putSet es1 t2)
  refine wpAny_bind (wpAny_storeSet_of ho hd ?_ (fits_of_scanBound hb1))
  by_cases c : (!wd && t2.tooFull) = true
  · rw [if_pos c]
    obtain ⟨es2, t3, gv, hZ⟩ : ∃ es2 t3 gv, relayAll t2 es1 (SetTable.grown es1.size) = (es2, t3, gv) := ⟨_, _, _, rfl⟩
    have pm := relayAll_perm t2 es1 (SetTable.grown es1.size); have hf3 := relayAll_fits t2 es1 (SetTable.grown es1.size)
    have hr3 := relayAll_ris t2 es1 (SetTable.grown es1.size); have hl3 := relayAll_led t2 es1 (SetTable.grown es1.size)
    rw [hZ] at pm hf3 hr3 hl3 ⊢
    have pm2 : es2.toList.Perm es1.toList := pm
    have hsz : es2.size = es1.size := by
      have := pm2.length_eq
      simpa using this
    obtain ⟨k2, p2, r2⟩ := ent_perm pm2 r1
    refine wpAny_bind (hg gv _ _ (wpAny_bind (wpAny_storeSet_of ho1 rfl ?_ (fits_of_scanBound (by show es2.size < _; rw [hsz]; exact hb1)))))
    have ho2 := store_at (es' := es2) (t' := t3) ho1 rfl
    exact wpAny_pure (hR _ k2 (sb1.trans (Heap.SameBut.update _ a _)) p2 ⟨_, es2, _, t3, ho2, hex, rfl, r2, p2.nodup_iff.mpr nd1, by rw [hsz]; exact hb1, hf3, hr3, hl.imp id fun z => hl3.trans z⟩)
  · rw [if_neg c]
    exact wpAny_pure (hR _ ks sb1 (List.Perm.refl _) ⟨_, es1, _, t2, ho1, hex, rfl, r1, nd1, hb1, hf2, hr, hl⟩)
theorem setV_addH {k : κ} {x : Value} {Q : Bool → Shared → Prop} (hx : knd.is k x = true) (hsc : x.scannable = true) (R : SetV knd s.heap a ks) (room : ks.length + 1 < scanBound)
    (h1 : k ∈ ks → Q false s) (h2 : ∀ h' ks', k ∉ ks → Heap.SameBut a s.heap h' → ks'.Perm (k :: ks) → SetV knd h' a ks' → Q true { s with heap := h' }) :
    wpAny (model P w) A (setAddHashed a x (knd.hash k)) Q E s := by
  obtain ⟨o, es, ep, t, ho, hex, hd, rp, nd, hb, hf, hr, hl⟩ := R
  have hel := ent_els rp
  have hlen : es.toList.length = ks.length := Paired.length rp
  unfold setAddHashed setAddHashedIn
  refine wpAny_holding (wpAny_bind (wpAny_setState_of ho hd hf ?_))
  dsimp only
  rw [byScan_of hsc hb hel]
  simp only [↓reduceIte]
  unfold setAddByScan
  refine wpAny_bind (wpAny_bind (wpAny_rule (wpAny_bind (wpAny_setScan_of hx ho hd hf hel ?_))))
  cases hfi : es.toList.findIdx? (fun e => knd.is k e.2) with
  | some j =>
    obtain ⟨hj, pj, _⟩ := List.findIdx?_eq_some_iff_getElem.mp hfi
    exact wpAny_pure (wpAny_pure (h1 ((ent_has rp).mpr ⟨_, List.getElem_mem hj, pj⟩)))
  | none =>
    have hnk : k ∉ ks := fun z => by
      obtain ⟨e, he, q⟩ := (ent_has rp).mp z
      exact absurd q (by rw [List.findIdx?_eq_none_iff.mp hfi e he]; exact Bool.false_ne_true)
    dsimp only
    obtain ⟨es1, t1, wd, gv, hZ⟩ : ∃ es1 t1 wd gv, layNew t es (knd.hash k) x = (es1, t1, wd, gv) := ⟨_, _, _, _, rfl⟩
    have pm := layNew_perm t es (knd.hash k) x; have hf1 := layNew_fits t es (knd.hash k) x
    have hr1 := layNew_ris t es (knd.hash k) x hr; have hl1 := layNew_led t es (knd.hash k) x
    rw [hZ] at pm hf1 hr1 hl1 ⊢
    dsimp only at pm hf1 hr1 hl1 ⊢
    rw [Array.toList_push] at pm
    have pc : es1.toList.Perm ((knd.hash k, x) :: es.toList) := pm.trans (List.perm_append_singleton _ _)
    obtain ⟨k1, p1, r1⟩ := ent_perm pc (.cons ⟨hx, rfl, hsc⟩ rp)
    have hsz : es1.size = ks.length + 1 := by
      have := pc.length_eq
      rw [List.length_cons, hlen] at this
      simpa using this
    have nd1 : k1.Nodup := p1.nodup_iff.mpr (List.nodup_cons.mpr ⟨hnk, nd⟩)
    have hb1 : es1.size < scanBound := by rw [hsz]; exact room
    have hled : w.params.followText "set-order" = true ∨ t1.led = true := hl.imp id fun z => hl1.trans z
    have fin : ∀ h' ks', Heap.SameBut a s.heap h' → ks'.Perm k1 → SetV knd h' a ks' → Q true { s with heap := h' } := fun h' ks' sb p r => h2 h' ks' hnk sb (p.trans p1) r
    have hgw : ∀ (b : Bool) (s₁ : Shared) (Q' : Unit → Shared → Prop), Q' () s₁ → wpAny (model P w) A (match b with | true => rule "set.scan.the-table-gave-way" | false => pure ()) Q' E s₁ := fun b s₁ Q' q => by
      cases b
      · exact wpAny_pure q
      · exact wpAny_rule q
    refine wpAny_bind (hgw gv _ _ ?_)
    split
    · rw [hashByValue_scannable 8 hsc]
      refine wpAny_bind (wpAny_pure ?_)
      refine setV_laid hgw ho hex hd r1 nd1 hb1 ?_ ?_ ?_ fun h' ks' sb p r => wpAny_pure (fin h' ks' sb p r)
      · split
        · exact hf1
        · exact SetTable.fits_plain_off hf1
      · split <;> exact hr1
      · split <;> exact hled
    · refine wpAny_bind (wpAny_pure ?_)
      exact setV_laid hgw ho hex hd r1 nd1 hb1 hf1 hr1 hled fun h' ks' sb p r => wpAny_pure (fin h' ks' sb p r)
theorem setV_fresh {h : Heap} : SetV knd (h.push (newSetO w)) h.objs.size [] := by
  obtain ⟨o, es, ep, t, ho, hex, hd, _, _, _, hb, hf, hn, hr, hl⟩ := setR_fresh (h := h) w
  have e : es = #[] := Array.eq_empty_of_size_eq_zero hn
  subst e
  exact ⟨o, #[], ep, t, ho, hex, hd, .nil, List.nodup_nil, hb, hf, hr, hl⟩
end
end DL
set_option Elab.async false
set_option linter.all false
set_option maxRecDepth 100000
set_option maxHeartbeats 4000000
namespace DL
open PySem PySem.Spec PyProof.Rows L2
open PySem.W (dataLt alike alikeAll keyToks keyToksAll dataLe AllAlike Sortable)
abbrev dO := PyProof.Rows.listOrd itemOrd
theorem lt_irr (x : Dt) : dataLt x x = false := dO.irrefl _
theorem lt_tr {x y z : Dt} (h1 : dataLt x y = true) (h2 : dataLt y z = true) : dataLt x z = true := dO.trans _ _ _ h1 h2
theorem lt_asym {x y : Dt} (h1 : dataLt x y = true) : dataLt y x = false := by
  cases h : dataLt y x with
  | false => rfl
  | true =>
    have := lt_tr h1 h
    rw [lt_irr] at this
    cases this
mutual
theorem alike_eq : ∀ (x y : Dt), alike x y = true → PyData.eqv x y = true → x = y
  | .none, y, h, e => by cases y <;> first | rfl | (simp [alike] at h)
  | .bool a, y, h, e => by cases y <;> first | (simp [alike] at h; done) | (simp [PyData.eqv] at e; subst e; rfl)
  | .int a, y, h, e => by cases y <;> first | (simp [alike] at h; done) | (simp [PyData.eqv] at e; subst e; rfl)
  | .str a, y, h, e => by cases y <;> first | (simp [alike] at h; done) | (simp [PyData.eqv] at e; subst e; rfl)
  | .list xs, y, h, e => by
    cases y with
    | list ys =>
      rw [PyData.eqv] at e
      rw [alike] at h
      rw [alikeAll_eq xs ys h e]
    | _ => simp [alike] at h
  | .tuple xs, y, h, e => by
    cases y with
    | tuple ys =>
      rw [PyData.eqv] at e
      rw [alike] at h
      rw [alikeAll_eq xs ys h e]
    | _ => simp [alike] at h
  | .dict _, y, h, e => by cases y <;> simp [alike] at h
theorem alikeAll_eq : ∀ (xs ys : List Dt), alikeAll xs ys = true → PyData.eqvAll xs ys = true → xs = ys
  | [], [], _, _ => rfl
  | [], _ :: _, _, e => by simp [PyData.eqvAll] at e
  | _ :: _, [], _, e => by simp [PyData.eqvAll] at e
  | x :: xs, y :: ys, h, e => by
    rw [PyData.eqvAll, Bool.and_eq_true] at e
    rw [alikeAll, Bool.and_eq_true] at h
    rw [alike_eq x y h.1 e.1, alikeAll_eq xs ys h.2 e.2]
end
theorem lt_tri {x y : Dt} (h : alike x y = true) (h1 : dataLt x y = false) (h2 : dataLt y x = false) : x = y := by
  have e := dO.total _ _ h1 h2
  cases q : PyData.eqv x y with
  | true => exact alike_eq x y h q
  | false =>
    exfalso
    have t := (PySem.W.toks_eqv x y h).2 q [.inl 0] [.inl 1]
    have t2 := (PySem.W.toks_eqv x y h).2 q [.inl 1] [.inl 0]
    rw [e] at t t2
    rw [PySem.W.lex_pre] at t t2
    rw [← t2] at t
    revert t
    decide +kernel
def insD (x : Dt) : List Dt → List Dt
  | [] => [x]
  | y :: r => if dataLt x y then x :: y :: r else if dataLt y x then y :: insD x r else y :: r
def setD : List Dt → List Dt
  | [] => []
  | x :: r => insD x (setD r)
abbrev AscD (l : List Dt) : Prop := l.Pairwise fun a b => dataLt a b = true
theorem insD_mem {x z : Dt} : ∀ {l : List Dt}, (∀ y ∈ l, alike x y = true) → (z ∈ insD x l ↔ z = x ∨ z ∈ l)
  | [], _ => by simp [insD]
  | y :: r, h => by
    unfold insD
    by_cases c : dataLt x y = true
    · rw [if_pos c, List.mem_cons]
    · rw [if_neg c]
      by_cases c2 : dataLt y x = true
      · rw [if_pos c2, List.mem_cons, insD_mem fun y hy => h y (List.mem_cons_of_mem _ hy), List.mem_cons]
        constructor
        · rintro (h | h | h)
          · exact .inr (.inl h)
          · exact .inl h
          · exact .inr (.inr h)
        · rintro (h | h | h)
          · exact .inr (.inl h)
          · exact .inl h
          · exact .inr (.inr h)
      · rw [if_neg c2]
        have e := lt_tri (h y List.mem_cons_self) (by simpa using c) (by simpa using c2)
        subst e
        simp
theorem insD_asc {x : Dt} : ∀ {l : List Dt}, (∀ y ∈ l, alike x y = true) → AscD l → AscD (insD x l)
  | [], _, _ => List.pairwise_singleton _ _
  | y :: r, h, p => by
    have p' := List.pairwise_cons.mp p
    unfold insD
    by_cases c : dataLt x y = true
    · rw [if_pos c]
      refine List.pairwise_cons.mpr ⟨fun z hz => ?_, p⟩
      rcases List.mem_cons.mp hz with rfl | hz
      · exact c
      · exact lt_tr c (p'.1 z hz)
    · rw [if_neg c]
      by_cases c2 : dataLt y x = true
      · rw [if_pos c2]
        refine List.pairwise_cons.mpr ⟨fun z hz => ?_, insD_asc (fun y hy => h y (List.mem_cons_of_mem _ hy)) p'.2⟩
        rcases (insD_mem fun y hy => h y (List.mem_cons_of_mem _ hy)).mp hz with rfl | hz
        · exact c2
        · exact p'.1 z hz
      · rw [if_neg c2]
        exact p
theorem setD_mem {z : Dt} : ∀ {l : List Dt}, AllAlike l → (z ∈ setD l ↔ z ∈ l)
  | [], _ => Iff.rfl
  | x :: r, h => by
    have ih : ∀ {z}, z ∈ setD r ↔ z ∈ r := setD_mem fun a ha b hb => h a (List.mem_cons_of_mem _ ha) b (List.mem_cons_of_mem _ hb)
    show z ∈ insD x (setD r) ↔ _
    rw [insD_mem fun y hy => h x List.mem_cons_self y (List.mem_cons_of_mem _ (ih.mp hy)), ih, List.mem_cons]
theorem setD_asc : ∀ {l : List Dt}, AllAlike l → AscD (setD l)
  | [], _ => List.Pairwise.nil
  | x :: r, h => by
    have hr : AllAlike r := fun a ha b hb => h a (List.mem_cons_of_mem _ ha) b (List.mem_cons_of_mem _ hb)
    exact insD_asc (fun y hy => h x List.mem_cons_self y (List.mem_cons_of_mem _ ((setD_mem hr).mp hy))) (setD_asc hr)
theorem ascD_unique : ∀ {l m : List Dt}, AscD l → AscD m → (∀ z, z ∈ l ↔ z ∈ m) → l = m
  | [], [], _, _, _ => rfl
  | [], y :: m, _, _, h => absurd ((h y).mpr List.mem_cons_self) (by simp)
  | x :: l, [], _, _, h => absurd ((h x).mp List.mem_cons_self) (by simp)
  | x :: l, y :: m, hl, hm, h => by
    have hl' := List.pairwise_cons.mp hl
    have hm' := List.pairwise_cons.mp hm
    have no : ∀ {a b : Dt}, dataLt a b = true → dataLt b a = true → False := fun p q => by
      rw [lt_asym p] at q
      cases q
    have e : x = y := by
      rcases List.mem_cons.mp ((h x).mp List.mem_cons_self) with q | q
      · exact q
      · rcases List.mem_cons.mp ((h y).mpr List.mem_cons_self) with q2 | q2
        · exact q2.symm
        · exact (no (hm'.1 x q) (hl'.1 y q2)).elim
    subst e
    congr 1
    refine ascD_unique hl'.2 hm'.2 fun z => ⟨fun hz => ?_, fun hz => ?_⟩
    · rcases List.mem_cons.mp ((h z).mp (List.mem_cons_of_mem _ hz)) with q | q
      · exact (no (hl'.1 z hz) (q ▸ hl'.1 z hz)).elim
      · exact q
    · rcases List.mem_cons.mp ((h z).mpr (List.mem_cons_of_mem _ hz)) with q | q
      · exact (no (hm'.1 z hz) (q ▸ hm'.1 z hz)).elim
      · exact q
def sortD (l : List Dt) : List Dt := l.mergeSort (dataLe false id)
theorem sort_fst {α : Type} (f : α → Dt) (l : List α) : (l.mergeSort (dataLe false f)).map f = sortD (l.map f) :=
  PySem.W.sort_maps f fun _ _ _ _ => rfl
theorem sortD_perm (l : List Dt) : (sortD l).Perm l := List.mergeSort_perm l _
theorem sortD_le (l : List Dt) : (sortD l).Pairwise fun a b => dataLt b a = false := by
  have := PySem.W.sort_pairwise (PySem.W.sortLe_total dO false fun b : Dt => keyToks b) l
  refine List.Pairwise.imp (fun {a b} h => ?_) this
  have h2 : (!dataLt b a) = true := h
  simpa using h2
theorem sortD_unique {l m : List Dt} (h : AllAlike l) (p : m.Perm l) (hs : m.Pairwise fun a b => dataLt b a = false) : m = sortD l := by
  have key : ∀ {m n : List Dt}, AllAlike m → m.Perm n → m.Pairwise (fun a b => dataLt b a = false) → n.Pairwise (fun a b => dataLt b a = false) → m = n := by
    intro m
    induction m with
    | nil => intro n _ p _ _; exact (List.nil_perm.mp p).symm
    | cons x m ih =>
      intro n ha p h1 h2
      cases n with
      | nil => exact absurd p.length_eq (by simp)
      | cons y n =>
        have h1' := List.pairwise_cons.mp h1
        have h2' := List.pairwise_cons.mp h2
        have e : x = y := by
          rcases List.mem_cons.mp (p.mem_iff.mp (List.mem_cons_self (a := x) (l := m))) with q | q
          · exact q
          · rcases List.mem_cons.mp (p.mem_iff.mpr (List.mem_cons_self (a := y) (l := n))) with q2 | q2
            · exact q2.symm
            · exact lt_tri (ha x List.mem_cons_self y (List.mem_cons_of_mem _ q2)) (h2'.1 x q) (h1'.1 y q2)
        subst e
        rw [ih (fun a h1 b h2 => ha a (List.mem_cons_of_mem _ h1) b (List.mem_cons_of_mem _ h2)) (List.Perm.cons_inv p) h1'.2 h2'.2]
  exact key (fun a h1 b h2 => h a (p.mem_iff.mp h1) b (p.mem_iff.mp h2)) (p.trans (sortD_perm l).symm) hs (sortD_le l)
theorem setD_sort {l m : List Dt} (h : AllAlike l) (nd : m.Nodup) (hm : ∀ z, z ∈ m ↔ z ∈ l) : sortD m = setD l := by
  refine ascD_unique ?_ (setD_asc h) fun z => by rw [setD_mem h, (sortD_perm m).mem_iff, hm]
  have nd2 : (sortD m).Nodup := (sortD_perm m).nodup_iff.mpr nd
  refine List.Pairwise.imp_of_mem (fun {a b} ha hb hq => ?_) (List.pairwise_and_iff.mpr ⟨sortD_le m, nd2⟩)
  cases q : dataLt a b with
  | true => rfl
  | false =>
    have ha' := (hm a).mp ((sortD_perm m).mem_iff.mp ha)
    have hb' := (hm b).mp ((sortD_perm m).mem_iff.mp hb)
    exact absurd (lt_tri (h a ha' b hb') q hq.1) hq.2
end DL
set_option Elab.async false
set_option linter.all false
set_option maxRecDepth 100000
set_option maxHeartbeats 4000000
namespace DL
open PySem PySem.Spec PyProof.Rows L2
open PySem.W (dataLt alike alikeAll keyToks keyToksAll dataLe AllAlike Sortable EachIs)
mutual
/-- data without dicts -/
def layD : Dt → Bool
  | .dict _ => false
  | .list xs => layDs xs
  | .tuple xs => layDs xs
  | _ => true
def layDs : List Dt → Bool
  | [] => true
  | x :: xs => layD x && layDs xs
end
mutual
theorem Rp.dpL {K : KW} {B : Bad} {H : Hp} : ∀ {v : V} {d : Dt}, Rp K H B v d → layD d = true → Dp K H v d
  | _, _, .non, _ => .non
  | _, _, .bl b, _ => .bl b
  | _, _, .int i, _ => .int i
  | _, _, .str x, _ => .str x
  | _, _, .lst h _ r, c => .lst (.inl h) (RpL.dpL r (by simpa [layD] using c))
  | _, _, .tup h r, c => .tup h.sq (RpL.dpL r (by simpa [layD] using c))
  | _, _, .scr _, c => by simp [layD] at c
  | _, _, .dct _ _, c => by simp [layD] at c
  | _, _, .ep _ _, c => by simp [layD] at c
  | _, _, .ob _ _ _, c => by simp [layD] at c
  | _, _, .mem _, c => by simp [layD] at c
theorem RpL.dpL {K : KW} {B : Bad} {H : Hp} : ∀ {vs : List V} {ds : List Dt}, RpL K H B vs ds → layDs ds = true → DpAll K H vs ds
  | _, _, .nil, _ => .nil
  | _, _, .cons h r, c => by
    rw [layDs, Bool.and_eq_true] at c
    exact .cons (Rp.dpL h c.1) (RpL.dpL r c.2)
end
def tupNE : Dt → Bool
  | .tuple (_ :: _) => true
  | _ => false
def noTup : Dt → Bool
  | .tuple _ => false
  | .none => false
  | _ => true
def sortOk (ds : List Dt) : Bool := ds.all (fun x => ds.all fun y => alike x y) && (ds.all tupNE || ds.all noTup) && ds.all (fun d => decide (d.depth < 50)) && layDs ds
theorem sortOk_al {ds : List Dt} (h : sortOk ds = true) : AllAlike ds := by
  unfold sortOk at h
  simp only [Bool.and_eq_true, List.all_eq_true] at h
  exact fun x hx y hy => h.1.1.1 x hx y hy
theorem sortOk_so {ds : List Dt} (h : sortOk ds = true) : Sortable ds := by
  unfold sortOk at h
  simp only [Bool.and_eq_true, Bool.or_eq_true, List.all_eq_true] at h
  rcases h.1.1.2 with h | h
  · refine .inl fun d hd => ?_
    have := h d hd
    unfold tupNE at this
    split at this
    · exact ⟨_, _, rfl⟩
    · cases this
  · refine .inr fun d hd => ?_
    have := h d hd
    unfold noTup at this
    split at this
    · cases this
    · cases this
    · rename_i h1 h2
      exact ⟨fun e => h2 e, fun xs e => h1 xs e⟩
theorem sortOk_de {ds : List Dt} (h : sortOk ds = true) : ∀ d ∈ ds, d.depth < 50 := by
  unfold sortOk at h
  simp only [Bool.and_eq_true, List.all_eq_true, decide_eq_true_eq] at h
  exact fun d hd => h.1.2 d hd
theorem sortOk_lay {ds : List Dt} (h : sortOk ds = true) : layDs ds = true := by
  unfold sortOk at h
  simp only [Bool.and_eq_true] at h
  exact h.2
theorem each_vals : ∀ {xs : List V} {ds : List Dt} {us : List Value}, xs.length = ds.length → Vals xs us → EachIs (fun u (b : V × Dt) => RelV b.1 u) us (xs.zip ds)
  | _, [], _, h, .nil => .nil
  | _ :: xs, d :: ds, _, h, .cons r t => .cons r (each_vals (by simpa using h) t)
theorem vals_each : ∀ {bs : List (V × Dt)} {us : List Value}, EachIs (fun u (b : V × Dt) => RelV b.1 u) us bs → Vals (bs.map (·.1)) us
  | [], _, .nil => .nil
  | _ :: bs, _, .cons r t => .cons r (vals_each t)
theorem zip_snd {α β : Type} : ∀ {xs : List α} {ds : List β}, xs.length = ds.length → (xs.zip ds).map (·.2) = ds
  | [], [], _ => rfl
  | _ :: xs, d :: ds, h => by
    show d :: (xs.zip ds).map (·.2) = d :: ds
    rw [zip_snd (by simpa using h)]
section
variable {X : Cx} {x : Str} {p pos : PySem.Pos} {e a b : Expr} {es : List Expr}
def rSortD (K : KW) : List V → Hp → VK → Prop := fun vs H Q => ∃ (l : Addr) (xs : List V) (ds : List Dt), vs = [.ref l] ∧ SqL K H l xs ∧ DpAll K H xs ds ∧ sortOk ds = true ∧
  ∀ p, H p = none → Q (.ref p) (upd H p (.lst (((xs.zip ds).mergeSort (dataLe false Prod.snd)).map (·.1))))
theorem dpAll_len {K : KW} {H : Hp} : ∀ {xs : List V} {ds : List Dt}, DpAll K H xs ds → xs.length = ds.length
  | _, _, .nil => rfl
  | _, _, .cons _ r => by rw [List.length_cons, List.length_cons, dpAll_len r]
theorem cr_sortD (hu : X.A.units + 64 < cLine) : CallR X (.builtin "sorted") (rSortD X.kw) := by
  intro pins s σ H vs us Q I r ⟨l, xs, ds, ev, hs, hd, ok, k⟩
  subst ev
  obtain ⟨its, rv, hl, hz⟩ := I.list hs
  obtain ⟨u, rfl, ru⟩ := vals1 r
  obtain rfl : u = Value.ref l := ru
  have hlen := dpAll_len hd
  obtain ⟨as, ra⟩ := Dp.readsAll I ds xs its hd rv
  have e1 := each_vals hlen rv
  have e2 : EachIs (fun v (b : V × Dt) => ∃ as, Reads s.heap v b.2 as) its (xs.zip ds) := PySem.W.readsAll_each (bs := xs.zip ds) (fun b : V × Dt => b.2) (by rw [zip_snd hlen]; exact ra)
  refine PySem.W.sorted_data (enc := fun b : V × Dt => b.2) hl.isList e1 e2 (by rw [zip_snd hlen]; exact sortOk_al ok) (by rw [zip_snd hlen]; exact sortOk_so ok) ?_ (fun b hb => ?_) fun out ho eo => ?_
  · rw [List.length_zip, ← hlen, Nat.min_self]; exact hz
  · have hb' : b.2 ∈ ds := by rw [← zip_snd hlen]; exact List.mem_map_of_mem hb
    have := sortOk_de ok b.2 hb'
    omega
  · obtain ⟨n, hn⟩ := sortedAll_at s.heap its out.toArray
    have hfr : s.heap.objs.size ≤ s.heap.objs.size + 1 := Nat.le_succ _
    refine ⟨.ref _, upd H (s.heap.objs.size + 1) (.lst (((xs.zip ds).mergeSort (dataLe false Prod.snd)).map (·.1))), I.laid (t' := s.toks) (fun b o => sortedAll_old) hfr ⟨?_, out, n, vals_each eo, hn⟩, rfl, k _ (I.hok.fresh hfr)⟩
    rw [List.length_map, List.length_mergeSort, List.length_zip, ← hlen, Nat.min_self]
    exact hz
theorem zip_fst {α β : Type} : ∀ {xs : List α} {ds : List β}, xs.length = ds.length → (xs.zip ds).map (·.1) = xs
  | [], [], _ => rfl
  | x :: xs, d :: ds, h => by
    show x :: (xs.zip ds).map (·.1) = x :: xs
    rw [zip_fst (by simpa using h)]
theorem RpL.of_all {K : KW} {H : Hp} {B : Bad} : ∀ {bs : List (V × Dt)}, (∀ b ∈ bs, Rp K H B b.1 b.2) → RpL K H B (bs.map (·.1)) (bs.map (·.2))
  | [], _ => .nil
  | b :: bs, h => .cons (h b List.mem_cons_self) (RpL.of_all fun c hc => h c (List.mem_cons_of_mem _ hc))
theorem RpL.zip_all {K : KW} {H : Hp} {B : Bad} : ∀ {xs : List V} {ds : List Dt}, RpL K H B xs ds → ∀ b ∈ xs.zip ds, Rp K H B b.1 b.2
  | _, _, .nil => fun b hb => nomatch hb
  | _, _, .cons h r => fun b hb => by
    rcases List.mem_cons.mp hb with rfl | hb
    · exact h
    · exact RpL.zip_all r b hb
def fSortD : List Dt → Option (List Dt)
  | [.list ds] => if sortOk ds then some (sortD ds) else none
  | _ => none
theorem cl_sortD (hu : X.A.units + 64 < cLine) : CallL X (.builtin "sorted") fSortD := ⟨_, cr_sortD hu, fun B H vs ds out Q rl eq k => by
  unfold fSortD at eq
  split at eq
  · split at eq
    · rename_i xs ok
      cases eq
      obtain ⟨v, rfl, h⟩ := one_arg rl
      cases h with
      | @lst a ws _ h1 _ h3 =>
        refine ⟨a, _, xs, rfl, .inl h1, h3.dpL (sortOk_lay ok), ok, fun p hp => ?_⟩
        refine k p _ hp ?_
        have hlen := h3.len
        rw [show sortD xs = ((ws.zip xs).mergeSort (dataLe false Prod.snd)).map (·.2) by rw [sort_fst, zip_snd hlen]]
        exact RpL.of_all fun b hb => h3.zip_all b (List.mem_mergeSort.mp hb)
    · cases eq
  · cases eq⟩
end
end DL
set_option Elab.async false
set_option linter.all false
set_option maxRecDepth 100000
set_option maxHeartbeats 4000000
namespace DL
open PySem PySem.Spec PyProof.Rows L2
open PySem.W (dataLt alike alikeAll keyToks keyToksAll dataLe AllAlike Sortable EachIs)
theorem kD_inj {a b : Key} (h : kD a = kD b) : a = b := by
  cases a <;> cases b <;> simp [kD] at h <;> rw [h]
theorem key_reads {h : Heap} {k : Key} {v : Value} (e : RelV (kV k) v) : Reads h v (kD k) [] := by
  cases k with
  | inl i =>
    obtain ⟨t, rfl⟩ := e
    exact .int i t
  | inr x =>
    obtain ⟨t, rfl⟩ := e
    exact .str x t
theorem key_rel {P : Program} {w : World} {k : Key} {v : Value} (e : (mixKind P w).is k v = true) : RelV (kV k) v := by
  rcases keyIs_shape e with ⟨i, t, rfl, rfl⟩ | ⟨x, t, rfl, rfl⟩
  · exact ⟨t, rfl⟩
  · exact ⟨t, rfl⟩
def SetVO (P : Program) (w : World) (a : Addr) (ks : List Key) : HO := .ext fun h => SetV (mixKind P w) h a ks
section
variable {X : Cx} {x : Str} {p pos : PySem.Pos} {e a b : Expr} {es : List Expr}
theorem setVO_new {P : Program} {w : World} {H : Hp} {h : Heap} {a : Addr} {ks : List Key} (R : SetV (mixKind P w) h a ks) : ObjOk P w H h a (SetVO P w a ks) := by
  have ⟨o, _, _, _, ho, _⟩ := R
  exact ⟨R, ⟨o, ho⟩, fun h1 h2 q k => q.at k⟩
def IvK (P : Program) (w : World) (S : Addr) (ns : List Key) (i : Nat) (h : Heap) : Prop := ∃ ks : List Key, SetV (mixKind P w) h S ks ∧ ks.Nodup ∧ (∀ k, k ∈ ks ↔ k ∈ ns.take i) ∧ ks.length ≤ i
theorem ivK_add {w : World} {P : Program} {A : Around} {S : Addr} {ns : List Key} {at_ : Nat → Value → Prop} (hl : ns.length < 4000) (ha : ∀ i v, at_ i v → ∃ k, ns[i]? = some k ∧ RelV (kV k) v) : AddsAt P w A S at_ (IvK P w S ns) := by
  intro i v s Q E hv ⟨ks, hR, nd, hF, hn⟩ k
  obtain ⟨z, e1, rz⟩ := ha i v hv
  have hi : i < ns.length := (List.getElem?_eq_some_iff.mp e1).1
  have hin : ∀ y, y ∈ ns.take (i + 1) ↔ y ∈ ns.take i ∨ y = z := fun y => by
    rw [List.take_add_one, e1, List.mem_append]
    show _ ∨ y ∈ [z] ↔ _
    rw [List.mem_singleton]
  unfold setAdd
  refine wpAny_holding (wpAny_bind ((mixKind P w).pyHash (k := z) (kV_is rz) ?_))
  refine setV_addH (s := { s with toks := s.toks + 1 }) (k := z) (kV_is rz) (key_scan rz) hR (by unfold scanBound; omega) (fun hz => ?_) fun h' ks' hz sb pm hR' => ?_
  · refine k _ s.heap (s.toks + 1) (Heap.SameBut.refl _ _) (Nat.le_succ _) ⟨ks, hR, nd, fun y => ?_, by omega⟩
    rw [hin, hF]
    exact ⟨.inl, fun q => q.elim id fun e => by rw [e]; exact (hF z).mp hz⟩
  · refine k _ h' (s.toks + 1) sb (Nat.le_succ _) ⟨ks', hR', pm.nodup_iff.mpr (List.nodup_cons.mpr ⟨hz, nd⟩), fun y => ?_, by rw [pm.length_eq, List.length_cons]; omega⟩
    rw [pm.mem_iff, List.mem_cons, hF, hin]
    exact Or.comm
def rSetK (K : KW) (P : Program) (w : World) : List V → Hp → VK → Prop := fun vs H Q => ∃ (l : Addr) (ns : List Key), vs = [V.ref l] ∧ (SqL K H l (ns.map kV) ∨ SqT K H l (ns.map kV)) ∧ ns.length < 4000 ∧
  ∀ (ks : List Key) (q : Addr), ks.Nodup → (∀ k, k ∈ ks ↔ k ∈ ns) → H q = none → Q (.ref q) (upd H q (SetVO P w q ks))
theorem cr_setK (hc : X.calm = true) : CallR X (.type "set") (rSetK X.kw X.prog X.w) := by
  intro pins s σ H vs us Q I r ⟨l, ns, ev, hsq, hl, k⟩
  subst ev
  have hd : X.A.handled = none := I.ok.hd hc
  obtain ⟨u, rfl, ru⟩ := vals1 r
  obtain rfl : u = Value.ref l := ru
  have at_of : ∀ (its : List Value), Vals (ns.map kV) its → ∀ (i : Nat) (v : Value), its.toArray[i]? = some v → ∃ k, ns[i]? = some k ∧ RelV (kV k) v := fun its rv i v hv => by
    have hv' : its[i]? = some v := by simpa using hv
    have hi : i < its.length := (List.getElem?_eq_some_iff.mp hv').1
    have hi2 : i < ns.length := by
      have := rv.length
      rw [List.length_map] at this
      omega
    obtain ⟨u, q1, q2⟩ := rv.get (i := i) (x := kV ns[i]) (by rw [List.getElem?_map, List.getElem?_eq_getElem hi2]; rfl)
    rw [hv'] at q1; cases q1
    exact ⟨_, List.getElem?_eq_getElem hi2, q2⟩
  have start : IvK X.prog X.w s.heap.objs.size ns 0 (s.heap.push (newSetO X.w)) := ⟨[], setV_fresh, List.nodup_nil, fun y => by simp, Nat.le_refl _⟩
  have mono : ∀ i (h h' : Heap), IvK X.prog X.w s.heap.objs.size ns i h → (∀ b o, b ≤ s.heap.objs.size → h.get? b = some o → h'.get? b = some o) → IvK X.prog X.w s.heap.objs.size ns i h' := fun i h h' ⟨ks, hR, q1, q2⟩ kp => ⟨ks, hR.at fun o e => kp _ o (Nat.le_refl _) e, q1, q2⟩
  have fin : ∀ (its : List Value) (h' : Heap) (tk : Nat), its.length = ns.length → IvK X.prog X.w s.heap.objs.size ns its.toArray.size h' → (∀ b o, s.heap.get? b = some o → h'.get? b = some o) → EP X pins σ Q (.ref s.heap.objs.size) { s with heap := h', toks := tk } := fun its h' tk el ⟨ks, hR, q1, q2, q3⟩ kp => by
    have sz : its.toArray.size = ns.length := by rw [List.size_toArray]; exact el
    rw [sz, List.take_length] at q2
    exact ⟨.ref _, upd H s.heap.objs.size (SetVO X.prog X.w s.heap.objs.size ks), I.laid (t' := tk) kp (Nat.le_refl _) (setVO_new hR), rfl, k ks _ q1 q2 (I.hok.fresh (Nat.le_refl _))⟩
  rcases hsq with hsq | hsq
  · obtain ⟨its, rv, pl, _⟩ := I.list hsq
    have el : its.length = ns.length := by rw [← rv.length, List.length_map]
    exact call_set_by hd pl.isList (IvK X.prog X.w s.heap.objs.size ns) mono start (fun A' _ => ivK_add hl (at_of its rv)) fun h' tk iv kp => fin its h' tk el iv kp
  · obtain ⟨its, rv, pl, _⟩ := I.tuple hsq
    have el : its.length = ns.length := by rw [← rv.length, List.length_map]
    exact call_set_byT hd pl (IvK X.prog X.w s.heap.objs.size ns) mono start (fun A' _ => ivK_add hl (at_of its rv)) fun h' tk iv kp => fin its h' tk el iv kp
theorem pair_out {P : Program} {w : World} : ∀ {es : List (Int × Value)} {ks : List Key}, Paired (EntK (mixKind P w)) es ks → Paired (fun v k => RelV (kV k) v) (es.map (·.2)) ks
  | _, _, .nil => .nil
  | _, _, .cons h r => .cons (key_rel h.1) (pair_out r)
theorem pair_perm {α β : Type} {R : α → β → Prop} {es es' : List α} (p : es'.Perm es) : ∀ {ks : List β}, Paired R es ks → ∃ ks', ks'.Perm ks ∧ Paired R es' ks' := by
  induction p with
  | nil => exact fun r => ⟨_, List.Perm.refl _, r⟩
  | cons x _ ih =>
    intro ks r
    cases r with
    | cons h r =>
      obtain ⟨ks', p', r'⟩ := ih r
      exact ⟨_, p'.cons _, .cons h r'⟩
  | swap x y l =>
    intro ks r
    cases r with
    | cons h r =>
      cases r with
      | cons h2 r => exact ⟨_, List.Perm.swap .., .cons h2 (.cons h r)⟩
  | trans _ _ ih1 ih2 =>
    intro ks r
    obtain ⟨k1, p1, r1⟩ := ih2 r
    obtain ⟨k2, p2, r2⟩ := ih1 r1
    exact ⟨k2, p2.trans p1, r2⟩
theorem pair_each {α β : Type} {R : α → β → Prop} : ∀ {as : List α} {bs : List β}, Paired R as bs → EachIs R as bs
  | _, _, .nil => .nil
  | _, _, .cons h r => .cons h (pair_each r)
theorem each_keys : ∀ {us : List Value} {ks : List Key}, EachIs (fun v k => RelV (kV k) v) us ks → Vals (ks.map kV) us
  | _, _, .nil => .nil
  | _, _, .cons h r => .cons h (each_keys r)
theorem sortOk_perm {l m : List Dt} (p : l.Perm m) (h : sortOk m = true) : sortOk l = true := by
  have lay : ∀ l : List Dt, layDs l = l.all layD := fun l => by
    induction l with
    | nil => rfl
    | cons x l ih => rw [layDs, ih, List.all_cons]
  unfold sortOk at h ⊢
  rw [lay] at h ⊢
  simp only [Bool.and_eq_true, Bool.or_eq_true, List.all_eq_true] at h ⊢
  obtain ⟨⟨⟨h1, h2⟩, h3⟩, h4⟩ := h
  exact ⟨⟨⟨fun x hx y hy => h1 x (p.mem_iff.mp hx) y (p.mem_iff.mp hy), h2.imp (fun h x hx => h x (p.mem_iff.mp hx)) fun h x hx => h x (p.mem_iff.mp hx)⟩, fun x hx => h3 x (p.mem_iff.mp hx)⟩, fun x hx => h4 x (p.mem_iff.mp hx)⟩
def rSortedV (P : Program) (w : World) : List V → Hp → VK → Prop := fun vs H Q => ∃ (l : Addr) (ks : List Key), vs = [.ref l] ∧ H l = some (SetVO P w l ks) ∧ sortOk (ks.map kD) = true ∧
  ∀ (ks' : List Key) (p : Addr), ks'.map kD = sortD (ks.map kD) → H p = none → Q (.ref p) (upd H p (.lst (ks'.map kV)))
theorem cr_sortedV (hc : X.calm = true) (hu : X.A.units + 64 < cLine) : CallR X (.builtin "sorted") (rSortedV X.prog X.w) := by
  intro pins s σ H vs us Q I r ⟨l, ks, ev, hl, ok, k⟩
  subst ev
  have hh : X.A.handled = none := I.ok.hd hc
  obtain ⟨u, rfl, ru⟩ := vals1 r
  obtain rfl : u = Value.ref l := ru
  obtain ⟨o, es, ep, t, ho, hex, hd, rp, nd, hb, hf, hr, hled⟩ := (I.hok l _ hl).1
  refine Calls.call_function_entry kind_sorted plain_sorted entry_sorted (args_sorted1 _) ?_
  unfold Builtin.«sorted»
  refine wpAny_bind (m := checkCount "sorted" 1 1 _) (wpAny_pure (wpAny_bind (collect_set (A := X.A.in1) hh ⟨o, ho, hex.1, hd⟩ hf hb hr hled fun s1 vs k1 hz g1 o1 pm => ?_)))
  obtain ⟨k2, p2, r2⟩ := pair_perm pm (pair_out rp)
  have hlen : vs.length = k2.length := Paired.length r2
  have hlen2 : es.toList.length = ks.length := Paired.length rp
  have hsz : vs.length ≤ sizeLine := by
    rw [pm.length_eq, List.length_map, Array.length_toList, sizeLine_eq]
    unfold scanBound at hb
    omega
  have ok2 : sortOk (k2.map kD) = true := sortOk_perm (p2.map kD) ok
  refine wpAny_bind (wpAny_newList ?_ hsz)
  have hoL : (s1.heap.push (seqObj "list" vs.toArray 0)).get? s1.heap.objs.size = some (seqObj "list" vs.toArray 0) := Heap.get?_push_size _ rfl
  have ee := pair_each r2
  have er : EachIs (fun v k => ∃ as, Reads (s1.heap.push (seqObj "list" vs.toArray 0)) v (kD k) as ∧ s1.heap.objs.size ∉ as) vs k2 := ee.mono fun v k h => ⟨[], key_reads h, List.not_mem_nil⟩
  refine wpAny_bind (wpAny_holding (PySem.W.list_sort_data (s := { s1 with heap := s1.heap.push (seqObj "list" vs.toArray 0) }) (enc := kD) hoL ee er (sortOk_al ok2) (sortOk_so ok2) (by rw [← hlen]; exact hsz) (fun b hb => ?_) fun out ho2 eo => ?_))
  · have := sortOk_de ok2 (kD b) (List.mem_map_of_mem hb)
    have e1 : X.A.in1.units = X.A.units + 1 := rfl
    omega
  · obtain ⟨c, hc2⟩ := sortedHeap_at (vs := vs) (out := out.toArray) hoL
    have kp : ∀ b u, s.heap.get? b = some u → (sortedHeap (s1.heap.push (seqObj "list" vs.toArray 0)) s1.heap.objs.size vs out.toArray).get? b = some u := fun b u e => by
      have q := k1 b u e
      have hlt := Heap.lt_size q
      rw [sortedHeap_old (Nat.ne_of_lt hlt) (by rw [size_push']; exact Nat.lt_succ_of_lt hlt)]
      exact Heap.get?_push_of_some _ q
    have hks : (k2.mergeSort (dataLe false kD)).map kD = sortD (ks.map kD) := by
      rw [sort_fst]
      exact sortD_unique (sortOk_al ok) ((sortD_perm _).trans (p2.map kD)) (sortD_le _)
    have hn : H s1.heap.objs.size = none := I.hok.fresh hz
    have J : Inv X pins σ (upd H s1.heap.objs.size (.lst ((k2.mergeSort (dataLe false kD)).map kV))) { s with heap := sortedHeap (s1.heap.push (seqObj "list" vs.toArray 0)) s1.heap.objs.size vs out.toArray, gens := s1.gens, drawn := s1.drawn, toks := s1.toks } :=
      I.call (ch := []) (Un.laid kp hz hn) (I.hok.laid kp hz ⟨by rw [List.length_map, List.length_mergeSort, ← hlen]; exact hsz, out, c, each_keys eo, hc2⟩) (by rw [g1]; exact I.bare) (fun _ z => nomatch z)
    have e : ({ s1 with heap := sortedHeap (s1.heap.push (seqObj "list" vs.toArray 0)) s1.heap.objs.size vs out.toArray } : Shared) = { s with heap := sortedHeap (s1.heap.push (seqObj "list" vs.toArray 0)) s1.heap.objs.size vs out.toArray, gens := s1.gens, drawn := s1.drawn, toks := s1.toks } := by
      cases s1
      cases s
      cases o1
      rfl
    refine wpAny_pure ⟨_, rfl, ?_⟩
    show EP X pins σ Q (.ref s1.heap.objs.size) { s1 with heap := sortedHeap (s1.heap.push (seqObj "list" vs.toArray 0)) s1.heap.objs.size vs out.toArray }
    rw [e]
    exact ⟨.ref _, _, J, rfl, k _ _ hks hn⟩
end
end DL
set_option Elab.async false
set_option linter.all false
set_option maxRecDepth 100000
set_option maxHeartbeats 4000000
namespace DL
open PySem PySem.Spec PyProof.Rows L2
mutual
def keyN : Dt → Option NestedKey
  | .none => some .none
  | .int i => some (.num i)
  | .str x => some (.text x)
  | .tuple ds => (keyNs ds).map .tup
  | _ => none
def keyNs : List Dt → Option (List NestedKey)
  | [] => some []
  | d :: ds => (keyN d).bind fun k => (keyNs ds).map fun ks => k :: ks
end
mutual
theorem keyN_data : ∀ {d : Dt} {k : NestedKey}, keyN d = some k → k.data = d
  | .none, k, h => by rw [keyN] at h; cases h; rfl
  | .int i, k, h => by rw [keyN] at h; cases h; rfl
  | .str x, k, h => by rw [keyN] at h; cases h; rfl
  | .tuple ds, k, h => by
    rw [keyN] at h
    obtain ⟨ks, e1, rfl⟩ := om h
    rw [NestedKey.data, keyNs_data e1]
  | .bool _, k, h => by simp [keyN] at h
  | .list _, k, h => by simp [keyN] at h
  | .dict _, k, h => by simp [keyN] at h
theorem keyNs_data : ∀ {ds : List Dt} {ks : List NestedKey}, keyNs ds = some ks → NestedKey.datas ks = ds
  | [], ks, h => by rw [keyNs] at h; cases h; rfl
  | d :: ds, ks, h => by
    rw [keyNs] at h
    obtain ⟨k, e1, e2⟩ := ob h
    obtain ⟨ks', e3, rfl⟩ := om e2
    rw [NestedKey.datas, keyN_data e1, keyNs_data e3]
end
mutual
theorem keyN_of : ∀ (k : NestedKey), keyN k.data = some k
  | .none => by rw [NestedKey.data, keyN]
  | .num i => by rw [NestedKey.data, keyN]
  | .text x => by rw [NestedKey.data, keyN]
  | .tup ks => by rw [NestedKey.data, keyN, keyNs_of ks]; rfl
theorem keyNs_of : ∀ (ks : List NestedKey), keyNs (NestedKey.datas ks) = some ks
  | [] => by rw [NestedKey.datas, keyNs]
  | k :: ks => by rw [NestedKey.datas, keyNs, keyN_of k, keyNs_of ks]; rfl
end
mutual
theorem reads_key {h : Heap} : ∀ (k : NestedKey) (v : Value) (as : List Addr), Reads h v k.data as → NestedIs h k v
  | .none, v, as, r => by
    rw [NestedKey.data] at r
    cases r
    exact .none
  | .num i, v, as, r => by
    rw [NestedKey.data] at r
    cases r
    exact .int _ _
  | .text x, v, as, r => by
    rw [NestedKey.data] at r
    cases r
    exact .text _ _
  | .tup ks, v, as, r => by
    rw [NestedKey.data] at r
    cases r with
    | tuple h1 h2 h3 h4 => exact .tup h1 h2 h3 (readsAll_key ks _ _ h4)
theorem readsAll_key {h : Heap} : ∀ (ks : List NestedKey) (vs : List Value) (as : List Addr), ReadsAll h vs (NestedKey.datas ks) as → NestedAll h ks vs
  | [], vs, as, r => by
    rw [NestedKey.datas] at r
    cases r
    exact .nil
  | k :: ks, vs, as, r => by
    rw [NestedKey.datas] at r
    cases r with
    | cons h1 h2 => exact .cons (reads_key k _ _ h1) (readsAll_key ks _ _ h2)
end
mutual
theorem key_lay : ∀ (k : NestedKey), layD k.data = true
  | .none => by rw [NestedKey.data]; rfl
  | .num i => by rw [NestedKey.data]; rfl
  | .text x => by rw [NestedKey.data]; rfl
  | .tup ks => by rw [NestedKey.data, layD]; exact keys_lay ks
theorem keys_lay : ∀ (ks : List NestedKey), layDs (NestedKey.datas ks) = true
  | [] => by rw [NestedKey.datas, layDs]
  | k :: ks => by rw [NestedKey.datas, layDs, key_lay k, keys_lay ks]; rfl
end
def eqK (a b : Dt) : Bool := match keyN a, keyN b with
  | some x, some y => decide (x = y)
  | _, _ => false
theorem eqK_iff {a b : Dt} : eqK a b = true ↔ ∃ k, keyN a = some k ∧ a = b := by
  unfold eqK
  constructor
  · intro h
    split at h
    · rename_i x y h1 h2
      have e := of_decide_eq_true h
      exact ⟨x, h1, by rw [← keyN_data h1, ← keyN_data h2, e]⟩
    · cases h
  · rintro ⟨k, h1, rfl⟩
    rw [h1]
    exact decide_eq_true rfl
def keyOk (d : Dt) : Bool := match keyN d with
  | some k => decide (k.depth ≤ 8)
  | none => false
theorem keyOk_ex {d : Dt} (h : keyOk d = true) : ∃ k : NestedKey, keyN d = some k ∧ k.depth ≤ 8 := by
  unfold keyOk at h
  split at h
  · exact ⟨_, by assumption, of_decide_eq_true h⟩
  · cases h
def dAt (kvs : List (Dt × Dt)) (kd : Dt) : Option Dt := (kvs.find? fun p => eqK p.1 kd).map (·.2)
def dPut (kvs : List (Dt × Dt)) (kd v : Dt) : List (Dt × Dt) := if kvs.any (fun p => eqK p.1 kd) then kvs.map (fun p => if eqK p.1 kd then (p.1, v) else p) else kvs ++ [(kd, v)]
section
variable {X : Cx} {pins : List (Addr × Obj)} {σ : L2.St} {H : Hp} {s : Shared} {B : Bad}
theorem Rp.key (I : Inv X pins σ H s) {y : V} {kd : Dt} {k : NestedKey} {u : Value} (r : Rp X.kw H B y kd) (hk : keyN kd = some k) (ru : RelV y u) : NestedIs s.heap k u := by
  have e := keyN_data hk
  subst e
  obtain ⟨as, h⟩ := Dp.reads I _ _ _ (r.dpL (key_lay k)) ru
  exact reads_key k _ _ h
theorem dct_at (I : Inv X pins σ H s) {a : Addr} {xs : List DEn} (ha : Rd H a (DctO X.w a xs)) (hd : ∀ x ∈ xs, x.1.depth ≤ 8) (hk : RpL X.kw H B (xs.map fun x => V.ref x.2.1) (xs.map fun x => x.1.data)) :
    (a == sysModules) = false ∧ xs.length ≤ sizeLine ∧ ∃ ys : List (NestedKey × Addr × Value), Paired (fun (p : DEn) (q : NestedKey × Addr × Value) => p.1 = q.1 ∧ p.2.1 = q.2.1 ∧ RelV p.2.2 q.2.2) xs ys ∧ s.heap.DictOfH (nestedKind X.prog X.w) a ys := by
  obtain ⟨h1, h2, ys, h3, o, es, ep, h4, h5, h6, h7, h8⟩ := ha.elim (fun ha => (I.hok a _ ha).1) fun ⟨_, ha⟩ => (I.hok a _ ha).2.1
  refine ⟨h1, h2, ys, h3, o, es, ep, h4, h5, h6, h7, ?_, h8⟩
  have go : ∀ {xs : List DEn} {ys : List (NestedKey × Addr × Value)}, Paired (fun (p : DEn) (q : NestedKey × Addr × Value) => p.1 = q.1 ∧ p.2.1 = q.2.1 ∧ RelV p.2.2 q.2.2) xs ys → (∀ x ∈ xs, x.1.depth ≤ 8) → RpL X.kw H B (xs.map fun x => V.ref x.2.1) (xs.map fun x => x.1.data) → ∀ y ∈ ys, (nestedKind X.prog X.w).is s.heap y.1 y.2.1 := by
    intro xs ys p
    induction p with
    | nil => intro _ _ y hy; cases hy
    | @cons x y xs ys h t ih =>
      intro hd hk z hz
      have hk' : RpL X.kw H B (V.ref x.2.1 :: xs.map fun x => V.ref x.2.1) (x.1.data :: xs.map fun x => x.1.data) := hk
      cases hk' with
      | cons r rs =>
        rcases List.mem_cons.mp hz with rfl | hz
        · rw [← h.1, ← h.2.1]
          exact ⟨r.key I (keyN_of x.1) rfl, hd x List.mem_cons_self⟩
        · exact ih (fun x hx => hd x (List.mem_cons_of_mem _ hx)) rs z hz
  exact go h3 hd hk
theorem eqK_keys (a b : NestedKey) : eqK a.data b.data = decide (a = b) := by
  unfold eqK
  rw [keyN_of, keyN_of]
theorem dct_find {k : NestedKey} {d : Dt} : ∀ {xs : List DEn} {ys : List (NestedKey × Addr × Value)} {vs : List Dt}, Paired (fun (p : DEn) (q : NestedKey × Addr × Value) => p.1 = q.1 ∧ p.2.1 = q.2.1 ∧ RelV p.2.2 q.2.2) xs ys → RpL X.kw H B (xs.map (·.2.2)) vs → dAt ((xs.map fun x => x.1.data).zip vs) k.data = some d →
    ∃ v p, atKey ys k = some p ∧ RelV v p.2 ∧ Rp X.kw H B v d
  | [], _, _, _, .nil, h => by cases h
  | x :: xs, y :: ys, dv :: vs, .cons hp t, .cons r rs, h => by
    unfold dAt at h
    rw [List.map_cons, List.zip_cons_cons, List.find?_cons] at h
    unfold atKey
    rw [List.find?_cons]
    have e1 : eqK x.1.data k.data = decide (y.1 = k) := by rw [eqK_keys, hp.1]
    by_cases c : y.1 = k
    · rw [show eqK ((x.1.data, dv) : Dt × Dt).1 k.data = true by rw [e1]; exact decide_eq_true c] at h
      rw [decide_eq_true c]
      cases h
      exact ⟨_, _, rfl, hp.2.2, r⟩
    · rw [show eqK ((x.1.data, dv) : Dt × Dt).1 k.data = false by rw [e1]; exact decide_eq_false c] at h
      rw [decide_eq_false c]
      exact dct_find t rs h
theorem dK_find {k : Key} {d : Dt} : ∀ {kvs : List (Key × V)} {vs : List Dt}, RpL X.kw H B (kvs.map (·.2)) vs → dAt ((kvs.map fun p => kD p.1).zip vs) (kD k) = some d → ∃ v, valV kvs k = some v ∧ Rp X.kw H B v d
  | [], _, .nil, h => by cases h
  | p :: kvs, dv :: vs, .cons r rs, h => by
    unfold dAt at h
    rw [List.map_cons, List.zip_cons_cons, List.find?_cons] at h
    have e1 : eqK (kD p.1) (kD k) = decide (p.1 = k) := by
      cases p.1 <;> cases k <;> simp [eqK, kD, keyN]
    by_cases c : p.1 = k
    · rw [show eqK ((kD p.1, dv) : Dt × Dt).1 (kD k) = true by rw [e1]; exact decide_eq_true c] at h
      cases h
      exact ⟨_, valV_pos c, r⟩
    · rw [show eqK ((kD p.1, dv) : Dt × Dt).1 (kD k) = false by rw [e1]; exact decide_eq_false c] at h
      rw [valV_neg c]
      exact dK_find rs h
theorem dAt_key {kvs : List (Dt × Dt)} {kd d : Dt} (h : dAt kvs kd = some d) : ∃ p ∈ kvs, p.1 = kd ∧ p.2 = d ∧ ∃ k, keyN kd = some k := by
  unfold dAt at h
  obtain ⟨p, e1, e2⟩ := om h
  have h2 := List.find?_some e1
  obtain ⟨k, h3, h4⟩ := eqK_iff.mp h2
  exact ⟨p, List.mem_of_find?_eq_some e1, h4, e2, k, by rw [← h4]; exact h3⟩
theorem kV_of {y : V} {k : Key} (r : Rp X.kw H B y (kD k)) : y = kV k := by
  cases k with
  | inl i => cases r; rfl
  | inr x => cases r; rfl
theorem d_getC {A : Around} {E : Value → Shared → Prop} {a : Addr} {o : HO} {kvs : List (Dt × Dt)} {y : V} {u : Value} {kd d : Dt} {Q : Value → Shared → Prop} (hu : A.units + 16 < cLine) (I : Inv X pins σ H s) (ha : Rd H a o) (c : Dc X.kw H B a o kvs) (r : Rp X.kw H B y kd) (ru : RelV y u)
    (hk : keyOk kd = true) (e : dAt kvs kd = some d) (h : ∀ v w' s', Rp X.kw H B v d → Inv X pins σ H s' → RelV v w' → Q w' s') : wpAny (model X.prog X.w) A (getItem (.ref a) u) Q E s := by
  cases c with
  | @ky _ kv vs rv =>
    obtain ⟨p, hp, e1, e2, _⟩ := dAt_key e
    obtain ⟨q, hq, e3⟩ := List.mem_map.mp (List.of_mem_zip hp).1
    rw [e1] at e3
    subst e3
    obtain ⟨v, h1, h2⟩ := dK_find rv e
    rw [kV_of r] at ru
    exact d_getItem (by omega) I (.inl ⟨kv, q.1, ha, rfl, h1.symm⟩) ru fun w' s' I' rw' => h v w' s' h2 I' rw'
  | @tp _ xs vs hd rk rv =>
    obtain ⟨k, hk1, hk2⟩ := keyOk_ex hk
    obtain ⟨_, _, ys, pr, dd⟩ := dct_at I ha hd rk
    have ek := keyN_data hk1
    rw [← ek] at e
    obtain ⟨v, p, h1, h2, h3⟩ := dct_find pr rv e
    obtain ⟨q, hq, e1, e2, _⟩ := dAt_key e
    obtain ⟨x, hx, e3⟩ := List.mem_map.mp (List.of_mem_zip hq).1
    have hb : ∃ b, y = .ref b := by
      have hr : Rp X.kw H B (.ref x.2.1) kd := by
        obtain ⟨i, hi, hxi⟩ := List.getElem_of_mem hx
        obtain ⟨v', q1, q2⟩ := rk.get (i := i) (d := kd) (by rw [List.getElem?_map, List.getElem?_eq_getElem hi, hxi, Option.map_some, e3, e1, ek])
        rw [List.getElem?_map, List.getElem?_eq_getElem hi, hxi] at q1
        cases q1
        exact q2
      cases r with
      | non => cases hr
      | bl _ => cases hr
      | int _ => cases hr
      | str _ => cases hr
      | lst _ _ _ => exact ⟨_, rfl⟩
      | tup _ _ => exact ⟨_, rfl⟩
      | scr _ => exact ⟨_, rfl⟩
      | dct _ _ => exact ⟨_, rfl⟩
      | ep _ _ => exact ⟨_, rfl⟩
      | ob _ _ _ => exact ⟨_, rfl⟩
      | mem _ => exact ⟨_, rfl⟩
    obtain ⟨b, rfl⟩ := hb
    have hki := r.key I hk1 ru
    obtain rfl : u = Value.ref b := ru
    exact wpAny_getItem_heap (knd := nestedKind X.prog X.w) (show A.in1.units + 8 < cLine from by show A.units + 1 + 8 < cLine; omega) ⟨hki, hk2⟩ dd h1 (h v _ _ h3 (I.tok _) h2)
end
end DL
set_option Elab.async false
set_option linter.all false
set_option maxRecDepth 100000
set_option maxHeartbeats 4000000
namespace DL
open PySem PySem.Spec PyProof.Rows L2
def isTup : Dt → Bool
  | .tuple _ => true
  | _ => false
def isAtm : Dt → Bool
  | .int _ => true
  | .str _ => true
  | _ => false
def okPut (kvs : List (Dt × Dt)) (kd : Dt) : Bool := ((kvs.all (fun p => isTup p.1) && isTup kd) || (kvs.all (fun p => isAtm p.1) && isAtm kd)) && keyOk kd && decide (kvs.length < sizeLine)
abbrev PrE (xs : List DEn) (ys : List (NestedKey × Addr × Value)) : Prop := Paired (fun (p : DEn) (q : NestedKey × Addr × Value) => p.1 = q.1 ∧ p.2.1 = q.2.1 ∧ RelV p.2.2 q.2.2) xs ys
section
variable {X : Cx} {pins : List (Addr × Obj)} {σ : L2.St} {H : Hp} {s : Shared} {B : Bad}
def putE (xs : List DEn) (k : NestedKey) (b : Addr) (v : V) : List DEn := if xs.any (fun x => decide (x.1 = k)) then xs.map (fun x => if x.1 = k then (x.1, x.2.1, v) else x) else xs ++ [(k, b, v)]
theorem prE_any {k : NestedKey} : ∀ {xs : List DEn} {ys : List (NestedKey × Addr × Value)}, PrE xs ys → xs.any (fun x => decide (x.1 = k)) = (atKey ys k).isSome
  | _, _, .nil => rfl
  | x :: xs, y :: ys, .cons h t => by
    rw [List.any_cons, prE_any t]
    unfold atKey
    rw [List.find?_cons, h.1]
    by_cases c : y.1 = k
    · rw [decide_eq_true c]; rfl
    · rw [decide_eq_false c]; rfl
theorem prE_snoc {k : NestedKey} {b : Addr} {v : V} {u : Value} (r : RelV v u) : ∀ {xs : List DEn} {ys : List (NestedKey × Addr × Value)}, PrE xs ys → PrE (xs ++ [(k, b, v)]) (ys ++ [(k, b, u)])
  | _, _, .nil => .cons ⟨rfl, rfl, r⟩ .nil
  | _, _, .cons h t => .cons h (prE_snoc r t)
theorem prE_map {k : NestedKey} {v : V} {u : Value} (r : RelV v u) : ∀ {xs : List DEn} {ys : List (NestedKey × Addr × Value)}, PrE xs ys → PrE (xs.map fun x => if x.1 = k then (x.1, x.2.1, v) else x) (ys.map (putAt k u))
  | _, _, .nil => .nil
  | x :: xs, y :: ys, .cons h t => by
    refine .cons ?_ (prE_map r t)
    unfold putAt
    show (if x.1 = k then ((x.1, x.2.1, v) : DEn) else x).1 = _ ∧ (if x.1 = k then ((x.1, x.2.1, v) : DEn) else x).2.1 = _ ∧ RelV (if x.1 = k then ((x.1, x.2.1, v) : DEn) else x).2.2 _
    by_cases c : y.1 = k
    · rw [if_pos (h.1.trans c), if_pos c]
      exact ⟨h.1, h.2.1, r⟩
    · rw [if_neg (fun z => c (h.1.symm.trans z)), if_neg c]
      exact h
theorem prE_put {k : NestedKey} {b : Addr} {v : V} {u : Value} {xs : List DEn} {ys : List (NestedKey × Addr × Value)} (r : RelV v u) (p : PrE xs ys) : PrE (putE xs k b v) (storedH ys k b u) := by
  unfold putE storedH
  rw [prE_any p]
  split
  · exact prE_map r p
  · exact prE_snoc r p
theorem dPut_any {k : NestedKey} : ∀ (xs : List DEn) (vs : List Dt), xs.length = vs.length → ((xs.map fun x => x.1.data).zip vs).any (fun p => eqK p.1 k.data) = xs.any (fun x => decide (x.1 = k))
  | [], _, _ => rfl
  | x :: xs, d :: vs, h => by
    rw [List.map_cons, List.zip_cons_cons, List.any_cons, List.any_cons, dPut_any xs vs (by simpa using h), eqK_keys]
theorem put_vals {k : NestedKey} {v : V} {d : Dt} (r : Rp X.kw H B v d) : ∀ (xs : List DEn) (vs : List Dt), RpL X.kw H B (xs.map (·.2.2)) vs → ∃ vs', RpL X.kw H B ((xs.map fun x => if x.1 = k then ((x.1, x.2.1, v) : DEn) else x).map (·.2.2)) vs' ∧
    ((xs.map fun x => x.1.data).zip vs).map (fun p => if eqK p.1 k.data then (p.1, d) else p) = ((xs.map fun x => if x.1 = k then ((x.1, x.2.1, v) : DEn) else x).map fun x => x.1.data).zip vs'
  | [], _, .nil => ⟨[], .nil, rfl⟩
  | x :: xs, dv :: vs, .cons h t => by
    obtain ⟨vs', h1, h2⟩ := put_vals r xs vs t
    by_cases c : x.1 = k
    · refine ⟨d :: vs', ?_, ?_⟩
      · rw [List.map_cons, if_pos c]
        exact .cons r h1
      · rw [List.map_cons, List.zip_cons_cons, List.map_cons, List.map_cons, List.map_cons, if_pos c, List.zip_cons_cons, h2, eqK_keys, decide_eq_true c]
        rfl
    · refine ⟨dv :: vs', ?_, ?_⟩
      · rw [List.map_cons, if_neg c]
        exact .cons h h1
      · rw [List.map_cons, List.zip_cons_cons, List.map_cons, List.map_cons, List.map_cons, if_neg c, List.zip_cons_cons, h2, eqK_keys, decide_eq_false c]
        rfl
theorem map_keys (k : NestedKey) (v : V) (xs : List DEn) : (xs.map fun x => if x.1 = k then ((x.1, x.2.1, v) : DEn) else x).map (fun x => V.ref x.2.1) = xs.map (fun x => V.ref x.2.1) ∧ (xs.map fun x => if x.1 = k then ((x.1, x.2.1, v) : DEn) else x).map (fun x => x.1.data) = xs.map (fun x => x.1.data) := by
  constructor
  · rw [List.map_map]
    refine List.map_congr_left fun x _ => ?_
    show V.ref (if x.1 = k then ((x.1, x.2.1, v) : DEn) else x).2.1 = _
    split <;> rfl
  · rw [List.map_map]
    refine List.map_congr_left fun x _ => ?_
    show (if x.1 = k then ((x.1, x.2.1, v) : DEn) else x).1.data = _
    split <;> rfl
theorem tp_put {a b : Addr} {xs : List DEn} {vs : List Dt} {k : NestedKey} {v : V} {d : Dt} (hk : k.depth ≤ 8) (rb : Rp X.kw H B (.ref b) k.data) (r : Rp X.kw H B v d) (hd : ∀ x ∈ xs, x.1.depth ≤ 8) (rk : RpL X.kw H B (xs.map fun x => V.ref x.2.1) (xs.map fun x => x.1.data)) (rv : RpL X.kw H B (xs.map (·.2.2)) vs) :
    Dc X.kw H B a (DctO X.w a (putE xs k b v)) (dPut ((xs.map fun x => x.1.data).zip vs) k.data d) := by
  have hl : xs.length = vs.length := by
    have := rv.len
    rw [List.length_map] at this
    exact this
  unfold dPut putE
  rw [dPut_any xs vs hl]
  by_cases c : xs.any (fun x => decide (x.1 = k)) = true
  · rw [if_pos c, if_pos c]
    obtain ⟨vs', h1, h2⟩ := put_vals (k := k) r xs vs rv
    rw [h2]
    obtain ⟨m1, m2⟩ := map_keys k v xs
    refine .tp (fun x hx => ?_) (by rw [m1, m2]; exact rk) h1
    obtain ⟨y, hy, rfl⟩ := List.mem_map.mp hx
    have := hd y hy
    split <;> exact this
  · rw [if_neg c, if_neg c]
    have e : (xs.map fun x => x.1.data).zip vs ++ [(k.data, d)] = ((xs ++ [((k, b, v) : DEn)]).map fun x => x.1.data).zip (vs ++ [d]) := by
      rw [List.map_append, List.zip_append (by rw [List.length_map]; exact hl)]
      rfl
    rw [e]
    refine .tp (fun x hx => ?_) ?_ ?_
    · rcases List.mem_append.mp hx with h | h
      · exact hd x h
      · rcases List.mem_cons.mp h with rfl | h
        · exact hk
        · cases h
    · rw [List.map_append, List.map_append]
      exact rk.append (.cons rb .nil)
    · rw [List.map_append]
      exact rv.append (.cons r .nil)
theorem kput_any {k : Key} : ∀ (kv : List (Key × V)) (vs : List Dt), kv.length = vs.length → ((kv.map fun p => kD p.1).zip vs).any (fun p => eqK p.1 (kD k)) = kv.any (fun x => decide (x.1 = k))
  | [], _, _ => rfl
  | x :: xs, d :: vs, h => by
    have e1 : eqK (kD x.1) (kD k) = decide (x.1 = k) := by
      cases x.1 <;> cases k <;> simp [eqK, kD, keyN]
    rw [List.map_cons, List.zip_cons_cons, List.any_cons, List.any_cons, kput_any xs vs (by simpa using h), e1]
theorem kput_vals {k : Key} {v : V} {d : Dt} (r : Rp X.kw H B v d) : ∀ (xs : List (Key × V)) (vs : List Dt), RpL X.kw H B (xs.map (·.2)) vs → ∃ vs', RpL X.kw H B ((xs.map fun x => if x.1 = k then (x.1, v) else x).map (·.2)) vs' ∧
    ((xs.map fun x => kD x.1).zip vs).map (fun p => if eqK p.1 (kD k) then (p.1, d) else p) = ((xs.map fun x => if x.1 = k then (x.1, v) else x).map fun x => kD x.1).zip vs'
  | [], _, .nil => ⟨[], .nil, rfl⟩
  | x :: xs, dv :: vs, .cons h t => by
    obtain ⟨vs', h1, h2⟩ := kput_vals (k := k) r xs vs t
    have e1 : eqK (kD x.1) (kD k) = decide (x.1 = k) := by
      cases x.1 <;> cases k <;> simp [eqK, kD, keyN]
    by_cases c : x.1 = k
    · refine ⟨d :: vs', ?_, ?_⟩
      · rw [List.map_cons, if_pos c]
        exact .cons r h1
      · rw [List.map_cons, List.zip_cons_cons, List.map_cons, List.map_cons, List.map_cons, if_pos c, List.zip_cons_cons, h2, e1, decide_eq_true c]
        rfl
    · refine ⟨dv :: vs', ?_, ?_⟩
      · rw [List.map_cons, if_neg c]
        exact .cons h h1
      · rw [List.map_cons, List.zip_cons_cons, List.map_cons, List.map_cons, List.map_cons, if_neg c, List.zip_cons_cons, h2, e1, decide_eq_false c]
        rfl
theorem ky_put {a : Addr} {kv : List (Key × V)} {vs : List Dt} {k : Key} {v : V} {d : Dt} (r : Rp X.kw H B v d) (rv : RpL X.kw H B (kv.map (·.2)) vs) : Dc X.kw H B a (.dK (putK kv k v)) (dPut ((kv.map fun p => kD p.1).zip vs) (kD k) d) := by
  have hl : kv.length = vs.length := by
    have := rv.len
    rw [List.length_map] at this
    exact this
  unfold dPut putK
  rw [kput_any kv vs hl]
  by_cases c : kv.any (fun x => decide (x.1 = k)) = true
  · rw [if_pos c, if_pos c]
    obtain ⟨vs', h1, h2⟩ := kput_vals (k := k) r kv vs rv
    rw [h2]
    exact .ky h1
  · rw [if_neg c, if_neg c]
    have e : (kv.map fun x => kD x.1).zip vs ++ [(kD k, d)] = ((kv ++ [(k, v)]).map fun x => kD x.1).zip (vs ++ [d]) := by
      rw [List.map_append, List.zip_append (by rw [List.length_map]; exact hl)]
      rfl
    rw [e]
    refine .ky ?_
    rw [List.map_append]
    exact rv.append (.cons r .nil)
theorem dct_new {a : Addr} {h' : Heap} {xs : List DEn} {ys : List (NestedKey × Addr × Value)} (hd : (a == sysModules) = false) (hl : xs.length ≤ sizeLine) (p : PrE xs ys) (dd : h'.DictOfH (nestedKind X.prog X.w) a ys) {H' : Hp} : ObjOk X.prog X.w H' h' a (DctO X.w a xs) := by
  obtain ⟨o, es, ep, h1, h2, h3, h4, _, h6⟩ := dd
  exact ⟨⟨hd, hl, ys, p, o, es, ep, h1, h2, h3, h4, h6⟩, ⟨o, h1⟩, fun h1' h2' ⟨q1, q2, ys', q3, o', es', ep', q4, q5⟩ k => ⟨q1, q2, ys', q3, o', es', ep', k _ q4, q5⟩⟩
theorem putE_len (xs : List DEn) (k : NestedKey) (b : Addr) (v : V) : (putE xs k b v).length ≤ xs.length + 1 := by
  unfold putE
  split
  · rw [List.length_map]; omega
  · rw [List.length_append]; exact Nat.le_refl _
theorem dK_nil (I : Inv X pins σ H s) {a : Addr} (ha : H a = some (.dK [])) : (a == sysModules) = false ∧ s.heap.DictOfH (nestedKind X.prog X.w) a [] := by
  obtain ⟨_, hd, vs, kv, dd⟩ := dk_of I.hok ha
  cases kv
  obtain ⟨o, es, ep, h1, h2, h3, _, h4, _⟩ := dd
  have e : es.toList = [] := by
    have := h4.length
    exact List.eq_nil_of_length_eq_zero this
  exact ⟨hd, o, es, ep, h1, h2, h3, e, fun x hx => (nomatch hx), List.nodup_nil⟩
theorem dct_nil (I : Inv X pins σ H s) {a : Addr} (ha : H a = some (DctO X.w a [])) : (a == sysModules) = false ∧ s.heap.DictOf (mixKind X.prog X.w) a [] := by
  obtain ⟨hd, _, ys, p, o, es, ep, h1, h2, h3, h4, h5⟩ := (I.hok a _ ha).1
  cases p
  have e : es = #[] := Array.toList_eq_nil_iff.mp h4
  subst e
  exact ⟨hd, o, #[], ep, h1, h2, h3, fun e he => absurd he (by simp), .nil, List.nodup_nil⟩
theorem atm_key {kd : Dt} (h : isAtm kd = true) : ∃ k : Key, kd = kD k := by
  unfold isAtm at h
  split at h
  · exact ⟨.inl _, rfl⟩
  · exact ⟨.inr _, rfl⟩
  · cases h
theorem d_putG {A : Around} {E : Value → Shared → Prop} {a : Addr} {o : HO} {kvs : List (Dt × Dt)} {y v : V} {u uv : Value} {kd d : Dt} {Q : Unit → Shared → Prop} (m : Value → Sem Unit)
    (mT : ∀ (k : NestedKey) (b : Addr) (ys : List (NestedKey × Addr × Value)), (nestedKind X.prog X.w).is s.heap k b → s.heap.DictOfH (nestedKind X.prog X.w) a ys → ys.length ≤ sizeLine → (∀ h', h'.DictOfH (nestedKind X.prog X.w) a (storedH ys k b uv) → Heap.SameBut a s.heap h' → ∀ t, Q () { s with heap := h', toks := t }) → wpAny (model X.prog X.w) A (m (.ref b)) Q E s)
    (mA : ∀ (k : Key) (us : List (Key × Value)), (mixKind X.prog X.w).is k u = true → s.heap.DictOf (mixKind X.prog X.w) a us → us.length ≤ sizeLine → (∀ h', h'.DictOf (mixKind X.prog X.w) a (stored us k uv) → Heap.SameBut a s.heap h' → ∀ t, Q () { s with heap := h', toks := t }) → wpAny (model X.prog X.w) A (m u) Q E s)
    (I : Inv X pins σ H s) (ha : H a = some o) (c : Dc X.kw H B a o kvs) (r : Rp X.kw H B y kd) (ru : RelV y u) (rd : Rp X.kw H B v d) (rv : RelV v uv)
    (hk : okPut kvs kd = true) (h : ∀ o' s', Dc X.kw H B a o' (dPut kvs kd d) → Inv X pins σ (upd H a o') s' → Q () s') : wpAny (model X.prog X.w) A (m u) Q E s := by
  unfold okPut at hk
  rw [Bool.and_eq_true, Bool.and_eq_true, decide_eq_true_eq] at hk
  obtain ⟨⟨hkind, hko⟩, hlen⟩ := hk
  obtain ⟨k, hk1, hk2⟩ := keyOk_ex hko
  have ek := keyN_data hk1
  -- a tuple as key
  have tpl : ∀ (xs : List DEn) (ys : List (NestedKey × Addr × Value)) (vs : List Dt), isTup kd = true → Mut (H a) → (a == sysModules) = false → PrE xs ys → xs.length < sizeLine → s.heap.DictOfH (nestedKind X.prog X.w) a ys → (∀ x ∈ xs, x.1.depth ≤ 8) → RpL X.kw H B (xs.map fun x => V.ref x.2.1) (xs.map fun x => x.1.data) → RpL X.kw H B (xs.map (·.2.2)) vs →
      kvs = (xs.map fun x => x.1.data).zip vs → wpAny (model X.prog X.w) A (m u) Q E s := fun xs ys vs ht hm hd pr hl dd hde rk rvs ekv => by
    have hb : ∃ b, y = .ref b := by
      cases r with
      | tup _ _ => exact ⟨_, rfl⟩
      | _ => cases ht
    obtain ⟨b, rfl⟩ := hb
    have hki := r.key I hk1 ru
    obtain rfl : u = Value.ref b := ru
    have hly : ys.length ≤ sizeLine := by
      have := Paired.length pr
      omega
    refine mT k b ys ⟨hki, hk2⟩ dd hly fun h' dd' hs t => ?_
    have pl := putE_len xs k b v
    obtain ⟨q, _, _, hq, _⟩ := id dd'
    refine h (DctO X.w a (putE xs k b v)) _ ?_ (d_write I hm hs ⟨q, hq⟩ (dct_new hd (by omega) (prE_put rv pr) dd'))
    rw [ekv, ← ek]
    exact tp_put hk2 (by rw [ek]; exact r) rd hde rk rvs
  have atm : ∀ (kv : List (Key × V)) (us : List (Key × Value)) (vs : List Dt), isAtm kd = true → Mut (H a) → (a == sysModules) = false → KV kv us → kv.length < sizeLine → s.heap.DictOf (mixKind X.prog X.w) a us → RpL X.kw H B (kv.map (·.2)) vs → kvs = (kv.map fun p => kD p.1).zip vs → wpAny (model X.prog X.w) A (m u) Q E s := fun kv us vs ht hm hd rel hl dd rvs ekv => by
    obtain ⟨k0, rfl⟩ := atm_key ht
    rw [kV_of r] at ru
    have hz : us.length ≤ sizeLine := by rw [← rel.length]; omega
    have hl2 : (putK kv k0 v).length ≤ sizeLine := by have := length_putK kv k0 v; omega
    refine mA k0 us (kV_is ru) dd hz fun h' dd' hs t => ?_
    have he : ∃ q, h'.get? a = some q := let ⟨q, _, _, hq, _⟩ := dd'; ⟨q, hq⟩
    refine h (.dK (putK kv k0 v)) _ ?_ (d_write I hm hs he (dk_new hl2 hd (rel.put k0 rv) dd'))
    rw [ekv]
    exact ky_put rd rvs
  have hmut : Mut (H a) := by
    rw [ha]
    cases c with
    | ky _ => exact True.intro
    | tp _ _ _ => exact True.intro
  cases c with
  | @ky _ kv vs rvs =>
    have hl : kv.length = vs.length := by
      have := rvs.len
      rw [List.length_map] at this
      exact this
    have hl2 : kv.length < sizeLine := by
      rw [List.length_zip, List.length_map, ← hl, Nat.min_self] at hlen
      exact hlen
    obtain ⟨_, hd, us, rel, dd⟩ := dk_of I.hok ha
    cases hA : isAtm kd with
    | true => exact atm kv us vs hA hmut hd rel hl2 dd rvs rfl
    | false =>
      rw [hA, Bool.and_false, Bool.or_false, Bool.and_eq_true] at hkind
      cases kv with
      | nil =>
        cases rvs
        obtain ⟨hd, dd⟩ := dK_nil I ha
        exact tpl [] [] [] hkind.2 hmut hd .nil (by show 0 < sizeLine; decide) dd (fun x hx => nomatch hx) .nil .nil rfl
      | cons p kv =>
        cases rvs with
        | cons _ _ =>
          rw [List.map_cons, List.zip_cons_cons, List.all_cons] at hkind
          cases hp : p.1 <;> simp [hp, kD, isTup] at hkind
  | @tp _ xs vs hde rk rvs =>
    have hl : xs.length = vs.length := by
      have := rvs.len
      rw [List.length_map] at this
      exact this
    have hl2 : xs.length < sizeLine := by
      rw [List.length_zip, List.length_map, ← hl, Nat.min_self] at hlen
      exact hlen
    cases hA : isTup kd with
    | true =>
      obtain ⟨hd, _, ys, pr, dd⟩ := dct_at I (.inl ha) hde rk
      exact tpl xs ys vs hA hmut hd pr hl2 dd hde rk rvs rfl
    | false =>
      rw [hA, Bool.and_false, Bool.false_or, Bool.and_eq_true] at hkind
      cases xs with
      | nil =>
        cases rvs
        obtain ⟨hd, dd⟩ := dct_nil I ha
        exact atm [] [] [] hkind.2 hmut hd .nil (by show 0 < sizeLine; decide) dd .nil rfl
      | cons p xs =>
        cases rvs with
        | cons _ _ =>
          rw [List.map_cons, List.zip_cons_cons, List.all_cons, Bool.and_eq_true] at hkind
          have rk' : RpL X.kw H B (V.ref p.2.1 :: xs.map fun x => V.ref x.2.1) (p.1.data :: xs.map fun x => x.1.data) := rk
          cases rk' with
          | cons q _ =>
            have h1 : isAtm p.1.data = true := hkind.1.1
            obtain ⟨k0, e0⟩ := atm_key h1
            rw [e0] at q
            cases k0 <;> cases q
theorem d_setC {A : Around} {E : Value → Shared → Prop} {a : Addr} {o : HO} {kvs : List (Dt × Dt)} {y v : V} {u uv : Value} {kd d : Dt} {Q : Unit → Shared → Prop} (hu : A.units + 16 < cLine) (I : Inv X pins σ H s) (ha : H a = some o) (c : Dc X.kw H B a o kvs) (r : Rp X.kw H B y kd) (ru : RelV y u) (rd : Rp X.kw H B v d) (rv : RelV v uv)
    (hk : okPut kvs kd = true) (h : ∀ o' s', Dc X.kw H B a o' (dPut kvs kd d) → Inv X pins σ (upd H a o') s' → Q () s') : wpAny (model X.prog X.w) A (setItem (.ref a) u uv) Q E s :=
  d_putG (fun u => setItem (.ref a) u uv) (fun k b ys h1 h2 h3 h4 => wpAny_setItem_heap (knd := nestedKind X.prog X.w) (hsz := h3) (show A.in1.units + 8 < cLine from by show A.units + 1 + 8 < cLine; omega) h1 h2 fun h' dd hs => h4 h' dd hs _)
    (fun k us h1 h2 h3 h4 => wpAny_setItem_pairs (hsz := h3) h1 h2 fun h' dd hs => h4 h' dd hs _) I ha c r ru rd rv hk h
theorem d_dsetC {A : Around} {E : Value → Shared → Prop} {a : Addr} {o : HO} {kvs : List (Dt × Dt)} {y v : V} {u uv : Value} {kd d : Dt} {Q : Unit → Shared → Prop} (hu : A.units + 16 < cLine) (I : Inv X pins σ H s) (ha : H a = some o) (c : Dc X.kw H B a o kvs) (r : Rp X.kw H B y kd) (ru : RelV y u) (rd : Rp X.kw H B v d) (rv : RelV v uv)
    (hk : okPut kvs kd = true) (h : ∀ o' s', Dc X.kw H B a o' (dPut kvs kd d) → Inv X pins σ (upd H a o') s' → Q () s') : wpAny (model X.prog X.w) A (dictSet a u uv) Q E s :=
  d_putG (fun u => dictSet a u uv) (fun k b ys h1 h2 h3 h4 => wpAny_dictSet_heap (knd := nestedKind X.prog X.w) (hsz := h3) (show A.units + 8 < cLine from by omega) h1 h2 fun h' dd hs => h4 h' dd hs _)
    (fun k us h1 h2 h3 h4 => wpAny_dictSet_pairs (hsz := h3) h1 h2 fun h' dd hs => h4 h' dd hs _) I ha c r ru rd rv hk h
end
end DL
set_option Elab.async false
set_option linter.all false
set_option maxRecDepth 100000
set_option maxHeartbeats 4000000
namespace DL
open PySem PySem.Spec PyProof.Rows L2
def rGetC (K : KW) (a : Addr) (y : V) (H : Hp) (Q : VK) : Prop := ∃ (B : Bad) (o : HO) (kvs : List (Dt × Dt)) (kd d : Dt), Rd H a o ∧ Dc K H B a o kvs ∧ Rp K H B y kd ∧ keyOk kd = true ∧ dAt kvs kd = some d ∧ ∀ v, Rp K H B v d → Q v H
section
variable {X : Cx} {e a b c o i value : Expr} {es : List Expr} {pos p pos' : PySem.Pos}
theorem dc_ty {pins : List (Addr × Obj)} {σ : L2.St} {H : Hp} {s : Shared} {B : Bad} {a : Addr} {u : HO} {kvs : List (Dt × Dt)} (I : Inv X pins σ H s) (ha : Rd H a u) (c : Dc X.kw H B a u kvs) : s.TypeIs (.ref a) "dict" := by
  cases c with
  | ky _ =>
    obtain ⟨_, _, vs, _, dd⟩ := ha.elim (fun ha => dk_of I.hok ha) fun ⟨_, ha⟩ => (I.hok a _ ha).2
    exact dd.typeIs
  | tp hd rk _ =>
    obtain ⟨_, _, ys, _, dd⟩ := dct_at I ha hd rk
    exact dd.typeIs
theorem pe_getC {td ty : TE} (hu : X.A.units + 16 < cLine) (ho : PE X o td) (hi : PE X i ty) (hs : NoSl i) : PE X (.Subscript o i pos) (fun σ H Q => td σ H fun x H1 => ty σ H1 fun y H2 => ∃ a, x = .ref a ∧ rGetC X.kw a y H2 Q) := by
  refine ⟨fun pins s σ H Q I h => ?_⟩
  refine subD_of PySem.F.slot_dict_getitem.lookup hs (thn (ho.run pins s σ H _ I h) fun u s1 ⟨x, H1, I1, rx, q1⟩ => thn (hi.run pins s1 σ H1 _ I1 q1) fun iv s2 ⟨y, H2, I2, ry, a, ex, B, o, kvs, kd, d, h1, h2, h3, h4, h5, h6⟩ => ?_)
  subst ex
  obtain rfl : u = Value.ref a := rx
  exact ⟨dc_ty I2 h1 h2, d_getC hu I2 h1 h2 h3 ry h4 h5 fun v w' s' rv I' rw' => ⟨v, H2, I', rw', h6 v rv⟩⟩
theorem Dc.of_rp {K : KW} {H : Hp} {B : Bad} {v : V} {kvs : List (Dt × Dt)} {k d : Dt} (r : Rp K H B v (.dict kvs)) (hk : keyOk k = true) (e : dAt kvs k = some d) (hn : k ≠ .none) : ∃ a o, v = .ref a ∧ Rd H a o ∧ Dc K H B a o kvs := by
  cases r with
  | dct h1 h3 => exact ⟨_, _, rfl, .inr ⟨_, h1⟩, h3⟩
  | scr _ =>
    exfalso
    obtain ⟨p, hp, e1, _⟩ := dAt_key e
    rcases List.mem_cons.mp hp with rfl | hp
    · exact hn e1.symm
    · cases hp
  | ep _ _ =>
    exfalso
    obtain ⟨p, hp, e1, _⟩ := dAt_key e
    rcases List.mem_cons.mp hp with rfl | hp
    · exact hn e1.symm
    · cases hp
  | ob _ _ _ =>
    exfalso
    obtain ⟨p, hp, e1, _⟩ := dAt_key e
    rcases List.mem_cons.mp hp with rfl | hp
    · exact hn e1.symm
    · cases hp
  | mem _ =>
    exfalso
    obtain ⟨p, hp, e1, _⟩ := dAt_key e
    rcases List.mem_cons.mp hp with rfl | hp
    · exact hn e1.symm
    · cases hp
def noNone : Dt → Bool
  | .none => false
  | _ => true
def slotDic (s s1 : Stt) (i : Nat) : Option (List (Dt × Dt)) := match s.sl[i]? with
  | some (some (.val (.dict kvs))) => some kvs
  | some (some (.dic _)) => (match s1.sl[i]? with
    | some (some (.dic kvs)) => some kvs
    | _ => none)
  | _ => none
theorem slotDic_any {s s1 : Stt} {i : Nat} {kvs : List (Dt × Dt)} {K : KW} {B : Bad} {γ : Option Addr} {H0 H : Hp} {σ : L2.St} (r : Rel K B γ H0 σ H s) (h : slotDic s s1 i = some kvs) : ∃ v, σ[i]? = some (some v) := by
  unfold slotDic at h
  split at h
  · rename_i d' he
    obtain ⟨v, h1, h2⟩ := r.val i _ he
    exact ⟨v, h1⟩
  · rename_i ds' he
    obtain ⟨p, vs, h1, _⟩ := r.dic i _ he
    exact ⟨_, h1⟩
  · cases h
theorem slotDic_read {K : KW} {B : Bad} {γ : Option Addr} {H0 H H1 : Hp} {σ : L2.St} {s s1 : Stt} {i : Nat} {kvs : List (Dt × Dt)} {v : V} {k d : Dt} (r : Rel K B γ H0 σ H s) (a : Aft K B γ H0 σ H s σ H1 s1) (h : slotDic s s1 i = some kvs) (hv : σ[i]? = some (some v)) (hk : keyOk k = true) (e : dAt kvs k = some d) (hn : k ≠ .none) :
    ∃ ad o, v = .ref ad ∧ Rd H1 ad o ∧ Dc K H1 (Bh B σ s1.sl) ad o kvs := by
  unfold slotDic at h
  split at h
  · rename_i d' he
    cases h
    obtain ⟨v', h1, h2⟩ := r.val i _ he
    rw [hv] at h1; cases h1
    exact Dc.of_rp (a.mv.frm _ _ h2) hk e hn
  · rename_i ds' he
    split at h
    · rename_i ds he1
      cases h
      obtain ⟨p, o, h1, h2, h3, _⟩ := a.rel.dic i _ he1
      rw [hv] at h1; cases h1
      exact ⟨p, o, rfl, .inl h2, h3⟩
    · cases h
  · cases h
def mDixN (i : Nat) (mb : MD) : MD := fun s => (mb s).bind fun q => (slotDic s q.2 i).bind fun kvs => if noNone q.1 && keyOk q.1 then (dAt kvs q.1).map fun z => (z, q.2) else none
theorem noNone_ne {k : Dt} (h : noNone k = true) : k ≠ .none := fun e => by
  rw [e] at h
  cases h
theorem de_dixN {i : Nat} {mb : MD} (hu : X.A.units + 64 < cLine) (ha : PE X a (tVar i)) (hb : PE X b (tD X.kw mb)) (hs : NoSl b := by intro _ _; rfl) : PE X (.Subscript a b pos) (tD X.kw (mDixN i mb)) :=
  PE.imp (pe_getC (by omega) ha hb hs) fun σ H Q q => by
    obtain ⟨B, γ, H0, s, d, s', rl, e, k⟩ := q
    obtain ⟨⟨y, s1⟩, e1, e2⟩ := ob e
    obtain ⟨kvs, e3, e4⟩ := ob e2
    split at e4
    · rename_i hc
      rw [Bool.and_eq_true] at hc
      obtain ⟨z, e5, e6⟩ := om e4
      obtain ⟨rfl, rfl⟩ := Prod.mk.inj e6
      obtain ⟨v, hv⟩ := slotDic_any rl e3
      refine ⟨v, hv, B, γ, H0, s, y, s1, rl, e1, fun w H1 a1 r1 => ?_⟩
      obtain ⟨ad, o, ev, h1, h2⟩ := slotDic_read rl a1 e3 hv hc.2 e5 (noNone_ne hc.1)
      exact ⟨ad, ev, Bh B σ s1.sl, o, kvs, y, z, h1, h2, r1, hc.2, e5, fun v' r' => k v' H1 a1 r'⟩
    · cases e4
def isDic (s : Stt) (i : Nat) : Option (List (Dt × Dt)) := match s.sl[i]? with
  | some (some (.dic kvs)) => some kvs
  | _ => none
theorem isDic_eq {s : Stt} {i : Nat} {kvs : List (Dt × Dt)} (h : isDic s i = some kvs) : s.sl[i]? = some (some (.dic kvs)) := by
  unfold isDic at h
  split at h
  · cases h; assumption
  · cases h
def sPut (i : Nat) (m mk : MD) : MS := fun s => (m s).bind fun q => (isDic q.2 i).bind fun _ => (mk q.2).bind fun t => (isDic t.2 i).bind fun kvs => if okPut kvs t.1 then some (.nx (put t.2 i (.dic (dPut kvs t.1 q.1)))) else none
theorem ds_put {i : Nat} {m mk : MD} {k : Expr} (hu : X.A.units + 64 < cLine) (ha : PE X a (tVar i)) (hk : PE X k (tD X.kw mk)) (hv : PE X value (tD X.kw m)) (hs : swapsWith value (some (.Subscript a k pos')) pos.line X.env = pure false := by rfl) : PS X (.Assign [.Subscript a k pos'] value pos) (tDS X.kw (sPut i m mk)) := by
  refine ⟨fun pins s σ H D I h => ?_⟩
  obtain ⟨B, γ, H0, st, o, rl, e, kk⟩ := h
  obtain ⟨⟨d, s1⟩, e1, e2⟩ := ob e
  obtain ⟨kv0, e3, e4⟩ := ob e2
  obtain ⟨⟨kd, s2⟩, e5, e6⟩ := ob e4
  obtain ⟨kvs, e7, e8⟩ := ob e6
  split at e8
  · rename_i hok
    cases e8
    refine wpAny_Assign_Subscript (thn (hv.run pins s σ H (fun v H1 => Aft X.kw B γ H0 σ H st σ H1 s1 ∧ Rp X.kw H1 (Bh B σ s1.sl) v d) I ⟨B, γ, H0, st, d, s1, rl, e1, fun v H1 a1 r1 => ⟨a1, r1⟩⟩) fun r t1 ⟨v, H1, I1, rv, a1, r1⟩ => ?_) hs
    obtain ⟨p, u0, hp, _, _, _⟩ := a1.rel.dic i kv0 (isDic_eq e3)
    refine thn (ha.run pins t1 σ H1 (fun x H2 => x = .ref p ∧ H2 = H1) I1 ⟨_, hp, rfl, rfl⟩) fun u t2 ⟨x, H2, I2, rx, ex, eH⟩ => ?_
    subst ex
    subst eH
    obtain rfl : u = Value.ref p := rx
    refine thn (hk.run pins t2 σ H2 (fun y H3 => Aft X.kw B γ H0 σ H2 s1 σ H3 s2 ∧ Rp X.kw H3 (Bh B σ s2.sl) y kd) I2 ⟨B, γ, H0, s1, kd, s2, a1.rel, e5, fun y H3 a2 r2 => ⟨a2, r2⟩⟩) fun iv t3 ⟨y, H3, I3, ry, a2, r2⟩ => ?_
    obtain ⟨p', o', hp', ho', hc', _, _⟩ := a2.rel.dic i kvs (isDic_eq e7)
    rw [hp] at hp'
    cases hp'
    refine d_setC (by omega) I3 ho' hc' r2 ry (a2.mv.frm _ _ r1) rv hok fun o'' t4 dc I4 => ?_
    have ac := a2.rel.chgC (x := .dic kvs) (y := .dic (dPut kvs kd d)) (isDic_eq e7) rfl hp dc
    exact ⟨σ, upd H3 p o'', I4, kk σ _ ((a1.trans a2).trans ac)⟩
  · cases e8
end
end DL
set_option Elab.async false
set_option linter.all false
set_option maxRecDepth 100000
set_option maxHeartbeats 4000000
set_option pp.maxSteps 200
namespace DL
open PySem PySem.Spec PyProof.Rows L2
def rPutC (K : KW) (D : Addr) (y z : V) (H : Hp) (N : Hp → Prop) : Prop := ∃ (B : Bad) (o : HO) (kvs : List (Dt × Dt)) (kd d : Dt), H D = some o ∧ Dc K H B D o kvs ∧ Rp K H B y kd ∧ Rp K H B z d ∧ okPut kvs kd = true ∧ ∀ o', Dc K H B D o' (dPut kvs kd d) → N (upd H D o')
def tDcG (K : KW) (wi : TI) (g : TG) (tt : TT) (tk tv : TE) (vs : List Nat) : TE := fun σ H Q => wi σ H fun J H1 => ∀ D, H1 D = none → ∃ W : Nat → Nat → Hp → Prop, (∃ m, W 0 m (upd H1 D (.dK []))) ∧ ∀ i m Hi, W i m Hi →
  (J.stop i Hi ∧ Q (.ref D) Hi) ∨ (J.go i Hi ∧ ∃ N : Hp → Prop, (∀ H', N H' → ∃ m', m' < m ∧ W (i + 1) m' H') ∧ ∀ x Hx, J.yld i Hi x Hx → g x (wipe σ vs) Hx fun σ2 H2 => wipe σ2 vs = wipe σ vs ∧ tt σ2 H2 fun b H3 =>
    if b = true then (tk σ2 H3 fun y H4 => tv σ2 H4 fun z H5 => rPutC K D y z H5 N) else N H3)
abbrev BkP (X : Cx) (scope : Scope) (Pr : Cx → Prop) : Prop := ∀ (s : Shared) (H : Hp) (C : Addr) (cl : List (Str × Addr)) (fp : List Addr), Pr (X.blk s H scope (compEnvC scope cl C X.env) fp)
section
variable {X : Cx}
theorem dcG_core {pins : List (Addr × Obj)} {s : Shared} {σ : L2.St} {H : Hp} {Q : VK} {use : Option (Value → Sem Unit)} {Qf : Value → Shared → Prop} {kx vx tg iter : Expr} {ifs : List Expr} {scope : Scope} {own : List (Str × Nat)} {pos pos' : PySem.Pos} {wi : TI} {g : TG} {tt : TT} {tk tv : TE} (hu : X.A.units + 64 < cLine) (hc : X.calm = true) (hN : X.N.Nodup) (I : Inv X pins σ H s) (hi : PI X tg iter wi) (ok : BlkOk X.N X.env.scope scope own)
    (hg : BkP X scope fun Y => PG Y tg g) (ht : BkP X scope fun Y => PTs Y ifs tt) (hk : BkP X scope fun Y => PE Y kx tk) (he : BkP X scope fun Y => PE Y vx tv) (hs : ∀ x, foldedSetIterable iter X.env x = pure x)
    (h : tDcG X.kw wi g tt tk tv (own.map (·.2)) σ H Q)
    (hRR : ∀ D C s' m H', Inv X pins σ H' s' → Q (.ref D) H' → s'.heap.Ns C m → FpOk X pins H' C → compPost (model X.prog X.w) X.A X.xe use Qf (.ref D) C (.ok .next) s') :
    wpAny (model X.prog X.w) X.A (comprehension (.DictComp kx vx [⟨tg, iter, ifs, 0⟩] scope pos) scope X.env pos' newDict false (eval iter X.env) use) Qf X.xe s := by
  have free : ∀ y ∈ scope.names, y.2 = .free → ∃ c, X.env.cells.lookup y.1 = some c := fun y hy e => (ok.free y hy e).elim (fun k => I.ok.has _ (.inl k)) fun k => I.ok.has _ (.inr k)
  refine wpAny_comprehension_free rfl hs (closure_ok free) ok.kind (fun y hy e => by rw [ok.uniq y hy, e]) (thn (hi.run pins s σ H _ I h) fun xv s1 hx => thn hx fun itv s2 ⟨it, fp, tn, J, H2, e, I2, T, st2, f2, q⟩ => ?_)
  subst e
  refine wpAny_newObj_type (newEnv_comp ?_)
  obtain ⟨D, hD⟩ : ∃ D, s2.heap.objs.size = D := ⟨_, rfl⟩
  rw [hD]
  have freshD : H2 D = none := I2.hok.fresh (Nat.le_of_eq hD)
  obtain ⟨W, ⟨m0, w0⟩, turn⟩ := q D freshD
  obtain ⟨s3, hs3⟩ : ∃ s3 : Shared, ({ s2 with heap := s2.heap.push { cls := .type "dict", data := .dict #[] } } : Shared) = s3 := ⟨_, rfl⟩
  rw [hs3]
  have heap3 : s3.heap = s2.heap.push { cls := .type "dict", data := .dict #[] } := by rw [← hs3]
  have I3 : Inv X pins σ (upd H2 D (.dK [])) s3 := by
    have z := I2.laid (a := D) (o := .dK []) (h' := s2.heap.push { cls := .type "dict", data := .dict #[] }) (t' := s2.toks) (fun b o e => Heap.get?_push_of_some _ e) (Nat.le_of_eq hD) (by rw [← hD]; exact dk_empty s2.heap I2.big)
    rw [← hs3]
    exact z
  have low : ∀ b ∈ fp, b < s2.heap.objs.size := fun b hb => let ⟨_, e, _⟩ := T.obj _ _ st2 b hb; Heap.lt_size e
  have f3 : ∀ b ∈ fp, FpOk X pins (upd H2 D (.dK [])) b ∧ b < s3.heap.objs.size := fun b hb => by
    refine ⟨⟨?_, (f2 b hb).2⟩, by rw [heap3, Heap.size_push]; exact Nat.lt_succ_of_lt (low b hb)⟩
    rw [upd_ne (by rw [← hD]; exact Nat.ne_of_lt (low b hb))]; exact (f2 b hb).1
  have st3 : tn 0 s3.heap := T.keep _ _ _ st2 fun b _ o e => by rw [heap3]; exact Heap.get?_push_of_some _ e
  obtain ⟨H3, hH3⟩ : ∃ H3, upd H2 D (.dK []) = H3 := ⟨_, rfl⟩
  rw [hH3] at I3 w0 f3
  have I4 := block_start I3 ok hN f3
  obtain ⟨cl, hcl⟩ : ∃ cl, cellsFrom (s3.heap.objs.size + 1) scope.names (cloFrom X.env.cells scope.names []) = cl := ⟨_, rfl⟩
  rw [hcl] at I4 ⊢
  change codeAny _ _ (.compStart _ _ _ _ (compEnvC scope cl s3.heap.objs.size X.env)) _ _
  obtain ⟨ce, hce⟩ : ∃ ce, compEnvC scope cl s3.heap.objs.size X.env = ce := ⟨_, rfl⟩
  have pg := hg s3 H3 s3.heap.objs.size cl fp; have pt := ht s3 H3 s3.heap.objs.size cl fp
  have pk := hk s3 H3 s3.heap.objs.size cl fp; have pe := he s3 H3 s3.heap.objs.size cl fp
  have cL : ce.locals = s3.heap.objs.size := by rw [← hce]; rfl
  rw [hce] at I4 pg pt pk pe ⊢
  obtain ⟨Y, hY⟩ : ∃ Y, X.blk s3 H3 scope ce fp = Y := ⟨_, rfl⟩
  have nfp : ∀ b ∈ fp, H3 b = none := fun b hb => (f3 b hb).1.1
  obtain ⟨s4, hs4⟩ : ∃ s4 : Shared, ({ s3 with heap := pushCells (s3.heap.push { cls := .type "dict", data := .dict #[] }) scope.names } : Shared) = s4 := ⟨_, rfl⟩
  rw [hs4] at I4
  change codeAny _ _ _ _ { s3 with heap := pushCells (s3.heap.push { cls := .type "dict", data := .dict #[] }) scope.names }
  rw [hs4]
  have st4 : tn 0 s4.heap := T.keep _ _ _ st3 fun b _ o e => by rw [← hs4]; exact pushCells_keeps _ _ _ _ (Heap.get?_push_of_some _ e)
  have stat : ∀ {σ' : L2.St} {H' : Hp} {s' : Shared}, Inv Y [] σ' H' s' → (∀ b ∈ fp, H' b = none) → ∀ b ∈ fp, FpOk Y [] H' b := fun {σ' H' s'} I' hn b hb => by
    subst hY
    exact ⟨hn b hb, (I'.ok.exf b hb).1, I'.ok.exfs b hb, .inl hb, fun x c e => (I'.ok.exf b hb).2 x c e, fun p hp => absurd (show p ∈ ([] : List (Addr × Obj)) ++ [] from hp) (by simp)⟩
  rw [hY] at I4 pg pt pk pe
  have hYp : Y.prog = X.prog := by rw [← hY]
  have hYw : Y.w = X.w := by rw [← hY]
  change codeAny _ _ _ (compPost (model X.prog X.w) X.A X.xe use Qf (.ref D) s3.heap.objs.size) _
  have back : ∀ {σ' : L2.St} {H5 : Hp} {s6 : Shared}, Inv Y [] σ' H5 s6 → Q (.ref D) H5 → compPost (model X.prog X.w) X.A X.xe use Qf (.ref D) s3.heap.objs.size (.ok .next) s6 := fun {σ' H5 s6} I6 qq => by
    have nC : H5 s3.heap.objs.size = none := by
      have z := I6.free
      rw [← hY] at z
      have z' : H5 ce.locals = none := z
      rw [cL] at z'
      exact z'
    have I7 : Inv X pins σ H5 s6 := by
      subst hY
      exact I3.call' (ch := fp) I6.os I6.base I6.hok I6.bare fun b hb => ⟨(f3 b hb).1.2.2.2.1, (f3 b hb).1.2.1, (f3 b hb).1.2.2.2.2.1, (f3 b hb).1.2.2.2.2.2⟩
    obtain ⟨m, hn, _⟩ := I6.loc
    rw [← hY] at hn
    have hn' : s6.heap.Ns ce.locals m := hn
    rw [cL] at hn'
    exact hRR D _ s6 m H5 I7 qq hn' (I3.fpOk (Nat.le_refl _) nC)
  have loop : codeAny (model X.prog X.w) X.A (.compLoop (.DictComp kx vx [⟨tg, iter, ifs, 0⟩] scope pos) 0 (.ref it) (.ref D) ce) (compPost (model X.prog X.w) X.A X.xe use Qf (.ref D) s3.heap.objs.size) s4 := by
    refine compLoop_anyD (fun n s' => ∃ i H', Inv Y [] (wipe σ (own.map (·.2))) H' s' ∧ tn i s'.heap ∧ (∀ b ∈ fp, H' b = none) ∧ W i n H') ?_ m0 ⟨0, H3, I4, st4, nfp, w0⟩
    rintro n s5 ⟨i, H5, I5, st5, n5, w5⟩
    rcases turn i n H5 w5 with ⟨stop, qq⟩ | ⟨go, N, hN', step⟩
    · have td := T.done Y (by rw [← hY]) (by rw [← hY]) (by rw [← hY]) (by rw [← hY]; exact hc) i [] s5 _ H5 (fun _ _ => False) I5 (stat I5 n5) st5 stop
      subst hY
      exact thnF td fun r s6 ⟨hr, I6⟩ => by subst hr; exact back I6 qq
    · have ti := T.item Y (by rw [← hY]) (by rw [← hY]) (by rw [← hY]) (by rw [← hY]; exact hc) i [] s5 _ H5 (fun _ _ => False) I5 (stat I5 n5) st5 go
      have un : Y.A.units + 16 < cLine := by rw [← hY]; show X.A.units + 16 < cLine; omega
      have kwY : Y.kw = X.kw := by rw [← hY]
      have fin : ∀ {s7 s' : Shared} {σ8 : L2.St} {H' : Hp}, tn (i + 1) s7.heap → wipe σ8 (own.map (·.2)) = wipe σ (own.map (·.2)) → Inv Y ([] ++ pinsAt fp s7.heap) σ8 H' s' → N H' → ∃ m, m < n ∧ ∃ i H', Inv Y [] (wipe σ (own.map (·.2))) H' s' ∧ tn i s'.heap ∧ (∀ b ∈ fp, H' b = none) ∧ W i m H' := fun {s7 s' σ8 H'} st7 hw8 I' nx => by
        obtain ⟨m', hm, w'⟩ := hN' H' nx
        have pin' : ∀ b ∈ fp, ∀ o, s7.heap.get? b = some o → s'.heap.get? b = some o ∧ H' b = none := fun b hb o e => by
          have z := I'.pin (b, o) (List.mem_append_right _ (List.mem_append_right _ (mem_pinsAt hb e)))
          exact ⟨z.1, z.2.1⟩
        refine ⟨m', hm, i + 1, H', (I'.unpinned (pins := [])).weak (by rw [← hw8, wipe_length]) (fun j v e => ?_), T.keep _ _ _ st7 fun b hb o e => (pin' b hb o e).1, fun b hb => ?_, w'⟩
        · rw [← hw8] at e; exact (wipe_some e).1
        · obtain ⟨o, e, _⟩ := T.obj _ _ st7 b hb
          exact (pin' b hb o e).2
      subst hY
      refine thnF ti fun r s6 ⟨u, hr, h6⟩ => ?_
      subst hr
      refine thnF h6 fun _ s7 ⟨x, H7, I7, r7, y7, st7, n7⟩ => thnF (pg.run _ s7 _ H7 x u _ (I7.pinned (stat I7 n7) (T.obj _ _ st7)) r7 (step x H7 y7)) fun _ s8 ⟨σ8, H8, I8, hw8, q8⟩ => thnF (pt.run _ s8 σ8 H8 _ I8 q8) fun b s9 ⟨H9, I9, q9⟩ => ?_
      cases b with
      | false => exact fin st7 hw8 I9 (by simpa using q9)
      | true =>
        simp only [if_true] at q9 ⊢
        refine thnF (pk.run _ s9 σ8 H9 _ I9 q9) fun z s10 ⟨yk, H10, I10, r10, q10⟩ => thnF (pe.run _ s10 σ8 H10 _ I10 q10) fun z2 s11 ⟨yv, H11, I11, r11, B, o, kvs, kd, d, p1, p2, p3, p4, p5, p6⟩ => ?_
        exact d_dsetC (X := X.blk s3 H3 scope ce fp) un I11 p1 p2 p3 r10 p4 r11 p5 fun o' s12 dc I12 => fin st7 hw8 I12 (p6 o' dc)
  exact codeAny_compStart_dict loop (T.self X.A 0 _ _ _ st4 loop)
theorem pe_dcG {kx vx tg iter : Expr} {ifs : List Expr} {scope : Scope} {own : List (Str × Nat)} {pos : PySem.Pos} {wi : TI} {g : TG} {tt : TT} {tk tv : TE} (hu : X.A.units + 64 < cLine) (hc : X.calm = true) (hN : X.N.Nodup) (hi : PI X tg iter wi) (ok : BlkOk X.N X.env.scope scope own)
    (hg : BkP X scope fun Y => PG Y tg g) (ht : BkP X scope fun Y => PTs Y ifs tt) (hk : BkP X scope fun Y => PE Y kx tk) (he : BkP X scope fun Y => PE Y vx tv) (hs : ∀ x, foldedSetIterable iter X.env x = pure x := by intro _; rfl) :
    PE X (.DictComp kx vx [⟨tg, iter, ifs, 0⟩] scope pos) (tDcG X.kw wi g tt tk tv (own.map (·.2))) := by
  refine ⟨fun pins s σ H Q I h => ?_⟩
  rw [arm_eval_DictComp]
  refine dcG_core hu hc hN I hi ok hg ht hk he hs h fun D C s' m H' I' q hn f => ⟨m, hn, fun h'' sb => ?_⟩
  obtain ⟨f0, f1, f2, f3, f4, f5⟩ := f
  exact ⟨.ref D, H', I'.turned (t' := s'.toks) (fun b o hb e => (sb.2 b hb).trans e) f0 f1 f3 f4 f5, rfl, q⟩
theorem ps_setDcG {i : Nat} {y : Str} {py spos : PySem.Pos} {kx vx tg iter : Expr} {ifs : List Expr} {scope : Scope} {own : List (Str × Nat)} {pos : PySem.Pos} {wi : TI} {g : TG} {tt : TT} {tk tv : TE} (hu : X.A.units + 64 < cLine) (hc : X.calm = true) (hN : X.N.Nodup) (hy : X.N[i]? = some y) (hyl : X.env.scope.names.lookup y = some .local)
    (hsw : swapsWith (.DictComp kx vx [⟨tg, iter, ifs, 0⟩] scope pos) (some (.Name y py)) spos.line X.env = pure true) (hi : PI X tg iter wi) (ok : BlkOk X.N X.env.scope scope own)
    (hg : BkP X scope fun Y => PG Y tg g) (ht : BkP X scope fun Y => PTs Y ifs tt) (hk : BkP X scope fun Y => PE Y kx tk) (he : BkP X scope fun Y => PE Y vx tv) (hs : ∀ x, foldedSetIterable iter X.env x = pure x := by intro _; rfl) :
    PS X (.Assign [.Name y py] (.DictComp kx vx [⟨tg, iter, ifs, 0⟩] scope pos) spos) (tAsg (tDcG X.kw wi g tt tk tv (own.map (·.2))) (gName i)) := by
  refine ⟨fun pins s σ H D I h => ?_⟩
  rw [exec_Assign_Name_used _ _ _ _ hsw]
  refine wpAny_bind (wpAny_standAt (wpAny_bind ?_))
  show wpAny _ X.A (do let _ ← comprehension (.DictComp kx vx [⟨tg, iter, ifs, 0⟩] scope pos) scope X.env (firstIterPos [⟨tg, iter, ifs, 0⟩] pos) newDict false (eval iter X.env) (some (assign (.Name y py) X.env))) _ _ s
  have h : tDcG X.kw wi g tt tk tv (own.map (·.2)) σ H (fun x H1 => gName i x σ H1 D.nx) := h
  refine wpAny_bind (thn (dcG_core (Qf := fun _ s' => SP X pins D .next s') hu hc hN I hi ok hg ht hk he hs h fun L C s' m H' I' q hn f => ?_) fun _ s' hq => wpAny_pure (wpAny_pure hq))
  show wpAny _ _ (assign (.Name y py) X.env (.ref L)) _ _ _
  refine wpAny_assign_Name (store_ok2 (v := V.ref L) I' hN hy (.inl hyl) rfl (fun s2 I2 ⟨a, sb, ha⟩ => ?_) (.inr hyl))
  obtain ⟨f0, f1, f2, f3, f4, f5⟩ := f
  have haC : C ≠ a := by
    rcases ha with z | z
    · rw [z]; exact f1
    · exact fun e => f4 y a z e.symm
  refine ⟨m, hn.sameBut sb haC, fun h3 sb3 => ?_⟩
  exact ⟨_, H', I2.turned (t' := s2.toks) (fun b o hb e => (sb3.2 b hb).trans e) f0 f1 f3 f4 f5, q⟩
theorem swD_true {kx vx : Expr} {gs : List Comprehension} {scope : Scope} {pos py : PySem.Pos} {y : Str} {l : Nat} {env : Env} (hk : env.scope.kind = .function) (hy : env.scope.names.lookup y = some .local) (hl : (py.line == pos.line) = true)
    (ha : (scope.names.any fun (n, k) => n == y && (k == .local || k == .cell)) = false) : swapsWith (.DictComp kx vx gs scope pos) (some (.Name y py)) l env = pure true := by
  have ky : env.kindOf y = some .local := hy
  have hb : env.blockKind = .function := by unfold Env.blockKind; rw [hk]; rfl
  unfold swapsWith
  simp only [hb, ky, ha, Expr.pos, hl]
  rfl
end
end DL
set_option Elab.async false
set_option linter.all false
set_option maxRecDepth 100000
set_option maxHeartbeats 4000000
namespace DL
open PySem PySem.Spec PyProof.Rows L2
def dcGo (g : MG) (mt : MT) (mk mv : MD) (sb : List (Option SV)) : List Dt → List (Dt × Dt) → Ur → Option (List (Dt × Dt) × Ur)
  | [], acc, u => some (acc, u)
  | d :: ds, acc, u => (g d ⟨sb, u⟩).bind fun s1 => (mt s1).bind fun q => if q.1 then (mk q.2).bind fun y => (mv y.2).bind fun z => if okPut acc y.1 then dcGo g mt mk mv sb ds (dPut acc y.1 z.1) z.2.ur else none else dcGo g mt mk mv sb ds acc q.2.ur
def mDcm (mi : MA) (fz : List Nat) (vs : List Nat) (g : MG) (mt : MT) (mk mv : MD) : MDc := fun s => (mi s).bind fun q => (dcGo g mt mk mv (blkSl (frzL q.2 fz).sl vs) q.1 [] (frzL q.2 fz).ur).map fun r => (r.1, { frzL q.2 fz with ur := r.2 })
section
variable {K : KW} {B : Bad} {γ : Option Addr} {H0 H H1 H' : Hp} {σ σ' : L2.St} {s : Stt} {D : Addr}
theorem Rel.blkO {o : HO} (r : Rel K B γ H0 σ H1 s) (hD : H1 D = none) {u : Ur} {vs : List Nat} (frm : ∀ v d, Rp K (upd H1 D o) (Bp (Bh B σ s.sl) D) v d → Rp K H (Bp (Bh B σ s.sl) D) v d) (ur : UrOk H γ u) (bd : ∀ a, Bp (Bh B σ s.sl) D a → H a ≠ none)
    (ent : Kx γ H0 H) : Rel K (Bp (Bh B σ s.sl) D) γ H0 (wipe σ vs) H ⟨blkSl s.sl vs, u⟩ where
  len := by show (wipeS _ vs).length = _; rw [wipeS_len, wipe_length, List.length_map]; exact r.len
  val := fun i d e => by
    obtain ⟨e1, e2, _⟩ := blkSl_get e
    obtain ⟨v, h1, h2⟩ := r.val i d e1
    exact ⟨v, (wipe_get e2).trans h1, (frm _ _ ((h2.avoid hD).same (same_new hD))).sub fun a z => bh_blk z⟩
  own := fun i ds e => nomatch (blkSl_get e).2.2
  dic := fun i ds e => nomatch (blkSl_get e).2.2
  inj := fun i j x y p e m => by rw [(blkSl_get e).2.2] at m; cases m
  urn := fun i e => by
    obtain ⟨e1, e2, _⟩ := blkSl_get e
    obtain ⟨p, h1, h2⟩ := r.urn i e1
    exact ⟨p, h1, (wipe_get e2).trans h2⟩
  ur := ur
  gB := fun p e => .inl (.inl (r.gB p e))
  bd := bd
  ent := ent.at_
  ev := ent.evo
structure Btw (K : KW) (B : Bad) (γ : Option Addr) (H0 : Hp) (σ : L2.St) (s1 : Stt) (H1 : Hp) (D : Addr) (o0 : HO) (Hi : Hp) (u : Ur) : Prop where
  frm : ∀ v d, Rp K (upd H1 D o0) (Bp (Bh B σ s1.sl) D) v d → Rp K Hi (Bp (Bh B σ s1.sl) D) v d
  ur : UrOk Hi γ u
  pv : ∀ b o, Bh B σ s1.sl b → Nx γ b o → H1 b = some o → Hi b = some o
  dom : ∀ b, upd H1 D o0 b ≠ none → Hi b ≠ none
  ent : Kx γ H0 Hi
variable {s1 : Stt} {o0 : HO} {Hi : Hp} {u : Ur}
theorem Btw.bd (b : Btw K B γ H0 σ s1 H1 D o0 Hi u) (r : Rel K B γ H0 σ H1 s1) (hD : H1 D = none) : ∀ a, Bp (Bh B σ s1.sl) D a → Hi a ≠ none := fun a ha => b.dom a (by
  rcases ha with ha | ha
  · exact same_dom (same_new hD) (r.bdh a ha)
  · rw [ha, upd_same]; intro z; cases z)
theorem Btw.start (r : Rel K B γ H0 σ H1 s1) (hD : H1 D = none) : Btw K B γ H0 σ s1 H1 D o0 (upd H1 D o0) s1.ur :=
  ⟨fun _ _ h => h, r.ur.same (same_new hD), fun b o _ _ h => same_new hD b o h, fun _ h => h, r.kx.trans (.of_same (same_new hD))⟩
theorem Btw.rel (b : Btw K B γ H0 σ s1 H1 D o0 Hi u) (r : Rel K B γ H0 σ H1 s1) (hD : H1 D = none) (vs : List Nat) : Rel K (Bp (Bh B σ s1.sl) D) γ H0 (wipe σ vs) Hi ⟨blkSl s1.sl vs, u⟩ := r.blkO hD b.frm b.ur (b.bd r hD) b.ent
theorem Btw.after {σ2 σ3 : L2.St} {s2 s3 : Stt} {H2 H3 : Hp} (b : Btw K B γ H0 σ s1 H1 D o0 Hi u) (sm : Same Hi H2) (hs : ∀ a, Bh (Bp (Bh B σ s1.sl) D) σ2 s2.sl a → Bp (Bh B σ s1.sl) D a) (a : Aft K (Bp (Bh B σ s1.sl) D) γ H0 σ2 H2 s2 σ3 H3 s3) : Btw K B γ H0 σ s1 H1 D o0 H3 s3.ur :=
  ⟨fun v d r => (a.mv.frm v d (((b.frm v d r).same sm).sub hs)).sub fun a z => .inl z, a.rel.ur, fun b' o hb hg hh => a.mv.pv b' o (.inl hb) hg (sm _ _ (b.pv b' o hb hg hh)), fun b' hb => a.mv.dom b' (same_dom sm (b.dom b' hb)), a.rel.kx⟩
theorem Btw.chg {o1 o2 : HO} (b : Btw K B γ H0 σ s1 H1 D o0 Hi u) (r : Rel K B γ H0 σ H1 s1) (hD : H1 D = none) (h : Hi D = some o1) (hm : Mb o1) (hn : ¬ Me o1) : Btw K B γ H0 σ s1 H1 D o0 (upd Hi D o2) u ∧ ∀ v d, Rp K Hi (Bp (Bh B σ s1.sl) D) v d → Rp K (upd Hi D o2) (Bp (Bh B σ s1.sl) D) v d := by
  have gD : γ ≠ some D := fun z => r.bd D (r.gB D z) hD
  have kp : Kp (Bp (Bh B σ s1.sl) D) Hi (upd Hi D o2) := Kp.set (.inr rfl) h hm hn
  have fr : ∀ v d, Rp K Hi (Bp (Bh B σ s1.sl) D) v d → Rp K (upd Hi D o2) (Bp (Bh B σ s1.sl) D) v d := fun v d r => r.mono kp fun _ z => z
  refine ⟨⟨fun v d q => fr _ _ (b.frm v d q), fun q e => ?_, fun b' o hb hg hh => ?_, fun b' hb => ?_, ⟨fun b' o hb hg => ?_, b.ent.evo.trans kp.evo⟩⟩, fr⟩
  · obtain ⟨ns, h1, h2⟩ := b.ur q e
    exact ⟨ns, h1, by rw [upd_ne (fun z => gD (by rw [← z]; exact e))]; exact h2⟩
  · rw [upd_ne (fun z => by rw [z, hD] at hh; cases hh)]
    exact b.pv b' o hb hg hh
  · by_cases z : b' = D
    · rw [z, upd_same]; intro z; cases z
    · rw [upd_ne z]; exact b.dom b' hb
  · rw [upd_ne (fun z => by rw [z, r.h0 hD] at hb; cases hb)]
    exact b.ent.at_ b' o hb hg
theorem Btw.fin (b : Btw K B γ H0 σ s1 H1 D o0 Hi u) (r : Rel K B γ H0 σ H1 s1) (hD : H1 D = none) : Rel K (Bp B D) γ H0 σ Hi { s1 with ur := u } ∧ Mv K B γ H1 (Bh B σ s1.sl) Hi (Bh (Bp B D) σ s1.sl) := by
  have smD : Same H1 (upd H1 D o0) := same_new hD
  have f9 : ∀ v d, Rp K H1 (Bh B σ s1.sl) v d → Rp K Hi (Bh (Bp B D) σ s1.sl) v d := fun v d q => (b.frm v d ((q.avoid hD).same smD)).sub fun _ => bh_bp
  refine ⟨r.to f9 (fun c hb => ?_) b.ur (fun p e => .inl (r.gB p e)) (fun a ha => ?_) b.ent, ⟨f9, fun c o hb hg hh => b.pv c o (.inl hb) hg hh, fun c hb => b.dom c (same_dom smD hb)⟩⟩
  · obtain ⟨j, es, h5, hm, h6⟩ := hb
    obtain ⟨p', ws, q1, q2, _, q4, q5⟩ := r.mine h5 hm
    rw [h6] at q1; cases q1
    exact ⟨fun o ho => b.pv c o (.inr ⟨j, es, h5, hm, h6⟩) ⟨fun g => q4 (r.gB c g), r.ownN ⟨j, es, h5, hm, h6⟩ ho⟩ ho, fun z => z.elim q4 fun z => ne_of_none q2 hD z⟩
  · rcases ha with ha | ha
    · exact b.bd r hD a (.inl (.inl ha))
    · exact b.bd r hD a (.inr ha)
end
section
variable {X : Cx} {tg iter kx vx e a b c : Expr} {es : List Expr} {ifs : List Expr} {pos p : PySem.Pos}
theorem dc_go {mi : MA} {fz vs ts : List Nat} {g : MG} {mt : MT} {mk mv : MD} {σ : L2.St} {H : Hp} {Q : VK} (hts : ∀ i ∈ ts, i ∈ vs) (q : tDD X.kw (mDcm mi fz vs g mt mk mv) σ H Q) : tDcG X.kw (lkI (tDI X.kw mi)) (tDG X.kw ts g) (tDT X.kw mt) (tD X.kw mk) (tD X.kw mv) vs σ H Q := by
  obtain ⟨B, γ, H0, s, out, s', rl, e, k⟩ := q
  obtain ⟨⟨ds, s0⟩, e1, e2⟩ := ob e
  obtain ⟨⟨rr, uu⟩, e3, e4⟩ := om e2
  obtain ⟨rfl, rfl⟩ := Prod.mk.inj e4
  refine ⟨B, γ, H0, s, ds, s0, rl, e1, fun J H1' a0 it => a0.rel.frzL fz fun H1 az => ?_⟩
  obtain ⟨G, g0, gst, ggo, gstop, gyld⟩ := it.ex
  have a1 := a0.trans az
  have g1 : G H1 (Bh B σ (frzL s0 fz).sl) := gst _ _ _ _ az.mv.frm g0
  generalize frzL s0 fz = s1 at *
  intro D hD
  have g2 : G (upd H1 D (.dK [])) (Bp (Bh B σ s1.sl) D) := gst _ _ _ _ (fun v d r => (r.avoid hD).same (same_new hD)) g1
  have gD : γ ≠ some D := fun z => a1.rel.bd D (a1.rel.gB D z) hD
  refine ⟨fun i m Hi => ∃ u acc o, m = ds.length - i ∧ i ≤ ds.length ∧ Btw X.kw B γ H0 σ s1 H1 D (.dK []) Hi u ∧ Hi D = some o ∧ Dc X.kw Hi (Bp (Bh B σ s1.sl) D) D o acc ∧ dcGo g mt mk mv (blkSl s1.sl vs) (ds.drop i) acc u = some (rr, uu),
    ⟨ds.length, s1.ur, [], .dK [], by omega, by omega, Btw.start a1.rel hD, upd_same, .ky (kvs := []) (vs := []) .nil, e3⟩, ?_⟩
  rintro i m Hi ⟨u, acc, o, rfl, hi, bt, hDi, racc, el⟩
  have gi : G Hi (Bp (Bh B σ s1.sl) D) := gst _ _ _ _ bt.frm g2
  by_cases hlt : i < ds.length
  · right
    rw [List.drop_eq_getElem_cons hlt] at el
    obtain ⟨s2, f1, f2⟩ := ob (show (g _ ⟨_, u⟩).bind _ = some (rr, uu) from el)
    obtain ⟨⟨tb, s3⟩, f3, f4⟩ := ob f2
    refine ⟨ggo i Hi _ gi hlt, fun Hn => ∃ u acc o, Btw X.kw B γ H0 σ s1 H1 D (.dK []) Hn u ∧ Hn D = some o ∧ Dc X.kw Hn (Bp (Bh B σ s1.sl) D) D o acc ∧ dcGo g mt mk mv (blkSl s1.sl vs) (ds.drop (i + 1)) acc u = some (rr, uu), fun Hn hN => ?_, fun x H' hy => ?_⟩
    · obtain ⟨u, acc, o, h1, h2, h3, h4⟩ := hN
      exact ⟨ds.length - (i + 1), by omega, u, acc, o, rfl, by omega, h1, h2, h3, h4⟩
    · obtain ⟨sm, rp⟩ := gyld i Hi _ x H' _ gi (List.getElem?_eq_getElem hlt) hy
      have r0 := (bt.rel a1.rel hD vs).same sm
      refine ⟨Bp (Bh B σ s1.sl) D, γ, H0, _, _, s2, r0, rp.sub (fun a z => bh_blk z), f1, fun σ2 a2 c2 l2 => ⟨?_, ?_⟩⟩
      · rw [wipe_eq (vs := vs) l2 fun j hj => c2 j fun z => hj (hts j z)]
        exact wipe_eq (wipe_length _ _) fun j hj => wipe_get hj
      · refine ⟨_, γ, H0, s2, tb, s3, a2.rel, f3, fun H3 a3 => ?_⟩
        have a4 := a2.trans a3
        cases tb with
        | true =>
          refine iteT ?_
          obtain ⟨⟨y, s4⟩, f5, f6⟩ := ob f4
          obtain ⟨⟨z, s5⟩, f7, f8⟩ := ob f6
          split at f8
          · rename_i hok
            refine ⟨_, γ, H0, s3, y, s4, a3.rel, f5, fun vy H4 a5 ry => ⟨_, γ, H0, s4, z, s5, a5.rel, f7, fun vz H5 a6 rz => ?_⟩⟩
            have a7 := (a4.trans a5).trans a6
            have hD5 : H5 D = some o := a7.mv.pv D _ (.inr rfl) ⟨gD, racc.nme⟩ (sm _ _ hDi)
            have bt5 := bt.after sm (fun a z => bh_blk z) a7
            have dc5 : Dc X.kw H5 (Bp (Bh B σ s1.sl) D) D o acc := (racc.same sm).by_frm fun v d r => (a7.mv.frm v d (r.sub fun a z => bh_blk z)).sub fun a z => .inl z
            refine ⟨Bp (Bh B σ s1.sl) D, o, acc, y, z, hD5, dc5, (a6.mv.frm _ _ ry).sub fun a z => .inl z, rz.sub fun a z => .inl z, hok, fun o' dc' => ?_⟩
            obtain ⟨b6, fr6⟩ := bt5.chg (o2 := o') a1.rel hD hD5 dc5.mb dc5.nme
            exact ⟨_, _, o', b6, upd_same, dc'.by_frm fr6, f8⟩
          · cases f8
        | false =>
          refine iteF ?_
          exact ⟨_, acc, o, bt.after sm (fun a z => bh_blk z) a4, a4.mv.pv D _ (.inr rfl) ⟨gD, racc.nme⟩ (sm _ _ hDi), (racc.same sm).by_frm fun v d r => (a4.mv.frm v d (r.sub fun a z => bh_blk z)).sub fun a z => .inl z, f4⟩
  · left
    have ei0 : i = ds.length := by omega
    subst ei0
    refine ⟨gstop _ Hi _ gi (Nat.le_refl _), ?_⟩
    rw [List.drop_length] at el
    obtain ⟨h1, h2⟩ := Prod.mk.inj (Option.some.inj el)
    subst h1
    subst h2
    obtain ⟨r9, m9⟩ := bt.fin a1.rel hD
    exact k D o Hi r9 (a1.mv.trans m9) (a1.mv.back hD) hDi (racc.sub fun _ => bh_bp)
theorem dd_dc {scope : Scope} {own : List (Str × Nat)} {mi : MA} {ts : List Nat} {g : MG} {mt : MT} {mk mv : MD} (fz : List Nat) (hu : X.A.units + 64 < cLine) (hN : X.N.Nodup) (hi : PI X tg iter (tDI X.kw mi)) (ok : BlkOk X.N X.env.scope scope own)
    (hg : BkP X scope fun Y => PG Y tg (tDG X.kw ts g)) (ht : BkP X scope fun Y => PTs Y ifs (tDT X.kw mt)) (hk : BkP X scope fun Y => PE Y kx (tD X.kw mk)) (he : BkP X scope fun Y => PE Y vx (tD X.kw mv)) (hts : ∀ i ∈ ts, i ∈ own.map (·.2) := by decide) (hc : X.calm = true := by rfl) (hs : ∀ x, foldedSetIterable iter X.env x = pure x := by intro _; rfl) :
    PE X (.DictComp kx vx [⟨tg, iter, ifs, 0⟩] scope pos) (tDD X.kw (mDcm mi fz (own.map (·.2)) g mt mk mv)) := PE.imp (pe_dcG hu hc hN (PI.lk hi) ok hg ht hk he hs) fun σ H Q q => dc_go hts q
theorem ds_setDc {i : Nat} {y : Str} {py spos : PySem.Pos} {scope : Scope} {own : List (Str × Nat)} {mi : MA} {ts : List Nat} {g : MG} {mt : MT} {mk mv : MD} (fz : List Nat) (hu : X.A.units + 64 < cLine) (hN : X.N.Nodup)
    (hsw : swapsWith (.DictComp kx vx [⟨tg, iter, ifs, 0⟩] scope pos) (some (.Name y py)) spos.line X.env = pure true) (hi : PI X tg iter (tDI X.kw mi)) (ok : BlkOk X.N X.env.scope scope own)
    (hg : BkP X scope fun Y => PG Y tg (tDG X.kw ts g)) (ht : BkP X scope fun Y => PTs Y ifs (tDT X.kw mt)) (hk : BkP X scope fun Y => PE Y kx (tD X.kw mk)) (he : BkP X scope fun Y => PE Y vx (tD X.kw mv)) (hts : ∀ i ∈ ts, i ∈ own.map (·.2) := by decide) (hc : X.calm = true := by rfl) (hy : X.N[i]? = some y := by rfl) (hyl : X.env.scope.names.lookup y = some .local := by rfl) (hs : ∀ x, foldedSetIterable iter X.env x = pure x := by intro _; rfl) :
    PS X (.Assign [.Name y py] (.DictComp kx vx [⟨tg, iter, ifs, 0⟩] scope pos) spos) (tDS X.kw (sSetD i (mDcm mi fz (own.map (·.2)) g mt mk mv))) := PS.imp (ps_setDcG hu hc hN hy hyl hsw (PI.lk hi) ok hg ht hk he hs) fun D σ H q => by
  obtain ⟨B, γ, H0, s, o, rl, e, k⟩ := q
  have q' : tDD X.kw (mDcm mi fz (own.map (·.2)) g mt mk mv) σ H fun x H1 => gName i x σ H1 D.nx := setD_go ⟨B, γ, H0, s, o, rl, e, k⟩
  exact dc_go hts q'
end
end DL
set_option Elab.async false
set_option linter.all false
set_option maxRecDepth 100000
set_option maxHeartbeats 4000000
namespace DL
open PySem PySem.Spec PyProof.Rows L2
def lc2Go (g : MG) (mt : MT) (mi1 : MA) (vs1 : List Nat) (g1 : MG) (mt1 : MT) (me : MD) (sb : List (Option SV)) : List Dt → Ur → Option (List Dt × Ur)
  | [], u => some ([], u)
  | d :: ds, u => (g d ⟨sb, u⟩).bind fun s1 => (mt s1).bind fun q => if q.1 then (mi1 q.2).bind fun r => (lcGo g1 mt1 me (blkSl r.2.sl vs1) r.1 r.2.ur).bind fun y => (lc2Go g mt mi1 vs1 g1 mt1 me sb ds y.2).map fun z => (y.1 ++ z.1, z.2) else lc2Go g mt mi1 vs1 g1 mt1 me sb ds q.2.ur
def mLc2 (mi : MA) (fz : List Nat) (vs : List Nat) (g : MG) (mt : MT) (mi1 : MA) (vs1 : List Nat) (g1 : MG) (mt1 : MT) (me : MD) : MA := fun s => (mi s).bind fun q => (lc2Go g mt mi1 vs1 g1 mt1 me (blkSl (frzL q.2 fz).sl vs) q.1 (frzL q.2 fz).ur).bind fun r => if fits r.1 then some (r.1, { frzL q.2 fz with ur := r.2 }) else none
structure Inn (K : KW) (C : Bad) (γ : Option Addr) (H0 H4 : Hp) (D : Addr) (Hj : Hp) (u : Ur) : Prop where
  frm : ∀ v d, Rp K H4 C v d → Rp K Hj C v d
  ur : UrOk Hj γ u
  pv : ∀ b o, C b → Nx γ b o → b ≠ D → H4 b = some o → Hj b = some o
  dom : ∀ b, H4 b ≠ none → Hj b ≠ none
  ent : Kx γ H0 Hj
section
variable {K : KW} {B C : Bad} {γ : Option Addr} {H0 H4 Hj : Hp} {σ : L2.St} {s4 : Stt} {D : Addr} {u : Ur}
theorem Inn.rel (b : Inn K (Bh B σ s4.sl) γ H0 H4 D Hj u) (r : Rel K B γ H0 σ H4 s4) (vs : List Nat) : Rel K (Bh B σ s4.sl) γ H0 (wipe σ vs) Hj ⟨blkSl s4.sl vs, u⟩ where
  len := by show (wipeS _ vs).length = _; rw [wipeS_len, wipe_length, List.length_map]; exact r.len
  val := fun i d e => by
    obtain ⟨e1, e2, _⟩ := blkSl_get e
    obtain ⟨v, h1, h2⟩ := r.val i d e1
    exact ⟨v, (wipe_get e2).trans h1, (b.frm _ _ h2).sub fun a z => bh_blk z⟩
  own := fun i ds e => nomatch (blkSl_get e).2.2
  dic := fun i ds e => nomatch (blkSl_get e).2.2
  inj := fun i j x y p e m => by rw [(blkSl_get e).2.2] at m; cases m
  urn := fun i e => by
    obtain ⟨e1, e2, _⟩ := blkSl_get e
    obtain ⟨p, h1, h2⟩ := r.urn i e1
    exact ⟨p, h1, (wipe_get e2).trans h2⟩
  ur := b.ur
  gB := fun p e => .inl (r.gB p e)
  bd := fun a ha => b.dom a (r.bdh a ha)
  ent := b.ent.at_
  ev := b.ent.evo
theorem Inn.after {σ2 σ3 : L2.St} {s2 s3 : Stt} {H2 H3 : Hp} (b : Inn K C γ H0 H4 D Hj u) (sm : Same Hj H2) (hs : ∀ a, Bh C σ2 s2.sl a → C a) (a : Aft K C γ H0 σ2 H2 s2 σ3 H3 s3) : Inn K C γ H0 H4 D H3 s3.ur :=
  ⟨fun v d r => (a.mv.frm v d (((b.frm v d r).same sm).sub hs)).sub fun a z => .inl z, a.rel.ur, fun b' o hb hg hn hh => a.mv.pv b' o hb hg (sm _ _ (b.pv b' o hb hg hn hh)), fun b' hb => a.mv.dom b' (same_dom sm (b.dom b' hb)), a.rel.kx⟩
theorem Inn.chg {o1 o2 : HO} (b : Inn K C γ H0 H4 D Hj u) (gD : γ ≠ some D) (h0 : H0 D = none) (hC : C D) (h : Hj D = some o1) (hm : Mb o1) (hn : ¬ Me o1) : Inn K C γ H0 H4 D (upd Hj D o2) u ∧ ∀ v d, Rp K Hj C v d → Rp K (upd Hj D o2) C v d := by
  have kp : Kp C Hj (upd Hj D o2) := Kp.set hC h hm hn
  have fr : ∀ v d, Rp K Hj C v d → Rp K (upd Hj D o2) C v d := fun v d r => r.mono kp fun _ z => z
  refine ⟨⟨fun v d q => fr _ _ (b.frm v d q), fun q e => ?_, fun b' o hb hg hn hh => ?_, fun b' hb => ?_, ⟨fun b' o hb hg => ?_, b.ent.evo.trans kp.evo⟩⟩, fr⟩
  · obtain ⟨ns, h1, h2⟩ := b.ur q e
    exact ⟨ns, h1, by rw [upd_ne (fun z => gD (by rw [← z]; exact e))]; exact h2⟩
  · rw [upd_ne hn]
    exact b.pv b' o hb hg hn hh
  · by_cases z : b' = D
    · rw [z, upd_same]; intro z; cases z
    · rw [upd_ne z]; exact b.dom b' hb
  · rw [upd_ne (fun z => by rw [z, h0] at hb; cases hb)]
    exact b.ent.at_ b' o hb hg
end
section
variable {X : Cx} {tg iter tg1 iter1 elt e a b c : Expr} {es : List Expr} {ifs ifs1 : List Expr} {pos p : PySem.Pos}
theorem lc2_go {mi mi1 : MA} {fz vs vs1 ts ts1 : List Nat} {g g1 : MG} {mt mt1 : MT} {me : MD} {σ : L2.St} {H : Hp} {Q : VK} (hts : ∀ i ∈ ts, i ∈ vs) (hts1 : ∀ i ∈ ts1, i ∈ vs1) (q : tDL X.kw (mLc2 mi fz vs g mt mi1 vs1 g1 mt1 me) σ H Q) :
    tLc2 (lkI (tDI X.kw mi)) (tDG X.kw ts g) (tDT X.kw mt) (tDI X.kw mi1) (tDG X.kw ts1 g1) (tDT X.kw mt1) (tD X.kw me) vs vs1 σ H Q := by
  obtain ⟨B, γ, H0, s, out, s', rl, e, k⟩ := q
  obtain ⟨⟨ds, s0⟩, e1, e2⟩ := ob e
  obtain ⟨⟨rr, uu⟩, e3, e4⟩ := ob e2
  split at e4
  · rename_i hf
    obtain ⟨rfl, rfl⟩ := Prod.mk.inj (Option.some.inj e4)
    have tot : rr.length ≤ sizeLine := of_decide_eq_true hf
    refine ⟨B, γ, H0, s, ds, s0, rl, e1, fun J H1' a0 it => a0.rel.frzL fz fun H1 az => ?_⟩
    obtain ⟨G, g0, gst, ggo, gstop, gyld⟩ := it.ex
    have a1 := a0.trans az
    have gg1 : G H1 (Bh B σ (frzL s0 fz).sl) := gst _ _ _ _ az.mv.frm g0
    generalize frzL s0 fz = s1 at *
    intro D hD
    have gg2 : G (upd H1 D (.lst [])) (Bp (Bh B σ s1.sl) D) := gst _ _ _ _ (fun v d r => (r.avoid hD).same (same_new hD)) gg1
    have gD : γ ≠ some D := fun z => a1.rel.bd D (a1.rel.gB D z) hD
    have h0D : H0 D = none := a1.rel.h0 hD
    refine ⟨fun i m Hi => ∃ u acc va rest, m = ds.length - i ∧ i ≤ ds.length ∧ Btw X.kw B γ H0 σ s1 H1 D (.lst []) Hi u ∧ Hi D = some (.lst va) ∧ RpL X.kw Hi (Bp (Bh B σ s1.sl) D) va acc ∧ lc2Go g mt mi1 vs1 g1 mt1 me (blkSl s1.sl vs) (ds.drop i) u = some (rest, uu) ∧ acc ++ rest = rr,
      ⟨ds.length, s1.ur, [], [], rr, by omega, by omega, Btw.start a1.rel hD, upd_same, .nil, e3, rfl⟩, ?_⟩
    rintro i m Hi ⟨u, acc, va, rest, rfl, hi, bt, hDi, racc, el, etot⟩
    have gi : G Hi (Bp (Bh B σ s1.sl) D) := gst _ _ _ _ bt.frm gg2
    by_cases hlt : i < ds.length
    · right
      rw [List.drop_eq_getElem_cons hlt] at el
      obtain ⟨s2, f1, f2⟩ := ob (show (g _ ⟨_, u⟩).bind _ = some (rest, uu) from el)
      obtain ⟨⟨tb, s3⟩, f3, f4⟩ := ob f2
      refine ⟨ggo i Hi _ gi hlt, fun Hn => ∃ u acc va rest, Btw X.kw B γ H0 σ s1 H1 D (.lst []) Hn u ∧ Hn D = some (.lst va) ∧ RpL X.kw Hn (Bp (Bh B σ s1.sl) D) va acc ∧ lc2Go g mt mi1 vs1 g1 mt1 me (blkSl s1.sl vs) (ds.drop (i + 1)) u = some (rest, uu) ∧ acc ++ rest = rr, fun Hn hN => ?_, fun x H' hy => ?_⟩
      · obtain ⟨u, acc, va, rest, h1, h2, h3, h4, h5⟩ := hN
        exact ⟨ds.length - (i + 1), by omega, u, acc, va, rest, rfl, by omega, h1, h2, h3, h4, h5⟩
      · obtain ⟨sm, rp⟩ := gyld i Hi _ x H' _ gi (List.getElem?_eq_getElem hlt) hy
        have r0 := (bt.rel a1.rel hD vs).same sm
        refine ⟨Bp (Bh B σ s1.sl) D, γ, H0, _, _, s2, r0, rp.sub (fun a z => bh_blk z), f1, fun σ2 a2 c2 l2 => ⟨?_, ?_⟩⟩
        · rw [wipe_eq (vs := vs) l2 fun j hj => c2 j fun z => hj (hts j z)]
          exact wipe_eq (wipe_length _ _) fun j hj => wipe_get hj
        · refine ⟨_, γ, H0, s2, tb, s3, a2.rel, f3, fun H3 a3 => ?_⟩
          have a4 := a2.trans a3
          cases tb with
          | true =>
            refine iteT ?_
            obtain ⟨⟨ds1, s4⟩, f5, f6⟩ := ob f4
            obtain ⟨⟨y, u1⟩, f7, f8⟩ := ob f6
            obtain ⟨⟨z, u2⟩, f9, f10⟩ := om f8
            obtain ⟨rfl, rfl⟩ := Prod.mk.inj f10
            refine ⟨_, γ, H0, s3, ds1, s4, a3.rel, f5, fun J1 H4 a5 it1 => ?_⟩
            obtain ⟨G1, p0, pst, pgo, pstop, pyld⟩ := it1.ex
            have a6 := a4.trans a5
            have hD4 : H4 D = some (.lst va) := a6.mv.pv D _ (.inr rfl) (nxl gD) (sm _ _ hDi)
            have racc4 : RpL X.kw H4 (Bh (Bp (Bh B σ s1.sl) D) σ2 s4.sl) va acc := RpL.by_frm (fun v d r => a6.mv.frm v d ((r.same sm).sub fun a z => bh_blk z)) racc
            have st4 : Inn X.kw (Bh (Bp (Bh B σ s1.sl) D) σ2 s4.sl) γ H0 H4 D H4 s4.ur := ⟨fun _ _ h => h, a5.rel.ur, fun _ _ _ _ _ h => h, fun _ h => h, a5.rel.kx⟩
            refine ⟨fun j k' Hj => ∃ u acc1 va1 rest1, k' = ds1.length - j ∧ j ≤ ds1.length ∧ Inn X.kw (Bh (Bp (Bh B σ s1.sl) D) σ2 s4.sl) γ H0 H4 D Hj u ∧ Hj D = some (.lst va1) ∧ RpL X.kw Hj (Bh (Bp (Bh B σ s1.sl) D) σ2 s4.sl) va1 (acc ++ acc1) ∧ lcGo g1 mt1 me (blkSl s4.sl vs1) (ds1.drop j) u = some (rest1, u1) ∧ acc1 ++ rest1 = y,
              ⟨ds1.length, s4.ur, [], va, y, by omega, by omega, st4, hD4, by rw [List.append_nil]; exact racc4, f7, rfl⟩, ?_⟩
            rintro j k' Hj ⟨u', acc1, va1, rest1, rfl, hj, inn, hDj, racc1, el1, etot1⟩
            have gj : G1 Hj (Bh (Bp (Bh B σ s1.sl) D) σ2 s4.sl) := pst _ _ _ _ inn.frm p0
            by_cases hlt1 : j < ds1.length
            · right
              rw [List.drop_eq_getElem_cons hlt1] at el1
              obtain ⟨s5, j1, j2⟩ := ob (show (g1 _ ⟨_, u'⟩).bind _ = some (rest1, u1) from el1)
              obtain ⟨⟨tb1, s6⟩, j3, j4⟩ := ob j2
              refine ⟨pgo j Hj _ gj hlt1, fun Hn => ∃ u acc1 va1 rest1, Inn X.kw (Bh (Bp (Bh B σ s1.sl) D) σ2 s4.sl) γ H0 H4 D Hn u ∧ Hn D = some (.lst va1) ∧ RpL X.kw Hn (Bh (Bp (Bh B σ s1.sl) D) σ2 s4.sl) va1 (acc ++ acc1) ∧ lcGo g1 mt1 me (blkSl s4.sl vs1) (ds1.drop (j + 1)) u = some (rest1, u1) ∧ acc1 ++ rest1 = y, fun Hn hN => ?_, fun x1 Hx hy1 => ?_⟩
              · obtain ⟨u, acc1, va1, rest1, h1, h2, h3, h4, h5⟩ := hN
                exact ⟨ds1.length - (j + 1), by omega, u, acc1, va1, rest1, rfl, by omega, h1, h2, h3, h4, h5⟩
              · obtain ⟨sm1, rp1⟩ := pyld j Hj _ x1 Hx _ gj (List.getElem?_eq_getElem hlt1) hy1
                have r1 := (inn.rel a5.rel vs1).same sm1
                refine ⟨Bh (Bp (Bh B σ s1.sl) D) σ2 s4.sl, γ, H0, _, _, s5, r1, rp1.sub (fun a z => bh_blk z), j1, fun σ3 b2 c3 l3 => ⟨?_, ?_⟩⟩
                · rw [wipe_eq (vs := vs1) l3 fun j hj => c3 j fun z => hj (hts1 j z)]
                  exact wipe_eq (wipe_length _ _) fun j hj => wipe_get hj
                · refine ⟨_, γ, H0, s5, tb1, s6, b2.rel, j3, fun H6 b3 => ?_⟩
                  have b4 := b2.trans b3
                  cases tb1 with
                  | true =>
                    refine iteT ?_
                    obtain ⟨⟨w, s7⟩, j5, j6⟩ := ob j4
                    obtain ⟨⟨r2, u3⟩, j7, j8⟩ := om j6
                    obtain ⟨rfl, rfl⟩ := Prod.mk.inj j8
                    refine ⟨_, γ, H0, s6, w, s7, b3.rel, j5, fun vw H7 b5 rw' => ?_⟩
                    have b6 := b4.trans b5
                    have hD7 : H7 D = some (.lst va1) := b6.mv.pv D _ (.inl (.inr rfl)) (nxl gD) (sm1 _ _ hDj)
                    have i7 := inn.after sm1 (fun a z => bh_blk z) b6
                    have racc7 : RpL X.kw H7 (Bh (Bp (Bh B σ s1.sl) D) σ2 s4.sl) va1 (acc ++ acc1) := RpL.by_frm (fun v d r => (b6.mv.frm v d ((r.same sm1).sub fun a z => bh_blk z)).sub fun a z => .inl z) racc1
                    obtain ⟨i8, fr8⟩ := i7.chg (o2 := .lst (va1 ++ [vw])) gD h0D (.inl (.inr rfl)) hD7 (.inl ⟨_, rfl⟩) me_lst
                    refine ⟨va1, hD7, ?_, s7.ur, acc1 ++ [w], va1 ++ [vw], r2, i8, upd_same, ?_, j7, by rw [← etot1]; simp⟩
                    · rw [racc7.len]
                      have h1 : (acc ++ (y ++ z)).length ≤ sizeLine := by rw [etot]; exact tot
                      rw [← etot1] at h1
                      simp only [List.length_append, List.length_cons] at h1 ⊢
                      omega
                    · rw [← List.append_assoc]
                      exact (RpL.by_frm fr8 racc7).append (.cons (fr8 _ _ (rw'.sub fun a z => .inl z)) .nil)
                  | false =>
                    refine iteF ?_
                    exact ⟨_, acc1, va1, rest1, inn.after sm1 (fun a z => bh_blk z) b4, b4.mv.pv D _ (.inl (.inr rfl)) (nxl gD) (sm1 _ _ hDj), RpL.by_frm (fun v d r => (b4.mv.frm v d ((r.same sm1).sub fun a z => bh_blk z)).sub fun a z => .inl z) racc1, j4, etot1⟩
            · left
              have ej0 : j = ds1.length := by omega
              subst ej0
              refine ⟨pstop _ Hj _ gj (Nat.le_refl _), ?_⟩
              rw [List.drop_length] at el1
              obtain ⟨h1, h2⟩ := Prod.mk.inj (Option.some.inj el1)
              subst h1
              subst h2
              rw [List.append_nil] at etot1
              subst etot1
              refine ⟨u', acc ++ acc1, va1, z, ⟨fun v d r => ?_, inn.ur, fun b o hb hg hh => ?_, fun b hb => ?_, inn.ent⟩, hDj, racc1.sub fun a z => .inl z, f9, by rw [List.append_assoc]; exact etot⟩
              · exact (inn.frm v d (a6.mv.frm v d (((bt.frm v d r).same sm).sub fun a z => bh_blk z))).sub fun a z => .inl z
              · exact inn.pv b o (.inl (.inl hb)) hg (fun z => by rw [z, hD] at hh; cases hh) (a6.mv.pv b o (.inl hb) hg (sm _ _ (bt.pv b o hb hg hh)))
              · exact inn.dom b (a6.mv.dom b (same_dom sm (bt.dom b hb)))
          | false =>
            refine iteF ?_
            exact ⟨_, acc, va, rest, bt.after sm (fun a z => bh_blk z) a4, a4.mv.pv D _ (.inr rfl) (nxl gD) (sm _ _ hDi), RpL.by_frm (fun v d r => (a4.mv.frm v d ((r.same sm).sub fun a z => bh_blk z)).sub fun a z => .inl z) racc, f4, etot⟩
    · left
      have ei0 : i = ds.length := by omega
      subst ei0
      refine ⟨gstop _ Hi _ gi (Nat.le_refl _), ?_⟩
      rw [List.drop_length] at el
      obtain ⟨h1, h2⟩ := Prod.mk.inj (Option.some.inj el)
      subst h1
      subst h2
      rw [List.append_nil] at etot
      subst etot
      obtain ⟨r9, m9⟩ := bt.fin a1.rel hD
      exact k D va Hi r9 (a1.mv.trans m9) (a1.mv.back hD) hDi (racc.sub fun _ => bh_bp)
  · cases e4
theorem dl_lc2 {scope : Scope} {own : List (Str × Nat)} {mi mi1 : MA} {ts ts1 : List Nat} {g g1 : MG} {mt mt1 : MT} {me : MD} (fz vs1 : List Nat) (hN : X.N.Nodup) (hi : PI X tg iter (tDI X.kw mi)) (ok : BlkOk X.N X.env.scope scope own)
    (hg : BkP X scope fun Y => PG Y tg (tDG X.kw ts g)) (ht : BkP X scope fun Y => PTs Y ifs (tDT X.kw mt)) (hi1 : BkP X scope fun Y => PI Y tg1 iter1 (tDI X.kw mi1)) (hg1 : BkP X scope fun Y => PG Y tg1 (tDG X.kw ts1 g1)) (ht1 : BkP X scope fun Y => PTs Y ifs1 (tDT X.kw mt1)) (he : BkP X scope fun Y => PE Y elt (tD X.kw me))
    (hv : ∀ i ∈ vs1, i ∈ own.map (·.2) := by decide) (hts : ∀ i ∈ ts, i ∈ own.map (·.2) := by decide) (hts1 : ∀ i ∈ ts1, i ∈ vs1 := by decide) (hc : X.calm = true := by rfl) (hs : ∀ x, foldedSetIterable iter X.env x = pure x := by intro _; rfl) (hs1 : ∀ env x, foldedSetIterable iter1 env x = pure x := by intro _ _; rfl) :
    PE X (.ListComp elt [⟨tg, iter, ifs, 0⟩, ⟨tg1, iter1, ifs1, 0⟩] scope pos) (tDL X.kw (mLc2 mi fz (own.map (·.2)) g mt mi1 vs1 g1 mt1 me)) := PE.imp (pe_lc2 hc hN (PI.lk hi) ok hv hg ht hi1 hg1 ht1 he hs hs1) fun σ H Q q => lc2_go hts hts1 q
end
end DL
set_option Elab.async false
set_option linter.all false
set_option maxRecDepth 100000
set_option maxHeartbeats 4000000
namespace DL
open PySem PySem.Spec PyProof.Rows L2
def ItA (At : Hp → List V → Prop) : It :=
  ⟨fun i H => ∃ (xs : List V) (x : V), At H xs ∧ xs[i]? = some x, fun i H v H' => ∃ T x, v = .ref T ∧ H T = none ∧ H' = upd H T (.tup [.int (i : Nat), x]) ∧ ∀ xs, At H xs → xs[i]? = some x, fun i H => ∃ xs : List V, At H xs ∧ xs.length ≤ i⟩
structure DrA (X : Cx) (H : Hp) (s : Shared) (it : Addr) (tn0 : Nat → Heap → Prop) (xs : List V) : Prop where
  ex : ∃ (fp : List Addr) (Pv : Nat → Value → Prop) (St : Nat → Heap → Prop), (∀ A' : Around, A'.handled = none → Draws X.prog X.w A' it fp xs.length Pv St) ∧ (∀ i v, Pv i v → ∃ x, xs[i]? = some x ∧ RelV x v) ∧ (∀ i, tn0 i s.heap → St i s.heap) ∧ (∀ i h, St i h → tn0 i h) ∧ ∀ e c old, IsEnum s.heap e it c old → e ∉ fp
theorem turn_enumA {P : Program} {w : World} {K : PySem.W.Frag} {elts : List Expr} {kk : Nat} {tpos : PySem.Pos} {At : Hp → List V → Prop} {tn0 : Nat → Heap → Prop} (e it : Addr) (N : Nat) (hN : ∀ H xs, At H xs → xs.length = N) (hobj : ∀ i h, tn0 i h → ∃ o, h.get? it = some o ∧ ∀ v, o.data ≠ .cell v)
    (hkeep : ∀ i h h', tn0 i h → (∀ o, h.get? it = some o → h'.get? it = some o) → tn0 i h')
    (dr : ∀ (X : Cx), X.prog = P → X.w = w → X.K = K → ∀ (pins : List (Addr × Obj)) (s : Shared) (σ : L2.St) (H : Hp) (xs : List V) (i : Nat), Inv X pins σ H s → At H xs → tn0 i s.heap → DrA X H s it tn0 xs)
    (inj : ∀ (X : Cx), X.prog = P → X.w = w → X.K = K → ∀ (pins : List (Addr × Obj)) (s : Shared) (σ : L2.St) (H : Hp) (xs ys : List V), Inv X pins σ H s → At H xs → At H ys → xs = ys) :
    Turn P w K (.Tuple elts kk tpos) (ItA At) [e, it] e (fun i h => (∃ old, IsEnum h e it ((i : Nat) : Int) old) ∧ tn0 i h ∧ e ≠ it ∧ i ≤ N) where
  mem := List.mem_cons_self
  obj := fun i h ⟨⟨old, he⟩, h0, _⟩ b hb => by
    rcases List.mem_cons.mp hb with rfl | hb
    · exact ⟨_, he, fun v q => nomatch q⟩
    · rw [List.mem_singleton] at hb
      rw [hb]
      exact hobj i h h0
  keep := fun i h h' ⟨⟨old, he⟩, hi, hne, hl⟩ k => ⟨⟨old, k e List.mem_cons_self _ he⟩, hkeep i h h' hi fun o q => k it (List.mem_cons_of_mem _ List.mem_cons_self) o q, hne, hl⟩
  item := by
    intro X hP hw hK hc i pins s σ H E I hf st hg
    obtain ⟨⟨old, he⟩, hit, hne, hlN⟩ := st
    obtain ⟨xs, x, hq, hx⟩ := hg
    obtain ⟨fp, Pv, St, hD, hPv, hS1, hS2, hef⟩ := (dr X hP hw hK pins s σ H xs i I hq hit).ex
    have hi2 := inj X hP hw hK pins s σ H
    subst hP hw hK
    have hel : e < s.heap.objs.size := Heap.lt_size he
    have hil : it < s.heap.objs.size := by
      obtain ⟨_, q, _⟩ := hobj i _ hit
      exact Heap.lt_size q
    refine wpAny_pyNext_enum_itemD (hD _ (I.ok.hd hc)) he (hS1 i hit) (List.getElem?_eq_some_iff.mp hx).1 hne (hef _ _ _ he) fun u h' tk hu ho hst' hT hsz hk => ?_
    obtain ⟨x', hx', ru⟩ := hPv i u hu
    rw [hx] at hx'
    cases hx'
    refine ⟨_, rfl, wpAny_letOwnedTupleGo_enum (s := { s with heap := h', toks := tk + 1 }) ho fun h'' he' sb => ?_⟩
    have hT2 : h''.get? s.heap.objs.size = some { cls := .type "tuple", data := .seq #[.int i tk, u] } := (sb.2 _ (Nat.ne_of_gt hel)).trans hT
    have new : ObjOk X.prog X.w (upd H s.heap.objs.size (.tup [.int (i : Nat), x])) h'' s.heap.objs.size (.tup [.int (i : Nat), x]) := ⟨by show 2 ≤ sizeLine; decide, [.int i tk, u], .cons ⟨_, rfl⟩ (.cons ru .nil), ⟨_, hT2, rfl, _, rfl⟩⟩
    have two : ∀ b, b ∉ [e, it] → b ≠ e ∧ b ≠ it := fun b hb => ⟨fun z => hb (by rw [z]; exact List.mem_cons_self), fun z => hb (by rw [z]; exact List.mem_cons_of_mem _ List.mem_cons_self)⟩
    have I1 : Inv X pins σ (upd H s.heap.objs.size (.tup [.int (i : Nat), x])) { s with heap := h'', toks := tk + 1 } :=
      I.turnedNew (ch := [e, it]) (fun b ob hb q => (sb.2 b (two b hb).1).trans (hk b ob (two b hb).1 (two b hb).2 q)) hf (Nat.le_refl _) new
    refine ⟨.ref s.heap.objs.size, _, I1, rfl, ⟨_, x, rfl, I.hok.fresh (Nat.le_refl _), rfl, fun ys hy => by rw [hi2 ys xs I hy hq]; exact hx⟩, ⟨⟨u, ?_⟩, hkeep _ _ _ (hS2 _ _ hst') fun o q => (sb.2 it (Ne.symm hne)).trans q, hne, by have := (List.getElem?_eq_some_iff.mp hx).1; rw [hN H xs hq] at this; exact this⟩, fun b hb => ?_⟩
    · rw [show ((i + 1 : Nat) : Int) = (i : Int) + 1 by omega]
      exact he'
    · have hb' : b < s.heap.objs.size := by
        rcases List.mem_cons.mp hb with rfl | hb
        · exact hel
        · rw [List.mem_singleton] at hb; rw [hb]; exact hil
      rw [upd_ne (Nat.ne_of_lt hb')]
      exact (hf b hb).1
  done := by
    intro X hP hw hK hc i pins s σ H E I hf st hg
    obtain ⟨⟨old, he⟩, hit, hne, hlN⟩ := st
    obtain ⟨xs, hq, hx⟩ := hg
    obtain ⟨fp, Pv, St, hD, hPv, hS1, hS2, hef⟩ := (dr X hP hw hK pins s σ H xs i I hq hit).ex
    subst hP hw hK
    obtain ⟨f0, f1, f2, f3, f4, f5⟩ := hf it (List.mem_cons_of_mem _ List.mem_cons_self)
    have ei : i = xs.length := Nat.le_antisymm (by rw [hN H xs hq]; exact hlN) hx
    subst ei
    exact wpAny_pyNext_enum_endD (hD _ (I.ok.hd hc)) he (hS1 _ hit) fun h' eb => ⟨rfl, I.turned (t' := s.toks) (fun b o hb q => eb b o hb q) f0 f1 f3 f4 f5⟩
  self := fun A i s Q E ⟨⟨_, he⟩, _⟩ h => wpAny_pyIter_enum he h
theorem meets_enumT (l : Addr) (items : Array Value) :
    Meets (Builtin.«enumerate.__new__» ⟨[.type "enumerate", .ref l], []⟩) (fun _ R s => s.heap.IsTuple l items ∧
      R (.ok (.ret (.ref (s.heap.push { cls := .type "tuple_iterator", data := .fields #[.ref l, .int 0 0] }).objs.size)))
        { s with heap := (s.heap.push { cls := .type "tuple_iterator", data := .fields #[.ref l, .int 0 0] }).push { cls := .type "enumerate", data := .fields #[.none, .bool false, .ref s.heap.objs.size, rawInt 0, .none, .none] } }) :=
  .of_wp fun prog w A R s h => by
    obtain ⟨hp, g, d, tk, os⟩ := s
    obtain ⟨hT, h⟩ := h
    have hsub := sub_enumerate
    wp_walk
    refine wpAny_stack_any fun st => wpAny_pure ?_
    split
    · rename_i c _ _ _ _ _
      cases (c == Value.type "enumerate")
      · wp_walk using wpAny_pyIter_tuple hT
        exact ⟨_, rfl, h⟩
      · wp_walk using wpAny_pyIter_tuple hT
        exact ⟨_, rfl, h⟩
    · wp_walk using wpAny_pyIter_tuple hT
      exact ⟨_, rfl, h⟩
section
variable {prog : Program} {w : World} {A : Around} {E : Value → Shared → Prop} {s : Shared}
theorem call_enumT {l : Addr} {items : Array Value} {Q : Value → Shared → Prop} (hL : s.heap.IsTuple l items)
    (h : ∀ h', IsEnum h' (s.heap.objs.size + 1) s.heap.objs.size 0 .none → h'.IsTupleIter s.heap.objs.size l 0 → (∀ b o, s.heap.get? b = some o → h'.get? b = some o) → Q (.ref (s.heap.objs.size + 1)) { s with heap := h' }) :
    wpAny (model prog w) A (call (.type "enumerate") [.ref l]) Q E s := by
  refine callType_new F.called_enumerate (by decide) (F.typeCall_enumerate_1 _) (F.newCall_enumerate_1 _) (fun obj => F.args_object_init_2 obj _) F.entry_enumerate_new (meets_enumT l items) ⟨hL, ?_⟩
  have hz : (s.heap.push { cls := .type "tuple_iterator", data := .fields #[.ref l, .int 0 0] }).objs.size = s.heap.objs.size + 1 := Heap.size_push ..
  show _ ∧ _
  rw [hz]
  have he : IsEnum ((s.heap.push { cls := .type "tuple_iterator", data := .fields #[.ref l, .int 0 0] }).push { cls := .type "enumerate", data := .fields #[.none, .bool false, .ref s.heap.objs.size, rawInt 0, .none, .none] }) (s.heap.objs.size + 1) s.heap.objs.size 0 .none := by
    have q := Heap.get?_push_size (s.heap.push { cls := .type "tuple_iterator", data := .fields #[.ref l, .int 0 0] }) (o := { cls := .type "enumerate", data := .fields #[.none, .bool false, .ref s.heap.objs.size, rawInt 0, .none, .none] }) rfl
    rw [hz] at q
    exact q
  exact ⟨⟨_, he, rfl⟩, h _ he ⟨_, Heap.get?_push_of_some _ (Heap.get?_push_size _ rfl), rfl, rfl⟩ fun b o x => Heap.get?_push_of_some _ (Heap.get?_push_of_some _ x)⟩
end
section
variable {X : Cx} {e : Expr} {ta : TA} {p pos tpos : PySem.Pos} {elts : List Expr} {kk : Nat}
def AtT (K : PySem.W.Frag) (a : Addr) (N : Nat) (H : Hp) (xs : List V) : Prop := SqT K H a xs ∧ xs.length = N
def AtS (x : Str) (_ : Hp) (xs : List V) : Prop := xs = x.cps.toList.map fun c => V.str ⟨#[c]⟩
def iEnumF (K : PySem.W.Frag) (ta : TA) : TI := fun σ H R => ta σ H fun vs H1 => (∃ a xs, vs = [.ref a] ∧ SqT K H1 a xs ∧ R (ItA (AtT K a xs.length)) H1) ∨ ∃ x, vs = [.str x] ∧ R (ItA (AtS x)) H1
theorem pi_enumF (hg : Gl X "enumerate") (hm : X.mg "enumerate" = none) (ha : PA X [e] ta) (hs : starEach [e] X.env = [(false, eval e X.env)] := by rfl) : PI X (.Tuple elts kk tpos) (.Call (.Name "enumerate" p) [e] [] pos) (iEnumF X.K ta) := by
  refine ⟨fun pins s σ H R I h => ?_⟩
  refine Call_ (ld_blt I hg hm boot_enumerate (PyProof.Rows.callWith_type1 (thn (ha.run pos pins s σ H _ I h) fun us s1 ⟨vs, H1, I1, r1, q1⟩ => ?_) hs rfl))
  have fresh : ∀ (h' : Heap) (b : Addr), b ∈ [s1.heap.objs.size + 1, s1.heap.objs.size] → FpOk X pins H1 b := fun h' b hb => by
    have hle : s1.heap.objs.size ≤ b := by
      rcases List.mem_cons.mp hb with rfl | hb
      · exact Nat.le_succ _
      · rw [List.mem_singleton] at hb; exact Nat.le_of_eq hb.symm
    exact I1.fpOk hle (I1.hok.fresh hle)
  rcases q1 with ⟨a, xs, ex, hq, q⟩ | ⟨x, ex, q⟩
  · subst ex
    cases r1 with
    | cons r rr =>
      cases rr
      cases r
      obtain ⟨its, rv, p', hz⟩ := I1.tuple hq
      refine call_enumT p' fun h' he hit hk => wpAny_pyIter_enum he ?_
      have I2 : Inv X pins σ H1 { s1 with heap := h' } := I1.kept (t' := s1.toks) hk
      refine ⟨s1.heap.objs.size + 1, [s1.heap.objs.size + 1, s1.heap.objs.size], _, _, H1, rfl, I2, turn_enumA (tn0 := fun i h => h.IsTupleIter s1.heap.objs.size a i) (At := AtT X.K a xs.length) (s1.heap.objs.size + 1) s1.heap.objs.size xs.length (fun H xs h => h.2) (fun i h ⟨o, ho, _, hd⟩ => ⟨o, ho, fun v q => by rw [hd] at q; cases q⟩) (fun i h h' ⟨o, ho, r⟩ k => ⟨o, k o ho, r⟩) (fun Y hP hw hK pins s σ H ys i I hy hti => ?_) (fun Y hP hw hK pins s σ H ys zs I hy hz => ?_), ⟨⟨.none, he⟩, hit, Nat.succ_ne_self _, Nat.zero_le _⟩, fresh h', q⟩
      · unfold AtT at hy
        rw [← hK] at hy
        obtain ⟨its', rv', p'', hz'⟩ := I.tuple hy.1
        have hne : a ≠ s1.heap.objs.size := fun z => by
          obtain ⟨o1, g1, c1, _⟩ := p''
          obtain ⟨o2, g2, c2, _⟩ := hti
          rw [z, g2] at g1
          cases g1
          rw [c1] at c2
          exact absurd c2 (by decide)
        have hl : its'.toArray.size = ys.length := by rw [List.size_toArray, rv'.length]
        refine ⟨[s1.heap.objs.size, a], _, _, fun A' hh => hl ▸ Draws.tuple hh s1.heap.objs.size a hne its'.toArray, fun i v hv => ?_, fun i hi => ⟨hi, p''⟩, fun i h hi => hi.1, fun e c old hE hm => ?_⟩
        · have hv' : its'[i]? = some v := by simpa using hv
          have hi : i < ys.length := by
            have := (List.getElem?_eq_some_iff.mp hv').1
            rw [rv'.length] 
            exact this
          obtain ⟨u, q1, q2⟩ := rv'.get (List.getElem?_eq_getElem hi)
          rw [hv'] at q1
          cases q1
          exact ⟨_, List.getElem?_eq_getElem hi, q2⟩
        · have hE' : s.heap.get? e = some _ := hE
          rcases List.mem_cons.mp hm with rfl | hm
          · obtain ⟨o2, g2, c2, _⟩ := hti
            rw [g2] at hE'
            cases hE'
            exact absurd (show Value.type "enumerate" = Value.type "tuple_iterator" from c2) (by decide)
          · rw [List.mem_singleton] at hm
            subst hm
            obtain ⟨o1, g1, c1, _⟩ := p''
            rw [g1] at hE'
            cases hE'
            exact absurd (show Value.type "enumerate" = Value.type "tuple" from c1) (by decide)
      · unfold AtT at hy hz
        rw [← hK] at hy hz
        exact I.tuple_inj hy.1 hz.1
  · subst ex
    obtain ⟨u, rfl, ru⟩ := vals1 r1
    obtain ⟨t, rfl⟩ := ru
    refine call_enumerate_str fun h' he hit hsz hk => wpAny_pyIter_enum he ?_
    have I2 : Inv X pins σ H1 { s1 with heap := h' } := I1.kept (t' := s1.toks) hk
    refine ⟨s1.heap.objs.size + 1, [s1.heap.objs.size + 1, s1.heap.objs.size], _, _, H1, rfl, I2, turn_enumA (tn0 := fun i h => h.IsStrIter s1.heap.objs.size (strIterType x) x t i) (At := AtS x) (s1.heap.objs.size + 1) s1.heap.objs.size x.cps.size (fun H xs h => by rw [show xs = _ from h, List.length_map, Array.length_toList]) (fun i h ⟨o, ho, _, hd⟩ => ⟨o, ho, fun v q => by rw [hd] at q; cases q⟩) (fun i h h' ⟨o, ho, r⟩ k => ⟨o, k o ho, r⟩) (fun Y hP hw hK pins s σ H ys i I hy hti => ?_) (fun Y hP hw hK pins s σ H ys zs I hy hz => ?_), ⟨⟨.none, he⟩, hit, Nat.succ_ne_self _, Nat.zero_le _⟩, fresh h', q⟩
    · have hy' : ys = _ := hy
      have hl : x.cps.size = ys.length := by rw [hy', List.length_map, Array.length_toList]
      refine ⟨[s1.heap.objs.size], _, _, fun A' hh => hl ▸ Draws.text hh s1.heap.objs.size x t, fun i v hv => ?_, fun i hi => hi, fun i h hi => hi, fun e' c old hE hm => ?_⟩
      · obtain ⟨c, u, hc, hv⟩ := hv
        subst hv
        refine ⟨.str ⟨#[c]⟩, ?_, ⟨u, rfl⟩⟩
        rw [hy', List.getElem?_map, Array.getElem?_toList, hc]
        rfl
      · have hE' : s.heap.get? e' = some _ := hE
        rw [List.mem_singleton] at hm
        subst hm
        obtain ⟨o2, g2, c2, _⟩ := hti
        rw [g2] at hE'
        cases hE'
        have c2' : strIterType x = "enumerate" := by
          have c3 : Value.type "enumerate" = Value.type (strIterType x) := c2
          injection c3 with c4
          exact c4.symm
        unfold strIterType at c2'
        split at c2' <;> exact absurd c2' (by decide)
    · exact Eq.trans hy (Eq.symm hz)
end
end DL
set_option Elab.async false
set_option linter.all false
set_option maxRecDepth 100000
set_option maxHeartbeats 4000000
namespace DL
open PySem PySem.Spec PyProof.Rows L2
open PySem.W (dataLt alike alikeAll)
section
variable {X : Cx} {e a b c : Expr} {es : List Expr} {p pos tpos : PySem.Pos}
theorem it_enT {K : KW} {H : Hp} {C : Bad} {a : Addr} {xs : List Dt} {N : Nat} (h1 : Rp K H C (.ref a) (.tuple xs)) (hN : N = xs.length) : ItOk K (ItA (AtT K.F a N)) H C (enumD 0 xs) := by
  have op : ∀ {H C}, Rp K H C (.ref a) (.tuple xs) → ∃ vs, AtT K.F a N H vs ∧ RpL K H C vs xs := fun h => by
    cases h with
    | tup h1 h3 => exact ⟨_, ⟨h1.sq, by rw [h3.len, hN]⟩, h3⟩
  refine ⟨fun H C => Rp K H C (.ref a) (.tuple xs), h1, fun H C H' C' f g => f _ _ g, fun i H C g hi => ?_, fun i H C g hi => ?_, fun i H C x H' d g e y => ?_⟩
  · obtain ⟨vs, q1, q2⟩ := op g
    rw [enumD_len] at hi
    obtain ⟨v, e1, _⟩ := q2.get (List.getElem?_eq_getElem hi)
    exact ⟨vs, v, q1, e1⟩
  · obtain ⟨vs, q1, q2⟩ := op g
    rw [enumD_len] at hi
    exact ⟨vs, q1, by rw [q2.len]; exact hi⟩
  · obtain ⟨vs, q1, q2⟩ := op g
    obtain ⟨T, z, rfl, hT, rfl, hz⟩ := y
    have hz' := hz vs q1
    obtain ⟨dz, e1, e2⟩ := q2.getV hz'
    obtain ⟨dz', e3, rfl⟩ := enumD_get e
    rw [e1] at e3
    cases e3
    refine ⟨same_new hT, .tup (.inl upd_same) (.cons ?_ (.cons (e2.same (same_new hT)) .nil))⟩
    rw [Nat.zero_add]
    exact .int _
theorem it_enS {K : KW} {H : Hp} {C : Bad} {x : Str} : ItOk K (ItA (AtS x)) H C (enumD 0 (strD x)) := by
  have hl : (strD x).length = x.cps.size := by unfold strD; simp
  refine ⟨fun _ _ => True, trivial, fun _ _ _ _ _ _ => trivial, fun i H C _ hi => ?_, fun i H C _ hi => ?_, fun i H C v H' d _ e y => ?_⟩
  · rw [enumD_len, hl] at hi
    exact ⟨_, _, rfl, List.getElem?_eq_getElem (by rw [List.length_map, Array.length_toList]; exact hi)⟩
  · rw [enumD_len, hl] at hi
    exact ⟨_, rfl, by rw [List.length_map, Array.length_toList]; exact hi⟩
  · obtain ⟨T, z, rfl, hT, rfl, hz⟩ := y
    have hz' := hz _ rfl
    rw [List.getElem?_map] at hz'
    obtain ⟨cc, e1, e2⟩ := om hz'
    subst e2
    obtain ⟨dz', e3, rfl⟩ := enumD_get e
    unfold strD at e3
    rw [List.getElem?_map, e1] at e3
    cases e3
    refine ⟨same_new hT, .tup (.inl upd_same) (.cons ?_ (.cons (.str _) .nil))⟩
    rw [Nat.zero_add]
    exact .int _
def iEnumA (m : MA) : MA := fun s => (m s).bind fun q => match q.1 with
  | [.list xs] => some (enumD 0 xs, q.2)
  | [.tuple xs] => some (enumD 0 xs, q.2)
  | [.str x] => some (enumD 0 (strD x), q.2)
  | _ => none
theorem di_enumA {m : MA} {elts : List Expr} {kk : Nat} (hm : X.mg "enumerate" = none) (ha : PA X [a] (tDA X.kw m)) (hg : Gl X "enumerate" := by rfl) (hs : starEach [a] X.env = [(false, eval a X.env)] := by rfl) :
    PI X (.Tuple elts kk tpos) (.Call (.Name "enumerate" p) [a] [] pos) (tDI X.kw (iEnumA m)) := PI.imp (DL.PI.or (pi_enum hg hm ha hs) (pi_enumF hg hm ha hs)) fun σ H R q => by
  obtain ⟨B, γ, H0, s, ds, s', rl, e, k⟩ := q
  obtain ⟨⟨x, s1⟩, e1, e2⟩ := ob e
  dsimp only at e2
  split at e2
  · obtain ⟨rfl, rfl⟩ := Prod.mk.inj (Option.some.inj e2)
    refine .inl ⟨B, γ, H0, s, _, s1, rl, e1, fun vs H1 a1 r1 => ?_⟩
    obtain ⟨v, rfl, h1⟩ := one_arg r1
    have h1' := h1
    cases h1 with
    | lst h1 _ h3 => exact ⟨_, _, rfl, .inl h1, k _ H1 a1 (it_enum h1')⟩
  · obtain ⟨rfl, rfl⟩ := Prod.mk.inj (Option.some.inj e2)
    refine .inr ⟨B, γ, H0, s, _, s1, rl, e1, fun vs H1 a1 r1 => ?_⟩
    obtain ⟨v, rfl, h1⟩ := one_arg r1
    have h1' := h1
    cases h1 with
    | tup h1 h3 => exact .inl ⟨_, _, rfl, h1.sq, k _ H1 a1 (it_enT h1' h3.len)⟩
  · obtain ⟨rfl, rfl⟩ := Prod.mk.inj (Option.some.inj e2)
    refine .inr ⟨B, γ, H0, s, _, s1, rl, e1, fun vs H1 a1 r1 => ?_⟩
    obtain ⟨v, rfl, h1⟩ := one_arg r1
    cases h1
    exact .inr ⟨_, rfl, k _ H1 a1 it_enS⟩
  · cases e2
theorem PG.or {t t' : TG} (h : PG X e t) (h' : PG X e t') : PG X e (fun v σ H Q => t v σ H Q ∨ t' v σ H Q) := ⟨fun pins s σ H v u Q I r q => q.elim (h.run pins s σ H v u Q I r) (h'.run pins s σ H v u Q I r)⟩
def gA (n : Nat) (m : MGs) : MG := fun d s => match d with
  | .tuple ds => if ds.length = n then m ds s else none
  | .list ds => if ds.length = n then m ds s else none
  | _ => none
theorem dg_any {k : Nat} {ts : List Nat} {m : MGs} {n : Nat} (hc : X.calm = true) (h : PGs X es (tDGs X.kw ts m)) (hn : (assignEach es X.env).length = n := by rfl) (hst : (assignEach es X.env).findIdx? (·.1) = none := by rfl) : PG X (.Tuple es k pos) (tDG X.kw ts (gA n m)) :=
  PG.imp (PG.or (dg_tup hc h hn hst) (dg_lst hc h hn hst)) fun v σ H Q q => by
    obtain ⟨B, γ, H0, s, d, s', rl, rp, e, k⟩ := q
    unfold gA at e
    split at e
    · exact .inl ⟨B, γ, H0, s, _, s', rl, rp, e, k⟩
    · exact .inr ⟨B, γ, H0, s, _, s', rl, rp, e, k⟩
    · cases e
end
end DL
set_option Elab.async false
set_option linter.all false
set_option maxRecDepth 100000
set_option maxHeartbeats 4000000
namespace DL
open PySem PySem.Spec PyProof.Rows L2
open PySem.W (dataLt alike alikeAll)
section
variable {X : Cx} {e a b c : Expr} {es : List Expr} {p pos tpos : PySem.Pos}
def rRepL : R2 := fun x y H Q => ∃ a xs k, x = .ref a ∧ y = .int k ∧ H a = some (.lst xs) ∧ 0 ≤ k ∧ k ≤ 1000 ∧ xs.length ≤ 1000 ∧ ∀ p, H p = none → Q (.ref p) (upd H p (.lst (List.replicate k.toNat xs).flatten))
theorem vals_rep {xs : List V} {us : List Value} (r : Vals xs us) : ∀ n, Vals (List.replicate n xs).flatten (List.replicate n us).flatten
  | 0 => .nil
  | n + 1 => by
    rw [List.replicate_succ, List.replicate_succ, List.flatten_cons, List.flatten_cons]
    exact r.append (vals_rep r n)
theorem op_repL : OpR X (binaryOp .Mult) rRepL := by
  intro pins s σ H x y v u Q I rx ry h
  obtain ⟨a, xs, k, rfl, rfl, hs, h0, h1, h2, q⟩ := h
  obtain rfl : v = Value.ref a := rx
  obtain ⟨t, rfl⟩ := ry
  obtain ⟨hz, its, n, rv, ho⟩ := I.hok a _ hs
  have hle : its.length = xs.length := rv.length.symm
  have hk : k.toNat ≤ 1000 := by omega
  have hm : its.toArray.size * k.toNat ≤ 1000 * 1000 := by rw [List.size_toArray, hle]; exact Nat.mul_le_mul h2 hk
  have flen : (List.replicate k.toNat xs).flatten.length ≤ sizeLine := by
    rw [PyProof.Rows.lm_len_rep_flat, sizeLine_eq]
    have : k.toNat * xs.length ≤ 1000 * 1000 := Nat.mul_le_mul hk h2
    omega
  refine wpAny_binaryOp_repeat_ref (T := "list") (U := "int") (by decide) ⟨_, ho, rfl⟩ (fun s' => typeIs_int s' k t) noFill_list_mul F.fills_int_mul F.slot_int_rmul repeat_list F.slot_int_index.lookup
    (call_meets F.slot_int_rmul (typeIs_int s k t) F.entry_int_rmul (F.args_int_rmul_2 _ _) (int___rmul___int_list k t a its.toArray n)
      ⟨ho, rfl, ⟨_, ho, rfl⟩, call_meets F.slot_list_mul ⟨_, ho, rfl⟩ F.entry_list_mul (F.args_list_mul_2 _ _)
        (AutoListH.list___mul___list_int_3 a its.toArray n k t (by simp [Builtin.List.listFitsIndex]; omega) (by omega) (by simp only [Builtin.List.listTooLong, decide_eq_true_eq]; rw [sizeLine_eq]; omega)) ⟨ho, ?_⟩⟩)
  have e : List.foldl (fun x1 x2 => x1 ++ x2) #[] (List.replicate (if its.toArray.isEmpty = true then 0 else k.toNat) its.toArray) = (List.replicate k.toNat its).flatten.toArray := by
    cases its with
    | nil =>
      simp
    | cons u us => exact size_rep (u :: us) k.toNat
  rw [e]
  exact ⟨.ref s.heap.objs.size, upd H s.heap.objs.size (.lst (List.replicate k.toNat xs).flatten), I.laid (t' := s.toks) (fun b o e => Heap.get?_push_of_some _ e) (Nat.le_refl _) ⟨flen, _, 0, vals_rep rv k.toNat, Heap.get?_push_size _ rfl⟩, rfl, q _ (I.hok.fresh (Nat.le_refl _))⟩
def repOk (ds : List Dt) (k : Int) : Bool := decide (0 ≤ k) && decide (k ≤ 1000) && decide (ds.length ≤ 1000)
def mRepL (m : MA) (mb : MD) : MA := fun s => (m s).bind fun q => (mb q.2).bind fun t => match t.1 with
  | .int k => if repOk q.1 k then some ((List.replicate k.toNat q.1).flatten, t.2) else none
  | _ => none
theorem rpl_rep {K : KW} {H : Hp} {B : Bad} {vs : List V} {ds : List Dt} (r : RpL K H B vs ds) : ∀ n, RpL K H B (List.replicate n vs).flatten (List.replicate n ds).flatten
  | 0 => .nil
  | n + 1 => by
    rw [List.replicate_succ, List.replicate_succ, List.flatten_cons, List.flatten_cons]
    exact r.append (rpl_rep r n)
theorem dl_rep {m : MA} {mb : MD} (ha : PE X a (tDL X.kw m)) (hb : PE X b (tD X.kw mb)) : PE X (.BinOp a .Mult b pos) (tDL X.kw (mRepL m mb)) := by
  refine dl_of (pe_op op_repL ha hb) fun σ H Q B γ H0 s ds s' rl e k => ?_
  obtain ⟨⟨x, s1⟩, e1, e2⟩ := ob e
  obtain ⟨⟨y, s2⟩, e3, e4⟩ := ob e2
  dsimp only at e4
  split at e4
  · rename_i n
    split at e4
    · rename_i hok
      unfold repOk at hok
      simp only [Bool.and_eq_true, decide_eq_true_eq] at hok
      obtain ⟨rfl, rfl⟩ := Prod.mk.inj (Option.some.inj e4)
      refine ⟨B, γ, H0, s, x, s1, rl, e1, fun p vs H1 r1 mv hp h1 h2 => ⟨Bp B p, γ, H0, s1, _, s2, r1, e3, fun w H2 a2 rw' => ?_⟩⟩
      cases rw' with
      | int _ =>
        have gp : γ ≠ some p := fun z => rl.bd p (rl.gB p z) hp
        have hp2 : H2 p = some (.lst vs) := a2.mv.pv p _ (.inr rfl) (nxl gp) h1
        have r2 := a2.mv.rpl h2
        refine ⟨p, vs, n, rfl, rfl, hp2, hok.1.1, hok.1.2, by rw [h2.len]; exact hok.2, fun q hq => ?_⟩
        have sb : ∀ a, Bh B σ s2.sl a → Bh (Bp B p) σ s2.sl a := fun a z => z.imp .inl id
        exact k q _ H2 ⟨a2.rel.unB (fun a z => .inl z) rl.gB, ⟨fun v d r => (a2.mv.frm v d (mv.frm v d r)).sub sb, fun b o hb hg eb => a2.mv.pv b o (.inl hb) hg (mv.pv b o hb hg eb), fun b hb => a2.mv.dom b (mv.dom b hb)⟩⟩ hq ((rpl_rep r2 n.toNat).sub sb)
    · cases e4
  · cases e4
end
end DL
set_option Elab.async false
set_option linter.all false
set_option maxRecDepth 100000
set_option maxHeartbeats 4000000
namespace DL
open PySem PySem.Spec PyProof.Rows L2
open PySem.W (dataLt alike alikeAll AllAlike)
theorem sortOk_sub {l m : List Dt} (p : ∀ x ∈ l, x ∈ m) (h : sortOk m = true) : sortOk l = true := by
  have lay : ∀ l : List Dt, layDs l = l.all layD := fun l => by
    induction l with
    | nil => rfl
    | cons x l ih => rw [layDs, ih, List.all_cons]
  unfold sortOk at h ⊢
  rw [lay] at h ⊢
  simp only [Bool.and_eq_true, Bool.or_eq_true, List.all_eq_true] at h ⊢
  obtain ⟨⟨⟨h1, h2⟩, h3⟩, h4⟩ := h
  exact ⟨⟨⟨fun x hx y hy => h1 x (p x hx) y (p y hy), h2.imp (fun h x hx => h x (p x hx)) fun h x hx => h x (p x hx)⟩, fun x hx => h3 x (p x hx)⟩, fun x hx => h4 x (p x hx)⟩
theorem keys_of : ∀ {ds : List Dt}, ds.all isAtm = true → ∃ ks : List Key, ds = ks.map kD
  | [], _ => ⟨[], rfl⟩
  | d :: ds, h => by
    rw [List.all_cons, Bool.and_eq_true] at h
    obtain ⟨k, rfl⟩ := atm_key h.1
    obtain ⟨ks, rfl⟩ := keys_of h.2
    exact ⟨k :: ks, rfl⟩
theorem RpL.keys {K : KW} {H : Hp} {B : Bad} : ∀ {ks : List Key} {vs : List V}, RpL K H B vs (ks.map kD) → vs = ks.map kV
  | [], _, .nil => rfl
  | k :: ks, _, .cons h r => by
    rw [RpL.keys r]
    cases k with
    | inl i => cases h; rfl
    | inr x => cases h; rfl
theorem RpL.of_keys {K : KW} {H : Hp} {B : Bad} : ∀ (ks : List Key), RpL K H B (ks.map kV) (ks.map kD)
  | [] => .nil
  | .inl i :: ks => .cons (.int i) (RpL.of_keys ks)
  | .inr x :: ks => .cons (.str x) (RpL.of_keys ks)
section
variable {X : Cx} {e a b c : Expr} {es : List Expr} {p pos tpos : PySem.Pos}
def setOk (ds : List Dt) : Bool := ds.all isAtm && sortOk ds && decide (ds.length < 4000)
def mSortSetK (m : MD) : MA := fun s => (m s).bind fun q => (lisD q.1).bind fun ds => if setOk ds then some (setD ds, q.2) else none
theorem dl_sortSetK {m : MD} {p1 p2 pos1 : PySem.Pos} (hu : X.A.units + 64 < cLine) (hm : X.mg "sorted" = none) (hm2 : X.mg "set" = none) (he : PE X e (tD X.kw m)) (hc : X.calm = true := by rfl) (hg : Gl X "sorted" := by rfl) (hg2 : Gl X "set" := by rfl) (hs : starEach [e] X.env = (false, eval e X.env) :: starEach [] X.env := by rfl)
    (hs2 : starEach [.Call (.Name "set" p2) [e] [] pos1] X.env = (false, eval (.Call (.Name "set" p2) [e] [] pos1) X.env) :: starEach [] X.env := by rfl) : PE X (.Call (.Name "sorted" p1) [.Call (.Name "set" p2) [e] [] pos1] [] pos) (tDL X.kw (mSortSetK m)) :=
  dl_of (pe_callB (cr_sortedV hc hu) hg hm (by decide +kernel) (pa_cons (pe_callTy (cr_setK hc) hg2 hm2 (by decide +kernel) (pa_cons he pa_nil hs) (by decide) (by decide) hs rfl) pa_nil hs2) (by decide) (by decide) hs2 rfl) fun σ H Q B γ H0 s ds s' rl e k => by
    obtain ⟨⟨x, s1⟩, e1, e2⟩ := ob e
    obtain ⟨xs, e3, e4⟩ := ob e2
    split at e4
    · rename_i hok
      unfold setOk at hok
      simp only [Bool.and_eq_true, decide_eq_true_eq] at hok
      obtain ⟨rfl, rfl⟩ := Prod.mk.inj (Option.some.inj e4)
      obtain ⟨ns, hns⟩ := keys_of hok.1.1
      subst hns
      refine ⟨B, γ, H0, s, x, s1, rl, e1, fun v H1 a1 r1 => ?_⟩
      have hl : ns.length < 4000 := by
        have := hok.2
        rw [List.length_map] at this
        exact this
      have go : ∀ l : Addr, v = .ref l → (SqL X.kw.F H1 l (ns.map kV) ∨ SqT X.kw.F H1 l (ns.map kV)) → rSetK X.kw X.prog X.w [v] H1 fun w H2 => rSortedV X.prog X.w [w] H2 Q := fun l ev hq => by
        subst ev
        refine ⟨l, ns, rfl, hq, hl, fun ks q hnd hks hq => ⟨q, ks, rfl, upd_same, ?_, fun ks' p2 hs' hp2 => ?_⟩⟩
        · refine sortOk_sub (fun y hy => ?_) hok.1.2
          obtain ⟨z, hz, rfl⟩ := List.mem_map.mp hy
          exact List.mem_map_of_mem ((hks z).mp hz)
        · have es : ks'.map kD = setD (ns.map kD) := by
            rw [hs']
            refine setD_sort (sortOk_al hok.1.2) ?_ fun z => ?_
            · exact List.pairwise_map.mpr (List.Pairwise.imp (fun h e => h (kD_inj e)) hnd)
            · constructor
              · intro hz
                obtain ⟨y, hy, rfl⟩ := List.mem_map.mp hz
                exact List.mem_map_of_mem ((hks y).mp hy)
              · intro hz
                obtain ⟨y, hy, rfl⟩ := List.mem_map.mp hz
                exact List.mem_map_of_mem ((hks y).mpr hy)
          exact k p2 _ _ (a1.same (same_new hq)) hp2 (by rw [← es]; exact RpL.of_keys ks')
      cases r1 with
      | lst h1 n h3 =>
        cases e3
        rw [h3.keys] at h1
        exact go _ rfl (.inl (.inl h1))
      | tup h1 h3 =>
        cases e3
        rw [h3.keys] at h1
        exact go _ rfl (.inr h1.sq)
      | _ => cases e3
    · cases e4
theorem cmp_two {P : Program} {w : World} {A : Around} {op : CmpOp} {x y : Str} {t u : Tok} {f : Str → Str → Bool} (h : ∀ (x y : Str) (t u : Tok) (s : Shared) (Q : Value → Shared → Prop) (E : Value → Shared → Prop), Q (.bool (f x y)) s → wpAny (model P w) A (richCompare op (.str x t) (.str y u)) Q E s) :
    CmpOf P w A op (fun i v => (#[Value.str x t, Value.str y u] : Array Value)[i]? = some v) (fun i j => f (if i = 0 then x else y) (if j = 0 then x else y)) := by
  have sh : ∀ (i : Nat) (v : Value), (#[Value.str x t, Value.str y u] : Array Value)[i]? = some v → ∃ t', v = .str (if i = 0 then x else y) t' := fun i v hv => by
    match i with
    | 0 => cases hv; exact ⟨t, rfl⟩
    | 1 => cases hv; exact ⟨u, rfl⟩
    | i + 2 => simp at hv
  intro i j vi vj s Q E hi hj hQ
  obtain ⟨t1, rfl⟩ := sh i vi hi
  obtain ⟨t2, rfl⟩ := sh j vj hj
  exact h _ _ _ _ _ _ _ hQ
def ltS (x y : Str) : Bool := decide (x.cps.toList < y.cps.toList)
theorem min_two_strs {P : Program} {w : World} {A : Around} {E : Value → Shared → Prop} {s : Shared} {x y : Str} {t u : Tok} {Q : Value → Shared → Prop} (hh : A.handled = none)
    (h : ∀ h' tk, (∀ c o, s.heap.get? c = some o → h'.get? c = some o) → Q (if ltS y x then .str y u else .str x t) { s with heap := h', toks := tk }) : wpAny (model P w) A (call (.builtin "min") [.str x t, .str y u]) Q E s := by
  have hT : (s.heap.push { cls := .type "tuple", data := .seq #[.str x t, .str y u] }).IsTuple s.heap.objs.size #[.str x t, .str y u] := ⟨_, Heap.get?_push_size _ rfl, rfl, 0, rfl⟩
  have hsz : (s.heap.push { cls := .type "tuple", data := .seq #[.str x t, .str y u] }).objs.size = s.heap.objs.size + 1 := Heap.size_push ..
  refine call_min_two (wpAny_pyIter_tuple hT ⟨_, [_, s.heap.objs.size], [_], _, _, _, _, rfl, Walks.tuple (A := A.in1) hh _ s.heap.objs.size (by rw [hsz]; exact Nat.ne_of_lt (Nat.lt_succ_self _)) #[.str x t, .str y u], ⟨⟨_, Heap.get?_push_size _ rfl, rfl, rfl⟩, hT.push _⟩, fun c hc => ?_, Nat.succ_pos _, cmp_two (f := ltS) (fun x y t u s Q E h => (PyProof.Rows.lt_str h : wpAny (model P w) _ (compareOp .Lt (.str x t) (.str y u)) Q E s)), fun v h' tk hP hk => ?_⟩)
  · show c < ((s.heap.push _).push _).objs.size
    rw [Heap.size_push, hsz]
    rcases List.mem_cons.mp hc with rfl | hc
    · rw [hsz]; exact Nat.lt_succ_self _
    · rw [List.mem_singleton] at hc
      rw [hc]
      exact Nat.lt_succ_of_lt (Nat.lt_succ_self _)
  · have z := h h' tk fun c o e => hk c o (fun hm => by
      rw [List.mem_singleton] at hm
      have := Heap.lt_size e
      rw [hm, hsz] at this
      exact Nat.lt_irrefl _ (Nat.lt_of_succ_lt this)) (Heap.get?_push_of_some _ (Heap.get?_push_of_some _ e))
    have hv : v = if ltS y x then Value.str y u else Value.str x t := by
      have hP' : (#[Value.str x t, Value.str y u] : Array Value)[argBest (fun i j => ltS (if i = 0 then x else y) (if j = 0 then x else y)) 1]? = some v := hP
      cases c : ltS y x with
      | true =>
        have e : argBest (fun i j => ltS (if i = 0 then x else y) (if j = 0 then x else y)) 1 = 1 := by simp [argBest, c]
        rw [e] at hP'
        exact (Option.some.inj hP').symm
      | false =>
        have e : argBest (fun i j => ltS (if i = 0 then x else y) (if j = 0 then x else y)) 1 = 0 := by simp [argBest, c]
        rw [e] at hP'
        exact (Option.some.inj hP').symm
    rw [hv]; exact z
theorem max_two_strs {P : Program} {w : World} {A : Around} {E : Value → Shared → Prop} {s : Shared} {x y : Str} {t u : Tok} {Q : Value → Shared → Prop} (hh : A.handled = none)
    (h : ∀ h' tk, (∀ c o, s.heap.get? c = some o → h'.get? c = some o) → Q (if ltS x y then .str y u else .str x t) { s with heap := h', toks := tk }) : wpAny (model P w) A (call (.builtin "max") [.str x t, .str y u]) Q E s := by
  have hT : (s.heap.push { cls := .type "tuple", data := .seq #[.str x t, .str y u] }).IsTuple s.heap.objs.size #[.str x t, .str y u] := ⟨_, Heap.get?_push_size _ rfl, rfl, 0, rfl⟩
  have hsz : (s.heap.push { cls := .type "tuple", data := .seq #[.str x t, .str y u] }).objs.size = s.heap.objs.size + 1 := Heap.size_push ..
  refine call_max_two (wpAny_pyIter_tuple hT ⟨_, [_, s.heap.objs.size], [_], _, _, _, _, rfl, Walks.tuple (A := A.in1) hh _ s.heap.objs.size (by rw [hsz]; exact Nat.ne_of_lt (Nat.lt_succ_self _)) #[.str x t, .str y u], ⟨⟨_, Heap.get?_push_size _ rfl, rfl, rfl⟩, hT.push _⟩, fun c hc => ?_, Nat.succ_pos _, cmp_two (f := fun a b => ltS b a) (fun x y t u s Q E h => (PySem.P.gt_str h : wpAny (model P w) _ (compareOp .Gt (.str x t) (.str y u)) Q E s)), fun v h' tk hP hk => ?_⟩)
  · show c < ((s.heap.push _).push _).objs.size
    rw [Heap.size_push, hsz]
    rcases List.mem_cons.mp hc with rfl | hc
    · rw [hsz]; exact Nat.lt_succ_self _
    · rw [List.mem_singleton] at hc
      rw [hc]
      exact Nat.lt_succ_of_lt (Nat.lt_succ_self _)
  · have z := h h' tk fun c o e => hk c o (fun hm => by
      rw [List.mem_singleton] at hm
      have := Heap.lt_size e
      rw [hm, hsz] at this
      exact Nat.lt_irrefl _ (Nat.lt_of_succ_lt this)) (Heap.get?_push_of_some _ (Heap.get?_push_of_some _ e))
    have hv : v = if ltS x y then Value.str y u else Value.str x t := by
      have hP' : (#[Value.str x t, Value.str y u] : Array Value)[argBest (fun i j => ltS (if j = 0 then x else y) (if i = 0 then x else y)) 1]? = some v := hP
      cases c : ltS x y with
      | true =>
        have e : argBest (fun i j => ltS (if j = 0 then x else y) (if i = 0 then x else y)) 1 = 1 := by simp [argBest, c]
        rw [e] at hP'
        exact (Option.some.inj hP').symm
      | false =>
        have e : argBest (fun i j => ltS (if j = 0 then x else y) (if i = 0 then x else y)) 1 = 0 := by simp [argBest, c]
        rw [e] at hP'
        exact (Option.some.inj hP').symm
    rw [hv]; exact z
def rStr2 (f : Str → Str → Str) : List V → Hp → VK → Prop := fun xs H Q => ∃ x y, xs = [.str x, .str y] ∧ Q (.str (f x y)) H
theorem cr_minS (hc : X.calm = true) : CallR X (.builtin "min") (rStr2 fun x y => if ltS y x then y else x) := by
  intro pins s σ H xs us Q I r ⟨x, y, ev, q⟩
  subst ev
  obtain ⟨u, w', rfl, ⟨t, rfl⟩, ⟨t', rfl⟩⟩ := vals2 r
  refine min_two_strs (I.ok.hd hc) fun h' tk k => ⟨_, H, I.kept k, ?_, q⟩
  show ∃ t0, (if ltS y x = true then Value.str y t' else Value.str x t) = Value.str (if ltS y x = true then y else x) t0
  cases ltS y x <;> exact ⟨_, rfl⟩
theorem cr_maxS (hc : X.calm = true) : CallR X (.builtin "max") (rStr2 fun x y => if ltS x y then y else x) := by
  intro pins s σ H xs us Q I r ⟨x, y, ev, q⟩
  subst ev
  obtain ⟨u, w', rfl, ⟨t, rfl⟩, ⟨t', rfl⟩⟩ := vals2 r
  refine max_two_strs (I.ok.hd hc) fun h' tk k => ⟨_, H, I.kept k, ?_, q⟩
  show ∃ t0, (if ltS x y = true then Value.str y t' else Value.str x t) = Value.str (if ltS x y = true then y else x) t0
  cases ltS x y <;> exact ⟨_, rfl⟩
def fStr2 (f : Str → Str → Str) : List Dt → Option Dt
  | [.str x, .str y] => some (.str (f x y))
  | _ => none
theorem cd_str2 {nm : String} {f : Str → Str → Str} (h : CallR X (.builtin nm) (rStr2 f)) : CallD X (.builtin nm) (fStr2 f) := ⟨_, h, fun B H vs ds d Q rl bd eq k => by
  unfold fStr2 at eq
  split at eq
  · cases eq
    cases rl with
    | cons h1 r =>
      cases r with
      | cons h2 r =>
        cases r
        cases h1
        cases h2
        exact ⟨_, _, rfl, k _ H (Same.refl H) (.str _)⟩
  · cases eq⟩
def fMinA (ds : List Dt) : Option Dt := (fMin ds).or (fStr2 (fun x y => if ltS y x then y else x) ds)
def fMaxA (ds : List Dt) : Option Dt := (fMax ds).or (fStr2 (fun x y => if ltS x y then y else x) ds)
theorem cd_minA (hc : X.calm = true) : CallD X (.builtin "min") fMinA := (cd_min hc).or (cd_str2 (cr_minS hc))
theorem cd_maxA (hc : X.calm = true) : CallD X (.builtin "max") fMaxA := (cd_max hc).or (cd_str2 (cr_maxS hc))
end
end DL
set_option Elab.async false
set_option linter.all false
set_option maxRecDepth 100000
set_option maxHeartbeats 4000000
namespace DL
open PySem PySem.Spec PyProof.Rows L2
def pick {α : Type} (is : List Nat) (l : List α) : List α := is.filterMap fun i => l[i]?
def gK {α : Type} (nu nk : Nat) (is : List Nat) (us ws : List α) : List α := if us.length = nu ∧ ws.length = nk then pick is (us ++ ws) else []
theorem vals_pick {vs : List V} {us : List Value} (r : Vals vs us) : ∀ is : List Nat, Vals (pick is vs) (pick is us)
  | [] => .nil
  | i :: is => by
    have h := vals_pick r is
    unfold pick at h ⊢
    rw [List.filterMap_cons, List.filterMap_cons]
    cases e : vs[i]? with
    | none =>
      have : us[i]? = none := by
        rw [List.getElem?_eq_none_iff] at e ⊢
        rw [← r.length]
        exact e
      rw [this]
      exact h
    | some v =>
      obtain ⟨u, e1, e2⟩ := r.get e
      rw [e1]
      exact .cons e2 h
theorem vals_gK {nu nk : Nat} {is : List Nat} {vs : List V} {us : List Value} {zs : List V} {ws : List Value} (r : Vals vs us) (rz : Vals zs ws) : Vals (gK nu nk is vs zs) (gK nu nk is us ws) := by
  unfold gK
  rw [r.length, rz.length]
  split
  · exact vals_pick (r.append rz) is
  · exact .nil
theorem RpL.pick {K : KW} {H : Hp} {B : Bad} {vs : List V} {ds : List Dt} (r : RpL K H B vs ds) : ∀ is : List Nat, RpL K H B (pick is vs) (DL.pick is ds)
  | [] => .nil
  | i :: is => by
    have h := RpL.pick r is
    unfold DL.pick at h ⊢
    rw [List.filterMap_cons, List.filterMap_cons]
    cases e : vs[i]? with
    | none =>
      have : ds[i]? = none := by
        rw [List.getElem?_eq_none_iff] at e ⊢
        rw [← r.len]
        exact e
      rw [this]
      exact h
    | some v =>
      obtain ⟨d, e1, e2⟩ := r.getV e
      rw [e1]
      exact .cons e2 h
structure FnDK (P : Program) (w : World) (K : PySem.W.Frag) (mg : Str → Option Value) (base : Heap) (x : Str) (k : Nat) (F : FM) (ks : List Str) (nu : Nat) (is : List Nat) : Prop where
  ex : ∃ f fd ps, FnOk P w K mg base CX0 k f fd ps (spD ⟨K, w, mg⟩ F) ∧ mg x = some (.ref f) ∧ PySem.W.keepIn K (.ref f) = true ∧ KBinds K fd ps ks (gK nu ks.length is) (gK nu ks.length is)
section
variable {P : Program} {w : World} {K : PySem.W.Frag} {mg : Str → Option Value} {base : Heap}
theorem fnDK_mk {x qual : Str} {st : Stmt} {f : Addr} {fd : FuncData} {ps : List Str} {k : Nat} {F : FM} {ks : List Str} {nu : Nat} {is : List Nat} (Fn : Fun K x qual st f fd) (ok : FnOk P w K mg base CX0 k f fd ps (spD ⟨K, w, mg⟩ F)) (hm : mg x = some (.ref f)) (h0 : 0 < ps.length)
    (h : ∀ (kV doc pm : Value) (an : Option Addr) (cdv ct : Value) (us ws : List Value), us.length = nu → ws.length = ks.length → bindArgs (PySem.W.fnOf x qual (defArgs st) (defBody st) (defScope st) .none kV doc pm an cdv ct) ⟨us, ks.zip ws⟩ = pure (ps.zip (pick is (us ++ ws)))) : FnDK P w K mg base x k F ks nu is := by
  refine ⟨f, fd, ps, ok, hm, Fn.kp, ⟨fun s us ws _ hl => ?_, vals_gK⟩⟩
  obtain ⟨oc, od, kV, doc, pm, an, cdv, ct, osl, rfl, lk, hcd⟩ := Fn.ex
  unfold gK at hl ⊢
  split at hl
  · rename_i hc
    rw [if_pos hc]
    exact .of_eq (h kV doc pm an cdv ct us ws hc.1 hc.2)
  · rw [← hl] at h0
    exact absurd h0 (Nat.lt_irrefl _)
end
section
variable {X : Cx} {e a b c : Expr} {es : List Expr} {p pos tpos kpos : PySem.Pos} {x : Str} {k : Nat} {F : FM} {kws : List Keyword} {nm : Option Str} {ks : List Str} {nu : Nat} {is : List Nat}
theorem PK.imp {t t' : TA} (h : PK X kws t) (k : ∀ σ H Q, t' σ H Q → t σ H Q) : PK X kws t' := ⟨fun pos pins s σ H Q I q => h.run pos pins s σ H Q I (k σ H Q q)⟩
theorem dk_nil : PK X [] (tDA X.kw mNil) := PK.imp pk_nil fun σ H Q q => by
  obtain ⟨B, γ, H0, s, d, s', rl, e, k⟩ := q
  cases e
  exact k [] H (Aft.refl rl) .nil
theorem dk_cons {ma : MD} {mr : MA} (ha : PE X e (tD X.kw ma)) (hr : PK X kws (tDA X.kw mr)) : PK X (⟨nm, e, kpos⟩ :: kws) (tDA X.kw (mCons ma mr)) := PK.imp (pk_cons ha hr) fun σ H Q q => by
  obtain ⟨B, γ, H0, s, d, s', rl, e, k⟩ := q
  obtain ⟨⟨x, s1⟩, e1, e2⟩ := ob e
  obtain ⟨⟨y, s2⟩, e3, e4⟩ := om e2
  obtain ⟨rfl, rfl⟩ := Prod.mk.inj e4
  exact ⟨B, γ, H0, s, x, s1, rl, e1, fun v1 H1 a1 r1 => ⟨B, γ, H0, s1, y, s2, a1.rel, e3, fun v2 H2 a2 r2 => k _ _ (a1.trans a2) (.cons (a2.mv.frm _ _ r1) r2)⟩⟩
theorem pe_callK0 {CX : CXT} {f : Addr} {fd : FuncData} {ps : List Str} {sp : Sp} {E : XK} {tk : TA} {g : List Value → List Value → List Value} {gV : List V → List V → List V} (Fo : FnOk X.prog X.w X.K X.mg X.base CX k f fd ps sp) (hr : Room k X.A) (hg : Gl X x) (hm : X.mg x = some (.ref f)) (hk : PySem.W.keepIn X.K (.ref f) = true) (hb : KBinds X.K fd ps ks g gV) (hx : Passes CX X E)
    (hkw : PK X kws tk) (hall : (backToKw pos (keywordEach kws X.env)).all (·.1.isSome) = true := by rfl) (hks : (backToKw pos (keywordEach kws X.env)).filterMap (·.1) = ks := by rfl) (hdb : (x == ("__debug__" : Str)) = false := by decide)
    (hpl : ((backTo pos (starEach [] X.env)).any (·.1) || (backToKw pos (keywordEach kws X.env)).any (·.1.isNone)) = false := by rfl) : PE X (.Call (.Name x p) [] kws pos) (fun σ H Q => tk σ H fun zs H2 => sp (gV [] zs) H2 Q E) := by
  refine ⟨fun pins s σ H Q I h => ?_⟩
  refine wpAny_Call_Name_kw (ld_glob I hg hm ?_ hdb)
  refine PySem.W.callWith_KW0 (h₀ := X.base) I.ok.mod.kin hk hall (thn (hkw.run pos pins s σ H _ I h) fun ws s2 ⟨zs, H2, I2, rz, q2⟩ => ⟨I2.kIn, ?_⟩) hpl
  rw [hks]
  exact run_fnk Fo hr hb hx I2 .nil rz q2
def mCallK (F : FM) (nu nk : Nat) (is : List Nat) (m mk : MA) : MD := fun s => (m s).bind fun q => (mk q.2).bind fun t => (F ((gK nu nk is q.1 t.1).map .val) none).map fun r => (r.1.dt, t.2)
theorem gK_rpl {K : KW} {H : Hp} {B : Bad} {nu nk : Nat} {is : List Nat} {vs zs : List V} {ds es : List Dt} (r : RpL K H B vs ds) (rz : RpL K H B zs es) : RpL K H B (gK nu nk is vs zs) (gK nu nk is ds es) := by
  unfold gK
  rw [r.len, rz.len]
  split
  · exact (r.append rz).pick is
  · exact .nil
theorem de_callK0 {nk : Nat} {mk : MA} (G : FnDK X.prog X.w X.K X.mg X.base x k F ks nu is) (hr : Room k X.A) (hkw : PK X kws (tDA X.kw mk)) (hnk : ks.length = nk := by rfl) (hg : Gl X x := by rfl) (hall : (backToKw pos (keywordEach kws X.env)).all (·.1.isSome) = true := by rfl) (hks : (backToKw pos (keywordEach kws X.env)).filterMap (·.1) = ks := by rfl)
    (hdb : (x == ("__debug__" : Str)) = false := by decide) (hpl : ((backTo pos (starEach [] X.env)).any (·.1) || (backToKw pos (keywordEach kws X.env)).any (·.1.isNone)) = false := by rfl) :
    PE X (.Call (.Name x p) [] kws pos) (tD X.kw (mCallK F nu nk is mNil mk)) := by
  subst hnk
  obtain ⟨f, fd, ps, hF, hm, hk, hb⟩ := G.ex
  refine PE.imp (PE.lk (pe_callK0 hF hr hg hm hk hb pass0 hkw hall hks hdb hpl)) fun σ H Q q => ?_
  obtain ⟨B, γ, H0, s, d, s', rl, e, kk⟩ := q
  obtain ⟨⟨as, s1⟩, e1, e2⟩ := ob e
  cases e1
  obtain ⟨⟨bs, s2⟩, e3, e4⟩ := ob e2
  obtain ⟨⟨r, u⟩, e5, e6⟩ := om e4
  obtain ⟨rfl, rfl⟩ := Prod.mk.inj e6
  refine ⟨B, γ, H0, s, bs, s2, rl, e3, fun zs H2 a2 r2 => ?_⟩
  have := call_pureV (E := fun _ _ _ => False) a2 (gK_rpl (nu := nu) (nk := ks.length) (is := is) .nil r2) e5 (Q := Q) (fun v H' sm rv => kk v H' (a2.samx sm) rv)
  rw [List.append_nil] at this
  exact this
end
end DL
set_option pp.maxSteps 60
set_option Elab.async false
set_option linter.all false
set_option maxRecDepth 100000
namespace DL
open PySem PySem.Spec PyProof.Rows L2
section
variable {X : Cx} {e : Expr} {pos : PySem.Pos}
def sRetD (m : MDc) : MS := fun s => (m s).map fun p => .rt (.newd p.1) p.2.ur
theorem ds_retD {m : MDc} (he : PE X e (tDD X.kw m)) : PS X (.Return (some e) pos) (tDS X.kw (sRetD m)) := PS.imp (ps_ret he) fun D σ H q => by
  obtain ⟨B, γ, H0, s, o, rl, e, k⟩ := q
  obtain ⟨⟨x, s1⟩, e1, e2⟩ := om e
  subst e2
  refine ⟨B, γ, H0, s, x, s1, rl, e1, fun p vs H1 r1 mv hp h1 h2 => k _ _ ⟨⟨r1.ent, r1.ev⟩, r1.ur, p, vs, rfl, rl.h0 hp, h1, h2.sub fun a z => ?_⟩⟩
  rcases z with z | z
  · exact .inl (.inl z)
  · exact .inl (.inr z)
end
section
variable {P : Program} {w : World} {K : PySem.W.Frag} {mg : Str → Option Value} {base : Heap}
theorem fnD_of {x qual : Str} {st : Stmt} {f : Addr} {fd : FuncData} {ps : List Str} {k : Nat} {F : FM} (Fn : Fun K x qual st f fd) (ok : FnOk P w K mg base CX0 k f fd ps (spD ⟨K, w, mg⟩ F)) (hm : mg x = some (.ref f)) (hb : Binds K fd ps []) : FnD P w K mg base x k F := ⟨⟨f, fd, ps, ok, hm, Fn.kp, hb⟩⟩
end
end DL
set_option pp.maxSteps 60
set_option Elab.async false
set_option linter.all false
set_option maxRecDepth 100000
namespace DL
open PySem PySem.Spec PyProof.Rows L2
theorem _root_.L2.Room.units65 {k : Nat} {A : Around} (r : Room k A) : A.units + 65 < cLine := by have := r.un; omega
section
variable {X : Cx} {e a b : Expr} {p pos : PySem.Pos}
def itemsOf : Dt → Option (List Dt)
  | .list ds => some ds
  | .tuple ds => some ds
  | _ => none
def dInN (neg : Bool) (x y : Dt) : Option Dt := (itemsOf y).bind fun ds => if SeqAt.shaped x && SeqAt.shaped y then some (.bool (neg ^^ ds.any fun z => PyData.eqv z x)) else none
def dNotIn := dInN true
def rInA (K : PySem.W.Frag) (neg : Bool) : R2 := fun x y H Q => ∃ d e ds, Dp K H x d ∧ Dp K H y e ∧ itemsOf e = some ds ∧ SeqAt.shaped d = true ∧ SeqAt.shaped e = true ∧ Q (.bl (neg ^^ ds.any fun z => PyData.eqv z d)) H
theorem op_inA (hu : X.A.units + 65 < cLine) : OpR X (compareOp .In) (rInA X.K false) := by
  intro pins s σ H x y v u Q I rx ry h
  obtain ⟨d, e, ds, hd, he, hi, sd, se, q⟩ := h
  obtain ⟨as, r1⟩ := Dp.reads I d x v hd rx
  obtain ⟨bs, r2⟩ := Dp.reads I e y u he ry
  rw [Bool.false_xor] at q
  cases e with
  | list _ =>
    cases hi
    exact SeqAt.in_list_reads r2 r1 (SeqAt.canLay_of_shaped se) (SeqAt.canLay_of_shaped sd) (room_in_shaped sd hu) ⟨.bl _, H, I, rfl, q⟩
  | tuple _ =>
    cases hi
    exact SeqAt.in_tuple_reads r2 r1 (SeqAt.canLay_of_shaped se) (SeqAt.canLay_of_shaped sd) (room_in_shaped sd hu) ⟨.bl _, H, I, rfl, q⟩
  | _ => cases hi
theorem op_notInA (hu : X.A.units + 65 < cLine) : OpR X (compareOp .NotIn) (rInA X.K true) := by
  intro pins s σ H x y v u Q I rx ry h
  obtain ⟨d, e, ds, hd, he, hi, sd, se, q⟩ := h
  obtain ⟨as, r1⟩ := Dp.reads I d x v hd rx
  obtain ⟨bs, r2⟩ := Dp.reads I e y u he ry
  rw [Bool.true_xor] at q
  cases e with
  | list _ =>
    cases hi
    exact SeqAt.notIn_list_reads r2 r1 (SeqAt.canLay_of_shaped se) (SeqAt.canLay_of_shaped sd) (room_in_shaped sd hu) ⟨.bl _, H, I, rfl, q⟩
  | tuple _ =>
    cases hi
    exact SeqAt.notIn_tuple_reads r2 r1 (SeqAt.canLay_of_shaped se) (SeqAt.canLay_of_shaped sd) (room_in_shaped sd hu) ⟨.bl _, H, I, rfl, q⟩
  | _ => cases hi
theorem dInN_ex {neg : Bool} {x y d : Dt} (h : dInN neg x y = some d) : ∃ ds, itemsOf y = some ds ∧ SeqAt.shaped x = true ∧ SeqAt.shaped y = true ∧ d = .bool (neg ^^ ds.any fun z => PyData.eqv z x) := by
  obtain ⟨ds, e1, e2⟩ := ob h
  split at e2
  · rename_i hs
    obtain ⟨h1, h2⟩ := Bool.and_eq_true_iff.mp hs
    cases e2
    exact ⟨ds, e1, h1, h2, rfl⟩
  · cases e2
theorem od_inN {op : CmpOp} {neg : Bool} (h : OpR X (compareOp op) (rInA X.K neg)) : OpD X (compareOp op) (dInN neg) := ⟨_, h, fun B H x y dx dy d Q rx ry bd e k => by
  obtain ⟨ds, h1, h2, h3, rfl⟩ := dInN_ex e
  exact ⟨dx, dy, ds, rx.dp (SeqAt.canLay_of_shaped h2), ry.dp (SeqAt.canLay_of_shaped h3), h1, h2, h3, k _ H (Same.refl H) (.bl _)⟩⟩
theorem od_notin (hu : X.A.units + 65 < cLine) : OpD X (compareOp .NotIn) dNotIn := od_inN (op_notInA hu)
def mInN (neg : Bool) (m : MD) (i : Nat) : MD := fun s => (m s).bind fun q => (slotD q.2 q.2 i).bind fun y => (dInN neg q.1 y).map fun z => (z, q.2)
theorem inN_go {neg : Bool} {m : MD} {i : Nat} {σ : L2.St} {H : Hp} {Q : VK} (q : tD X.kw (mInN neg m i) σ H Q) : tOp (rInA X.K neg) (tD X.kw m) (tVar i) σ H Q := by
  obtain ⟨B, γ, H0, s, d, s', rl, e, k⟩ := q
  obtain ⟨⟨x, s1⟩, e1, e2⟩ := ob e
  obtain ⟨y, e3, e4⟩ := ob e2
  obtain ⟨z, e5, e6⟩ := om e4
  obtain ⟨rfl, rfl⟩ := Prod.mk.inj e6
  obtain ⟨ds, h1, h2, h3, rfl⟩ := dInN_ex e5
  refine ⟨B, γ, H0, s, x, s1, rl, e1, fun v H1 a1 r1 => ?_⟩
  obtain ⟨u, hv, hr⟩ := slot_read a1.rel (Aft.refl a1.rel) e3
  refine ⟨u, hv, x, y, ds, r1.dp (SeqAt.canLay_of_shaped h2), ?_, h1, h2, h3, k _ H1 a1 (.bl _)⟩
  rcases hr with hr | ⟨p', vs, es, rfl, rfl, g2, g3⟩
  · exact hr.dp (SeqAt.canLay_of_shaped h3)
  · exact .lst (.inl (.inl g2)) (g3.dp (SeqAt.canLay_of_shaped h3))
theorem tst_go {neg : Bool} {m : MD} {i : Nat} {σ : L2.St} {H : Hp} {Q : Bool → Hp → Prop} (q : tDT X.kw (mTst (mInN neg m i)) σ H Q) : tTest (tOp (rInA X.K neg) (tD X.kw m) (tVar i)) σ H Q := by
  obtain ⟨B, γ, H0, s, d, s', rl, e, k⟩ := q
  obtain ⟨⟨x, s1⟩, e1, e2⟩ := ob e
  obtain ⟨c, e3, e4⟩ := om e2
  obtain ⟨rfl, rfl⟩ := Prod.mk.inj e4
  exact inN_go ⟨B, γ, H0, s, x, s1, rl, e1, fun v H1 a1 r1 => ⟨c, boolD_rp r1 e3, k H1 a1⟩⟩
theorem dt_inN {m : MD} {i : Nat} (hu : X.A.units + 65 < cLine) (ha : PE X a (tD X.kw m)) (hb : PE X b (tVar i)) (hm : behindInMarks .In b = false := by rfl) : PT X (.Compare a [.In] [b] pos) (tDT X.kw (mTst (mInN false m i))) := PT.imp (pt_cmpR (op_inA hu) ha hb hm) fun σ H Q q => tst_go q
theorem dt_notinN {m : MD} {i : Nat} (hu : X.A.units + 65 < cLine) (ha : PE X a (tD X.kw m)) (hb : PE X b (tVar i)) (hm : behindInMarks .NotIn b = false := by rfl) : PT X (.Compare a [.NotIn] [b] pos) (tDT X.kw (mTst (mInN true m i))) := PT.imp (pt_cmpR (op_notInA hu) ha hb hm) fun σ H Q q => tst_go q
def fOrd : List Dt → Option Dt
  | [.str x] => if x.length = 1 then some (.int (x.cps.getD 0 0 : Nat)) else none
  | _ => none
theorem cd_ord : CallD X (.builtin "ord") fOrd := ⟨_, call_ord, fun B H vs ds d Q rl bd eq k => by
  unfold fOrd at eq
  split at eq
  · split at eq
    · rename_i hx
      cases eq
      obtain ⟨v, rfl, h⟩ := one_arg rl
      cases h
      exact ⟨_, rfl, hx, k _ H (Same.refl H) (.int _)⟩
    · cases eq
  · cases eq⟩
end
end DL
set_option Elab.async false
set_option linter.all false
set_option maxRecDepth 100000
namespace FD
abbrev Ht := Nat → Nat → Int
def Sym (T : Ht) : Prop := ∀ i j, T i j = T j i
def fwStep (T : Ht) (m : Nat) : Ht := fun i j => if m = i ∨ m = j then T i j else max (T i j) (min (T i m) (T j m))
def fw (h : Ht) (n : Nat) : Ht := (List.range n).foldl fwStep h
theorem sym_step {T : Ht} (h : Sym T) (m : Nat) : Sym (fwStep T m) := fun i j => by
  unfold fwStep
  by_cases c : m = i ∨ m = j
  · rw [if_pos c, if_pos c.symm, h i j]
  · rw [if_neg c, if_neg fun q => c q.symm, h i j, Int.min_comm]
theorem sym_fold : ∀ (ms : List Nat) {T : Ht}, Sym T → Sym (ms.foldl fwStep T)
  | [], _, h => h
  | m :: ms, _, h => sym_fold ms (sym_step h m)
def R (T : Ht) (w : Int) (i j : Nat) : Prop := i = j ∨ w < T i j
theorem R.symm {T : Ht} (h : Sym T) {w : Int} {i j : Nat} (r : R T w i j) : R T w j i := r.elim (fun e => .inl e.symm) fun e => .inr (h i j ▸ e)
theorem step_R {T : Ht} (h : Sym T) {w : Int} {m i j : Nat} : R (fwStep T m) w i j ↔ R T w i j ∨ (R T w i m ∧ R T w m j) := by
  unfold R fwStep
  by_cases e : i = j
  · simp [e]
  · by_cases c : m = i ∨ m = j
    · rw [if_pos c]
      rcases c with rfl | rfl
      · simp [e]
      · simp [e]
    · rw [if_neg c]
      have c1 : ¬ i = m := fun q => c (.inl q.symm)
      have c2 : ¬ m = j := fun q => c (.inr q)
      rw [h j m]
      simp only [e, c1, c2, false_or]
      omega
inductive Conn (n : Nat) (h : Ht) (w : Int) (i : Nat) : Nat → Prop
  | refl : Conn n h w i i
  | step {j k : Nat} : Conn n h w i j → k < n → w < h j k → Conn n h w i k
theorem Conn.trans {n : Nat} {h : Ht} {w : Int} {i j k : Nat} (a : Conn n h w i j) (b : Conn n h w j k) : Conn n h w i k := by
  induction b with
  | refl => exact a
  | step _ h1 h2 ih => exact .step ih h1 h2
theorem Conn.lt {n : Nat} {h : Ht} {w : Int} {i j : Nat} (a : Conn n h w i j) (hi : i < n) : j < n := by
  cases a with
  | refl => exact hi
  | step _ h1 _ => exact h1
theorem fw_sound {n : Nat} {h : Ht} {w : Int} : ∀ (ms : List Nat) {T : Ht}, Sym T → (∀ m ∈ ms, m < n) → (∀ i j, i < n → j < n → R T w i j → Conn n h w i j) → ∀ i j, i < n → j < n → R (ms.foldl fwStep T) w i j → Conn n h w i j
  | [], _, _, _, h => h
  | m :: ms, T, hs, hm, h => fw_sound ms (sym_step hs m) (fun k hk => hm k (List.mem_cons_of_mem _ hk)) fun i j hi hj r => by
    have hmn := hm m List.mem_cons_self
    rcases (step_R hs).mp r with r | ⟨r1, r2⟩
    · exact h i j hi hj r
    · exact (h i m hi hmn r1).trans (h m j hmn hj r2)
def Tr (T : Ht) (w : Int) (m : Nat) : Prop := ∀ i j, R T w i m → R T w m j → R T w i j
theorem tr_step {T : Ht} (hs : Sym T) {w : Int} {k m : Nat} (h : Tr T w m ∨ m = k) : Tr (fwStep T k) w m := by
  intro i j r1 r2
  rw [step_R hs] at r1 r2 ⊢
  rcases h with h | rfl
  · rcases r1 with r1 | ⟨a1, a2⟩
    · rcases r2 with r2 | ⟨b1, b2⟩
      · exact .inl (h _ _ r1 r2)
      · exact .inr ⟨h _ _ r1 b1, b2⟩
    · rcases r2 with r2 | ⟨b1, b2⟩
      · exact .inr ⟨a1, h _ _ a2 r2⟩
      · exact .inr ⟨a1, b2⟩
  · have q1 : R T w i m := r1.elim id (·.1)
    have q2 : R T w m j := r2.elim id (·.2)
    exact .inr ⟨q1, q2⟩
theorem fw_tr {w : Int} : ∀ (ms : List Nat) {T : Ht}, Sym T → ∀ m, (Tr T w m ∨ m ∈ ms) → Tr (ms.foldl fwStep T) w m
  | [], _, _, m, h => h.elim id fun q => absurd q List.not_mem_nil
  | k :: ms, T, hs, m, h => fw_tr ms (sym_step hs k) m (by
    rcases h with h | h
    · exact .inl (tr_step hs (.inl h))
    · rcases List.mem_cons.mp h with h | h
      · exact .inl (tr_step hs (.inr h))
      · exact .inr h)
theorem fw_mono {w : Int} : ∀ (ms : List Nat) {T : Ht}, Sym T → ∀ {i j : Nat}, R T w i j → R (ms.foldl fwStep T) w i j
  | [], _, _, _, _, r => r
  | m :: ms, _, hs, _, _, r => fw_mono ms (sym_step hs m) ((step_R hs).mpr (.inl r))
theorem fw_iff {n : Nat} {h : Ht} (hs : Sym h) {w : Int} {i j : Nat} (hi : i < n) (hj : j < n) : R (fw h n) w i j ↔ Conn n h w i j := by
  constructor
  · exact fw_sound (List.range n) hs (fun m hm => List.mem_range.mp hm) (fun i j _ hj r => r.elim (fun e => e ▸ .refl) fun e => .step .refl hj e) i j hi hj
  · intro c
    clear hj
    induction c with
    | refl => exact .inl rfl
    | step c h1 h2 ih => exact fw_tr (List.range n) hs _ (.inr (List.mem_range.mpr (c.lt hi))) _ _ ih (fw_mono (List.range n) hs (.inr h2))
theorem fw_mem {n : Nat} {h : Ht} : ∀ {i j : Nat}, i < n → j < n → i ≠ j → ∃ a b, a < n ∧ b < n ∧ a ≠ b ∧ fw h n i j = h a b := by
  have go : ∀ (ms : List Nat) (T : Ht), (∀ m ∈ ms, m < n) → (∀ i j, i < n → j < n → i ≠ j → ∃ a b, a < n ∧ b < n ∧ a ≠ b ∧ T i j = h a b) → ∀ i j, i < n → j < n → i ≠ j → ∃ a b, a < n ∧ b < n ∧ a ≠ b ∧ ms.foldl fwStep T i j = h a b := by
    intro ms
    induction ms with
    | nil => exact fun T _ h => h
    | cons m ms ih =>
      intro T hm hT
      refine ih (fwStep T m) (fun k hk => hm k (List.mem_cons_of_mem _ hk)) fun i j hi hj e => ?_
      have hmn := hm m List.mem_cons_self
      unfold fwStep
      by_cases c : m = i ∨ m = j
      · rw [if_pos c]; exact hT i j hi hj e
      · rw [if_neg c]
        have c1 : i ≠ m := fun q => c (.inl q.symm)
        have c2 : j ≠ m := fun q => c (.inr q.symm)
        by_cases d : T i j ≤ min (T i m) (T j m)
        · rw [Int.max_eq_right d]
          by_cases d2 : T i m ≤ T j m
          · rw [Int.min_eq_left d2]; exact hT i m hi hmn c1
          · rw [Int.min_eq_right (by omega)]; exact hT j m hj hmn c2
        · rw [Int.max_eq_left (by omega)]; exact hT i j hi hj e
  exact fun {i j} hi hj e => go (List.range n) h (fun m hm => List.mem_range.mp hm) (fun i j hi hj e => ⟨i, j, hi, hj, e, rfl⟩) i j hi hj e
abbrev Ed := (Nat × Nat) × Int
def add1 (l : List Nat) (a b : Nat) : List Nat := if a ∈ l ∧ b ∉ l then l ++ [b] else l
def addE (w : Int) (l : List Nat) (e : Ed) : List Nat := if w < e.2 then add1 (add1 l e.1.1 e.1.2) e.1.2 e.1.1 else l
def rnd (w : Int) (es : List Ed) (l : List Nat) : List Nat := es.foldl (addE w) l
def rnds (w : Int) (es : List Ed) : Nat → List Nat → List Nat
  | 0, l => l
  | k + 1, l => rnds w es k (rnd w es l)
theorem add1_or (l : List Nat) (a b : Nat) : (add1 l a b = l ∧ (a ∈ l → b ∈ l)) ∨ (add1 l a b = l ++ [b] ∧ a ∈ l ∧ b ∉ l) := by
  unfold add1
  by_cases c : a ∈ l ∧ b ∉ l
  · exact .inr ⟨if_pos c, c⟩
  · refine .inl ⟨if_neg c, fun h => ?_⟩
    by_cases q : b ∈ l
    · exact q
    · exact absurd ⟨h, q⟩ c
theorem add1_len (l : List Nat) (a b : Nat) : add1 l a b = l ∨ l.length < (add1 l a b).length := by
  rcases add1_or l a b with h | h
  · exact .inl h.1
  · right; rw [h.1, List.length_append]; exact Nat.lt_succ_self _
theorem addE_len (w : Int) (l : List Nat) (e : Ed) : addE w l e = l ∨ l.length < (addE w l e).length := by
  unfold addE
  split
  · rcases add1_len l e.1.1 e.1.2 with h | h
    · rw [h]; exact add1_len _ _ _
    · rcases add1_len (add1 l e.1.1 e.1.2) e.1.2 e.1.1 with h2 | h2
      · rw [h2]; exact .inr h
      · exact .inr (Nat.lt_trans h h2)
  · exact .inl rfl
theorem rnd_len (w : Int) : ∀ (es : List Ed) (l : List Nat), rnd w es l = l ∨ l.length < (rnd w es l).length
  | [], l => .inl rfl
  | e :: es, l => by
    show rnd w es (addE w l e) = l ∨ _ < (rnd w es (addE w l e)).length
    rcases addE_len w l e with h | h
    · rw [h]; exact rnd_len w es l
    · rcases rnd_len w es (addE w l e) with h2 | h2
      · rw [h2]; exact .inr h
      · exact .inr (Nat.lt_trans h h2)
theorem rnd_closed {w : Int} : ∀ {es : List Ed} {l : List Nat}, rnd w es l = l → ∀ e ∈ es, w < e.2 → (e.1.1 ∈ l ↔ e.1.2 ∈ l)
  | e :: es, l, h, d, hd, hw => by
    have h' : rnd w es (addE w l e) = l := h
    have h1 : addE w l e = l := by
      rcases addE_len w l e with q | q
      · exact q
      · rcases rnd_len w es (addE w l e) with q2 | q2
        · rw [h'] at q2; exact q2.symm
        · rw [h'] at q2; omega
    rcases List.mem_cons.mp hd with rfl | hd
    · unfold addE at h1
      rw [if_pos hw] at h1
      rcases add1_or l d.1.1 d.1.2 with ⟨a1, a2⟩ | ⟨a1, a2, a3⟩
      · rw [a1] at h1
        rcases add1_or l d.1.2 d.1.1 with ⟨b1, b2⟩ | ⟨b1, b2, b3⟩
        · exact ⟨a2, b2⟩
        · rw [b1] at h1
          have := congrArg List.length h1
          rw [List.length_append] at this
          exact absurd this (by simp)
      · rcases add1_len (add1 l d.1.1 d.1.2) d.1.2 d.1.1 with b | b
        · rw [b, a1] at h1
          have := congrArg List.length h1
          rw [List.length_append] at this
          exact absurd this (by simp)
        · rw [h1, a1, List.length_append] at b
          have : [d.1.2].length = 1 := rfl
          omega
    · rw [h1] at h'
      exact rnd_closed h' d hd hw
theorem rnds_fix {w : Int} {es : List Ed} {l : List Nat} (h : rnd w es l = l) : ∀ k, rnds w es k l = l
  | 0 => rfl
  | k + 1 => by
    show rnds w es k (rnd w es l) = l
    rw [h, rnds_fix h k]
theorem rnds_len {w : Int} {es : List Ed} : ∀ (k : Nat) (l : List Nat), rnd w es (rnds w es k l) = rnds w es k l ∨ l.length + k ≤ (rnds w es k l).length
  | 0, l => .inr (Nat.le_refl _)
  | k + 1, l => by
    show rnd w es (rnds w es k (rnd w es l)) = rnds w es k (rnd w es l) ∨ _ ≤ (rnds w es k (rnd w es l)).length
    rcases rnds_len k (rnd w es l) with h | h
    · exact .inl h
    · rcases rnd_len w es l with q | q
      · left
        rw [q, rnds_fix q k, q]
      · right; omega
theorem rnds_inv {w : Int} {es : List Ed} (P : List Nat → Prop) (h : ∀ e ∈ es, w < e.2 → ∀ l, P l → (e.1.1 ∈ l → e.1.2 ∉ l → P (l ++ [e.1.2])) ∧ (e.1.2 ∈ l → e.1.1 ∉ l → P (l ++ [e.1.1]))) : ∀ (k : Nat) {l : List Nat}, P l → P (rnds w es k l) := by
  have h1 : ∀ e ∈ es, ∀ l, P l → P (addE w l e) := fun e he l hl => by
    unfold addE
    split
    · rename_i hw
      have hh := h e he hw
      have s1 : P (add1 l e.1.1 e.1.2) := by
        rcases add1_or l e.1.1 e.1.2 with q | q
        · rw [q.1]; exact hl
        · rw [q.1]; exact (hh l hl).1 q.2.1 q.2.2
      rcases add1_or (add1 l e.1.1 e.1.2) e.1.2 e.1.1 with q | q
      · rw [q.1]; exact s1
      · rw [q.1]; exact (hh _ s1).2 q.2.1 q.2.2
    · exact hl
  have h2 : ∀ (ds : List Ed), (∀ e ∈ ds, e ∈ es) → ∀ l, P l → P (rnd w ds l) := by
    intro ds
    induction ds with
    | nil => exact fun _ l hl => hl
    | cons e ds ih => exact fun hd l hl => ih (fun x hx => hd x (List.mem_cons_of_mem _ hx)) _ (h1 e (hd e List.mem_cons_self) l hl)
  intro k
  induction k with
  | zero => exact fun hl => hl
  | succ k ih => exact fun hl => ih (h2 es (fun _ q => q) _ hl)
theorem nodup_len : ∀ {n : Nat} {l : List Nat}, l.Nodup → (∀ x ∈ l, x < n) → l.length ≤ n
  | 0, l, _, h => by
    cases l with
    | nil => exact Nat.le_refl _
    | cons x l => exact absurd (h x List.mem_cons_self) (Nat.not_lt_zero _)
  | n + 1, l, nd, h => by
    have h1 : (l.erase n).length ≤ n := nodup_len (nd.erase n) fun x hx => by
      have := (nd.mem_erase_iff).mp hx
      have := h x this.2
      omega
    have := List.length_erase (a := n) (l := l)
    split at this <;> omega
def prs (n : Nat) : List (Nat × Nat) := (List.range n).flatMap fun i => (List.range' (i + 1) (n - (i + 1))).map fun j => (i, j)
theorem mem_prs {n : Nat} {p : Nat × Nat} : p ∈ prs n ↔ p.1 < p.2 ∧ p.2 < n := by
  unfold prs
  rw [List.mem_flatMap]
  constructor
  · rintro ⟨i, hi, h⟩
    obtain ⟨j, hj, rfl⟩ := List.mem_map.mp h
    rw [List.mem_range] at hi
    rw [List.mem_range'_1] at hj
    exact ⟨by show i < j; omega, by show j < n; omega⟩
  · rintro ⟨h1, h2⟩
    exact ⟨p.1, List.mem_range.mpr (by omega), List.mem_map.mpr ⟨p.2, by rw [List.mem_range'_1]; omega, rfl⟩⟩
def eds (n : Nat) (h : Ht) : List Ed := (prs n).map fun p => (p, h p.1 p.2)
def lot (n : Nat) (h : Ht) (w : Int) (x : Nat) : List Nat := rnds w (eds n h) n [x]
theorem mem_eds {n : Nat} {h : Ht} {e : Ed} : e ∈ eds n h ↔ e.1.1 < e.1.2 ∧ e.1.2 < n ∧ e.2 = h e.1.1 e.1.2 := by
  unfold eds
  rw [List.mem_map]
  constructor
  · rintro ⟨p, hp, rfl⟩
    have := mem_prs.mp hp
    exact ⟨this.1, this.2, rfl⟩
  · rintro ⟨h1, h2, h3⟩
    exact ⟨e.1, mem_prs.mpr ⟨h1, h2⟩, by rw [← h3]⟩
structure LotOk (n : Nat) (h : Ht) (w : Int) (x : Nat) (l : List Nat) : Prop where
  nd : l.Nodup
  lt : ∀ y ∈ l, y < n
  cn : ∀ y ∈ l, Conn n h w x y
  st : x ∈ l
theorem lot_ok {n : Nat} {h : Ht} (hs : Sym h) {w : Int} {x : Nat} (hx : x < n) (k : Nat) : LotOk n h w x (rnds w (eds n h) k [x]) := by
  refine rnds_inv (LotOk n h w x) (fun e he hw l hl => ?_) k ⟨by simp, fun y hy => by rw [List.mem_singleton.mp hy]; exact hx, fun y hy => by rw [List.mem_singleton.mp hy]; exact .refl, by simp⟩
  obtain ⟨h1, h2, h3⟩ := mem_eds.mp he
  rw [h3] at hw
  have ap : ∀ a b : Nat, a ∈ l → b ∉ l → b < n → w < h a b → LotOk n h w x (l ++ [b]) := fun a b ha hb hn hw => by
    have cb : Conn n h w x b := .step (hl.cn a ha) hn hw
    refine ⟨?_, ?_, ?_, List.mem_append_left _ hl.st⟩
    · rw [List.nodup_append]
      exact ⟨hl.nd, by simp, fun y hy z hz => by rw [List.mem_singleton.mp hz]; exact fun q => hb (q ▸ hy)⟩
    · intro y hy
      rcases List.mem_append.mp hy with hy | hy
      · exact hl.lt y hy
      · rw [List.mem_singleton.mp hy]; exact hn
    · intro y hy
      rcases List.mem_append.mp hy with hy | hy
      · exact hl.cn y hy
      · rw [List.mem_singleton.mp hy]; exact cb
  exact ⟨fun a b => ap _ _ a b h2 hw, fun a b => ap _ _ a b (by omega) (by rw [hs]; exact hw)⟩
theorem lot_iff {n : Nat} {h : Ht} (hs : Sym h) {w : Int} {x y : Nat} (hx : x < n) : y ∈ lot n h w x ↔ Conn n h w x y := by
  have ok := lot_ok hs (w := w) hx n
  constructor
  · exact ok.cn y
  · intro c
    have cl : rnd w (eds n h) (lot n h w x) = lot n h w x := by
      rcases rnds_len (w := w) (es := eds n h) n [x] with q | q
      · exact q
      · have := nodup_len ok.nd ok.lt
        have h1 : [x].length = 1 := rfl
        omega
    have cl2 := rnd_closed cl
    induction c with
    | refl => exact ok.st
    | @step j k c h1 h2 ih =>
      rcases Nat.lt_trichotomy j k with q | q | q
      · exact (cl2 ((j, k), h j k) (mem_eds.mpr ⟨q, h1, rfl⟩) h2).mp ih
      · exact q ▸ ih
      · exact (cl2 ((k, j), h k j) (mem_eds.mpr ⟨q, c.lt hx, rfl⟩) (by rw [hs]; exact h2)).mpr ih
end FD
set_option Elab.async false
set_option linter.all false
set_option maxRecDepth 100000
set_option maxHeartbeats 4000000
namespace DL
open PySem PySem.Spec PyProof.Rows L2
theorem filt_true {α : Type} (xs : List α) : xs.filter (fun _ => true) = xs := by induction xs with
  | nil => rfl
  | cons x xs ih => rw [List.filter_cons_of_pos rfl, ih]
theorem for_invN {g : MG} {mb : MS} (Iv : Nat → Stt → Prop) : ∀ (ds : List Dt) (n : Nat) (s : Stt), Iv n s → (∀ d ∈ ds, ∀ k s, k < n + ds.length → Iv k s → ∃ s1 s2, g d s = some s1 ∧ mb s1 = some (.nx s2) ∧ Iv (k + 1) s2) → ∃ s', forGo g mb ds s = some (.nx s') ∧ Iv (n + ds.length) s'
  | [], n, s, h, _ => ⟨s, rfl, h⟩
  | d :: ds, n, s, h, k => by
    rw [List.length_cons] at k ⊢
    obtain ⟨s1, s2, e1, e2, h2⟩ := k d List.mem_cons_self n s (by omega) h
    obtain ⟨s', e3, h3⟩ := for_invN Iv ds (n + 1) s2 h2 fun x hx j t hj => k x (List.mem_cons_of_mem _ hx) j t (by omega)
    refine ⟨s', ?_, by rwa [show n + 1 + ds.length = n + (ds.length + 1) by omega] at h3⟩
    show (g d s).bind _ = _
    rw [e1, Option.bind_some, e2]
    exact e3
theorem rngD_length (lo : Int) (n : Nat) : (rngD lo n).length = n := by
  unfold rngD
  rw [List.length_map, List.length_range]
theorem eq_self {d : Dt} (h : SeqAt.shaped d = true) : dEq d d = some (.bool true) := by
  unfold dEq eqOk
  rw [if_pos (by rw [h] <;> rfl), SeqAt.eqv_refl d (SeqAt.canLay_of_shaped h)]
def sameB (n : FM) : MS := (sSeq (sIf (mTru (mIsa ["list", "tuple"] (mVar 1))) (sSeq (sIf (mOrT (mTst (mBin dNe (mIsa ["list"] (mVar 0)) (mIsa ["list"] (mVar 1)))) (mTst (mBin dNe (mIsa ["tuple"] (mVar 0)) (mIsa ["tuple"] (mVar 1))))) (sRet (mC (.bool false))) sNil)
  (sRet (mAndV (mBin dEq (mLenN 0) (mLenN 1)) (mFn fAll (mCons (mOfL (mLc (iZip2 (mCons (mVar 0) (mCons (mVar 1) mNil))) [] [2, 3] (gT 2 (gsCons (gN 2) (gsCons (gN 3) gsNil))) mYes (mCall n (mCons (mVar 2) (mCons (mVar 3) mNil))))) mNil))))) sNil)
  (sSeq (sIf (mOrT (mTst (mBin dIs (mVar 1) (mC .none))) (mTru (mIsa ["bool", "str"] (mVar 1)))) (sRet (mAndV (mBin dEq (mVar 0) (mVar 1)) (mAndV (mBin dEq (mIsa ["bool"] (mVar 0)) (mIsa ["bool"] (mVar 1))) (mBin dEq (mBin dIs (mVar 0) (mC .none)) (mBin dIs (mVar 1) (mC .none)))))) sNil)
  (sRet (mAndV (mIsa ["int"] (mVar 0)) (mAndV (mNotV (mIsa ["bool"] (mVar 0))) (mBin dEq (mVar 0) (mVar 1)))))))
def sameF : Nat → FM
  | 0 => fun _ _ => none
  | n + 1 => runD 2 4 (sameB (sameF n))
def SOk : Nat → Dt → Prop
  | 0, _ => False
  | n + 1, .list xs => xs.length ≤ 100000 ∧ ∀ x ∈ xs, SOk n x
  | n + 1, .tuple xs => xs.length ≤ 100000 ∧ ∀ x ∈ xs, SOk n x
  | _ + 1, .dict _ => False
  | _ + 1, .str x => SeqAt.shaped (.str x) = true
  | _ + 1, _ => True
theorem zip_self : ∀ xs : List Dt, zipD xs xs = xs.map fun x => PyData.tuple [x, x]
  | [] => rfl
  | x :: xs => by
    show PyData.tuple [x, x] :: zipD xs xs = _
    rw [zip_self xs] <;> rfl
theorem len_eqD (n : Nat) : dEq (.int (n : Int)) (.int (n : Int)) = some (.bool true) := eq_self rfl
theorem same_all {F : FM} {d : Dt} {xs : List Dt} (hz : iZip2 (mCons (mVar 0) (mCons (mVar 1) mNil)) ⟨slotsOf 4 [.val d, .val d], none⟩ = some (zipD xs xs, ⟨slotsOf 4 [.val d, .val d], none⟩)) (hl : xs.length ≤ 100000) (h : ∀ x ∈ xs, F [.val x, .val x] none = some (.val (.bool true), none)) :
    mFn fAll (mCons (mOfL (mLc (iZip2 (mCons (mVar 0) (mCons (mVar 1) mNil))) [] [2, 3] (gT 2 (gsCons (gN 2) (gsCons (gN 3) gsNil))) mYes (mCall F (mCons (mVar 2) (mCons (mVar 3) mNil))))) mNil) ⟨slotsOf 4 [.val d, .val d], none⟩ = some (.bool true, ⟨slotsOf 4 [.val d, .val d], none⟩) := by
  rw [zip_self] at hz
  have e1 := e_lcm (fz := []) (vs := [2, 3]) (g := gT 2 (gsCons (gN 2) (gsCons (gN 3) gsNil))) (mt := mYes) (me := mCall F (mCons (mVar 2) (mCons (mVar 3) mNil))) (p := fun _ => true) (f := fun _ => PyData.bool true) hz (by
    intro x hx
    exact st_yes2 (b := true) rfl rfl rfl (e_callV (e_cons rfl (e_cons rfl rfl)) (h x hx)) rfl) hl
  refine e_fn (e_cons (e_ofL e1) rfl) ?_
  rw [filt_true, List.map_const']
  show (boolsD _).map _ = _
  rw [bools_true]
  show some (PyData.bool ((List.replicate xs.length true).all id)) = _
  have h1 : (List.replicate xs.length true).all id = true := by
    rw [List.all_eq_true]
    intro x hx
    exact List.eq_of_mem_replicate hx
  rw [h1]
theorem same_ok : ∀ (n : Nat) (d : Dt), SOk n d → sameF n [.val d, .val d] none = some (.val (.bool true), none)
  | n + 1, .int i, _ => e_run rfl (e_seq (e_sifF (b := false) rfl rfl rfl) (e_seq (e_sifF (b := false) rfl rfl rfl) (e_ret2 (e_andVT (b := true) rfl rfl rfl (e_andVT (b := true) rfl rfl rfl (e_bin rfl rfl (eq_self rfl)))) rfl)))
  | n + 1, .none, _ => rfl
  | n + 1, .bool b, _ => by cases b <;> rfl
  | n + 1, .str x, h => e_run rfl (e_seq (e_sifF (b := false) rfl rfl rfl) (e_seqR (e_sifT (b := true) rfl rfl (e_ret2 (e_andVT (b := true) (e_bin rfl rfl (eq_self h)) rfl rfl (e_andVT (b := true) rfl rfl rfl rfl)) rfl))))
  | n + 1, .list xs, h => e_run rfl (e_seqR (e_sifT (b := true) rfl rfl (e_seq (e_sifF (b := false) rfl rfl rfl) (e_ret2 (e_andVT (b := true) (e_bin (e_lenN rfl rfl) (e_lenN rfl rfl) (len_eqD _)) rfl rfl (same_all rfl h.1 fun x hx => same_ok n x (h.2 x hx))) rfl))))
  | n + 1, .tuple xs, h => e_run rfl (e_seqR (e_sifT (b := true) rfl rfl (e_seq (e_sifF (b := false) rfl rfl rfl) (e_ret2 (e_andVT (b := true) (e_bin (e_lenN rfl rfl) (e_lenN rfl rfl) (len_eqD _)) rfl rfl (same_all rfl h.1 fun x hx => same_ok n x (h.2 x hx))) rfl))))
end DL
set_option Elab.async false
set_option linter.all false
set_option maxRecDepth 100000
set_option maxHeartbeats 4000000
set_option pp.maxSteps 300
namespace DL
open PySem PySem.Spec PyProof.Rows L2
section
variable {P : Program} {w : World} {A : Around} {E : Value → Shared → Prop}
theorem all_nested {h : Heap} : ∀ {ks : List NestedKey} {vs : List Value} {n : Nat}, NestedAll h ks vs → NestedKey.depthAll ks ≤ n → ∀ v ∈ vs, ∃ k, NestedIs h k v ∧ k.depth ≤ n
  | _, _, _, .nil, _ => fun v hv => nomatch hv
  | k :: ks, v0 :: vs, n, .cons h1 h2, hd => fun v hv => by
    rw [NestedKey.depthAll] at hd
    rcases List.mem_cons.mp hv with e | hv
    · exact ⟨k, e ▸ h1, by omega⟩
    · exact all_nested h2 (by omega) v hv
theorem nested_cls : ∀ (n : Nat) {s : Shared} {k : NestedKey} {v : Value} {Q : Bool → Shared → Prop}, NestedIs s.heap k v → k.depth ≤ n → Q false s → wpAny (model P w) A (ofAClassStatement n v) Q E s := by
  intro n
  induction n with
  | zero =>
    intro s k v Q hk hd h
    cases hk with
    | tup h1 h2 h3 h4 => rw [NestedKey.depth] at hd; omega
    | _ => exact wpAny_pure h
  | succ n ih =>
    intro s k v Q hk hd h
    cases hk with
    | @tup a o vs m ks h1 h2 h3 h4 =>
      rw [NestedKey.depth] at hd
      have hall := all_nested h4 (show NestedKey.depthAll ks ≤ n by omega)
      have hT : s.TypeIs (.ref a) "tuple" := ⟨o, h1, h2⟩
      unfold ofAClassStatement
      refine wpAny_bind (wpAny_typeOf hT ?_)
      dsimp only
      rw [if_pos (by decide : (("tuple" : String) == "tuple") = true)]
      refine wpAny_bind (wpAny_pure ?_)
      simp only [Bool.not_true, Bool.false_eq_true, if_false]
      refine wpAny_bind (wpAny_seqItems h1 h3 ?_)
      dsimp only
      refine wpAny_bind ?_
      rw [← Array.forIn_toList]
      refine wpAny_forIn_list _ (fun rest r s' => r.1 = none ∧ s' = s ∧ ∀ v ∈ rest, ∃ k, NestedIs s.heap k v ∧ k.depth ≤ n) _ ?_ ?_ _ _ ⟨rfl, rfl, hall⟩
      · rintro u rest r s' ⟨hr, e, hq⟩
        subst e
        obtain ⟨k', hk', hd'⟩ := hq u List.mem_cons_self
        refine wpAny_bind (ih hk' hd' ?_)
        simp only [Bool.false_eq_true, if_false]
        exact wpAny_pure ⟨rfl, rfl, fun y hy => hq y (List.mem_cons_of_mem _ hy)⟩
      · rintro ⟨r1, r2⟩ s' ⟨hr, e, _⟩
        simp only at hr
        subst hr e
        exact wpAny_pure h
    | _ => exact wpAny_pure h
theorem nested_byv : ∀ (n : Nat) {s : Shared} {k : NestedKey} {v : Value} {Q : Bool → Shared → Prop}, NestedIs s.heap k v → k.depth ≤ n → (∀ r, Q r s) → wpAny (model P w) A (hashByValue n v) Q E s := by
  intro n
  induction n with
  | zero =>
    intro s k v Q hk hd h
    cases hk with
    | tup h1 h2 h3 h4 => rw [NestedKey.depth] at hd; omega
    | _ => exact wpAny_pure (h _)
  | succ n ih =>
    intro s k v Q hk hd h
    cases hk with
    | @tup a o vs m ks h1 h2 h3 h4 =>
      rw [NestedKey.depth] at hd
      have hall := all_nested h4 (show NestedKey.depthAll ks ≤ n by omega)
      have hT : s.TypeIs (.ref a) "tuple" := ⟨o, h1, h2⟩
      unfold hashByValue
      refine wpAny_bind (wpAny_specialOf hT F.slot_tuple_hash.lookup ?_)
      show wpAny _ _ (seqItems? (.ref a) >>= _) _ _ s
      refine wpAny_bind (wpAny_seqItems h1 h3 ?_)
      refine wpAny_bind ?_
      show wpAny _ _ (forIn vs _ _) _ _ s
      rw [← Array.forIn_toList]
      refine wpAny_forIn_list _ (fun rest r s' => s' = s ∧ ∀ v ∈ rest, ∃ k, NestedIs s.heap k v ∧ k.depth ≤ n) _ ?_ ?_ _ _ ⟨rfl, hall⟩
      · rintro u rest r s' ⟨e, hq⟩
        subst e
        obtain ⟨k', hk', hd'⟩ := hq u List.mem_cons_self
        refine wpAny_bind (ih hk' hd' fun b => ?_)
        cases b with
        | true =>
          simp only [Bool.not_true, Bool.false_eq_true, if_false]
          exact wpAny_pure ⟨rfl, fun y hy => hq y (List.mem_cons_of_mem _ hy)⟩
        | false =>
          simp only [Bool.not_false, if_true]
          exact wpAny_pure (wpAny_pure (h _))
      · rintro ⟨r1, r2⟩ s' ⟨e, _⟩
        subst e
        cases r1 with
        | none => exact wpAny_pure (h _)
        | some b => exact wpAny_pure (h _)
    | _ => exact wpAny_pure (h _)
end
end DL
set_option Elab.async false
set_option linter.all false
set_option maxRecDepth 100000
set_option maxHeartbeats 4000000
set_option pp.maxSteps 300
namespace DL
open PySem PySem.Spec PyProof.Rows L2
abbrev Mem := Addr × NestedKey
abbrev hsh (w : World) (p : Mem) : Int := p.2.hash w
def ents (w : World) (L : List Mem) : List (Int × Value) := L.map fun p => (hsh w p, .ref p.1)
structure HSet (P : Program) (w : World) (h : Heap) (a : Addr) (L : List Mem) (es : Array (Int × Value)) (ep : Nat) (t : SetTable) : Prop where
  at_ : ∃ o, h.get? a = some o ∧ o.ExactSet ∧ o.data = .set es ep t
  ent : es.toList = ents w L
  tab : TabOk t (L.map (hsh w))
  once : (L.map (·.2)).Nodup
  key : ∀ p ∈ L, (nestedKind P w).is h p.2 p.1
  led : w.params.followText "set-order" = true ∨ t.led = true
  room : L.length * 5 < t.mask * 3
  few : L.length < 64
section
variable {P : Program} {w : World} {A : Around} {E : Value → Shared → Prop} {s : Shared} {a : Addr} {L : List Mem} {es : Array (Int × Value)} {ep : Nat} {t : SetTable}
theorem ents_len (L : List Mem) : (ents w L).length = L.length := List.length_map _
theorem HSet.len {h : Heap} (R : HSet P w h a L es ep t) : es.size = L.length := by rw [← Array.length_toList, R.ent, ents_len]
theorem HSet.plen {h : Heap} (R : HSet P w h a L es ep t) : t.place.toList.length = L.length := by rw [Array.length_toList, R.tab.sz, List.length_map]
theorem HSet.fit {h : Heap} (R : HSet P w h a L es ep t) : t.fits es.size = true := by
  have e1 : t.place.size = L.length := R.plen
  have e2 := R.len
  have e3 := R.room
  unfold SetTable.fits SetTable.fill
  rw [R.tab.dm, Bool.and_eq_true, beq_iff_eq, decide_eq_true_eq]
  exact ⟨by omega, by show t.place.size + 0 ≤ t.mask; omega⟩
theorem HSet.get {h : Heap} (R : HSet P w h a L es ep t) {i : Nat} {p : Mem} (q : L[i]? = some p) : es[i]? = some (hsh w p, .ref p.1) := by
  rw [← Array.getElem?_toList, R.ent, ents, List.getElem?_map, q] <;> rfl
theorem not_gave {h : Heap} (R : HSet P w h a L es ep t) : t.gaveWay = false := by
  unfold SetTable.gaveWay
  rw [mask_odd R.tab.mok]
  rfl
theorem unseen {k : NestedKey} {b : Addr} {Q : Bool → Shared → Prop} (hk : (nestedKind P w).is s.heap k b) {ys : List Value} (hy : ∀ y ∈ ys, ∃ k' c, y = Value.ref c ∧ (nestedKind P w).is s.heap k' c) (h : Q false s) : wpAny (model P w) A (searchCouldBeSeen (.ref b) ys) Q E s := by
  unfold searchCouldBeSeen
  refine wpAny_bind (wpAny_forIn_list _ (fun rest r s' => r.1 = none ∧ s' = s ∧ ∀ y ∈ rest, ∃ k' c, y = Value.ref c ∧ (nestedKind P w).is s.heap k' c) _ (fun v rest r s' hv => ?_) (fun r s' hr => ?_) _ _ ⟨rfl, rfl, hy⟩)
  · obtain ⟨_, e, hq⟩ := hv
    subst e
    obtain ⟨k', c, e, hc⟩ := hq v List.mem_cons_self
    subst e
    have more : ∀ y ∈ rest, ∃ k' c, y = Value.ref c ∧ (nestedKind P w).is s'.heap k' c := fun y z => hq y (List.mem_cons_of_mem _ z)
    dsimp only
    by_cases v : (b == c || (carriedByValue (.ref b) && carriedByValue (.ref c))) = true
    · exact wp_if_pos v (wpAny_pure ⟨rfl, rfl, more⟩)
    · refine wp_if_neg v (wpAny_bind ((nestedKind P w).quiet hk ?_))
      simp only [Bool.not_true, Bool.false_eq_true, if_false]
      refine wpAny_bind ((nestedKind P w).quiet hc ?_)
      simp only [Bool.not_true, Bool.false_eq_true, if_false]
      refine wpAny_bind (nested_cls 8 hk.1 hk.2 ?_)
      simp only [Bool.false_eq_true, if_false]
      refine wpAny_bind (nested_cls 8 hc.1 hc.2 ?_)
      simp only [Bool.false_eq_true, if_false]
      exact wpAny_pure ⟨rfl, rfl, more⟩
  · obtain ⟨r1, r2⟩ := r
    obtain ⟨e1, e2, _⟩ := hr
    simp only at e1
    subst e1 e2
    exact wpAny_pure h
abbrev stp (m : Nat) (h : Int) (c : Nat) : SetTable.Probe := nth m (runAt m (SetTable.bits h % (m + 1)) (SetTable.bits h)) c
theorem no_dummy (m : Nat) : ∀ (n : Nat) (p : SetTable.Probe), p.dummy = none → (nth m p n).dummy = none
  | 0, _, h => h
  | n + 1, p, h => no_dummy m n (adv m p) (by unfold adv; split <;> exact h)
theorem stp_add (m : Nat) (h : Int) (c q : Nat) : nth m (stp m h c) q = stp m h (c + q) := (nth_add m c _ q).symm
theorem look_go (R : HSet P w s.heap a L es ep t) {x : Addr} {k : NestedKey} (hx : (nestedKind P w).is s.heap k x) (hu : A.units + 8 < cLine) {K : Nat} (kf : K < 10 * SetTable.turns t.mask) (kn : way t.mask (k.hash w) K ∉ t.place.toList) (kb : ∀ c, c < K → way t.mask (k.hash w) c ∈ t.place.toList)
    {Q : SetFound → Shared → Prop} (yes : k ∈ L.map (·.2) → Q (.there none) s) (no : k ∉ L.map (·.2) → Q (.free (way t.mask (k.hash w) K) false) s) : ∀ (f c : Nat) (st : Option SetTable.Probe), st.getD (t.probeStart (k.hash w)) = stp t.mask (k.hash w) c → c ≤ K → K - c < f →
      (∀ (i : Nat) (p : Mem), L[i]? = some p → p.2 = k → ∃ d, c ≤ d ∧ d < K ∧ t.place.toList[i]? = some (way t.mask (k.hash w) d)) → wpAny (model P w) A (setSearchFrom a (.ref x) (k.hash w) true f st) Q E s := by
  obtain ⟨o, ho, hex, hd⟩ := R.at_
  have hA : ∀ (i : Nat) (p : Mem), L[i]? = some p → (es[i]?.map (·.1)).getD 0 = p.2.hash w := fun i p q => by rw [R.get q] <;> rfl
  intro f
  induction f with
  | zero => exact fun c st _ _ z _ => absurd z (Nat.not_lt_zero _)
  | succ f ih =>
    intro c st e0 hc hf hre
    rw [setSearchFrom_succ]
    refine wpAny_bind (wpAny_setState_of ho hd R.fit ?_)
    dsimp only
    refine wp_if_neg (by rw [not_gave R]; exact Bool.false_ne_true) ?_
    try refine wpAny_bind (wpAny_pure ?_)
    have wy : ∀ q, (nth t.mask (stp t.mask (k.hash w) c) q).j = way t.mask (k.hash w) (c + q) := fun q => congrArg SetTable.Probe.j (stp_add t.mask (k.hash w) c q)
    have pass : ∀ (d i : Nat) (p : Mem), L[i]? = some p → p.2 = k → c ≤ d → t.place.toList[i]? = some (way t.mask (k.hash w) d) → t.place.toList[i]? = some (nth t.mask (stp t.mask (k.hash w) c) (d - c)).j := fun d i p _ _ z1 z2 => by rw [wy, show c + (d - c) = d by omega]; exact z2
    rcases go_spec t R.tab.ris R.tab.dm (fun i => (es[i]?.map (·.1)).getD 0) (k.hash w) (10 * SetTable.turns t.mask) (K - c) (stp t.mask (k.hash w) c) (no_dummy _ c _ rfl) (by omega) (fun q hq => by rw [wy]; exact kb _ (by omega)) (by rw [wy, show c + (K - c) = K by omega]; exact kn) with ⟨q, i, hq, hi, hh, hno, hpr⟩ | ⟨hno, hpr⟩
    · have hpr2 : t.probe (fun i => (es[i]?.map (·.1)).getD 0) (k.hash w) (st.getD (t.probeStart (k.hash w))) = some (.candidate (way t.mask (k.hash w) (c + q)) i (stp t.mask (k.hash w) (c + (q + 1)))) := by
        rw [e0, ← wy, ← stp_add]; exact hpr
      rw [hpr2]
      dsimp only
      rw [wy] at hi
      have hil : i < L.length := by rw [← R.plen]; exact (List.getElem?_eq_some_iff.mp hi).1
      obtain ⟨p, hp⟩ : ∃ p, L[i]? = some p := ⟨_, List.getElem?_eq_getElem hil⟩
      have pm : p ∈ L := List.mem_of_getElem? hp
      have here : t.slot (way t.mask (k.hash w) (c + q)) = .live i := slot_live R.tab.ris hi
      have next : wpAny (model P w) A (searchRest a (.ref x) (k.hash w) true f es t (way t.mask (k.hash w) (c + q)) i (stp t.mask (k.hash w) (c + (q + 1)))) Q E s := by
        unfold searchRest
        rw [R.get hp]
        dsimp only
        refine wpAny_bind (wpAny_holding ((nestedKind P w).eqBool hu (R.key p pm) hx (wpAny_bind (wpAny_setState_of ho hd R.fit ?_))))
        dsimp only
        by_cases e : p.2 = k
        · exact wp_if_pos (by simp [e]) (wpAny_pure (yes (List.mem_map.mpr ⟨p, pm, e⟩)))
        · refine wp_if_neg (by simp [e]) ?_
          try refine wpAny_bind (wpAny_pure ?_)
          rw [sameMem]
          dsimp only
          simp only [if_true, here, R.get hp]
          refine wpAny_bind (wpAny_isSame_ref_self (wpAny_bind (wpAny_pure ?_)))
          simp only [if_true]
          refine wp_if_neg (by simp [e]) (ih (c + (q + 1)) _ rfl (by omega) (by omega) fun j r hj hr => ?_)
          obtain ⟨d, d1, d2, d3⟩ := hre j r hj hr
          refine ⟨d, ?_, d2, d3⟩
          rcases Nat.lt_trichotomy d (c + q) with z | z | z
          · exact absurd ((hA j r hj).trans (congrArg (·.hash w) hr)) (hno (d - c) j (by omega) (pass d j r hj hr d1 d3))
          · exfalso
            rw [z] at d3
            have s0 := slot_live R.tab.ris d3
            rw [here] at s0
            injection s0 with s0
            rw [← s0, hp] at hj
            exact e ((congrArg Prod.snd (Option.some.inj hj)).trans hr)
          · omega
      by_cases hl : t.led = true
      · refine wp_if_neg (by simp [hl]) ?_
        try refine wpAny_bind (wpAny_pure ?_)
        exact next
      · refine wp_if_pos (by simp [hl]) (wpAny_bind (unseen hx (fun y hy => ?_) ?_))
        · obtain ⟨z, hz, ez⟩ := List.mem_map.mp hy
          have hz2 : z ∈ es.toList := by
            have : z ∈ es ∧ z.1 = k.hash w := by simpa using hz
            simpa using this.1
          rw [R.ent] at hz2
          obtain ⟨r, hr, er⟩ := List.mem_map.mp hz2
          exact ⟨r.2, r.1, by rw [← ez, ← er], R.key r hr⟩
        · refine wp_if_neg (by decide) ?_
          try refine wpAny_bind (wpAny_pure ?_)
          exact next
    · have hpr2 : t.probe (fun i => (es[i]?.map (·.1)).getD 0) (k.hash w) (st.getD (t.probeStart (k.hash w))) = some (.empty (way t.mask (k.hash w) K) none) := by
        have e2 : way t.mask (k.hash w) K = (nth t.mask (stp t.mask (k.hash w) c) (K - c)).j := by rw [wy, show c + (K - c) = K by omega]
        rw [e0, e2]; exact hpr
      rw [hpr2]
      dsimp only
      refine wpAny_pure (no fun hm => ?_)
      obtain ⟨r, hr, er⟩ := List.mem_map.mp hm
      obtain ⟨j, hj, ej⟩ := List.getElem_of_mem hr
      have hj2 : L[j]? = some r := by rw [List.getElem?_eq_getElem hj, ej]
      obtain ⟨d, d1, d2, d3⟩ := hre j r hj2 er
      exact hno (d - c) j (by omega) (pass d j r hj2 er d1 d3) ((hA j r hj2).trans (congrArg (·.hash w) er))
theorem look_at (R : HSet P w s.heap a L es ep t) {x : Addr} {k : NestedKey} (hx : (nestedKind P w).is s.heap k x) (hu : A.units + 8 < cLine) {Q : SetFound → Shared → Prop} (yes : k ∈ L.map (·.2) → Q (.there none) s)
    (no : ∀ K, k ∉ L.map (·.2) → way t.mask (k.hash w) K ∉ t.place.toList → (∀ c, c < K → way t.mask (k.hash w) c ∈ t.place.toList) → Q (.free (way t.mask (k.hash w) K) false) s) : wpAny (model P w) A (setSearch a (.ref x) (k.hash w) true) Q E s := by
  have rm := R.room
  obtain ⟨K, kf, kn, kb⟩ := R.tab.first (by rw [List.length_map]; omega) (k.hash w)
  have big : 10 * SetTable.turns t.mask ≤ 1420 := by
    unfold SetTable.turns
    rcases R.tab.mok with e | e | e <;> omega
  unfold setSearch
  refine look_go R hx hu kf kn kb yes (fun z => no K z kn kb) 100000 0 none rfl (Nat.zero_le _) (by omega) fun i p hp hk => ?_
  have hi : (L.map (hsh w))[i]? = some (k.hash w) := by rw [List.getElem?_map, hp, ← hk] <;> rfl
  have hj := List.getElem?_eq_getElem (show i < t.place.toList.length by rw [R.plen]; exact (List.getElem?_eq_some_iff.mp hp).1)
  obtain ⟨c, hc, e⟩ := R.tab.before kn hi hj
  exact ⟨c, Nat.zero_le _, hc, by rw [hj, e]⟩
theorem ents_order (es : Array (Int × Value)) (order : Array Nat) (hr : es.toList = ents w L) (hp : order.toList.Perm (List.range L.length)) : ∃ L', (order.filterMap (es[·]?)).toList = ents w L' ∧ L'.Perm L ∧ L'.map (hsh w) = order.toList.map fun i => (es.map (·.1)).getD i 0 := by
  have hin : ∀ i ∈ order.toList, i < L.length := fun i hi => List.mem_range.mp (hp.mem_iff.mp hi)
  have hes : ∀ (i : Nat) (h : i < L.length), es[i]? = some (hsh w L[i], .ref L[i].1) := fun i h => by
    rw [← Array.getElem?_toList, hr, ents, List.getElem?_map, List.getElem?_eq_getElem h] <;> rfl
  refine ⟨order.toList.filterMap (L[·]?), ?_, ?_, ?_⟩
  · rw [Array.toList_filterMap]
    generalize order.toList = l at hin
    induction l with
    | nil => rfl
    | cons i l ih =>
      have hi := hin i List.mem_cons_self
      rw [List.filterMap_cons, hes i hi, List.filterMap_cons, List.getElem?_eq_getElem hi]
      show _ :: _ = _ :: _
      rw [ih fun j hj => hin j (List.mem_cons_of_mem _ hj)]
      rfl
  · have h1 := hp.filterMap (L[·]?)
    have h2 : (List.range L.length).filterMap (L[·]?) = L := by
      have h3 : ∀ (l : List Nat), (∀ i ∈ l, i < L.length) → l.filterMap (L[·]?) = l.map fun i => L.getD i (0, .none) := by
        intro l hl
        induction l with
        | nil => rfl
        | cons i l ih =>
          have hi := hl i List.mem_cons_self
          rw [List.filterMap_cons, List.getElem?_eq_getElem hi, ih fun j hj => hl j (List.mem_cons_of_mem _ hj)]
          simp [List.getD, List.getElem?_eq_getElem hi]
      rw [h3 _ fun i hi => List.mem_range.mp hi]
      refine List.ext_getElem (by simp) fun i h4 h5 => ?_
      simp [List.getD, List.getElem?_eq_getElem h5]
    rwa [h2] at h1
  · generalize order.toList = l at hin
    induction l with
    | nil => rfl
    | cons i l ih =>
      have hi := hin i List.mem_cons_self
      rw [List.filterMap_cons, List.getElem?_eq_getElem hi]
      show hsh w L[i] :: List.map _ _ = _ :: _
      rw [ih fun j hj => hin j (List.mem_cons_of_mem _ hj)]
      have e : (es.map (·.1)).getD i 0 = hsh w L[i] := by
        have := hes i hi
        rw [Array.getD_eq_getD_getElem?, Array.getElem?_map, this]
        rfl
      exact congrArg (· :: _) e.symm
end
end DL
set_option Elab.async false
set_option linter.all false
set_option maxRecDepth 100000
set_option maxHeartbeats 4000000
set_option pp.maxSteps 300
namespace DL
open PySem PySem.Spec PyProof.Rows L2
section
variable {P : Program} {w : World} {A : Around} {E : Value → Shared → Prop} {s : Shared} {a : Addr} {L : List Mem} {es : Array (Int × Value)} {ep : Nat} {t : SetTable}
theorem key_same {h h' : Heap} {k : NestedKey} {b : Addr} {o : Obj} (hb : (nestedKind P w).is h k b) (ho : h.get? a = some o) (hd : o.data = .set es ep t) (sb : Heap.SameBut a h h') : (nestedKind P w).is h' k b :=
  nestedKind_stays.stays (fun c oc vs n hc hq => (sb.2 c fun e => by
    subst e
    rw [ho] at hc
    cases hc
    rw [hd] at hq
    cases hq).trans hc) hb
structure HTab (P : Program) (w : World) (h : Heap) (L : List Mem) (es : Array (Int × Value)) (t : SetTable) : Prop where
  ent : es.toList = ents w L
  tab : TabOk t (L.map (hsh w))
  once : (L.map (·.2)).Nodup
  key : ∀ p ∈ L, (nestedKind P w).is h p.2 p.1
  led : w.params.followText "set-order" = true ∨ t.led = true
  few : L.length < 64
theorem relay_h {o : Obj} (ho : s.heap.get? a = some o) (hex : o.ExactSet) (hd : o.data = .set es ep t) (T : HTab P w s.heap L es t) (full : L.length ≤ t.mask) {want M : Nat} (hw : SetTable.sizeAbove want - 1 = M) (hM : MaskOk M) (hw2 : SetTable.sizeAbove want ≤ 128) (hn : L.length * 5 < M * 3) {Q : Unit → Shared → Prop}
    (hQ : ∀ h' L' es' ep' t', Heap.SameBut a s.heap h' → HSet P w h' a L' es' ep' t' → L'.Perm L → Q () { s with heap := h' }) : wpAny (model P w) A (setRelay a want) Q E s := by
  have e1 : es.size = L.length := by rw [← Array.length_toList, T.ent, ents_len]
  have e2 : t.place.size = L.length := by rw [T.tab.sz, List.length_map]
  have ft : t.fits es.size = true := by
    unfold SetTable.fits SetTable.fill
    rw [T.tab.dm, Bool.and_eq_true, beq_iff_eq, decide_eq_true_eq]
    exact ⟨by omega, by show t.place.size + 0 ≤ t.mask; omega⟩
  obtain ⟨t', order, e, hp, T', em, el, _, _⟩ := relaid_ok t (hs := es.map (·.1)) (wanted := want) hw hM (by rw [Array.size_map, e1]; omega)
  rw [Array.size_map, e1] at hp
  obtain ⟨L', r1, r2, r3⟩ := ents_order es order T.ent hp
  rw [← r3] at T'
  have e3 : (order.filterMap (es[·]?)).size = es.size := by rw [← Array.length_toList, r1, ents_len, r2.length_eq, e1]
  rw [setRelay_eq]
  refine wpAny_bind (wpAny_setState_of ho hd ft ?_)
  dsimp only
  refine wp_if_neg (by rw [sizeLine_eq]; omega) ?_
  try refine wpAny_bind (wpAny_pure ?_)
  rw [e]
  dsimp only
  refine wpAny_bind (wp_if_neg (by rw [e3]; simp) ?_)
  try refine wpAny_bind (wpAny_pure ?_)
  refine wpAny_pure ?_
  dsimp only
  have sb : Heap.SameBut a s.heap (s.heap.update a (Obj.putSet (order.filterMap (es[·]?)) t')) := Heap.SameBut.update ..
  have len := r2.length_eq
  exact wpAny_storeSet_of ho hd (hQ _ L' (order.filterMap (es[·]?)) (ep + 1) t' sb ⟨⟨_, store_at ho hd, ⟨hex.1, hex.2.1, hex.2.2⟩, rfl⟩, r1, T', (r2.map (·.2)).nodup_iff.mpr T.once, fun p z => key_same (T.key p (r2.mem_iff.mp z)) ho hd sb, by rw [el]; exact T.led, by rw [len, em]; exact hn, by rw [len]; exact T.few⟩ r2) (by rw [e3, e1, sizeLine_eq]; have := T.few; omega)
theorem ins_perm {α : Type} (l : List α) (p : Nat) (x : α) : (l.take p ++ x :: l.drop p).Perm (x :: l) := by
  have h := List.perm_middle (a := x) (l₁ := l.take p) (l₂ := l.drop p)
  rwa [List.take_append_drop] at h
theorem add_h (R : HSet P w s.heap a L es ep t) {x : Addr} {k : NestedKey} (hx : (nestedKind P w).is s.heap k x) (hu : A.units + 8 < cLine) (hf : L.length + 1 < 64) {Q : Bool → Shared → Prop}
    (hQ : ∀ b h' L' es' ep' t', Heap.SameBut a s.heap h' → HSet P w h' a L' es' ep' t' → (k ∈ L.map (·.2) → L' = L) → (k ∉ L.map (·.2) → L'.Perm ((x, k) :: L)) → Q b { s with heap := h' }) : wpAny (model P w) A (setAddHashed a (.ref x) (k.hash w)) Q E s := by
  obtain ⟨o, ho, hex, hd⟩ := R.at_
  have sl := R.len
  have rm := R.room
  unfold setAddHashed
  refine wpAny_holding ?_
  rw [show (100000 : Nat) = 99999 + 1 from rfl, setAddHashedIn_succ]
  refine wpAny_bind (wpAny_setState_of ho hd R.fit ?_)
  dsimp only
  refine wp_if_neg (by simp [byScan, Value.scannable]) ?_
  try refine wpAny_bind (wpAny_pure ?_)
  refine wpAny_bind (look_at R hx hu (fun z => ?_) fun K z kn kb => ?_)
  · exact wpAny_pure (hQ false s.heap L es ep t (Heap.SameBut.refl a s.heap) R (fun _ => rfl) fun q => absurd z q)
  dsimp only
  refine wpAny_bind (wpAny_setState_of ho hd R.fit ?_)
  dsimp only
  obtain ⟨q1, q2, q3, q4, q5, _, _, _, q9⟩ := R.tab.put kn kb
  generalize t.put (way t.mask (k.hash w) K) = pt at q1 q3 q4 q5 q9 ⊢
  obtain ⟨t1, p⟩ := pt
  dsimp only at q1 q3 q4 q5 q9 ⊢
  subst q1
  generalize SetTable.below t.place (way t.mask (k.hash w) K) = p at q2 q3 ⊢
  have pm := ins_perm L p (x, k)
  have hin : (SetTable.insertAt es p (k.hash w, Value.ref x)).toList = ents w (L.take p ++ (x, k) :: L.drop p) := by
    rw [SetTable.toList_insertAt, R.ent, ents, ents, List.map_append, List.map_cons, List.map_take, List.map_drop]
  have hhs : (L.take p ++ (x, k) :: L.drop p).map (hsh w) = (L.map (hsh w)).take p ++ k.hash w :: (L.map (hsh w)).drop p := by rw [List.map_append, List.map_cons, List.map_take, List.map_drop]
  rw [← hhs] at q3
  have len : (L.take p ++ (x, k) :: L.drop p).length = L.length + 1 := pm.length_eq
  have nd : ((L.take p ++ (x, k) :: L.drop p).map (·.2)).Nodup := (pm.map (·.2)).nodup_iff.mpr (List.nodup_cons.mpr ⟨z, R.once⟩)
  generalize SetTable.insertAt es p (k.hash w, Value.ref x) = es1 at hin ⊢
  generalize L.take p ++ (x, k) :: L.drop p = L1 at pm len q3 nd hin
  have ls : es1.size = L.length + 1 := by rw [← Array.length_toList, hin, ents_len, len]
  -- what follows, whatever the table's mark is
  have rest : ∀ t2 : SetTable, t2.mask = t1.mask → t2.led = t1.led → t2.fill = t1.fill → TabOk t2 (L1.map (hsh w)) → wpAny (model P w) A (do
      storeSet a es1 t2
      if (!false && t2.tooFull) = true then setRelay a (SetTable.grown (es.size + 1))
      return true) Q E s := by
    intro t2 m2 l2 f2 T2
    refine wpAny_bind (wpAny_storeSet_of ho hd ?_ (by rw [ls, sizeLine_eq]; omega))
    have sb : Heap.SameBut a s.heap (s.heap.update a (Obj.putSet es1 t2)) := Heap.SameBut.update ..
    have ho1 := store_at (es' := es1) (t' := t2) ho hd
    generalize s.heap.update a (Obj.putSet es1 t2) = h1 at sb ho1 ⊢
    have ks : ∀ q ∈ L1, (nestedKind P w).is h1 q.2 q.1 := fun q hq => by
      rcases List.mem_cons.mp (pm.mem_iff.mp hq) with e | hq
      · rw [e]; exact key_same hx ho hd sb
      · exact key_same (R.key q hq) ho hd sb
    have ld : w.params.followText "set-order" = true ∨ t2.led = true := by rw [l2, q5]; exact R.led
    have fe : t2.fill = L.length + 1 := by rw [f2, q9, List.length_map]
    by_cases c : t2.tooFull = true
    · have big : (L.length + 1) * 5 ≥ t2.mask * 3 := by
        unfold SetTable.tooFull at c
        rw [decide_eq_true_eq, fe] at c
        exact c
      have two : (t.mask = 7 ∧ L.length = 4) ∨ (t.mask = 31 ∧ L.length = 18) := by
        rw [m2, q4] at big
        rcases R.tab.mok with e | e | e <;> rw [e] at big rm
        · exact .inl ⟨e, by omega⟩
        · exact .inr ⟨e, by omega⟩
        · omega
      have go : ∀ M, SetTable.sizeAbove (SetTable.grown (L.length + 1)) - 1 = M → MaskOk M → SetTable.sizeAbove (SetTable.grown (L.length + 1)) ≤ 128 → (L.length + 1) * 5 < M * 3 → wpAny (model P w) A (setRelay a (SetTable.grown (L.length + 1))) (fun _ s' => wpAny (model P w) A (pure true) Q E s') E { s with heap := h1 } := fun M g1 g2 g3 g4 =>
        relay_h (s := { s with heap := h1 }) ho1 ⟨hex.1, hex.2.1, hex.2.2⟩ rfl ⟨hin, T2, nd, ks, ld, by rw [len]; exact hf⟩ (by rw [len, m2, q4]; rcases two with e | e <;> omega) g1 g2 g3 (by rw [len]; exact g4) fun h2 L2 es2 ep2 t3 sb2 R2 pm2 => wpAny_pure (hQ true h2 L2 es2 ep2 t3 (sb.trans sb2) R2 (fun y => absurd y z) fun _ => pm2.trans pm)
      rw [sl]
      have go2 : wpAny (model P w) A (setRelay a (SetTable.grown (L.length + 1))) (fun _ s' => wpAny (model P w) A (pure true) Q E s') E { s with heap := h1 } := by
        rcases two with ⟨_, e⟩ | ⟨_, e⟩
        · exact go 31 (by rw [e, size_20]) (.inr (.inl rfl)) (by rw [e, size_20]; decide) (by omega)
        · exact go 127 (by rw [e, size_76]) (.inr (.inr rfl)) (by rw [e, size_76]; decide) (by omega)
      first
        | exact wp_if_pos (by simp [c]) (wpAny_bind go2)
        | exact wpAny_bind (wp_if_pos (by simp [c]) go2)
    · have fin : Q true { s with heap := h1 } := hQ true h1 L1 es1 (ep + 1) t2 sb ⟨⟨_, ho1, ⟨hex.1, hex.2.1, hex.2.2⟩, rfl⟩, hin, T2, nd, ks, ld, by
          unfold SetTable.tooFull at c
          rw [decide_eq_true_eq, fe] at c
          rw [len]; omega, by rw [len]; exact hf⟩ (fun y => absurd y z) fun _ => pm
      first
        | exact wp_if_neg (by simp [c]) (wpAny_pure fin)
        | exact wpAny_bind (wp_if_neg (by simp [c]) (wpAny_pure (wpAny_pure fin)))
  by_cases pl : t1.plain = true
  · first
      | refine wp_if_pos pl (wpAny_bind (nested_byv 8 hx.1 hx.2 fun r => ?_))
      | (refine wpAny_bind (wp_if_pos pl ?_); refine nested_byv 8 hx.1 hx.2 fun r => ?_)
    cases r with
    | true => exact rest t1 rfl rfl rfl q3
    | false => exact rest { t1 with plain := false } rfl rfl rfl ⟨q3.ris, q3.dm, q3.sz, q3.mok, q3.bd, q3.reach⟩
  · first
      | (refine wp_if_neg pl ?_; exact rest t1 rfl rfl rfl q3)
      | (refine wpAny_bind (wp_if_neg pl (wpAny_pure ?_)); exact rest t1 rfl rfl rfl q3)
end
end DL
set_option Elab.async false
set_option linter.all false
set_option maxRecDepth 100000
set_option maxHeartbeats 4000000
set_option pp.maxSteps 300
namespace DL
open PySem PySem.Spec PyProof.Rows L2
def SetH0 (P : Program) (w : World) (h : Heap) (a : Addr) (L : List Mem) : Prop := ∃ es ep t, (∃ o, h.get? a = some o ∧ o.ExactSet ∧ o.data = .set es ep t) ∧ es.toList = ents w L ∧ TabOk t (L.map (hsh w)) ∧ (L.map (·.2)).Nodup ∧ (w.params.followText "set-order" = true ∨ t.led = true) ∧ L.length * 5 < t.mask * 3 ∧ L.length < 64
section
variable {P : Program} {w : World} {A : Around} {E : Value → Shared → Prop} {a : Addr} {L : List Mem} {es : Array (Int × Value)} {ep : Nat} {t : SetTable} {h h' : Heap}
theorem HSet.own (R : HSet P w h a L es ep t) : SetH0 P w h a L := ⟨es, ep, t, R.at_, R.ent, R.tab, R.once, R.led, R.room, R.few⟩
theorem SetH0.at (R : SetH0 P w h a L) (k : ∀ o, h.get? a = some o → h'.get? a = some o) : SetH0 P w h' a L := by
  obtain ⟨es, ep, t, ⟨o, h1, h2, h3⟩, r⟩ := R
  exact ⟨es, ep, t, ⟨o, k o h1, h2, h3⟩, r⟩
theorem SetH0.full (R : SetH0 P w h a L) (ks : ∀ p ∈ L, (nestedKind P w).is h p.2 p.1) : ∃ es ep t, HSet P w h a L es ep t := by
  obtain ⟨es, ep, t, h1, h2, h3, h4, h5, h6, h7⟩ := R
  exact ⟨es, ep, t, h1, h2, h3, h4, ks, h5, h6, h7⟩
def SetHO (P : Program) (w : World) (a : Addr) (L : List Mem) : HO := .ext fun h => SetH0 P w h a L
theorem setHO_new {H : Hp} (R : SetH0 P w h a L) : ObjOk P w H h a (SetHO P w a L) := by
  have ⟨_, _, _, ⟨o, ho, _⟩, _⟩ := R
  exact ⟨R, ⟨o, ho⟩, fun h1 h2 q k => q.at k⟩
structure IvH (P : Program) (w : World) (h0 : Heap) (S : Addr) (ns : List Mem) (i : Nat) (h : Heap) : Prop where
  old : ∀ b o, h0.get? b = some o → h.get? b = some o
  set : ∃ L, SetH0 P w h S L ∧ (∀ p ∈ L, p ∈ ns.take i) ∧ (∀ p ∈ ns.take i, p.2 ∈ L.map (·.2)) ∧ L.length ≤ i
theorem ivH_add {h0 : Heap} {S : Addr} {ns : List Mem} {at_ : Nat → Value → Prop} (hl : ns.length < 64) (hu : A.units + 8 < cLine) (hS : h0.get? S = none) (hk : ∀ p ∈ ns, (nestedKind P w).is h0 p.2 p.1) (ha : ∀ i v, at_ i v → ∃ p, ns[i]? = some p ∧ v = Value.ref p.1) : AddsAt P w A S at_ (IvH P w h0 S ns) := by
  intro i v s Q E hv ⟨old, L, R0, h1, h2, h3⟩ k
  obtain ⟨z, e1, rfl⟩ := ha i v hv
  have hi : i < ns.length := (List.getElem?_eq_some_iff.mp e1).1
  have zm : z ∈ ns := List.mem_of_getElem? e1
  have keys : ∀ p ∈ ns, (nestedKind P w).is s.heap p.2 p.1 := fun p hp => nestedKind_stays.stays (fun b o _ _ q _ => old b o q) (hk p hp)
  have hin : ∀ y, y ∈ ns.take (i + 1) ↔ y ∈ ns.take i ∨ y = z := fun y => by
    rw [List.take_add_one, e1, List.mem_append]
    exact or_congr Iff.rfl List.mem_singleton
  obtain ⟨es, ep, t, R⟩ := R0.full fun p hp => keys p (List.mem_of_mem_take (h1 p hp))
  unfold setAdd
  refine wpAny_holding (wpAny_bind ((nestedKind P w).pyHash (k := z.2) hu (keys z zm) ?_))
  refine add_h (s := { s with toks := s.toks + z.2.draws }) R (keys z zm) hu (by omega) fun b h' L' es' ep' t' sb R' c1 c2 => ?_
  have old' : ∀ b o, h0.get? b = some o → h'.get? b = some o := fun b o q => (sb.2 b fun e => by rw [e, hS] at q; cases q).trans (old b o q)
  refine k _ h' (s.toks + z.2.draws) sb (Nat.le_add_right _ _) ⟨old', L', R'.own, ?_, ?_, ?_⟩
  · intro p hp
    by_cases c : z.2 ∈ L.map (·.2)
    · rw [c1 c] at hp
      exact (hin p).mpr (.inl (h1 p hp))
    · rcases List.mem_cons.mp ((c2 c).mem_iff.mp hp) with e | hp
      · exact (hin p).mpr (.inr e)
      · exact (hin p).mpr (.inl (h1 p hp))
  · intro p hp
    by_cases c : z.2 ∈ L.map (·.2)
    · rw [c1 c]
      rcases (hin p).mp hp with hp | e
      · exact h2 p hp
      · rw [e]; exact c
    · have pm := (c2 c).map (·.2)
      refine pm.mem_iff.mpr ?_
      rcases (hin p).mp hp with hp | e
      · exact List.mem_cons_of_mem _ (h2 p hp)
      · rw [e]; exact List.mem_cons_self
  · by_cases c : z.2 ∈ L.map (·.2)
    · rw [c1 c]; omega
    · rw [(c2 c).length_eq, List.length_cons]; omega
end
end DL
set_option Elab.async false
set_option linter.all false
set_option maxRecDepth 100000
set_option maxHeartbeats 4000000
set_option pp.maxSteps 300
namespace DL
open PySem PySem.Spec PyProof.Rows L2
section
variable {P : Program} {w : World}
theorem setH_fresh {h : Heap} : SetH0 P w (h.push (newSetO w)) h.objs.size [] := by
  have R := setTR_fresh (P := P) (w := w) (h := h.push (newSetO w)) (a := h.objs.size) (Heap.get?_push_size _ rfl)
  exact ⟨_, _, _, R.ob, R.rows, R.tab, List.nodup_nil, R.led, R.room, R.few⟩
end
section
variable {X : Cx}
theorem key_of_dp {pins : List (Addr × Obj)} {σ : L2.St} {H : Hp} {s : Shared} (I : Inv X pins σ H s) {b : Addr} {k : NestedKey} (d : Dp X.kw H (.ref b) k.data) (hd : k.depth ≤ 8) : (nestedKind X.prog X.w).is s.heap k b := by
  obtain ⟨as, r⟩ := Dp.reads I _ _ (Value.ref b) d rfl
  exact ⟨reads_key k _ _ r, hd⟩
theorem mem_refs : ∀ {ns : List Mem} {us : List Value}, Vals (ns.map fun p => V.ref p.1) us → us = ns.map fun p => Value.ref p.1
  | [], _, .nil => rfl
  | p :: ns, u :: us, .cons h t => by
    have e : u = Value.ref p.1 := h
    rw [List.map_cons, e, ← mem_refs t]
def rSetH (K : KW) (P : Program) (w : World) : List V → Hp → VK → Prop := fun vs H Q => ∃ (l : Addr) (ns : List Mem), vs = [V.ref l] ∧ (SqL K H l (ns.map fun p => V.ref p.1) ∨ SqT K H l (ns.map fun p => V.ref p.1)) ∧ (∀ p ∈ ns, Dp K H (.ref p.1) p.2.data ∧ p.2.depth ≤ 8) ∧ ns.length < 64 ∧
  ∀ (L : List Mem) (q : Addr), (L.map (·.2)).Nodup → (∀ p ∈ L, p ∈ ns) → (∀ p ∈ ns, p.2 ∈ L.map (·.2)) → H q = none → Q (.ref q) (upd H q (SetHO P w q L))
theorem cr_setH (hc : X.calm = true) (hu : X.A.units + 64 < cLine) : CallR X (.type "set") (rSetH X.kw X.prog X.w) := by
  intro pins s σ H vs us Q I r ⟨l, ns, ev, hsq, hk, hl, k⟩
  subst ev
  have hd : X.A.handled = none := I.ok.hd hc
  obtain ⟨u, rfl, ru⟩ := vals1 r
  obtain rfl : u = Value.ref l := ru
  have keys : ∀ p ∈ ns, (nestedKind X.prog X.w).is s.heap p.2 p.1 := fun p hp => key_of_dp I (hk p hp).1 (hk p hp).2
  have at_of : ∀ (its : List Value), Vals (ns.map fun p => V.ref p.1) its → ∀ (i : Nat) (v : Value), its.toArray[i]? = some v → ∃ p, ns[i]? = some p ∧ v = Value.ref p.1 := fun its rv i v hv => by
    rw [mem_refs rv] at hv
    have hv' : (ns.map fun p => Value.ref p.1)[i]? = some v := by simpa using hv
    rw [List.getElem?_map] at hv'
    obtain ⟨p, e1, e2⟩ := Option.map_eq_some_iff.mp hv'
    exact ⟨p, e1, e2.symm⟩
  have noS : s.heap.get? s.heap.objs.size = none := by
    cases q : s.heap.get? s.heap.objs.size with
    | none => rfl
    | some o => exact absurd (Heap.lt_size q) (Nat.lt_irrefl _)
  have start : IvH X.prog X.w s.heap s.heap.objs.size ns 0 (s.heap.push (newSetO X.w)) := ⟨fun b o e => Heap.get?_push_of_some _ e, [], setH_fresh, (fun p z => absurd z List.not_mem_nil), (fun p z => absurd (show p ∈ [] from z) List.not_mem_nil), Nat.le_refl _⟩
  have mono : ∀ i (h h' : Heap), IvH X.prog X.w s.heap s.heap.objs.size ns i h → (∀ b o, b ≤ s.heap.objs.size → h.get? b = some o → h'.get? b = some o) → IvH X.prog X.w s.heap s.heap.objs.size ns i h' := fun i h h' ⟨old, L, R, q⟩ kp =>
    ⟨fun b o e => kp b o (Nat.le_of_lt (Heap.lt_size e)) (old b o e), L, R.at fun o e => kp _ o (Nat.le_refl _) e, q⟩
  have fin : ∀ (its : List Value) (h' : Heap) (tk : Nat), its.length = ns.length → IvH X.prog X.w s.heap s.heap.objs.size ns its.toArray.size h' → (∀ b o, s.heap.get? b = some o → h'.get? b = some o) → EP X pins σ Q (.ref s.heap.objs.size) { s with heap := h', toks := tk } := fun its h' tk el ⟨_, L, R, q1, q2, _⟩ kp => by
    have sz : its.toArray.size = ns.length := by rw [List.size_toArray]; exact el
    rw [sz, List.take_length] at q1 q2
    have nd : (L.map (·.2)).Nodup := by
      obtain ⟨_, _, _, _, _, _, z, _⟩ := R
      exact z
    exact ⟨.ref _, upd H s.heap.objs.size (SetHO X.prog X.w s.heap.objs.size L), I.laid (t' := tk) kp (Nat.le_refl _) (setHO_new R), rfl, k L _ nd q1 q2 (I.hok.fresh (Nat.le_refl _))⟩
  rcases hsq with hsq | hsq
  · obtain ⟨its, rv, pl, _⟩ := I.list hsq
    have el : its.length = ns.length := by rw [← rv.length, List.length_map]
    exact call_set_by hd pl.isList (IvH X.prog X.w s.heap s.heap.objs.size ns) mono start (fun A' hA => ivH_add hl (by first | omega | (have := hA; omega)) noS keys (at_of its rv)) fun h' tk iv kp => fin its h' tk el iv kp
  · obtain ⟨its, rv, pl, _⟩ := I.tuple hsq
    have el : its.length = ns.length := by rw [← rv.length, List.length_map]
    exact call_set_byT hd pl (IvH X.prog X.w s.heap s.heap.objs.size ns) mono start (fun A' hA => ivH_add hl (by first | omega | (have := hA; omega)) noS keys (at_of its rv)) fun h' tk iv kp => fin its h' tk el iv kp
end
end DL
set_option Elab.async false
set_option linter.all false
set_option maxRecDepth 100000
set_option maxHeartbeats 4000000
set_option pp.maxSteps 300
namespace DL
open PySem PySem.Spec PyProof.Rows L2
open PySem.W (dataLe EachIs)
mutual
theorem key_no {h : Heap} : ∀ (k : NestedKey) {v : Value} {as : List Addr}, Reads h v k.data as → as = []
  | .none, _, _, r => by rw [NestedKey.data] at r; cases r; rfl
  | .num _, _, _, r => by rw [NestedKey.data] at r; cases r; rfl
  | .text _, _, _, r => by rw [NestedKey.data] at r; cases r; rfl
  | .tup ks, _, _, r => by
    rw [NestedKey.data] at r
    cases r with
    | tuple _ _ _ h4 => exact keys_no ks h4
theorem keys_no {h : Heap} : ∀ (ks : List NestedKey) {vs : List Value} {as : List Addr}, ReadsAll h vs (NestedKey.datas ks) as → as = []
  | [], _, _, r => by rw [NestedKey.datas] at r; cases r; rfl
  | k :: ks, _, _, r => by
    rw [NestedKey.datas] at r
    cases r with
    | cons h1 h2 => rw [key_no k h1, keys_no ks h2]; rfl
end
section
variable {X : Cx}
abbrev encM (p : Mem) : Dt := p.2.data
theorem refs_pair : ∀ (L : List Mem), Paired (fun (v : Value) (p : Mem) => v = Value.ref p.1) (L.map fun p => Value.ref p.1) L
  | [] => .nil
  | p :: L => .cons rfl (refs_pair L)
theorem each_refs : ∀ {us : List Value} {L : List Mem}, EachIs (fun v (p : Mem) => v = Value.ref p.1) us L → Vals (L.map fun p => V.ref p.1) us
  | _, _, .nil => .nil
  | _, _, .cons h r => .cons h (each_refs r)
theorem each_with {R S : Value → Mem → Prop} : ∀ {us : List Value} {L : List Mem}, EachIs R us L → (∀ v p, p ∈ L → R v p → S v p) → EachIs S us L
  | _, _, .nil, _ => .nil
  | _, _, .cons h r, k => .cons (k _ _ List.mem_cons_self h) (each_with r fun v p hp => k v p (List.mem_cons_of_mem _ hp))
def rSortedH (K : KW) (P : Program) (w : World) : List V → Hp → VK → Prop := fun vs H Q => ∃ (l : Addr) (L : List Mem), vs = [.ref l] ∧ H l = some (SetHO P w l L) ∧ (∀ p ∈ L, Dp K H (.ref p.1) p.2.data) ∧ sortOk (L.map encM) = true ∧
  ∀ (L' : List Mem) (p : Addr), L'.map encM = sortD (L.map encM) → L'.Perm L → H p = none → Q (.ref p) (upd H p (.lst (L'.map fun p => V.ref p.1)))
theorem cr_sortedH (hc : X.calm = true) (hu : X.A.units + 64 < cLine) : CallR X (.builtin "sorted") (rSortedH X.kw X.prog X.w) := by
  intro pins s σ H vs us Q I r ⟨l, L, ev, hl, hk, ok, k⟩
  subst ev
  have hh : X.A.handled = none := I.ok.hd hc
  obtain ⟨u, rfl, ru⟩ := vals1 r
  obtain rfl : u = Value.ref l := ru
  obtain ⟨es, ep, t, ⟨o, ho, hex, hd⟩, he, T, nd, hled, hroom, few⟩ := (I.hok l _ hl).1
  have esz : es.size = L.length := by rw [← Array.length_toList, he, ents_len]
  have hf : t.fits es.size = true := by
    have e1 : t.place.size = L.length := by rw [T.sz, List.length_map]
    unfold SetTable.fits SetTable.fill
    rw [T.dm, Bool.and_eq_true, beq_iff_eq, decide_eq_true_eq]
    exact ⟨by omega, by show t.place.size + 0 ≤ t.mask; omega⟩
  have hb : es.size < scanBound := by unfold scanBound; omega
  refine Calls.call_function_entry kind_sorted plain_sorted entry_sorted (args_sorted1 _) ?_
  unfold Builtin.«sorted»
  refine wpAny_bind (m := checkCount "sorted" 1 1 _) (wpAny_pure (wpAny_bind (collect_set (A := X.A.in1) hh ⟨o, ho, hex.1, hd⟩ hf hb T.ris hled fun s1 vs k1 hz g1 o1 pm => ?_)))
  have pm' : vs.Perm (L.map fun p => Value.ref p.1) := by
    rw [he, ents, List.map_map] at pm
    exact pm
  obtain ⟨k2, p2, r2⟩ := pair_perm pm' (refs_pair L)
  have hlen : vs.length = k2.length := Paired.length r2
  have hsz : vs.length ≤ sizeLine := by
    rw [hlen, p2.length_eq, sizeLine_eq]
    omega
  have ok2 : sortOk (k2.map encM) = true := sortOk_perm (p2.map encM) ok
  refine wpAny_bind (wpAny_newList ?_ hsz)
  have hoL : (s1.heap.push (seqObj "list" vs.toArray 0)).get? s1.heap.objs.size = some (seqObj "list" vs.toArray 0) := Heap.get?_push_size _ rfl
  have ee := pair_each r2
  have kk : ∀ b u, s.heap.get? b = some u → (s1.heap.push (seqObj "list" vs.toArray 0)).get? b = some u := fun b u e => Heap.get?_push_of_some _ (k1 b u e)
  have er : EachIs (fun v (p : Mem) => ∃ as, Reads (s1.heap.push (seqObj "list" vs.toArray 0)) v (encM p) as ∧ s1.heap.objs.size ∉ as) vs k2 := each_with ee fun v p hp e => by
    subst e
    obtain ⟨as, rd⟩ := Dp.reads I _ _ (Value.ref p.1) (hk p (p2.mem_iff.mp hp)) rfl
    have e := key_no p.2 rd
    subst e
    exact ⟨[], PyProof.Rows.Reads.keeps kk rd, List.not_mem_nil⟩
  refine wpAny_bind (wpAny_holding (PySem.W.list_sort_data (s := { s1 with heap := s1.heap.push (seqObj "list" vs.toArray 0) }) (enc := encM) hoL ee er (sortOk_al ok2) (sortOk_so ok2) (by rw [← hlen]; exact hsz) (fun b hb => ?_) fun out ho2 eo => ?_))
  · have := sortOk_de ok2 (encM b) (List.mem_map_of_mem hb)
    have e1 : X.A.in1.units = X.A.units + 1 := rfl
    omega
  · obtain ⟨c, hc2⟩ := sortedHeap_at (vs := vs) (out := out.toArray) hoL
    have kp : ∀ b u, s.heap.get? b = some u → (sortedHeap (s1.heap.push (seqObj "list" vs.toArray 0)) s1.heap.objs.size vs out.toArray).get? b = some u := fun b u e => by
      have q := k1 b u e
      have hlt := Heap.lt_size q
      rw [sortedHeap_old (Nat.ne_of_lt hlt) (by rw [size_push']; exact Nat.lt_succ_of_lt hlt)]
      exact Heap.get?_push_of_some _ q
    have hks : (k2.mergeSort (dataLe false encM)).map encM = sortD (L.map encM) := by
      rw [sort_fst]
      exact sortD_unique (sortOk_al ok) ((sortD_perm _).trans (p2.map encM)) (sortD_le _)
    have hn : H s1.heap.objs.size = none := I.hok.fresh hz
    have J : Inv X pins σ (upd H s1.heap.objs.size (.lst ((k2.mergeSort (dataLe false encM)).map fun p => V.ref p.1))) { s with heap := sortedHeap (s1.heap.push (seqObj "list" vs.toArray 0)) s1.heap.objs.size vs out.toArray, gens := s1.gens, drawn := s1.drawn, toks := s1.toks } :=
      I.call (ch := []) (Un.laid kp hz hn) (I.hok.laid kp hz ⟨by rw [List.length_map, List.length_mergeSort, ← hlen]; exact hsz, out, c, each_refs eo, hc2⟩) (by rw [g1]; exact I.bare) (fun _ z => nomatch z)
    have e : ({ s1 with heap := sortedHeap (s1.heap.push (seqObj "list" vs.toArray 0)) s1.heap.objs.size vs out.toArray } : Shared) = { s with heap := sortedHeap (s1.heap.push (seqObj "list" vs.toArray 0)) s1.heap.objs.size vs out.toArray, gens := s1.gens, drawn := s1.drawn, toks := s1.toks } := by
      cases s1
      cases s
      cases o1
      rfl
    refine wpAny_pure ⟨_, rfl, ?_⟩
    show EP X pins σ Q (.ref s1.heap.objs.size) { s1 with heap := sortedHeap (s1.heap.push (seqObj "list" vs.toArray 0)) s1.heap.objs.size vs out.toArray }
    rw [e]
    exact ⟨.ref _, _, J, rfl, k _ _ hks ((List.mergeSort_perm k2 _).trans p2) hn⟩
end
end DL
set_option Elab.async false
set_option linter.all false
set_option maxRecDepth 100000
set_option maxHeartbeats 4000000
namespace DL
open PySem PySem.Spec PyProof.Rows L2
open PySem.W (dataLt alike alikeAll AllAlike)
theorem data_inj {a b : NestedKey} (h : a.data = b.data) : a = b := by
  have h1 := keyN_of a
  rw [h, keyN_of b] at h1
  exact (Option.some.inj h1).symm
def setOkT (ds : List Dt) : Bool := ds.all (fun d => isTup d && keyOk d) && sortOk ds && decide (ds.length < 64)
def mSortSetT (m : MD) : MA := fun s => (m s).bind fun q => (lisD q.1).bind fun ds => if setOkT ds then some (setD ds, q.2) else none
theorem RpL.mems {K : KW} {H : Hp} {B : Bad} : ∀ {vs : List V} {ds : List Dt}, RpL K H B vs ds → ds.all (fun d => isTup d && keyOk d) = true → ∃ ns : List Mem, vs = ns.map (fun p => V.ref p.1) ∧ ds = ns.map encM ∧ ∀ p ∈ ns, Rp K H B (.ref p.1) p.2.data ∧ p.2.depth ≤ 8
  | _, _, .nil, _ => ⟨[], rfl, rfl, fun p hp => absurd hp List.not_mem_nil⟩
  | _, _, .cons (v := v) (d := d) h r, c => by
    rw [List.all_cons, Bool.and_eq_true, Bool.and_eq_true] at c
    obtain ⟨ns, h1, h2, h3⟩ := RpL.mems r c.2
    obtain ⟨k, hk1, hk2⟩ := keyOk_ex c.1.2
    have ek := keyN_data hk1
    have hv : ∃ a, v = .ref a := by
      cases h with
      | tup _ _ => exact ⟨_, rfl⟩
      | lst _ _ _ => exact ⟨_, rfl⟩
      | scr _ => exact ⟨_, rfl⟩
      | dct _ _ => exact ⟨_, rfl⟩
      | ep _ _ => exact ⟨_, rfl⟩
      | ob _ _ _ => exact ⟨_, rfl⟩
      | mem _ => exact ⟨_, rfl⟩
      | _ => exact absurd c.1.1 Bool.false_ne_true
    obtain ⟨a, rfl⟩ := hv
    refine ⟨(a, k) :: ns, by rw [h1]; rfl, by rw [h2, List.map_cons]; show _ = k.data :: _; rw [ek], fun p hp => ?_⟩
    rcases List.mem_cons.mp hp with rfl | hp
    · exact ⟨by rw [ek]; exact h, hk2⟩
    · exact h3 p hp
theorem RpL.of_mems {K : KW} {H : Hp} {B : Bad} : ∀ {ns : List Mem}, (∀ p ∈ ns, Rp K H B (.ref p.1) p.2.data) → RpL K H B (ns.map fun p => V.ref p.1) (ns.map encM)
  | [], _ => .nil
  | p :: ns, h => .cons (h p List.mem_cons_self) (RpL.of_mems fun q hq => h q (List.mem_cons_of_mem _ hq))
section
variable {X : Cx} {e a b c : Expr} {es : List Expr} {p pos tpos : PySem.Pos}
theorem dl_sortSetT {m : MD} {p1 p2 pos1 : PySem.Pos} (hu : X.A.units + 64 < cLine) (hm : X.mg "sorted" = none) (hm2 : X.mg "set" = none) (he : PE X e (tD X.kw m)) (hc : X.calm = true := by rfl) (hg : Gl X "sorted" := by rfl) (hg2 : Gl X "set" := by rfl) (hs : starEach [e] X.env = (false, eval e X.env) :: starEach [] X.env := by rfl)
    (hs2 : starEach [.Call (.Name "set" p2) [e] [] pos1] X.env = (false, eval (.Call (.Name "set" p2) [e] [] pos1) X.env) :: starEach [] X.env := by rfl) : PE X (.Call (.Name "sorted" p1) [.Call (.Name "set" p2) [e] [] pos1] [] pos) (tDL X.kw (mSortSetT m)) :=
  dl_of (pe_callB (cr_sortedH hc hu) hg hm (by decide +kernel) (pa_cons (pe_callTy (cr_setH hc hu) hg2 hm2 (by decide +kernel) (pa_cons he pa_nil hs) (by decide) (by decide) hs rfl) pa_nil hs2) (by decide) (by decide) hs2 rfl) fun σ H Q B γ H0 s ds s' rl e k => by
    obtain ⟨⟨x, s1⟩, e1, e2⟩ := ob e
    obtain ⟨xs, e3, e4⟩ := ob e2
    split at e4
    · rename_i hok
      unfold setOkT at hok
      simp only [Bool.and_eq_true, decide_eq_true_eq] at hok
      obtain ⟨rfl, rfl⟩ := Prod.mk.inj (Option.some.inj e4)
      refine ⟨B, γ, H0, s, x, s1, rl, e1, fun v H1 a1 r1 => ?_⟩
      have go : ∀ (l : Addr) (ns : List Mem), xs = ns.map encM → (∀ p ∈ ns, Rp X.kw H1 (Bh B σ s1.sl) (.ref p.1) p.2.data ∧ p.2.depth ≤ 8) → v = .ref l → (SqL X.kw.F H1 l (ns.map fun p => V.ref p.1) ∨ SqT X.kw.F H1 l (ns.map fun p => V.ref p.1)) → rSetH X.kw X.prog X.w [v] H1 fun w H2 => rSortedH X.kw X.prog X.w [w] H2 Q := fun l ns ex hr ev hq => by
        subst ev
        subst ex
        have hl : ns.length < 64 := by
          have := hok.2
          rw [List.length_map] at this
          exact this
        refine ⟨l, ns, rfl, hq, fun p hp => ⟨(hr p hp).1.dpL (key_lay _), (hr p hp).2⟩, hl, fun L q hnd h1 h2 hq => ⟨q, L, rfl, upd_same, fun p hp => ?_, ?_, fun L' p2 hs' hp2 hn2 => ?_⟩⟩
        · exact ((hr p (h1 p hp)).1.same (same_new hq)).dpL (key_lay _)
        · refine sortOk_sub (fun y hy => ?_) hok.1.2
          obtain ⟨z, hz, rfl⟩ := List.mem_map.mp hy
          exact List.mem_map_of_mem (h1 z hz)
        · have es : L'.map encM = setD (ns.map encM) := by
            rw [hs']
            refine setD_sort (sortOk_al hok.1.2) ?_ fun z => ?_
            · rw [show L.map encM = (L.map (·.2)).map NestedKey.data by rw [List.map_map]; rfl]
              exact List.pairwise_map.mpr (List.Pairwise.imp (fun h e => h (data_inj e)) hnd)
            · constructor
              · intro hz
                obtain ⟨y, hy, rfl⟩ := List.mem_map.mp hz
                exact List.mem_map_of_mem (h1 y hy)
              · intro hz
                obtain ⟨y, hy, rfl⟩ := List.mem_map.mp hz
                obtain ⟨z, hz, ez⟩ := List.mem_map.mp (h2 y hy)
                refine List.mem_map.mpr ⟨z, hz, ?_⟩
                show z.2.data = y.2.data
                rw [ez]
          refine k p2 _ _ (a1.same (same_new hq)) hn2 ?_
          rw [← es]
          exact RpL.of_mems fun p hp => (hr p (h1 p (hp2.mem_iff.mp hp))).1.same (same_new hq)
      cases r1 with
      | lst h1 n h3 =>
        cases e3
        obtain ⟨ns, g1, g2, g3⟩ := h3.mems hok.1.1
        rw [g1] at h1
        exact go _ ns g2 g3 rfl (.inl (.inl h1))
      | tup h1 h3 =>
        cases e3
        obtain ⟨ns, g1, g2, g3⟩ := h3.mems hok.1.1
        rw [g1] at h1
        exact go _ ns g2 g3 rfl (.inr h1.sq)
      | _ => cases e3
    · cases e4
def mOrA (m n : MA) : MA := fun s => (m s).or (n s)
theorem dl_orA {m n : MA} (h : PE X e (tDL X.kw m)) (h' : PE X e (tDL X.kw n)) : PE X e (tDL X.kw (mOrA m n)) := PE.imp (DL.PE.or h h') fun σ H Q q => by
  obtain ⟨B, γ, H0, s, ds, s', rl, e, k⟩ := q
  unfold mOrA at e
  cases q : m s with
  | some z =>
    rw [q] at e
    exact .inl ⟨B, γ, H0, s, ds, s', rl, q.trans e, k⟩
  | none =>
    rw [q] at e
    exact .inr ⟨B, γ, H0, s, ds, s', rl, e, k⟩
def mSortSetA (m : MD) : MA := mOrA (mSortSetK m) (mSortSetT m)
theorem dl_sortSetA {m : MD} {p1 p2 pos1 : PySem.Pos} (hu : X.A.units + 64 < cLine) (hm : X.mg "sorted" = none) (hm2 : X.mg "set" = none) (he : PE X e (tD X.kw m)) (hc : X.calm = true := by rfl) (hg : Gl X "sorted" := by rfl) (hg2 : Gl X "set" := by rfl) (hs : starEach [e] X.env = (false, eval e X.env) :: starEach [] X.env := by rfl)
    (hs2 : starEach [.Call (.Name "set" p2) [e] [] pos1] X.env = (false, eval (.Call (.Name "set" p2) [e] [] pos1) X.env) :: starEach [] X.env := by rfl) : PE X (.Call (.Name "sorted" p1) [.Call (.Name "set" p2) [e] [] pos1] [] pos) (tDL X.kw (mSortSetA m)) :=
  dl_orA (dl_sortSetK hu hm hm2 he hc hg hg2 hs hs2) (dl_sortSetT hu hm hm2 he hc hg hg2 hs hs2)
end
section
variable {s s1 : Stt} {d : Dt} {m : MD} {ds : List Dt}
theorem e_ssK (h1 : m s = some (d, s1)) (h2 : lisD d = some ds) (h3 : setOk ds = true) : mSortSetA m s = some (setD ds, s1) := by
  have : mSortSetK m s = some (setD ds, s1) := by
    unfold mSortSetK
    rw [h1, Option.bind_some, h2, Option.bind_some, if_pos h3]
  unfold mSortSetA mOrA
  rw [this] <;> rfl
theorem e_ssT (h1 : m s = some (d, s1)) (h2 : lisD d = some ds) (h3 : setOkT ds = true) : mSortSetA m s = some (setD ds, s1) := by
  have : mSortSetT m s = some (setD ds, s1) := by
    unfold mSortSetT
    rw [h1, Option.bind_some, h2, Option.bind_some, if_pos h3]
  unfold mSortSetA mOrA
  cases q : mSortSetK m s with
  | none => exact this
  | some z =>
    unfold mSortSetK at q
    rw [h1, Option.bind_some, h2, Option.bind_some] at q
    split at q
    · rw [← q] <;> rfl
    · cases q
end
end DL
set_option Elab.async false
set_option linter.all false
set_option maxRecDepth 100000
set_option maxHeartbeats 4000000
set_option pp.maxSteps 300
namespace DL
open PySem PySem.Spec PyProof.Rows L2
inductive KsOf (w : World) (d : Addr) : HO → List (V × V) → Prop
  | ky (kvs : List (Key × V)) : KsOf w d (.dK kvs) (kvs.map fun p => (kV p.1, p.2))
  | tp (xs : List DEn) : KsOf w d (DctO w d xs) (xs.map fun x => (V.ref x.2.1, x.2.2))
theorem RpL.kD {K : KW} {H : Hp} {B : Bad} : ∀ (ks : List (Key × V)), RpL K H B (ks.map fun p => kV p.1) (ks.map fun p => DL.kD p.1)
  | [] => .nil
  | (.inl i, _) :: ks => .cons (.int i) (RpL.kD ks)
  | (.inr x, _) :: ks => .cons (.str x) (RpL.kD ks)
theorem Dc.ks {K : KW} {H : Hp} {B : Bad} {a : Addr} {o : HO} {kvs : List (Dt × Dt)} (c : Dc K H B a o kvs) : ∃ ks, KsOf K.w a o ks ∧ RpL K H B (ks.map (·.1)) (kvs.map (·.1)) ∧ RpL K H B (ks.map (·.2)) (kvs.map (·.2)) := by
  cases c with
  | @ky _ kv vs r =>
    have hl : (kv.map fun p => kD p.1).length = vs.length := by
      have := r.len
      rw [List.length_map] at this ⊢
      exact this
    refine ⟨_, .ky kv, ?_, ?_⟩
    · rw [zip_fst hl, List.map_map]
      exact RpL.kD kv
    · rw [zip_snd hl, List.map_map]
      exact r
  | @tp _ xs vs hd q r =>
    have hl : (xs.map fun x => x.1.data).length = vs.length := by
      have := r.len
      rw [List.length_map] at this ⊢
      exact this
    refine ⟨_, .tp xs, ?_, ?_⟩
    · rw [zip_fst hl, List.map_map]
      exact q
    · rw [zip_snd hl, List.map_map]
      exact r
section
variable {X : Cx} {pins : List (Addr × Obj)} {σ : L2.St} {H : Hp} {s : Shared} {d : Addr} {ob : Obj} {o : HO} {ks : List (V × V)}
theorem raw_of (I : Inv X pins σ H s) (h : H d = some (.frz ob o)) (k : KsOf X.w d o ks) : (d == sysModules) = false ∧ s.heap.get? d = some ob ∧ ob.ExactDict ∧ ∃ es ep, ob.data = .dict es ep ∧ es.size = ks.length ∧ ∀ (i : Nat) (p : V × V), ks[i]? = some p → ∃ en : DictEntry, es[i]? = some en ∧ RelV p.1 en.key ∧ RelV p.2 en.val := by
  cases k with
  | ky kvs =>
    obtain ⟨hs, hgd, hx, es, ep, vs, hdt, hsz, kv, hm⟩ := I.frzK h
    refine ⟨hs, hgd, hx, es, ep, hdt, by rw [List.length_map]; exact hsz, fun i p e => ?_⟩
    rw [List.getElem?_map] at e
    obtain ⟨⟨k, v⟩, e1, rfl⟩ := om e
    obtain ⟨u, hu, ru⟩ := kv_get kv e1
    obtain ⟨o', es', ho, _, hd', _, hp, _⟩ := hm
    rw [hgd] at ho
    cases ho
    rw [hdt] at hd'
    cases hd'
    have hi : i < es.size := by rw [hsz]; exact (List.getElem?_eq_some_iff.mp e1).1
    have q := hp.get? (e := es[i]) (by simp [hi]) hu
    exact ⟨es[i], Array.getElem?_eq_getElem hi, relV_key q.1, by rw [q.2]; exact ru⟩
  | tp xs =>
    obtain ⟨hgd, ⟨hs, hl, ys, pr, o', es, ep, ho, hx, hdt, he, nd⟩, _⟩ := I.hok d _ h
    rw [hgd] at ho
    cases ho
    have hsz : es.size = ys.length := by rw [← Array.length_toList, he, List.length_map]
    have hlen : xs.length = ys.length := Paired.length pr
    refine ⟨hs, hgd, hx, es, ep, hdt, by rw [List.length_map, hsz, hlen], fun i p e => ?_⟩
    rw [List.getElem?_map] at e
    obtain ⟨x, e1, rfl⟩ := om e
    obtain ⟨y, e2, r1, r2, r3⟩ := paired_get pr e1
    refine ⟨entW X.w y, ?_, ?_, ?_⟩
    · rw [← Array.getElem?_toList, he, List.getElem?_map, e2] <;> rfl
    · show Value.ref y.2.1 = Value.ref x.2.1
      rw [r2]
    · exact r3
end
def LkE (w : World) (d : Addr) (n ep : Nat) (H : Hp) : Prop := ∃ ob o es ks, H d = some (.frz ob o) ∧ ob.data = .dict es ep ∧ KsOf w d o ks ∧ ks.length = n
def ItS (w : World) (d : Addr) (n ep : Nat) (f : V × V → V) : It :=
  ⟨fun i H => LkE w d n ep H ∧ i < n, fun i H x H' => H' = H ∧ ∀ ob o ks, H d = some (.frz ob o) → KsOf w d o ks → ∃ p, ks[i]? = some p ∧ x = f p, fun i H => LkE w d n ep H ∧ n ≤ i⟩
section
variable {X : Cx} {pins : List (Addr × Obj)} {σ : L2.St} {H : Hp} {s : Shared} {d : Addr} {n ep : Nat}
theorem LkE.raw (I : Inv X pins σ H s) (h : LkE X.w d n ep H) : (d == sysModules) = false ∧ ∃ es, s.heap.DictRaw d es ep ∧ es.size = n ∧ ∀ (i : Nat) (hi : i < es.size), ∃ p : V × V, RelV p.1 es[i].key ∧ RelV p.2 es[i].val ∧ ∀ ob o ks, H d = some (.frz ob o) → KsOf X.w d o ks → ks[i]? = some p := by
  obtain ⟨ob, o, es, ks, h1, h2, h3, h4⟩ := h
  obtain ⟨hs, hgd, hx, es', ep', hdt, hsz, ent⟩ := raw_of I h1 h3
  rw [h2] at hdt
  cases hdt
  refine ⟨hs, es, ⟨ob, hgd, hx, h2⟩, by rw [hsz, h4], fun i hi => ?_⟩
  have hi' : i < ks.length := by omega
  obtain ⟨en, e1, r1, r2⟩ := ent i ks[i] (List.getElem?_eq_getElem hi')
  rw [Array.getElem?_eq_getElem hi] at e1
  cases e1
  refine ⟨ks[i], r1, r2, fun ob' o' ks' g1 g2 => ?_⟩
  obtain ⟨_, _, _, es2, ep2, hdt2, hsz2, ent2⟩ := raw_of I g1 g2
  rw [h1] at g1
  cases g1
  rw [h2] at hdt2
  cases hdt2
  have hi2 : i < ks'.length := by omega
  obtain ⟨en2, e2, q1, q2⟩ := ent2 i ks'[i] (List.getElem?_eq_getElem hi2)
  rw [Array.getElem?_eq_getElem hi] at e2
  cases e2
  rw [List.getElem?_eq_getElem hi2]
  exact congrArg some (Prod.ext (RelV.inj q1 r1) (RelV.inj q2 r2))
end
section
variable {P : Program} {w : World} {K : PySem.W.Frag} {tg : Expr} {d : Addr} {n ep : Nat}
theorem turn_valsR (it : Addr) : Turn P w K tg (ItS w d n ep Prod.snd) [it] it (fun i h => h.IsValIter it d i n ep) where
  mem := by simp
  obj := fun i h st b hb => by
    have e : b = it := by simpa using hb
    subst e
    obtain ⟨oi, e, c, dd⟩ := st
    exact ⟨oi, e, fun v z => by rw [dd] at z; cases z⟩
  keep := fun i h h' st k => st.at fun oi e => k it (by simp) oi e
  item := by
    intro X hP hw hK hc i pins s σ H E I hf st hg
    subst hP hw hK
    obtain ⟨lk, hi⟩ := hg
    obtain ⟨f0, f1, f2, f3, f4, f5⟩ := hf it (by simp)
    obtain ⟨hs, es, hm, hsz, ent⟩ := lk.raw I
    subst hsz
    obtain ⟨p, r1, r2, un⟩ := ent i hi
    refine wpAny_pyNext_values_item_raw st hm hi fun h' st' sb => ?_
    have I1 : Inv X pins σ H { s with heap := h' } := I.turned (t' := s.toks) (fun b ob hb e => (sb.2 b hb).trans e) f0 f1 f3 f4 f5
    obtain ⟨oi, e, c, dd⟩ := id st'
    exact ⟨es[i].val, rfl, go_of (s := { s with heap := h' }) e c dd (by decide) ⟨p.2, H, I1, r2, ⟨rfl, fun ob o ks g1 g2 => ⟨p, un ob o ks g1 g2, rfl⟩⟩, st', fun b hb => (hf b hb).1⟩⟩
  done := by
    intro X hP hw hK hc i pins s σ H E I hf st hg
    subst hP hw hK
    obtain ⟨lk, hi⟩ := hg
    obtain ⟨f0, f1, f2, f3, f4, f5⟩ := hf it (by simp)
    obtain ⟨hs, es, hm, hsz, ent⟩ := lk.raw I
    subst hsz
    exact wpAny_pyNext_values_end_raw (I.ok.hd hc) st hm hi fun h' eb => ⟨rfl, I.turned (t' := s.toks) (fun b ob hb e => eb b ob hb e) f0 f1 f3 f4 f5⟩
  self := fun A i s Q E st h => wpAny_pyIter_valiter st h
end
section
variable {X : Cx} {tg e : Expr} {td : TE} {apos cpos : PySem.Pos}
def iLk (X : Cx) (J : Addr → Nat → Nat → It) (td : TE) : TI := fun σ H R => td σ H fun x H1 => ∃ d n ep, x = .ref d ∧ LkE X.w d n ep H1 ∧ R (J d n ep) H1
theorem raw_nodict {s : Shared} {d : Addr} {es : Array DictEntry} {ep : Nat} (h : s.heap.DictRaw d es ep) : ∀ a, Value.ref d = .ref a → ∃ ob, s.heap.get? a = some ob ∧ ob.dict = none := fun a e => by
  cases e
  obtain ⟨o, ho, hx, _⟩ := h
  exact ⟨o, ho, hx.2.1⟩
theorem pi_valuesR (he : PE X e td) (hbase : attributeBase e "values" X.env (eval e X.env) = eval e X.env := by rfl) (hline : (apos.endLine == cpos.line) = true := by rfl) : PI X tg (.Call (.Attribute e "values" apos) [] [] cpos) (iLk X (fun d n ep => ItS X.w d n ep Prod.snd) td) := by
  refine ⟨fun pins s σ H R I h => ?_⟩
  refine wpAny_Call_method (T := "dict") (id := "dict.values") hbase rfl hline F.plainAttrs_dict F.slot_dict_values F.type_dict_values (thn (he.run pins s σ H _ I h) fun u s1 ⟨x, H1, I1, rx, d, n, ep, ex, lk, q⟩ => ?_)
  subst ex
  obtain rfl : u = Value.ref d := rx
  obtain ⟨hs, es, hm, hsz, ent⟩ := lk.raw I1
  subst hsz
  refine ⟨hm.typeIs, raw_nodict hm, ?_⟩
  have I2 : Inv X pins σ H1 { s1 with heap := s1.heap.push { cls := .type "dict_values", data := .fields #[.ref d] } } := I1.kept (t' := s1.toks) fun b ob q => Heap.get?_push_of_some _ q
  have fin : wpAny (model X.prog X.w) X.A (pyIter (.ref s1.heap.objs.size)) (PIE X pins σ tg R) X.xe { s1 with heap := s1.heap.push { cls := .type "dict_values", data := .fields #[.ref d] } } :=
    wpAny_pyIter_values_raw (d := d) ⟨_, Heap.get?_push_size _ rfl, rfl, rfl⟩ (hm.at fun o e => Heap.get?_push_of_some _ e) (pi_one (tk := s1.toks) I2 _ (turn_valsR _) ⟨_, Heap.get?_push_size _ rfl, rfl, rfl⟩ q)
  show wpAny _ _ (callWith cpos (.builtin "dict.values") [.ref d] [] []) _ X.xe s1
  exact method_meetsIn F.slot_dict_values F.entry_dict_values rfl (PySem.evalArgs_none ⟨rfl, hm.typeIs, F.args_dict_values_1 _, _, meets_dict_values_raw d hs, ⟨_, _, hm⟩, fin⟩)
end
def noNs (kvs : List (Dt × Dt)) : Bool := kvs.all fun p => noNone p.1
section
variable {K : KW} {H : Hp} {C : Bad} {d : Addr} {n ep : Nat} {kvs : List (Dt × Dt)}
def GLk (K : KW) (d : Addr) (ep : Nat) (kvs : List (Dt × Dt)) (H : Hp) (C : Bad) : Prop := Rp K H C (.ref d) (.dict kvs) ∧ Rp K H C (.ref d) (epD ep)
theorem rp_dict {v : V} (h : Rp K H C v (.dict kvs)) (hn : noNs kvs = true) : ∃ a ob o, v = .ref a ∧ H a = some (.frz ob o) ∧ Dc K H C a o kvs := by
  cases h with
  | dct h1 h2 => exact ⟨_, _, _, rfl, h1, h2⟩
  | scr _ => cases hn
  | ep _ _ => cases hn
  | ob _ _ _ => cases hn
  | mem _ => cases hn
theorem GLk.lk (h : GLk K d ep kvs H C) (hn : noNs kvs = true) : ∃ ob o es ks, H d = some (.frz ob o) ∧ ob.data = .dict es ep ∧ KsOf K.w d o ks ∧ RpL K H C (ks.map (·.1)) (kvs.map (·.1)) ∧ RpL K H C (ks.map (·.2)) (kvs.map (·.2)) ∧ ks.length = kvs.length := by
  obtain ⟨h1, h2⟩ := h
  obtain ⟨a, ob, o, ea, h3, h4⟩ := rp_dict h1 hn
  cases ea
  obtain ⟨ks, k1, k2, k3⟩ := h4.ks
  have hl : ks.length = kvs.length := by
    have := k2.len
    rw [List.length_map, List.length_map] at this
    exact this
  have he : ∃ es, ob.data = .dict es ep := by
    generalize hq : epD ep = q at h2
    cases h2 with
    | @ep _ ob' u es n h5 h6 =>
      rw [h3] at h5
      cases h5
      have : n = ep := by
        have := PyData.dict.inj hq
        simp at this
        omega
      subst this
      exact ⟨es, h6⟩
    | dct _ c => exact absurd (PyData.dict.inj hq).symm fun z => c.no_none z
    | scr _ =>
      have := PyData.dict.inj hq
      simp at this
    | _ => cases hq
  obtain ⟨es, he⟩ := he
  exact ⟨ob, o, es, ks, h3, he, k1, k2, k3, hl⟩
theorem GLk.lke (h : GLk K d ep kvs H C) (hn : noNs kvs = true) : LkE K.w d kvs.length ep H := by
  obtain ⟨ob, o, es, ks, h1, h2, h3, _, _, h4⟩ := h.lk hn
  exact ⟨ob, o, es, ks, h1, h2, h3, h4⟩
theorem it_S {f : V × V → V} {g : Dt × Dt → Dt} (hn : noNs kvs = true) (h : GLk K d ep kvs H C) (hf : ∀ {H C} {ks : List (V × V)}, RpL K H C (ks.map (·.1)) (kvs.map (·.1)) → RpL K H C (ks.map (·.2)) (kvs.map (·.2)) → RpL K H C (ks.map f) (kvs.map g)) : ItOk K (ItS K.w d kvs.length ep f) H C (kvs.map g) := by
  have hl : (kvs.map g).length = kvs.length := List.length_map _
  refine ⟨GLk K d ep kvs, h, fun H C H' C' fr gg => ⟨fr _ _ gg.1, fr _ _ gg.2⟩, fun i H C gg hi => ⟨gg.lke hn, by omega⟩, fun i H C gg hi => ⟨gg.lke hn, by omega⟩, fun i H C x H' y gg e yy => ?_⟩
  obtain ⟨rfl, yy⟩ := yy
  obtain ⟨ob, o, es, ks, h1, h2, h3, h4, h5, h6⟩ := gg.lk hn
  obtain ⟨p, e1, rfl⟩ := yy ob o ks h1 h3
  obtain ⟨v, e2, e3⟩ := (hf h4 h5).get e
  rw [List.getElem?_map, e1] at e2
  cases e2
  exact ⟨Same.refl _, e3⟩
end
section
variable {X : Cx} {tg e a b c : Expr} {es : List Expr} {pos p apos cpos : PySem.Pos}
theorem PE.dk {t : TE} (h : PE X e t) : PE X e (fun σ H Q => t σ H fun v H1 => (∀ a ob o B kvs, v = .ref a → H1 a = some (.frz ob o) → Dc X.kw H1 B a o kvs → ∃ es n, ob.data = .dict es n) → Q v H1) := ⟨fun pins s σ H Q I q => thn (h.run pins s σ H _ I q) fun u s1 ⟨x, H1, I1, rx, q1⟩ => ⟨x, H1, I1, rx, q1 fun a ob o B kvs _ h1 h2 => by
  obtain ⟨ks, k1, _⟩ := h2.ks
  obtain ⟨_, _, _, es, ep, h3, _⟩ := raw_of I1 h1 k1
  exact ⟨es, ep, h3⟩⟩⟩
def iDic (f : Dt × Dt → Dt) (m : MD) : MA := fun s => (m s).bind fun q => match q.1 with
  | .dict kvs => if noNs kvs then some (kvs.map f, q.2) else none
  | _ => none
theorem iDic_ex {f : Dt × Dt → Dt} {m : MD} {s s' : Stt} {ds : List Dt} (h : iDic f m s = some (ds, s')) : ∃ kvs, m s = some (.dict kvs, s') ∧ noNs kvs = true ∧ ds = kvs.map f := by
  obtain ⟨⟨x, s1⟩, e1, e2⟩ := ob h
  cases x with
  | dict kvs =>
    have e3 : (if noNs kvs = true then some (kvs.map f, s1) else none) = some (ds, s') := e2
    split at e3
    · cases e3
      exact ⟨kvs, e1, by assumption, rfl⟩
    · cases e3
  | _ => cases e2
theorem lk_go {J : Addr → Nat → Nat → It} {f : Dt × Dt → Dt} {m : MD} {σ : L2.St} {H : Hp} {R : It → Hp → Prop} (hJ : ∀ {H C d ep kvs}, noNs kvs = true → GLk X.kw d ep kvs H C → ItOk X.kw (J d kvs.length ep) H C (kvs.map f)) (q : tDI X.kw (iDic f m) σ H R) :
    iLk X J (fun σ H Q => tD X.kw m σ H fun v H1 => (∀ a ob o B kvs, v = .ref a → H1 a = some (.frz ob o) → Dc X.kw H1 B a o kvs → ∃ es n, ob.data = .dict es n) → Q v H1) σ H R := by
  obtain ⟨B, γ, H0, s, ds, s', rl, e, k⟩ := q
  obtain ⟨kvs, e1, hn, rfl⟩ := iDic_ex e
  refine ⟨B, γ, H0, s, _, s', rl, e1, fun v H1 a1 r1 hd => ?_⟩
  obtain ⟨a, ob, o, rfl, h1, h2⟩ := rp_dict r1 hn
  obtain ⟨es, n, h3⟩ := hd a ob o _ kvs rfl h1 h2
  have gl : GLk X.kw a n kvs H1 (Bh B σ s'.sl) := ⟨r1, .ep h1 h3⟩
  exact ⟨a, kvs.length, n, rfl, gl.lke hn, k _ H1 a1 (hJ hn gl)⟩
theorem di_vals {m : MD} (he : PE X e (tD X.kw m)) (hbase : attributeBase e "values" X.env (eval e X.env) = eval e X.env := by rfl) (hline : (apos.endLine == cpos.line) = true := by rfl) : PI X tg (.Call (.Attribute e "values" apos) [] [] cpos) (tDI X.kw (iDic Prod.snd m)) :=
  PI.imp (pi_valuesR (PE.dk he) hbase hline) fun σ H R q => lk_go (fun hn g => it_S hn g fun _ h => h) q
end
section
variable {s s1 : Stt} {m : MD} {kvs : List (Dt × Dt)} {f : Dt × Dt → Dt}
theorem e_dic (h1 : m s = some (.dict kvs, s1)) (h2 : noNs kvs = true) : iDic f m s = some (kvs.map f, s1) := by
  unfold iDic
  rw [h1]
  exact if_pos h2
end
end DL
set_option Elab.async false
set_option linter.all false
set_option maxRecDepth 100000
set_option maxHeartbeats 4000000
namespace FD
open PySem PySem.Spec PyProof.Rows L2 DL
open PySem.W (dataLt alike alikeAll AllAlike)
theorem lt_strs (a b : Str) : dataLt (.str a) (.str b) = ltS a b := PySem.W.dataLt_str a b
theorem ltS_irr (a : Str) : ltS a a = false := by rw [← lt_strs]; exact lt_irr _
theorem ltS_asym {a b : Str} (h : ltS a b = true) : ltS b a = false := by
  rw [← lt_strs] at h ⊢
  exact lt_asym h
structure Nm (n : Nat) (g : Nat → Str) : Prop where
  asc : ∀ i j, i < j → j < n → ltS (g i) (g j) = true
  lo : 2 ≤ n
  hi : n ≤ 12
  ok : ∀ i, i < n → PyData.canLay0 (.str (g i)) = true
theorem Nm.inj {n : Nat} {g : Nat → Str} (N : Nm n g) {i j : Nat} (hi : i < n) (hj : j < n) (e : g i = g j) : i = j := by
  rcases Nat.lt_trichotomy i j with q | q | q
  · have := N.asc i j q hj
    rw [e, ltS_irr] at this
    cases this
  · exact q
  · have := N.asc j i q hi
    rw [e, ltS_irr] at this
    cases this
theorem Nm.gt {n : Nat} {g : Nat → Str} (N : Nm n g) {i j : Nat} (hi : i < j) (hj : j < n) : ltS (g j) (g i) = false := ltS_asym (N.asc i j hi hj)
def sq : Bool → List Dt → Dt
  | true, ds => .list ds
  | false, ds => .tuple ds
theorem sq_seq (b : Bool) (ds : List Dt) : seqD (sq b ds) = some ds := by cases b <;> rfl
theorem sq_items (b : Bool) (ds : List Dt) : itemsOf (sq b ds) = some ds := by cases b <;> rfl
theorem sq_tup (b : Bool) (ds : List Dt) : fTup [sq b ds] = some (.tuple ds) := by cases b <;> rfl
theorem sq_list (b : Bool) (ds : List Dt) : fList [sq b ds] = some ds := by cases b <;> rfl
theorem sq_gA (b : Bool) {n : Nat} {m : MGs} {ds : List Dt} {s : Stt} (h : ds.length = n) : gA n m (sq b ds) s = m ds s := by cases b <;> exact if_pos h
def nmD (n : Nat) (g : Nat → Str) : List Dt := (List.range n).map fun i => .str (g i)
def prD (b : Bool) (g : Nat → Str) (p : Nat × Nat) : Dt := sq b [.str (g p.1), .str (g p.2)]
def fdI (b : Bool) (g : Nat → Str) (h : Ht) (p : Nat × Nat) : Dt := sq b [prD b g p, .int (h p.1 p.2)]
def fdD (b : Bool) (n : Nat) (g : Nat → Str) (h : Ht) : Dt := sq b ((prs n).map (fdI b g h))
def tb (n : Nat) (g : Nat → Str) (T : Ht) : List (Dt × Dt) := (prs n).map fun p => (prD false g p, .int (T p.1 p.2))
theorem prs_all : ∀ n, n < 13 → (prs n).Nodup ∧ (prs n).length ≤ 66 := by decide +kernel
theorem prs_nd {n : Nat} (h : n ≤ 12) : (prs n).Nodup := (prs_all n (by omega)).1
theorem prs_len {n : Nat} (h : n ≤ 12) : (prs n).length ≤ 66 := (prs_all n (by omega)).2
theorem keyN_pr (g : Nat → Str) (p : Nat × Nat) : keyN (prD false g p) = some (.tup [.text (g p.1), .text (g p.2)]) := by
  show keyN (.tuple [.str _, .str _]) = _
  simp [keyN, keyNs]
theorem keyOk_pr (g : Nat → Str) (p : Nat × Nat) : keyOk (prD false g p) = true := by
  unfold keyOk
  rw [keyN_pr]
  rfl
theorem prD_inj {n : Nat} {g : Nat → Str} (N : Nm n g) {p q : Nat × Nat} (hp : p ∈ prs n) (hq : q ∈ prs n) {b : Bool} (e : prD b g p = prD b g q) : p = q := by
  obtain ⟨p1, p2⟩ := mem_prs.mp hp
  obtain ⟨q1, q2⟩ := mem_prs.mp hq
  have e' : g p.1 = g q.1 ∧ g p.2 = g q.2 := by
    cases b
    · have := PyData.tuple.inj e
      simp at this
      exact this
    · have := PyData.list.inj e
      simp at this
      exact this
  exact Prod.ext (N.inj (by omega) (by omega) e'.1) (N.inj (by omega) (by omega) e'.2)
theorem eqK_pr {n : Nat} {g : Nat → Str} (N : Nm n g) {p q : Nat × Nat} (hp : p ∈ prs n) (hq : q ∈ prs n) : eqK (prD false g p) (prD false g q) = decide (p = q) := by
  by_cases e : p = q
  · subst e
    rw [decide_eq_true rfl]
    exact eqK_iff.mpr ⟨_, keyN_pr g p, rfl⟩
  · rw [decide_eq_false e]
    cases h : eqK (prD false g p) (prD false g q) with
    | false => rfl
    | true =>
      obtain ⟨_, _, h2⟩ := eqK_iff.mp h
      exact absurd (prD_inj N hp hq h2) e
theorem tbl_at {n : Nat} {g : Nat → Str} (N : Nm n g) {f : Nat × Nat → Dt} {q : Nat × Nat} (hq : q ∈ prs n) : ∀ {ps : List (Nat × Nat)}, (∀ p ∈ ps, p ∈ prs n) → q ∈ ps → dAt (ps.map fun p => (prD false g p, f p)) (prD false g q) = some (f q)
  | p :: ps, h, hm => by
    have hp := h p List.mem_cons_self
    unfold dAt
    rw [List.map_cons, List.find?_cons]
    show ((match eqK (prD false g p) (prD false g q) with | true => _ | false => _) : Option (Dt × Dt)).map _ = _
    rw [eqK_pr N hp hq]
    by_cases e : p = q
    · rw [decide_eq_true e, e]; rfl
    · rw [decide_eq_false e]
      exact tbl_at N hq (fun x hx => h x (List.mem_cons_of_mem _ hx)) ((List.mem_cons.mp hm).elim (fun z => absurd z.symm e) id)
theorem tb_at {n : Nat} {g : Nat → Str} (N : Nm n g) {T : Ht} {q : Nat × Nat} (hq : q ∈ prs n) : dAt (tb n g T) (prD false g q) = some (.int (T q.1 q.2)) := tbl_at N hq (fun _ h => h) hq
def set2 (T : Ht) (p : Nat × Nat) (v : Int) : Ht := fun i j => if (i, j) = p then v else T i j
theorem tb_put {n : Nat} {g : Nat → Str} (N : Nm n g) {T : Ht} {q : Nat × Nat} (hq : q ∈ prs n) {v : Int} : dPut (tb n g T) (prD false g q) (.int v) = tb n g (set2 T q v) := by
  unfold dPut
  rw [if_pos]
  · unfold tb
    rw [List.map_map]
    refine List.map_congr_left fun p hp => ?_
    show (if eqK (prD false g p) (prD false g q) = true then _ else _) = _
    rw [eqK_pr N hp hq]
    unfold set2
    by_cases e : p = q
    · rw [if_pos (decide_eq_true e), if_pos e]
    · rw [if_neg (by simp [e]), if_neg e]
  · rw [List.any_eq_true]
    exact ⟨(prD false g q, .int (T q.1 q.2)), List.mem_map.mpr ⟨q, hq, rfl⟩, by rw [eqK_pr N hq hq]; exact decide_eq_true rfl⟩
theorem sz_big {k : Nat} (h : k ≤ 100000) : k < sizeLine := by rw [sizeLine_eq]; omega
theorem okPut_pr {g : Nat → Str} {f : Nat × Nat → Dt} {ps : List (Nat × Nat)} (hl : ps.length ≤ 66) (q : Nat × Nat) : okPut (ps.map fun p => (prD false g p, f p)) (prD false g q) = true := by
  unfold okPut
  rw [keyOk_pr, List.length_map, decide_eq_true (sz_big (by omega))]
  have : (ps.map fun p => (prD false g p, f p)).all (fun p => isTup p.1) = true := by
    rw [List.all_eq_true]
    intro x hx
    obtain ⟨p, _, rfl⟩ := List.mem_map.mp hx
    rfl
  rw [this]
  rfl
theorem okPut_tb {n : Nat} {g : Nat → Str} (N : Nm n g) (T : Ht) (q : Nat × Nat) : okPut (tb n g T) (prD false g q) = true := okPut_pr (prs_len N.hi) q
theorem tb_congr {n : Nat} {g : Nat → Str} {T T' : Ht} (h : ∀ p ∈ prs n, T p.1 p.2 = T' p.1 p.2) : tb n g T = tb n g T' := List.map_congr_left fun p hp => by rw [h p hp]
section
variable {s s1 s2 : Stt} {x y z d v k : Dt} {m mk mb : MD} {i : Nat} {kvs kv0 : List (Dt × Dt)}
theorem e_dixN (h1 : mb s = some (y, s1)) (h2 : slotDic s s1 i = some kvs) (h3 : (noNone y && keyOk y) = true) (h4 : dAt kvs y = some z) : mDixN i mb s = some (z, s1) := by
  unfold mDixN
  rw [h1, Option.bind_some, h2, Option.bind_some, if_pos h3, h4] <;> rfl
theorem e_put (h1 : m s = some (v, s1)) (h2 : isDic s1 i = some kv0) (h3 : mk s1 = some (k, s2)) (h4 : isDic s2 i = some kvs) (h5 : okPut kvs k = true) : sPut i m mk s = some (.nx (put s2 i (.dic (dPut kvs k v)))) := by
  unfold sPut
  rw [h1, Option.bind_some, h2, Option.bind_some, h3, Option.bind_some, h4, Option.bind_some, if_pos h5]
theorem e_pK {mp : MP} {ss : List SV} {mc : MDc} (h1 : mc s = some (kvs, s1)) (h2 : mp s1 = some (ss, s2)) : pK mc mp s = some (.dic kvs :: ss, s2) := by
  unfold pK
  rw [h1, Option.bind_some, h2] <;> rfl
theorem e_callD {F : FM} {mr : MA} {ds : List Dt} {u : Ur} (h1 : mr s = some (ds, s1)) (h2 : F (ds.map .val) none = some (.newd kvs, u)) : mCallD F mr s = some (kvs, s1) := by
  unfold mCallD
  rw [h1, Option.bind_some, h2] <;> rfl
theorem e_callK {F : FM} {nu nk : Nat} {is : List Nat} {mr mw : MA} {ds es : List Dt} {r : RV} {u : Ur} (h1 : mr s = some (ds, s1)) (h2 : mw s1 = some (es, s2)) (h3 : F ((gK nu nk is ds es).map .val) none = some (r, u)) : mCallK F nu nk is mr mw s = some (r.dt, s2) := by
  unfold mCallK
  rw [h1, Option.bind_some, h2, Option.bind_some, h3] <;> rfl
theorem e_inN {neg : Bool} (h1 : m s = some (x, s1)) (h2 : slotD s1 s1 i = some y) (h3 : dInN neg x y = some z) : mInN neg m i s = some (z, s1) := by
  unfold mInN
  rw [h1, Option.bind_some, h2, Option.bind_some, h3] <;> rfl
theorem lc2Go_map {α : Type} {g g1 : MG} {mt mt1 : MT} {mi1 : MA} {vs1 : List Nat} {me : MD} {sb : List (Option SV)} {u : Ur} {enc : α → Dt} {f : α → List Dt} : ∀ {xs : List α},
    (∀ x ∈ xs, ∃ s1 s2 s3 es, g (enc x) ⟨sb, u⟩ = some s1 ∧ mt s1 = some (true, s2) ∧ mi1 s2 = some (es, s3) ∧ lcGo g1 mt1 me (blkSl s3.sl vs1) es s3.ur = some (f x, u)) → lc2Go g mt mi1 vs1 g1 mt1 me sb (xs.map enc) u = some (xs.flatMap f, u)
  | [], _ => rfl
  | x :: xs, h => by
    obtain ⟨s1, s2, s3, es, h1, h2, h3, h4⟩ := h x List.mem_cons_self
    show (g (enc x) ⟨sb, u⟩).bind _ = _
    rw [h1, Option.bind_some, h2, Option.bind_some]
    show (mi1 s2).bind _ = _
    rw [h3, Option.bind_some, h4, Option.bind_some, lc2Go_map fun y hy => h y (List.mem_cons_of_mem _ hy)] <;> rfl
theorem e_lc2m {α : Type} {mi mi1 : MA} {fz vs vs1 : List Nat} {g g1 : MG} {mt mt1 : MT} {me : MD} {xs : List α} {enc : α → Dt} {f : α → List Dt} (h1 : mi s = some (xs.map enc, s1))
    (h2 : ∀ x ∈ xs, ∃ t1 t2 t3 es, g (enc x) ⟨blkSl (frzL s1 fz).sl vs, (frzL s1 fz).ur⟩ = some t1 ∧ mt t1 = some (true, t2) ∧ mi1 t2 = some (es, t3) ∧ lcGo g1 mt1 me (blkSl t3.sl vs1) es t3.ur = some (f x, (frzL s1 fz).ur)) (h3 : (xs.flatMap f).length ≤ 100000) :
    mLc2 mi fz vs g mt mi1 vs1 g1 mt1 me s = some (xs.flatMap f, frzL s1 fz) := by
  unfold mLc2
  rw [h1, Option.bind_some]
  show (lc2Go g mt mi1 vs1 g1 mt1 me (blkSl (frzL s1 fz).sl vs) (xs.map enc) (frzL s1 fz).ur).bind _ = _
  rw [lc2Go_map h2, Option.bind_some, if_pos (fits_ok h3)]
end
end FD
set_option Elab.async false
set_option linter.all false
set_option maxRecDepth 100000
set_option maxHeartbeats 4000000
namespace FD
open PySem PySem.Spec PyProof.Rows L2 DL
open PySem.W (dataLt alike alikeAll AllAlike)
def pairOfB : MS := (sRet (mTup (mCons (mFn fMinA (mCons (mVar 0) (mCons (mVar 1) mNil))) (mCons (mFn fMaxA (mCons (mVar 0) (mCons (mVar 1) mNil))) mNil))))
def pairOfF : FM := runD 2 2 pairOfB
def setOfB : MS := (sRet (mFn fTup (mCons (mOfL (mSortSetA (mVar 0))) mNil)))
def setOfF : FM := runD 1 1 setOfB
def allPairsB : MS := (sRet (mFn fTup (mCons (mOfL (mLc2 (iEnumA (mCons (mVar 0) mNil)) [] [2, 3, 1] (gA 2 (gsCons (gN 2) (gsCons (gN 3) gsNil))) mYes (iSeq (mSl (mVar 0) (oSome (mBin dAdd (mVar 2) (mC (.int 1)))) oNone)) [1] (gN 1) mYes (mTup (mCons (mVar 3) (mCons (mVar 1) mNil))))) mNil)))
def allPairsF : FM := runD 1 4 allPairsB
def islandsB : MS := (sRet (mCall (setOfF) (mCons (mOfL (mLc2 (iSeq (mVar 0)) [] [2, 3, 1] (gA 2 (gsCons (gN 2) (gsCons (gN 3) gsNil))) mYes (iSeq (mVar 2)) [1] (gN 1) mYes (mVar 1))) mNil)))
def islandsF : FM := runD 1 4 islandsB
def heightB : MS := (sRetD (mDcm (iSeq (mVar 0)) [] [1, 2] (gA 2 (gsCons (gN 1) (gsCons (gN 2) gsNil))) mYes (mFn fTup (mCons (mVar 1) mNil)) (mVar 2)))
def heightF : FM := runD 1 3 heightB
def lastIn : MS := (sIf (mTst (mBin dNotIn (mVar 1) (mTup (mCons (mVar 4) (mCons (mVar 5) mNil))))) (sSeq (sAsg (mFn fMinA (mCons (mDixN 2 (mCall (pairOfF) (mCons (mVar 4) (mCons (mVar 1) mNil)))) (mCons (mDixN 2 (mCall (pairOfF) (mCons (mVar 5) (mCons (mVar 1) mNil)))) mNil))) (gN 6))
  (sPut 2 (mFn fMaxA (mCons (mDixN 2 (mTup (mCons (mVar 4) (mCons (mVar 5) mNil)))) (mCons (mVar 6) mNil))) (mTup (mCons (mVar 4) (mCons (mVar 5) mNil))))) sNil)
def lastOut : MS := (sFor (iSeq (mCall (allPairsF) (mCons (mVar 3) mNil))) (gA 2 (gsCons (gN 4) (gsCons (gN 5) gsNil))) lastIn)
def lastB : MS := (sSeq (sPar [2, 3] (pK (mCallD (heightF) (mCons (mVar 0) mNil)) (pD (mCall (islandsF) (mCons (mVar 0) mNil)) pNil)))
  (sSeq (sFor (iSeq (mVar 3)) (gN 1) lastOut)
  (sRetV 2)))
def lastF : FM := runD 1 7 lastB
section
variable {n : Nat} {g : Nat → Str} {h : Ht} {b : Bool}
theorem p_pair (N : Nm n g) {i j : Nat} (hi : i < n) (hj : j < n) (e : i ≠ j) : pairOfF [.val (.str (g i)), .val (.str (g j))] none = some (.val (prD false g (min i j, max i j)), none) := by
  have e1 : pairOfF [.val (.str (g i)), .val (.str (g j))] none = some (.val (.tuple [.str (if ltS (g j) (g i) then g j else g i), .str (if ltS (g i) (g j) then g j else g i)]), none) := rfl
  rw [e1]
  rcases Nat.lt_or_gt_of_ne e with q | q
  · rw [N.gt q hj, N.asc i j q hj, Nat.min_eq_left (by omega), Nat.max_eq_right (by omega)] <;> rfl
  · rw [N.gt q hi, N.asc j i q hi, Nat.min_eq_right (by omega), Nat.max_eq_left (by omega)] <;> rfl
theorem enum_rng {f : Nat → Dt} : ∀ (m k : Nat), enumD k ((List.range' k m).map f) = (List.range' k m).map fun i : Nat => PyData.tuple [.int (i : Int), f i]
  | 0, _ => rfl
  | m + 1, k => by
    rw [List.range'_succ]
    show PyData.tuple [.int (k : Int), f k] :: enumD (k + 1) ((List.range' (k + 1) m).map f) = _
    rw [enum_rng m (k + 1)] <;> rfl
theorem enum_range {f : Nat → Dt} (m : Nat) : enumD 0 ((List.range m).map f) = (List.range m).map fun i : Nat => PyData.tuple [.int (i : Int), f i] := by
  rw [List.range_eq_range']
  exact enum_rng m 0
theorem cut_from {α : Type} (xs : List α) (k : Nat) : cutL xs (some (k : Int)) none = xs.drop k := by
  unfold cutL
  rw [HT.sIx_nat, HT.sIx_none]
  by_cases c : k ≤ xs.length
  · rw [Nat.min_eq_left c, List.take_of_length_le (by rw [List.length_drop]; omega)]
  · rw [Nat.min_eq_right (by omega), List.drop_length, List.take_nil, List.drop_eq_nil_of_le (by omega)]
theorem drop_range {f : Nat → Dt} (m k : Nat) : ((List.range m).map f).drop k = (List.range' k (m - k)).map f := by
  rw [← List.map_drop, List.range_eq_range', List.drop_range', Nat.zero_add]
  simp
theorem e_enumT {m : MA} {s s1 : Stt} {xs : List Dt} (h : m s = some ([.tuple xs], s1)) : iEnumA m s = some (enumD 0 xs, s1) := by
  unfold iEnumA
  rw [h] <;> rfl
theorem e_enumL2 {m : MA} {s s1 : Stt} {xs : List Dt} (h : m s = some ([.list xs], s1)) : iEnumA m s = some (enumD 0 xs, s1) := by
  unfold iEnumA
  rw [h] <;> rfl
theorem lcGo_all {α : Type} {g : MG} {mt : MT} {me : MD} {sb : List (Option SV)} {u : Ur} {enc : α → Dt} {f : α → Dt} {xs : List α} (h : ∀ x ∈ xs, lcStep g mt me sb (enc x) u = some (some (f x), u)) : lcGo g mt me sb (xs.map enc) u = some (xs.map f, u) := by
  have := lcGo_map (g := g) (mt := mt) (me := me) (sb := sb) (u := u) (enc := enc) (p := fun _ => true) (f := f) (xs := xs) h
  rwa [filt_true] at this
theorem fm_len {α β : Type} {f : α → List β} {k : Nat} : ∀ {xs : List α}, (∀ x ∈ xs, (f x).length ≤ k) → (xs.flatMap f).length ≤ xs.length * k
  | [], _ => by simp
  | x :: xs, h => by
    rw [List.flatMap_cons, List.length_append, List.length_cons, Nat.add_mul, Nat.one_mul]
    have h1 := h x List.mem_cons_self
    have h2 := fm_len fun y hy => h y (List.mem_cons_of_mem _ hy)
    omega
theorem nat_succ (i : Nat) : (i : Int) + 1 = ((i + 1 : Nat) : Int) := rfl
theorem sl_from {i : Nat} {xs : List Dt} : dSl (.tuple xs) (some ((i : Int) + 1)) none = some (.tuple (xs.drop (i + 1))) := by
  rw [nat_succ]
  show some (PyData.tuple (cutL xs (some ((i + 1 : Nat) : Int)) none)) = _
  rw [cut_from]
theorem p_allPairs (N : Nm n g) : allPairsF [.val (.tuple (nmD n g))] none = some (.val (.tuple ((prs n).map (prD false g))), none) := by
  have hn := N.hi
  have e := e_lc2m (s := ⟨slotsOf 4 [.val (.tuple (nmD n g))], none⟩) (s1 := ⟨slotsOf 4 [.val (.tuple (nmD n g))], none⟩) (fz := []) (vs := [2, 3, 1]) (vs1 := [1]) (mi := iEnumA (mCons (mVar 0) mNil)) (g := gA 2 (gsCons (gN 2) (gsCons (gN 3) gsNil))) (mt := mYes)
    (mi1 := iSeq (mSl (mVar 0) (oSome (mBin dAdd (mVar 2) (mC (.int 1)))) oNone)) (g1 := gN 1) (mt1 := mYes) (me := mTup (mCons (mVar 3) (mCons (mVar 1) mNil))) (xs := List.range n) (enc := fun i => .tuple [.int (i : Int), .str (g i)]) (f := fun i => (List.range' (i + 1) (n - (i + 1))).map fun j => prD false g (i, j))
    (by rw [← enum_range n (f := fun i => .str (g i))]; exact e_enumT (e_cons rfl rfl)) (fun i hi => by
      refine ⟨_, _, _, _, rfl, rfl, e_seqI (e_sl rfl rfl rfl sl_from) rfl, ?_⟩
      unfold nmD
      rw [drop_range]
      exact lcGo_all fun j hj => st_yes2 (b := true) rfl rfl rfl (e_tup (e_cons rfl (e_cons rfl rfl)) (Nat.le_of_ble_eq_true rfl)) rfl)
    (Nat.le_trans (fm_len (k := 12) fun i hi => by rw [List.length_map, List.length_range']; omega) (by rw [List.length_range]; omega))
  refine e_run rfl (e_ret2 (e_fn (e_cons (e_ofL e) rfl) ?_) rfl)
  show some (PyData.tuple _) = _
  unfold prs
  rw [List.map_flatMap]
  simp only [List.map_map]
  rfl
theorem all_strs {xs : List Str} : AllAlike (xs.map PyData.str) := fun x hx y hy => by
  obtain ⟨a, _, rfl⟩ := List.mem_map.mp hx
  obtain ⟨b, _, rfl⟩ := List.mem_map.mp hy
  rfl
theorem lay_strs : ∀ (xs : List Str), layDs (xs.map PyData.str) = true
  | [] => rfl
  | x :: xs => by
    show (layD (.str x) && layDs (xs.map PyData.str)) = true
    rw [lay_strs xs] <;> rfl
theorem sortOk_strs (xs : List Str) : sortOk (xs.map .str) = true := by
  unfold sortOk
  rw [lay_strs, Bool.and_true]
  simp only [Bool.and_eq_true, Bool.or_eq_true, List.all_eq_true, List.mem_map]
  refine ⟨⟨?_, .inr ?_⟩, ?_⟩
  · rintro x ⟨a, _, rfl⟩ y ⟨b, _, rfl⟩
    rfl
  · rintro x ⟨a, _, rfl⟩
    rfl
  · rintro x ⟨a, _, rfl⟩
    rfl
theorem setOk_strs {xs : List Str} (h : xs.length < 4000) : setOk (xs.map .str) = true := by
  unfold setOk
  rw [sortOk_strs, List.length_map, decide_eq_true h]
  have : (xs.map PyData.str).all isAtm = true := by
    rw [List.all_eq_true]
    intro x hx
    obtain ⟨a, _, rfl⟩ := List.mem_map.mp hx
    rfl
  rw [this] <;> rfl
theorem nm_asc (N : Nm n g) : AscD (nmD n g) := by
  unfold nmD
  rw [AscD, List.pairwise_map]
  refine List.Pairwise.imp_of_mem (fun {i j} hi hj q => ?_) (List.pairwise_lt_range (n := n))
  rw [lt_strs]
  exact N.asc i j q (List.mem_range.mp hj)
theorem set_nm (N : Nm n g) {xs : List Str} (h : ∀ x, x ∈ xs ↔ ∃ i, i < n ∧ g i = x) : setD (xs.map .str) = nmD n g := by
  refine ascD_unique (setD_asc all_strs) (nm_asc N) fun z => ?_
  rw [setD_mem all_strs]
  unfold nmD
  rw [List.mem_map, List.mem_map]
  constructor
  · rintro ⟨x, hx, rfl⟩
    obtain ⟨i, hi, rfl⟩ := (h x).mp hx
    exact ⟨i, List.mem_range.mpr hi, rfl⟩
  · rintro ⟨i, hi, rfl⟩
    exact ⟨g i, (h _).mpr ⟨i, List.mem_range.mp hi, rfl⟩, rfl⟩
theorem p_setOf {xs : List Str} (hl : xs.length < 4000) (N : Nm n g) (h : ∀ x, x ∈ xs ↔ ∃ i, i < n ∧ g i = x) : setOfF [.val (.list (xs.map .str))] none = some (.val (.tuple (nmD n g)), none) := by
  refine e_run rfl (e_ret2 (e_fn (e_cons (e_ofL (e_ssK (ds := xs.map .str) rfl rfl (setOk_strs hl))) rfl) ?_) rfl)
  rw [set_nm N h] <;> rfl
theorem p_islands (N : Nm n g) : islandsF [.val (fdD b n g h)] none = some (.val (.tuple (nmD n g)), none) := by
  have hp := prs_len N.hi
  have e := e_lc2m (s := ⟨slotsOf 4 [.val (fdD b n g h)], none⟩) (s1 := ⟨slotsOf 4 [.val (fdD b n g h)], none⟩) (fz := []) (vs := [2, 3, 1]) (vs1 := [1]) (mi := iSeq (mVar 0)) (g := gA 2 (gsCons (gN 2) (gsCons (gN 3) gsNil))) (mt := mYes)
    (mi1 := iSeq (mVar 2)) (g1 := gN 1) (mt1 := mYes) (me := mVar 1) (xs := prs n) (enc := fdI b g h) (f := fun p => [PyData.str (g p.1), .str (g p.2)])
    (e_seqI rfl (sq_seq _ _)) (fun p hp => ⟨_, _, _, _, sq_gA b rfl, rfl, e_seqI rfl (sq_seq b _), rfl⟩)
    (Nat.le_trans (fm_len (k := 2) fun i hi => Nat.le_refl 2) (by omega))
  have e2 : (prs n).flatMap (fun p => [PyData.str (g p.1), .str (g p.2)]) = ((prs n).flatMap fun p => [g p.1, g p.2]).map .str := by
    rw [List.map_flatMap]
    rfl
  rw [e2] at e
  refine e_run rfl (e_ret2 (e_callV (e_cons (e_ofL e) rfl) (p_setOf ?_ N fun x => ?_)) rfl)
  · exact Nat.lt_of_le_of_lt (fm_len (k := 2) fun i hi => Nat.le_refl 2) (by omega)
  · rw [List.mem_flatMap]
    constructor
    · rintro ⟨p, hp, hx⟩
      have := mem_prs.mp hp
      rcases List.mem_cons.mp hx with rfl | hx
      · exact ⟨p.1, by omega, rfl⟩
      · rw [List.mem_singleton.mp hx]
        exact ⟨p.2, by omega, rfl⟩
    · rintro ⟨i, hi, rfl⟩
      have := N.lo
      by_cases c : i = 0
      · exact ⟨(0, 1), mem_prs.mpr ⟨by decide, by show 1 < n; omega⟩, by rw [c]; exact List.mem_cons_self⟩
      · exact ⟨(0, i), mem_prs.mpr ⟨by show 0 < i; omega, hi⟩, List.mem_cons_of_mem _ List.mem_cons_self⟩
theorem height_go (N : Nm n g) : ∀ (ps acc : List (Nat × Nat)), (acc ++ ps).Nodup → (∀ p ∈ acc ++ ps, p ∈ prs n) → (acc ++ ps).length ≤ 66 →
    dcGo (gA 2 (gsCons (gN 1) (gsCons (gN 2) gsNil))) mYes (mFn fTup (mCons (mVar 1) mNil)) (mVar 2) [some (.val (fdD b n g h)), none, none] (ps.map (fdI b g h)) (acc.map fun p => (prD false g p, PyData.int (h p.1 p.2))) none = some ((acc ++ ps).map fun p => (prD false g p, PyData.int (h p.1 p.2)), none)
  | [], acc, _, _, _ => by rw [List.append_nil]; rfl
  | p :: ps, acc, nd, hm, hl => by
    have e1 : (gA 2 (gsCons (gN 1) (gsCons (gN 2) gsNil))) (fdI b g h p) ⟨[some (.val (fdD b n g h)), none, none], none⟩ = some ⟨[some (.val (fdD b n g h)), some (.val (prD b g p)), some (.val (.int (h p.1 p.2)))], none⟩ := sq_gA b rfl
    show (gA 2 (gsCons (gN 1) (gsCons (gN 2) gsNil)) (fdI b g h p) _).bind _ = _
    rw [e1, Option.bind_some]
    have e2 : mFn fTup (mCons (mVar 1) mNil) ⟨[some (.val (fdD b n g h)), some (.val (prD b g p)), some (.val (.int (h p.1 p.2)))], none⟩ = some (prD false g p, ⟨[some (.val (fdD b n g h)), some (.val (prD b g p)), some (.val (.int (h p.1 p.2)))], none⟩) := e_fn (e_cons rfl rfl) (sq_tup b _)
    show (mFn fTup (mCons (mVar 1) mNil) _).bind _ = _
    rw [e2, Option.bind_some]
    have hl2 : acc.length ≤ 66 := by rw [List.length_append] at hl; omega
    show (if okPut _ (prD false g p) = true then _ else none) = _
    rw [if_pos (okPut_pr (f := fun p => .int (h p.1 p.2)) hl2 p)]
    have hp : p ∈ prs n := hm p (List.mem_append_right _ List.mem_cons_self)
    have e3 : dPut (acc.map fun p => (prD false g p, PyData.int (h p.1 p.2))) (prD false g p) (.int (h p.1 p.2)) = (acc ++ [p]).map fun p => (prD false g p, PyData.int (h p.1 p.2)) := by
      unfold dPut
      rw [if_neg, List.map_append]
      · rfl
      · rw [List.any_eq_true]
        rintro ⟨x, hx, hk⟩
        obtain ⟨q, hq, rfl⟩ := List.mem_map.mp hx
        have hk' : eqK (prD false g q) (prD false g p) = true := hk
        rw [eqK_pr N (hm q (List.mem_append_left _ hq)) hp] at hk'
        have := of_decide_eq_true hk'
        subst this
        rw [List.nodup_append] at nd
        exact nd.2.2 q hq q List.mem_cons_self rfl
    show dcGo _ _ _ _ _ _ (dPut _ _ (.int (h p.1 p.2))) _ = _
    rw [e3]
    have e4 : acc ++ p :: ps = (acc ++ [p]) ++ ps := by simp
    rw [e4] at nd hm hl ⊢
    exact height_go N ps (acc ++ [p]) nd hm hl
theorem p_height (N : Nm n g) : heightF [.val (fdD b n g h)] none = some (.newd (tb n g h), none) := by
  have e := height_go (b := b) (h := h) N (prs n) [] (prs_nd N.hi) (fun _ h => h) (prs_len N.hi)
  refine e_run (r := .newd (tb n g h)) rfl ?_
  show sRetD _ _ = _
  unfold sRetD
  have e2 : mDcm (iSeq (mVar 0)) [] [1, 2] (gA 2 (gsCons (gN 1) (gsCons (gN 2) gsNil))) mYes (mFn fTup (mCons (mVar 1) mNil)) (mVar 2) ⟨slotsOf 3 [.val (fdD b n g h)], none⟩ = some (tb n g h, ⟨slotsOf 3 [.val (fdD b n g h)], none⟩) := by
    unfold mDcm
    rw [e_seqI (ds := (prs n).map (fdI b g h)) rfl (sq_seq _ _), Option.bind_some]
    show (dcGo _ _ _ _ [some (.val (fdD b n g h)), none, none] ((prs n).map (fdI b g h)) [] none).map _ = _
    exact (congrArg (Option.map _) e).trans rfl
  rw [e2] <;> rfl
end
end FD
set_option Elab.async false
set_option linter.all false
set_option maxRecDepth 100000
set_option maxHeartbeats 4000000
namespace FD
open PySem PySem.Spec PyProof.Rows L2 DL
open PySem.W (dataLt alike alikeAll AllAlike)
section
variable {n : Nat} {g : Nat → Str} {h : Ht} {b : Bool}
theorem lay_all {xs : List Str} (h : ∀ x ∈ xs, PyData.canLay0 (.str x) = true) : PyData.canLayAll0 (xs.map PyData.str) = true ∧ PyData.depthAll (xs.map PyData.str) = 0 := by
  induction xs with
  | nil => exact ⟨by simp [PyData.canLayAll0], by simp [PyData.depthAll]⟩
  | cons x xs ih =>
    obtain ⟨h1, h2⟩ := ih fun y hy => h y (List.mem_cons_of_mem _ hy)
    have h3 := h x List.mem_cons_self
    exact ⟨by rw [List.map_cons, PyData.canLayAll0, h3, h1]; rfl, by rw [List.map_cons, PyData.depthAll, h2, PyData.depth]; rfl⟩
theorem shaped_strs (b : Bool) {xs : List Str} (h : ∀ x ∈ xs, PyData.canLay0 (.str x) = true) : SeqAt.shaped (sq b (xs.map .str)) = true := by
  obtain ⟨h1, h2⟩ := lay_all h
  cases b
  · show SeqAt.shaped (.tuple _) = true
    unfold SeqAt.shaped
    simp only [PyData.canLay0, PyData.depth, h1, h2]
    decide
  · show SeqAt.shaped (.list _) = true
    unfold SeqAt.shaped
    simp only [PyData.canLay0, PyData.depth, h1, h2]
    decide
theorem shaped_str {x : Str} (h : PyData.canLay0 (.str x) = true) : SeqAt.shaped (.str x) = true := by
  unfold SeqAt.shaped
  rw [h, PyData.depth]
  rfl
theorem any_strs {x : Str} {xs : List Str} : (xs.map PyData.str).any (fun z => PyData.eqv z (.str x)) = decide (x ∈ xs) := by
  induction xs with
  | nil => simp
  | cons y xs ih =>
    rw [List.map_cons, List.any_cons, ih, PyData.eqv]
    by_cases e : y = x
    · simp [e]
    · have e2 : (y == x) = false := beq_eq_false_iff_ne.mpr e
      have e3 : ¬ x = y := fun q => e q.symm
      rw [e2]
      simp [e3]
theorem in_strs {neg : Bool} {x : Str} {xs : List Str} (hx : PyData.canLay0 (.str x) = true) (h : ∀ x ∈ xs, PyData.canLay0 (.str x) = true) : dInN neg (.str x) (sq b (xs.map .str)) = some (.bool (neg ^^ decide (x ∈ xs))) := by
  unfold dInN
  rw [sq_items, Option.bind_some, shaped_str hx, shaped_strs b h, any_strs] <;> rfl
abbrev G45 : MG := gA 2 (gsCons (gN 4) (gsCons (gN 5) gsNil))
theorem T_of (N : Nm n g) {T T1 : Ht} (hs : Sym T) {m : Nat} (hm : m < n) (h1 : ∀ i j, (i, j) ∈ prs n → (i = m ∨ j = m) → T1 i j = T i j) {i : Nat} (hi : i < n) (e : i ≠ m) :
    mDixN 2 (mCall pairOfF (mCons (mVar 4) (mCons (mVar 1) mNil))) = mDixN 2 (mCall pairOfF (mCons (mVar 4) (mCons (mVar 1) mNil))) ∧ T1 (min i m) (max i m) = T i m ∧ (min i m, max i m) ∈ prs n := by
  have hin : (min i m, max i m) ∈ prs n := mem_prs.mpr ⟨by show min i m < max i m; omega, by show max i m < n; omega⟩
  refine ⟨rfl, ?_, hin⟩
  rw [h1 _ _ hin (by omega)]
  rcases Nat.lt_or_gt_of_ne e with q | q
  · rw [Nat.min_eq_left (by omega), Nat.max_eq_right (by omega)]
  · rw [Nat.min_eq_right (by omega), Nat.max_eq_left (by omega), hs]
theorem lastIn_one (N : Nm n g) {T T1 : Ht} (hs : Sym T) {m : Nat} (hm : m < n) {fd nms : Dt} (h1 : ∀ i j, (i, j) ∈ prs n → (i = m ∨ j = m) → T1 i j = T i j) {p : Nat × Nat} (hp : p ∈ prs n) (hT : T1 p.1 p.2 = T p.1 p.2) (a6 : Option SV) :
    ∃ b6, lastIn ⟨[some (.val fd), some (.val (.str (g m))), some (.dic (tb n g T1)), some (.val nms), some (.val (.str (g p.1))), some (.val (.str (g p.2))), a6], none⟩ = some (.nx ⟨[some (.val fd), some (.val (.str (g m))), some (.dic (tb n g (set2 T1 p (fwStep T m p.1 p.2)))), some (.val nms), some (.val (.str (g p.1))), some (.val (.str (g p.2))), b6], none⟩) := by
  obtain ⟨q1, q2⟩ := mem_prs.mp hp
  have hn1 : p.1 < n := by omega
  have tst : dNotIn (.str (g m)) (.tuple [.str (g p.1), .str (g p.2)]) = some (.bool (!decide (m = p.1 ∨ m = p.2))) := by
    have := in_strs (b := false) (neg := true) (x := g m) (xs := [g p.1, g p.2]) (N.ok m hm) (fun x hx => by
      rcases List.mem_cons.mp hx with rfl | hx
      · exact N.ok _ hn1
      · rw [List.mem_singleton.mp hx]; exact N.ok _ q2)
    have e : decide (g m ∈ [g p.1, g p.2]) = decide (m = p.1 ∨ m = p.2) := by
      refine decide_eq_decide.mpr ?_
      rw [List.mem_cons, List.mem_singleton]
      exact ⟨fun q => q.imp (N.inj hm hn1) (N.inj hm q2), fun q => q.imp (congrArg g) (congrArg g)⟩
    rw [e, Bool.true_xor] at this
    exact this
  by_cases c : m = p.1 ∨ m = p.2
  · rw [decide_eq_true c] at tst
    refine ⟨a6, ?_⟩
    have e : tb n g (set2 T1 p (fwStep T m p.1 p.2)) = tb n g T1 := tb_congr fun q hq => by
      unfold set2
      by_cases e : (q.1, q.2) = p
      · rw [if_pos e]
        have e1 : q.1 = p.1 := by rw [← e]
        have e2 : q.2 = p.2 := by rw [← e]
        rw [e1, e2, hT]
        unfold fwStep
        rw [if_pos c]
      · rw [if_neg e]
    rw [e]
    exact e_sifF (b := false) (e_tst (e_bin rfl (e_tup (e_cons rfl (e_cons rfl rfl)) (Nat.le_of_ble_eq_true rfl)) tst)) rfl rfl
  · rw [decide_eq_false c] at tst
    have c1 : p.1 ≠ m := fun q => c (.inl q.symm)
    have c2 : p.2 ≠ m := fun q => c (.inr q.symm)
    obtain ⟨_, t1, i1⟩ := T_of N hs hm h1 hn1 c1
    obtain ⟨_, t2, i2⟩ := T_of N hs hm h1 q2 c2
    have d1 := tb_at N (T := T1) i1
    have d2 := tb_at N (T := T1) i2
    have d3 := tb_at N (T := T1) hp
    rw [show T1 (min p.1 m, max p.1 m).1 (min p.1 m, max p.1 m).2 = T p.1 m from t1] at d1
    rw [show T1 (min p.2 m, max p.2 m).1 (min p.2 m, max p.2 m).2 = T p.2 m from t2] at d2
    rw [hT] at d3
    have k : ∀ q : Nat × Nat, (noNone (prD false g q) && keyOk (prD false g q)) = true := fun q => by rw [keyOk_pr] <;> rfl
    have mn : fMinA [.int (T p.1 m), .int (T p.2 m)] = some (.int (min (T p.1 m) (T p.2 m))) := by
      show some (PyData.int (if T p.2 m < T p.1 m then T p.2 m else T p.1 m)) = _
      congr 2
      split <;> omega
    have mx : fMaxA [.int (T p.1 p.2), .int (min (T p.1 m) (T p.2 m))] = some (.int (fwStep T m p.1 p.2)) := by
      have e : fMaxA [.int (T p.1 p.2), .int (min (T p.1 m) (T p.2 m))] = some (.int (max (T p.1 p.2) (min (T p.1 m) (T p.2 m)))) := by
        show some (PyData.int (if T p.1 p.2 < min (T p.1 m) (T p.2 m) then min (T p.1 m) (T p.2 m) else T p.1 p.2)) = _
        congr 2
        split <;> omega
      rw [e]
      unfold fwStep
      rw [if_neg c]
    refine ⟨some (.val (.int (min (T p.1 m) (T p.2 m)))), ?_⟩
    refine e_sifT (b := true) (e_tst (e_bin rfl (e_tup (e_cons rfl (e_cons rfl rfl)) (Nat.le_of_ble_eq_true rfl)) tst)) rfl ?_
    refine e_seq (e_asg (e_fn (e_cons (e_dixN (e_callV (e_cons rfl (e_cons rfl rfl)) (p_pair N hn1 hm c1)) rfl (k _) d1) (e_cons (e_dixN (e_callV (e_cons rfl (e_cons rfl rfl)) (p_pair N q2 hm c2)) rfl (k _) d2) rfl)) mn) rfl) ?_
    have e := e_put (i := 2) (m := mFn fMaxA (mCons (mDixN 2 (mTup (mCons (mVar 4) (mCons (mVar 5) mNil)))) (mCons (mVar 6) mNil))) (mk := mTup (mCons (mVar 4) (mCons (mVar 5) mNil))) (s := ⟨[some (.val fd), some (.val (.str (g m))), some (.dic (tb n g T1)), some (.val nms), some (.val (.str (g p.1))), some (.val (.str (g p.2))), some (.val (.int (min (T p.1 m) (T p.2 m))))], none⟩)
      (e_fn (e_cons (e_dixN (e_tup (e_cons rfl (e_cons rfl rfl)) (Nat.le_of_ble_eq_true rfl)) rfl (k p) d3) (e_cons rfl rfl)) mx) rfl (e_tup (e_cons rfl (e_cons rfl rfl)) (Nat.le_of_ble_eq_true rfl)) rfl (okPut_tb N T1 p)
    rw [show dPut (tb n g T1) (.tuple [.str (g p.1), .str (g p.2)]) (.int (fwStep T m p.1 p.2)) = tb n g (set2 T1 p (fwStep T m p.1 p.2)) from tb_put N hp] at e
    exact e
theorem lastIn_all (N : Nm n g) {T : Ht} (hs : Sym T) {m : Nat} (hm : m < n) {fd nms : Dt} : ∀ (ps : List (Nat × Nat)) (T1 : Ht), ps.Nodup → (∀ p ∈ ps, p ∈ prs n) → (∀ p ∈ ps, T1 p.1 p.2 = T p.1 p.2) → (∀ i j, (i, j) ∈ prs n → (i = m ∨ j = m) → T1 i j = T i j) → ∀ a4 a5 a6 : Option SV, ∃ (T2 : Ht) (b4 b5 b6 : Option SV),
    forGo G45 lastIn (ps.map (prD false g)) ⟨[some (.val fd), some (.val (.str (g m))), some (.dic (tb n g T1)), some (.val nms), a4, a5, a6], none⟩ = some (.nx ⟨[some (.val fd), some (.val (.str (g m))), some (.dic (tb n g T2)), some (.val nms), b4, b5, b6], none⟩) ∧
    (∀ p ∈ prs n, p ∈ ps → T2 p.1 p.2 = fwStep T m p.1 p.2) ∧ (∀ p ∈ prs n, p ∉ ps → T2 p.1 p.2 = T1 p.1 p.2)
  | [], T1, _, _, _, _, a4, a5, a6 => ⟨T1, a4, a5, a6, rfl, fun _ _ q => absurd q List.not_mem_nil, fun _ _ _ => rfl⟩
  | p :: ps, T1, nd, hin, hT, h1, a4, a5, a6 => by
    have nd' := List.nodup_cons.mp nd
    have hp := hin p List.mem_cons_self
    obtain ⟨b6, e1⟩ := lastIn_one N hs hm (fd := fd) (nms := nms) h1 hp (hT p List.mem_cons_self) a6
    have same : ∀ q : Nat × Nat, q ≠ p → set2 T1 p (fwStep T m p.1 p.2) q.1 q.2 = T1 q.1 q.2 := fun q hq => if_neg hq
    have here : set2 T1 p (fwStep T m p.1 p.2) p.1 p.2 = fwStep T m p.1 p.2 := if_pos rfl
    obtain ⟨T2, c4, c5, c6, e2, k1, k2⟩ := lastIn_all N hs hm (fd := fd) (nms := nms) ps (set2 T1 p (fwStep T m p.1 p.2)) nd'.2 (fun q hq => hin q (List.mem_cons_of_mem _ hq)) (fun q hq => by
      rw [same q fun e => nd'.1 (e ▸ hq)]
      exact hT q (List.mem_cons_of_mem _ hq)) (fun i j hij hc => by
      by_cases e : (i, j) = p
      · subst e
        rw [here]
        unfold fwStep
        rw [if_pos (by omega)]
      · exact (same (i, j) e).trans (h1 i j hij hc)) (some (.val (.str (g p.1)))) (some (.val (.str (g p.2)))) b6
    refine ⟨T2, c4, c5, c6, for_step (s1 := ⟨[some (.val fd), some (.val (.str (g m))), some (.dic (tb n g T1)), some (.val nms), some (.val (.str (g p.1))), some (.val (.str (g p.2))), a6], none⟩) rfl e1 e2, fun q hq hm' => ?_, fun q hq hm' => ?_⟩
    · rcases List.mem_cons.mp hm' with rfl | hm'
      · rw [k2 q hq nd'.1, here]
      · exact k1 q hq hm'
    · rw [k2 q hq fun z => hm' (List.mem_cons_of_mem _ z), same q fun e => hm' (e ▸ List.mem_cons_self)]
theorem lastOut_ok (N : Nm n g) {T : Ht} (hs : Sym T) {m : Nat} (hm : m < n) {fd : Dt} (a4 a5 a6 : Option SV) : ∃ b4 b5 b6 : Option SV, lastOut ⟨[some (.val fd), some (.val (.str (g m))), some (.dic (tb n g T)), some (.val (.tuple (nmD n g))), a4, a5, a6], none⟩ = some (.nx ⟨[some (.val fd), some (.val (.str (g m))), some (.dic (tb n g (fwStep T m))), some (.val (.tuple (nmD n g))), b4, b5, b6], none⟩) := by
  obtain ⟨T2, b4, b5, b6, e, k1, _⟩ := lastIn_all N hs hm (fd := fd) (nms := .tuple (nmD n g)) (prs n) T (prs_nd N.hi) (fun _ q => q) (fun _ _ => rfl) (fun _ _ _ _ => rfl) a4 a5 a6
  rw [tb_congr fun p hp => k1 p hp hp] at e
  exact ⟨b4, b5, b6, e_for (e_seqI (e_callV (e_cons rfl rfl) (p_allPairs N)) rfl) e⟩
theorem last_loop (N : Nm n g) {fd : Dt} : ∀ (ms : List Nat) (T : Ht), Sym T → (∀ m ∈ ms, m < n) → ∀ a1 a4 a5 a6 : Option SV, ∃ b1 b4 b5 b6 : Option SV,
    forGo (gN 1) lastOut (ms.map fun i => .str (g i)) ⟨[some (.val fd), a1, some (.dic (tb n g T)), some (.val (.tuple (nmD n g))), a4, a5, a6], none⟩ = some (.nx ⟨[some (.val fd), b1, some (.dic (tb n g (ms.foldl fwStep T))), some (.val (.tuple (nmD n g))), b4, b5, b6], none⟩)
  | [], T, _, _, a1, a4, a5, a6 => ⟨a1, a4, a5, a6, rfl⟩
  | m :: ms, T, hs, hm, a1, a4, a5, a6 => by
    obtain ⟨b4, b5, b6, e1⟩ := lastOut_ok N hs (hm m List.mem_cons_self) (fd := fd) a4 a5 a6
    obtain ⟨c1, c4, c5, c6, e2⟩ := last_loop N ms (fwStep T m) (sym_step hs m) (fun k hk => hm k (List.mem_cons_of_mem _ hk)) (fd := fd) (some (.val (.str (g m)))) b4 b5 b6
    exact ⟨c1, c4, c5, c6, for_step rfl e1 e2⟩
theorem p_last (N : Nm n g) (hs : Sym h) : lastF [.val (fdD b n g h)] none = some (.newd (tb n g (fw h n)), none) := by
  obtain ⟨b1, b4, b5, b6, e⟩ := last_loop N (fd := fdD b n g h) (List.range n) h hs (fun m hm => List.mem_range.mp hm) none none none none
  exact e_run rfl (e_seq (e_par (e_pK (e_callD (e_cons rfl rfl) (p_height N)) (e_pD (e_callV (e_cons rfl rfl) (p_islands N)) rfl)) rfl) (e_seq (e_for (e_seqI rfl rfl) e) rfl))
end
end FD
set_option Elab.async false
set_option linter.all false
set_option maxRecDepth 100000
set_option maxHeartbeats 4000000
namespace FD
open PySem PySem.Spec PyProof.Rows L2 DL
open PySem.W (dataLt alike alikeAll AllAlike)
def pairsIn : MS := (sAsg (mBin dAdd (mVar 1) (mOfL (mLc (iSeq (mSl (mVar 0) (oSome (mBin dAdd (mVar 2) (mC (.int 1)))) oNone)) [] [4] (gN 4) mYes (mTup (mCons (mVar 3) (mCons (mVar 4) mNil)))))) (gN 1))
def pairsB : MS := (sSeq (sAsg (mOfL (mLst mNil)) (gN 1))
  (sSeq (sFor (iEnumA (mCons (mVar 0) mNil)) (gA 2 (gsCons (gN 2) (gsCons (gN 3) gsNil))) pairsIn)
  (sRetV 1)))
def pairsF : FM := runD 1 5 pairsB
section
variable {n : Nat} {g : Nat → Str} {h : Ht} {b : Bool}
theorem add_list {xs ys : List Dt} (h : xs.length + ys.length ≤ 100000) : dAdd (.list xs) (.list ys) = some (.list (xs ++ ys)) := by
  show (if xs.length + ys.length ≤ sizeLine then _ else none) = _
  rw [if_pos (Nat.le_of_lt (sz_big h))]
def row (n : Nat) (i : Nat) : List (Nat × Nat) := (List.range' (i + 1) (n - (i + 1))).map fun j => (i, j)
theorem row_len (n i : Nat) : (row n i).length ≤ n := by unfold row; rw [List.length_map, List.length_range']; omega
theorem pairs_loop (N : Nm n g) : ∀ (ms : List Nat) (acc : List (Nat × Nat)), acc.length + ms.length * 12 ≤ 10000 → ∀ a2 a3 a4 : Option SV, ∃ b2 b3 b4 : Option SV,
    forGo (gA 2 (gsCons (gN 2) (gsCons (gN 3) gsNil))) pairsIn (ms.map fun i : Nat => PyData.tuple [.int (i : Int), .str (g i)]) ⟨[some (.val (.tuple (nmD n g))), some (.val (.list (acc.map (prD false g)))), a2, a3, a4], none⟩ =
      some (.nx ⟨[some (.val (.tuple (nmD n g))), some (.val (.list ((acc ++ ms.flatMap (row n)).map (prD false g)))), b2, b3, b4], none⟩)
  | [], acc, _, a2, a3, a4 => ⟨a2, a3, a4, by rw [List.flatMap_nil, List.append_nil]; rfl⟩
  | i :: ms, acc, hl, a2, a3, a4 => by
    have hn := N.hi
    have h1 := row_len n i
    rw [List.length_cons, Nat.add_mul] at hl
    obtain ⟨b2, b3, b4, e⟩ := pairs_loop N ms (acc ++ row n i) (by rw [List.length_append]; omega) (some (.val (.int (i : Int)))) (some (.val (.str (g i)))) a4
    refine ⟨b2, b3, b4, ?_⟩
    rw [List.flatMap_cons, ← List.append_assoc]
    refine for_step (s1 := ⟨[some (.val (.tuple (nmD n g))), some (.val (.list (acc.map (prD false g)))), some (.val (.int (i : Int))), some (.val (.str (g i))), a4], none⟩) rfl ?_ e
    have e1 : iSeq (mSl (mVar 0) (oSome (mBin dAdd (mVar 2) (mC (.int 1)))) oNone) ⟨[some (.val (.tuple (nmD n g))), some (.val (.list (acc.map (prD false g)))), some (.val (.int (i : Int))), some (.val (.str (g i))), a4], none⟩ =
        some ((List.range' (i + 1) (n - (i + 1))).map (fun j => PyData.str (g j)), ⟨[some (.val (.tuple (nmD n g))), some (.val (.list (acc.map (prD false g)))), some (.val (.int (i : Int))), some (.val (.str (g i))), a4], none⟩) := by
      refine e_seqI (e_sl rfl rfl rfl sl_from) ?_
      unfold nmD
      rw [drop_range] <;> rfl
    have e2 := e_lcm (fz := []) (vs := [4]) (g := gN 4) (mt := mYes) (me := mTup (mCons (mVar 3) (mCons (mVar 4) mNil))) (xs := List.range' (i + 1) (n - (i + 1))) (enc := fun j => PyData.str (g j)) (p := fun _ => true) (f := fun j => prD false g (i, j)) e1
      (fun j hj => st_yes2 (b := true) rfl rfl rfl (e_tup (e_cons rfl (e_cons rfl rfl)) (Nat.le_of_ble_eq_true rfl)) rfl) (by rw [List.length_range']; omega)
    rw [filt_true] at e2
    refine e_asg (e_bin rfl (e_ofL e2) (add_list ?_)) ?_
    · rw [List.length_map, List.length_map, List.length_range']; omega
    · rw [List.map_append]
      unfold row
      rw [List.map_map]
      rfl
theorem p_pairs (N : Nm n g) : pairsF [.val (.tuple (nmD n g))] none = some (.val (.list ((prs n).map (prD false g))), none) := by
  have hn := N.hi
  obtain ⟨b2, b3, b4, e⟩ := pairs_loop N (List.range n) [] (by rw [List.length_range]; show 0 + n * 12 ≤ _; omega) none none none
  exact e_run rfl (e_seq (e_asg (e_ofL (e_lst rfl (Nat.zero_le _))) rfl) (e_seq (e_for (e_enumT (e_cons rfl rfl)) (by unfold nmD at e ⊢; rw [enum_range]; exact e)) rfl))
end
def listsB (n : FM) : MS := (sRet (mIf (mTru (mIsa ["list", "tuple"] (mVar 0))) (mOfL (mLc (iSeq (mVar 0)) [] [1] (gN 1) mYes (mCall n (mCons (mVar 1) mNil)))) (mVar 0)))
def listsF : Nat → FM
  | 0 => fun _ _ => none
  | n + 1 => runD 1 2 (listsB (listsF n))
theorem l_str (k : Nat) (x : Str) : listsF (k + 1) [.val (.str x)] none = some (.val (.str x), none) := e_run rfl (e_ret2 (e_ifF (b := false) rfl rfl rfl) rfl)
theorem l_int (k : Nat) (x : Int) : listsF (k + 1) [.val (.int x)] none = some (.val (.int x), none) := e_run rfl (e_ret2 (e_ifF (b := false) rfl rfl rfl) rfl)
theorem l_seq {α : Type} {k : Nat} {b : Bool} {xs : List α} {enc f : α → Dt} (h : ∀ x ∈ xs, listsF k [.val (enc x)] none = some (.val (f x), none)) (hl : xs.length ≤ 100000) : listsF (k + 1) [.val (sq b (xs.map enc))] none = some (.val (.list (xs.map f)), none) := by
  have e := e_lcm (s := ⟨slotsOf 2 [.val (sq b (xs.map enc))], none⟩) (s1 := ⟨slotsOf 2 [.val (sq b (xs.map enc))], none⟩) (mi := iSeq (mVar 0)) (fz := []) (vs := [1]) (g := gN 1) (mt := mYes) (me := mCall (listsF k) (mCons (mVar 1) mNil)) (xs := xs) (enc := enc) (p := fun _ => true) (f := f) (e_seqI rfl (sq_seq b _)) (fun x hx => st_yes2 (b := true) rfl rfl rfl (e_callV (e_cons rfl rfl) (h x hx)) rfl) hl
  rw [filt_true] at e
  refine e_run rfl (e_ret2 (e_ifT (b := true) ?_ rfl (e_ofL e)) rfl)
  cases b <;> rfl
theorem l_two {k : Nat} {b : Bool} {x y x' y' : Dt} (h1 : listsF k [.val x] none = some (.val x', none)) (h2 : listsF k [.val y] none = some (.val y', none)) : listsF (k + 1) [.val (sq b [x, y])] none = some (.val (.list [x', y']), none) :=
  l_seq (xs := [(x, x'), (y, y')]) (enc := Prod.fst) (f := Prod.snd) (fun q hq => by
    rcases List.mem_cons.mp hq with rfl | hq
    · exact h1
    · rw [List.mem_singleton.mp hq]; exact h2) (Nat.le_of_ble_eq_true rfl)
theorem l_pr (k : Nat) (b : Bool) (g : Nat → Str) (p : Nat × Nat) : listsF (k + 2) [.val (prD b g p)] none = some (.val (prD true g p), none) := l_two (l_str k _) (l_str k _)
theorem l_fdI (k : Nat) (b : Bool) (g : Nat → Str) (h : Ht) (p : Nat × Nat) : listsF (k + 3) [.val (fdI b g h p)] none = some (.val (fdI true g h p), none) := l_two (l_pr k b g p) (l_int (k + 1) _)
theorem l_fd (k : Nat) (b : Bool) {n : Nat} (hn : n ≤ 12) (g : Nat → Str) (h : Ht) : listsF (k + 4) [.val (fdD b n g h)] none = some (.val (fdD true n g h), none) := l_seq (fun p _ => l_fdI k b g h p) (by have := prs_len hn; omega)
def pickIn : MS := (sApp 5 (mPop 4 (mCallU (takeF) (cUrn 0 (cCons (mLenN 4) cNil)))))
def pickB : MS := (sSeq (sPar [4, 5] (pL (mFnL fList (mCons (mVar 1) mNil)) (pL (mLst mNil) pNil)))
  (sSeq (sFor (iRng (mCons (mFn fMinA (mCons (mVar 2) (mCons (mLenN 4) mNil))) mNil)) (gN 3) pickIn)
  (sRetV 5)))
def pickF : FM := runD 3 6 pickB
theorem seqIx {v : Int} {k : Nat} (h0 : 0 ≤ v) (h1 : v < k) : seqIndex? v k = some v.toNat := by
  have e : (if v < 0 then v + k else v) = v := if_neg (by omega)
  have e2 : seqIndex? v k = if (0 ≤ (if v < 0 then v + (k : Int) else v) && (if v < 0 then v + (k : Int) else v) < (k : Int)) = true then some (if v < 0 then v + (k : Int) else v).toNat else none := rfl
  rw [e2, e, decide_eq_true h0, decide_eq_true h1] <;> rfl
theorem e_pop {s s1 : Stt} {i : Nat} {m : MD} {ds es : List Dt} {v : Int} {d : Dt} (h0 : isOwn s i = some es) (h1 : m s = some (.int v, s1)) (h2 : isOwn s1 i = some ds) (hv : 0 ≤ v) (hv2 : v < ds.length) (hl : ds.length ≤ 100000) (hd : ds[v.toNat]? = some d) : mPop i m s = some (d, put s1 i (.own (ds.eraseIdx v.toNat))) := by
  unfold mPop
  rw [h0, Option.bind_some, h1, Option.bind_some, h2, Option.bind_some]
  show (if -(2 ^ 63) ≤ v ∧ v < 2 ^ 63 then _ else none) = _
  rw [if_pos (by omega), seqIx hv hv2, Option.bind_some, hd] <;> rfl
theorem perm_pop {α : Type} {ds : List α} {k : Nat} {d : α} (h : ds[k]? = some d) : (d :: ds.eraseIdx k).Perm ds := by
  induction ds generalizing k with
  | nil => cases h
  | cons x ds ih =>
    cases k with
    | zero => cases h; exact List.Perm.refl _
    | succ k =>
      have h' : ds[k]? = some d := h
      exact (List.Perm.swap x d _).trans (List.Perm.cons x (ih h'))
theorem pick_loop {pool : List Dt} {pd sz : Dt} (hp : pool.length ≤ 1000) : ∀ (ds : List Dt) (found rest : List Dt) (k : Nat) (u : List Int) (a3 : Option SV), (found ++ rest).Perm pool → ds.length ≤ rest.length → UOk k u → k + ds.length < 1000000 → ∃ found' rest' u' b3,
    forGo (gN 3) pickIn ds ⟨[some .urn, some (.val pd), some (.val sz), a3, some (.own rest), some (.own found)], some u⟩ = some (.nx ⟨[some .urn, some (.val pd), some (.val sz), b3, some (.own rest'), some (.own found')], some u'⟩) ∧ (found' ++ rest').Perm pool ∧ found'.length = found.length + ds.length ∧ UOk (k + ds.length) u'
  | [], found, rest, k, u, a3, h, _, hu, _ => ⟨found, rest, u, a3, rfl, h, rfl, hu⟩
  | d :: ds, found, rest, k, u, a3, h, hl, hu, hk => by
    rw [List.length_cons] at hl hk
    have hlen := h.length_eq
    rw [List.length_append] at hlen
    obtain ⟨v, u1, e1, v0, v1, hu1⟩ := take_ok (n := (rest.length : Int)) (by omega) (by rw [Int.natAbs_natCast]; exact log2_small (Nat.lt_of_le_of_lt (show rest.length ≤ 1000 by omega) (Nat.lt_of_lt_of_le (by decide) pw_le))) (by omega) hu
    have hv : v.toNat < rest.length := by omega
    have hd : rest[v.toNat]? = some rest[v.toNat] := List.getElem?_eq_getElem hv
    have pm : ((found ++ [rest[v.toNat]]) ++ rest.eraseIdx v.toNat).Perm pool := by
      rw [List.append_assoc]
      exact (List.Perm.append_left found (perm_pop hd)).trans h
    obtain ⟨f2, r2, u2, b3, e2, p2, l2, hu2⟩ := pick_loop hp (pd := pd) (sz := sz) ds (found ++ [rest[v.toNat]]) (rest.eraseIdx v.toNat) (k + 1) u1 (some (.val d)) pm (by rw [List.length_eraseIdx_of_lt hv]; omega) hu1 (by omega)
    refine ⟨f2, r2, u2, b3, ?_, p2, ?_, hu2.mono (by rw [List.length_cons]; omega)⟩
    · refine for_step (s1 := ⟨[some .urn, some (.val pd), some (.val sz), some (.val d), some (.own rest), some (.own found)], some u⟩) rfl ?_ e2
      have e3 : mPop 4 (mCallU (takeF) (cUrn 0 (cCons (mLenN 4) cNil))) ⟨[some .urn, some (.val pd), some (.val sz), some (.val d), some (.own rest), some (.own found)], some u⟩ = some (rest[v.toNat], ⟨[some .urn, some (.val pd), some (.val sz), some (.val d), some (.own (rest.eraseIdx v.toNat)), some (.own found)], some u1⟩) :=
        e_pop (ds := rest) (es := rest) (s1 := ⟨[some .urn, some (.val pd), some (.val sz), some (.val d), some (.own rest), some (.own found)], some u1⟩) rfl (e_callUV (s1 := ⟨[some .urn, some (.val pd), some (.val sz), some (.val d), some (.own rest), some (.own found)], some u⟩) (e_curn rfl (e_ccons (e_lenN rfl rfl) rfl)) e1) rfl v0 v1 (by omega) hd
      exact e_app (es := found) (ds := found) rfl e3 rfl (by omega)
    · rw [l2, List.length_append]
      show found.length + 1 + ds.length = found.length + (ds.length + 1)
      omega
theorem min_ints (a b : Int) : fMinA [.int a, .int b] = some (.int (min a b)) := by
  show some (PyData.int (if b < a then b else a)) = _
  congr 2
  split <;> omega
theorem max_ints (a b : Int) : fMaxA [.int a, .int b] = some (.int (max a b)) := by
  show some (PyData.int (if a < b then b else a)) = _
  congr 2
  split <;> omega
theorem pick_ok {b : Bool} {pool : List Dt} {z : Nat} (hp : pool.length ≤ 1000) (hz : z ≤ 1000) {k : Nat} {u : List Int} (hu : UOk k u) (hk : k + 2000 < 1000000) : ∃ found rest u', pickF [.urn, .val (sq b pool), .val (.int (z : Int))] (some u) = some (.new found, some u') ∧ (found ++ rest).Perm pool ∧ found.length = min z pool.length ∧ UOk (k + min z pool.length) u' := by
  have hmin : (min (z : Int) (pool.length : Int)).toNat = min z pool.length := by omega
  obtain ⟨found, rest, u', b3, e, p, l, hu'⟩ := pick_loop hp (pd := sq b pool) (sz := .int (z : Int)) (rngD 0 (min (z : Int) (pool.length : Int)).toNat) [] pool k u none (List.Perm.refl _) (by rw [rngD_length, hmin]; omega) hu (by rw [rngD_length, hmin]; omega)
  rw [rngD_length, hmin] at l hu'
  refine ⟨found, rest, u', ?_, p, by rw [l]; simp, hu'⟩
  exact e_run rfl (e_seq (e_par (e_pL (e_fnL (e_cons rfl rfl) (sq_list b _)) (e_pL (e_lst rfl (Nat.zero_le _)) rfl)) rfl) (e_seq (e_for (e_rng (e_cons (e_fn (e_cons rfl (e_cons (e_lenN rfl rfl) rfl)) (min_ints _ _)) rfl) (by omega)) e) rfl))
end FD
set_option Elab.async false
set_option linter.all false
set_option maxRecDepth 100000
set_option maxHeartbeats 4000000
namespace FD
open PySem PySem.Spec PyProof.Rows L2 DL
open PySem.W (dataLt alike alikeAll AllAlike)
def poolM : MA := (mLst (mCons (mC (.str (Str.ofString "a"))) (mCons (mC (.str (Str.ofString "b"))) (mCons (mC (.str (Str.ofString "c"))) (mCons (mC (.str (Str.ofString "d"))) (mCons (mC (.str (Str.ofString "e"))) (mCons (mC (.str (Str.ofString "ab"))) (mCons (mC (.str (Str.ofString "ba"))) (mCons (mC (.str (Str.ofString "abcdefgh"))) (mCons (mC (.str (Str.ofString "abcdefgi"))) (mCons (mC (.str (Str.ofString "x"))) (mCons (mC (.str (Str.ofString "zz"))) (mCons (mC (.str (Str.ofString "q"))) mNil)))))))))))))
def islesB : MS := (sRet (mFn fTup (mCons (mOfL (mFnL fSortD (mCons (mCallU (pickF) (cUrn 0 (cCons (mOfL poolM) (cCons (mVar 1) cNil)))) mNil))) mNil)))
def islesF : FM := runD 2 2 islesB
def pool : List Str := [Str.ofString "a", Str.ofString "b", Str.ofString "c", Str.ofString "d", Str.ofString "e", Str.ofString "ab", Str.ofString "ba", Str.ofString "abcdefgh", Str.ofString "abcdefgi", Str.ofString "x", Str.ofString "zz", Str.ofString "q"]
theorem pool_nd : pool.Nodup := by decide +kernel
theorem pool_ok : ∀ x ∈ pool, PyData.canLay0 (.str x) = true := by decide +kernel
theorem strs_of {L : List Dt} {xs : List Str} (h : ∀ d ∈ L, d ∈ xs.map PyData.str) : ∃ ys : List Str, L = ys.map .str ∧ ∀ y ∈ ys, y ∈ xs := by
  induction L with
  | nil => exact ⟨[], rfl, fun _ q => absurd q List.not_mem_nil⟩
  | cons d L ih =>
    obtain ⟨ys, e, hy⟩ := ih fun d hd => h d (List.mem_cons_of_mem _ hd)
    obtain ⟨x, hx, rfl⟩ := List.mem_map.mp (h d List.mem_cons_self)
    exact ⟨x :: ys, by rw [e]; rfl, fun y hy' => by
      rcases List.mem_cons.mp hy' with rfl | hy'
      · exact hx
      · exact hy y hy'⟩
def unStr : Dt → Str
  | .str x => x
  | _ => ⟨#[]⟩
theorem un_strs (xs : List Str) : (xs.map PyData.str).map unStr = xs := by
  rw [List.map_map]
  exact List.map_id xs
theorem sort_strs (xs : List Str) : ∃ ys : List Str, sortD (xs.map .str) = ys.map .str ∧ ys.Perm xs := by
  have p := sortD_perm (xs.map PyData.str)
  obtain ⟨ys, e, _⟩ := strs_of (L := sortD (xs.map .str)) (xs := xs) fun d hd => p.mem_iff.mp hd
  refine ⟨ys, e, ?_⟩
  rw [e] at p
  have := p.map unStr
  rwa [un_strs, un_strs] at this
theorem nm_of {ys : List Str} (asc : AscD (ys.map PyData.str)) (lo : 2 ≤ ys.length) (hi : ys.length ≤ 12) (ok : ∀ y ∈ ys, PyData.canLay0 (.str y) = true) : Nm ys.length (fun i => ys.getD i ⟨#[]⟩) ∧ ys.map PyData.str = nmD ys.length (fun i => ys.getD i ⟨#[]⟩) := by
  constructor
  · refine ⟨fun i j hij hj => ?_, lo, hi, fun i hi => ?_⟩
    · rw [AscD, List.pairwise_map] at asc
      have := List.pairwise_iff_getElem.mp asc i j (by omega) hj hij
      rw [lt_strs] at this
      simpa [List.getD, List.getElem?_eq_getElem hj, List.getElem?_eq_getElem (show i < ys.length by omega)] using this
    · have := ok ys[i] (List.getElem_mem hi)
      simpa [List.getD, List.getElem?_eq_getElem hi] using this
  · unfold nmD
    refine List.ext_getElem (by simp) fun i h1 h2 => ?_
    have : i < ys.length := by simpa using h1
    simp [List.getD, List.getElem?_eq_getElem this]
theorem sort_asc {xs : List Str} (nd : xs.Nodup) : AscD (sortD (xs.map .str)) := by
  have nd2 : (xs.map PyData.str).Nodup := List.pairwise_map.mpr (nd.imp fun h e => h (PyData.str.inj e))
  have e := setD_sort (l := xs.map PyData.str) (m := xs.map PyData.str) all_strs nd2 fun _ => Iff.rfl
  rw [e]
  exact setD_asc all_strs
theorem sort_fn {xs : List Str} : fSortD [.list (xs.map .str)] = some (sortD (xs.map .str)) := by
  show (if sortOk (xs.map PyData.str) = true then _ else none) = _
  rw [if_pos (sortOk_strs xs)]
theorem p_isles {z : Nat} (lo : 2 ≤ z) (hi : z ≤ 12) {k : Nat} {u : List Int} (hu : UOk k u) (hk : k + 2000 < 1000000) : ∃ g u', islesF [.urn, .val (.int (z : Int))] (some u) = some (.val (.tuple (nmD z g)), some u') ∧ Nm z g ∧ UOk (k + 12) u' := by
  obtain ⟨found, rest, u', e, p, l, hu'⟩ := pick_ok (b := true) (pool := pool.map PyData.str) (z := z) (by decide) (by omega) hu hk
  have hl : found.length = z := by rw [l, List.length_map]; show min z 12 = z; omega
  obtain ⟨fs, rfl, hfs⟩ := strs_of (L := found) (xs := pool) fun d hd => p.mem_iff.mp (List.mem_append_left _ hd)
  have nd : fs.Nodup := by
    have h1 : (pool.map PyData.str).Nodup := List.pairwise_map.mpr (pool_nd.imp fun h e => h (PyData.str.inj e))
    have h2 := (p.nodup_iff.mpr h1)
    rw [List.nodup_append] at h2
    have h3 := List.pairwise_map.mp h2.1
    exact h3.imp fun h e => h (congrArg _ e)
  obtain ⟨ys, e2, p2⟩ := sort_strs fs
  have asc := sort_asc nd
  rw [e2] at asc
  have hyl : ys.length = z := by rw [p2.length_eq]; simpa using hl
  obtain ⟨N, e3⟩ := nm_of asc (by omega) (by omega) fun y hy => pool_ok y (hfs y (p2.mem_iff.mp hy))
  rw [hyl] at N e3
  refine ⟨_, u', ?_, N, hu'.mono (by simp only [List.length_map]; show k + min z 12 ≤ k + 12; omega)⟩
  refine e_run rfl (e_ret2 (e_fn (e_cons (e_ofL (e_fnL (e_cons (e_callUW (e_curn rfl (e_ccons (e_ofL rfl) (e_ccons rfl rfl))) e) rfl) sort_fn)) rfl) ?_) rfl)
  rw [e2, e3] <;> rfl
def fordsIn : MD := (mTup (mCons (mVar 4) (mCons (mBin dAdd (mBin dMul (mVar 3) (mCallU (takeF) (cUrn 0 (cCons (mBin dAdd (mVar 2) (mC (.int 1))) cNil)))) (mBin dMul (mFn fInt (mCons (mBin dGt (mVar 3) (mC (.int 1))) mNil)) (mBin dFdiv (mCallU (takeF) (cUrn 0 (cCons (mC (.int 4)) cNil))) (mC (.int 3))))) mNil)))
def fordsB : MS := (sSeq (sAsg (mCallU (ofF) (cUrn 0 (cCons (mOfL (mLst (mCons (mC (.int 1)) (mCons (mC (.int 1)) (mCons (mC (.int 1)) (mCons (mC (.int 7)) (mCons (mBin dPow (mC (.int 10)) (mC (.int 39))) mNil))))))) cNil))) (gN 3))
  (sRet (mFn fTup (mCons (mOfL (mLc (iSeq (mCall (pairsF) (mCons (mVar 1) mNil))) [] [4] (gN 4) mYes fordsIn)) mNil))))
def fordsF : FM := runD 3 5 fordsB
theorem lcGo_drawP {α β : Type} [DecidableEq α] {g : MG} {mt : MT} {me : MD} {sb : List (Option SV)} (ein : α → Dt) (enc : α → β → Dt) (Good : β → Prop) (b0 : β) (c K : Nat) : ∀ (xs : List α), xs.Nodup → (∀ x ∈ xs, ∀ k u, UOk k u → k + c ≤ K → ∃ b u', lcStep g mt me sb (ein x) (some u) = some (some (enc x b), some u') ∧ Good b ∧ UOk (k + c) u') →
    ∀ k u, UOk k u → k + c * xs.length ≤ K → ∃ f : α → β, ∃ u', lcGo g mt me sb (xs.map ein) (some u) = some (xs.map (fun x => enc x (f x)), some u') ∧ (∀ x ∈ xs, Good (f x)) ∧ UOk (k + c * xs.length) u'
  | [], _, _, k, u, hu, _ => ⟨fun _ => b0, u, rfl, fun _ q => absurd q List.not_mem_nil, hu⟩
  | x :: xs, nd, h, k, u, hu, hk => by
    rw [List.length_cons, Nat.mul_add, Nat.mul_one] at hk
    have nd' := List.nodup_cons.mp nd
    obtain ⟨b, u1, e1, g1, hu1⟩ := h x List.mem_cons_self k u hu (by omega)
    obtain ⟨f, u2, e2, g2, hu2⟩ := lcGo_drawP ein enc Good b0 c K xs nd'.2 (fun y hy => h y (List.mem_cons_of_mem _ hy)) (k + c) u1 hu1 (by omega)
    have ne : ∀ y ∈ xs, y ≠ x := fun y hy e => nd'.1 (e ▸ hy)
    refine ⟨fun y => if y = x then b else f y, u2, ?_, fun y hy => ?_, hu2.mono (by rw [List.length_cons, Nat.mul_add, Nat.mul_one]; omega)⟩
    · rw [List.map_cons, lcGo_cons, e1, Option.bind_some, e2, List.map_cons]
      show some (enc x b :: _, some u2) = some (enc x (if x = x then b else f x) :: _, some u2)
      rw [if_pos rfl]
      have : xs.map (fun y => enc y (if y = x then b else f y)) = xs.map (fun y => enc y (f y)) := List.map_congr_left fun y hy => by rw [if_neg (ne y hy)]
      rw [this] <;> rfl
    · rcases List.mem_cons.mp hy with rfl | hy
      · simp only [if_pos]; exact g1
      · simp only [if_neg (ne y hy)]; exact g2 y hy
theorem p_fords {n : Nat} {g : Nat → Str} (N : Nm n g) {m : Int} (hm : 0 ≤ m) (hm2 : m < 1000) {k : Nat} {u : List Int} (hu : UOk k u) (hk : k + 2000 < 1000000) : ∃ h u', fordsF [.urn, .val (.tuple (nmD n g)), .val (.int m)] (some u) = some (.val (fdD false n g h), some u') ∧ Sym h ∧ (∀ i j, i < n → j < n → i ≠ j → 0 ≤ h i j) ∧ UOk (k + 200) u' := by
  have hpl := prs_len N.hi
  obtain ⟨x, u1, e1, hx, hu1⟩ := of_ok (d := .list [.int 1, .int 1, .int 1, .int 7, .int (10 ^ 39)]) (.inl rfl) (by decide) (by decide) (by omega) hu
  obtain ⟨un, rfl, un0⟩ : ∃ un : Int, x = .int un ∧ 0 < un := by
    simp only [List.mem_cons, List.not_mem_nil, or_false] at hx
    rcases hx with rfl | rfl | rfl | rfl | rfl
    · exact ⟨_, rfl, by decide⟩
    · exact ⟨_, rfl, by decide⟩
    · exact ⟨_, rfl, by decide⟩
    · exact ⟨_, rfl, by decide⟩
    · exact ⟨_, rfl, by decide⟩
  obtain ⟨f, u2, e2, g2, hu2⟩ := lcGo_drawP (g := gN 4) (mt := mYes) (me := fordsIn) (sb := blkSl [some .urn, some (.val (.tuple (nmD n g))), some (.val (.int m)), some (.val (.int un)), none] [4]) (prD false g) (fun p v => sq false [prD false g p, .int v]) (fun v : Int => 0 ≤ v) 0 2 999000 (prs n) (prs_nd N.hi) (by
    intro p hp k u hu hk
    obtain ⟨a, u1, e1, a1, a2, hu1⟩ := take_ok (n := m + 1) (by omega) (by have : (m + 1).natAbs ≤ 1000 := by omega
                                                                           exact log2_small (Nat.lt_of_le_of_lt this (Nat.lt_of_lt_of_le (by decide) pw_le))) (by omega) hu
    obtain ⟨c, u2, e2, c1, c2, hu2⟩ := take_ok (n := 4) (by decide) (by decide) (by omega) hu1
    have hc : 0 ≤ c / 3 := Int.ediv_nonneg c1 (by decide)
    have q1 : ∀ x y : Bool → Int, x true = 1 → x false = 0 → True := fun _ _ _ _ => trivial
    refine ⟨un * a + (if decide (1 < un) = true then 1 else 0) * (c / 3), u2, ?_, ?_, hu2⟩
    · apply st_yes2 (b := true) rfl rfl rfl
      · exact e_tup (e_cons rfl (e_cons (e_bin (e_bin rfl (e_callUV (e_curn rfl (e_ccons (e_bin rfl rfl rfl) rfl)) e1) (e_mul (.inr (by constructor <;> omega)))) (e_bin (e_fn (e_cons (e_bin rfl rfl rfl) rfl) rfl) (e_bin (e_callUV (e_curn rfl (e_ccons rfl rfl)) e2) rfl (e_fdiv (by decide) (by decide))) (e_mul (.inr (by constructor <;> omega)))) rfl) rfl)) (Nat.le_of_ble_eq_true rfl)
      · rfl
    · have h1 : 0 ≤ un * a := Int.mul_nonneg (by omega) a1
      have h2 : 0 ≤ (if decide (1 < un) = true then (1 : Int) else 0) * (c / 3) := Int.mul_nonneg (by split <;> decide) hc
      show 0 ≤ un * a + _
      omega) (k + 1) u1 hu1 (by omega)
  have key : ∀ p ∈ prs n, f (min p.1 p.2, max p.1 p.2) = f p := fun p hp => by
    obtain ⟨q1, q2⟩ := mem_prs.mp hp
    rw [Nat.min_eq_left (by omega), Nat.max_eq_right (by omega)]
  refine ⟨fun i j => f (min i j, max i j), u2, ?_, fun i j => by show f _ = f _; rw [Nat.min_comm, Nat.max_comm], fun i j hi hj e => ?_, hu2.mono (by omega)⟩
  · have e0 : iSeq (mCall (pairsF) (mCons (mVar 1) mNil)) ⟨[some .urn, some (.val (.tuple (nmD n g))), some (.val (.int m)), some (.val (.int un)), none], some u1⟩ = some ((prs n).map (prD false g), ⟨[some .urn, some (.val (.tuple (nmD n g))), some (.val (.int m)), some (.val (.int un)), none], some u1⟩) := e_seqI (e_callV (e_cons rfl rfl) (p_pairs N)) rfl
    have e3 := e_lc (fz := []) (vs := [4]) e0 e2 (by rw [List.length_map]; omega)
    refine e_run rfl (e_seq (e_asg (e_callUV (e_curn rfl (e_ccons (e_ofL (e_lst (e_cons rfl (e_cons rfl (e_cons rfl (e_cons rfl (e_cons (e_bin rfl rfl rfl) rfl))))) (Nat.le_of_ble_eq_true rfl))) rfl)) e1) rfl) (e_ret2 (e_fn (e_cons (e_ofL e3) rfl) ?_) rfl))
    show some (PyData.tuple _) = some (PyData.tuple _)
    congr 2
    refine List.map_congr_left fun p hp => ?_
    show sq false [prD false g p, .int (f p)] = sq false [prD false g p, .int (f (min p.1 p.2, max p.1 p.2))]
    rw [key p hp]
  · show 0 ≤ f _
    exact g2 _ (mem_prs.mpr ⟨by show min i j < max i j; omega, by show max i j < n; omega⟩)
end FD
set_option Elab.async false
set_option linter.all false
set_option maxRecDepth 100000
set_option maxHeartbeats 4000000
namespace FD
open PySem PySem.Spec PyProof.Rows L2 DL
open PySem.W (dataLt alike alikeAll AllAlike)
def lot1 : MS := (sIf (mAndT (mTst (mInN false (mVar 8) 4)) (mTst (mInN true (mVar 9) 4))) (sApp 4 (mVar 9)) sNil)
def lotE : MS := (sIf (mTst (mBin dGt (mVar 7) (mVar 2))) (sFor (iSeq (mTup (mCons (mVar 6) (mCons (mUn dRevA (mVar 6)) mNil)))) (gA 2 (gsCons (gN 8) (gsCons (gN 9) gsNil))) lot1) sNil)
def lotR : MS := (sFor (iSeq (mVar 0)) (gA 2 (gsCons (gN 6) (gsCons (gN 7) gsNil))) lotE)
def lotB : MS := (sSeq (sSetL 4 (mLst (mCons (mVar 3) mNil)))
  (sSeq (sFor (iRng (mCons (mLenN 1) mNil)) (gN 5) lotR)
  (sRet (mFn fTup (mCons (mOfL (mFnL fSortD (mCons (mVar 4) mNil))) mNil)))))
def lotF : FM := runD 4 10 lotB
section
variable {n : Nat} {g : Nat → Str} {h : Ht} {b : Bool} {w : Int}
def lD (g : Nat → Str) (l : List Nat) : List Dt := (l.map g).map .str
structure LG (n : Nat) (l : List Nat) : Prop where
  nd : l.Nodup
  lt : ∀ y ∈ l, y < n
theorem LG.add {l : List Nat} (L : LG n l) (a : Nat) {b : Nat} (hb : b < n) : LG n (add1 l a b) := by
  rcases add1_or l a b with q | q
  · rw [q.1]; exact L
  · rw [q.1]
    refine ⟨?_, fun y hy => ?_⟩
    · rw [List.nodup_append]
      exact ⟨L.nd, by simp, fun y hy z hz => by rw [List.mem_singleton.mp hz]; exact fun e => q.2.2 (e ▸ hy)⟩
    · rcases List.mem_append.mp hy with hy | hy
      · exact L.lt y hy
      · rw [List.mem_singleton.mp hy]; exact hb
theorem g_mem (N : Nm n g) {l : List Nat} (L : LG n l) {a : Nat} (ha : a < n) : g a ∈ l.map g ↔ a ∈ l := by
  rw [List.mem_map]
  constructor
  · rintro ⟨y, hy, e⟩
    rw [← N.inj (L.lt y hy) ha e]
    exact hy
  · exact fun q => ⟨a, q, rfl⟩
theorem l_lay (N : Nm n g) {l : List Nat} (L : LG n l) : ∀ x ∈ l.map g, PyData.canLay0 (.str x) = true := fun x hx => by
  obtain ⟨y, hy, rfl⟩ := List.mem_map.mp hx
  exact N.ok y (L.lt y hy)
theorem in_l (N : Nm n g) {l : List Nat} (L : LG n l) {a : Nat} (ha : a < n) (neg : Bool) : dInN neg (.str (g a)) (.list (lD g l)) = some (.bool (neg ^^ decide (a ∈ l))) := by
  have := in_strs (b := true) (neg := neg) (N.ok a ha) (l_lay N L)
  rwa [decide_eq_decide.mpr (g_mem N L ha)] at this
theorem lot1_ok (N : Nm n g) {l : List Nat} (L : LG n l) {a c : Nat} (ha : a < n) (hc : c < n) (s0 s1 s2 s3 s5 s6 s7 : Option SV) :
    lot1 ⟨[s0, s1, s2, s3, some (.own (lD g l)), s5, s6, s7, some (.val (.str (g a))), some (.val (.str (g c)))], none⟩ = some (.nx ⟨[s0, s1, s2, s3, some (.own (lD g (add1 l a c))), s5, s6, s7, some (.val (.str (g a))), some (.val (.str (g c)))], none⟩) := by
  have hl := nodup_len L.nd L.lt
  have hn := N.hi
  have i1 := in_l N L ha false
  have i2 := in_l N L hc true
  unfold add1
  by_cases q1 : a ∈ l
  · rw [decide_eq_true q1] at i1
    by_cases q2 : c ∈ l
    · rw [decide_eq_true q2] at i2
      rw [if_neg fun q => q.2 q2]
      exact e_sifF (b := false) (e_andT (b := true) (e_tst (e_inN rfl rfl i1)) rfl (e_tst (e_inN rfl rfl i2))) rfl rfl
    · rw [decide_eq_false q2] at i2
      rw [if_pos ⟨q1, q2⟩]
      have e : lD g (l ++ [c]) = lD g l ++ [.str (g c)] := by unfold lD; rw [List.map_append, List.map_append]; rfl
      rw [e]
      exact e_sifT (b := true) (e_andT (b := true) (e_tst (e_inN rfl rfl i1)) rfl (e_tst (e_inN rfl rfl i2))) rfl (e_app (i := 4) (m := mVar 9) (d := .str (g c)) (s1 := ⟨[s0, s1, s2, s3, some (.own (lD g l)), s5, s6, s7, some (.val (.str (g a))), some (.val (.str (g c)))], none⟩) (es := lD g l) (ds := lD g l) rfl rfl rfl (by unfold lD; rw [List.length_map, List.length_map]; omega))
  · rw [decide_eq_false q1] at i1
    rw [if_neg fun q => q1 q.1]
    exact e_sifF (b := false) (e_andF (b := false) (e_tst (e_inN rfl rfl i1)) rfl) rfl rfl
theorem lotE_ok (N : Nm n g) {l : List Nat} (L : LG n l) {p : Nat × Nat} (hp : p ∈ prs n) {v : Int} (s0 s1 s3 s5 s8 s9 : Option SV) : ∃ t8 t9 : Option SV,
    lotE ⟨[s0, s1, some (.val (.int w)), s3, some (.own (lD g l)), s5, some (.val (prD b g p)), some (.val (.int v)), s8, s9], none⟩ = some (.nx ⟨[s0, s1, some (.val (.int w)), s3, some (.own (lD g (addE w l (p, v)))), s5, some (.val (prD b g p)), some (.val (.int v)), t8, t9], none⟩) ∧ LG n (addE w l (p, v)) := by
  obtain ⟨q1, q2⟩ := mem_prs.mp hp
  have hp1 : p.1 < n := by omega
  unfold addE
  by_cases c : w < v
  · rw [if_pos c]
    have L1 := L.add p.1 q2
    refine ⟨some (.val (.str (g p.2))), some (.val (.str (g p.1))), ?_, L1.add p.2 hp1⟩
    have r : dRevA (prD b g p) = some (prD b g (p.2, p.1)) := by cases b <;> rfl
    refine e_sifT (b := decide (w < v)) (e_tst (e_bin rfl rfl rfl)) (decide_eq_true c) ?_
    refine e_for (e_seqI (e_tup (e_cons rfl (e_cons (e_un rfl r) rfl)) (Nat.le_of_ble_eq_true rfl)) rfl) ?_
    exact for_step (sq_gA b rfl) (lot1_ok N L hp1 q2 s0 s1 _ s3 s5 _ _) (for_step (sq_gA b rfl) (lot1_ok N L1 q2 hp1 s0 s1 _ s3 s5 _ _) rfl)
  · rw [if_neg c]
    exact ⟨s8, s9, e_sifF (b := decide (w < v)) (e_tst (e_bin rfl rfl rfl)) (decide_eq_false c) rfl, L⟩
theorem lotR_go (N : Nm n g) : ∀ (ps : List (Nat × Nat)) (l : List Nat), LG n l → (∀ p ∈ ps, p ∈ prs n) → ∀ s0 s1 s3 s5 s6 s7 s8 s9 : Option SV, ∃ t6 t7 t8 t9 : Option SV,
    forGo (gA 2 (gsCons (gN 6) (gsCons (gN 7) gsNil))) lotE (ps.map (fdI b g h)) ⟨[s0, s1, some (.val (.int w)), s3, some (.own (lD g l)), s5, s6, s7, s8, s9], none⟩ =
      some (.nx ⟨[s0, s1, some (.val (.int w)), s3, some (.own (lD g (rnd w (ps.map fun p => (p, h p.1 p.2)) l))), s5, t6, t7, t8, t9], none⟩) ∧ LG n (rnd w (ps.map fun p => (p, h p.1 p.2)) l)
  | [], l, L, _, s0, s1, s3, s5, s6, s7, s8, s9 => ⟨s6, s7, s8, s9, rfl, L⟩
  | p :: ps, l, L, hp, s0, s1, s3, s5, s6, s7, s8, s9 => by
    obtain ⟨t8, t9, e1, L1⟩ := lotE_ok (b := b) (w := w) N L (hp p List.mem_cons_self) (v := h p.1 p.2) s0 s1 s3 s5 s8 s9
    obtain ⟨r6, r7, r8, r9, e2, L2⟩ := lotR_go N ps _ L1 (fun q hq => hp q (List.mem_cons_of_mem _ hq)) s0 s1 s3 s5 (some (.val (prD b g p))) (some (.val (.int (h p.1 p.2)))) t8 t9
    exact ⟨r6, r7, r8, r9, for_step (sq_gA b rfl) e1 e2, L2⟩
theorem lot_go (N : Nm n g) : ∀ (ds : List Dt) (l : List Nat), LG n l → ∀ s1 s3 s5 s6 s7 s8 s9 : Option SV, ∃ t5 t6 t7 t8 t9 : Option SV,
    forGo (gN 5) lotR ds ⟨[some (.val (fdD b n g h)), s1, some (.val (.int w)), s3, some (.own (lD g l)), s5, s6, s7, s8, s9], none⟩ = some (.nx ⟨[some (.val (fdD b n g h)), s1, some (.val (.int w)), s3, some (.own (lD g (rnds w (eds n h) ds.length l))), t5, t6, t7, t8, t9], none⟩) ∧ LG n (rnds w (eds n h) ds.length l)
  | [], l, L, s1, s3, s5, s6, s7, s8, s9 => ⟨s5, s6, s7, s8, s9, rfl, L⟩
  | d :: ds, l, L, s1, s3, s5, s6, s7, s8, s9 => by
    obtain ⟨t6, t7, t8, t9, e1, L1⟩ := lotR_go (b := b) (h := h) (w := w) N (prs n) l L (fun _ q => q) (some (.val (fdD b n g h))) s1 s3 (some (.val d)) s6 s7 s8 s9
    obtain ⟨r5, r6, r7, r8, r9, e2, L2⟩ := lot_go N ds _ L1 s1 s3 (some (.val d)) t6 t7 t8 t9
    exact ⟨r5, r6, r7, r8, r9, for_step rfl (e_for (e_seqI rfl (sq_seq b _)) e1) e2, L2⟩
theorem nmD_len : (nmD n g).length = n := by unfold nmD; rw [List.length_map, List.length_range]
theorem p_lot (N : Nm n g) {x : Nat} (hx : x < n) : lotF [.val (fdD b n g h), .val (.tuple (nmD n g)), .val (.int w), .val (.str (g x))] none = some (.val (.tuple (sortD (lD g (lot n h w x)))), none) ∧ LG n (lot n h w x) := by
  have hn := N.hi
  obtain ⟨t5, t6, t7, t8, t9, e, L⟩ := lot_go (b := b) (h := h) (w := w) N (rngD 0 n) [x] ⟨by simp, fun y hy => by rw [List.mem_singleton.mp hy]; exact hx⟩ (some (.val (.tuple (nmD n g)))) (some (.val (.str (g x)))) none none none none none
  rw [rngD_length] at e L
  refine ⟨?_, L⟩
  have e0 : iRng (mCons (mLenN 1) mNil) ⟨[some (.val (fdD b n g h)), some (.val (.tuple (nmD n g))), some (.val (.int w)), some (.val (.str (g x))), some (.own (lD g [x])), none, none, none, none, none], none⟩ = some (rngD 0 n, ⟨[some (.val (fdD b n g h)), some (.val (.tuple (nmD n g))), some (.val (.int w)), some (.val (.str (g x))), some (.own (lD g [x])), none, none, none, none, none], none⟩) := by
    have := e_rng (mr := mCons (mLenN 1) mNil) (s := ⟨[some (.val (fdD b n g h)), some (.val (.tuple (nmD n g))), some (.val (.int w)), some (.val (.str (g x))), some (.own (lD g [x])), none, none, none, none, none], none⟩) (n := ((nmD n g).length : Int)) (e_cons (e_lenN rfl rfl) rfl) (by rw [nmD_len]; omega)
    rwa [Int.toNat_natCast, nmD_len] at this
  exact e_run rfl (e_seq (e_setL (e_lst (e_cons rfl rfl) (Nat.le_of_ble_eq_true rfl))) (e_seq (e_for e0 e) (e_ret2 (e_fn (e_cons (e_ofL (e_fnL (e_cons rfl rfl) sort_fn)) rfl) rfl) rfl)))
def turnsIn : MS := (sAsg (mBin dAdd (mVar 1) (mOfL (mLst (mCons (mVar 3) (mCons (mBin dAdd (mVar 3) (mC (.int 1))) (mCons (mFn fMaxA (mCons (mC (.int 0)) (mCons (mBin dSub (mVar 3) (mC (.int 1))) mNil))) mNil)))))) (gN 1))
def turnsB : MS := (sSeq (sAsg (mOfL (mLst (mCons (mC (.int 0)) mNil))) (gN 1))
  (sSeq (sFor (iSeq (mVar 0)) (gA 2 (gsCons (gN 2) (gsCons (gN 3) gsNil))) turnsIn)
  (sRetL (mSortSetA (mVar 1)))))
def turnsF : FM := runD 1 4 turnsB
def tw (v : Int) : List Int := [v, v + 1, max 0 (v - 1)]
theorem turns_go : ∀ (ps : List (Nat × Nat)) (acc : List Int), acc.length + ps.length * 3 ≤ 10000 → ∀ s2 s3 : Option SV, ∃ t2 t3 : Option SV,
    forGo (gA 2 (gsCons (gN 2) (gsCons (gN 3) gsNil))) turnsIn (ps.map (fdI b g h)) ⟨[some (.val (fdD b n g h)), some (.val (.list (acc.map .int))), s2, s3], none⟩ = some (.nx ⟨[some (.val (fdD b n g h)), some (.val (.list ((acc ++ ps.flatMap fun p => tw (h p.1 p.2)).map .int))), t2, t3], none⟩)
  | [], acc, _, s2, s3 => ⟨s2, s3, by rw [List.flatMap_nil, List.append_nil]; rfl⟩
  | p :: ps, acc, hl, s2, s3 => by
    rw [List.length_cons, Nat.add_mul] at hl
    obtain ⟨t2, t3, e⟩ := turns_go ps (acc ++ tw (h p.1 p.2)) (by rw [List.length_append]; show acc.length + 3 + _ ≤ _; omega) (some (.val (prD b g p))) (some (.val (.int (h p.1 p.2))))
    refine ⟨t2, t3, ?_⟩
    rw [List.flatMap_cons, ← List.append_assoc]
    refine for_step (s1 := ⟨[some (.val (fdD b n g h)), some (.val (.list (acc.map .int))), some (.val (prD b g p)), some (.val (.int (h p.1 p.2)))], none⟩) (sq_gA b rfl) (e_asg (e_bin rfl (e_ofL (e_lst (e_cons rfl (e_cons (e_bin rfl rfl rfl) (e_cons (e_fn (e_cons rfl (e_cons (e_bin rfl rfl rfl) rfl)) (max_ints _ _)) rfl))) (Nat.le_of_ble_eq_true rfl))) (add_list ?_)) ?_) e
    · rw [List.length_map]; show acc.length + 3 ≤ _; omega
    · rw [List.map_append]; rfl
theorem all_ints {xs : List Int} : AllAlike (xs.map PyData.int) := fun x hx y hy => by
  obtain ⟨a, _, rfl⟩ := List.mem_map.mp hx
  obtain ⟨b, _, rfl⟩ := List.mem_map.mp hy
  rfl
theorem lay_ints : ∀ (xs : List Int), layDs (xs.map PyData.int) = true
  | [] => rfl
  | x :: xs => by
    show (layD (.int x) && layDs (xs.map PyData.int)) = true
    rw [lay_ints xs] <;> rfl
theorem setOk_ints {xs : List Int} (h : xs.length < 4000) : setOk (xs.map .int) = true := by
  unfold setOk sortOk
  rw [lay_ints, List.length_map, decide_eq_true h, Bool.and_true, Bool.and_true]
  simp only [Bool.and_eq_true, Bool.or_eq_true, List.all_eq_true, List.mem_map]
  refine ⟨?_, ⟨?_, .inr ?_⟩, ?_⟩
  · rintro x ⟨a, _, rfl⟩
    rfl
  · rintro x ⟨a, _, rfl⟩ y ⟨b, _, rfl⟩
    rfl
  · rintro x ⟨a, _, rfl⟩
    rfl
  · rintro x ⟨a, _, rfl⟩
    rfl
theorem set_ints (xs : List Int) : ∃ ms : List Int, setD (xs.map .int) = ms.map .int ∧ ms.Pairwise (· < ·) ∧ ∀ z, z ∈ ms ↔ z ∈ xs := by
  have mm : ∀ z, z ∈ setD (xs.map PyData.int) ↔ z ∈ xs.map PyData.int := fun z => setD_mem all_ints
  have go : ∀ L : List Dt, (∀ d ∈ L, d ∈ xs.map PyData.int) → ∃ ms : List Int, L = ms.map .int := by
    intro L
    induction L with
    | nil => exact fun _ => ⟨[], rfl⟩
    | cons d L ih =>
      intro hL
      obtain ⟨ms, e⟩ := ih fun d hd => hL d (List.mem_cons_of_mem _ hd)
      obtain ⟨x, hx, rfl⟩ := List.mem_map.mp (hL d List.mem_cons_self)
      exact ⟨x :: ms, by rw [e]; rfl⟩
  obtain ⟨ms, e⟩ := go _ fun d hd => (mm d).mp hd
  have asc : AscD (setD (xs.map PyData.int)) := setD_asc all_ints
  rw [e] at mm asc
  refine ⟨ms, e, ?_, fun z => ?_⟩
  · have := List.pairwise_map.mp asc
    exact this.imp fun {a c} q => by
      rw [PySem.W.dataLt_int] at q
      exact of_decide_eq_true q
  · have := mm (.int z)
    have inj : ∀ l : List Int, PyData.int z ∈ l.map PyData.int ↔ z ∈ l := fun l => by
      rw [List.mem_map]
      exact ⟨fun ⟨y, hy, e⟩ => PyData.int.inj e ▸ hy, fun q => ⟨z, q, rfl⟩⟩
    rwa [inj, inj] at this
theorem p_turns (N : Nm n g) : ∃ ms : List Int, turnsF [.val (fdD b n g h)] none = some (.new (ms.map .int), none) ∧ ms.Pairwise (· < ·) ∧ ∀ z, z ∈ ms ↔ z = 0 ∨ ∃ p ∈ prs n, z ∈ tw (h p.1 p.2) := by
  have hp := prs_len N.hi
  obtain ⟨t2, t3, e⟩ := turns_go (n := n) (b := b) (g := g) (h := h) (prs n) [0] (by show 1 + _ ≤ _; omega) none none
  obtain ⟨ms, e2, asc, mm⟩ := set_ints ([0] ++ (prs n).flatMap fun p => tw (h p.1 p.2))
  refine ⟨ms, ?_, asc, fun z => ?_⟩
  · have hl : ([(0 : Int)] ++ (prs n).flatMap fun p => tw (h p.1 p.2)).length < 4000 := by
      rw [List.length_append]
      have := fm_len (xs := prs n) (f := fun p => tw (h p.1 p.2)) (k := 3) fun _ _ => Nat.le_refl 3
      show 1 + _ < _
      omega
    have e3 := e_ssK (m := mVar 1) (s := ⟨[some (.val (fdD b n g h)), some (.val (.list (([(0 : Int)] ++ (prs n).flatMap fun p : Nat × Nat => tw (h p.1 p.2)).map .int))), t2, t3], none⟩) (ds := ([(0 : Int)] ++ (prs n).flatMap fun p : Nat × Nat => tw (h p.1 p.2)).map .int) rfl rfl (setOk_ints hl)
    rw [e2] at e3
    exact e_run rfl (e_seq (e_asg (e_ofL (e_lst (e_cons rfl rfl) (Nat.le_of_ble_eq_true rfl))) rfl) (e_seq (e_for (e_seqI rfl (sq_seq b _)) e) (e_retL2 e3 rfl)))
  · rw [mm, List.mem_append, List.mem_singleton, List.mem_flatMap]
end
end FD
set_option Elab.async false
set_option linter.all false
set_option maxRecDepth 100000
set_option maxHeartbeats 4000000
namespace FD
open PySem PySem.Spec PyProof.Rows L2 DL
def look (t : List (List Int)) : Ht := fun i j => (t.getD i []).getD j 0
def tab (n : Nat) (T : Ht) : List (List Int) := (List.range n).map fun i => (List.range n).map fun j => T i j
theorem look_tab {n : Nat} {T : Ht} {i j : Nat} (hi : i < n) (hj : j < n) : look (tab n T) i j = T i j := by
  unfold look tab
  simp [List.getD, hi, hj]
def fwTab (n : Nat) : List Nat → List (List Int) → List (List Int)
  | [], t => t
  | m :: ms, t => fwTab n ms (tab n (fwStep (look t) m))
theorem fwTab_eq {n : Nat} : ∀ (ms : List Nat) (t : List (List Int)) (T : Ht), (∀ m ∈ ms, m < n) → (∀ i j, i < n → j < n → look t i j = T i j) → ∀ i j, i < n → j < n → look (fwTab n ms t) i j = ms.foldl fwStep T i j
  | [], _, _, _, h => h
  | m :: ms, t, T, hm, h => fwTab_eq ms _ (fwStep T m) (fun k hk => hm k (List.mem_cons_of_mem _ hk)) fun i j hi hj => by
    have hmn := hm m List.mem_cons_self
    rw [look_tab hi hj]
    unfold fwStep
    rw [h i j hi hj, h i m hi hmn, h j m hj hmn]
theorem fw_tab {n : Nat} {h : Ht} {i j : Nat} (hi : i < n) (hj : j < n) : fw h n i j = look (fwTab n (List.range n) (tab n h)) i j :=
  (fwTab_eq (List.range n) (tab n h) h (fun m hm => List.mem_range.mp hm) (fun i j hi hj => look_tab hi hj) i j hi hj).symm
end FD
set_option Elab.async false
set_option linter.all false
set_option maxRecDepth 100000
set_option maxHeartbeats 4000000
namespace FD
open PySem PySem.Spec PyProof.Rows L2 DL
open PySem.W (dataLt alike alikeAll AllAlike)
section
variable {n : Nat} {g : Nat → Str} {h : Ht} {b c : Bool} {w : Int}
def InN (n : Nat) (p : Nat × Nat) : Prop := p.1 < n ∧ p.2 < n
theorem in_prs {p : Nat × Nat} (hp : p ∈ prs n) : InN n p := by
  have := mem_prs.mp hp
  exact ⟨by omega, this.2⟩
theorem sq_lay (b : Bool) {ds : List Dt} : PyData.canLay0 (sq b ds) = PyData.canLayAll0 ds := by cases b <;> simp [sq, PyData.canLay0]
theorem sq_depth (b : Bool) {ds : List Dt} : PyData.depth (sq b ds) = PyData.depthAll ds + 1 := by cases b <;> simp [sq, PyData.depth]
theorem all_lay {α : Type} {f : α → Dt} {k : Nat} : ∀ {xs : List α}, (∀ x ∈ xs, PyData.canLay0 (f x) = true ∧ PyData.depth (f x) ≤ k) → PyData.canLayAll0 (xs.map f) = true ∧ PyData.depthAll (xs.map f) ≤ k
  | [], _ => ⟨by simp [PyData.canLayAll0], by simp [PyData.depthAll]⟩
  | x :: xs, h => by
    obtain ⟨h1, h2⟩ := all_lay fun y hy => h y (List.mem_cons_of_mem _ hy)
    obtain ⟨h3, h4⟩ := h x List.mem_cons_self
    exact ⟨by rw [List.map_cons, PyData.canLayAll0, h3, h1]; rfl, by rw [List.map_cons, PyData.depthAll]; omega⟩
theorem pr_lay (N : Nm n g) {p : Nat × Nat} (hp : InN n p) : PyData.canLay0 (prD b g p) = true ∧ PyData.depth (prD b g p) ≤ 1 := by
  unfold prD
  rw [sq_lay, sq_depth, PyData.canLayAll0, PyData.canLayAll0, PyData.canLayAll0, N.ok _ hp.1, N.ok _ hp.2, PyData.depthAll, PyData.depthAll, PyData.depthAll, PyData.depth, PyData.depth]
  exact ⟨rfl, Nat.le_refl _⟩
theorem shaped_sq {α : Type} {f : α → Dt} {xs : List α} (h : ∀ x ∈ xs, PyData.canLay0 (f x) = true ∧ PyData.depth (f x) ≤ 60) : SeqAt.shaped (sq b (xs.map f)) = true := by
  obtain ⟨h1, h2⟩ := all_lay h
  unfold SeqAt.shaped
  rw [sq_lay, sq_depth, h1, decide_eq_true (by omega)] <;> rfl
theorem shaped_fd (N : Nm n g) : SeqAt.shaped (fdD b n g h) = true := by
  refine shaped_sq fun p hp => ?_
  obtain ⟨h1, h2⟩ := pr_lay (b := b) N (in_prs hp)
  unfold fdI
  rw [sq_lay, sq_depth, PyData.canLayAll0, PyData.canLayAll0, PyData.canLayAll0, h1, PyData.canLay0, PyData.depthAll, PyData.depthAll, PyData.depthAll, PyData.depth]
  exact ⟨rfl, by omega⟩
end
end FD
set_option pp.maxSteps 60
set_option Elab.async false
set_option linter.all false
set_option maxRecDepth 100000
namespace DT
open PySem PySem.Spec PyProof.Rows L2 DL
def b_pair_of : MS := (sRet (mTup (mCons (mFn fMinA (mCons (mVar 0) (mCons (mVar 1) mNil))) (mCons (mFn fMaxA (mCons (mVar 0) (mCons (mVar 1) mNil))) mNil))))
def m_pair_of : FM := runD 2 2 b_pair_of
def b_set_of : MS := (sRet (mFn fTup (mCons (mOfL (mSortSetA (mVar 0))) mNil)))
def m_set_of : FM := runD 1 1 b_set_of
def b_all_pairs : MS := (sRet (mFn fTup (mCons (mOfL (mLc2 (iEnumA (mCons (mVar 0) mNil)) [] [2, 3, 1] (gA 2 (gsCons (gN 2) (gsCons (gN 3) gsNil))) mYes (iSeq (mSl (mVar 0) (oSome (mBin dAdd (mVar 2) (mC (.int 1)))) oNone)) [1] (gN 1) mYes (mTup (mCons (mVar 3) (mCons (mVar 1) mNil))))) mNil)))
def m_all_pairs : FM := runD 1 4 b_all_pairs
def b_islands_of : MS := (sRet (mCall (m_set_of) (mCons (mOfL (mLc2 (iSeq (mVar 0)) [] [2, 3, 1] (gA 2 (gsCons (gN 2) (gsCons (gN 3) gsNil))) mYes (iSeq (mVar 2)) [1] (gN 1) mYes (mVar 1))) mNil)))
def m_islands_of : FM := runD 1 4 b_islands_of
def b_height_table : MS := (sRetD (mDcm (iSeq (mVar 0)) [] [1, 2] (gA 2 (gsCons (gN 1) (gsCons (gN 2) gsNil))) mYes (mFn fTup (mCons (mVar 1) mNil)) (mVar 2)))
def m_height_table : FM := runD 1 3 b_height_table
def b_last_table : MS := (sSeq (sPar [2, 3] (pK (mCallD (m_height_table) (mCons (mVar 0) mNil)) (pD (mCall (m_islands_of) (mCons (mVar 0) mNil)) pNil)))
  (sSeq (sFor (iSeq (mVar 3)) (gN 1) (sFor (iSeq (mCall (m_all_pairs) (mCons (mVar 3) mNil))) (gA 2 (gsCons (gN 4) (gsCons (gN 5) gsNil))) (sIf (mTst (mBin dNotIn (mVar 1) (mTup (mCons (mVar 4) (mCons (mVar 5) mNil))))) (sSeq (sAsg (mFn fMinA (mCons (mDixN 2 (mCall (m_pair_of) (mCons (mVar 4) (mCons (mVar 1) mNil)))) (mCons (mDixN 2 (mCall (m_pair_of) (mCons (mVar 5) (mCons (mVar 1) mNil)))) mNil))) (gN 6))
  (sPut 2 (mFn fMaxA (mCons (mDixN 2 (mTup (mCons (mVar 4) (mCons (mVar 5) mNil)))) (mCons (mVar 6) mNil))) (mTup (mCons (mVar 4) (mCons (mVar 5) mNil))))) sNil)))
  (sRetV 2)))
def m_last_table : FM := runD 1 7 b_last_table
def b_parting_at : MS := (sSeq (sAsg (mTup (mCons (mCall (m_last_table) (mCons (mVar 0) mNil)) (mCons (mCall (m_islands_of) (mCons (mVar 0) mNil)) mNil))) (gA 2 (gsCons (gN 3) (gsCons (gN 4) gsNil))))
  (sSeq (sSetD 2 (mDcm (iSeq (mVar 4)) [] [5] (gN 5) mYes (mVar 5) (mOfL (mLc (iSeq (mVar 4)) [] [6] (gN 6) (mOrT (mTst (mBin dEq (mVar 6) (mVar 5))) (mTst (mBin dGt (mDixN 3 (mCall (m_pair_of) (mCons (mVar 5) (mCons (mVar 6) mNil)))) (mVar 1)))) (mVar 6)))))
  (sRet (mCall (m_set_of) (mCons (mOfL (mLc (iDic Prod.snd (mVar 2)) [] [7] (gN 7) mYes (mFn fTup (mCons (mVar 7) mNil)))) mNil)))))
def m_parting_at : FM := runD 2 8 b_parting_at
def b_turning_waters : MS := (sRet (mCall (m_set_of) (mCons (mOfL (mLc (iDic Prod.snd (mCall (m_last_table) (mCons (mVar 0) mNil))) [] [1] (gN 1) (mTst (mBin dGt (mVar 1) (mC (.int 0)))) (mVar 1))) mNil)))
def m_turning_waters : FM := runD 1 2 b_turning_waters
def b__law_box : MS := (sSeq (sAsg (mIf (mTst (mBin dLt (mVar 1) (mLenN 0))) (mIxN 0 (mVar 1)) (mC (.int 0))) (gN 2))
  (sRetL (mLst (mCons (mBin dMul (mFn fAbs (mCons (mVar 2) mNil)) (mFn fInt (mCons (mBin dGe (mFn fAbs (mCons (mVar 2) mNil)) (mBin dPow (mC (.int 10)) (mC (.int 18)))) mNil))) (mCons (mBin dAdd (mBin dAdd (mBin dMod (mFn fInt (mCons (mVar 2) mNil)) (mC (.int 2305843009213693951))) (mBin dMul (mC (.int 39373)) (mVar 1))) (mC (.int 142367))) (mCons (mC (.int 0)) mNil))))))
def m__law_box : FM := runD 2 3 b__law_box
def b__law_take : MS := (sSeq (sIf (mTst (mBin dGt (mIxN 0 (mC (.int 0))) (mC (.int 0)))) (sSeq (sAsg (mBin dMod (mFn fInt (mCons (mIxN 0 (mC (.int 0))) mNil)) (mVar 1)) (gN 5))
  (sSeq (sSetIx 0 (mBin dFdiv (mIxN 0 (mC (.int 0))) (mVar 1)) (mC (.int 0)))
  (sRetV 5))) sNil)
  (sSeq (sSetIx 0 (mBin dAdd (mIxN 0 (mC (.int 2))) (mC (.int 1))) (mC (.int 2)))
  (sSeq (sAsg (mBin dMod (mFn fInt (mCons (mBin dMul (mBin dAdd (mIxN 0 (mC (.int 1))) (mBin dMul (mC (.int 48271)) (mIxN 0 (mC (.int 2))))) (mBin dAdd (mC (.int 39373)) (mIxN 0 (mC (.int 2))))) mNil)) (mC (.int 2147483647))) (gN 2))
  (sSeq (sAsg (mBin dAdd (mBin dMod (mFn fInt (mCons (mVar 2) mNil)) (mC (.int 40009))) (mC (.int 7))) (gN 3))
  (sSeq (sAsg (mBin dMod (mFn fInt (mCons (mBin dMul (mBin dAdd (mBin dAdd (mVar 2) (mIxN 0 (mC (.int 2)))) (mBin dFdiv (mIxN 0 (mC (.int 1))) (mC (.int 1000003)))) (mVar 3)) mNil)) (mC (.int 2147483629))) (gN 4))
  (sRet (mBin dMod (mFn fInt (mCons (mBin dFdiv (mBin dMod (mFn fInt (mCons (mBin dAdd (mBin dMul (mVar 4) (mC (.int 48271))) (mVar 2)) mNil)) (mC (.int 2147483587))) (mC (.int 64))) mNil)) (mVar 1))))))))
def m__law_take : FM := runD 2 6 b__law_take
def b__law_cells : MS := (sSeq (sSetL 2 (mOrL (mFnL fList (mCons (mSl (mVar 0) oNone (oSome (mVar 1))) mNil)) (mLst (mCons (mC (.int 0)) mNil))))
  (sSeq (sFor (iEnumL (mCons (mSl (mVar 0) (oSome (mVar 1)) (oSome (mC (.int 63)))) mNil)) (gT 2 (gsCons (gN 3) (gsCons (gN 4) gsNil))) (sSeq (sAsg (mBin dMod (mFn fInt (mCons (mVar 3) mNil)) (mVar 1)) (gN 5))
  (sSetIx 2 (mBin dAdd (mIxN 2 (mVar 5)) (mBin dMul (mVar 4) (mBin dAdd (mVar 3) (mC (.int 2))))) (mVar 5))))
  (sRetV 2)))
def m__law_cells : FM := runD 2 6 b__law_cells
def b__law_of : MS := (sRet (mIxN 1 (mCallU (m__law_take) (cUrn 0 (cCons (mLenN 1) cNil)))))
def m__law_of : FM := runD 2 2 b__law_of
def b__law_same (n : FM) : MS := (sSeq (sIf (mTru (mIsa ["list", "tuple"] (mVar 1))) (sSeq (sIf (mOrT (mTst (mBin dNe (mIsa ["list"] (mVar 0)) (mIsa ["list"] (mVar 1)))) (mTst (mBin dNe (mIsa ["tuple"] (mVar 0)) (mIsa ["tuple"] (mVar 1))))) (sRet (mC (.bool false))) sNil)
  (sRet (mAndV (mBin dEq (mLenN 0) (mLenN 1)) (mFn fAll (mCons (mOfL (mLc (iZip2 (mCons (mVar 0) (mCons (mVar 1) mNil))) [] [2, 3] (gT 2 (gsCons (gN 2) (gsCons (gN 3) gsNil))) mYes (mCall n (mCons (mVar 2) (mCons (mVar 3) mNil))))) mNil))))) sNil)
  (sSeq (sIf (mOrT (mTst (mBin dIs (mVar 1) (mC .none))) (mTru (mIsa ["bool", "str"] (mVar 1)))) (sRet (mAndV (mBin dEq (mVar 0) (mVar 1)) (mAndV (mBin dEq (mIsa ["bool"] (mVar 0)) (mIsa ["bool"] (mVar 1))) (mBin dEq (mBin dIs (mVar 0) (mC .none)) (mBin dIs (mVar 1) (mC .none)))))) sNil)
  (sRet (mAndV (mIsa ["int"] (mVar 0)) (mAndV (mNotV (mIsa ["bool"] (mVar 0))) (mBin dEq (mVar 0) (mVar 1)))))))
def m__law_same : Nat → FM
  | 0 => fun _ _ => none
  | n + 1 => runD 2 4 (b__law_same (m__law_same n))
def b__law_lists (n : FM) : MS := (sRet (mIf (mTru (mIsa ["list", "tuple"] (mVar 0))) (mOfL (mLc (iSeq (mVar 0)) [] [1] (gN 1) mYes (mCall n (mCons (mVar 1) mNil)))) (mVar 0)))
def m__law_lists : Nat → FM
  | 0 => fun _ _ => none
  | n + 1 => runD 1 2 (b__law_lists (m__law_lists n))
def b__law_pick : MS := (sSeq (sPar [4, 5] (pL (mFnL fList (mCons (mVar 1) mNil)) (pL (mLst mNil) pNil)))
  (sSeq (sFor (iRng (mCons (mFn fMinA (mCons (mVar 2) (mCons (mLenN 4) mNil))) mNil)) (gN 3) (sApp 5 (mPop 4 (mCallU (m__law_take) (cUrn 0 (cCons (mLenN 4) cNil))))))
  (sRetV 5)))
def m__law_pick : FM := runD 3 6 b__law_pick
def b__law_isles : MS := (sRet (mFn fTup (mCons (mOfL (mFnL fSortD (mCons (mCallU (m__law_pick) (cUrn 0 (cCons (mOfL (mLst (mCons (mC (.str (Str.ofString "a"))) (mCons (mC (.str (Str.ofString "b"))) (mCons (mC (.str (Str.ofString "c"))) (mCons (mC (.str (Str.ofString "d"))) (mCons (mC (.str (Str.ofString "e"))) (mCons (mC (.str (Str.ofString "ab"))) (mCons (mC (.str (Str.ofString "ba"))) (mCons (mC (.str (Str.ofString "abcdefgh"))) (mCons (mC (.str (Str.ofString "abcdefgi"))) (mCons (mC (.str (Str.ofString "x"))) (mCons (mC (.str (Str.ofString "zz"))) (mCons (mC (.str (Str.ofString "q"))) mNil)))))))))))))) (cCons (mVar 1) cNil)))) mNil))) mNil)))
def m__law_isles : FM := runD 2 2 b__law_isles
def b__law_pairs : MS := (sSeq (sAsg (mOfL (mLst mNil)) (gN 1))
  (sSeq (sFor (iEnumA (mCons (mVar 0) mNil)) (gA 2 (gsCons (gN 2) (gsCons (gN 3) gsNil))) (sAsg (mBin dAdd (mVar 1) (mOfL (mLc (iSeq (mSl (mVar 0) (oSome (mBin dAdd (mVar 2) (mC (.int 1)))) oNone)) [] [4] (gN 4) mYes (mTup (mCons (mVar 3) (mCons (mVar 4) mNil)))))) (gN 1)))
  (sRetV 1)))
def m__law_pairs : FM := runD 1 5 b__law_pairs
def b__law_fords : MS := (sSeq (sAsg (mCallU (m__law_of) (cUrn 0 (cCons (mOfL (mLst (mCons (mC (.int 1)) (mCons (mC (.int 1)) (mCons (mC (.int 1)) (mCons (mC (.int 7)) (mCons (mBin dPow (mC (.int 10)) (mC (.int 39))) mNil))))))) cNil))) (gN 3))
  (sRet (mFn fTup (mCons (mOfL (mLc (iSeq (mCall (m__law_pairs) (mCons (mVar 1) mNil))) [] [4] (gN 4) mYes (mTup (mCons (mVar 4) (mCons (mBin dAdd (mBin dMul (mVar 3) (mCallU (m__law_take) (cUrn 0 (cCons (mBin dAdd (mVar 2) (mC (.int 1))) cNil)))) (mBin dMul (mFn fInt (mCons (mBin dGt (mVar 3) (mC (.int 1))) mNil)) (mBin dFdiv (mCallU (m__law_take) (cUrn 0 (cCons (mC (.int 4)) cNil))) (mC (.int 3))))) mNil))))) mNil))))
def m__law_fords : FM := runD 3 5 b__law_fords
def b__law_lot : MS := (sSeq (sSetL 4 (mLst (mCons (mVar 3) mNil)))
  (sSeq (sFor (iRng (mCons (mLenN 1) mNil)) (gN 5) (sFor (iSeq (mVar 0)) (gA 2 (gsCons (gN 6) (gsCons (gN 7) gsNil))) (sIf (mTst (mBin dGt (mVar 7) (mVar 2))) (sFor (iSeq (mTup (mCons (mVar 6) (mCons (mUn dRevA (mVar 6)) mNil)))) (gA 2 (gsCons (gN 8) (gsCons (gN 9) gsNil))) (sIf (mAndT (mTst (mInN false (mVar 8) 4)) (mTst (mInN true (mVar 9) 4))) (sApp 4 (mVar 9)) sNil)) sNil)))
  (sRet (mFn fTup (mCons (mOfL (mFnL fSortD (mCons (mVar 4) mNil))) mNil)))))
def m__law_lot : FM := runD 4 10 b__law_lot
def b__law_cut : MS := (sRet (mFn fTup (mCons (mOfL (mSortSetA (mOfL (mLc (iSeq (mVar 1)) [] [3] (gN 3) mYes (mCall (m__law_lot) (mCons (mVar 0) (mCons (mVar 1) (mCons (mVar 2) (mCons (mVar 3) mNil))))))))) mNil)))
def m__law_cut : FM := runD 3 4 b__law_cut
def b__law_turns : MS := (sSeq (sAsg (mOfL (mLst (mCons (mC (.int 0)) mNil))) (gN 1))
  (sSeq (sFor (iSeq (mVar 0)) (gA 2 (gsCons (gN 2) (gsCons (gN 3) gsNil))) (sAsg (mBin dAdd (mVar 1) (mOfL (mLst (mCons (mVar 3) (mCons (mBin dAdd (mVar 3) (mC (.int 1))) (mCons (mFn fMaxA (mCons (mC (.int 0)) (mCons (mBin dSub (mVar 3) (mC (.int 1))) mNil))) mNil)))))) (gN 1)))
  (sRetL (mSortSetA (mVar 1)))))
def m__law_turns : FM := runD 1 4 b__law_turns
def b__law_case_right : MS := (sSeq (sPar [3, 4, 5] (pD (mCall (m__law_lists 9) (mCons (mVar 1) mNil)) (pD (mCall (m__law_turns) (mCons (mVar 1) mNil)) (pL (mLst mNil) pNil))))
  (sSeq (sFor (iEnumA (mCons (mVar 4) mNil)) (gA 2 (gsCons (gN 6) (gsCons (gN 7) gsNil))) (sSeq (sAsg (mCall (m__law_cut) (mCons (mVar 1) (mCons (mVar 0) (mCons (mVar 7) mNil)))) (gN 8))
  (sSeq (sAsg (mOfL (mLst (mCons (mCall (m_parting_at) (mCons (mVar 1) (mCons (mVar 7) mNil))) (mCons (mCall (m_parting_at) (mCons (mVar 3) (mCons (mVar 7) mNil))) (mCons (mCallK (m_parting_at) 0 2 [1, 0] mNil (mCons (mVar 7) (mCons (mVar 3) mNil))) mNil))))) (gN 2))
  (sSeq (sIf (mNotT (mTru (mCall (m__law_same 9) (mCons (mVar 2) (mCons (mOfL (mRepL (mLst (mCons (mVar 8) mNil)) (mC (.int 3)))) mNil))))) (sRet (mC (.bool false))) sNil)
  (sIf (mAndT (mTst (mBin dGt (mVar 6) (mC (.int 0)))) (mTst (mBin dNe (mVar 8) (mCall (m__law_cut) (mCons (mVar 1) (mCons (mVar 0) (mCons (mIxN 4 (mBin dSub (mVar 6) (mC (.int 1)))) mNil))))))) (sApp 5 (mVar 7)) sNil)))))
  (sSeq (sAsg (mOfL (mLst (mCons (mCall (m_turning_waters) (mCons (mVar 1) mNil)) (mCons (mCall (m_turning_waters) (mCons (mVar 3) mNil)) (mCons (mCallK (m_turning_waters) 0 1 [0] mNil (mCons (mVar 3) mNil)) mNil))))) (gN 2))
  (sRet (mAndV (mCall (m__law_same 9) (mCons (mVar 2) (mCons (mOfL (mRepL (mLst (mCons (mFn fTup (mCons (mVar 5) mNil)) mNil)) (mC (.int 3)))) mNil))) (mBin dEq (mVar 3) (mCall (m__law_lists 9) (mCons (mVar 1) mNil))))))))
def m__law_case_right : FM := runD 2 9 b__law_case_right
def b__law_by_hand_right : MS := (sSeq (sAsg (mTup (mCons (mTup (mCons (mTup (mCons (mC (.str (Str.ofString "a"))) (mCons (mC (.str (Str.ofString "b"))) mNil))) (mCons (mC (.int 5)) mNil))) (mCons (mTup (mCons (mTup (mCons (mC (.str (Str.ofString "a"))) (mCons (mC (.str (Str.ofString "c"))) mNil))) (mCons (mC (.int 2)) mNil))) (mCons (mTup (mCons (mTup (mCons (mC (.str (Str.ofString "a"))) (mCons (mC (.str (Str.ofString "d"))) mNil))) (mCons (mC (.int 1)) mNil))) (mCons (mTup (mCons (mTup (mCons (mC (.str (Str.ofString "b"))) (mCons (mC (.str (Str.ofString "c"))) mNil))) (mCons (mC (.int 4)) mNil))) (mCons (mTup (mCons (mTup (mCons (mC (.str (Str.ofString "b"))) (mCons (mC (.str (Str.ofString "d"))) mNil))) (mCons (mC (.int 3)) mNil))) (mCons (mTup (mCons (mTup (mCons (mC (.str (Str.ofString "c"))) (mCons (mC (.str (Str.ofString "d"))) mNil))) (mCons (mC (.int 3)) mNil))) mNil))))))) (gN 0))
  (sSeq (sSetL 1 (mLc (iSeq (mTup (mCons (mC (.int 0)) (mCons (mC (.int 1)) (mCons (mC (.int 2)) (mCons (mC (.int 3)) (mCons (mC (.int 4)) (mCons (mC (.int 5)) (mCons (mBin dPow (mC (.int 10)) (mC (.int 40))) mNil))))))))) [] [8] (gN 8) mYes (mCall (m_parting_at) (mCons (mVar 0) (mCons (mVar 8) mNil)))))
  (sSeq (sAsg (mTup (mCons (mTup (mCons (mTup (mCons (mC (.str (Str.ofString "a"))) (mCons (mC (.str (Str.ofString "b"))) (mCons (mC (.str (Str.ofString "c"))) (mCons (mC (.str (Str.ofString "d"))) mNil))))) mNil)) (mCons (mTup (mCons (mTup (mCons (mC (.str (Str.ofString "a"))) mNil)) (mCons (mTup (mCons (mC (.str (Str.ofString "b"))) mNil)) (mCons (mTup (mCons (mC (.str (Str.ofString "c"))) mNil)) (mCons (mTup (mCons (mC (.str (Str.ofString "d"))) mNil)) mNil))))) mNil))) (gA 2 (gsCons (gN 6) (gsCons (gN 7) gsNil))))
  (sSeq (sAsg (mOfL (mLst (mCons (mVar 6) (mCons (mVar 6) (mCons (mVar 6) (mCons (mTup (mCons (mTup (mCons (mC (.str (Str.ofString "a"))) (mCons (mC (.str (Str.ofString "b"))) (mCons (mC (.str (Str.ofString "c"))) mNil)))) (mCons (mTup (mCons (mC (.str (Str.ofString "d"))) mNil)) mNil))) (mCons (mTup (mCons (mTup (mCons (mC (.str (Str.ofString "a"))) (mCons (mC (.str (Str.ofString "b"))) mNil))) (mCons (mTup (mCons (mC (.str (Str.ofString "c"))) mNil)) (mCons (mTup (mCons (mC (.str (Str.ofString "d"))) mNil)) mNil)))) (mCons (mVar 7) (mCons (mVar 7) mNil))))))))) (gN 2))
  (sSeq (sAsg (mBin dAdd (mVar 1) (mOfL (mLst (mCons (mCall (m_turning_waters) (mCons (mVar 0) mNil)) (mCons (mCall (m_parting_at) (mCons (mTup mNil) (mCons (mC (.int 0)) mNil))) (mCons (mCall (m_turning_waters) (mCons (mTup mNil) mNil)) (mCons (mCall (m_parting_at) (mCons (mTup (mCons (mTup (mCons (mTup (mCons (mC (.str (Str.ofString "a"))) (mCons (mC (.str (Str.ofString "b"))) mNil))) (mCons (mC (.int 0)) mNil))) mNil)) (mCons (mC (.int 0)) mNil))) (mCons (mCall (m_turning_waters) (mCons (mTup (mCons (mTup (mCons (mTup (mCons (mC (.str (Str.ofString "a"))) (mCons (mC (.str (Str.ofString "b"))) mNil))) (mCons (mC (.int 0)) mNil))) mNil)) mNil)) mNil)))))))) (gN 1))
  (sSeq (sAsg (mBin dAdd (mVar 2) (mOfL (mLst (mCons (mTup (mCons (mC (.int 3)) (mCons (mC (.int 4)) (mCons (mC (.int 5)) mNil)))) (mCons (mTup mNil) (mCons (mTup mNil) (mCons (mTup (mCons (mTup (mCons (mC (.str (Str.ofString "a"))) mNil)) (mCons (mTup (mCons (mC (.str (Str.ofString "b"))) mNil)) mNil))) (mCons (mTup mNil) mNil)))))))) (gN 2))
  (sSeq (sAsg (mFn fTup (mCons (mOfL (mLc (iSeq (mCall (m__law_pairs) (mCons (mC (.str (Str.ofString "abcdef"))) mNil))) [] [9] (gN 9) mYes (mTup (mCons (mVar 9) (mCons (mIf (mTst (mBin dEq (mBin dGt (mIxN 9 (mC (.int 0))) (mC (.str (Str.ofString "c")))) (mBin dGt (mIxN 9 (mC (.int 1))) (mC (.str (Str.ofString "c")))))) (mBin dSub (mBin dPow (mC (.int 10)) (mC (.int 40))) (mFn fInt (mCons (mBin dGt (mIxN 9 (mC (.int 0))) (mC (.str (Str.ofString "c")))) mNil))) (mC (.int 0))) mNil))))) mNil)) (gN 3))
  (sSeq (sAsg (mBin dAdd (mVar 1) (mOfL (mLst (mCons (mCall (m_parting_at) (mCons (mVar 3) (mCons (mC (.int 0)) mNil))) (mCons (mCall (m_parting_at) (mCons (mVar 3) (mCons (mBin dSub (mBin dPow (mC (.int 10)) (mC (.int 40))) (mC (.int 2))) mNil))) (mCons (mCall (m_parting_at) (mCons (mVar 3) (mCons (mBin dSub (mBin dPow (mC (.int 10)) (mC (.int 40))) (mC (.int 1))) mNil))) (mCons (mCall (m_parting_at) (mCons (mVar 3) (mCons (mBin dPow (mC (.int 10)) (mC (.int 40))) mNil))) (mCons (mCall (m_turning_waters) (mCons (mVar 3) mNil)) mNil)))))))) (gN 1))
  (sSeq (sAsg (mTup (mCons (mTup (mCons (mC (.str (Str.ofString "a"))) (mCons (mC (.str (Str.ofString "b"))) (mCons (mC (.str (Str.ofString "c"))) mNil)))) (mCons (mTup (mCons (mC (.str (Str.ofString "d"))) (mCons (mC (.str (Str.ofString "e"))) (mCons (mC (.str (Str.ofString "f"))) mNil)))) mNil))) (gN 4))
  (sSeq (sAsg (mBin dAdd (mVar 2) (mOfL (mLst (mCons (mVar 4) (mCons (mVar 4) (mCons (mTup (mCons (mTup (mCons (mC (.str (Str.ofString "a"))) (mCons (mC (.str (Str.ofString "b"))) (mCons (mC (.str (Str.ofString "c"))) mNil)))) (mCons (mTup (mCons (mC (.str (Str.ofString "d"))) mNil)) (mCons (mTup (mCons (mC (.str (Str.ofString "e"))) mNil)) (mCons (mTup (mCons (mC (.str (Str.ofString "f"))) mNil)) mNil))))) (mCons (mFn fTup (mCons (mOfL (mLc (iSeq (mC (.str (Str.ofString "abcdef")))) [] [9] (gN 9) mYes (mTup (mCons (mVar 9) mNil)))) mNil)) (mCons (mTup (mCons (mBin dSub (mBin dPow (mC (.int 10)) (mC (.int 40))) (mC (.int 1))) (mCons (mBin dPow (mC (.int 10)) (mC (.int 40))) mNil))) mNil)))))))) (gN 2))
  (sSeq (sAsg (mFn fTup (mCons (mOfL (mLc (iSeq (mCall (m__law_pairs) (mCons (mC (.str (Str.ofString "abcdefghijkl"))) mNil))) [] [9] (gN 9) mYes (mTup (mCons (mVar 9) (mCons (mIf (mTst (mBin dEq (mBin dSub (mFn fOrd (mCons (mIxN 9 (mC (.int 1))) mNil)) (mFn fOrd (mCons (mIxN 9 (mC (.int 0))) mNil))) (mC (.int 1)))) (mBin dAdd (mBin dSub (mC (.int 100)) (mFn fOrd (mCons (mIxN 9 (mC (.int 0))) mNil))) (mC (.int 97))) (mC (.int 0))) mNil))))) mNil)) (gN 5))
  (sSeq (sAsg (mBin dAdd (mVar 1) (mOfL (mLst (mCons (mCall (m_turning_waters) (mCons (mVar 5) mNil)) (mCons (mCall (m_parting_at) (mCons (mVar 5) (mCons (mC (.int 95)) mNil))) mNil))))) (gN 1))
  (sSeq (sAsg (mBin dAdd (mVar 2) (mOfL (mLst (mCons (mFn fTup (mCons (mOfL (mLc (iRng2 (mCons (mC (.int 90)) (mCons (mC (.int 101)) mNil))) [] [8] (gN 8) mYes (mVar 8))) mNil)) (mCons (mTup (mCons (mTup (mCons (mC (.str (Str.ofString "a"))) (mCons (mC (.str (Str.ofString "b"))) (mCons (mC (.str (Str.ofString "c"))) (mCons (mC (.str (Str.ofString "d"))) (mCons (mC (.str (Str.ofString "e"))) (mCons (mC (.str (Str.ofString "f"))) mNil))))))) (mCons (mTup (mCons (mC (.str (Str.ofString "g"))) mNil)) (mCons (mTup (mCons (mC (.str (Str.ofString "h"))) mNil)) (mCons (mTup (mCons (mC (.str (Str.ofString "i"))) mNil)) (mCons (mTup (mCons (mC (.str (Str.ofString "j"))) mNil)) (mCons (mTup (mCons (mC (.str (Str.ofString "k"))) mNil)) (mCons (mTup (mCons (mC (.str (Str.ofString "l"))) mNil)) mNil)))))))) mNil))))) (gN 2))
  (sRet (mCall (m__law_same 9) (mCons (mVar 1) (mCons (mVar 2) mNil)))))))))))))))))
def m__law_by_hand_right : FM := runD 0 10 b__law_by_hand_right
def b__law_right : MS := (sSeq (sFor (iRng (mCons (mC (.int 8)) mNil)) (gN 1) (sSeq (sAsg (mCallU (m__law_isles) (cUrn 0 (cCons (mBin dAdd (mC (.int 2)) (mCallU (m__law_take) (cUrn 0 (cCons (mC (.int 5)) cNil)))) cNil))) (gN 2))
  (sIf (mNotT (mTru (mCall (m__law_case_right) (mCons (mVar 2) (mCons (mCallU (m__law_fords) (cUrn 0 (cCons (mVar 2) (cCons (mCallU (m__law_of) (cUrn 0 (cCons (mOfL (mLst (mCons (mC (.int 1)) (mCons (mC (.int 2)) (mCons (mC (.int 5)) mNil))))) cNil))) cNil)))) mNil))))) (sRet (mC (.bool false))) sNil)))
  (sRet (mC (.bool true))))
def m__law_right : FM := runD 1 3 b__law_right
def b_law : MS := (sSeq (sIf (mNotT (mTru (mCall0 (m__law_by_hand_right)))) (sRet (mC (.bool false))) sNil)
  (sSeq (sAsg (mCall (m__law_cells) (mCons (mVar 0) (mCons (mC (.int 3)) mNil))) (gN 1))
  (sRet (mFn fAll (mCons (mOfL (mLc (iRng (mCons (mLenN 1) mNil)) [] [2] (gN 2) mYes (mCallN (m__law_right) (mCallL (m__law_box) (mCons (mVar 1) (mCons (mVar 2) mNil)))))) mNil)))))
def m_law : FM := runD 1 3 b_law
end DT
set_option pp.maxSteps 60
set_option Elab.async false
set_option linter.all false
set_option maxRecDepth 100000
set_option maxHeartbeats 4000000
namespace DT
open PySem PySem.Spec PyProof.Rows L2 DL
def topS (i : Nat) : Stmt := PySem.Challenge.pw_lastfords_k67_waters_one_by_one.main.body.getD i (.Pass ⟨0, 0, 0, 0⟩)
structure Mg (mg : Str → Option Value) : Prop where
  «abs» : mg "abs" = none
  «all» : mg "all" = none
  «bool» : mg "bool" = none
  «enumerate» : mg "enumerate" = none
  «int» : mg "int" = none
  «isinstance» : mg "isinstance" = none
  «len» : mg "len" = none
  «list» : mg "list" = none
  «max» : mg "max" = none
  «min» : mg "min" = none
  «ord» : mg "ord" = none
  «range» : mg "range" = none
  «set» : mg "set" = none
  «sorted» : mg "sorted" = none
  «str» : mg "str" = none
  «tuple» : mg "tuple" = none
  «zip» : mg "zip" = none
section
variable {P : Program} {w : World} {K : PySem.W.Frag} {mg : Str → Option Value} {base : Heap}
abbrev st_pair_of : Stmt := topS 1
theorem sc_pair_of : FnScope ["one", "other"] ["one", "other"] (defScope st_pair_of) := ⟨rfl, rfl, rfl, by decide +kernel, rfl, by decide +kernel, by decide +kernel⟩
theorem ok_pair_of {f : Addr} {fd : FuncData} (T : Mg mg) (F : Fun K "pair_of" "pair_of" st_pair_of f fd) (hm : mg "pair_of" = some (.ref f))  : FnD P w K mg base "pair_of" 1 m_pair_of :=
  fnD_mk (m := b_pair_of) F sc_pair_of hm (F.binds (ps := ["one", "other"]) fun _ _ _ _ _ _ us hl => match us, hl with | [_, _], _ => rfl) (fun cdv A outer s H E hr => (dss_one (ds_ret (de_tup (da_cons (de_fnB (cd_minA rfl) T.min (by decide +kernel) (da_cons (dv 0) (da_cons (dv 1) da_nil))) (da_cons (de_fnB (cd_maxA rfl) T.max (by decide +kernel) (da_cons (dv 0) (da_cons (dv 1) da_nil))) da_nil))))))
abbrev st_set_of : Stmt := topS 3
theorem sc_set_of : FnScope ["some"] ["some"] (defScope st_set_of) := ⟨rfl, rfl, rfl, by decide +kernel, rfl, by decide +kernel, by decide +kernel⟩
theorem ok_set_of {f : Addr} {fd : FuncData} (T : Mg mg) (F : Fun K "set_of" "set_of" st_set_of f fd) (hm : mg "set_of" = some (.ref f))  : FnD P w K mg base "set_of" 1 m_set_of :=
  fnD_mk (m := b_set_of) F sc_set_of hm (F.binds (ps := ["some"]) fun _ _ _ _ _ _ us hl => match us, hl with | [_], _ => rfl) (fun cdv A outer s H E hr => (dss_one (ds_ret (de_fnT cd_tup T.tuple (by decide +kernel) (da_cons (de_ofL (dl_sortSetA hr.units T.sorted T.set (dv 0))) da_nil)))))
abbrev st_all_pairs : Stmt := topS 5
theorem sc_all_pairs : FnScope ["names", "other", "place", "one"] ["names"] (defScope st_all_pairs) := ⟨rfl, rfl, rfl, by decide +kernel, rfl, by decide +kernel, by decide +kernel⟩
theorem ok_all_pairs {f : Addr} {fd : FuncData} (T : Mg mg) (F : Fun K "all_pairs" "all_pairs" st_all_pairs f fd) (hm : mg "all_pairs" = some (.ref f))  : FnD P w K mg base "all_pairs" 1 m_all_pairs :=
  fnD_mk (m := b_all_pairs) F sc_all_pairs hm (F.binds (ps := ["names"]) fun _ _ _ _ _ _ us hl => match us, hl with | [_], _ => rfl) (fun cdv A outer s H E hr => (dss_one (ds_ret (de_fnT cd_tup T.tuple (by decide +kernel) (da_cons (de_ofL (dl_lc2 (own := [("place", 2), ("one", 3), ("other", 1)]) [] [1] sc_all_pairs.nd (di_enumA T.enumerate (da_cons (dv 0) da_nil)) (blkOk_by (by kernel_rfl)) (fun _ _ _ _ _ => (dg_any rfl (dgs_cons (dg (i := 2) sc_all_pairs.nd) (dgs_cons (dg (i := 3) sc_all_pairs.nd) dgs_nil)))) (fun _ _ _ _ _ => dts_nil) (fun _ _ _ _ _ => (di_seq (de_sl (dv 0) (do_some (de_bin od_add (dv 2) de_int)) do_none))) (fun _ _ _ _ _ => (dg (i := 1) sc_all_pairs.nd)) (fun _ _ _ _ _ => dts_nil) (fun _ _ _ _ _ => (de_tup (da_cons (dv 3) (da_cons (dv 1) da_nil)))))) da_nil)))))
abbrev st_islands_of : Stmt := topS 6
theorem sc_islands_of : FnScope ["fords", "name", "pair", "height"] ["fords"] (defScope st_islands_of) := ⟨rfl, rfl, rfl, by decide +kernel, rfl, by decide +kernel, by decide +kernel⟩
theorem ok_islands_of {f : Addr} {fd : FuncData} (T : Mg mg) (F : Fun K "islands_of" "islands_of" st_islands_of f fd) (hm : mg "islands_of" = some (.ref f)) (G_set_of : FnD P w K mg base "set_of" 1 (m_set_of)) : FnD P w K mg base "islands_of" 2 m_islands_of :=
  fnD_mk (m := b_islands_of) F sc_islands_of hm (F.binds (ps := ["fords"]) fun _ _ _ _ _ _ us hl => match us, hl with | [_], _ => rfl) (fun cdv A outer s H E hr => (dss_one (ds_ret (de_call G_set_of (hr.mono (by decide)) (da_cons (de_ofL (dl_lc2 (own := [("pair", 2), ("height", 3), ("name", 1)]) [] [1] sc_islands_of.nd (di_seq (dv 0)) (blkOk_by (by kernel_rfl)) (fun _ _ _ _ _ => (dg_any rfl (dgs_cons (dg (i := 2) sc_islands_of.nd) (dgs_cons (dg (i := 3) sc_islands_of.nd) dgs_nil)))) (fun _ _ _ _ _ => dts_nil) (fun _ _ _ _ _ => (di_seq (dv 2))) (fun _ _ _ _ _ => (dg (i := 1) sc_islands_of.nd)) (fun _ _ _ _ _ => dts_nil) (fun _ _ _ _ _ => (dv 1)))) da_nil)))))
abbrev st_height_table : Stmt := topS 7
theorem sc_height_table : FnScope ["fords", "pair", "height"] ["fords"] (defScope st_height_table) := ⟨rfl, rfl, rfl, by decide +kernel, rfl, by decide +kernel, by decide +kernel⟩
theorem ok_height_table {f : Addr} {fd : FuncData} (T : Mg mg) (F : Fun K "height_table" "height_table" st_height_table f fd) (hm : mg "height_table" = some (.ref f))  : FnD P w K mg base "height_table" 1 m_height_table :=
  fnD_mk (m := b_height_table) F sc_height_table hm (F.binds (ps := ["fords"]) fun _ _ _ _ _ _ us hl => match us, hl with | [_], _ => rfl) (fun cdv A outer s H E hr => (dss_one (ds_retD (dd_dc (own := [("pair", 1), ("height", 2)]) [] hr.units sc_height_table.nd (di_seq (dv 0)) (blkOk_by (by kernel_rfl)) (fun _ _ _ _ _ => (dg_any rfl (dgs_cons (dg (i := 1) sc_height_table.nd) (dgs_cons (dg (i := 2) sc_height_table.nd) dgs_nil)))) (fun _ _ _ _ _ => dts_nil) (fun _ _ _ _ _ => (de_fnT cd_tup T.tuple (by decide +kernel) (da_cons (dv 1) da_nil))) (fun _ _ _ _ _ => (dv 2))))))
abbrev st_last_table : Stmt := topS 8
theorem sc_last_table : FnScope ["fords", "mid", "table", "names", "one", "other", "low"] ["fords"] (defScope st_last_table) := ⟨rfl, rfl, rfl, by decide +kernel, rfl, by decide +kernel, by decide +kernel⟩
theorem ok_last_table {f : Addr} {fd : FuncData} (T : Mg mg) (F : Fun K "last_table" "last_table" st_last_table f fd) (hm : mg "last_table" = some (.ref f)) (G_all_pairs : FnD P w K mg base "all_pairs" 1 (m_all_pairs)) (G_height_table : FnD P w K mg base "height_table" 1 (m_height_table)) (G_islands_of : FnD P w K mg base "islands_of" 2 (m_islands_of)) (G_pair_of : FnD P w K mg base "pair_of" 1 (m_pair_of)) : FnD P w K mg base "last_table" 3 m_last_table :=
  fnD_mk (m := b_last_table) F sc_last_table hm (F.binds (ps := ["fords"]) fun _ _ _ _ _ _ us hl => match us, hl with | [_], _ => rfl) (fun cdv A outer s H E hr => (dss_cons (ds_par (i := 2) (j := 3) sc_last_table.nd (dp_k (dd_call G_height_table (hr.mono (by decide)) (da_cons (dv 0) da_nil)) (dp_d (de_call G_islands_of (hr.mono (by decide)) (da_cons (dv 0) da_nil)) dp_nil)))
  (dss_cons (ds_for (di_seq (dv 3)) (dg (i := 1) sc_last_table.nd) (dss_one (ds_for (di_seq (de_call G_all_pairs (hr.mono (by decide)) (da_cons (dv 3) da_nil))) (dg_any rfl (dgs_cons (dg (i := 4) sc_last_table.nd) (dgs_cons (dg (i := 5) sc_last_table.nd) dgs_nil))) (dss_one (ds_if (dt_cmp (od_notin hr.units65) (dv 1) (de_tup (da_cons (dv 4) (da_cons (dv 5) da_nil))) (by rfl)) (dss_cons (ds_set (i := 6) sc_last_table.nd (de_fnB (cd_minA rfl) T.min (by decide +kernel) (da_cons (de_dixN hr.units (pv 2) (de_call G_pair_of (hr.mono (by decide)) (da_cons (dv 4) (da_cons (dv 1) da_nil)))) (da_cons (de_dixN hr.units (pv 2) (de_call G_pair_of (hr.mono (by decide)) (da_cons (dv 5) (da_cons (dv 1) da_nil)))) da_nil))))
  (dss_one (ds_put hr.units (pv 2) (de_tup (da_cons (dv 4) (da_cons (dv 5) da_nil))) (de_fnB (cd_maxA rfl) T.max (by decide +kernel) (da_cons (de_dixN hr.units (pv 2) (de_tup (da_cons (dv 4) (da_cons (dv 5) da_nil)))) (da_cons (dv 6) da_nil)))))) dss_nil)))))
  (dss_one (ds_retV (pv 2))))))
abbrev st_parting_at : Stmt := topS 9
theorem sc_parting_at : FnScope ["fords", "water", "near", "table", "names", "one", "own", "lot"] ["fords", "water"] (defScope st_parting_at) := ⟨rfl, rfl, rfl, by decide +kernel, rfl, by decide +kernel, by decide +kernel⟩
theorem fo_parting_at {f : Addr} {fd : FuncData} (T : Mg mg) (F : Fun K "parting_at" "parting_at" st_parting_at f fd) (G_islands_of : FnD P w K mg base "islands_of" 2 (m_islands_of)) (G_last_table : FnD P w K mg base "last_table" 3 (m_last_table)) (G_pair_of : FnD P w K mg base "pair_of" 1 (m_pair_of)) (G_set_of : FnD P w K mg base "set_of" 1 (m_set_of)) : FnOk P w K mg base CX0 4 f fd ["fords", "water"] (spD ⟨K, w, mg⟩ m_parting_at) := by
  have h : FnOk P w K mg base CX0 4 f fd ["fords", "water"] (spD ⟨K, w, mg⟩ (runD 2 8 b_parting_at)) := fn_ok (m := b_parting_at) (N := ["fords", "water", "near", "table", "names", "one", "own", "lot"]) (ps := ["fords", "water"]) F sc_parting_at (fun cdv A outer s H E hr => (dss_cons (ds_asg (de_tup (da_cons (de_call G_last_table (hr.mono (by decide)) (da_cons (dv 0) da_nil)) (da_cons (de_call G_islands_of (hr.mono (by decide)) (da_cons (dv 0) da_nil)) da_nil))) (dg_any rfl (dgs_cons (dg (i := 3) sc_parting_at.nd) (dgs_cons (dg (i := 4) sc_parting_at.nd) dgs_nil))))
  (dss_cons (ds_setDc (i := 2) (own := [("one", 5)]) [] hr.units sc_parting_at.nd (swD_true rfl rfl rfl (by decide +kernel)) (di_seq (dv 4)) (blkOk_by (by kernel_rfl)) (fun _ _ _ _ _ => (dg (i := 5) sc_parting_at.nd)) (fun _ _ _ _ _ => dts_nil) (fun _ _ _ _ _ => (dv 5)) (fun _ _ _ _ _ => (de_ofL (dl_lc (own := [("own", 6)]) [] sc_parting_at.nd (di_seq (dv 4)) (blkOk_by (by kernel_rfl)) (fun _ _ _ _ _ => (dg (i := 6) sc_parting_at.nd)) (fun _ _ _ _ _ => (dts_one (PW.pt (dw_or (dt_cmp (od_eq hr.units) (dv 6) (dv 5) (nomark _)) (dw_or1 (dt_cmp od_gt (de_dixN hr.units (pv 3) (de_call G_pair_of (hr.mono (by decide)) (da_cons (dv 5) (da_cons (dv 6) da_nil)))) (dv 1) (nomark _))))))) (fun _ _ _ _ _ => (dv 6))))))
  (dss_one (ds_ret (de_call G_set_of (hr.mono (by decide)) (da_cons (de_ofL (dl_lc (own := [("lot", 7)]) [] sc_parting_at.nd (di_vals (dv 2)) (blkOk_by (by kernel_rfl)) (fun _ _ _ _ _ => (dg (i := 7) sc_parting_at.nd)) (fun _ _ _ _ _ => dts_nil) (fun _ _ _ _ _ => (de_fnT cd_tup T.tuple (by decide +kernel) (da_cons (dv 7) da_nil))))) da_nil)))))))
  exact h
theorem ok_parting_at {f : Addr} {fd : FuncData} (T : Mg mg) (F : Fun K "parting_at" "parting_at" st_parting_at f fd) (hm : mg "parting_at" = some (.ref f)) (G_islands_of : FnD P w K mg base "islands_of" 2 (m_islands_of)) (G_last_table : FnD P w K mg base "last_table" 3 (m_last_table)) (G_pair_of : FnD P w K mg base "pair_of" 1 (m_pair_of)) (G_set_of : FnD P w K mg base "set_of" 1 (m_set_of)) : FnD P w K mg base "parting_at" 4 m_parting_at :=
  fnD_of F (fo_parting_at T F G_islands_of G_last_table G_pair_of G_set_of) hm (F.binds (ps := ["fords", "water"]) fun _ _ _ _ _ _ us hl => match us, hl with | [_, _], _ => rfl)
theorem okk_parting_at_0 {f : Addr} {fd : FuncData} (T : Mg mg) (F : Fun K "parting_at" "parting_at" st_parting_at f fd) (hm : mg "parting_at" = some (.ref f)) (G_islands_of : FnD P w K mg base "islands_of" 2 (m_islands_of)) (G_last_table : FnD P w K mg base "last_table" 3 (m_last_table)) (G_pair_of : FnD P w K mg base "pair_of" 1 (m_pair_of)) (G_set_of : FnD P w K mg base "set_of" 1 (m_set_of)) : FnDK P w K mg base "parting_at" 4 m_parting_at ["water", "fords"] 0 [1, 0] :=
  fnDK_mk F (fo_parting_at T F G_islands_of G_last_table G_pair_of G_set_of) hm (by decide) (fun _ _ _ _ _ _ us ws hl hl2 => match us, hl, ws, hl2 with | [], _, [_, _], _ => rfl)
abbrev st_turning_waters : Stmt := topS 10
theorem sc_turning_waters : FnScope ["fords", "height"] ["fords"] (defScope st_turning_waters) := ⟨rfl, rfl, rfl, by decide +kernel, rfl, by decide +kernel, by decide +kernel⟩
theorem fo_turning_waters {f : Addr} {fd : FuncData} (T : Mg mg) (F : Fun K "turning_waters" "turning_waters" st_turning_waters f fd) (G_last_table : FnD P w K mg base "last_table" 3 (m_last_table)) (G_set_of : FnD P w K mg base "set_of" 1 (m_set_of)) : FnOk P w K mg base CX0 4 f fd ["fords"] (spD ⟨K, w, mg⟩ m_turning_waters) := by
  have h : FnOk P w K mg base CX0 4 f fd ["fords"] (spD ⟨K, w, mg⟩ (runD 1 2 b_turning_waters)) := fn_ok (m := b_turning_waters) (N := ["fords", "height"]) (ps := ["fords"]) F sc_turning_waters (fun cdv A outer s H E hr => (dss_one (ds_ret (de_call G_set_of (hr.mono (by decide)) (da_cons (de_ofL (dl_lc (own := [("height", 1)]) [] sc_turning_waters.nd (di_vals (de_call G_last_table (hr.mono (by decide)) (da_cons (dv 0) da_nil))) (blkOk_by (by kernel_rfl)) (fun _ _ _ _ _ => (dg (i := 1) sc_turning_waters.nd)) (fun _ _ _ _ _ => (dts_one (dt_cmp od_gt (dv 1) de_int (nomark _)))) (fun _ _ _ _ _ => (dv 1)))) da_nil)))))
  exact h
theorem ok_turning_waters {f : Addr} {fd : FuncData} (T : Mg mg) (F : Fun K "turning_waters" "turning_waters" st_turning_waters f fd) (hm : mg "turning_waters" = some (.ref f)) (G_last_table : FnD P w K mg base "last_table" 3 (m_last_table)) (G_set_of : FnD P w K mg base "set_of" 1 (m_set_of)) : FnD P w K mg base "turning_waters" 4 m_turning_waters :=
  fnD_of F (fo_turning_waters T F G_last_table G_set_of) hm (F.binds (ps := ["fords"]) fun _ _ _ _ _ _ us hl => match us, hl with | [_], _ => rfl)
theorem okk_turning_waters_0 {f : Addr} {fd : FuncData} (T : Mg mg) (F : Fun K "turning_waters" "turning_waters" st_turning_waters f fd) (hm : mg "turning_waters" = some (.ref f)) (G_last_table : FnD P w K mg base "last_table" 3 (m_last_table)) (G_set_of : FnD P w K mg base "set_of" 1 (m_set_of)) : FnDK P w K mg base "turning_waters" 4 m_turning_waters ["fords"] 0 [0] :=
  fnDK_mk F (fo_turning_waters T F G_last_table G_set_of) hm (by decide) (fun _ _ _ _ _ _ us ws hl hl2 => match us, hl, ws, hl2 with | [], _, [_], _ => rfl)
abbrev st__law_box : Stmt := topS 12
theorem sc__law_box : FnScope ["_law_script", "_law_k", "_law_cell"] ["_law_script", "_law_k"] (defScope st__law_box) := ⟨rfl, rfl, rfl, by decide +kernel, rfl, by decide +kernel, by decide +kernel⟩
theorem ok__law_box {f : Addr} {fd : FuncData} (T : Mg mg) (F : Fun K "_law_box" "_law_box" st__law_box f fd) (hm : mg "_law_box" = some (.ref f))  : FnD P w K mg base "_law_box" 1 m__law_box :=
  fnD_mk (m := b__law_box) F sc__law_box hm (F.binds (ps := ["_law_script", "_law_k"]) fun _ _ _ _ _ _ us hl => match us, hl with | [_, _], _ => rfl) (fun cdv A outer s H E hr => (dss_cons (ds_set (i := 2) sc__law_box.nd (de_if (dt_cmp od_lt (dv 1) (de_lenN T.len (pv 0)) (nomark _)) (de_ixN' (pv 0) (dv 1)) de_int))
  (dss_one (ds_retL (dl_lst (da_cons (de_bin od_mul (de_fnB cd_abs T.abs (by decide +kernel) (da_cons (dv 2) da_nil)) (de_fnT cd_int T.int (by decide +kernel) (da_cons (de_cmp od_ge (de_fnB cd_abs T.abs (by decide +kernel) (da_cons (dv 2) da_nil)) (de_bin od_pow de_int de_int) (nomark _)) da_nil))) (da_cons (de_bin od_add (de_bin od_add (de_bin od_mod (de_fnT cd_int T.int (by decide +kernel) (da_cons (dv 2) da_nil)) de_int) (de_bin od_mul de_int (dv 1))) de_int) (da_cons de_int da_nil))))))))
abbrev st__law_take : Stmt := topS 13
theorem sc__law_take : FnScope ["_law_urn", "_law_low_so", "_law_once", "_law_far", "_law_twice", "_law_drawn"] ["_law_urn", "_law_low_so"] (defScope st__law_take) := ⟨rfl, rfl, rfl, by decide +kernel, rfl, by decide +kernel, by decide +kernel⟩
theorem ok__law_take {f : Addr} {fd : FuncData} (T : Mg mg) (F : Fun K "_law_take" "_law_take" st__law_take f fd) (hm : mg "_law_take" = some (.ref f))  : FnD P w K mg base "_law_take" 1 m__law_take :=
  fnD_mk (m := b__law_take) F sc__law_take hm (F.binds (ps := ["_law_urn", "_law_low_so"]) fun _ _ _ _ _ _ us hl => match us, hl with | [_, _], _ => rfl) (fun cdv A outer s H E hr => (dss_cons (ds_if (dt_cmp od_gt (de_ixN' (pv 0) de_int) de_int (nomark _)) (dss_cons (ds_set (i := 5) sc__law_take.nd (de_bin od_mod (de_fnT cd_int T.int (by decide +kernel) (da_cons (de_ixN' (pv 0) de_int) da_nil)) (dv 1)))
  (dss_cons (ds_setIx' (i := 0) (de_bin od_fdiv (de_ixN' (pv 0) de_int) (dv 1)) (pg_sub (pv 0) de_int set_list))
  (dss_one (ds_retV (pv 5))))) dss_nil)
  (dss_cons (ds_setIx' (i := 0) (de_bin od_add (de_ixN' (pv 0) de_int) de_int) (pg_sub (pv 0) de_int set_list))
  (dss_cons (ds_set (i := 2) sc__law_take.nd (de_bin od_mod (de_fnT cd_int T.int (by decide +kernel) (da_cons (de_bin od_mul (de_bin od_add (de_ixN' (pv 0) de_int) (de_bin od_mul de_int (de_ixN' (pv 0) de_int))) (de_bin od_add de_int (de_ixN' (pv 0) de_int))) da_nil)) de_int))
  (dss_cons (ds_set (i := 3) sc__law_take.nd (de_bin od_add (de_bin od_mod (de_fnT cd_int T.int (by decide +kernel) (da_cons (dv 2) da_nil)) de_int) de_int))
  (dss_cons (ds_set (i := 4) sc__law_take.nd (de_bin od_mod (de_fnT cd_int T.int (by decide +kernel) (da_cons (de_bin od_mul (de_bin od_add (de_bin od_add (dv 2) (de_ixN' (pv 0) de_int)) (de_bin od_fdiv (de_ixN' (pv 0) de_int) de_int)) (dv 3)) da_nil)) de_int))
  (dss_one (ds_ret (de_bin od_mod (de_fnT cd_int T.int (by decide +kernel) (da_cons (de_bin od_fdiv (de_bin od_mod (de_fnT cd_int T.int (by decide +kernel) (da_cons (de_bin od_add (de_bin od_mul (dv 4) de_int) (dv 2)) da_nil)) de_int) de_int) da_nil)) (dv 1))))))))))
abbrev st__law_cells : Stmt := topS 14
theorem sc__law_cells : FnScope ["_law_script", "_law_top", "_law_cells_here", "_law_k", "_law_cell", "_law_at_so"] ["_law_script", "_law_top"] (defScope st__law_cells) := ⟨rfl, rfl, rfl, by decide +kernel, rfl, by decide +kernel, by decide +kernel⟩
theorem ok__law_cells {f : Addr} {fd : FuncData} (T : Mg mg) (F : Fun K "_law_cells" "_law_cells" st__law_cells f fd) (hm : mg "_law_cells" = some (.ref f))  : FnD P w K mg base "_law_cells" 1 m__law_cells :=
  fnD_mk (m := b__law_cells) F sc__law_cells hm (F.binds (ps := ["_law_script", "_law_top"]) fun _ _ _ _ _ _ us hl => match us, hl with | [_, _], _ => rfl) (fun cdv A outer s H E hr => (dss_cons (ds_setL (i := 2) sc__law_cells.nd (dl_or (dl_fnT cl_list T.list (by decide +kernel) (da_cons (de_sl (dv 0) do_none (do_some (dv 1))) da_nil)) (dl_one (dl_lst (da_cons de_int da_nil)))))
  (dss_cons (ds_for (di_enum T.enumerate (da_cons (de_sl (dv 0) (do_some (dv 1)) (do_some de_int)) da_nil)) (dg_tup rfl (dgs_cons (dg (i := 3) sc__law_cells.nd) (dgs_cons (dg (i := 4) sc__law_cells.nd) dgs_nil))) (dss_cons (ds_set (i := 5) sc__law_cells.nd (de_bin od_mod (de_fnT cd_int T.int (by decide +kernel) (da_cons (dv 3) da_nil)) (dv 1)))
  (dss_one (ds_setIx' (i := 2) (de_bin od_add (de_ixN' (pv 2) (dv 5)) (de_bin od_mul (dv 4) (de_bin od_add (dv 3) de_int))) (pg_sub (pv 2) (dv 5) set_list)))))
  (dss_one (ds_retV (pv 2))))))
abbrev st__law_of : Stmt := topS 15
theorem sc__law_of : FnScope ["_law_urn", "_law_some_so"] ["_law_urn", "_law_some_so"] (defScope st__law_of) := ⟨rfl, rfl, rfl, by decide +kernel, rfl, by decide +kernel, by decide +kernel⟩
theorem ok__law_of {f : Addr} {fd : FuncData} (T : Mg mg) (F : Fun K "_law_of" "_law_of" st__law_of f fd) (hm : mg "_law_of" = some (.ref f)) (G__law_take : FnD P w K mg base "_law_take" 1 (m__law_take)) : FnD P w K mg base "_law_of" 2 m__law_of :=
  fnD_mk (m := b__law_of) F sc__law_of hm (F.binds (ps := ["_law_urn", "_law_some_so"]) fun _ _ _ _ _ _ us hl => match us, hl with | [_, _], _ => rfl) (fun cdv A outer s H E hr => (dss_one (ds_ret (de_ixN' (pv 1) (de_callU G__law_take (hr.mono (by decide)) (dc_urn (pv 0) (dc_cons (de_lenN T.len (pv 1)) dc_nil)))))))
abbrev st__law_same : Stmt := topS 16
theorem sc__law_same : FnScope ["_law_got", "_law_goal", "_law_mine_so", "_law_own"] ["_law_got", "_law_goal"] (defScope st__law_same) := ⟨rfl, rfl, rfl, by decide +kernel, rfl, by decide +kernel, by decide +kernel⟩
theorem ok__law_same {f : Addr} {fd : FuncData} (T : Mg mg) (F : Fun K "_law_same" "_law_same" st__law_same f fd) (hm : mg "_law_same" = some (.ref f))  : ∀ n, FnD P w K mg base "_law_same" (n + 1) (m__law_same n)
  | 0 => fnD_none F sc__law_same hm (F.binds (ps := ["_law_got", "_law_goal"]) fun _ _ _ _ _ _ us hl => match us, hl with | [_, _], _ => rfl)
  | n + 1 => by
    have ih := ok__law_same T F hm  n
    exact fnD_mk (m := b__law_same (m__law_same n)) F sc__law_same hm (F.binds (ps := ["_law_got", "_law_goal"]) fun _ _ _ _ _ _ us hl => match us, hl with | [_, _], _ => rfl) (fun cdv A outer s H E hr => (dss_cons (ds_if (dt_val (de_isa2 (t := "list") (u := "tuple") T.isinstance T.list (by decide +kernel) T.tuple (by decide +kernel) (by decide +kernel) (by decide +kernel) (dv 1))) (dss_cons (ds_if (PW.pt (dw_or (dt_cmp (od_ne hr.units) (de_isa (k := 0) (t := "list") T.isinstance T.list (by decide +kernel) (by decide +kernel) (dv 0)) (de_isa (k := 0) (t := "list") T.isinstance T.list (by decide +kernel) (by decide +kernel) (dv 1)) (nomark _)) (dw_or1 (dt_cmp (od_ne hr.units) (de_isa (k := 0) (t := "tuple") T.isinstance T.tuple (by decide +kernel) (by decide +kernel) (dv 0)) (de_isa (k := 0) (t := "tuple") T.isinstance T.tuple (by decide +kernel) (by decide +kernel) (dv 1)) (nomark _))))) (dss_one (ds_ret de_bl)) dss_nil)
  (dss_one (ds_ret (de_and (de_cmp (od_eq hr.units) (de_lenN T.len (pv 0)) (de_lenN T.len (pv 1)) (nomark _)) (de_one (de_fnB (cd_all rfl) T.all (by decide +kernel) (da_cons (de_ofL (dl_lc (own := [("_law_mine_so", 2), ("_law_own", 3)]) [] sc__law_same.nd (di_zip T.zip (da_cons (dv 0) (da_cons (dv 1) da_nil))) (blkOk_by (by kernel_rfl)) (fun _ _ _ _ _ => (dg_tup rfl (dgs_cons (dg (i := 2) sc__law_same.nd) (dgs_cons (dg (i := 3) sc__law_same.nd) dgs_nil)))) (fun _ _ _ _ _ => dts_nil) (fun _ _ _ _ _ => (de_call ih hr (da_cons (dv 2) (da_cons (dv 3) da_nil)))))) da_nil))))))) dss_nil)
  (dss_cons (ds_if (PW.pt (dw_or (dt_cmp od_is (dv 1) de_non (nomark _)) (dw_or1 (dt_val (de_isa2 (t := "bool") (u := "str") T.isinstance T.bool (by decide +kernel) T.str (by decide +kernel) (by decide +kernel) (by decide +kernel) (dv 1)))))) (dss_one (ds_ret (de_and (de_cmp (od_eq hr.units) (dv 0) (dv 1) (nomark _)) (de_and (de_cmp (od_eq hr.units) (de_isa (k := 0) (t := "bool") T.isinstance T.bool (by decide +kernel) (by decide +kernel) (dv 0)) (de_isa (k := 0) (t := "bool") T.isinstance T.bool (by decide +kernel) (by decide +kernel) (dv 1)) (nomark _)) (de_one (de_cmp (od_eq hr.units) (de_cmp od_is (dv 0) de_non (nomark _)) (de_cmp od_is (dv 1) de_non (nomark _)) (nomark _))))))) dss_nil)
  (dss_one (ds_ret (de_and (de_isa (k := 0) (t := "int") T.isinstance T.int (by decide +kernel) (by decide +kernel) (dv 0)) (de_and (de_not (de_isa (k := 0) (t := "bool") T.isinstance T.bool (by decide +kernel) (by decide +kernel) (dv 0))) (de_one (de_cmp (od_eq hr.units) (dv 0) (dv 1) (nomark _))))))))))
abbrev st__law_lists : Stmt := topS 17
theorem sc__law_lists : FnScope ["_law_matter", "_law_bit"] ["_law_matter"] (defScope st__law_lists) := ⟨rfl, rfl, rfl, by decide +kernel, rfl, by decide +kernel, by decide +kernel⟩
theorem ok__law_lists {f : Addr} {fd : FuncData} (T : Mg mg) (F : Fun K "_law_lists" "_law_lists" st__law_lists f fd) (hm : mg "_law_lists" = some (.ref f))  : ∀ n, FnD P w K mg base "_law_lists" (n + 1) (m__law_lists n)
  | 0 => fnD_none F sc__law_lists hm (F.binds (ps := ["_law_matter"]) fun _ _ _ _ _ _ us hl => match us, hl with | [_], _ => rfl)
  | n + 1 => by
    have ih := ok__law_lists T F hm  n
    exact fnD_mk (m := b__law_lists (m__law_lists n)) F sc__law_lists hm (F.binds (ps := ["_law_matter"]) fun _ _ _ _ _ _ us hl => match us, hl with | [_], _ => rfl) (fun cdv A outer s H E hr => (dss_one (ds_ret (de_if (dt_val (de_isa2 (t := "list") (u := "tuple") T.isinstance T.list (by decide +kernel) T.tuple (by decide +kernel) (by decide +kernel) (by decide +kernel) (dv 0))) (de_ofL (dl_lc (own := [("_law_bit", 1)]) [] sc__law_lists.nd (di_seq (dv 0)) (blkOk_by (by kernel_rfl)) (fun _ _ _ _ _ => (dg (i := 1) sc__law_lists.nd)) (fun _ _ _ _ _ => dts_nil) (fun _ _ _ _ _ => (de_call ih hr (da_cons (dv 1) da_nil))))) (dv 0)))))
abbrev st__law_pick : Stmt := topS 18
theorem sc__law_pick : FnScope ["_law_urn", "_law_pool", "_law_size_so", "_law_turn", "_law_rest", "_law_found"] ["_law_urn", "_law_pool", "_law_size_so"] (defScope st__law_pick) := ⟨rfl, rfl, rfl, by decide +kernel, rfl, by decide +kernel, by decide +kernel⟩
theorem ok__law_pick {f : Addr} {fd : FuncData} (T : Mg mg) (F : Fun K "_law_pick" "_law_pick" st__law_pick f fd) (hm : mg "_law_pick" = some (.ref f)) (G__law_take : FnD P w K mg base "_law_take" 1 (m__law_take)) : FnD P w K mg base "_law_pick" 2 m__law_pick :=
  fnD_mk (m := b__law_pick) F sc__law_pick hm (F.binds (ps := ["_law_urn", "_law_pool", "_law_size_so"]) fun _ _ _ _ _ _ us hl => match us, hl with | [_, _, _], _ => rfl) (fun cdv A outer s H E hr => (dss_cons (ds_par (i := 4) (j := 5) sc__law_pick.nd (dp_l (dl_fnT cl_list T.list (by decide +kernel) (da_cons (dv 1) da_nil)) (dp_l (dl_lst da_nil) dp_nil)))
  (dss_cons (ds_for (di_range1 T.range (da_cons (de_fnB (cd_minA rfl) T.min (by decide +kernel) (da_cons (dv 2) (da_cons (de_lenN T.len (pv 4)) da_nil))) da_nil)) (dg (i := 3) sc__law_pick.nd) (dss_one (ds_app (pv 5) (de_pop (pv 4) (de_callU G__law_take (hr.mono (by decide)) (dc_urn (pv 0) (dc_cons (de_lenN T.len (pv 4)) dc_nil)))))))
  (dss_one (ds_retV (pv 5))))))
abbrev st__law_isles : Stmt := topS 19
theorem sc__law_isles : FnScope ["_law_urn", "_law_size_so"] ["_law_urn", "_law_size_so"] (defScope st__law_isles) := ⟨rfl, rfl, rfl, by decide +kernel, rfl, by decide +kernel, by decide +kernel⟩
theorem ok__law_isles {f : Addr} {fd : FuncData} (T : Mg mg) (F : Fun K "_law_isles" "_law_isles" st__law_isles f fd) (hm : mg "_law_isles" = some (.ref f)) (G__law_pick : FnD P w K mg base "_law_pick" 2 (m__law_pick)) : FnD P w K mg base "_law_isles" 3 m__law_isles :=
  fnD_mk (m := b__law_isles) F sc__law_isles hm (F.binds (ps := ["_law_urn", "_law_size_so"]) fun _ _ _ _ _ _ us hl => match us, hl with | [_, _], _ => rfl) (fun cdv A outer s H E hr => (dss_one (ds_ret (de_fnT cd_tup T.tuple (by decide +kernel) (da_cons (de_ofL (dl_fnB (cl_sortD hr.units) T.sorted (by decide +kernel) (da_cons (de_callU G__law_pick (hr.mono (by decide)) (dc_urn (pv 0) (dc_cons (de_ofL (dl_lst (da_cons de_str (da_cons de_str (da_cons de_str (da_cons de_str (da_cons de_str (da_cons de_str (da_cons de_str (da_cons de_str (da_cons de_str (da_cons de_str (da_cons de_str (da_cons de_str da_nil)))))))))))))) (dc_cons (dv 1) dc_nil)))) da_nil))) da_nil)))))
abbrev st__law_pairs : Stmt := topS 20
theorem sc__law_pairs : FnScope ["_law_tags", "_law_found", "_law_k", "_law_one", "_law_own"] ["_law_tags"] (defScope st__law_pairs) := ⟨rfl, rfl, rfl, by decide +kernel, rfl, by decide +kernel, by decide +kernel⟩
theorem ok__law_pairs {f : Addr} {fd : FuncData} (T : Mg mg) (F : Fun K "_law_pairs" "_law_pairs" st__law_pairs f fd) (hm : mg "_law_pairs" = some (.ref f))  : FnD P w K mg base "_law_pairs" 1 m__law_pairs :=
  fnD_mk (m := b__law_pairs) F sc__law_pairs hm (F.binds (ps := ["_law_tags"]) fun _ _ _ _ _ _ us hl => match us, hl with | [_], _ => rfl) (fun cdv A outer s H E hr => (dss_cons (ds_set (i := 1) sc__law_pairs.nd (de_ofL (dl_lst da_nil)))
  (dss_cons (ds_for (di_enumA T.enumerate (da_cons (dv 0) da_nil)) (dg_any rfl (dgs_cons (dg (i := 2) sc__law_pairs.nd) (dgs_cons (dg (i := 3) sc__law_pairs.nd) dgs_nil))) (dss_one (ds_set (i := 1) sc__law_pairs.nd (de_bin od_add (dv 1) (de_ofL (dl_lc (own := [("_law_own", 4)]) [] sc__law_pairs.nd (di_seq (de_sl (dv 0) (do_some (de_bin od_add (dv 2) de_int)) do_none)) (blkOk_by (by kernel_rfl)) (fun _ _ _ _ _ => (dg (i := 4) sc__law_pairs.nd)) (fun _ _ _ _ _ => dts_nil) (fun _ _ _ _ _ => (de_tup (da_cons (dv 3) (da_cons (dv 4) da_nil))))))))))
  (dss_one (ds_retV (pv 1))))))
abbrev st__law_fords : Stmt := topS 21
theorem sc__law_fords : FnScope ["_law_urn", "_law_tags", "_law_most_so", "_law_unit", "_law_pair_so"] ["_law_urn", "_law_tags", "_law_most_so"] (defScope st__law_fords) := ⟨rfl, rfl, rfl, by decide +kernel, rfl, by decide +kernel, by decide +kernel⟩
theorem ok__law_fords {f : Addr} {fd : FuncData} (T : Mg mg) (F : Fun K "_law_fords" "_law_fords" st__law_fords f fd) (hm : mg "_law_fords" = some (.ref f)) (G__law_of : FnD P w K mg base "_law_of" 2 (m__law_of)) (G__law_pairs : FnD P w K mg base "_law_pairs" 1 (m__law_pairs)) (G__law_take : FnD P w K mg base "_law_take" 1 (m__law_take)) : FnD P w K mg base "_law_fords" 3 m__law_fords :=
  fnD_mk (m := b__law_fords) F sc__law_fords hm (F.binds (ps := ["_law_urn", "_law_tags", "_law_most_so"]) fun _ _ _ _ _ _ us hl => match us, hl with | [_, _, _], _ => rfl) (fun cdv A outer s H E hr => (dss_cons (ds_set (i := 3) sc__law_fords.nd (de_callU G__law_of (hr.mono (by decide)) (dc_urn (pv 0) (dc_cons (de_ofL (dl_lst (da_cons de_int (da_cons de_int (da_cons de_int (da_cons de_int (da_cons (de_bin od_pow de_int de_int) da_nil))))))) dc_nil))))
  (dss_one (ds_ret (de_fnT cd_tup T.tuple (by decide +kernel) (da_cons (de_ofL (dl_lc (own := [("_law_pair_so", 4)]) [] sc__law_fords.nd (di_seq (de_call G__law_pairs (hr.mono (by decide)) (da_cons (dv 1) da_nil))) (blkOk_by (by kernel_rfl)) (fun _ _ _ _ _ => (dg (i := 4) sc__law_fords.nd)) (fun _ _ _ _ _ => dts_nil) (fun _ _ _ _ _ => (de_tup (da_cons (dv 4) (da_cons (de_bin od_add (de_bin od_mul (dv 3) (de_callU G__law_take (hr.mono (by decide)) (dc_urn (pv 0) (dc_cons (de_bin od_add (dv 2) de_int) dc_nil)))) (de_bin od_mul (de_fnT cd_int T.int (by decide +kernel) (da_cons (de_cmp od_gt (dv 3) de_int (nomark _)) da_nil)) (de_bin od_fdiv (de_callU G__law_take (hr.mono (by decide)) (dc_urn (pv 0) (dc_cons de_int dc_nil))) de_int))) da_nil)))))) da_nil))))))
abbrev st__law_lot : Stmt := topS 22
theorem sc__law_lot : FnScope ["_law_fords_so", "_law_tags", "_law_water_so", "_law_first", "_law_found", "_law_turn", "_law_pair_so", "_law_much_so", "_law_one", "_law_own"] ["_law_fords_so", "_law_tags", "_law_water_so", "_law_first"] (defScope st__law_lot) := ⟨rfl, rfl, rfl, by decide +kernel, rfl, by decide +kernel, by decide +kernel⟩
theorem ok__law_lot {f : Addr} {fd : FuncData} (T : Mg mg) (F : Fun K "_law_lot" "_law_lot" st__law_lot f fd) (hm : mg "_law_lot" = some (.ref f))  : FnD P w K mg base "_law_lot" 1 m__law_lot :=
  fnD_mk (m := b__law_lot) F sc__law_lot hm (F.binds (ps := ["_law_fords_so", "_law_tags", "_law_water_so", "_law_first"]) fun _ _ _ _ _ _ us hl => match us, hl with | [_, _, _, _], _ => rfl) (fun cdv A outer s H E hr => (dss_cons (ds_setL (i := 4) sc__law_lot.nd (dl_lst (da_cons (dv 3) da_nil)))
  (dss_cons (ds_for (di_range1 T.range (da_cons (de_lenN T.len (pv 1)) da_nil)) (dg (i := 5) sc__law_lot.nd) (dss_one (ds_for (di_seq (dv 0)) (dg_any rfl (dgs_cons (dg (i := 6) sc__law_lot.nd) (dgs_cons (dg (i := 7) sc__law_lot.nd) dgs_nil))) (dss_one (ds_if (dt_cmp od_gt (dv 7) (dv 2) (nomark _)) (dss_one (ds_for (di_seq (de_tup (da_cons (dv 6) (da_cons (de_revA (dv 6)) da_nil)))) (dg_any rfl (dgs_cons (dg (i := 8) sc__law_lot.nd) (dgs_cons (dg (i := 9) sc__law_lot.nd) dgs_nil))) (dss_one (ds_if (PW.pt (dw_and (dt_inN hr.units65 (dv 8) (pv 4)) (dw_and1 (dt_notinN hr.units65 (dv 9) (pv 4))))) (dss_one (ds_app (pv 4) (dv 9))) dss_nil)))) dss_nil)))))
  (dss_one (ds_ret (de_fnT cd_tup T.tuple (by decide +kernel) (da_cons (de_ofL (dl_fnB (cl_sortD hr.units) T.sorted (by decide +kernel) (da_cons (dv 4) da_nil))) da_nil)))))))
abbrev st__law_cut : Stmt := topS 23
theorem sc__law_cut : FnScope ["_law_fords_so", "_law_tags", "_law_water_so", "_law_one"] ["_law_fords_so", "_law_tags", "_law_water_so"] (defScope st__law_cut) := ⟨rfl, rfl, rfl, by decide +kernel, rfl, by decide +kernel, by decide +kernel⟩
theorem ok__law_cut {f : Addr} {fd : FuncData} (T : Mg mg) (F : Fun K "_law_cut" "_law_cut" st__law_cut f fd) (hm : mg "_law_cut" = some (.ref f)) (G__law_lot : FnD P w K mg base "_law_lot" 1 (m__law_lot)) : FnD P w K mg base "_law_cut" 2 m__law_cut :=
  fnD_mk (m := b__law_cut) F sc__law_cut hm (F.binds (ps := ["_law_fords_so", "_law_tags", "_law_water_so"]) fun _ _ _ _ _ _ us hl => match us, hl with | [_, _, _], _ => rfl) (fun cdv A outer s H E hr => (dss_one (ds_ret (de_fnT cd_tup T.tuple (by decide +kernel) (da_cons (de_ofL (dl_sortSetA hr.units T.sorted T.set (de_ofL (dl_lc (own := [("_law_one", 3)]) [] sc__law_cut.nd (di_seq (dv 1)) (blkOk_by (by kernel_rfl)) (fun _ _ _ _ _ => (dg (i := 3) sc__law_cut.nd)) (fun _ _ _ _ _ => dts_nil) (fun _ _ _ _ _ => (de_call G__law_lot (hr.mono (by decide)) (da_cons (dv 0) (da_cons (dv 1) (da_cons (dv 2) (da_cons (dv 3) da_nil)))))))))) da_nil)))))
abbrev st__law_turns : Stmt := topS 24
theorem sc__law_turns : FnScope ["_law_fords_so", "_law_some", "_law_pair_so", "_law_much_so"] ["_law_fords_so"] (defScope st__law_turns) := ⟨rfl, rfl, rfl, by decide +kernel, rfl, by decide +kernel, by decide +kernel⟩
theorem ok__law_turns {f : Addr} {fd : FuncData} (T : Mg mg) (F : Fun K "_law_turns" "_law_turns" st__law_turns f fd) (hm : mg "_law_turns" = some (.ref f))  : FnD P w K mg base "_law_turns" 1 m__law_turns :=
  fnD_mk (m := b__law_turns) F sc__law_turns hm (F.binds (ps := ["_law_fords_so"]) fun _ _ _ _ _ _ us hl => match us, hl with | [_], _ => rfl) (fun cdv A outer s H E hr => (dss_cons (ds_set (i := 1) sc__law_turns.nd (de_ofL (dl_lst (da_cons de_int da_nil))))
  (dss_cons (ds_for (di_seq (dv 0)) (dg_any rfl (dgs_cons (dg (i := 2) sc__law_turns.nd) (dgs_cons (dg (i := 3) sc__law_turns.nd) dgs_nil))) (dss_one (ds_set (i := 1) sc__law_turns.nd (de_bin od_add (dv 1) (de_ofL (dl_lst (da_cons (dv 3) (da_cons (de_bin od_add (dv 3) de_int) (da_cons (de_fnB (cd_maxA rfl) T.max (by decide +kernel) (da_cons de_int (da_cons (de_bin od_sub (dv 3) de_int) da_nil))) da_nil)))))))))
  (dss_one (ds_retL (dl_sortSetA hr.units T.sorted T.set (dv 1)))))))
abbrev st__law_case_right : Stmt := topS 25
theorem sc__law_case_right : FnScope ["_law_tags", "_law_fords_so", "_law_got", "_law_soft", "_law_waters_so", "_law_found", "_law_k", "_law_water_so", "_law_due"] ["_law_tags", "_law_fords_so"] (defScope st__law_case_right) := ⟨rfl, rfl, rfl, by decide +kernel, rfl, by decide +kernel, by decide +kernel⟩
theorem ok__law_case_right {f : Addr} {fd : FuncData} (T : Mg mg) (F : Fun K "_law_case_right" "_law_case_right" st__law_case_right f fd) (hm : mg "_law_case_right" = some (.ref f)) (G__law_cut : FnD P w K mg base "_law_cut" 2 (m__law_cut)) (G__law_lists : FnD P w K mg base "_law_lists" 10 (m__law_lists 9)) (G__law_same : FnD P w K mg base "_law_same" 10 (m__law_same 9)) (G__law_turns : FnD P w K mg base "_law_turns" 1 (m__law_turns)) (G_parting_at : FnD P w K mg base "parting_at" 4 (m_parting_at)) (G_turning_waters : FnD P w K mg base "turning_waters" 4 (m_turning_waters)) (GK_parting_at_0 : FnDK P w K mg base "parting_at" 4 (m_parting_at) ["water", "fords"] 0 [1, 0]) (GK_turning_waters_0 : FnDK P w K mg base "turning_waters" 4 (m_turning_waters) ["fords"] 0 [0]) : FnD P w K mg base "_law_case_right" 11 m__law_case_right :=
  fnD_mk (m := b__law_case_right) F sc__law_case_right hm (F.binds (ps := ["_law_tags", "_law_fords_so"]) fun _ _ _ _ _ _ us hl => match us, hl with | [_, _], _ => rfl) (fun cdv A outer s H E hr => (dss_cons (ds_par3 (i := 3) (j := 4) (l := 5) sc__law_case_right.nd (dp_d (de_call G__law_lists (hr.mono (by decide)) (da_cons (dv 1) da_nil)) (dp_d (de_call G__law_turns (hr.mono (by decide)) (da_cons (dv 1) da_nil)) (dp_l (dl_lst da_nil) dp_nil))))
  (dss_cons (ds_for (di_enumA T.enumerate (da_cons (dv 4) da_nil)) (dg_any rfl (dgs_cons (dg (i := 6) sc__law_case_right.nd) (dgs_cons (dg (i := 7) sc__law_case_right.nd) dgs_nil))) (dss_cons (ds_set (i := 8) sc__law_case_right.nd (de_call G__law_cut (hr.mono (by decide)) (da_cons (dv 1) (da_cons (dv 0) (da_cons (dv 7) da_nil)))))
  (dss_cons (ds_set (i := 2) sc__law_case_right.nd (de_ofL (dl_lst (da_cons (de_call G_parting_at (hr.mono (by decide)) (da_cons (dv 1) (da_cons (dv 7) da_nil))) (da_cons (de_call G_parting_at (hr.mono (by decide)) (da_cons (dv 3) (da_cons (dv 7) da_nil))) (da_cons (de_callK0 GK_parting_at_0 (hr.mono (by decide)) (dk_cons (dv 7) (dk_cons (dv 3) dk_nil))) da_nil))))))
  (dss_cons (ds_if (dt_not (dt_val (de_call G__law_same (hr.mono (by decide)) (da_cons (dv 2) (da_cons (de_ofL (dl_rep (dl_lst (da_cons (dv 8) da_nil)) de_int)) da_nil))))) (dss_one (ds_ret de_bl)) dss_nil)
  (dss_one (ds_if (PW.pt (dw_and (dt_cmp od_gt (dv 6) de_int (nomark _)) (dw_and1 (dt_cmp (od_ne hr.units) (dv 8) (de_call G__law_cut (hr.mono (by decide)) (da_cons (dv 1) (da_cons (dv 0) (da_cons (de_ixN' (pv 4) (de_bin od_sub (dv 6) de_int)) da_nil)))) (nomark _))))) (dss_one (ds_app (pv 5) (dv 7))) dss_nil))))))
  (dss_cons (ds_set (i := 2) sc__law_case_right.nd (de_ofL (dl_lst (da_cons (de_call G_turning_waters (hr.mono (by decide)) (da_cons (dv 1) da_nil)) (da_cons (de_call G_turning_waters (hr.mono (by decide)) (da_cons (dv 3) da_nil)) (da_cons (de_callK0 GK_turning_waters_0 (hr.mono (by decide)) (dk_cons (dv 3) dk_nil)) da_nil))))))
  (dss_one (ds_ret (de_and (de_call G__law_same (hr.mono (by decide)) (da_cons (dv 2) (da_cons (de_ofL (dl_rep (dl_lst (da_cons (de_fnT cd_tup T.tuple (by decide +kernel) (da_cons (dv 5) da_nil)) da_nil)) de_int)) da_nil))) (de_one (de_cmp (od_eq hr.units) (dv 3) (de_call G__law_lists (hr.mono (by decide)) (da_cons (dv 1) da_nil)) (nomark _))))))))))
abbrev st__law_by_hand_right : Stmt := topS 26
theorem sc__law_by_hand_right : FnScope ["_law_plain", "_law_got", "_law_due", "_law_two", "_law_halves_so", "_law_wide", "_law_one", "_law_alone", "_law_k", "_law_own"] [] (defScope st__law_by_hand_right) := ⟨rfl, rfl, rfl, by decide +kernel, rfl, by decide +kernel, by decide +kernel⟩
theorem ok__law_by_hand_right {f : Addr} {fd : FuncData} (T : Mg mg) (F : Fun K "_law_by_hand_right" "_law_by_hand_right" st__law_by_hand_right f fd) (hm : mg "_law_by_hand_right" = some (.ref f)) (G__law_pairs : FnD P w K mg base "_law_pairs" 1 (m__law_pairs)) (G__law_same : FnD P w K mg base "_law_same" 10 (m__law_same 9)) (G_parting_at : FnD P w K mg base "parting_at" 4 (m_parting_at)) (G_turning_waters : FnD P w K mg base "turning_waters" 4 (m_turning_waters)) : FnD P w K mg base "_law_by_hand_right" 11 m__law_by_hand_right :=
  fnD_mk (m := b__law_by_hand_right) F sc__law_by_hand_right hm (F.binds (ps := []) fun _ _ _ _ _ _ us hl => match us, hl with | [], _ => rfl) (fun cdv A outer s H E hr => (dss_cons (ds_set (i := 0) sc__law_by_hand_right.nd (de_tup (da_cons (de_tup (da_cons (de_tup (da_cons de_str (da_cons de_str da_nil))) (da_cons de_int da_nil))) (da_cons (de_tup (da_cons (de_tup (da_cons de_str (da_cons de_str da_nil))) (da_cons de_int da_nil))) (da_cons (de_tup (da_cons (de_tup (da_cons de_str (da_cons de_str da_nil))) (da_cons de_int da_nil))) (da_cons (de_tup (da_cons (de_tup (da_cons de_str (da_cons de_str da_nil))) (da_cons de_int da_nil))) (da_cons (de_tup (da_cons (de_tup (da_cons de_str (da_cons de_str da_nil))) (da_cons de_int da_nil))) (da_cons (de_tup (da_cons (de_tup (da_cons de_str (da_cons de_str da_nil))) (da_cons de_int da_nil))) da_nil))))))))
  (dss_cons (ds_setLc (i := 1) (own := [("_law_k", 8)]) [] sc__law_by_hand_right.nd (sw_true rfl rfl rfl (by decide +kernel)) (di_seq (de_tup (da_cons de_int (da_cons de_int (da_cons de_int (da_cons de_int (da_cons de_int (da_cons de_int (da_cons (de_bin od_pow de_int de_int) da_nil))))))))) (blkOk_by (by kernel_rfl)) (fun _ _ _ _ _ => (dg (i := 8) sc__law_by_hand_right.nd)) (fun _ _ _ _ _ => dts_nil) (fun _ _ _ _ _ => (de_call G_parting_at (hr.mono (by decide)) (da_cons (dv 0) (da_cons (dv 8) da_nil)))))
  (dss_cons (ds_asg (de_tup (da_cons (de_tup (da_cons (de_tup (da_cons de_str (da_cons de_str (da_cons de_str (da_cons de_str da_nil))))) da_nil)) (da_cons (de_tup (da_cons (de_tup (da_cons de_str da_nil)) (da_cons (de_tup (da_cons de_str da_nil)) (da_cons (de_tup (da_cons de_str da_nil)) (da_cons (de_tup (da_cons de_str da_nil)) da_nil))))) da_nil))) (dg_any rfl (dgs_cons (dg (i := 6) sc__law_by_hand_right.nd) (dgs_cons (dg (i := 7) sc__law_by_hand_right.nd) dgs_nil))))
  (dss_cons (ds_set (i := 2) sc__law_by_hand_right.nd (de_ofL (dl_lst (da_cons (dv 6) (da_cons (dv 6) (da_cons (dv 6) (da_cons (de_tup (da_cons (de_tup (da_cons de_str (da_cons de_str (da_cons de_str da_nil)))) (da_cons (de_tup (da_cons de_str da_nil)) da_nil))) (da_cons (de_tup (da_cons (de_tup (da_cons de_str (da_cons de_str da_nil))) (da_cons (de_tup (da_cons de_str da_nil)) (da_cons (de_tup (da_cons de_str da_nil)) da_nil)))) (da_cons (dv 7) (da_cons (dv 7) da_nil))))))))))
  (dss_cons (ds_set (i := 1) sc__law_by_hand_right.nd (de_bin od_add (dv 1) (de_ofL (dl_lst (da_cons (de_call G_turning_waters (hr.mono (by decide)) (da_cons (dv 0) da_nil)) (da_cons (de_call G_parting_at (hr.mono (by decide)) (da_cons (de_tup da_nil) (da_cons de_int da_nil))) (da_cons (de_call G_turning_waters (hr.mono (by decide)) (da_cons (de_tup da_nil) da_nil)) (da_cons (de_call G_parting_at (hr.mono (by decide)) (da_cons (de_tup (da_cons (de_tup (da_cons (de_tup (da_cons de_str (da_cons de_str da_nil))) (da_cons de_int da_nil))) da_nil)) (da_cons de_int da_nil))) (da_cons (de_call G_turning_waters (hr.mono (by decide)) (da_cons (de_tup (da_cons (de_tup (da_cons (de_tup (da_cons de_str (da_cons de_str da_nil))) (da_cons de_int da_nil))) da_nil)) da_nil)) da_nil)))))))))
  (dss_cons (ds_set (i := 2) sc__law_by_hand_right.nd (de_bin od_add (dv 2) (de_ofL (dl_lst (da_cons (de_tup (da_cons de_int (da_cons de_int (da_cons de_int da_nil)))) (da_cons (de_tup da_nil) (da_cons (de_tup da_nil) (da_cons (de_tup (da_cons (de_tup (da_cons de_str da_nil)) (da_cons (de_tup (da_cons de_str da_nil)) da_nil))) (da_cons (de_tup da_nil) da_nil)))))))))
  (dss_cons (ds_set (i := 3) sc__law_by_hand_right.nd (de_fnT cd_tup T.tuple (by decide +kernel) (da_cons (de_ofL (dl_lc (own := [("_law_own", 9)]) [] sc__law_by_hand_right.nd (di_seq (de_call G__law_pairs (hr.mono (by decide)) (da_cons de_str da_nil))) (blkOk_by (by kernel_rfl)) (fun _ _ _ _ _ => (dg (i := 9) sc__law_by_hand_right.nd)) (fun _ _ _ _ _ => dts_nil) (fun _ _ _ _ _ => (de_tup (da_cons (dv 9) (da_cons (de_if (dt_cmp (od_eq hr.units) (de_cmp od_gt (de_ixN' (pv 9) de_int) de_str (nomark _)) (de_cmp od_gt (de_ixN' (pv 9) de_int) de_str (nomark _)) (nomark _)) (de_bin od_sub (de_bin od_pow de_int de_int) (de_fnT cd_int T.int (by decide +kernel) (da_cons (de_cmp od_gt (de_ixN' (pv 9) de_int) de_str (nomark _)) da_nil))) de_int) da_nil)))))) da_nil)))
  (dss_cons (ds_set (i := 1) sc__law_by_hand_right.nd (de_bin od_add (dv 1) (de_ofL (dl_lst (da_cons (de_call G_parting_at (hr.mono (by decide)) (da_cons (dv 3) (da_cons de_int da_nil))) (da_cons (de_call G_parting_at (hr.mono (by decide)) (da_cons (dv 3) (da_cons (de_bin od_sub (de_bin od_pow de_int de_int) de_int) da_nil))) (da_cons (de_call G_parting_at (hr.mono (by decide)) (da_cons (dv 3) (da_cons (de_bin od_sub (de_bin od_pow de_int de_int) de_int) da_nil))) (da_cons (de_call G_parting_at (hr.mono (by decide)) (da_cons (dv 3) (da_cons (de_bin od_pow de_int de_int) da_nil))) (da_cons (de_call G_turning_waters (hr.mono (by decide)) (da_cons (dv 3) da_nil)) da_nil)))))))))
  (dss_cons (ds_set (i := 4) sc__law_by_hand_right.nd (de_tup (da_cons (de_tup (da_cons de_str (da_cons de_str (da_cons de_str da_nil)))) (da_cons (de_tup (da_cons de_str (da_cons de_str (da_cons de_str da_nil)))) da_nil))))
  (dss_cons (ds_set (i := 2) sc__law_by_hand_right.nd (de_bin od_add (dv 2) (de_ofL (dl_lst (da_cons (dv 4) (da_cons (dv 4) (da_cons (de_tup (da_cons (de_tup (da_cons de_str (da_cons de_str (da_cons de_str da_nil)))) (da_cons (de_tup (da_cons de_str da_nil)) (da_cons (de_tup (da_cons de_str da_nil)) (da_cons (de_tup (da_cons de_str da_nil)) da_nil))))) (da_cons (de_fnT cd_tup T.tuple (by decide +kernel) (da_cons (de_ofL (dl_lc (own := [("_law_own", 9)]) [] sc__law_by_hand_right.nd (di_seq de_str) (blkOk_by (by kernel_rfl)) (fun _ _ _ _ _ => (dg (i := 9) sc__law_by_hand_right.nd)) (fun _ _ _ _ _ => dts_nil) (fun _ _ _ _ _ => (de_tup (da_cons (dv 9) da_nil))))) da_nil)) (da_cons (de_tup (da_cons (de_bin od_sub (de_bin od_pow de_int de_int) de_int) (da_cons (de_bin od_pow de_int de_int) da_nil))) da_nil)))))))))
  (dss_cons (ds_set (i := 5) sc__law_by_hand_right.nd (de_fnT cd_tup T.tuple (by decide +kernel) (da_cons (de_ofL (dl_lc (own := [("_law_own", 9)]) [] sc__law_by_hand_right.nd (di_seq (de_call G__law_pairs (hr.mono (by decide)) (da_cons de_str da_nil))) (blkOk_by (by kernel_rfl)) (fun _ _ _ _ _ => (dg (i := 9) sc__law_by_hand_right.nd)) (fun _ _ _ _ _ => dts_nil) (fun _ _ _ _ _ => (de_tup (da_cons (dv 9) (da_cons (de_if (dt_cmp (od_eq hr.units) (de_bin od_sub (de_fnB cd_ord T.ord (by decide +kernel) (da_cons (de_ixN' (pv 9) de_int) da_nil)) (de_fnB cd_ord T.ord (by decide +kernel) (da_cons (de_ixN' (pv 9) de_int) da_nil))) de_int (nomark _)) (de_bin od_add (de_bin od_sub de_int (de_fnB cd_ord T.ord (by decide +kernel) (da_cons (de_ixN' (pv 9) de_int) da_nil))) de_int) de_int) da_nil)))))) da_nil)))
  (dss_cons (ds_set (i := 1) sc__law_by_hand_right.nd (de_bin od_add (dv 1) (de_ofL (dl_lst (da_cons (de_call G_turning_waters (hr.mono (by decide)) (da_cons (dv 5) da_nil)) (da_cons (de_call G_parting_at (hr.mono (by decide)) (da_cons (dv 5) (da_cons de_int da_nil))) da_nil))))))
  (dss_cons (ds_set (i := 2) sc__law_by_hand_right.nd (de_bin od_add (dv 2) (de_ofL (dl_lst (da_cons (de_fnT cd_tup T.tuple (by decide +kernel) (da_cons (de_ofL (dl_lc (own := [("_law_k", 8)]) [] sc__law_by_hand_right.nd (di_range2 T.range (da_cons de_int (da_cons de_int da_nil))) (blkOk_by (by kernel_rfl)) (fun _ _ _ _ _ => (dg (i := 8) sc__law_by_hand_right.nd)) (fun _ _ _ _ _ => dts_nil) (fun _ _ _ _ _ => (dv 8)))) da_nil)) (da_cons (de_tup (da_cons (de_tup (da_cons de_str (da_cons de_str (da_cons de_str (da_cons de_str (da_cons de_str (da_cons de_str da_nil))))))) (da_cons (de_tup (da_cons de_str da_nil)) (da_cons (de_tup (da_cons de_str da_nil)) (da_cons (de_tup (da_cons de_str da_nil)) (da_cons (de_tup (da_cons de_str da_nil)) (da_cons (de_tup (da_cons de_str da_nil)) (da_cons (de_tup (da_cons de_str da_nil)) da_nil)))))))) da_nil))))))
  (dss_one (ds_ret (de_call G__law_same (hr.mono (by decide)) (da_cons (dv 1) (da_cons (dv 2) da_nil)))))))))))))))))))
abbrev st__law_right : Stmt := topS 27
theorem sc__law_right : FnScope ["_law_urn", "_law_turn", "_law_tags"] ["_law_urn"] (defScope st__law_right) := ⟨rfl, rfl, rfl, by decide +kernel, rfl, by decide +kernel, by decide +kernel⟩
theorem ok__law_right {f : Addr} {fd : FuncData} (T : Mg mg) (F : Fun K "_law_right" "_law_right" st__law_right f fd) (hm : mg "_law_right" = some (.ref f)) (G__law_case_right : FnD P w K mg base "_law_case_right" 11 (m__law_case_right)) (G__law_fords : FnD P w K mg base "_law_fords" 3 (m__law_fords)) (G__law_isles : FnD P w K mg base "_law_isles" 3 (m__law_isles)) (G__law_of : FnD P w K mg base "_law_of" 2 (m__law_of)) (G__law_take : FnD P w K mg base "_law_take" 1 (m__law_take)) : FnD P w K mg base "_law_right" 12 m__law_right :=
  fnD_mk (m := b__law_right) F sc__law_right hm (F.binds (ps := ["_law_urn"]) fun _ _ _ _ _ _ us hl => match us, hl with | [_], _ => rfl) (fun cdv A outer s H E hr => (dss_cons (ds_for (di_range1 T.range (da_cons de_int da_nil)) (dg (i := 1) sc__law_right.nd) (dss_cons (ds_set (i := 2) sc__law_right.nd (de_callU G__law_isles (hr.mono (by decide)) (dc_urn (pv 0) (dc_cons (de_bin od_add de_int (de_callU G__law_take (hr.mono (by decide)) (dc_urn (pv 0) (dc_cons de_int dc_nil)))) dc_nil))))
  (dss_one (ds_if (dt_not (dt_val (de_call G__law_case_right (hr.mono (by decide)) (da_cons (dv 2) (da_cons (de_callU G__law_fords (hr.mono (by decide)) (dc_urn (pv 0) (dc_cons (dv 2) (dc_cons (de_callU G__law_of (hr.mono (by decide)) (dc_urn (pv 0) (dc_cons (de_ofL (dl_lst (da_cons de_int (da_cons de_int (da_cons de_int da_nil))))) dc_nil))) dc_nil)))) da_nil))))) (dss_one (ds_ret de_bl)) dss_nil))))
  (dss_one (ds_ret de_bl))))
abbrev st_law : Stmt := topS 28
theorem sc_law : FnScope ["_law_script", "_law_cells_here", "_law_k"] ["_law_script"] (defScope st_law) := ⟨rfl, rfl, rfl, by decide +kernel, rfl, by decide +kernel, by decide +kernel⟩
theorem okl_law {f : Addr} {fd : FuncData} (T : Mg mg) (F : Fun K "law" "law" st_law f fd) (G__law_box : FnD P w K mg base "_law_box" 1 (m__law_box)) (G__law_by_hand_right : FnD P w K mg base "_law_by_hand_right" 11 (m__law_by_hand_right)) (G__law_cells : FnD P w K mg base "_law_cells" 1 (m__law_cells)) (G__law_right : FnD P w K mg base "_law_right" 12 (m__law_right)) : FnOk P w K mg base CX0 13 f fd ["_law_script"] (spD ⟨K, w, mg⟩ m_law) := by
  have h : FnOk P w K mg base CX0 13 f fd ["_law_script"] (spD ⟨K, w, mg⟩ (runD 1 3 b_law)) := fn_ok (m := b_law) (N := ["_law_script", "_law_cells_here", "_law_k"]) (ps := ["_law_script"]) F sc_law (fun cdv A outer s H E hr => (dss_cons (ds_if (dt_not (dt_val (de_call0 G__law_by_hand_right (hr.mono (by decide))))) (dss_one (ds_ret de_bl)) dss_nil)
  (dss_cons (ds_set (i := 1) sc_law.nd (de_call G__law_cells (hr.mono (by decide)) (da_cons (dv 0) (da_cons de_int da_nil))))
  (dss_one (ds_ret (de_fnB (cd_all rfl) T.all (by decide +kernel) (da_cons (de_ofL (dl_lc (own := [("_law_k", 2)]) [] sc_law.nd (di_range1 T.range (da_cons (de_lenN T.len (pv 1)) da_nil)) (blkOk_by (by kernel_rfl)) (fun _ _ _ _ _ => (dg (i := 2) sc_law.nd)) (fun _ _ _ _ _ => dts_nil) (fun _ _ _ _ _ => (de_callN G__law_right (hr.mono (by decide)) (dl_call G__law_box (hr.mono (by decide)) (da_cons (dv 1) (da_cons (dv 2) da_nil))))))) da_nil)))))))
  exact h
end
end DT
set_option Elab.async false
set_option linter.all false
set_option maxRecDepth 100000
set_option maxHeartbeats 4000000
namespace FD
open PySem PySem.Spec PyProof.Rows L2 DL
theorem sub_len {α : Type} [DecidableEq α] : ∀ {l L : List α}, l.Nodup → (∀ x ∈ l, x ∈ L) → l.length ≤ L.length
  | [], _, _, _ => Nat.zero_le _
  | x :: l, L, nd, h => by
    have nd' := List.nodup_cons.mp nd
    have hx := h x List.mem_cons_self
    have h1 : l.length ≤ (L.erase x).length := sub_len nd'.2 fun y hy => (List.mem_erase_of_ne fun e => nd'.1 (by rw [← e]; exact hy)).mpr (h y (List.mem_cons_of_mem _ hy))
    rw [List.length_erase_of_mem hx] at h1
    have := List.length_pos_of_mem hx
    rw [List.length_cons]
    omega
theorem asc_nd {ms : List Int} (h : ms.Pairwise (· < ·)) : ms.Nodup := h.imp fun {a b} q e => by omega
theorem turns_len {n : Nat} {g : Nat → Str} {h : Ht} (N : Nm n g) {ms : List Int} (asc : ms.Pairwise (· < ·)) (mm : ∀ z, z ∈ ms ↔ z = 0 ∨ ∃ p ∈ prs n, z ∈ tw (h p.1 p.2)) : ms.length ≤ 199 := by
  have hp := prs_len N.hi
  have h1 := sub_len (L := 0 :: (prs n).flatMap fun p => tw (h p.1 p.2)) (asc_nd asc) fun z hz => by
    rcases (mm z).mp hz with e | ⟨p, hp, q⟩
    · rw [e]; exact List.mem_cons_self
    · exact List.mem_cons_of_mem _ (List.mem_flatMap.mpr ⟨p, hp, q⟩)
  have h2 := fm_len (xs := prs n) (f := fun p => tw (h p.1 p.2)) (k := 3) fun _ _ => Nat.le_refl 3
  rw [List.length_cons] at h1
  omega
theorem asc_first {l : List Int} (asc : l.Pairwise (· < ·)) {v : Int} (hv : v ∈ l) (h : ∀ z ∈ l, v ≤ z) : ∃ r, l = v :: r := by
  cases l with
  | nil => cases hv
  | cons x l =>
    refine ⟨l, ?_⟩
    have h1 := h x List.mem_cons_self
    rcases List.mem_cons.mp hv with e | hv
    · rw [e]
    · have := (List.pairwise_cons.mp asc).1 v hv
      omega
end FD
set_option Elab.async false
set_option linter.all false
set_option maxRecDepth 100000
set_option maxHeartbeats 4000000
namespace FD
open PySem PySem.Spec PyProof.Rows L2 DL
open PySem.W (dataLt alike alikeAll AllAlike)
theorem st_no2 {x : Dt} {u u' : Ur} {mt : MT} {b : Bool} {s s1 : Stt} {g : MG} {me : MD} {sb : List (Option SV)} (h1 : g x ⟨sb, u⟩ = some s) (h2 : mt s = some (b, s1)) (hb : b = false) (hu : s1.ur = u') : lcStep g mt me sb x u = some (none, u') := hu ▸ st_no h1 h2 hb
theorem e_callDV {F : FM} {mr : MA} {s s1 : Stt} {ds : List Dt} {kvs : List (Dt × Dt)} {u : Ur} (h1 : mr s = some (ds, s1)) (h2 : F (ds.map .val) none = some (.newd kvs, u)) : mCall F mr s = some (.dict kvs, s1) := e_call h1 h2
theorem alikeAll_of : ∀ {xs ys : List Dt}, (∀ x ∈ xs, ∀ y ∈ ys, alike x y = true) → alikeAll xs ys = true
  | [], _, _ => by rw [alikeAll]
  | _ :: _, [], _ => by rw [alikeAll]
  | x :: xs, y :: ys, h => by
    rw [alikeAll, h x List.mem_cons_self y List.mem_cons_self, alikeAll_of fun a ha b hb => h a (List.mem_cons_of_mem _ ha) b (List.mem_cons_of_mem _ hb)]
    rfl
theorem alike_strs (xs ys : List Str) : alike (.tuple (xs.map .str)) (.tuple (ys.map .str)) = true := by
  rw [alike]
  exact alikeAll_of fun x hx y hy => by
    obtain ⟨a, _, rfl⟩ := List.mem_map.mp hx
    obtain ⟨b, _, rfl⟩ := List.mem_map.mp hy
    rfl
theorem eqv_alike {x y : Dt} (h : alike x y = true) : PyData.eqv x y = true ↔ x = y := by
  constructor
  · intro e
    have t := (PySem.W.toks_eqv x y h).1 e
    refine lt_tri h ?_ ?_
    · unfold dataLt
      rw [t]
      exact lt_irr y
    · unfold dataLt
      rw [t]
      exact lt_irr y
  · rintro rfl
    cases q : PyData.eqv x x with
    | true => rfl
    | false =>
      exfalso
      have t := (PySem.W.toks_eqv x x h).2 q [.inl 0] [.inl 1]
      have t2 := (PySem.W.toks_eqv x x h).2 q [.inl 1] [.inl 0]
      rw [PySem.W.lex_pre] at t t2
      rw [← t2] at t
      revert t
      decide +kernel
theorem keyNs_strs : ∀ (xs : List Str), keyNs (xs.map .str) = some (xs.map .text)
  | [] => by rw [List.map_nil, keyNs]; rfl
  | x :: xs => by rw [List.map_cons, keyNs, keyN, keyNs_strs xs]; rfl
theorem depth_texts : ∀ (xs : List Str), NestedKey.depthAll (xs.map .text) = 0
  | [] => by rw [List.map_nil, NestedKey.depthAll]
  | x :: xs => by rw [List.map_cons, NestedKey.depthAll, depth_texts xs, NestedKey.depth]; rfl
theorem keyOk_strs (xs : List Str) : keyOk (.tuple (xs.map .str)) = true := by
  unfold keyOk
  rw [keyN, keyNs_strs]
  show decide (NestedKey.depth (.tup (xs.map .text)) ≤ 8) = true
  rw [NestedKey.depth, depth_texts]
  rfl
theorem depth_strs : ∀ (xs : List Str), PyData.depthAll (xs.map .str) = 0
  | [] => by simp [PyData.depthAll]
  | x :: xs => by rw [List.map_cons, PyData.depthAll, depth_strs xs, PyData.depth]; rfl
theorem lay_tups : ∀ (L : List (List Str)), layDs (L.map fun xs => PyData.tuple (xs.map .str)) = true
  | [] => rfl
  | xs :: L => by
    rw [List.map_cons, layDs, layD, lay_strs, lay_tups L]
    rfl
theorem sortOk_tups {L : List (List Str)} (h : ∀ xs ∈ L, xs ≠ []) : sortOk (L.map fun xs => PyData.tuple (xs.map .str)) = true := by
  unfold sortOk
  rw [lay_tups, Bool.and_true]
  simp only [Bool.and_eq_true, Bool.or_eq_true, List.all_eq_true, List.mem_map]
  refine ⟨⟨?_, .inl ?_⟩, ?_⟩
  · rintro x ⟨a, _, rfl⟩ y ⟨b, _, rfl⟩
    exact alike_strs a b
  · rintro x ⟨a, ha, rfl⟩
    cases a with
    | nil => exact absurd rfl (h [] ha)
    | cons _ _ => rfl
  · rintro x ⟨a, _, rfl⟩
    rw [PyData.depth, depth_strs]
    rfl
theorem setOkT_tups {L : List (List Str)} (h : ∀ xs ∈ L, xs ≠ []) (hl : L.length < 64) : setOkT (L.map fun xs => PyData.tuple (xs.map .str)) = true := by
  unfold setOkT
  rw [sortOk_tups h, List.length_map, decide_eq_true hl]
  have : (L.map fun xs => PyData.tuple (xs.map .str)).all (fun d => isTup d && keyOk d) = true := by
    rw [List.all_eq_true]
    intro x hx
    obtain ⟨a, _, rfl⟩ := List.mem_map.mp hx
    rw [keyOk_strs]
    rfl
  rw [this]
  rfl
theorem all_tups {L : List (List Str)} : AllAlike (L.map fun xs => PyData.tuple (xs.map .str)) := fun x hx y hy => by
  obtain ⟨a, _, rfl⟩ := List.mem_map.mp hx
  obtain ⟨b, _, rfl⟩ := List.mem_map.mp hy
  exact alike_strs a b
def jn (T : Ht) (w : Int) (i j : Nat) : Bool := decide (j = i) || decide (w < T i j)
def lotN (n : Nat) (T : Ht) (w : Int) (i : Nat) : List Nat := (List.range n).filter (jn T w i)
def lotS (n : Nat) (g : Nat → Str) (T : Ht) (w : Int) (i : Nat) : List Str := (lotN n T w i).map g
def lotsS (n : Nat) (g : Nat → Str) (T : Ht) (w : Int) : List (List Str) := (List.range n).map (lotS n g T w)
def cutPs (n : Nat) (g : Nat → Str) (T : Ht) (w : Int) : List Dt := setD ((lotsS n g T w).map fun xs => PyData.tuple (xs.map .str))
def cutP (n : Nat) (g : Nat → Str) (T : Ht) (w : Int) : Dt := .tuple (cutPs n g T w)
theorem lotN_mem {n : Nat} {T : Ht} {w : Int} {i j : Nat} : j ∈ lotN n T w i ↔ j < n ∧ R T w i j := by
  unfold lotN jn R
  rw [List.mem_filter, List.mem_range, Bool.or_eq_true, decide_eq_true_eq, decide_eq_true_eq]
  exact ⟨fun ⟨a, b⟩ => ⟨a, b.imp Eq.symm id⟩, fun ⟨a, b⟩ => ⟨a, b.imp Eq.symm id⟩⟩
theorem lots_ne {n : Nat} {g : Nat → Str} {T : Ht} {w : Int} : ∀ xs ∈ lotsS n g T w, xs ≠ [] := fun xs hx e => by
  obtain ⟨i, hi, rfl⟩ := List.mem_map.mp hx
  have : i ∈ lotN n T w i := lotN_mem.mpr ⟨List.mem_range.mp hi, .inl rfl⟩
  have e' : lotN n T w i = [] := List.map_eq_nil_iff.mp e
  rw [e'] at this
  exact absurd this List.not_mem_nil
theorem lots_len {n : Nat} {g : Nat → Str} {T : Ht} {w : Int} : (lotsS n g T w).length = n := by
  unfold lotsS
  rw [List.length_map, List.length_range]
theorem lots_ok {n : Nat} {g : Nat → Str} (N : Nm n g) (T : Ht) (w : Int) : setOkT ((lotsS n g T w).map fun xs => PyData.tuple (xs.map .str)) = true :=
  setOkT_tups lots_ne (by have := N.hi; rw [lots_len]; omega)
theorem lots_map {n : Nat} {g : Nat → Str} {T : Ht} {w : Int} : ((lotsS n g T w).map fun xs => PyData.tuple (xs.map .str)) = (List.range n).map fun i => PyData.tuple (lD g (lotN n T w i)) := by
  unfold lotsS
  rw [List.map_map]
  rfl
section
variable {n : Nat} {g : Nat → Str} {h : Ht} {b : Bool} {w : Int}
theorem lot_sorted (N : Nm n g) (hs : Sym h) {x : Nat} (hx : x < n) (L : LG n (lot n h w x)) : sortD (lD g (lot n h w x)) = lD g (lotN n (fw h n) w x) := by
  have nd : ((lot n h w x).map g).Nodup := List.pairwise_map.mpr (L.nd.imp_of_mem fun {a c} ha hc q e => q (N.inj (L.lt a ha) (L.lt c hc) e))
  refine ascD_unique (sort_asc nd) ?_ fun z => ?_
  · unfold lD
    rw [AscD, List.pairwise_map, List.pairwise_map]
    have p : (lotN n (fw h n) w x).Pairwise (· < ·) := List.Pairwise.sublist List.filter_sublist List.pairwise_lt_range
    refine p.imp_of_mem fun {a c} ha hc q => ?_
    rw [lt_strs]
    exact N.asc a c q (lotN_mem.mp hc).1
  · rw [(sortD_perm _).mem_iff]
    unfold lD
    rw [List.mem_map, List.mem_map]
    have key : ∀ s : Str, s ∈ (lot n h w x).map g ↔ s ∈ (lotN n (fw h n) w x).map g := fun s => by
      rw [List.mem_map, List.mem_map]
      constructor
      · rintro ⟨y, hy, rfl⟩
        have hl := L.lt y hy
        exact ⟨y, lotN_mem.mpr ⟨hl, (fw_iff hs hx hl).mpr ((lot_iff hs hx).mp hy)⟩, rfl⟩
      · rintro ⟨y, hy, rfl⟩
        obtain ⟨hl, r⟩ := lotN_mem.mp hy
        exact ⟨y, (lot_iff hs hx).mpr ((fw_iff hs hx hl).mp r), rfl⟩
    constructor
    · rintro ⟨s, hs', rfl⟩; exact ⟨s, (key s).mp hs', rfl⟩
    · rintro ⟨s, hs', rfl⟩; exact ⟨s, (key s).mpr hs', rfl⟩
def cutB : MS := (sRet (mFn fTup (mCons (mOfL (mSortSetA (mOfL (mLc (iSeq (mVar 1)) [] [3] (gN 3) mYes (mCall (lotF) (mCons (mVar 0) (mCons (mVar 1) (mCons (mVar 2) (mCons (mVar 3) mNil))))))))) mNil)))
def cutF : FM := runD 3 4 cutB
theorem p_cut (N : Nm n g) (hs : Sym h) : cutF [.val (fdD b n g h), .val (.tuple (nmD n g)), .val (.int w)] none = some (.val (cutP n g (fw h n) w), none) := by
  have hn := N.hi
  have e := e_lcm (s := ⟨[some (.val (fdD b n g h)), some (.val (.tuple (nmD n g))), some (.val (.int w)), none], none⟩) (s1 := ⟨[some (.val (fdD b n g h)), some (.val (.tuple (nmD n g))), some (.val (.int w)), none], none⟩) (mi := iSeq (mVar 1)) (fz := []) (vs := [3]) (g := gN 3) (mt := mYes) (me := mCall (lotF) (mCons (mVar 0) (mCons (mVar 1) (mCons (mVar 2) (mCons (mVar 3) mNil))))) (xs := List.range n) (enc := fun i => .str (g i)) (p := fun _ => true) (f := fun i => PyData.tuple (lD g (lotN n (fw h n) w i)))
    (e_seqI rfl rfl) (fun i hi => by
      have hi' := List.mem_range.mp hi
      obtain ⟨e1, L⟩ := p_lot (b := b) (h := h) (w := w) N hi'
      rw [lot_sorted N hs hi' L] at e1
      exact st_yes2 (b := true) rfl rfl rfl (e_callV (e_cons rfl (e_cons rfl (e_cons rfl (e_cons rfl rfl)))) e1) rfl) (by rw [List.length_range]; omega)
  rw [filt_true, ← lots_map] at e
  exact e_run rfl (e_ret2 (e_fn (e_cons (e_ofL (e_ssT (e_ofL e) rfl (lots_ok N _ _))) rfl) rfl) rfl)
def nearIn : MA := (mLc (iSeq (mVar 4)) [] [6] (gN 6) (mOrT (mTst (mBin dEq (mVar 6) (mVar 5))) (mTst (mBin dGt (mDixN 3 (mCall (pairOfF) (mCons (mVar 5) (mCons (mVar 6) mNil)))) (mVar 1)))) (mVar 6))
def partB : MS := (sSeq (sAsg (mTup (mCons (mCall (lastF) (mCons (mVar 0) mNil)) (mCons (mCall (islandsF) (mCons (mVar 0) mNil)) mNil))) (gA 2 (gsCons (gN 3) (gsCons (gN 4) gsNil))))
  (sSeq (sSetD 2 (mDcm (iSeq (mVar 4)) [] [5] (gN 5) mYes (mVar 5) (mOfL nearIn)))
  (sRet (mCall (setOfF) (mCons (mOfL (mLc (iDic Prod.snd (mVar 2)) [] [7] (gN 7) mYes (mFn fTup (mCons (mVar 7) mNil)))) mNil)))))
def partF : FM := runD 2 8 partB
theorem eq_strs {x y : Str} (hx : PyData.canLay0 (.str x) = true) (hy : PyData.canLay0 (.str y) = true) : dEq (.str x) (.str y) = some (.bool (decide (x = y))) := by
  unfold dEq eqOk
  rw [shaped_str hx, shaped_str hy, if_pos (show (true && true) = true from rfl), PyData.eqv]
  by_cases c : x = y
  · subst c; simp
  · rw [decide_eq_false c, beq_eq_false_iff_ne.mpr c]
theorem near_ok (N : Nm n g) (hs : Sym h) {i : Nat} (hi : i < n) (s0 : Option SV) : nearIn ⟨[s0, some (.val (.int w)), none, some (.val (.dict (tb n g (fw h n)))), some (.val (.tuple (nmD n g))), some (.val (.str (g i))), none, none], none⟩ =
    some (lD g (lotN n (fw h n) w i), ⟨[s0, some (.val (.int w)), none, some (.val (.dict (tb n g (fw h n)))), some (.val (.tuple (nmD n g))), some (.val (.str (g i))), none, none], none⟩) := by
  have hn := N.hi
  have e := e_lcm (s := ⟨[s0, some (.val (.int w)), none, some (.val (.dict (tb n g (fw h n)))), some (.val (.tuple (nmD n g))), some (.val (.str (g i))), none, none], none⟩) (s1 := ⟨[s0, some (.val (.int w)), none, some (.val (.dict (tb n g (fw h n)))), some (.val (.tuple (nmD n g))), some (.val (.str (g i))), none, none], none⟩) (mi := iSeq (mVar 4)) (fz := []) (vs := [6]) (g := gN 6) (mt := mOrT (mTst (mBin dEq (mVar 6) (mVar 5))) (mTst (mBin dGt (mDixN 3 (mCall (pairOfF) (mCons (mVar 5) (mCons (mVar 6) mNil)))) (mVar 1)))) (me := mVar 6) (xs := List.range n) (enc := fun j => .str (g j)) (p := jn (fw h n) w i) (f := fun j => .str (g j))
    (e_seqI rfl rfl) (fun j hj => by
      have hj' := List.mem_range.mp hj
      have q := eq_strs (N.ok j hj') (N.ok i hi)
      have s := show blkSl [s0, some (SV.val (.int w)), none, some (.val (.dict (tb n g (fw h n)))), some (.val (.tuple (nmD n g))), some (.val (.str (g i))), none, none] [6] = blkSl [s0, some (SV.val (.int w)), none, some (.val (.dict (tb n g (fw h n)))), some (.val (.tuple (nmD n g))), some (.val (.str (g i))), none, none] [6] from rfl
      unfold jn
      by_cases c : j = i
      · subst c
        rw [decide_eq_true rfl] at q
        rw [decide_eq_true rfl, Bool.true_or]
        exact st_yes2 (b := true) rfl (e_orT (b := true) (e_tst (e_bin rfl rfl q)) rfl) rfl rfl rfl
      · have c' : ¬ g j = g i := fun z => c (N.inj hj' hi z)
        rw [decide_eq_false c'] at q
        rw [decide_eq_false c, Bool.false_or]
        have hin : (min i j, max i j) ∈ prs n := mem_prs.mpr ⟨by show min i j < max i j; omega, by show max i j < n; omega⟩
        have d1 := tb_at N (T := fw h n) hin
        have sy : fw h n (min i j) (max i j) = fw h n i j := by
          rcases Nat.lt_or_gt_of_ne c with z | z
          · rw [Nat.min_eq_right (by omega), Nat.max_eq_left (by omega)]; exact sym_fold _ hs j i
          · rw [Nat.min_eq_left (by omega), Nat.max_eq_right (by omega)]
        rw [show fw h n (min i j, max i j).1 (min i j, max i j).2 = fw h n i j from sy] at d1
        have kk : (noNone (prD false g (min i j, max i j)) && keyOk (prD false g (min i j, max i j))) = true := by rw [keyOk_pr] <;> rfl
        have t2 : dGt (.int (fw h n i j)) (.int w) = some (.bool (decide (w < fw h n i j))) := rfl
        cases hb : decide (w < fw h n i j) with
        | true =>
          rw [hb] at t2
          exact st_yes2 (b := true) rfl (e_orF (b := false) (e_tst (e_bin rfl rfl q)) rfl (e_tst (e_bin (e_dixN (e_callV (e_cons rfl (e_cons rfl rfl)) (p_pair N hi hj' fun z => c z.symm)) rfl kk d1) rfl t2))) rfl rfl rfl
        | false =>
          rw [hb] at t2
          exact st_no2 (b := false) rfl (e_orF (b := false) (e_tst (e_bin rfl rfl q)) rfl (e_tst (e_bin (e_dixN (e_callV (e_cons rfl (e_cons rfl rfl)) (p_pair N hi hj' fun z => c z.symm)) rfl kk d1) rfl t2))) rfl rfl) (by rw [List.length_range]; omega)
  have e2 : ((List.range n).filter (jn (fw h n) w i)).map (fun j => PyData.str (g j)) = lD g (lotN n (fw h n) w i) := by
    unfold lD lotN
    rw [List.map_map]
    rfl
  rw [e2] at e
  exact e
theorem near_go (N : Nm n g) (hs : Sym h) (s0 : Option SV) : ∀ (is acc : List Nat), (acc ++ is).Nodup → (∀ p ∈ acc ++ is, p < n) → (acc ++ is).length ≤ 66 →
    dcGo (gN 5) mYes (mVar 5) (mOfL nearIn) [s0, some (.val (.int w)), none, some (.val (.dict (tb n g (fw h n)))), some (.val (.tuple (nmD n g))), none, none, none] (is.map fun i => .str (g i)) (acc.map fun i => (PyData.str (g i), PyData.list (lD g (lotN n (fw h n) w i)))) none = some ((acc ++ is).map fun i => (PyData.str (g i), PyData.list (lD g (lotN n (fw h n) w i))), none)
  | [], acc, _, _, _ => by rw [List.append_nil]; rfl
  | p :: ps, acc, nd, hm, hl => by
    have hp : p < n := hm p (List.mem_append_right _ List.mem_cons_self)
    have e2 : mOfL nearIn ⟨[s0, some (.val (.int w)), none, some (.val (.dict (tb n g (fw h n)))), some (.val (.tuple (nmD n g))), some (.val (.str (g p))), none, none], none⟩ = some (.list (lD g (lotN n (fw h n) w p)), ⟨[s0, some (.val (.int w)), none, some (.val (.dict (tb n g (fw h n)))), some (.val (.tuple (nmD n g))), some (.val (.str (g p))), none, none], none⟩) := e_ofL (near_ok N hs hp s0)
    show (mOfL nearIn ⟨[s0, some (.val (.int w)), none, some (.val (.dict (tb n g (fw h n)))), some (.val (.tuple (nmD n g))), some (.val (.str (g p))), none, none], none⟩).bind _ = _
    rw [e2, Option.bind_some]
    have hl2 : acc.length ≤ 66 := by rw [List.length_append] at hl; omega
    have ok : okPut (acc.map fun i => (PyData.str (g i), PyData.list (lD g (lotN n (fw h n) w i)))) (.str (g p)) = true := by
      unfold okPut
      rw [List.length_map, decide_eq_true (sz_big (by omega))]
      have h1 : (acc.map fun i => (PyData.str (g i), PyData.list (lD g (lotN n (fw h n) w i)))).all (fun p => isAtm p.1) = true := by
        rw [List.all_eq_true]
        intro x hx
        obtain ⟨p, _, rfl⟩ := List.mem_map.mp hx
        rfl
      rw [h1]
      have h2 : keyOk (.str (g p)) = true := by unfold keyOk; rw [keyN]; rfl
      rw [h2]
      show ((_ || (true && true)) && true && true) = true
      simp
    show (if okPut _ (.str (g p)) = true then _ else none) = _
    rw [if_pos ok]
    have e3 : dPut (acc.map fun i => (PyData.str (g i), PyData.list (lD g (lotN n (fw h n) w i)))) (.str (g p)) (.list (lD g (lotN n (fw h n) w p))) = (acc ++ [p]).map fun i => (PyData.str (g i), PyData.list (lD g (lotN n (fw h n) w i))) := by
      unfold dPut
      rw [if_neg, List.map_append]
      · rfl
      · rw [List.any_eq_true]
        rintro ⟨x, hx, hk⟩
        obtain ⟨q, hq, rfl⟩ := List.mem_map.mp hx
        obtain ⟨_, _, hk'⟩ := eqK_iff.mp hk
        have := N.inj (hm q (List.mem_append_left _ hq)) hp (PyData.str.inj hk')
        subst this
        rw [List.nodup_append] at nd
        exact nd.2.2 q hq q List.mem_cons_self rfl
    show dcGo _ _ _ _ _ _ (dPut _ _ (.list (lD g (lotN n (fw h n) w p)))) _ = _
    rw [e3]
    have e4 : acc ++ p :: ps = (acc ++ [p]) ++ ps := by simp
    rw [e4] at nd hm hl ⊢
    exact near_go N hs s0 ps (acc ++ [p]) nd hm hl
theorem e_setDm {i : Nat} {mc : MDc} {s s1 : Stt} {kvs : List (Dt × Dt)} (h1 : mc s = some (kvs, s1)) : sSetD i mc s = some (.nx (put s1 i (.dic kvs))) := by
  unfold sSetD
  rw [h1] <;> rfl
theorem p_setT {L : List (List Str)} (hne : ∀ xs ∈ L, xs ≠ []) (hl : L.length < 64) : setOfF [.val (.list (L.map fun xs => PyData.tuple (xs.map .str)))] none = some (.val (.tuple (setD (L.map fun xs => PyData.tuple (xs.map .str)))), none) :=
  e_run rfl (e_ret2 (e_fn (e_cons (e_ofL (e_ssT (ds := L.map fun xs => PyData.tuple (xs.map .str)) rfl rfl (setOkT_tups hne hl))) rfl) rfl) rfl)
theorem p_part (N : Nm n g) (hs : Sym h) : partF [.val (fdD b n g h), .val (.int w)] none = some (.val (cutP n g (fw h n) w), none) := by
  have hn := N.hi
  have e0 := near_go (w := w) N hs (some (.val (fdD b n g h))) (List.range n) [] (by rw [List.nil_append]; exact List.nodup_range) (fun p hp => List.mem_range.mp (by simpa using hp)) (by simp; omega)
  rw [List.nil_append] at e0
  have e1 : mDcm (iSeq (mVar 4)) [] [5] (gN 5) mYes (mVar 5) (mOfL nearIn) ⟨[some (.val (fdD b n g h)), some (.val (.int w)), none, some (.val (.dict (tb n g (fw h n)))), some (.val (.tuple (nmD n g))), none, none, none], none⟩ =
      some ((List.range n).map fun i => (PyData.str (g i), PyData.list (lD g (lotN n (fw h n) w i))), ⟨[some (.val (fdD b n g h)), some (.val (.int w)), none, some (.val (.dict (tb n g (fw h n)))), some (.val (.tuple (nmD n g))), none, none, none], none⟩) := by
    unfold mDcm
    rw [e_seqI (ds := (List.range n).map fun i => PyData.str (g i)) rfl rfl, Option.bind_some]
    exact (congrArg (Option.map _) e0).trans rfl
  have nn : noNs ((List.range n).map fun i => (PyData.str (g i), PyData.list (lD g (lotN n (fw h n) w i)))) = true := by
    unfold noNs
    rw [List.all_eq_true]
    intro x hx
    obtain ⟨i, _, rfl⟩ := List.mem_map.mp hx
    rfl
  have e2 := e_lcm (s := ⟨[some (.val (fdD b n g h)), some (.val (.int w)), some (.dic ((List.range n).map fun i => (PyData.str (g i), PyData.list (lD g (lotN n (fw h n) w i))))), some (.val (.dict (tb n g (fw h n)))), some (.val (.tuple (nmD n g))), none, none, none], none⟩) (s1 := ⟨[some (.val (fdD b n g h)), some (.val (.int w)), some (.val (.dict ((List.range n).map fun i => (PyData.str (g i), PyData.list (lD g (lotN n (fw h n) w i)))))), some (.val (.dict (tb n g (fw h n)))), some (.val (.tuple (nmD n g))), none, none, none], none⟩) (mi := iDic Prod.snd (mVar 2)) (fz := []) (vs := [7]) (g := gN 7) (mt := mYes) (me := mFn fTup (mCons (mVar 7) mNil)) (xs := List.range n) (enc := fun i => PyData.list (lD g (lotN n (fw h n) w i))) (p := fun _ => true) (f := fun i => PyData.tuple (lD g (lotN n (fw h n) w i)))
    (by
      have := e_dic (f := Prod.snd) (m := mVar 2) (s := ⟨[some (.val (fdD b n g h)), some (.val (.int w)), some (.dic ((List.range n).map fun i => (PyData.str (g i), PyData.list (lD g (lotN n (fw h n) w i))))), some (.val (.dict (tb n g (fw h n)))), some (.val (.tuple (nmD n g))), none, none, none], none⟩) rfl nn
      rw [List.map_map] at this
      exact this) (fun i hi => st_yes2 (b := true) rfl rfl rfl (e_fn (e_cons rfl rfl) rfl) rfl) (by rw [List.length_range]; omega)
  rw [filt_true, ← lots_map] at e2
  exact e_run rfl (e_seq (e_asg (e_tup (e_cons (e_callDV (e_cons rfl rfl) (p_last N hs)) (e_cons (e_callV (e_cons rfl rfl) (p_islands N)) rfl)) (Nat.le_of_ble_eq_true rfl)) rfl) (e_seq (e_setDm e1) (e_ret2 (e_callV (e_cons (e_ofL e2) rfl) (p_setT lots_ne (by rw [lots_len]; omega))) rfl)))
def turnB : MS := (sRet (mCall (setOfF) (mCons (mOfL (mLc (iDic Prod.snd (mCall (lastF) (mCons (mVar 0) mNil))) [] [1] (gN 1) (mTst (mBin dGt (mVar 1) (mC (.int 0)))) (mVar 1))) mNil)))
def turnF : FM := runD 1 2 turnB
theorem no_tb (T : Ht) : noNs (tb n g T) = true := by
  unfold noNs
  rw [List.all_eq_true]
  intro x hx
  obtain ⟨i, _, rfl⟩ := List.mem_map.mp hx
  rfl
theorem p_setI {xs : List Int} (hl : xs.length < 4000) : setOfF [.val (.list (xs.map .int))] none = some (.val (.tuple (setD (xs.map .int))), none) :=
  e_run rfl (e_ret2 (e_fn (e_cons (e_ofL (e_ssK (ds := xs.map .int) rfl rfl (setOk_ints hl))) rfl) rfl) rfl)
def tops (n : Nat) (T : Ht) : List Int := ((prs n).map fun p => T p.1 p.2).filter fun v => decide (0 < v)
theorem p_turn (N : Nm n g) (hs : Sym h) : turnF [.val (fdD b n g h)] none = some (.val (.tuple (setD ((tops n (fw h n)).map .int))), none) := by
  have hp := prs_len N.hi
  have e2 := e_lcm (s := ⟨[some (.val (fdD b n g h)), none], none⟩) (s1 := ⟨[some (.val (fdD b n g h)), none], none⟩) (mi := iDic Prod.snd (mCall (lastF) (mCons (mVar 0) mNil))) (fz := []) (vs := [1]) (g := gN 1) (mt := mTst (mBin dGt (mVar 1) (mC (.int 0)))) (me := mVar 1) (xs := (prs n).map fun p => fw h n p.1 p.2) (enc := PyData.int) (p := fun v => decide (0 < v)) (f := PyData.int)
    (by
      have := e_dic (f := Prod.snd) (m := mCall (lastF) (mCons (mVar 0) mNil)) (s := ⟨[some (.val (fdD b n g h)), none], none⟩) (kvs := tb n g (fw h n)) (e_callDV (e_cons rfl rfl) (p_last N hs)) (no_tb _)
      unfold tb at this
      rw [List.map_map] at this
      rw [List.map_map]
      exact this) (fun v hv => by
        have t2 : dGt (.int v) (.int 0) = some (.bool (decide (0 < v))) := rfl
        cases hb : decide (0 < v) with
        | true => rw [hb] at t2; exact st_yes2 (b := true) rfl (e_tst (e_bin rfl rfl t2)) rfl rfl rfl
        | false => rw [hb] at t2; exact st_no2 (b := false) rfl (e_tst (e_bin rfl rfl t2)) rfl rfl) (by rw [List.length_map]; omega)
  refine e_run rfl (e_ret2 (e_callV (e_cons (e_ofL e2) rfl) (p_setI (xs := tops n (fw h n)) ?_)) rfl)
  unfold tops
  have := List.length_filter_le (fun v : Int => decide (0 < v)) ((prs n).map fun p => fw h n p.1 p.2)
  rw [List.length_map] at this
  omega
end
end FD
set_option Elab.async false
set_option linter.all false
set_option maxRecDepth 100000
set_option maxHeartbeats 4000000
namespace DT
open PySem PySem.Spec PyProof.Rows L2 DL FD
open PySem.W (dataLt alike alikeAll AllAlike)
theorem q_same : ∀ k, m__law_same k = sameF k
  | 0 => rfl
  | k + 1 => by
    show runD 2 4 (b__law_same (m__law_same k)) = runD 2 4 _
    rw [q_same k]
    rfl
theorem q_lists : ∀ k, m__law_lists k = listsF k
  | 0 => rfl
  | k + 1 => by
    show runD 1 2 (b__law_lists (m__law_lists k)) = runD 1 2 _
    rw [q_lists k]
    rfl
section
variable {n : Nat} {g : Nat → Str} {h : Ht} {b : Bool} {w v : Int}
theorem lD_inj (N : Nm n g) : ∀ {l m : List Nat}, (∀ x ∈ l, x < n) → (∀ x ∈ m, x < n) → lD g l = lD g m → l = m
  | [], [], _, _, _ => rfl
  | [], _ :: _, _, _, e => by simp [lD] at e
  | _ :: _, [], _, _, e => by simp [lD] at e
  | x :: l, y :: m, hl, hm, e => by
    have e' : PyData.str (g x) :: lD g l = PyData.str (g y) :: lD g m := e
    obtain ⟨e1, e2⟩ := List.cons.inj e'
    rw [N.inj (hl x List.mem_cons_self) (hm y List.mem_cons_self) (PyData.str.inj e1), lD_inj N (fun z hz => hl z (List.mem_cons_of_mem _ hz)) (fun z hz => hm z (List.mem_cons_of_mem _ hz)) e2]
theorem R_tr (hs : Sym h) {i j k : Nat} (hi : i < n) (hj : j < n) (hk : k < n) (a : R (fw h n) w k i) (c : R (fw h n) w k j) : R (fw h n) w i j := by
  have a' := a.symm (sym_fold _ hs)
  exact (fw_iff hs hi hj).mpr (((fw_iff hs hi hk).mp a').trans ((fw_iff hs hk hj).mp c))
theorem cut_mem {T : Ht} {d : Dt} : d ∈ cutPs n g T w ↔ ∃ i, i < n ∧ d = .tuple (lD g (lotN n T w i)) := by
  unfold cutPs
  rw [setD_mem all_tups, lots_map, List.mem_map]
  exact ⟨fun ⟨i, hi, e⟩ => ⟨i, List.mem_range.mp hi, e.symm⟩, fun ⟨i, hi, e⟩ => ⟨i, List.mem_range.mpr hi, e.symm⟩⟩
theorem cut_ne (N : Nm n g) (hs : Sym h) (hvw : v ≤ w) : cutP n g (fw h n) w ≠ cutP n g (fw h n) v ↔ ∃ p ∈ prs n, v < fw h n p.1 p.2 ∧ fw h n p.1 p.2 ≤ w := by
  constructor
  · intro hne
    refine Classical.byContradiction fun no => hne ?_
    have same : ∀ i j, i < n → j < n → jn (fw h n) w i j = jn (fw h n) v i j := fun i j hi hj => by
      unfold jn
      by_cases c : j = i
      · rw [decide_eq_true c, Bool.true_or, Bool.true_or]
      · have hin : (min i j, max i j) ∈ prs n := mem_prs.mpr ⟨by show min i j < max i j; omega, by show max i j < n; omega⟩
        have sy : fw h n (min i j) (max i j) = fw h n i j := by
          rcases Nat.lt_or_gt_of_ne c with z | z
          · rw [Nat.min_eq_right (by omega), Nat.max_eq_left (by omega)]; exact sym_fold _ hs j i
          · rw [Nat.min_eq_left (by omega), Nat.max_eq_right (by omega)]
        have q : ¬ (v < fw h n i j ∧ fw h n i j ≤ w) := fun q => no ⟨_, hin, by
          rw [show fw h n (min i j, max i j).1 (min i j, max i j).2 = fw h n i j from sy]
          exact q⟩
        rw [decide_eq_false c, Bool.false_or, Bool.false_or]
        refine decide_eq_decide.mpr ?_
        omega
    have hl : lotsS n g (fw h n) w = lotsS n g (fw h n) v := List.map_congr_left fun i hi => by
      unfold lotS lotN
      congr 1
      exact List.filter_congr fun j hj => same i j (List.mem_range.mp hi) (List.mem_range.mp hj)
    unfold cutP cutPs
    rw [hl]
  · rintro ⟨p, hp, h1, h2⟩ e
    obtain ⟨q1, q2⟩ := mem_prs.mp hp
    have hi : p.1 < n := by omega
    have el : cutPs n g (fw h n) w = cutPs n g (fw h n) v := PyData.tuple.inj e
    have hm : PyData.tuple (lD g (lotN n (fw h n) v p.1)) ∈ cutPs n g (fw h n) v := cut_mem.mpr ⟨_, hi, rfl⟩
    rw [← el] at hm
    obtain ⟨k, hk, ek⟩ := cut_mem.mp hm
    have ek' := lD_inj N (fun x hx => (lotN_mem.mp hx).1) (fun x hx => (lotN_mem.mp hx).1) (PyData.tuple.inj ek)
    have m1 : p.1 ∈ lotN n (fw h n) v p.1 := lotN_mem.mpr ⟨hi, .inl rfl⟩
    have m2 : p.2 ∈ lotN n (fw h n) v p.1 := lotN_mem.mpr ⟨q2, .inr h1⟩
    rw [ek'] at m1 m2
    rcases R_tr hs hi q2 hk (lotN_mem.mp m1).2 (lotN_mem.mp m2).2 with z | z
    · omega
    · omega
theorem cut_alike (T T' : Ht) : alike (cutP n g T w) (cutP n g T' v) = true := by
  unfold cutP
  rw [alike]
  refine alikeAll_of fun x hx y hy => ?_
  obtain ⟨i, _, rfl⟩ := cut_mem.mp hx
  obtain ⟨j, _, rfl⟩ := cut_mem.mp hy
  exact alike_strs _ _
theorem cut_len (N : Nm n g) (T : Ht) : (cutPs n g T w).length ≤ 12 := by
  have go : ∀ l : List Dt, (setD l).length ≤ l.length := by
    have ins : ∀ (x : Dt) (l : List Dt), (insD x l).length ≤ l.length + 1 := fun x l => by
      induction l with
      | nil => simp [insD]
      | cons y r ih =>
        unfold insD
        split
        · simp
        · split
          · rw [List.length_cons, List.length_cons]; omega
          · simp
    intro l
    induction l with
    | nil => simp [setD]
    | cons x l ih =>
      show (insD x (setD l)).length ≤ _
      have := ins x (setD l)
      rw [List.length_cons]
      omega
  have := go ((lotsS n g T w).map fun xs => PyData.tuple (xs.map .str))
  rw [List.length_map, lots_len] at this
  have := N.hi
  show (setD _).length ≤ 12
  omega
theorem lot_lay (N : Nm n g) (T : Ht) (i : Nat) : PyData.canLay0 (.tuple (lD g (lotN n T w i))) = true ∧ PyData.depth (.tuple (lD g (lotN n T w i))) ≤ 1 := by
  have h1 := lay_all (xs := (lotN n T w i).map g) (fun x hx => by
    obtain ⟨j, hj, rfl⟩ := List.mem_map.mp hx
    exact N.ok j (lotN_mem.mp hj).1)
  constructor
  · rw [PyData.canLay0]; exact h1.1
  · rw [PyData.depth]; exact Nat.le_of_eq (congrArg (· + 1) h1.2)
theorem cut_shaped (N : Nm n g) (T : Ht) : SeqAt.shaped (cutP n g T w) = true := by
  have := shaped_sq (b := false) (f := fun d : Dt => d) (xs := cutPs n g T w) (fun d hd => by
    obtain ⟨i, _, rfl⟩ := cut_mem.mp hd
    have := lot_lay (w := w) N T i
    exact ⟨this.1, by omega⟩)
  rw [List.map_id'] at this
  exact this
theorem cut_sok (N : Nm n g) (T : Ht) (k : Nat) : SOk (k + 3) (cutP n g T w) := by
  refine ⟨by have := cut_len (w := w) N T; omega, fun x hx => ?_⟩
  obtain ⟨i, _, rfl⟩ := cut_mem.mp hx
  refine ⟨?_, fun y hy => ?_⟩
  · unfold lD
    have := List.length_filter_le (jn T w i) (List.range n)
    rw [List.length_range] at this
    have := N.hi
    rw [List.length_map, List.length_map]
    unfold lotN
    omega
  · unfold lD at hy
    obtain ⟨x, hx, rfl⟩ := List.mem_map.mp hy
    obtain ⟨j, hj, rfl⟩ := List.mem_map.mp hx
    exact shaped_str (N.ok j (lotN_mem.mp hj).1)
def neC (n : Nat) (g : Nat → Str) (T : Ht) (w v : Int) : Bool := !PyData.eqv (cutP n g T w) (cutP n g T v)
theorem neC_iff {T : Ht} : neC n g T w v = true ↔ cutP n g T w ≠ cutP n g T v := by
  have := eqv_alike (cut_alike (n := n) (g := g) (w := w) (v := v) T T)
  unfold neC
  rw [Bool.not_eq_true']
  exact ⟨fun e z => Bool.false_ne_true (e.symm.trans (this.mpr z)), fun z => Bool.eq_false_iff.mpr fun e => z (this.mp e)⟩
theorem cut_dne (N : Nm n g) (T : Ht) : dNe (cutP n g T w) (cutP n g T v) = some (.bool (neC n g T w v)) := by
  unfold dNe eqOk
  rw [cut_shaped N, cut_shaped N, if_pos (show (true && true) = true from rfl)]
  rfl
def chg (n : Nat) (g : Nat → Str) (T : Ht) : Option Int → List Int → List Int
  | _, [] => []
  | none, w :: ms => chg n g T (some w) ms
  | some v, w :: ms => (if neC n g T w v then [w] else []) ++ chg n g T (some w) ms
theorem chg_filter (N : Nm n g) (hs : Sym h) : ∀ (ms : List Int) (v : Int), (v :: ms).Pairwise (· < ·) → (∀ p ∈ prs n, v < fw h n p.1 p.2 → fw h n p.1 p.2 ∈ ms) → chg n g (fw h n) (some v) ms = ms.filter fun w => decide (∃ p ∈ prs n, fw h n p.1 p.2 = w)
  | [], _, _, _ => rfl
  | w :: ms, v, asc, hin => by
    have a1 := List.pairwise_cons.mp asc
    have a2 := List.pairwise_cons.mp a1.2
    have hvw : v < w := a1.1 w List.mem_cons_self
    have key : neC n g (fw h n) w v = true ↔ ∃ p ∈ prs n, fw h n p.1 p.2 = w := by
      rw [neC_iff, cut_ne N hs (by omega)]
      constructor
      · rintro ⟨p, hp, h1, h2⟩
        rcases List.mem_cons.mp (hin p hp h1) with e | e
        · exact ⟨p, hp, e⟩
        · have := a2.1 _ e; omega
      · rintro ⟨p, hp, e⟩
        exact ⟨p, hp, by omega, by omega⟩
    have ih := chg_filter N hs ms w a1.2 fun p hp q => by
      rcases List.mem_cons.mp (hin p hp (by omega)) with e | e
      · omega
      · exact e
    show (if neC n g (fw h n) w v = true then [w] else []) ++ _ = _
    rw [ih, List.filter_cons]
    by_cases c : ∃ p ∈ prs n, fw h n p.1 p.2 = w
    · rw [if_pos (key.mpr c), if_pos (decide_eq_true c)]
      rfl
    · rw [if_neg (fun z => c (key.mp z)), if_neg (by rw [decide_eq_false c]; exact Bool.false_ne_true)]
      rfl
theorem fw_in (hs : Sym h) : ∀ o ∈ prs n, ∃ p ∈ prs n, fw h n o.1 o.2 = h p.1 p.2 := fun o ho => by
  obtain ⟨h1, h2⟩ := mem_prs.mp ho
  obtain ⟨a, c, ha, hc, hac, e⟩ := fw_mem (n := n) (h := h) (i := o.1) (j := o.2) (by omega) h2 (by omega)
  rcases Nat.lt_or_gt_of_ne hac with q | q
  · exact ⟨(a, c), mem_prs.mpr ⟨q, hc⟩, e⟩
  · exact ⟨(c, a), mem_prs.mpr ⟨q, ha⟩, by rw [e, hs]⟩
theorem chg_tops (N : Nm n g) (hs : Sym h) (hnn : ∀ i j, i < n → j < n → i ≠ j → 0 ≤ h i j) {ms : List Int} (asc : ms.Pairwise (· < ·)) (mm : ∀ z, z ∈ ms ↔ z = 0 ∨ ∃ p ∈ prs n, z ∈ tw (h p.1 p.2)) : (chg n g (fw h n) none ms).map PyData.int = setD ((tops n (fw h n)).map .int) := by
  have hz : ∀ z ∈ ms, 0 ≤ z := fun z hz => by
    rcases (mm z).mp hz with e | ⟨p, hp, q⟩
    · omega
    · obtain ⟨h1, h2⟩ := mem_prs.mp hp
      have := hnn p.1 p.2 (by omega) h2 (by omega)
      unfold tw at q
      simp only [List.mem_cons, List.not_mem_nil, or_false] at q
      omega
  obtain ⟨r, rfl⟩ := asc_first asc ((mm 0).mpr (.inl rfl)) hz
  have a1 := List.pairwise_cons.mp asc
  have e1 := chg_filter N hs r 0 asc fun p hp q => by
    obtain ⟨o, ho, e⟩ := fw_in hs p hp
    have : fw h n p.1 p.2 ∈ (0 : Int) :: r := (mm _).mpr (.inr ⟨o, ho, by rw [e]; exact List.mem_cons_self⟩)
    rcases List.mem_cons.mp this with z | z
    · omega
    · exact z
  show (chg n g (fw h n) (some 0) r).map PyData.int = _
  rw [e1]
  refine ascD_unique ?_ (setD_asc all_ints) fun z => ?_
  · rw [AscD, List.pairwise_map]
    refine (List.Pairwise.sublist List.filter_sublist a1.2).imp fun {a c} q => ?_
    rw [PySem.W.dataLt_int]
    exact decide_eq_true q
  · rw [setD_mem all_ints, List.mem_map, List.mem_map]
    have key : ∀ x, x ∈ r.filter (fun w => decide (∃ p ∈ prs n, fw h n p.1 p.2 = w)) ↔ x ∈ tops n (fw h n) := fun x => by
      unfold tops
      rw [List.mem_filter, List.mem_filter, List.mem_map, decide_eq_true_eq, decide_eq_true_eq]
      constructor
      · rintro ⟨hx, p, hp, e⟩
        exact ⟨⟨p, hp, e⟩, a1.1 x hx⟩
      · rintro ⟨⟨p, hp, e⟩, hx⟩
        obtain ⟨o, ho, e2⟩ := fw_in hs p hp
        have : x ∈ (0 : Int) :: r := (mm _).mpr (.inr ⟨o, ho, by rw [← e, e2]; exact List.mem_cons_self⟩)
        rcases List.mem_cons.mp this with z | z
        · omega
        · exact ⟨z, p, hp, e⟩
    constructor
    · rintro ⟨x, hx, rfl⟩; exact ⟨x, (key x).mp hx, rfl⟩
    · rintro ⟨x, hx, rfl⟩; exact ⟨x, (key x).mpr hx, rfl⟩
end
end DT
set_option Elab.async false
set_option linter.all false
set_option maxRecDepth 100000
set_option maxHeartbeats 4000000
namespace DT
open PySem PySem.Spec PyProof.Rows L2 DL FD
section
variable {n : Nat} {g : Nat → Str} {h : Ht}
def caseIn : MS := (sSeq (sAsg (mCall (m__law_cut) (mCons (mVar 1) (mCons (mVar 0) (mCons (mVar 7) mNil)))) (gN 8))
  (sSeq (sAsg (mOfL (mLst (mCons (mCall (m_parting_at) (mCons (mVar 1) (mCons (mVar 7) mNil))) (mCons (mCall (m_parting_at) (mCons (mVar 3) (mCons (mVar 7) mNil))) (mCons (mCallK (m_parting_at) 0 2 [1, 0] mNil (mCons (mVar 7) (mCons (mVar 3) mNil))) mNil))))) (gN 2))
  (sSeq (sIf (mNotT (mTru (mCall (m__law_same 9) (mCons (mVar 2) (mCons (mOfL (mRepL (mLst (mCons (mVar 8) mNil)) (mC (.int 3)))) mNil))))) (sRet (mC (.bool false))) sNil)
  (sIf (mAndT (mTst (mBin dGt (mVar 6) (mC (.int 0)))) (mTst (mBin dNe (mVar 8) (mCall (m__law_cut) (mCons (mVar 1) (mCons (mVar 0) (mCons (mIxN 4 (mBin dSub (mVar 6) (mC (.int 1)))) mNil))))))) (sApp 5 (mVar 7)) sNil))))
abbrev G67 : MG := gA 2 (gsCons (gN 6) (gsCons (gN 7) gsNil))
abbrev SC (n : Nat) (g : Nat → Str) (h : Ht) (ms : List Int) (s2 : Option SV) (fs : List Int) (s6 s7 s8 : Option SV) : Stt := ⟨[some (.val (.tuple (nmD n g))), some (.val (fdD false n g h)), s2, some (.val (fdD true n g h)), some (.val (.list (ms.map .int))), some (.own (fs.map .int)), s6, s7, s8], none⟩
theorem same3 (N : Nm n g) (T : Ht) (w : Int) : m__law_same 9 [.val (.list [cutP n g T w, cutP n g T w, cutP n g T w]), .val (.list [cutP n g T w, cutP n g T w, cutP n g T w])] none = some (.val (.bool true), none) := by
  rw [q_same]
  refine same_ok 9 _ ⟨Nat.le_of_ble_eq_true rfl, fun x hx => ?_⟩
  simp only [List.mem_cons, List.not_mem_nil, or_false] at hx
  rcases hx with rfl | rfl | rfl <;> exact cut_sok N T 5
def stC (n : Nat) (g : Nat → Str) (T : Ht) (w : Int) : Option Int → List Int
  | some v => if neC n g T w v then [w] else []
  | none => []
theorem case_one (N : Nm n g) (hs : Sym h) {ms fs : List Int} {k : Nat} {w : Int} {pv : Option Int} (hpv : (k = 0 ∧ pv = none) ∨ ∃ v, 0 < k ∧ pv = some v ∧ dIx (.list (ms.map .int)) (.int ((k : Int) - 1)) = some (.int v)) (hf : fs.length < 1000) (s2 s8 : Option SV) :
    ∃ t2 t8, caseIn (SC n g h ms s2 fs (some (.val (.int (k : Int)))) (some (.val (.int w))) s8) = some (.nx (SC n g h ms t2 (fs ++ stC n g (fw h n) w pv) (some (.val (.int (k : Int)))) (some (.val (.int w))) t8)) := by
  have c1 : m__law_cut [.val (fdD false n g h), .val (.tuple (nmD n g)), .val (.int w)] none = some (.val (cutP n g (fw h n) w), none) := p_cut N hs
  have a1 : m_parting_at [.val (fdD false n g h), .val (.int w)] none = some (.val (cutP n g (fw h n) w), none) := p_part N hs
  have a2 : m_parting_at [.val (fdD true n g h), .val (.int w)] none = some (.val (cutP n g (fw h n) w), none) := p_part N hs
  refine ⟨some (.val (.list [cutP n g (fw h n) w, cutP n g (fw h n) w, cutP n g (fw h n) w])), some (.val (cutP n g (fw h n) w)), ?_⟩
  refine e_seq (s1 := SC n g h ms s2 fs (some (.val (.int (k : Int)))) (some (.val (.int w))) (some (.val (cutP n g (fw h n) w)))) (e_asg (e_callV (e_cons rfl (e_cons rfl (e_cons rfl rfl))) c1) rfl) ?_
  have a3 : mCallK (m_parting_at) 0 2 [1, 0] mNil (mCons (mVar 7) (mCons (mVar 3) mNil)) (SC n g h ms s2 fs (some (.val (.int (k : Int)))) (some (.val (.int w))) (some (.val (cutP n g (fw h n) w)))) = some (cutP n g (fw h n) w, SC n g h ms s2 fs (some (.val (.int (k : Int)))) (some (.val (.int w))) (some (.val (cutP n g (fw h n) w)))) := e_callK (r := .val (cutP n g (fw h n) w)) rfl (e_cons rfl (e_cons rfl rfl)) a2
  refine e_seq (s1 := SC n g h ms (some (.val (.list [cutP n g (fw h n) w, cutP n g (fw h n) w, cutP n g (fw h n) w]))) fs (some (.val (.int (k : Int)))) (some (.val (.int w))) (some (.val (cutP n g (fw h n) w)))) (e_asg (e_ofL (e_lst (e_cons (e_callV (e_cons rfl (e_cons rfl rfl)) a1) (e_cons (e_callV (e_cons rfl (e_cons rfl rfl)) a2) (e_cons a3 rfl))) (Nat.le_of_ble_eq_true rfl))) rfl) ?_
  have f0 : mTru (mCall (m__law_same 9) (mCons (mVar 2) (mCons (mOfL (mRepL (mLst (mCons (mVar 8) mNil)) (mC (.int 3)))) mNil))) (SC n g h ms (some (.val (.list [cutP n g (fw h n) w, cutP n g (fw h n) w, cutP n g (fw h n) w]))) fs (some (.val (.int (k : Int)))) (some (.val (.int w))) (some (.val (cutP n g (fw h n) w)))) = some (true, SC n g h ms (some (.val (.list [cutP n g (fw h n) w, cutP n g (fw h n) w, cutP n g (fw h n) w]))) fs (some (.val (.int (k : Int)))) (some (.val (.int w))) (some (.val (cutP n g (fw h n) w)))) :=
    e_tru (e_callV (ds := [.list [cutP n g (fw h n) w, cutP n g (fw h n) w, cutP n g (fw h n) w], .list [cutP n g (fw h n) w, cutP n g (fw h n) w, cutP n g (fw h n) w]]) (e_cons rfl (e_cons rfl rfl)) (same3 N _ w)) rfl
  refine e_seq (e_sifF (b := false) (e_notT (b := true) f0) rfl rfl) ?_
  rcases hpv with ⟨rfl, rfl⟩ | ⟨v, hk, rfl, hix⟩
  · show _ = some (Fl.nx (SC n g h ms _ (fs ++ []) _ _ _))
    rw [List.append_nil]
    exact e_sifF (b := false) (e_andF (b := false) rfl rfl) rfl rfl
  · have c2 : m__law_cut [.val (fdD false n g h), .val (.tuple (nmD n g)), .val (.int v)] none = some (.val (cutP n g (fw h n) v), none) := p_cut N hs
    have t0 : mTst (mBin dGt (mVar 6) (mC (.int 0))) (SC n g h ms (some (.val (.list [cutP n g (fw h n) w, cutP n g (fw h n) w, cutP n g (fw h n) w]))) fs (some (.val (.int (k : Int)))) (some (.val (.int w))) (some (.val (cutP n g (fw h n) w)))) = some (true, SC n g h ms (some (.val (.list [cutP n g (fw h n) w, cutP n g (fw h n) w, cutP n g (fw h n) w]))) fs (some (.val (.int (k : Int)))) (some (.val (.int w))) (some (.val (cutP n g (fw h n) w)))) := e_tst (e_bin (f := dGt) (z := .bool true) rfl rfl (by
      show some (PyData.bool (decide ((0 : Int) < (k : Int)))) = _
      rw [decide_eq_true (by omega)]))
    have t1 := e_bin (f := dNe) (ma := mVar 8) (mb := mCall (m__law_cut) (mCons (mVar 1) (mCons (mVar 0) (mCons (mIxN 4 (mBin dSub (mVar 6) (mC (.int 1)))) mNil)))) (s := SC n g h ms (some (.val (.list [cutP n g (fw h n) w, cutP n g (fw h n) w, cutP n g (fw h n) w]))) fs (some (.val (.int (k : Int)))) (some (.val (.int w))) (some (.val (cutP n g (fw h n) w)))) rfl (e_callV (e_cons rfl (e_cons rfl (e_cons (e_ixN (e_bin rfl rfl rfl) rfl hix) rfl))) c2) (cut_dne N _)
    cases q : neC n g (fw h n) w v with
    | true =>
      rw [q] at t1
      have q' : stC n g (fw h n) w (some v) = [w] := by show (if neC n g (fw h n) w v = true then [w] else []) = _; rw [q]; rfl
      rw [q']
      show _ = some (Fl.nx ⟨[_, _, _, _, _, some (.own ((fs ++ [w]).map .int)), _, _, _], _⟩)
      rw [List.map_append]
      exact e_sifT (b := true) (e_andT (b := true) t0 rfl (e_tst t1)) rfl (e_app (i := 5) (m := mVar 7) (d := .int w) (s := SC n g h ms (some (.val (.list [cutP n g (fw h n) w, cutP n g (fw h n) w, cutP n g (fw h n) w]))) fs (some (.val (.int (k : Int)))) (some (.val (.int w))) (some (.val (cutP n g (fw h n) w)))) (s1 := SC n g h ms (some (.val (.list [cutP n g (fw h n) w, cutP n g (fw h n) w, cutP n g (fw h n) w]))) fs (some (.val (.int (k : Int)))) (some (.val (.int w))) (some (.val (cutP n g (fw h n) w)))) (es := fs.map .int) (ds := fs.map .int) rfl rfl rfl (by rw [List.length_map]; omega))
    | false =>
      rw [q] at t1
      have q' : stC n g (fw h n) w (some v) = [] := by show (if neC n g (fw h n) w v = true then [w] else []) = _; rw [q]; rfl
      rw [q', List.append_nil]
      exact e_sifF (b := false) (e_andT (b := true) t0 rfl (e_tst t1)) rfl rfl
theorem case_go (N : Nm n g) (hs : Sym h) : ∀ (ms pre fs : List Int), fs.length + ms.length < 1000 → ∀ s2 s6 s7 s8 : Option SV, ∃ t2 t6 t7 t8 : Option SV,
    forGo G67 caseIn (enumD pre.length (ms.map .int)) (SC n g h (pre ++ ms) s2 fs s6 s7 s8) = some (.nx (SC n g h (pre ++ ms) t2 (fs ++ chg n g (fw h n) pre.getLast? ms) t6 t7 t8))
  | [], pre, fs, _, s2, s6, s7, s8 => ⟨s2, s6, s7, s8, by
      have : chg n g (fw h n) pre.getLast? [] = [] := by cases pre.getLast? <;> rfl
      rw [this, List.append_nil, List.append_nil]
      rfl⟩
  | w :: ms, pre, fs, hl, s2, s6, s7, s8 => by
    rw [List.length_cons] at hl
    have hpv : (pre.length = 0 ∧ pre.getLast? = none) ∨ ∃ v, 0 < pre.length ∧ pre.getLast? = some v ∧ dIx (.list ((pre ++ w :: ms).map .int)) (.int ((pre.length : Int) - 1)) = some (.int v) := by
      rcases List.eq_nil_or_concat pre with rfl | ⟨p, v, rfl⟩
      · exact .inl ⟨rfl, rfl⟩
      · refine .inr ⟨v, by simp, by simp, ?_⟩
        have e : (((p.concat v).length : Nat) : Int) - 1 = ((p.length : Nat) : Int) := by simp
        rw [e]
        refine at_nat ?_
        rw [List.getElem?_map]
        simp
    obtain ⟨t2, t8, e1⟩ := case_one N hs (ms := pre ++ w :: ms) (w := w) hpv (by omega : fs.length < 1000) s2 s8
    have hx : ∀ o : Option Int, stC n g (fw h n) w o ++ chg n g (fw h n) (some w) ms = chg n g (fw h n) o (w :: ms) := fun o => by cases o <;> rfl
    have hlen : (fs ++ stC n g (fw h n) w pre.getLast?).length ≤ fs.length + 1 := by
      rw [List.length_append]
      cases pre.getLast? with
      | none => simp [stC]
      | some v => show fs.length + (if neC n g (fw h n) w v = true then [w] else []).length ≤ _; split <;> simp
    obtain ⟨r2, r6, r7, r8, e2⟩ := case_go N hs ms (pre ++ [w]) (fs ++ stC n g (fw h n) w pre.getLast?) (by omega) t2 (some (.val (.int (pre.length : Int)))) (some (.val (.int w))) t8
    rw [List.getLast?_concat, List.append_assoc fs, hx, List.length_append, List.append_assoc pre] at e2
    have e2 : forGo G67 caseIn (enumD (pre.length + 1) (List.map PyData.int ms)) (SC n g h (pre ++ w :: ms) t2 (fs ++ stC n g (fw h n) w pre.getLast?) (some (.val (.int (pre.length : Int)))) (some (.val (.int w))) t8) = some (.nx (SC n g h (pre ++ w :: ms) r2 (fs ++ chg n g (fw h n) pre.getLast? (w :: ms)) r6 r7 r8)) := e2
    exact ⟨r2, r6, r7, r8, for_step (s1 := SC n g h (pre ++ w :: ms) s2 fs (some (.val (.int (pre.length : Int)))) (some (.val (.int w))) s8) rfl e1 e2⟩
theorem p_case (N : Nm n g) (hs : Sym h) (hnn : ∀ i j, i < n → j < n → i ≠ j → 0 ≤ h i j) : m__law_case_right [.val (.tuple (nmD n g)), .val (fdD false n g h)] none = some (.val (.bool true), none) := by
  obtain ⟨ms, e1, asc, mm⟩ := p_turns (b := false) (h := h) N
  have hml := turns_len N asc mm
  have e2 : m__law_turns [.val (fdD false n g h)] none = some (.new (ms.map .int), none) := e1
  have l1 : m__law_lists 9 [.val (fdD false n g h)] none = some (.val (fdD true n g h), none) := by rw [q_lists]; exact l_fd 5 false N.hi g h
  obtain ⟨t2, t6, t7, t8, e3⟩ := case_go N hs ms [] [] (by simp; omega) none none none none
  have e3 : forGo G67 caseIn (enumD 0 (ms.map .int)) (SC n g h ms none [] none none none) = some (.nx (SC n g h ms t2 (chg n g (fw h n) none ms) t6 t7 t8)) := e3
  have ct := chg_tops N hs hnn asc mm
  have b1 : m_turning_waters [.val (fdD false n g h)] none = some (.val (.tuple ((chg n g (fw h n) none ms).map .int)), none) := by rw [ct]; exact p_turn N hs
  have b2 : m_turning_waters [.val (fdD true n g h)] none = some (.val (.tuple ((chg n g (fw h n) none ms).map .int)), none) := by rw [ct]; exact p_turn N hs
  have hcl : (chg n g (fw h n) none ms).length ≤ 66 := by
    have h1 := congrArg List.length ct
    rw [List.length_map] at h1
    rw [h1]
    obtain ⟨xs, ex, ax, mx⟩ := set_ints (tops n (fw h n))
    rw [ex, List.length_map]
    have := sub_len (asc_nd ax) fun x hx => (mx x).mp hx
    have h2 := List.length_filter_le (fun v : Int => decide (0 < v)) ((prs n).map fun p => fw h n p.1 p.2)
    rw [List.length_map] at h2
    have h3 := prs_len N.hi
    unfold tops at this
    omega
  generalize chg n g (fw h n) none ms = F at *
  have sm : m__law_same 9 [.val (.list [.tuple (F.map .int), .tuple (F.map .int), .tuple (F.map .int)]), .val (.list [.tuple (F.map .int), .tuple (F.map .int), .tuple (F.map .int)])] none = some (.val (.bool true), none) := by
    rw [q_same]
    refine same_ok 9 _ ⟨Nat.le_of_ble_eq_true rfl, fun x hx => ?_⟩
    have hx' : x = .tuple (F.map .int) := by
      simp only [List.mem_cons, List.not_mem_nil, or_false] at hx
      rcases hx with rfl | rfl | rfl <;> rfl
    subst hx'
    refine ⟨by rw [List.length_map]; omega, fun y hy => ?_⟩
    obtain ⟨z, _, rfl⟩ := List.mem_map.mp hy
    exact trivial
  have k1 : mCallK (m_turning_waters) 0 1 [0] mNil (mCons (mVar 3) mNil) (SC n g h ms t2 F t6 t7 t8) = some (.tuple (F.map .int), SC n g h ms t2 F t6 t7 t8) := e_callK (r := .val (.tuple (F.map .int))) rfl (e_cons rfl rfl) b2
  have f1 : mCall (m__law_same 9) (mCons (mVar 2) (mCons (mOfL (mRepL (mLst (mCons (mFn fTup (mCons (mVar 5) mNil)) mNil)) (mC (.int 3)))) mNil)) (SC n g h ms (some (.val (.list [.tuple (F.map .int), .tuple (F.map .int), .tuple (F.map .int)]))) F t6 t7 t8) = some (.bool true, ⟨[some (.val (.tuple (nmD n g))), some (.val (fdD false n g h)), some (.val (.list [.tuple (F.map .int), .tuple (F.map .int), .tuple (F.map .int)])), some (.val (fdD true n g h)), some (.val (.list (ms.map .int))), some (.val (.list (F.map .int))), t6, t7, t8], none⟩) :=
    e_callV (ds := [.list [.tuple (F.map .int), .tuple (F.map .int), .tuple (F.map .int)], .list [.tuple (F.map .int), .tuple (F.map .int), .tuple (F.map .int)]]) (e_cons rfl (e_cons rfl rfl)) sm
  refine e_run rfl (e_seq (e_par (e_pD (e_callV (e_cons rfl rfl) l1) (e_pD (e_callW (e_cons rfl rfl) e2) (e_pL (e_lst rfl (Nat.zero_le _)) rfl))) rfl) (e_seq (e_for (e_enumL2 (e_cons rfl rfl)) e3) (e_seq (s1 := SC n g h ms (some (.val (.list [.tuple (F.map .int), .tuple (F.map .int), .tuple (F.map .int)]))) F t6 t7 t8) (e_asg (e_ofL (e_lst (e_cons (e_callV (e_cons rfl rfl) b1) (e_cons (e_callV (e_cons rfl rfl) b2) (e_cons k1 rfl))) (Nat.le_of_ble_eq_true rfl))) rfl) ?_)))
  exact e_ret2 (e_andVT (b := true) f1 rfl rfl (e_bin rfl (e_callV (e_cons rfl rfl) l1) (eq_self (shaped_fd N)))) rfl
end
def rightIn : MS := (sSeq (sAsg (mCallU (m__law_isles) (cUrn 0 (cCons (mBin dAdd (mC (.int 2)) (mCallU (m__law_take) (cUrn 0 (cCons (mC (.int 5)) cNil)))) cNil))) (gN 2))
  (sIf (mNotT (mTru (mCall (m__law_case_right) (mCons (mVar 2) (mCons (mCallU (m__law_fords) (cUrn 0 (cCons (mVar 2) (cCons (mCallU (m__law_of) (cUrn 0 (cCons (mOfL (mLst (mCons (mC (.int 1)) (mCons (mC (.int 2)) (mCons (mC (.int 5)) mNil))))) cNil))) cNil)))) mNil))))) (sRet (mC (.bool false))) sNil))
theorem right_one {k : Nat} {u : List Int} (hu : UOk k u) (hk : k + 5000 < 1000000) (s1 s2 : Option SV) : ∃ t2 u', rightIn ⟨[some .urn, s1, s2], some u⟩ = some (.nx ⟨[some .urn, s1, t2], some u'⟩) ∧ UOk (k + 300) u' := by
  obtain ⟨v, u1, e1, v0, v1, hu1⟩ := take_ok (n := 5) (by decide) (by decide) (by omega) hu
  obtain ⟨z, hz⟩ : ∃ z : Nat, 2 + v = (z : Int) := ⟨(2 + v).toNat, by omega⟩
  obtain ⟨g, u2, e2, N, hu2⟩ := p_isles (z := z) (by omega) (by omega) hu1 (by omega)
  obtain ⟨x, u3, e3, hx, hu3⟩ := of_ok (d := .list [.int 1, .int 2, .int 5]) (ds := [.int 1, .int 2, .int 5]) (.inl rfl) (by decide) (by decide) (by omega) hu2
  obtain ⟨m, rfl, m0, m1⟩ : ∃ m : Int, x = .int m ∧ 0 ≤ m ∧ m < 1000 := by
    simp only [List.mem_cons, List.not_mem_nil, or_false] at hx
    rcases hx with rfl | rfl | rfl
    · exact ⟨1, rfl, by decide, by decide⟩
    · exact ⟨2, rfl, by decide, by decide⟩
    · exact ⟨5, rfl, by decide, by decide⟩
  obtain ⟨h, u4, e4, hs, hnn, hu4⟩ := p_fords N (m := m) m0 m1 hu3 (by omega)
  have e5 := p_case (h := h) N hs hnn
  have e2' : m__law_isles [.urn, .val (.int (2 + v))] (some u1) = some (.val (.tuple (nmD z g)), some u2) := by rw [hz]; exact e2
  have e3' : m__law_of [.urn, .val (.list [.int 1, .int 2, .int 5])] (some u2) = some (.val (.int m), some u3) := e3
  have e4' : m__law_fords [.urn, .val (.tuple (nmD z g)), .val (.int m)] (some u3) = some (.val (fdD false z g h), some u4) := e4
  refine ⟨some (.val (.tuple (nmD z g))), u4, ?_, hu4.mono (by omega)⟩
  have e6 : mCallU (m__law_fords) (cUrn 0 (cCons (mVar 2) (cCons (mCallU (m__law_of) (cUrn 0 (cCons (mOfL (mLst (mCons (mC (.int 1)) (mCons (mC (.int 2)) (mCons (mC (.int 5)) mNil))))) cNil))) cNil))) ⟨[some .urn, s1, some (.val (.tuple (nmD z g)))], some u2⟩ = some (fdD false z g h, ⟨[some .urn, s1, some (.val (.tuple (nmD z g)))], some u4⟩) :=
    e_callUV (s1 := ⟨[some .urn, s1, some (.val (.tuple (nmD z g)))], some u3⟩) (e_curn rfl (e_ccons rfl (e_ccons (e_callUV (s1 := ⟨[some .urn, s1, some (.val (.tuple (nmD z g)))], some u2⟩) (e_curn rfl (e_ccons (e_ofL (e_lst (e_cons rfl (e_cons rfl (e_cons rfl rfl))) (Nat.le_of_ble_eq_true rfl))) rfl)) e3') rfl))) e4'
  exact e_seq (e_asg (e_callUV (e_curn rfl (e_ccons (e_bin rfl (e_callUV (e_curn rfl (e_ccons rfl rfl)) e1) rfl) rfl)) e2') rfl) (e_sifF (b := false) (e_notT (b := true) (e_tru (e_callV (e_cons rfl (e_cons e6 rfl)) e5) rfl)) rfl rfl)
theorem right_ok {u : List Int} (hu : UOk 0 u) : ∃ u', m__law_right [.urn] (some u) = some (.val (.bool true), u') := by
  obtain ⟨s', e, t1, t2, u', rfl, hu'⟩ := for_invN (g := gN 1) (mb := rightIn) (fun j s => ∃ t1 t2 : Option SV, ∃ u' : List Int, s = ⟨[some .urn, t1, t2], some u'⟩ ∧ UOk (300 * j) u') (rngD 0 8) 0 ⟨[some .urn, none, none], some u⟩ ⟨none, none, u, rfl, hu⟩ (by
    rintro d hd j s hj ⟨t1, t2, u1, rfl, hu1⟩
    rw [rngD_length] at hj
    obtain ⟨r2, u2, e, hu2⟩ := right_one hu1 (by omega) (some (.val d)) t2
    exact ⟨_, _, rfl, e, some (.val d), r2, u2, rfl, hu2.mono (by omega)⟩)
  exact ⟨some u', e_run rfl (e_seq (e_for rfl e) rfl)⟩
end DT
set_option Elab.async false
set_option linter.all false
set_option maxRecDepth 100000
set_option maxHeartbeats 4000000
namespace DT
open PySem PySem.Spec PyProof.Rows L2 DL FD
def gw (i : Nat) : Str := ⟨#[97 + i]⟩
def hp : Ht := fun i j => match i, j with
  | 0, 1 => 5
  | 0, 2 => 2
  | 0, 3 => 1
  | 1, 2 => 4
  | 1, 3 => 3
  | 2, 3 => 3
  | _, _ => 0
def hx : Ht := fun i j => if i < 3 then (if j < 3 then 10 ^ 40 else 0) else if j < 3 then 0 else 10 ^ 40 - 1
def hw : Ht := fun i j => if j = i + 1 then 100 - (i : Int) else if i = j + 1 then 100 - (j : Int) else 0
theorem nm_w : Nm 12 gw := ⟨fun i j hi hj => (by decide +kernel : ∀ j < 12, ∀ i < j, ltS (gw i) (gw j) = true) j hj i hi, by decide, by decide, by decide +kernel⟩
theorem nm_6 : Nm 6 gw := ⟨fun i j hi hj => nm_w.asc i j hi (by omega), by decide, by decide, fun i hi => nm_w.ok i (by omega)⟩
theorem sym_w : Sym hw := fun i j => by
  unfold hw
  by_cases c : j = i + 1
  · rw [if_pos c, if_neg (by omega), if_pos c]
  · rw [if_neg c]
    by_cases d : i = j + 1
    · rw [if_pos d, if_pos d]
    · rw [if_neg d, if_neg d, if_neg c]
theorem sym_6 : Sym hx := fun i j => by
  unfold hx
  by_cases c : i < 3 <;> by_cases d : j < 3 <;> simp [c, d]
theorem cutP_congr {n : Nat} {g : Nat → Str} {T T' : Ht} {w : Int} (h : ∀ i j, i < n → j < n → T i j = T' i j) : cutP n g T w = cutP n g T' w := by
  have e : lotsS n g T w = lotsS n g T' w := List.map_congr_left fun i hi => by
    unfold lotS lotN
    congr 1
    refine List.filter_congr fun j hj => ?_
    unfold jn
    rw [h i j (List.mem_range.mp hi) (List.mem_range.mp hj)]
  unfold cutP cutPs
  rw [e]
theorem tops_congr {n : Nat} {T T' : Ht} (h : ∀ i j, i < n → j < n → T i j = T' i j) : tops n T = tops n T' := by
  unfold tops
  congr 1
  exact List.map_congr_left fun p hp => h _ _ (in_prs hp).1 (in_prs hp).2
def Lw : List (List Int) := [[100, 100, 99, 98, 97, 96, 95, 94, 93, 92, 91, 90], [100, 100, 99, 98, 97, 96, 95, 94, 93, 92, 91, 90], [99, 99, 99, 98, 97, 96, 95, 94, 93, 92, 91, 90], [98, 98, 98, 98, 97, 96, 95, 94, 93, 92, 91, 90], [97, 97, 97, 97, 97, 96, 95, 94, 93, 92, 91, 90], [96, 96, 96, 96, 96, 96, 95, 94, 93, 92, 91, 90], [95, 95, 95, 95, 95, 95, 95, 94, 93, 92, 91, 90], [94, 94, 94, 94, 94, 94, 94, 94, 93, 92, 91, 90], [93, 93, 93, 93, 93, 93, 93, 93, 93, 92, 91, 90], [92, 92, 92, 92, 92, 92, 92, 92, 92, 92, 91, 90], [91, 91, 91, 91, 91, 91, 91, 91, 91, 91, 91, 90], [90, 90, 90, 90, 90, 90, 90, 90, 90, 90, 90, 90]]
def L6 : List (List Int) := [[10000000000000000000000000000000000000000, 10000000000000000000000000000000000000000, 10000000000000000000000000000000000000000, 0, 0, 0], [10000000000000000000000000000000000000000, 10000000000000000000000000000000000000000, 10000000000000000000000000000000000000000, 0, 0, 0], [10000000000000000000000000000000000000000, 10000000000000000000000000000000000000000, 10000000000000000000000000000000000000000, 0, 0, 0], [0, 0, 0, 9999999999999999999999999999999999999999, 9999999999999999999999999999999999999999, 9999999999999999999999999999999999999999], [0, 0, 0, 9999999999999999999999999999999999999999, 9999999999999999999999999999999999999999, 9999999999999999999999999999999999999999], [0, 0, 0, 9999999999999999999999999999999999999999, 9999999999999999999999999999999999999999, 9999999999999999999999999999999999999999]]
theorem tab_w : fwTab 12 (List.range 12) (tab 12 hw) = Lw := by decide +kernel
theorem tab_6 : fwTab 6 (List.range 6) (tab 6 hx) = L6 := by decide +kernel
theorem fw_w : ∀ i j, i < 12 → j < 12 → fw hw 12 i j = look Lw i j := fun i j hi hj => by rw [fw_tab hi hj, tab_w]
theorem fw_6 : ∀ i j, i < 6 → j < 6 → fw hx 6 i j = look L6 i j := fun i j hi hj => by rw [fw_tab hi hj, tab_6]
theorem part_w {w : Int} {d : Dt} (e : cutP 12 gw (look Lw) w = d) : m_parting_at [.val (fdD false 12 gw hw), .val (.int w)] none = some (.val d, none) := by
  rw [← e, ← cutP_congr fw_w]
  exact p_part nm_w sym_w
theorem part_6 {w : Int} {d : Dt} (e : cutP 6 gw (look L6) w = d) : m_parting_at [.val (fdD false 6 gw hx), .val (.int w)] none = some (.val d, none) := by
  rw [← e, ← cutP_congr fw_6]
  exact p_part nm_6 sym_6
theorem turn_w {d : List Dt} (e : setD ((tops 12 (look Lw)).map .int) = d) : m_turning_waters [.val (fdD false 12 gw hw)] none = some (.val (.tuple d), none) := by
  rw [← e, ← tops_congr fw_w]
  exact p_turn nm_w sym_w
theorem turn_6 {d : List Dt} (e : setD ((tops 6 (look L6)).map .int) = d) : m_turning_waters [.val (fdD false 6 gw hx)] none = some (.val (.tuple d), none) := by
  rw [← e, ← tops_congr fw_6]
  exact p_turn nm_6 sym_6
def h1 : MS := (sAsg (mTup (mCons (mTup (mCons (mTup (mCons (mC (.str (Str.ofString "a"))) (mCons (mC (.str (Str.ofString "b"))) mNil))) (mCons (mC (.int 5)) mNil))) (mCons (mTup (mCons (mTup (mCons (mC (.str (Str.ofString "a"))) (mCons (mC (.str (Str.ofString "c"))) mNil))) (mCons (mC (.int 2)) mNil))) (mCons (mTup (mCons (mTup (mCons (mC (.str (Str.ofString "a"))) (mCons (mC (.str (Str.ofString "d"))) mNil))) (mCons (mC (.int 1)) mNil))) (mCons (mTup (mCons (mTup (mCons (mC (.str (Str.ofString "b"))) (mCons (mC (.str (Str.ofString "c"))) mNil))) (mCons (mC (.int 4)) mNil))) (mCons (mTup (mCons (mTup (mCons (mC (.str (Str.ofString "b"))) (mCons (mC (.str (Str.ofString "d"))) mNil))) (mCons (mC (.int 3)) mNil))) (mCons (mTup (mCons (mTup (mCons (mC (.str (Str.ofString "c"))) (mCons (mC (.str (Str.ofString "d"))) mNil))) (mCons (mC (.int 3)) mNil))) mNil))))))) (gN 0))
def h2 : MS := (sSetL 1 (mLc (iSeq (mTup (mCons (mC (.int 0)) (mCons (mC (.int 1)) (mCons (mC (.int 2)) (mCons (mC (.int 3)) (mCons (mC (.int 4)) (mCons (mC (.int 5)) (mCons (mBin dPow (mC (.int 10)) (mC (.int 40))) mNil))))))))) [] [8] (gN 8) mYes (mCall (m_parting_at) (mCons (mVar 0) (mCons (mVar 8) mNil)))))
def h3 : MS := (sAsg (mTup (mCons (mTup (mCons (mTup (mCons (mC (.str (Str.ofString "a"))) (mCons (mC (.str (Str.ofString "b"))) (mCons (mC (.str (Str.ofString "c"))) (mCons (mC (.str (Str.ofString "d"))) mNil))))) mNil)) (mCons (mTup (mCons (mTup (mCons (mC (.str (Str.ofString "a"))) mNil)) (mCons (mTup (mCons (mC (.str (Str.ofString "b"))) mNil)) (mCons (mTup (mCons (mC (.str (Str.ofString "c"))) mNil)) (mCons (mTup (mCons (mC (.str (Str.ofString "d"))) mNil)) mNil))))) mNil))) (gA 2 (gsCons (gN 6) (gsCons (gN 7) gsNil))))
def h4 : MS := (sAsg (mOfL (mLst (mCons (mVar 6) (mCons (mVar 6) (mCons (mVar 6) (mCons (mTup (mCons (mTup (mCons (mC (.str (Str.ofString "a"))) (mCons (mC (.str (Str.ofString "b"))) (mCons (mC (.str (Str.ofString "c"))) mNil)))) (mCons (mTup (mCons (mC (.str (Str.ofString "d"))) mNil)) mNil))) (mCons (mTup (mCons (mTup (mCons (mC (.str (Str.ofString "a"))) (mCons (mC (.str (Str.ofString "b"))) mNil))) (mCons (mTup (mCons (mC (.str (Str.ofString "c"))) mNil)) (mCons (mTup (mCons (mC (.str (Str.ofString "d"))) mNil)) mNil)))) (mCons (mVar 7) (mCons (mVar 7) mNil))))))))) (gN 2))
def h5 : MS := (sAsg (mBin dAdd (mVar 1) (mOfL (mLst (mCons (mCall (m_turning_waters) (mCons (mVar 0) mNil)) (mCons (mCall (m_parting_at) (mCons (mTup mNil) (mCons (mC (.int 0)) mNil))) (mCons (mCall (m_turning_waters) (mCons (mTup mNil) mNil)) (mCons (mCall (m_parting_at) (mCons (mTup (mCons (mTup (mCons (mTup (mCons (mC (.str (Str.ofString "a"))) (mCons (mC (.str (Str.ofString "b"))) mNil))) (mCons (mC (.int 0)) mNil))) mNil)) (mCons (mC (.int 0)) mNil))) (mCons (mCall (m_turning_waters) (mCons (mTup (mCons (mTup (mCons (mTup (mCons (mC (.str (Str.ofString "a"))) (mCons (mC (.str (Str.ofString "b"))) mNil))) (mCons (mC (.int 0)) mNil))) mNil)) mNil)) mNil)))))))) (gN 1))
def h6 : MS := (sAsg (mBin dAdd (mVar 2) (mOfL (mLst (mCons (mTup (mCons (mC (.int 3)) (mCons (mC (.int 4)) (mCons (mC (.int 5)) mNil)))) (mCons (mTup mNil) (mCons (mTup mNil) (mCons (mTup (mCons (mTup (mCons (mC (.str (Str.ofString "a"))) mNil)) (mCons (mTup (mCons (mC (.str (Str.ofString "b"))) mNil)) mNil))) (mCons (mTup mNil) mNil)))))))) (gN 2))
def h7 : MS := (sAsg (mFn fTup (mCons (mOfL (mLc (iSeq (mCall (m__law_pairs) (mCons (mC (.str (Str.ofString "abcdef"))) mNil))) [] [9] (gN 9) mYes (mTup (mCons (mVar 9) (mCons (mIf (mTst (mBin dEq (mBin dGt (mIxN 9 (mC (.int 0))) (mC (.str (Str.ofString "c")))) (mBin dGt (mIxN 9 (mC (.int 1))) (mC (.str (Str.ofString "c")))))) (mBin dSub (mBin dPow (mC (.int 10)) (mC (.int 40))) (mFn fInt (mCons (mBin dGt (mIxN 9 (mC (.int 0))) (mC (.str (Str.ofString "c")))) mNil))) (mC (.int 0))) mNil))))) mNil)) (gN 3))
def h8 : MS := (sAsg (mBin dAdd (mVar 1) (mOfL (mLst (mCons (mCall (m_parting_at) (mCons (mVar 3) (mCons (mC (.int 0)) mNil))) (mCons (mCall (m_parting_at) (mCons (mVar 3) (mCons (mBin dSub (mBin dPow (mC (.int 10)) (mC (.int 40))) (mC (.int 2))) mNil))) (mCons (mCall (m_parting_at) (mCons (mVar 3) (mCons (mBin dSub (mBin dPow (mC (.int 10)) (mC (.int 40))) (mC (.int 1))) mNil))) (mCons (mCall (m_parting_at) (mCons (mVar 3) (mCons (mBin dPow (mC (.int 10)) (mC (.int 40))) mNil))) (mCons (mCall (m_turning_waters) (mCons (mVar 3) mNil)) mNil)))))))) (gN 1))
def h9 : MS := (sAsg (mTup (mCons (mTup (mCons (mC (.str (Str.ofString "a"))) (mCons (mC (.str (Str.ofString "b"))) (mCons (mC (.str (Str.ofString "c"))) mNil)))) (mCons (mTup (mCons (mC (.str (Str.ofString "d"))) (mCons (mC (.str (Str.ofString "e"))) (mCons (mC (.str (Str.ofString "f"))) mNil)))) mNil))) (gN 4))
def h10 : MS := (sAsg (mBin dAdd (mVar 2) (mOfL (mLst (mCons (mVar 4) (mCons (mVar 4) (mCons (mTup (mCons (mTup (mCons (mC (.str (Str.ofString "a"))) (mCons (mC (.str (Str.ofString "b"))) (mCons (mC (.str (Str.ofString "c"))) mNil)))) (mCons (mTup (mCons (mC (.str (Str.ofString "d"))) mNil)) (mCons (mTup (mCons (mC (.str (Str.ofString "e"))) mNil)) (mCons (mTup (mCons (mC (.str (Str.ofString "f"))) mNil)) mNil))))) (mCons (mFn fTup (mCons (mOfL (mLc (iSeq (mC (.str (Str.ofString "abcdef")))) [] [9] (gN 9) mYes (mTup (mCons (mVar 9) mNil)))) mNil)) (mCons (mTup (mCons (mBin dSub (mBin dPow (mC (.int 10)) (mC (.int 40))) (mC (.int 1))) (mCons (mBin dPow (mC (.int 10)) (mC (.int 40))) mNil))) mNil)))))))) (gN 2))
def h11 : MS := (sAsg (mFn fTup (mCons (mOfL (mLc (iSeq (mCall (m__law_pairs) (mCons (mC (.str (Str.ofString "abcdefghijkl"))) mNil))) [] [9] (gN 9) mYes (mTup (mCons (mVar 9) (mCons (mIf (mTst (mBin dEq (mBin dSub (mFn fOrd (mCons (mIxN 9 (mC (.int 1))) mNil)) (mFn fOrd (mCons (mIxN 9 (mC (.int 0))) mNil))) (mC (.int 1)))) (mBin dAdd (mBin dSub (mC (.int 100)) (mFn fOrd (mCons (mIxN 9 (mC (.int 0))) mNil))) (mC (.int 97))) (mC (.int 0))) mNil))))) mNil)) (gN 5))
def h12 : MS := (sAsg (mBin dAdd (mVar 1) (mOfL (mLst (mCons (mCall (m_turning_waters) (mCons (mVar 5) mNil)) (mCons (mCall (m_parting_at) (mCons (mVar 5) (mCons (mC (.int 95)) mNil))) mNil))))) (gN 1))
def h13 : MS := (sAsg (mBin dAdd (mVar 2) (mOfL (mLst (mCons (mFn fTup (mCons (mOfL (mLc (iRng2 (mCons (mC (.int 90)) (mCons (mC (.int 101)) mNil))) [] [8] (gN 8) mYes (mVar 8))) mNil)) (mCons (mTup (mCons (mTup (mCons (mC (.str (Str.ofString "a"))) (mCons (mC (.str (Str.ofString "b"))) (mCons (mC (.str (Str.ofString "c"))) (mCons (mC (.str (Str.ofString "d"))) (mCons (mC (.str (Str.ofString "e"))) (mCons (mC (.str (Str.ofString "f"))) mNil))))))) (mCons (mTup (mCons (mC (.str (Str.ofString "g"))) mNil)) (mCons (mTup (mCons (mC (.str (Str.ofString "h"))) mNil)) (mCons (mTup (mCons (mC (.str (Str.ofString "i"))) mNil)) (mCons (mTup (mCons (mC (.str (Str.ofString "j"))) mNil)) (mCons (mTup (mCons (mC (.str (Str.ofString "k"))) mNil)) (mCons (mTup (mCons (mC (.str (Str.ofString "l"))) mNil)) mNil)))))))) mNil))))) (gN 2))
def h14 : MS := (sRet (mCall (m__law_same 9) (mCons (mVar 1) (mCons (mVar 2) mNil))))
def S0 : Stt := ⟨[none, none, none, none, none, none, none, none, none, none], none⟩
def S1 : Stt := ⟨[some (.val (fdD false 4 gw hp)), none, none, none, none, none, none, none, none, none], none⟩
def S2 : Stt := ⟨[some (.val (fdD false 4 gw hp)), some (.own ([.tuple [.tuple [.str ⟨#[97]⟩, .str ⟨#[98]⟩, .str ⟨#[99]⟩, .str ⟨#[100]⟩]], .tuple [.tuple [.str ⟨#[97]⟩, .str ⟨#[98]⟩, .str ⟨#[99]⟩, .str ⟨#[100]⟩]], .tuple [.tuple [.str ⟨#[97]⟩, .str ⟨#[98]⟩, .str ⟨#[99]⟩, .str ⟨#[100]⟩]], .tuple [.tuple [.str ⟨#[97]⟩, .str ⟨#[98]⟩, .str ⟨#[99]⟩], .tuple [.str ⟨#[100]⟩]], .tuple [.tuple [.str ⟨#[97]⟩, .str ⟨#[98]⟩], .tuple [.str ⟨#[99]⟩], .tuple [.str ⟨#[100]⟩]], .tuple [.tuple [.str ⟨#[97]⟩], .tuple [.str ⟨#[98]⟩], .tuple [.str ⟨#[99]⟩], .tuple [.str ⟨#[100]⟩]], .tuple [.tuple [.str ⟨#[97]⟩], .tuple [.str ⟨#[98]⟩], .tuple [.str ⟨#[99]⟩], .tuple [.str ⟨#[100]⟩]]])), none, none, none, none, none, none, none, none], none⟩
def S3 : Stt := ⟨[some (.val (fdD false 4 gw hp)), some (.own ([.tuple [.tuple [.str ⟨#[97]⟩, .str ⟨#[98]⟩, .str ⟨#[99]⟩, .str ⟨#[100]⟩]], .tuple [.tuple [.str ⟨#[97]⟩, .str ⟨#[98]⟩, .str ⟨#[99]⟩, .str ⟨#[100]⟩]], .tuple [.tuple [.str ⟨#[97]⟩, .str ⟨#[98]⟩, .str ⟨#[99]⟩, .str ⟨#[100]⟩]], .tuple [.tuple [.str ⟨#[97]⟩, .str ⟨#[98]⟩, .str ⟨#[99]⟩], .tuple [.str ⟨#[100]⟩]], .tuple [.tuple [.str ⟨#[97]⟩, .str ⟨#[98]⟩], .tuple [.str ⟨#[99]⟩], .tuple [.str ⟨#[100]⟩]], .tuple [.tuple [.str ⟨#[97]⟩], .tuple [.str ⟨#[98]⟩], .tuple [.str ⟨#[99]⟩], .tuple [.str ⟨#[100]⟩]], .tuple [.tuple [.str ⟨#[97]⟩], .tuple [.str ⟨#[98]⟩], .tuple [.str ⟨#[99]⟩], .tuple [.str ⟨#[100]⟩]]])), none, none, none, none, some (.val (.tuple [.tuple [.str ⟨#[97]⟩, .str ⟨#[98]⟩, .str ⟨#[99]⟩, .str ⟨#[100]⟩]])), some (.val (.tuple [.tuple [.str ⟨#[97]⟩], .tuple [.str ⟨#[98]⟩], .tuple [.str ⟨#[99]⟩], .tuple [.str ⟨#[100]⟩]])), none, none], none⟩
def S4 : Stt := ⟨[some (.val (fdD false 4 gw hp)), some (.own ([.tuple [.tuple [.str ⟨#[97]⟩, .str ⟨#[98]⟩, .str ⟨#[99]⟩, .str ⟨#[100]⟩]], .tuple [.tuple [.str ⟨#[97]⟩, .str ⟨#[98]⟩, .str ⟨#[99]⟩, .str ⟨#[100]⟩]], .tuple [.tuple [.str ⟨#[97]⟩, .str ⟨#[98]⟩, .str ⟨#[99]⟩, .str ⟨#[100]⟩]], .tuple [.tuple [.str ⟨#[97]⟩, .str ⟨#[98]⟩, .str ⟨#[99]⟩], .tuple [.str ⟨#[100]⟩]], .tuple [.tuple [.str ⟨#[97]⟩, .str ⟨#[98]⟩], .tuple [.str ⟨#[99]⟩], .tuple [.str ⟨#[100]⟩]], .tuple [.tuple [.str ⟨#[97]⟩], .tuple [.str ⟨#[98]⟩], .tuple [.str ⟨#[99]⟩], .tuple [.str ⟨#[100]⟩]], .tuple [.tuple [.str ⟨#[97]⟩], .tuple [.str ⟨#[98]⟩], .tuple [.str ⟨#[99]⟩], .tuple [.str ⟨#[100]⟩]]])), some (.val (.list [.tuple [.tuple [.str ⟨#[97]⟩, .str ⟨#[98]⟩, .str ⟨#[99]⟩, .str ⟨#[100]⟩]], .tuple [.tuple [.str ⟨#[97]⟩, .str ⟨#[98]⟩, .str ⟨#[99]⟩, .str ⟨#[100]⟩]], .tuple [.tuple [.str ⟨#[97]⟩, .str ⟨#[98]⟩, .str ⟨#[99]⟩, .str ⟨#[100]⟩]], .tuple [.tuple [.str ⟨#[97]⟩, .str ⟨#[98]⟩, .str ⟨#[99]⟩], .tuple [.str ⟨#[100]⟩]], .tuple [.tuple [.str ⟨#[97]⟩, .str ⟨#[98]⟩], .tuple [.str ⟨#[99]⟩], .tuple [.str ⟨#[100]⟩]], .tuple [.tuple [.str ⟨#[97]⟩], .tuple [.str ⟨#[98]⟩], .tuple [.str ⟨#[99]⟩], .tuple [.str ⟨#[100]⟩]], .tuple [.tuple [.str ⟨#[97]⟩], .tuple [.str ⟨#[98]⟩], .tuple [.str ⟨#[99]⟩], .tuple [.str ⟨#[100]⟩]]])), none, none, none, some (.val (.tuple [.tuple [.str ⟨#[97]⟩, .str ⟨#[98]⟩, .str ⟨#[99]⟩, .str ⟨#[100]⟩]])), some (.val (.tuple [.tuple [.str ⟨#[97]⟩], .tuple [.str ⟨#[98]⟩], .tuple [.str ⟨#[99]⟩], .tuple [.str ⟨#[100]⟩]])), none, none], none⟩
def S5 : Stt := ⟨[some (.val (fdD false 4 gw hp)), some (.val (.list [.tuple [.tuple [.str ⟨#[97]⟩, .str ⟨#[98]⟩, .str ⟨#[99]⟩, .str ⟨#[100]⟩]], .tuple [.tuple [.str ⟨#[97]⟩, .str ⟨#[98]⟩, .str ⟨#[99]⟩, .str ⟨#[100]⟩]], .tuple [.tuple [.str ⟨#[97]⟩, .str ⟨#[98]⟩, .str ⟨#[99]⟩, .str ⟨#[100]⟩]], .tuple [.tuple [.str ⟨#[97]⟩, .str ⟨#[98]⟩, .str ⟨#[99]⟩], .tuple [.str ⟨#[100]⟩]], .tuple [.tuple [.str ⟨#[97]⟩, .str ⟨#[98]⟩], .tuple [.str ⟨#[99]⟩], .tuple [.str ⟨#[100]⟩]], .tuple [.tuple [.str ⟨#[97]⟩], .tuple [.str ⟨#[98]⟩], .tuple [.str ⟨#[99]⟩], .tuple [.str ⟨#[100]⟩]], .tuple [.tuple [.str ⟨#[97]⟩], .tuple [.str ⟨#[98]⟩], .tuple [.str ⟨#[99]⟩], .tuple [.str ⟨#[100]⟩]], .tuple [.int 3, .int 4, .int 5], .tuple [], .tuple [], .tuple [.tuple [.str ⟨#[97]⟩], .tuple [.str ⟨#[98]⟩]], .tuple []])), some (.val (.list [.tuple [.tuple [.str ⟨#[97]⟩, .str ⟨#[98]⟩, .str ⟨#[99]⟩, .str ⟨#[100]⟩]], .tuple [.tuple [.str ⟨#[97]⟩, .str ⟨#[98]⟩, .str ⟨#[99]⟩, .str ⟨#[100]⟩]], .tuple [.tuple [.str ⟨#[97]⟩, .str ⟨#[98]⟩, .str ⟨#[99]⟩, .str ⟨#[100]⟩]], .tuple [.tuple [.str ⟨#[97]⟩, .str ⟨#[98]⟩, .str ⟨#[99]⟩], .tuple [.str ⟨#[100]⟩]], .tuple [.tuple [.str ⟨#[97]⟩, .str ⟨#[98]⟩], .tuple [.str ⟨#[99]⟩], .tuple [.str ⟨#[100]⟩]], .tuple [.tuple [.str ⟨#[97]⟩], .tuple [.str ⟨#[98]⟩], .tuple [.str ⟨#[99]⟩], .tuple [.str ⟨#[100]⟩]], .tuple [.tuple [.str ⟨#[97]⟩], .tuple [.str ⟨#[98]⟩], .tuple [.str ⟨#[99]⟩], .tuple [.str ⟨#[100]⟩]]])), none, none, none, some (.val (.tuple [.tuple [.str ⟨#[97]⟩, .str ⟨#[98]⟩, .str ⟨#[99]⟩, .str ⟨#[100]⟩]])), some (.val (.tuple [.tuple [.str ⟨#[97]⟩], .tuple [.str ⟨#[98]⟩], .tuple [.str ⟨#[99]⟩], .tuple [.str ⟨#[100]⟩]])), none, none], none⟩
def S6 : Stt := ⟨[some (.val (fdD false 4 gw hp)), some (.val (.list [.tuple [.tuple [.str ⟨#[97]⟩, .str ⟨#[98]⟩, .str ⟨#[99]⟩, .str ⟨#[100]⟩]], .tuple [.tuple [.str ⟨#[97]⟩, .str ⟨#[98]⟩, .str ⟨#[99]⟩, .str ⟨#[100]⟩]], .tuple [.tuple [.str ⟨#[97]⟩, .str ⟨#[98]⟩, .str ⟨#[99]⟩, .str ⟨#[100]⟩]], .tuple [.tuple [.str ⟨#[97]⟩, .str ⟨#[98]⟩, .str ⟨#[99]⟩], .tuple [.str ⟨#[100]⟩]], .tuple [.tuple [.str ⟨#[97]⟩, .str ⟨#[98]⟩], .tuple [.str ⟨#[99]⟩], .tuple [.str ⟨#[100]⟩]], .tuple [.tuple [.str ⟨#[97]⟩], .tuple [.str ⟨#[98]⟩], .tuple [.str ⟨#[99]⟩], .tuple [.str ⟨#[100]⟩]], .tuple [.tuple [.str ⟨#[97]⟩], .tuple [.str ⟨#[98]⟩], .tuple [.str ⟨#[99]⟩], .tuple [.str ⟨#[100]⟩]], .tuple [.int 3, .int 4, .int 5], .tuple [], .tuple [], .tuple [.tuple [.str ⟨#[97]⟩], .tuple [.str ⟨#[98]⟩]], .tuple []])), some (.val (.list [.tuple [.tuple [.str ⟨#[97]⟩, .str ⟨#[98]⟩, .str ⟨#[99]⟩, .str ⟨#[100]⟩]], .tuple [.tuple [.str ⟨#[97]⟩, .str ⟨#[98]⟩, .str ⟨#[99]⟩, .str ⟨#[100]⟩]], .tuple [.tuple [.str ⟨#[97]⟩, .str ⟨#[98]⟩, .str ⟨#[99]⟩, .str ⟨#[100]⟩]], .tuple [.tuple [.str ⟨#[97]⟩, .str ⟨#[98]⟩, .str ⟨#[99]⟩], .tuple [.str ⟨#[100]⟩]], .tuple [.tuple [.str ⟨#[97]⟩, .str ⟨#[98]⟩], .tuple [.str ⟨#[99]⟩], .tuple [.str ⟨#[100]⟩]], .tuple [.tuple [.str ⟨#[97]⟩], .tuple [.str ⟨#[98]⟩], .tuple [.str ⟨#[99]⟩], .tuple [.str ⟨#[100]⟩]], .tuple [.tuple [.str ⟨#[97]⟩], .tuple [.str ⟨#[98]⟩], .tuple [.str ⟨#[99]⟩], .tuple [.str ⟨#[100]⟩]], .tuple [.int 3, .int 4, .int 5], .tuple [], .tuple [], .tuple [.tuple [.str ⟨#[97]⟩], .tuple [.str ⟨#[98]⟩]], .tuple []])), none, none, none, some (.val (.tuple [.tuple [.str ⟨#[97]⟩, .str ⟨#[98]⟩, .str ⟨#[99]⟩, .str ⟨#[100]⟩]])), some (.val (.tuple [.tuple [.str ⟨#[97]⟩], .tuple [.str ⟨#[98]⟩], .tuple [.str ⟨#[99]⟩], .tuple [.str ⟨#[100]⟩]])), none, none], none⟩
def S7 : Stt := ⟨[some (.val (fdD false 4 gw hp)), some (.val (.list [.tuple [.tuple [.str ⟨#[97]⟩, .str ⟨#[98]⟩, .str ⟨#[99]⟩, .str ⟨#[100]⟩]], .tuple [.tuple [.str ⟨#[97]⟩, .str ⟨#[98]⟩, .str ⟨#[99]⟩, .str ⟨#[100]⟩]], .tuple [.tuple [.str ⟨#[97]⟩, .str ⟨#[98]⟩, .str ⟨#[99]⟩, .str ⟨#[100]⟩]], .tuple [.tuple [.str ⟨#[97]⟩, .str ⟨#[98]⟩, .str ⟨#[99]⟩], .tuple [.str ⟨#[100]⟩]], .tuple [.tuple [.str ⟨#[97]⟩, .str ⟨#[98]⟩], .tuple [.str ⟨#[99]⟩], .tuple [.str ⟨#[100]⟩]], .tuple [.tuple [.str ⟨#[97]⟩], .tuple [.str ⟨#[98]⟩], .tuple [.str ⟨#[99]⟩], .tuple [.str ⟨#[100]⟩]], .tuple [.tuple [.str ⟨#[97]⟩], .tuple [.str ⟨#[98]⟩], .tuple [.str ⟨#[99]⟩], .tuple [.str ⟨#[100]⟩]], .tuple [.int 3, .int 4, .int 5], .tuple [], .tuple [], .tuple [.tuple [.str ⟨#[97]⟩], .tuple [.str ⟨#[98]⟩]], .tuple []])), some (.val (.list [.tuple [.tuple [.str ⟨#[97]⟩, .str ⟨#[98]⟩, .str ⟨#[99]⟩, .str ⟨#[100]⟩]], .tuple [.tuple [.str ⟨#[97]⟩, .str ⟨#[98]⟩, .str ⟨#[99]⟩, .str ⟨#[100]⟩]], .tuple [.tuple [.str ⟨#[97]⟩, .str ⟨#[98]⟩, .str ⟨#[99]⟩, .str ⟨#[100]⟩]], .tuple [.tuple [.str ⟨#[97]⟩, .str ⟨#[98]⟩, .str ⟨#[99]⟩], .tuple [.str ⟨#[100]⟩]], .tuple [.tuple [.str ⟨#[97]⟩, .str ⟨#[98]⟩], .tuple [.str ⟨#[99]⟩], .tuple [.str ⟨#[100]⟩]], .tuple [.tuple [.str ⟨#[97]⟩], .tuple [.str ⟨#[98]⟩], .tuple [.str ⟨#[99]⟩], .tuple [.str ⟨#[100]⟩]], .tuple [.tuple [.str ⟨#[97]⟩], .tuple [.str ⟨#[98]⟩], .tuple [.str ⟨#[99]⟩], .tuple [.str ⟨#[100]⟩]], .tuple [.int 3, .int 4, .int 5], .tuple [], .tuple [], .tuple [.tuple [.str ⟨#[97]⟩], .tuple [.str ⟨#[98]⟩]], .tuple []])), some (.val (fdD false 6 gw hx)), none, none, some (.val (.tuple [.tuple [.str ⟨#[97]⟩, .str ⟨#[98]⟩, .str ⟨#[99]⟩, .str ⟨#[100]⟩]])), some (.val (.tuple [.tuple [.str ⟨#[97]⟩], .tuple [.str ⟨#[98]⟩], .tuple [.str ⟨#[99]⟩], .tuple [.str ⟨#[100]⟩]])), none, none], none⟩
def S8 : Stt := ⟨[some (.val (fdD false 4 gw hp)), some (.val (.list [.tuple [.tuple [.str ⟨#[97]⟩, .str ⟨#[98]⟩, .str ⟨#[99]⟩, .str ⟨#[100]⟩]], .tuple [.tuple [.str ⟨#[97]⟩, .str ⟨#[98]⟩, .str ⟨#[99]⟩, .str ⟨#[100]⟩]], .tuple [.tuple [.str ⟨#[97]⟩, .str ⟨#[98]⟩, .str ⟨#[99]⟩, .str ⟨#[100]⟩]], .tuple [.tuple [.str ⟨#[97]⟩, .str ⟨#[98]⟩, .str ⟨#[99]⟩], .tuple [.str ⟨#[100]⟩]], .tuple [.tuple [.str ⟨#[97]⟩, .str ⟨#[98]⟩], .tuple [.str ⟨#[99]⟩], .tuple [.str ⟨#[100]⟩]], .tuple [.tuple [.str ⟨#[97]⟩], .tuple [.str ⟨#[98]⟩], .tuple [.str ⟨#[99]⟩], .tuple [.str ⟨#[100]⟩]], .tuple [.tuple [.str ⟨#[97]⟩], .tuple [.str ⟨#[98]⟩], .tuple [.str ⟨#[99]⟩], .tuple [.str ⟨#[100]⟩]], .tuple [.int 3, .int 4, .int 5], .tuple [], .tuple [], .tuple [.tuple [.str ⟨#[97]⟩], .tuple [.str ⟨#[98]⟩]], .tuple [], .tuple [.tuple [.str ⟨#[97]⟩, .str ⟨#[98]⟩, .str ⟨#[99]⟩], .tuple [.str ⟨#[100]⟩, .str ⟨#[101]⟩, .str ⟨#[102]⟩]], .tuple [.tuple [.str ⟨#[97]⟩, .str ⟨#[98]⟩, .str ⟨#[99]⟩], .tuple [.str ⟨#[100]⟩, .str ⟨#[101]⟩, .str ⟨#[102]⟩]], .tuple [.tuple [.str ⟨#[97]⟩, .str ⟨#[98]⟩, .str ⟨#[99]⟩], .tuple [.str ⟨#[100]⟩], .tuple [.str ⟨#[101]⟩], .tuple [.str ⟨#[102]⟩]], .tuple [.tuple [.str ⟨#[97]⟩], .tuple [.str ⟨#[98]⟩], .tuple [.str ⟨#[99]⟩], .tuple [.str ⟨#[100]⟩], .tuple [.str ⟨#[101]⟩], .tuple [.str ⟨#[102]⟩]], .tuple [.int 9999999999999999999999999999999999999999, .int 10000000000000000000000000000000000000000]])), some (.val (.list [.tuple [.tuple [.str ⟨#[97]⟩, .str ⟨#[98]⟩, .str ⟨#[99]⟩, .str ⟨#[100]⟩]], .tuple [.tuple [.str ⟨#[97]⟩, .str ⟨#[98]⟩, .str ⟨#[99]⟩, .str ⟨#[100]⟩]], .tuple [.tuple [.str ⟨#[97]⟩, .str ⟨#[98]⟩, .str ⟨#[99]⟩, .str ⟨#[100]⟩]], .tuple [.tuple [.str ⟨#[97]⟩, .str ⟨#[98]⟩, .str ⟨#[99]⟩], .tuple [.str ⟨#[100]⟩]], .tuple [.tuple [.str ⟨#[97]⟩, .str ⟨#[98]⟩], .tuple [.str ⟨#[99]⟩], .tuple [.str ⟨#[100]⟩]], .tuple [.tuple [.str ⟨#[97]⟩], .tuple [.str ⟨#[98]⟩], .tuple [.str ⟨#[99]⟩], .tuple [.str ⟨#[100]⟩]], .tuple [.tuple [.str ⟨#[97]⟩], .tuple [.str ⟨#[98]⟩], .tuple [.str ⟨#[99]⟩], .tuple [.str ⟨#[100]⟩]], .tuple [.int 3, .int 4, .int 5], .tuple [], .tuple [], .tuple [.tuple [.str ⟨#[97]⟩], .tuple [.str ⟨#[98]⟩]], .tuple []])), some (.val (fdD false 6 gw hx)), none, none, some (.val (.tuple [.tuple [.str ⟨#[97]⟩, .str ⟨#[98]⟩, .str ⟨#[99]⟩, .str ⟨#[100]⟩]])), some (.val (.tuple [.tuple [.str ⟨#[97]⟩], .tuple [.str ⟨#[98]⟩], .tuple [.str ⟨#[99]⟩], .tuple [.str ⟨#[100]⟩]])), none, none], none⟩
def S9 : Stt := ⟨[some (.val (fdD false 4 gw hp)), some (.val (.list [.tuple [.tuple [.str ⟨#[97]⟩, .str ⟨#[98]⟩, .str ⟨#[99]⟩, .str ⟨#[100]⟩]], .tuple [.tuple [.str ⟨#[97]⟩, .str ⟨#[98]⟩, .str ⟨#[99]⟩, .str ⟨#[100]⟩]], .tuple [.tuple [.str ⟨#[97]⟩, .str ⟨#[98]⟩, .str ⟨#[99]⟩, .str ⟨#[100]⟩]], .tuple [.tuple [.str ⟨#[97]⟩, .str ⟨#[98]⟩, .str ⟨#[99]⟩], .tuple [.str ⟨#[100]⟩]], .tuple [.tuple [.str ⟨#[97]⟩, .str ⟨#[98]⟩], .tuple [.str ⟨#[99]⟩], .tuple [.str ⟨#[100]⟩]], .tuple [.tuple [.str ⟨#[97]⟩], .tuple [.str ⟨#[98]⟩], .tuple [.str ⟨#[99]⟩], .tuple [.str ⟨#[100]⟩]], .tuple [.tuple [.str ⟨#[97]⟩], .tuple [.str ⟨#[98]⟩], .tuple [.str ⟨#[99]⟩], .tuple [.str ⟨#[100]⟩]], .tuple [.int 3, .int 4, .int 5], .tuple [], .tuple [], .tuple [.tuple [.str ⟨#[97]⟩], .tuple [.str ⟨#[98]⟩]], .tuple [], .tuple [.tuple [.str ⟨#[97]⟩, .str ⟨#[98]⟩, .str ⟨#[99]⟩], .tuple [.str ⟨#[100]⟩, .str ⟨#[101]⟩, .str ⟨#[102]⟩]], .tuple [.tuple [.str ⟨#[97]⟩, .str ⟨#[98]⟩, .str ⟨#[99]⟩], .tuple [.str ⟨#[100]⟩, .str ⟨#[101]⟩, .str ⟨#[102]⟩]], .tuple [.tuple [.str ⟨#[97]⟩, .str ⟨#[98]⟩, .str ⟨#[99]⟩], .tuple [.str ⟨#[100]⟩], .tuple [.str ⟨#[101]⟩], .tuple [.str ⟨#[102]⟩]], .tuple [.tuple [.str ⟨#[97]⟩], .tuple [.str ⟨#[98]⟩], .tuple [.str ⟨#[99]⟩], .tuple [.str ⟨#[100]⟩], .tuple [.str ⟨#[101]⟩], .tuple [.str ⟨#[102]⟩]], .tuple [.int 9999999999999999999999999999999999999999, .int 10000000000000000000000000000000000000000]])), some (.val (.list [.tuple [.tuple [.str ⟨#[97]⟩, .str ⟨#[98]⟩, .str ⟨#[99]⟩, .str ⟨#[100]⟩]], .tuple [.tuple [.str ⟨#[97]⟩, .str ⟨#[98]⟩, .str ⟨#[99]⟩, .str ⟨#[100]⟩]], .tuple [.tuple [.str ⟨#[97]⟩, .str ⟨#[98]⟩, .str ⟨#[99]⟩, .str ⟨#[100]⟩]], .tuple [.tuple [.str ⟨#[97]⟩, .str ⟨#[98]⟩, .str ⟨#[99]⟩], .tuple [.str ⟨#[100]⟩]], .tuple [.tuple [.str ⟨#[97]⟩, .str ⟨#[98]⟩], .tuple [.str ⟨#[99]⟩], .tuple [.str ⟨#[100]⟩]], .tuple [.tuple [.str ⟨#[97]⟩], .tuple [.str ⟨#[98]⟩], .tuple [.str ⟨#[99]⟩], .tuple [.str ⟨#[100]⟩]], .tuple [.tuple [.str ⟨#[97]⟩], .tuple [.str ⟨#[98]⟩], .tuple [.str ⟨#[99]⟩], .tuple [.str ⟨#[100]⟩]], .tuple [.int 3, .int 4, .int 5], .tuple [], .tuple [], .tuple [.tuple [.str ⟨#[97]⟩], .tuple [.str ⟨#[98]⟩]], .tuple []])), some (.val (fdD false 6 gw hx)), some (.val (.tuple [.tuple [.str ⟨#[97]⟩, .str ⟨#[98]⟩, .str ⟨#[99]⟩], .tuple [.str ⟨#[100]⟩, .str ⟨#[101]⟩, .str ⟨#[102]⟩]])), none, some (.val (.tuple [.tuple [.str ⟨#[97]⟩, .str ⟨#[98]⟩, .str ⟨#[99]⟩, .str ⟨#[100]⟩]])), some (.val (.tuple [.tuple [.str ⟨#[97]⟩], .tuple [.str ⟨#[98]⟩], .tuple [.str ⟨#[99]⟩], .tuple [.str ⟨#[100]⟩]])), none, none], none⟩
def S10 : Stt := ⟨[some (.val (fdD false 4 gw hp)), some (.val (.list [.tuple [.tuple [.str ⟨#[97]⟩, .str ⟨#[98]⟩, .str ⟨#[99]⟩, .str ⟨#[100]⟩]], .tuple [.tuple [.str ⟨#[97]⟩, .str ⟨#[98]⟩, .str ⟨#[99]⟩, .str ⟨#[100]⟩]], .tuple [.tuple [.str ⟨#[97]⟩, .str ⟨#[98]⟩, .str ⟨#[99]⟩, .str ⟨#[100]⟩]], .tuple [.tuple [.str ⟨#[97]⟩, .str ⟨#[98]⟩, .str ⟨#[99]⟩], .tuple [.str ⟨#[100]⟩]], .tuple [.tuple [.str ⟨#[97]⟩, .str ⟨#[98]⟩], .tuple [.str ⟨#[99]⟩], .tuple [.str ⟨#[100]⟩]], .tuple [.tuple [.str ⟨#[97]⟩], .tuple [.str ⟨#[98]⟩], .tuple [.str ⟨#[99]⟩], .tuple [.str ⟨#[100]⟩]], .tuple [.tuple [.str ⟨#[97]⟩], .tuple [.str ⟨#[98]⟩], .tuple [.str ⟨#[99]⟩], .tuple [.str ⟨#[100]⟩]], .tuple [.int 3, .int 4, .int 5], .tuple [], .tuple [], .tuple [.tuple [.str ⟨#[97]⟩], .tuple [.str ⟨#[98]⟩]], .tuple [], .tuple [.tuple [.str ⟨#[97]⟩, .str ⟨#[98]⟩, .str ⟨#[99]⟩], .tuple [.str ⟨#[100]⟩, .str ⟨#[101]⟩, .str ⟨#[102]⟩]], .tuple [.tuple [.str ⟨#[97]⟩, .str ⟨#[98]⟩, .str ⟨#[99]⟩], .tuple [.str ⟨#[100]⟩, .str ⟨#[101]⟩, .str ⟨#[102]⟩]], .tuple [.tuple [.str ⟨#[97]⟩, .str ⟨#[98]⟩, .str ⟨#[99]⟩], .tuple [.str ⟨#[100]⟩], .tuple [.str ⟨#[101]⟩], .tuple [.str ⟨#[102]⟩]], .tuple [.tuple [.str ⟨#[97]⟩], .tuple [.str ⟨#[98]⟩], .tuple [.str ⟨#[99]⟩], .tuple [.str ⟨#[100]⟩], .tuple [.str ⟨#[101]⟩], .tuple [.str ⟨#[102]⟩]], .tuple [.int 9999999999999999999999999999999999999999, .int 10000000000000000000000000000000000000000]])), some (.val (.list [.tuple [.tuple [.str ⟨#[97]⟩, .str ⟨#[98]⟩, .str ⟨#[99]⟩, .str ⟨#[100]⟩]], .tuple [.tuple [.str ⟨#[97]⟩, .str ⟨#[98]⟩, .str ⟨#[99]⟩, .str ⟨#[100]⟩]], .tuple [.tuple [.str ⟨#[97]⟩, .str ⟨#[98]⟩, .str ⟨#[99]⟩, .str ⟨#[100]⟩]], .tuple [.tuple [.str ⟨#[97]⟩, .str ⟨#[98]⟩, .str ⟨#[99]⟩], .tuple [.str ⟨#[100]⟩]], .tuple [.tuple [.str ⟨#[97]⟩, .str ⟨#[98]⟩], .tuple [.str ⟨#[99]⟩], .tuple [.str ⟨#[100]⟩]], .tuple [.tuple [.str ⟨#[97]⟩], .tuple [.str ⟨#[98]⟩], .tuple [.str ⟨#[99]⟩], .tuple [.str ⟨#[100]⟩]], .tuple [.tuple [.str ⟨#[97]⟩], .tuple [.str ⟨#[98]⟩], .tuple [.str ⟨#[99]⟩], .tuple [.str ⟨#[100]⟩]], .tuple [.int 3, .int 4, .int 5], .tuple [], .tuple [], .tuple [.tuple [.str ⟨#[97]⟩], .tuple [.str ⟨#[98]⟩]], .tuple [], .tuple [.tuple [.str ⟨#[97]⟩, .str ⟨#[98]⟩, .str ⟨#[99]⟩], .tuple [.str ⟨#[100]⟩, .str ⟨#[101]⟩, .str ⟨#[102]⟩]], .tuple [.tuple [.str ⟨#[97]⟩, .str ⟨#[98]⟩, .str ⟨#[99]⟩], .tuple [.str ⟨#[100]⟩, .str ⟨#[101]⟩, .str ⟨#[102]⟩]], .tuple [.tuple [.str ⟨#[97]⟩, .str ⟨#[98]⟩, .str ⟨#[99]⟩], .tuple [.str ⟨#[100]⟩], .tuple [.str ⟨#[101]⟩], .tuple [.str ⟨#[102]⟩]], .tuple [.tuple [.str ⟨#[97]⟩], .tuple [.str ⟨#[98]⟩], .tuple [.str ⟨#[99]⟩], .tuple [.str ⟨#[100]⟩], .tuple [.str ⟨#[101]⟩], .tuple [.str ⟨#[102]⟩]], .tuple [.int 9999999999999999999999999999999999999999, .int 10000000000000000000000000000000000000000]])), some (.val (fdD false 6 gw hx)), some (.val (.tuple [.tuple [.str ⟨#[97]⟩, .str ⟨#[98]⟩, .str ⟨#[99]⟩], .tuple [.str ⟨#[100]⟩, .str ⟨#[101]⟩, .str ⟨#[102]⟩]])), none, some (.val (.tuple [.tuple [.str ⟨#[97]⟩, .str ⟨#[98]⟩, .str ⟨#[99]⟩, .str ⟨#[100]⟩]])), some (.val (.tuple [.tuple [.str ⟨#[97]⟩], .tuple [.str ⟨#[98]⟩], .tuple [.str ⟨#[99]⟩], .tuple [.str ⟨#[100]⟩]])), none, none], none⟩
def S11 : Stt := ⟨[some (.val (fdD false 4 gw hp)), some (.val (.list [.tuple [.tuple [.str ⟨#[97]⟩, .str ⟨#[98]⟩, .str ⟨#[99]⟩, .str ⟨#[100]⟩]], .tuple [.tuple [.str ⟨#[97]⟩, .str ⟨#[98]⟩, .str ⟨#[99]⟩, .str ⟨#[100]⟩]], .tuple [.tuple [.str ⟨#[97]⟩, .str ⟨#[98]⟩, .str ⟨#[99]⟩, .str ⟨#[100]⟩]], .tuple [.tuple [.str ⟨#[97]⟩, .str ⟨#[98]⟩, .str ⟨#[99]⟩], .tuple [.str ⟨#[100]⟩]], .tuple [.tuple [.str ⟨#[97]⟩, .str ⟨#[98]⟩], .tuple [.str ⟨#[99]⟩], .tuple [.str ⟨#[100]⟩]], .tuple [.tuple [.str ⟨#[97]⟩], .tuple [.str ⟨#[98]⟩], .tuple [.str ⟨#[99]⟩], .tuple [.str ⟨#[100]⟩]], .tuple [.tuple [.str ⟨#[97]⟩], .tuple [.str ⟨#[98]⟩], .tuple [.str ⟨#[99]⟩], .tuple [.str ⟨#[100]⟩]], .tuple [.int 3, .int 4, .int 5], .tuple [], .tuple [], .tuple [.tuple [.str ⟨#[97]⟩], .tuple [.str ⟨#[98]⟩]], .tuple [], .tuple [.tuple [.str ⟨#[97]⟩, .str ⟨#[98]⟩, .str ⟨#[99]⟩], .tuple [.str ⟨#[100]⟩, .str ⟨#[101]⟩, .str ⟨#[102]⟩]], .tuple [.tuple [.str ⟨#[97]⟩, .str ⟨#[98]⟩, .str ⟨#[99]⟩], .tuple [.str ⟨#[100]⟩, .str ⟨#[101]⟩, .str ⟨#[102]⟩]], .tuple [.tuple [.str ⟨#[97]⟩, .str ⟨#[98]⟩, .str ⟨#[99]⟩], .tuple [.str ⟨#[100]⟩], .tuple [.str ⟨#[101]⟩], .tuple [.str ⟨#[102]⟩]], .tuple [.tuple [.str ⟨#[97]⟩], .tuple [.str ⟨#[98]⟩], .tuple [.str ⟨#[99]⟩], .tuple [.str ⟨#[100]⟩], .tuple [.str ⟨#[101]⟩], .tuple [.str ⟨#[102]⟩]], .tuple [.int 9999999999999999999999999999999999999999, .int 10000000000000000000000000000000000000000]])), some (.val (.list [.tuple [.tuple [.str ⟨#[97]⟩, .str ⟨#[98]⟩, .str ⟨#[99]⟩, .str ⟨#[100]⟩]], .tuple [.tuple [.str ⟨#[97]⟩, .str ⟨#[98]⟩, .str ⟨#[99]⟩, .str ⟨#[100]⟩]], .tuple [.tuple [.str ⟨#[97]⟩, .str ⟨#[98]⟩, .str ⟨#[99]⟩, .str ⟨#[100]⟩]], .tuple [.tuple [.str ⟨#[97]⟩, .str ⟨#[98]⟩, .str ⟨#[99]⟩], .tuple [.str ⟨#[100]⟩]], .tuple [.tuple [.str ⟨#[97]⟩, .str ⟨#[98]⟩], .tuple [.str ⟨#[99]⟩], .tuple [.str ⟨#[100]⟩]], .tuple [.tuple [.str ⟨#[97]⟩], .tuple [.str ⟨#[98]⟩], .tuple [.str ⟨#[99]⟩], .tuple [.str ⟨#[100]⟩]], .tuple [.tuple [.str ⟨#[97]⟩], .tuple [.str ⟨#[98]⟩], .tuple [.str ⟨#[99]⟩], .tuple [.str ⟨#[100]⟩]], .tuple [.int 3, .int 4, .int 5], .tuple [], .tuple [], .tuple [.tuple [.str ⟨#[97]⟩], .tuple [.str ⟨#[98]⟩]], .tuple [], .tuple [.tuple [.str ⟨#[97]⟩, .str ⟨#[98]⟩, .str ⟨#[99]⟩], .tuple [.str ⟨#[100]⟩, .str ⟨#[101]⟩, .str ⟨#[102]⟩]], .tuple [.tuple [.str ⟨#[97]⟩, .str ⟨#[98]⟩, .str ⟨#[99]⟩], .tuple [.str ⟨#[100]⟩, .str ⟨#[101]⟩, .str ⟨#[102]⟩]], .tuple [.tuple [.str ⟨#[97]⟩, .str ⟨#[98]⟩, .str ⟨#[99]⟩], .tuple [.str ⟨#[100]⟩], .tuple [.str ⟨#[101]⟩], .tuple [.str ⟨#[102]⟩]], .tuple [.tuple [.str ⟨#[97]⟩], .tuple [.str ⟨#[98]⟩], .tuple [.str ⟨#[99]⟩], .tuple [.str ⟨#[100]⟩], .tuple [.str ⟨#[101]⟩], .tuple [.str ⟨#[102]⟩]], .tuple [.int 9999999999999999999999999999999999999999, .int 10000000000000000000000000000000000000000]])), some (.val (fdD false 6 gw hx)), some (.val (.tuple [.tuple [.str ⟨#[97]⟩, .str ⟨#[98]⟩, .str ⟨#[99]⟩], .tuple [.str ⟨#[100]⟩, .str ⟨#[101]⟩, .str ⟨#[102]⟩]])), some (.val (fdD false 12 gw hw)), some (.val (.tuple [.tuple [.str ⟨#[97]⟩, .str ⟨#[98]⟩, .str ⟨#[99]⟩, .str ⟨#[100]⟩]])), some (.val (.tuple [.tuple [.str ⟨#[97]⟩], .tuple [.str ⟨#[98]⟩], .tuple [.str ⟨#[99]⟩], .tuple [.str ⟨#[100]⟩]])), none, none], none⟩
def S12 : Stt := ⟨[some (.val (fdD false 4 gw hp)), some (.val (.list [.tuple [.tuple [.str ⟨#[97]⟩, .str ⟨#[98]⟩, .str ⟨#[99]⟩, .str ⟨#[100]⟩]], .tuple [.tuple [.str ⟨#[97]⟩, .str ⟨#[98]⟩, .str ⟨#[99]⟩, .str ⟨#[100]⟩]], .tuple [.tuple [.str ⟨#[97]⟩, .str ⟨#[98]⟩, .str ⟨#[99]⟩, .str ⟨#[100]⟩]], .tuple [.tuple [.str ⟨#[97]⟩, .str ⟨#[98]⟩, .str ⟨#[99]⟩], .tuple [.str ⟨#[100]⟩]], .tuple [.tuple [.str ⟨#[97]⟩, .str ⟨#[98]⟩], .tuple [.str ⟨#[99]⟩], .tuple [.str ⟨#[100]⟩]], .tuple [.tuple [.str ⟨#[97]⟩], .tuple [.str ⟨#[98]⟩], .tuple [.str ⟨#[99]⟩], .tuple [.str ⟨#[100]⟩]], .tuple [.tuple [.str ⟨#[97]⟩], .tuple [.str ⟨#[98]⟩], .tuple [.str ⟨#[99]⟩], .tuple [.str ⟨#[100]⟩]], .tuple [.int 3, .int 4, .int 5], .tuple [], .tuple [], .tuple [.tuple [.str ⟨#[97]⟩], .tuple [.str ⟨#[98]⟩]], .tuple [], .tuple [.tuple [.str ⟨#[97]⟩, .str ⟨#[98]⟩, .str ⟨#[99]⟩], .tuple [.str ⟨#[100]⟩, .str ⟨#[101]⟩, .str ⟨#[102]⟩]], .tuple [.tuple [.str ⟨#[97]⟩, .str ⟨#[98]⟩, .str ⟨#[99]⟩], .tuple [.str ⟨#[100]⟩, .str ⟨#[101]⟩, .str ⟨#[102]⟩]], .tuple [.tuple [.str ⟨#[97]⟩, .str ⟨#[98]⟩, .str ⟨#[99]⟩], .tuple [.str ⟨#[100]⟩], .tuple [.str ⟨#[101]⟩], .tuple [.str ⟨#[102]⟩]], .tuple [.tuple [.str ⟨#[97]⟩], .tuple [.str ⟨#[98]⟩], .tuple [.str ⟨#[99]⟩], .tuple [.str ⟨#[100]⟩], .tuple [.str ⟨#[101]⟩], .tuple [.str ⟨#[102]⟩]], .tuple [.int 9999999999999999999999999999999999999999, .int 10000000000000000000000000000000000000000], .tuple [.int 90, .int 91, .int 92, .int 93, .int 94, .int 95, .int 96, .int 97, .int 98, .int 99, .int 100], .tuple [.tuple [.str ⟨#[97]⟩, .str ⟨#[98]⟩, .str ⟨#[99]⟩, .str ⟨#[100]⟩, .str ⟨#[101]⟩, .str ⟨#[102]⟩], .tuple [.str ⟨#[103]⟩], .tuple [.str ⟨#[104]⟩], .tuple [.str ⟨#[105]⟩], .tuple [.str ⟨#[106]⟩], .tuple [.str ⟨#[107]⟩], .tuple [.str ⟨#[108]⟩]]])), some (.val (.list [.tuple [.tuple [.str ⟨#[97]⟩, .str ⟨#[98]⟩, .str ⟨#[99]⟩, .str ⟨#[100]⟩]], .tuple [.tuple [.str ⟨#[97]⟩, .str ⟨#[98]⟩, .str ⟨#[99]⟩, .str ⟨#[100]⟩]], .tuple [.tuple [.str ⟨#[97]⟩, .str ⟨#[98]⟩, .str ⟨#[99]⟩, .str ⟨#[100]⟩]], .tuple [.tuple [.str ⟨#[97]⟩, .str ⟨#[98]⟩, .str ⟨#[99]⟩], .tuple [.str ⟨#[100]⟩]], .tuple [.tuple [.str ⟨#[97]⟩, .str ⟨#[98]⟩], .tuple [.str ⟨#[99]⟩], .tuple [.str ⟨#[100]⟩]], .tuple [.tuple [.str ⟨#[97]⟩], .tuple [.str ⟨#[98]⟩], .tuple [.str ⟨#[99]⟩], .tuple [.str ⟨#[100]⟩]], .tuple [.tuple [.str ⟨#[97]⟩], .tuple [.str ⟨#[98]⟩], .tuple [.str ⟨#[99]⟩], .tuple [.str ⟨#[100]⟩]], .tuple [.int 3, .int 4, .int 5], .tuple [], .tuple [], .tuple [.tuple [.str ⟨#[97]⟩], .tuple [.str ⟨#[98]⟩]], .tuple [], .tuple [.tuple [.str ⟨#[97]⟩, .str ⟨#[98]⟩, .str ⟨#[99]⟩], .tuple [.str ⟨#[100]⟩, .str ⟨#[101]⟩, .str ⟨#[102]⟩]], .tuple [.tuple [.str ⟨#[97]⟩, .str ⟨#[98]⟩, .str ⟨#[99]⟩], .tuple [.str ⟨#[100]⟩, .str ⟨#[101]⟩, .str ⟨#[102]⟩]], .tuple [.tuple [.str ⟨#[97]⟩, .str ⟨#[98]⟩, .str ⟨#[99]⟩], .tuple [.str ⟨#[100]⟩], .tuple [.str ⟨#[101]⟩], .tuple [.str ⟨#[102]⟩]], .tuple [.tuple [.str ⟨#[97]⟩], .tuple [.str ⟨#[98]⟩], .tuple [.str ⟨#[99]⟩], .tuple [.str ⟨#[100]⟩], .tuple [.str ⟨#[101]⟩], .tuple [.str ⟨#[102]⟩]], .tuple [.int 9999999999999999999999999999999999999999, .int 10000000000000000000000000000000000000000]])), some (.val (fdD false 6 gw hx)), some (.val (.tuple [.tuple [.str ⟨#[97]⟩, .str ⟨#[98]⟩, .str ⟨#[99]⟩], .tuple [.str ⟨#[100]⟩, .str ⟨#[101]⟩, .str ⟨#[102]⟩]])), some (.val (fdD false 12 gw hw)), some (.val (.tuple [.tuple [.str ⟨#[97]⟩, .str ⟨#[98]⟩, .str ⟨#[99]⟩, .str ⟨#[100]⟩]])), some (.val (.tuple [.tuple [.str ⟨#[97]⟩], .tuple [.str ⟨#[98]⟩], .tuple [.str ⟨#[99]⟩], .tuple [.str ⟨#[100]⟩]])), none, none], none⟩
def S13 : Stt := ⟨[some (.val (fdD false 4 gw hp)), some (.val (.list [.tuple [.tuple [.str ⟨#[97]⟩, .str ⟨#[98]⟩, .str ⟨#[99]⟩, .str ⟨#[100]⟩]], .tuple [.tuple [.str ⟨#[97]⟩, .str ⟨#[98]⟩, .str ⟨#[99]⟩, .str ⟨#[100]⟩]], .tuple [.tuple [.str ⟨#[97]⟩, .str ⟨#[98]⟩, .str ⟨#[99]⟩, .str ⟨#[100]⟩]], .tuple [.tuple [.str ⟨#[97]⟩, .str ⟨#[98]⟩, .str ⟨#[99]⟩], .tuple [.str ⟨#[100]⟩]], .tuple [.tuple [.str ⟨#[97]⟩, .str ⟨#[98]⟩], .tuple [.str ⟨#[99]⟩], .tuple [.str ⟨#[100]⟩]], .tuple [.tuple [.str ⟨#[97]⟩], .tuple [.str ⟨#[98]⟩], .tuple [.str ⟨#[99]⟩], .tuple [.str ⟨#[100]⟩]], .tuple [.tuple [.str ⟨#[97]⟩], .tuple [.str ⟨#[98]⟩], .tuple [.str ⟨#[99]⟩], .tuple [.str ⟨#[100]⟩]], .tuple [.int 3, .int 4, .int 5], .tuple [], .tuple [], .tuple [.tuple [.str ⟨#[97]⟩], .tuple [.str ⟨#[98]⟩]], .tuple [], .tuple [.tuple [.str ⟨#[97]⟩, .str ⟨#[98]⟩, .str ⟨#[99]⟩], .tuple [.str ⟨#[100]⟩, .str ⟨#[101]⟩, .str ⟨#[102]⟩]], .tuple [.tuple [.str ⟨#[97]⟩, .str ⟨#[98]⟩, .str ⟨#[99]⟩], .tuple [.str ⟨#[100]⟩, .str ⟨#[101]⟩, .str ⟨#[102]⟩]], .tuple [.tuple [.str ⟨#[97]⟩, .str ⟨#[98]⟩, .str ⟨#[99]⟩], .tuple [.str ⟨#[100]⟩], .tuple [.str ⟨#[101]⟩], .tuple [.str ⟨#[102]⟩]], .tuple [.tuple [.str ⟨#[97]⟩], .tuple [.str ⟨#[98]⟩], .tuple [.str ⟨#[99]⟩], .tuple [.str ⟨#[100]⟩], .tuple [.str ⟨#[101]⟩], .tuple [.str ⟨#[102]⟩]], .tuple [.int 9999999999999999999999999999999999999999, .int 10000000000000000000000000000000000000000], .tuple [.int 90, .int 91, .int 92, .int 93, .int 94, .int 95, .int 96, .int 97, .int 98, .int 99, .int 100], .tuple [.tuple [.str ⟨#[97]⟩, .str ⟨#[98]⟩, .str ⟨#[99]⟩, .str ⟨#[100]⟩, .str ⟨#[101]⟩, .str ⟨#[102]⟩], .tuple [.str ⟨#[103]⟩], .tuple [.str ⟨#[104]⟩], .tuple [.str ⟨#[105]⟩], .tuple [.str ⟨#[106]⟩], .tuple [.str ⟨#[107]⟩], .tuple [.str ⟨#[108]⟩]]])), some (.val (.list [.tuple [.tuple [.str ⟨#[97]⟩, .str ⟨#[98]⟩, .str ⟨#[99]⟩, .str ⟨#[100]⟩]], .tuple [.tuple [.str ⟨#[97]⟩, .str ⟨#[98]⟩, .str ⟨#[99]⟩, .str ⟨#[100]⟩]], .tuple [.tuple [.str ⟨#[97]⟩, .str ⟨#[98]⟩, .str ⟨#[99]⟩, .str ⟨#[100]⟩]], .tuple [.tuple [.str ⟨#[97]⟩, .str ⟨#[98]⟩, .str ⟨#[99]⟩], .tuple [.str ⟨#[100]⟩]], .tuple [.tuple [.str ⟨#[97]⟩, .str ⟨#[98]⟩], .tuple [.str ⟨#[99]⟩], .tuple [.str ⟨#[100]⟩]], .tuple [.tuple [.str ⟨#[97]⟩], .tuple [.str ⟨#[98]⟩], .tuple [.str ⟨#[99]⟩], .tuple [.str ⟨#[100]⟩]], .tuple [.tuple [.str ⟨#[97]⟩], .tuple [.str ⟨#[98]⟩], .tuple [.str ⟨#[99]⟩], .tuple [.str ⟨#[100]⟩]], .tuple [.int 3, .int 4, .int 5], .tuple [], .tuple [], .tuple [.tuple [.str ⟨#[97]⟩], .tuple [.str ⟨#[98]⟩]], .tuple [], .tuple [.tuple [.str ⟨#[97]⟩, .str ⟨#[98]⟩, .str ⟨#[99]⟩], .tuple [.str ⟨#[100]⟩, .str ⟨#[101]⟩, .str ⟨#[102]⟩]], .tuple [.tuple [.str ⟨#[97]⟩, .str ⟨#[98]⟩, .str ⟨#[99]⟩], .tuple [.str ⟨#[100]⟩, .str ⟨#[101]⟩, .str ⟨#[102]⟩]], .tuple [.tuple [.str ⟨#[97]⟩, .str ⟨#[98]⟩, .str ⟨#[99]⟩], .tuple [.str ⟨#[100]⟩], .tuple [.str ⟨#[101]⟩], .tuple [.str ⟨#[102]⟩]], .tuple [.tuple [.str ⟨#[97]⟩], .tuple [.str ⟨#[98]⟩], .tuple [.str ⟨#[99]⟩], .tuple [.str ⟨#[100]⟩], .tuple [.str ⟨#[101]⟩], .tuple [.str ⟨#[102]⟩]], .tuple [.int 9999999999999999999999999999999999999999, .int 10000000000000000000000000000000000000000], .tuple [.int 90, .int 91, .int 92, .int 93, .int 94, .int 95, .int 96, .int 97, .int 98, .int 99, .int 100], .tuple [.tuple [.str ⟨#[97]⟩, .str ⟨#[98]⟩, .str ⟨#[99]⟩, .str ⟨#[100]⟩, .str ⟨#[101]⟩, .str ⟨#[102]⟩], .tuple [.str ⟨#[103]⟩], .tuple [.str ⟨#[104]⟩], .tuple [.str ⟨#[105]⟩], .tuple [.str ⟨#[106]⟩], .tuple [.str ⟨#[107]⟩], .tuple [.str ⟨#[108]⟩]]])), some (.val (fdD false 6 gw hx)), some (.val (.tuple [.tuple [.str ⟨#[97]⟩, .str ⟨#[98]⟩, .str ⟨#[99]⟩], .tuple [.str ⟨#[100]⟩, .str ⟨#[101]⟩, .str ⟨#[102]⟩]])), some (.val (fdD false 12 gw hw)), some (.val (.tuple [.tuple [.str ⟨#[97]⟩, .str ⟨#[98]⟩, .str ⟨#[99]⟩, .str ⟨#[100]⟩]])), some (.val (.tuple [.tuple [.str ⟨#[97]⟩], .tuple [.str ⟨#[98]⟩], .tuple [.str ⟨#[99]⟩], .tuple [.str ⟨#[100]⟩]])), none, none], none⟩
theorem k1 : h1 S0 = some (.nx S1) := by kernel_rfl
theorem k2 : h2 S1 = some (.nx S2) := by kernel_rfl
theorem k3 : h3 S2 = some (.nx S3) := by kernel_rfl
theorem k4 : h4 S3 = some (.nx S4) := by kernel_rfl
theorem k5 : h5 S4 = some (.nx S5) := by kernel_rfl
theorem k6 : h6 S5 = some (.nx S6) := by kernel_rfl
theorem k7 : h7 S6 = some (.nx S7) := by kernel_rfl
theorem k9 : h9 S8 = some (.nx S9) := by kernel_rfl
theorem k10 : h10 S9 = some (.nx S10) := by kernel_rfl
theorem k11 : h11 S10 = some (.nx S11) := by kernel_rfl
theorem k13 : h13 S12 = some (.nx S13) := by kernel_rfl
theorem a1 : m_parting_at [.val (fdD false 6 gw hx), .val (.int 0)] none = some (.val (.tuple [.tuple [.str ⟨#[97]⟩, .str ⟨#[98]⟩, .str ⟨#[99]⟩], .tuple [.str ⟨#[100]⟩, .str ⟨#[101]⟩, .str ⟨#[102]⟩]]), none) := part_6 (by kernel_rfl)
theorem a2 : m_parting_at [.val (fdD false 6 gw hx), .val (.int (10 ^ 40 - 2))] none = some (.val (.tuple [.tuple [.str ⟨#[97]⟩, .str ⟨#[98]⟩, .str ⟨#[99]⟩], .tuple [.str ⟨#[100]⟩, .str ⟨#[101]⟩, .str ⟨#[102]⟩]]), none) := part_6 (by kernel_rfl)
theorem a3 : m_parting_at [.val (fdD false 6 gw hx), .val (.int (10 ^ 40 - 1))] none = some (.val (.tuple [.tuple [.str ⟨#[97]⟩, .str ⟨#[98]⟩, .str ⟨#[99]⟩], .tuple [.str ⟨#[100]⟩], .tuple [.str ⟨#[101]⟩], .tuple [.str ⟨#[102]⟩]]), none) := part_6 (by kernel_rfl)
theorem a4 : m_parting_at [.val (fdD false 6 gw hx), .val (.int (10 ^ 40))] none = some (.val (.tuple [.tuple [.str ⟨#[97]⟩], .tuple [.str ⟨#[98]⟩], .tuple [.str ⟨#[99]⟩], .tuple [.str ⟨#[100]⟩], .tuple [.str ⟨#[101]⟩], .tuple [.str ⟨#[102]⟩]]), none) := part_6 (by kernel_rfl)
theorem a5 : m_turning_waters [.val (fdD false 6 gw hx)] none = some (.val (.tuple [.int 9999999999999999999999999999999999999999, .int 10000000000000000000000000000000000000000]), none) := turn_6 (by kernel_rfl)
theorem a6 : m_turning_waters [.val (fdD false 12 gw hw)] none = some (.val (.tuple [.int 90, .int 91, .int 92, .int 93, .int 94, .int 95, .int 96, .int 97, .int 98, .int 99, .int 100]), none) := turn_w (by kernel_rfl)
theorem a7 : m_parting_at [.val (fdD false 12 gw hw), .val (.int 95)] none = some (.val (.tuple [.tuple [.str ⟨#[97]⟩, .str ⟨#[98]⟩, .str ⟨#[99]⟩, .str ⟨#[100]⟩, .str ⟨#[101]⟩, .str ⟨#[102]⟩], .tuple [.str ⟨#[103]⟩], .tuple [.str ⟨#[104]⟩], .tuple [.str ⟨#[105]⟩], .tuple [.str ⟨#[106]⟩], .tuple [.str ⟨#[107]⟩], .tuple [.str ⟨#[108]⟩]]), none) := part_w (by kernel_rfl)
theorem k8 : h8 S7 = some (.nx S8) := 
  e_asg (s1 := S7) (d := .list [.tuple [.tuple [.str ⟨#[97]⟩, .str ⟨#[98]⟩, .str ⟨#[99]⟩, .str ⟨#[100]⟩]], .tuple [.tuple [.str ⟨#[97]⟩, .str ⟨#[98]⟩, .str ⟨#[99]⟩, .str ⟨#[100]⟩]], .tuple [.tuple [.str ⟨#[97]⟩, .str ⟨#[98]⟩, .str ⟨#[99]⟩, .str ⟨#[100]⟩]], .tuple [.tuple [.str ⟨#[97]⟩, .str ⟨#[98]⟩, .str ⟨#[99]⟩], .tuple [.str ⟨#[100]⟩]], .tuple [.tuple [.str ⟨#[97]⟩, .str ⟨#[98]⟩], .tuple [.str ⟨#[99]⟩], .tuple [.str ⟨#[100]⟩]], .tuple [.tuple [.str ⟨#[97]⟩], .tuple [.str ⟨#[98]⟩], .tuple [.str ⟨#[99]⟩], .tuple [.str ⟨#[100]⟩]], .tuple [.tuple [.str ⟨#[97]⟩], .tuple [.str ⟨#[98]⟩], .tuple [.str ⟨#[99]⟩], .tuple [.str ⟨#[100]⟩]], .tuple [.int 3, .int 4, .int 5], .tuple [], .tuple [], .tuple [.tuple [.str ⟨#[97]⟩], .tuple [.str ⟨#[98]⟩]], .tuple [], .tuple [.tuple [.str ⟨#[97]⟩, .str ⟨#[98]⟩, .str ⟨#[99]⟩], .tuple [.str ⟨#[100]⟩, .str ⟨#[101]⟩, .str ⟨#[102]⟩]], .tuple [.tuple [.str ⟨#[97]⟩, .str ⟨#[98]⟩, .str ⟨#[99]⟩], .tuple [.str ⟨#[100]⟩, .str ⟨#[101]⟩, .str ⟨#[102]⟩]], .tuple [.tuple [.str ⟨#[97]⟩, .str ⟨#[98]⟩, .str ⟨#[99]⟩], .tuple [.str ⟨#[100]⟩], .tuple [.str ⟨#[101]⟩], .tuple [.str ⟨#[102]⟩]], .tuple [.tuple [.str ⟨#[97]⟩], .tuple [.str ⟨#[98]⟩], .tuple [.str ⟨#[99]⟩], .tuple [.str ⟨#[100]⟩], .tuple [.str ⟨#[101]⟩], .tuple [.str ⟨#[102]⟩]], .tuple [.int 9999999999999999999999999999999999999999, .int 10000000000000000000000000000000000000000]]) (e_bin (s1 := S7) (s2 := S7) rfl (e_ofL (e_lst (e_cons (s1 := S7) (e_callV (s1 := S7) (e_cons rfl (e_cons rfl rfl)) a1) (e_cons (s1 := S7) (e_callV (s1 := S7) (e_cons rfl (e_cons (d := .int (10 ^ 40 - 2)) (s1 := S7) (by kernel_rfl) rfl)) a2) (e_cons (s1 := S7) (e_callV (s1 := S7) (e_cons rfl (e_cons (d := .int (10 ^ 40 - 1)) (s1 := S7) (by kernel_rfl) rfl)) a3) (e_cons (s1 := S7) (e_callV (s1 := S7) (e_cons rfl (e_cons (d := .int (10 ^ 40)) (s1 := S7) (by kernel_rfl) rfl)) a4) (e_cons (s1 := S7) (e_callV (s1 := S7) (e_cons rfl rfl) a5) rfl))))) (Nat.le_of_ble_eq_true rfl))) (add_list (Nat.le_of_ble_eq_true rfl))) (by kernel_rfl)
theorem k12 : h12 S11 = some (.nx S12) := 
  e_asg (s1 := S11) (d := .list [.tuple [.tuple [.str ⟨#[97]⟩, .str ⟨#[98]⟩, .str ⟨#[99]⟩, .str ⟨#[100]⟩]], .tuple [.tuple [.str ⟨#[97]⟩, .str ⟨#[98]⟩, .str ⟨#[99]⟩, .str ⟨#[100]⟩]], .tuple [.tuple [.str ⟨#[97]⟩, .str ⟨#[98]⟩, .str ⟨#[99]⟩, .str ⟨#[100]⟩]], .tuple [.tuple [.str ⟨#[97]⟩, .str ⟨#[98]⟩, .str ⟨#[99]⟩], .tuple [.str ⟨#[100]⟩]], .tuple [.tuple [.str ⟨#[97]⟩, .str ⟨#[98]⟩], .tuple [.str ⟨#[99]⟩], .tuple [.str ⟨#[100]⟩]], .tuple [.tuple [.str ⟨#[97]⟩], .tuple [.str ⟨#[98]⟩], .tuple [.str ⟨#[99]⟩], .tuple [.str ⟨#[100]⟩]], .tuple [.tuple [.str ⟨#[97]⟩], .tuple [.str ⟨#[98]⟩], .tuple [.str ⟨#[99]⟩], .tuple [.str ⟨#[100]⟩]], .tuple [.int 3, .int 4, .int 5], .tuple [], .tuple [], .tuple [.tuple [.str ⟨#[97]⟩], .tuple [.str ⟨#[98]⟩]], .tuple [], .tuple [.tuple [.str ⟨#[97]⟩, .str ⟨#[98]⟩, .str ⟨#[99]⟩], .tuple [.str ⟨#[100]⟩, .str ⟨#[101]⟩, .str ⟨#[102]⟩]], .tuple [.tuple [.str ⟨#[97]⟩, .str ⟨#[98]⟩, .str ⟨#[99]⟩], .tuple [.str ⟨#[100]⟩, .str ⟨#[101]⟩, .str ⟨#[102]⟩]], .tuple [.tuple [.str ⟨#[97]⟩, .str ⟨#[98]⟩, .str ⟨#[99]⟩], .tuple [.str ⟨#[100]⟩], .tuple [.str ⟨#[101]⟩], .tuple [.str ⟨#[102]⟩]], .tuple [.tuple [.str ⟨#[97]⟩], .tuple [.str ⟨#[98]⟩], .tuple [.str ⟨#[99]⟩], .tuple [.str ⟨#[100]⟩], .tuple [.str ⟨#[101]⟩], .tuple [.str ⟨#[102]⟩]], .tuple [.int 9999999999999999999999999999999999999999, .int 10000000000000000000000000000000000000000], .tuple [.int 90, .int 91, .int 92, .int 93, .int 94, .int 95, .int 96, .int 97, .int 98, .int 99, .int 100], .tuple [.tuple [.str ⟨#[97]⟩, .str ⟨#[98]⟩, .str ⟨#[99]⟩, .str ⟨#[100]⟩, .str ⟨#[101]⟩, .str ⟨#[102]⟩], .tuple [.str ⟨#[103]⟩], .tuple [.str ⟨#[104]⟩], .tuple [.str ⟨#[105]⟩], .tuple [.str ⟨#[106]⟩], .tuple [.str ⟨#[107]⟩], .tuple [.str ⟨#[108]⟩]]]) (e_bin (s1 := S11) (s2 := S11) rfl (e_ofL (e_lst (e_cons (s1 := S11) (e_callV (s1 := S11) (e_cons rfl rfl) a6) (e_cons (s1 := S11) (e_callV (s1 := S11) (e_cons rfl (e_cons rfl rfl)) a7) rfl)) (Nat.le_of_ble_eq_true rfl))) (add_list (Nat.le_of_ble_eq_true rfl))) (by kernel_rfl)
theorem k14 : h14 S13 = some (.rt (.val (.bool true)) none) := by kernel_rfl
theorem byhand : m__law_by_hand_right [] none = some (.val (.bool true), none) :=
  e_run rfl (e_seq k1 (e_seq k2 (e_seq k3 (e_seq k4 (e_seq k5 (e_seq k6 (e_seq k7 (e_seq k8 (e_seq k9 (e_seq k10 (e_seq k11 (e_seq k12 (e_seq k13 k14)))))))))))))
theorem plain : ∀ ns : List Int, ns.length ≤ 63 → m_law [.val (scrD ns)] none = some (.val (.bool true), none) := by
  intro ns hl
  obtain ⟨cs, e, h1, h2⟩ := cells_ok (ns := ns) (t := 3) (by decide) (by decide) hl
  exact e_run rfl (e_seq (e_sifF (b := false) (e_notT (b := true) (e_tru (e_call0 byhand) rfl)) rfl rfl) (e_seq (e_asg (e_callW (e_cons rfl (e_cons rfl rfl)) e) rfl) (e_ret2 (all_ok (R := m__law_right) (c := 142367) (by decide) (by decide) h2 fun u hu => right_ok hu) rfl)))
end DT
set_option pp.maxSteps 60
set_option Elab.async false
set_option linter.all false
set_option maxRecDepth 100000
set_option maxHeartbeats 4000000
namespace DT
open PySem PySem.Spec PyProof.Rows L2 DL
theorem all_mk {l : PySem.W.OpenLaw} {w : World} {K : PySem.W.Frag} {h : Heap} {mg : Str → Option Value} {fa : Addr} (X : K.In h) (G : h.Ns mainGlobals mg) (hfa : mg "law" = some (.ref fa))
    {f0 : Addr} {od0 an0 : Option Addr} {sl0 : Array (Option Value)} {oc0 kV0 dc0 pm0 cd0 ct0 : Value}
    (a0 : PySem.W.nsIn K mainGlobals "pair_of" = some (some (.ref f0))) (l0 : K.lookup f0 = some ⟨oc0, od0, .func (PySem.W.fnOf "pair_of" "pair_of" (defArgs st_pair_of) (defBody st_pair_of) (defScope st_pair_of) .none kV0 dc0 pm0 an0 cd0 ct0), sl0⟩) (c0 : PySem.W.codeIn K cd0 "pair_of" = true) (k0 : PySem.W.keepIn K (.ref f0) = true)
    {f1 : Addr} {od1 an1 : Option Addr} {sl1 : Array (Option Value)} {oc1 kV1 dc1 pm1 cd1 ct1 : Value}
    (a1 : PySem.W.nsIn K mainGlobals "set_of" = some (some (.ref f1))) (l1 : K.lookup f1 = some ⟨oc1, od1, .func (PySem.W.fnOf "set_of" "set_of" (defArgs st_set_of) (defBody st_set_of) (defScope st_set_of) .none kV1 dc1 pm1 an1 cd1 ct1), sl1⟩) (c1 : PySem.W.codeIn K cd1 "set_of" = true) (k1 : PySem.W.keepIn K (.ref f1) = true)
    {f2 : Addr} {od2 an2 : Option Addr} {sl2 : Array (Option Value)} {oc2 kV2 dc2 pm2 cd2 ct2 : Value}
    (a2 : PySem.W.nsIn K mainGlobals "all_pairs" = some (some (.ref f2))) (l2 : K.lookup f2 = some ⟨oc2, od2, .func (PySem.W.fnOf "all_pairs" "all_pairs" (defArgs st_all_pairs) (defBody st_all_pairs) (defScope st_all_pairs) .none kV2 dc2 pm2 an2 cd2 ct2), sl2⟩) (c2 : PySem.W.codeIn K cd2 "all_pairs" = true) (k2 : PySem.W.keepIn K (.ref f2) = true)
    {f3 : Addr} {od3 an3 : Option Addr} {sl3 : Array (Option Value)} {oc3 kV3 dc3 pm3 cd3 ct3 : Value}
    (a3 : PySem.W.nsIn K mainGlobals "islands_of" = some (some (.ref f3))) (l3 : K.lookup f3 = some ⟨oc3, od3, .func (PySem.W.fnOf "islands_of" "islands_of" (defArgs st_islands_of) (defBody st_islands_of) (defScope st_islands_of) .none kV3 dc3 pm3 an3 cd3 ct3), sl3⟩) (c3 : PySem.W.codeIn K cd3 "islands_of" = true) (k3 : PySem.W.keepIn K (.ref f3) = true)
    {f4 : Addr} {od4 an4 : Option Addr} {sl4 : Array (Option Value)} {oc4 kV4 dc4 pm4 cd4 ct4 : Value}
    (a4 : PySem.W.nsIn K mainGlobals "height_table" = some (some (.ref f4))) (l4 : K.lookup f4 = some ⟨oc4, od4, .func (PySem.W.fnOf "height_table" "height_table" (defArgs st_height_table) (defBody st_height_table) (defScope st_height_table) .none kV4 dc4 pm4 an4 cd4 ct4), sl4⟩) (c4 : PySem.W.codeIn K cd4 "height_table" = true) (k4 : PySem.W.keepIn K (.ref f4) = true)
    {f5 : Addr} {od5 an5 : Option Addr} {sl5 : Array (Option Value)} {oc5 kV5 dc5 pm5 cd5 ct5 : Value}
    (a5 : PySem.W.nsIn K mainGlobals "last_table" = some (some (.ref f5))) (l5 : K.lookup f5 = some ⟨oc5, od5, .func (PySem.W.fnOf "last_table" "last_table" (defArgs st_last_table) (defBody st_last_table) (defScope st_last_table) .none kV5 dc5 pm5 an5 cd5 ct5), sl5⟩) (c5 : PySem.W.codeIn K cd5 "last_table" = true) (k5 : PySem.W.keepIn K (.ref f5) = true)
    {f6 : Addr} {od6 an6 : Option Addr} {sl6 : Array (Option Value)} {oc6 kV6 dc6 pm6 cd6 ct6 : Value}
    (a6 : PySem.W.nsIn K mainGlobals "parting_at" = some (some (.ref f6))) (l6 : K.lookup f6 = some ⟨oc6, od6, .func (PySem.W.fnOf "parting_at" "parting_at" (defArgs st_parting_at) (defBody st_parting_at) (defScope st_parting_at) .none kV6 dc6 pm6 an6 cd6 ct6), sl6⟩) (c6 : PySem.W.codeIn K cd6 "parting_at" = true) (k6 : PySem.W.keepIn K (.ref f6) = true)
    {f7 : Addr} {od7 an7 : Option Addr} {sl7 : Array (Option Value)} {oc7 kV7 dc7 pm7 cd7 ct7 : Value}
    (a7 : PySem.W.nsIn K mainGlobals "turning_waters" = some (some (.ref f7))) (l7 : K.lookup f7 = some ⟨oc7, od7, .func (PySem.W.fnOf "turning_waters" "turning_waters" (defArgs st_turning_waters) (defBody st_turning_waters) (defScope st_turning_waters) .none kV7 dc7 pm7 an7 cd7 ct7), sl7⟩) (c7 : PySem.W.codeIn K cd7 "turning_waters" = true) (k7 : PySem.W.keepIn K (.ref f7) = true)
    {f8 : Addr} {od8 an8 : Option Addr} {sl8 : Array (Option Value)} {oc8 kV8 dc8 pm8 cd8 ct8 : Value}
    (a8 : PySem.W.nsIn K mainGlobals "_law_box" = some (some (.ref f8))) (l8 : K.lookup f8 = some ⟨oc8, od8, .func (PySem.W.fnOf "_law_box" "_law_box" (defArgs st__law_box) (defBody st__law_box) (defScope st__law_box) .none kV8 dc8 pm8 an8 cd8 ct8), sl8⟩) (c8 : PySem.W.codeIn K cd8 "_law_box" = true) (k8 : PySem.W.keepIn K (.ref f8) = true)
    {f9 : Addr} {od9 an9 : Option Addr} {sl9 : Array (Option Value)} {oc9 kV9 dc9 pm9 cd9 ct9 : Value}
    (a9 : PySem.W.nsIn K mainGlobals "_law_take" = some (some (.ref f9))) (l9 : K.lookup f9 = some ⟨oc9, od9, .func (PySem.W.fnOf "_law_take" "_law_take" (defArgs st__law_take) (defBody st__law_take) (defScope st__law_take) .none kV9 dc9 pm9 an9 cd9 ct9), sl9⟩) (c9 : PySem.W.codeIn K cd9 "_law_take" = true) (k9 : PySem.W.keepIn K (.ref f9) = true)
    {f10 : Addr} {od10 an10 : Option Addr} {sl10 : Array (Option Value)} {oc10 kV10 dc10 pm10 cd10 ct10 : Value}
    (a10 : PySem.W.nsIn K mainGlobals "_law_cells" = some (some (.ref f10))) (l10 : K.lookup f10 = some ⟨oc10, od10, .func (PySem.W.fnOf "_law_cells" "_law_cells" (defArgs st__law_cells) (defBody st__law_cells) (defScope st__law_cells) .none kV10 dc10 pm10 an10 cd10 ct10), sl10⟩) (c10 : PySem.W.codeIn K cd10 "_law_cells" = true) (k10 : PySem.W.keepIn K (.ref f10) = true)
    {f11 : Addr} {od11 an11 : Option Addr} {sl11 : Array (Option Value)} {oc11 kV11 dc11 pm11 cd11 ct11 : Value}
    (a11 : PySem.W.nsIn K mainGlobals "_law_of" = some (some (.ref f11))) (l11 : K.lookup f11 = some ⟨oc11, od11, .func (PySem.W.fnOf "_law_of" "_law_of" (defArgs st__law_of) (defBody st__law_of) (defScope st__law_of) .none kV11 dc11 pm11 an11 cd11 ct11), sl11⟩) (c11 : PySem.W.codeIn K cd11 "_law_of" = true) (k11 : PySem.W.keepIn K (.ref f11) = true)
    {f12 : Addr} {od12 an12 : Option Addr} {sl12 : Array (Option Value)} {oc12 kV12 dc12 pm12 cd12 ct12 : Value}
    (a12 : PySem.W.nsIn K mainGlobals "_law_same" = some (some (.ref f12))) (l12 : K.lookup f12 = some ⟨oc12, od12, .func (PySem.W.fnOf "_law_same" "_law_same" (defArgs st__law_same) (defBody st__law_same) (defScope st__law_same) .none kV12 dc12 pm12 an12 cd12 ct12), sl12⟩) (c12 : PySem.W.codeIn K cd12 "_law_same" = true) (k12 : PySem.W.keepIn K (.ref f12) = true)
    {f13 : Addr} {od13 an13 : Option Addr} {sl13 : Array (Option Value)} {oc13 kV13 dc13 pm13 cd13 ct13 : Value}
    (a13 : PySem.W.nsIn K mainGlobals "_law_lists" = some (some (.ref f13))) (l13 : K.lookup f13 = some ⟨oc13, od13, .func (PySem.W.fnOf "_law_lists" "_law_lists" (defArgs st__law_lists) (defBody st__law_lists) (defScope st__law_lists) .none kV13 dc13 pm13 an13 cd13 ct13), sl13⟩) (c13 : PySem.W.codeIn K cd13 "_law_lists" = true) (k13 : PySem.W.keepIn K (.ref f13) = true)
    {f14 : Addr} {od14 an14 : Option Addr} {sl14 : Array (Option Value)} {oc14 kV14 dc14 pm14 cd14 ct14 : Value}
    (a14 : PySem.W.nsIn K mainGlobals "_law_pick" = some (some (.ref f14))) (l14 : K.lookup f14 = some ⟨oc14, od14, .func (PySem.W.fnOf "_law_pick" "_law_pick" (defArgs st__law_pick) (defBody st__law_pick) (defScope st__law_pick) .none kV14 dc14 pm14 an14 cd14 ct14), sl14⟩) (c14 : PySem.W.codeIn K cd14 "_law_pick" = true) (k14 : PySem.W.keepIn K (.ref f14) = true)
    {f15 : Addr} {od15 an15 : Option Addr} {sl15 : Array (Option Value)} {oc15 kV15 dc15 pm15 cd15 ct15 : Value}
    (a15 : PySem.W.nsIn K mainGlobals "_law_isles" = some (some (.ref f15))) (l15 : K.lookup f15 = some ⟨oc15, od15, .func (PySem.W.fnOf "_law_isles" "_law_isles" (defArgs st__law_isles) (defBody st__law_isles) (defScope st__law_isles) .none kV15 dc15 pm15 an15 cd15 ct15), sl15⟩) (c15 : PySem.W.codeIn K cd15 "_law_isles" = true) (k15 : PySem.W.keepIn K (.ref f15) = true)
    {f16 : Addr} {od16 an16 : Option Addr} {sl16 : Array (Option Value)} {oc16 kV16 dc16 pm16 cd16 ct16 : Value}
    (a16 : PySem.W.nsIn K mainGlobals "_law_pairs" = some (some (.ref f16))) (l16 : K.lookup f16 = some ⟨oc16, od16, .func (PySem.W.fnOf "_law_pairs" "_law_pairs" (defArgs st__law_pairs) (defBody st__law_pairs) (defScope st__law_pairs) .none kV16 dc16 pm16 an16 cd16 ct16), sl16⟩) (c16 : PySem.W.codeIn K cd16 "_law_pairs" = true) (k16 : PySem.W.keepIn K (.ref f16) = true)
    {f17 : Addr} {od17 an17 : Option Addr} {sl17 : Array (Option Value)} {oc17 kV17 dc17 pm17 cd17 ct17 : Value}
    (a17 : PySem.W.nsIn K mainGlobals "_law_fords" = some (some (.ref f17))) (l17 : K.lookup f17 = some ⟨oc17, od17, .func (PySem.W.fnOf "_law_fords" "_law_fords" (defArgs st__law_fords) (defBody st__law_fords) (defScope st__law_fords) .none kV17 dc17 pm17 an17 cd17 ct17), sl17⟩) (c17 : PySem.W.codeIn K cd17 "_law_fords" = true) (k17 : PySem.W.keepIn K (.ref f17) = true)
    {f18 : Addr} {od18 an18 : Option Addr} {sl18 : Array (Option Value)} {oc18 kV18 dc18 pm18 cd18 ct18 : Value}
    (a18 : PySem.W.nsIn K mainGlobals "_law_lot" = some (some (.ref f18))) (l18 : K.lookup f18 = some ⟨oc18, od18, .func (PySem.W.fnOf "_law_lot" "_law_lot" (defArgs st__law_lot) (defBody st__law_lot) (defScope st__law_lot) .none kV18 dc18 pm18 an18 cd18 ct18), sl18⟩) (c18 : PySem.W.codeIn K cd18 "_law_lot" = true) (k18 : PySem.W.keepIn K (.ref f18) = true)
    {f19 : Addr} {od19 an19 : Option Addr} {sl19 : Array (Option Value)} {oc19 kV19 dc19 pm19 cd19 ct19 : Value}
    (a19 : PySem.W.nsIn K mainGlobals "_law_cut" = some (some (.ref f19))) (l19 : K.lookup f19 = some ⟨oc19, od19, .func (PySem.W.fnOf "_law_cut" "_law_cut" (defArgs st__law_cut) (defBody st__law_cut) (defScope st__law_cut) .none kV19 dc19 pm19 an19 cd19 ct19), sl19⟩) (c19 : PySem.W.codeIn K cd19 "_law_cut" = true) (k19 : PySem.W.keepIn K (.ref f19) = true)
    {f20 : Addr} {od20 an20 : Option Addr} {sl20 : Array (Option Value)} {oc20 kV20 dc20 pm20 cd20 ct20 : Value}
    (a20 : PySem.W.nsIn K mainGlobals "_law_turns" = some (some (.ref f20))) (l20 : K.lookup f20 = some ⟨oc20, od20, .func (PySem.W.fnOf "_law_turns" "_law_turns" (defArgs st__law_turns) (defBody st__law_turns) (defScope st__law_turns) .none kV20 dc20 pm20 an20 cd20 ct20), sl20⟩) (c20 : PySem.W.codeIn K cd20 "_law_turns" = true) (k20 : PySem.W.keepIn K (.ref f20) = true)
    {f21 : Addr} {od21 an21 : Option Addr} {sl21 : Array (Option Value)} {oc21 kV21 dc21 pm21 cd21 ct21 : Value}
    (a21 : PySem.W.nsIn K mainGlobals "_law_case_right" = some (some (.ref f21))) (l21 : K.lookup f21 = some ⟨oc21, od21, .func (PySem.W.fnOf "_law_case_right" "_law_case_right" (defArgs st__law_case_right) (defBody st__law_case_right) (defScope st__law_case_right) .none kV21 dc21 pm21 an21 cd21 ct21), sl21⟩) (c21 : PySem.W.codeIn K cd21 "_law_case_right" = true) (k21 : PySem.W.keepIn K (.ref f21) = true)
    {f22 : Addr} {od22 an22 : Option Addr} {sl22 : Array (Option Value)} {oc22 kV22 dc22 pm22 cd22 ct22 : Value}
    (a22 : PySem.W.nsIn K mainGlobals "_law_by_hand_right" = some (some (.ref f22))) (l22 : K.lookup f22 = some ⟨oc22, od22, .func (PySem.W.fnOf "_law_by_hand_right" "_law_by_hand_right" (defArgs st__law_by_hand_right) (defBody st__law_by_hand_right) (defScope st__law_by_hand_right) .none kV22 dc22 pm22 an22 cd22 ct22), sl22⟩) (c22 : PySem.W.codeIn K cd22 "_law_by_hand_right" = true) (k22 : PySem.W.keepIn K (.ref f22) = true)
    {f23 : Addr} {od23 an23 : Option Addr} {sl23 : Array (Option Value)} {oc23 kV23 dc23 pm23 cd23 ct23 : Value}
    (a23 : PySem.W.nsIn K mainGlobals "_law_right" = some (some (.ref f23))) (l23 : K.lookup f23 = some ⟨oc23, od23, .func (PySem.W.fnOf "_law_right" "_law_right" (defArgs st__law_right) (defBody st__law_right) (defScope st__law_right) .none kV23 dc23 pm23 an23 cd23 ct23), sl23⟩) (c23 : PySem.W.codeIn K cd23 "_law_right" = true) (k23 : PySem.W.keepIn K (.ref f23) = true)
    {f24 : Addr} {od24 an24 : Option Addr} {sl24 : Array (Option Value)} {oc24 kV24 dc24 pm24 cd24 ct24 : Value}
    (a24 : PySem.W.nsIn K mainGlobals "law" = some (some (.ref f24))) (l24 : K.lookup f24 = some ⟨oc24, od24, .func (PySem.W.fnOf "law" "law" (defArgs st_law) (defBody st_law) (defScope st_law) .none kV24 dc24 pm24 an24 cd24 ct24), sl24⟩) (c24 : PySem.W.codeIn K cd24 "law" = true) (k24 : PySem.W.keepIn K (.ref f24) = true)
    (z_abs : PySem.W.nsIn K mainGlobals "abs" = some none)
    (z_all : PySem.W.nsIn K mainGlobals "all" = some none)
    (z_bool : PySem.W.nsIn K mainGlobals "bool" = some none)
    (z_enumerate : PySem.W.nsIn K mainGlobals "enumerate" = some none)
    (z_int : PySem.W.nsIn K mainGlobals "int" = some none)
    (z_isinstance : PySem.W.nsIn K mainGlobals "isinstance" = some none)
    (z_len : PySem.W.nsIn K mainGlobals "len" = some none)
    (z_list : PySem.W.nsIn K mainGlobals "list" = some none)
    (z_max : PySem.W.nsIn K mainGlobals "max" = some none)
    (z_min : PySem.W.nsIn K mainGlobals "min" = some none)
    (z_ord : PySem.W.nsIn K mainGlobals "ord" = some none)
    (z_range : PySem.W.nsIn K mainGlobals "range" = some none)
    (z_set : PySem.W.nsIn K mainGlobals "set" = some none)
    (z_sorted : PySem.W.nsIn K mainGlobals "sorted" = some none)
    (z_str : PySem.W.nsIn K mainGlobals "str" = some none)
    (z_tuple : PySem.W.nsIn K mainGlobals "tuple" = some none)
    (z_zip : PySem.W.nsIn K mainGlobals "zip" = some none)
    : ∃ fd : FuncData, (∀ (s : Shared) (v : Value), BindsTo s fd ⟨[v], []⟩ [("_law_script", v)]) ∧ ∀ base : Heap, K.In base → base.Ns mainGlobals mg → FnOk l.prog w K mg base CX0 13 fa fd ["_law_script"] (spLaw K) := by
  have e := hfa.symm.trans (PySem.W.mg_of X G a24)
  cases e
  have T : Mg mg := ⟨PySem.W.mg_none_of X G z_abs, PySem.W.mg_none_of X G z_all, PySem.W.mg_none_of X G z_bool, PySem.W.mg_none_of X G z_enumerate, PySem.W.mg_none_of X G z_int, PySem.W.mg_none_of X G z_isinstance, PySem.W.mg_none_of X G z_len, PySem.W.mg_none_of X G z_list, PySem.W.mg_none_of X G z_max, PySem.W.mg_none_of X G z_min, PySem.W.mg_none_of X G z_ord, PySem.W.mg_none_of X G z_range, PySem.W.mg_none_of X G z_set, PySem.W.mg_none_of X G z_sorted, PySem.W.mg_none_of X G z_str, PySem.W.mg_none_of X G z_tuple, PySem.W.mg_none_of X G z_zip⟩
  have F0 := fun_mk (st := st_pair_of) l0 c0 k0
  have F1 := fun_mk (st := st_set_of) l1 c1 k1
  have F2 := fun_mk (st := st_all_pairs) l2 c2 k2
  have F3 := fun_mk (st := st_islands_of) l3 c3 k3
  have F4 := fun_mk (st := st_height_table) l4 c4 k4
  have F5 := fun_mk (st := st_last_table) l5 c5 k5
  have F6 := fun_mk (st := st_parting_at) l6 c6 k6
  have F7 := fun_mk (st := st_turning_waters) l7 c7 k7
  have F8 := fun_mk (st := st__law_box) l8 c8 k8
  have F9 := fun_mk (st := st__law_take) l9 c9 k9
  have F10 := fun_mk (st := st__law_cells) l10 c10 k10
  have F11 := fun_mk (st := st__law_of) l11 c11 k11
  have F12 := fun_mk (st := st__law_same) l12 c12 k12
  have F13 := fun_mk (st := st__law_lists) l13 c13 k13
  have F14 := fun_mk (st := st__law_pick) l14 c14 k14
  have F15 := fun_mk (st := st__law_isles) l15 c15 k15
  have F16 := fun_mk (st := st__law_pairs) l16 c16 k16
  have F17 := fun_mk (st := st__law_fords) l17 c17 k17
  have F18 := fun_mk (st := st__law_lot) l18 c18 k18
  have F19 := fun_mk (st := st__law_cut) l19 c19 k19
  have F20 := fun_mk (st := st__law_turns) l20 c20 k20
  have F21 := fun_mk (st := st__law_case_right) l21 c21 k21
  have F22 := fun_mk (st := st__law_by_hand_right) l22 c22 k22
  have F23 := fun_mk (st := st__law_right) l23 c23 k23
  have F24 := fun_mk (st := st_law) l24 c24 k24
  refine ⟨PySem.W.fnOf "law" "law" (defArgs st_law) (defBody st_law) (defScope st_law) .none kV24 dc24 pm24 an24 cd24 ct24, fun s v => .of_eq rfl, fun base _ _ => ?_⟩
  have G_pair_of := ok_pair_of (P := l.prog) (w := w) (base := base) T F0 (PySem.W.mg_of X G a0) 
  have G_set_of := ok_set_of (P := l.prog) (w := w) (base := base) T F1 (PySem.W.mg_of X G a1) 
  have G_all_pairs := ok_all_pairs (P := l.prog) (w := w) (base := base) T F2 (PySem.W.mg_of X G a2) 
  have G_islands_of := ok_islands_of (P := l.prog) (w := w) (base := base) T F3 (PySem.W.mg_of X G a3) G_set_of
  have G_height_table := ok_height_table (P := l.prog) (w := w) (base := base) T F4 (PySem.W.mg_of X G a4) 
  have G_last_table := ok_last_table (P := l.prog) (w := w) (base := base) T F5 (PySem.W.mg_of X G a5) G_all_pairs G_height_table G_islands_of G_pair_of
  have G_parting_at := ok_parting_at (P := l.prog) (w := w) (base := base) T F6 (PySem.W.mg_of X G a6) G_islands_of G_last_table G_pair_of G_set_of
  have GK_parting_at_0 := okk_parting_at_0 (P := l.prog) (w := w) (base := base) T F6 (PySem.W.mg_of X G a6) G_islands_of G_last_table G_pair_of G_set_of
  have G_turning_waters := ok_turning_waters (P := l.prog) (w := w) (base := base) T F7 (PySem.W.mg_of X G a7) G_last_table G_set_of
  have GK_turning_waters_0 := okk_turning_waters_0 (P := l.prog) (w := w) (base := base) T F7 (PySem.W.mg_of X G a7) G_last_table G_set_of
  have G__law_box := ok__law_box (P := l.prog) (w := w) (base := base) T F8 (PySem.W.mg_of X G a8) 
  have G__law_take := ok__law_take (P := l.prog) (w := w) (base := base) T F9 (PySem.W.mg_of X G a9) 
  have G__law_cells := ok__law_cells (P := l.prog) (w := w) (base := base) T F10 (PySem.W.mg_of X G a10) 
  have G__law_of := ok__law_of (P := l.prog) (w := w) (base := base) T F11 (PySem.W.mg_of X G a11) G__law_take
  have G__law_same := ok__law_same (P := l.prog) (w := w) (base := base) T F12 (PySem.W.mg_of X G a12)  9
  have G__law_lists := ok__law_lists (P := l.prog) (w := w) (base := base) T F13 (PySem.W.mg_of X G a13)  9
  have G__law_pick := ok__law_pick (P := l.prog) (w := w) (base := base) T F14 (PySem.W.mg_of X G a14) G__law_take
  have G__law_isles := ok__law_isles (P := l.prog) (w := w) (base := base) T F15 (PySem.W.mg_of X G a15) G__law_pick
  have G__law_pairs := ok__law_pairs (P := l.prog) (w := w) (base := base) T F16 (PySem.W.mg_of X G a16) 
  have G__law_fords := ok__law_fords (P := l.prog) (w := w) (base := base) T F17 (PySem.W.mg_of X G a17) G__law_of G__law_pairs G__law_take
  have G__law_lot := ok__law_lot (P := l.prog) (w := w) (base := base) T F18 (PySem.W.mg_of X G a18) 
  have G__law_cut := ok__law_cut (P := l.prog) (w := w) (base := base) T F19 (PySem.W.mg_of X G a19) G__law_lot
  have G__law_turns := ok__law_turns (P := l.prog) (w := w) (base := base) T F20 (PySem.W.mg_of X G a20) 
  have G__law_case_right := ok__law_case_right (P := l.prog) (w := w) (base := base) T F21 (PySem.W.mg_of X G a21) G__law_cut G__law_lists G__law_same G__law_turns G_parting_at G_turning_waters GK_parting_at_0 GK_turning_waters_0
  have G__law_by_hand_right := ok__law_by_hand_right (P := l.prog) (w := w) (base := base) T F22 (PySem.W.mg_of X G a22) G__law_pairs G__law_same G_parting_at G_turning_waters
  have G__law_right := ok__law_right (P := l.prog) (w := w) (base := base) T F23 (PySem.W.mg_of X G a23) G__law_case_right G__law_fords G__law_isles G__law_of G__law_take
  exact (okl_law T F24 G__law_box G__law_by_hand_right G__law_cells G__law_right).imp (law_imp (K := ⟨K, w, mg⟩) DT.plain)
end DT
open PySem PySem.W PyProof.Rows
set_option maxHeartbeats 0 in
theorem PySem.Challenge.cw_lastfords_k67_waters_one_by_one_holds : PySem.Challenge.rw_lastfords_k67_waters_one_by_one.Holds := by
  w_on; o_law; k_head; (case hw => w_witness2)
  k_fill
  refine L2.walk_ofB (l := PySem.Challenge.rw_lastfords_k67_waters_one_by_one) (n := 63) (k := 13) (x := "_law_script") (CX := fun _ => L2.CX0) (sp := fun w => DL.spLaw _) rfl (by decide) rfl ⟨rfl, by decide, by decide⟩ (fun w h Y => PySem.W.kIn_of Y) ?F (fun _ _ a ns hl hb hO hS => ⟨a, ns, rfl, hl, hO, hS, fun _ => rfl⟩) (fun _ _ _ _ _ h => h)
  case F =>
    intro w mg fa h KX G hmg
    refine' DT.all_mk KX G hmg ?a0 ?l0 ?c0 ?k0 ?a1 ?l1 ?c1 ?k1 ?a2 ?l2 ?c2 ?k2 ?a3 ?l3 ?c3 ?k3 ?a4 ?l4 ?c4 ?k4 ?a5 ?l5 ?c5 ?k5 ?a6 ?l6 ?c6 ?k6 ?a7 ?l7 ?c7 ?k7 ?a8 ?l8 ?c8 ?k8 ?a9 ?l9 ?c9 ?k9 ?a10 ?l10 ?c10 ?k10 ?a11 ?l11 ?c11 ?k11 ?a12 ?l12 ?c12 ?k12 ?a13 ?l13 ?c13 ?k13 ?a14 ?l14 ?c14 ?k14 ?a15 ?l15 ?c15 ?k15 ?a16 ?l16 ?c16 ?k16 ?a17 ?l17 ?c17 ?k17 ?a18 ?l18 ?c18 ?k18 ?a19 ?l19 ?c19 ?k19 ?a20 ?l20 ?c20 ?k20 ?a21 ?l21 ?c21 ?k21 ?a22 ?l22 ?c22 ?k22 ?a23 ?l23 ?c23 ?k23 ?a24 ?l24 ?c24 ?k24 ?z_abs ?z_all ?z_bool ?z_enumerate ?z_int ?z_isinstance ?z_len ?z_list ?z_max ?z_min ?z_ord ?z_range ?z_set ?z_sorted ?z_str ?z_tuple ?z_zip
    (case a0 => k_is); (case l0 => k_is); (case c0 => k_is); (case k0 => k_is); (case a1 => k_is); (case l1 => k_is); (case c1 => k_is); (case k1 => k_is); (case a2 => k_is); (case l2 => k_is); (case c2 => k_is); (case k2 => k_is); (case a3 => k_is); (case l3 => k_is); (case c3 => k_is); (case k3 => k_is); (case a4 => k_is); (case l4 => k_is); (case c4 => k_is); (case k4 => k_is); (case a5 => k_is); (case l5 => k_is); (case c5 => k_is); (case k5 => k_is); (case a6 => k_is); (case l6 => k_is); (case c6 => k_is); (case k6 => k_is); (case a7 => k_is); (case l7 => k_is); (case c7 => k_is); (case k7 => k_is); (case a8 => k_is); (case l8 => k_is); (case c8 => k_is); (case k8 => k_is); (case a9 => k_is); (case l9 => k_is); (case c9 => k_is); (case k9 => k_is); (case a10 => k_is); (case l10 => k_is); (case c10 => k_is); (case k10 => k_is); (case a11 => k_is); (case l11 => k_is); (case c11 => k_is); (case k11 => k_is); (case a12 => k_is); (case l12 => k_is); (case c12 => k_is); (case k12 => k_is); (case a13 => k_is); (case l13 => k_is); (case c13 => k_is); (case k13 => k_is); (case a14 => k_is); (case l14 => k_is); (case c14 => k_is); (case k14 => k_is); (case a15 => k_is); (case l15 => k_is); (case c15 => k_is); (case k15 => k_is); (case a16 => k_is); (case l16 => k_is); (case c16 => k_is); (case k16 => k_is); (case a17 => k_is); (case l17 => k_is); (case c17 => k_is); (case k17 => k_is); (case a18 => k_is); (case l18 => k_is); (case c18 => k_is); (case k18 => k_is); (case a19 => k_is); (case l19 => k_is); (case c19 => k_is); (case k19 => k_is); (case a20 => k_is); (case l20 => k_is); (case c20 => k_is); (case k20 => k_is); (case a21 => k_is); (case l21 => k_is); (case c21 => k_is); (case k21 => k_is); (case a22 => k_is); (case l22 => k_is); (case c22 => k_is); (case k22 => k_is); (case a23 => k_is); (case l23 => k_is); (case c23 => k_is); (case k23 => k_is); (case a24 => k_is); (case l24 => k_is); (case c24 => k_is); (case k24 => k_is); (case z_abs => k_is); (case z_all => k_is); (case z_bool => k_is); (case z_enumerate => k_is); (case z_int => k_is); (case z_isinstance => k_is); (case z_len => k_is); (case z_list => k_is); (case z_max => k_is); (case z_min => k_is); (case z_ord => k_is); (case z_range => k_is); (case z_set => k_is); (case z_sorted => k_is); (case z_str => k_is); (case z_tuple => k_is); (case z_zip => k_is)
