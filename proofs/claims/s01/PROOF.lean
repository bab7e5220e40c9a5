import PyProof.Rows.All
import Wide.All
import OpenK.AllK
import Wide.FinOn
import Open.SpecLaws
import KE.OsGo
import HandS.ForSpec
import HandS.ForMost
import HandS.Walk
import PySem.Challenge.RW_hiddendrawers_s01_answers
set_option Elab.async false
set_option maxRecDepth 100000
set_option maxHeartbeats 4000000
/-! # The plain law: places, chains, calls, what each call answers. No program in sight. -/
namespace Hd
open Ks190 (Given Ev Medium seek find places finding lastKey pageOf act after)
abbrev G : Given := Ks190Neutral.given
def nzs (l : List Nat) : List Int := l.map fun n : Nat => (n : Int)
theorem nzs_eq (l : List Nat) : Ks190Neutral.ints l = nzs l := rfl
theorem nzs_len (l : List Nat) : (nzs l).length = l.length := List.length_map ..
theorem nats_nzs (l : List Nat) : Ks190Neutral.nats (nzs l) = l := by
  unfold Ks190Neutral.nats nzs
  rw [List.map_map]
  have e : (Int.toNat ∘ fun n : Nat => (n : Int)) = id := by
    funext n
    rfl
  rw [e, List.map_id]
theorem nzs_of {l : List Int} (h : ∀ z ∈ l, 0 ≤ z) : l = nzs (l.map Int.toNat) := by
  unfold nzs
  rw [List.map_map]
  refine (List.map_id l).symm.trans (List.map_congr_left fun z hz => ?_)
  have := h z hz
  show z = ((z.toNat : Nat) : Int)
  omega
/-! ### a key's places -/
theorem place_lt (k : List Nat) (j : Nat) : G.place k j < 1024 := Nat.mod_lt _ (by decide)
theorem odd_cop (c : Nat) : Nat.Coprime 1024 (2 * c + 1) := by
  have h2 : Nat.Coprime 2 (2 * c + 1) := by
    have a := Nat.gcd_dvd_left 2 (2 * c + 1)
    have b := Nat.gcd_dvd_right 2 (2 * c + 1)
    have d : Nat.gcd 2 (2 * c + 1) ∣ 2 * c := Nat.dvd_trans a (Nat.dvd_mul_right 2 c)
    exact Nat.eq_one_of_dvd_one ((Nat.dvd_add_right d).mp b)
  have := Nat.Coprime.pow_left 10 h2
  exact this
theorem lin_inj {b c i j : Nat} (hij : i ≤ j) (hj : j < 1024) (h : (b + (2 * c + 1) * i) % 1024 = (b + (2 * c + 1) * j) % 1024) : i = j := by
  have q : ((b + (2 * c + 1) * j) - (b + (2 * c + 1) * i)) % 1024 = 0 := Nat.sub_mod_eq_zero_of_mod_eq h.symm
  have e : (b + (2 * c + 1) * j) - (b + (2 * c + 1) * i) = (2 * c + 1) * (j - i) := by
    rw [Nat.add_sub_add_left, Nat.mul_sub]
  rw [e] at q
  have d := (odd_cop c).dvd_of_dvd_mul_left (Nat.dvd_of_mod_eq_zero q)
  have z := Nat.eq_zero_of_dvd_of_lt d (by omega)
  omega
theorem place_inj (k : List Nat) {i j : Nat} (hi : i < 1024) (hj : j < 1024) (h : G.place k i = G.place k j) : i = j := by
  rcases Nat.le_total i j with q | q
  · exact lin_inj q hj h
  · exact (lin_inj q hi h.symm).symm
theorem nodup_len : ∀ {l T : List Nat}, l.Nodup → (∀ x ∈ l, x ∈ T) → l.length ≤ T.length
  | [], T, _, _ => Nat.zero_le _
  | x :: r, T, hn, hs => by
    rw [List.nodup_cons] at hn
    have hx := hs x (List.mem_cons_self ..)
    have ih := nodup_len (l := r) (T := T.erase x) hn.2 fun y hy => by
      have ne : y ≠ x := fun e => hn.1 (e ▸ hy)
      exact (List.mem_erase_of_ne ne).mpr (hs y (List.mem_cons_of_mem _ hy))
    rw [List.length_erase_of_mem hx] at ih
    have pos : 0 < T.length := List.length_pos_of_mem hx
    rw [List.length_cons]
    omega
/-- how many of the first n places are taken -/
def hits (k T : List Nat) (n : Nat) : Nat := ((List.range n).filter fun j => T.contains (G.place k j)).length
theorem hits_le (k T : List Nat) {n : Nat} (hn : n ≤ 1024) : hits k T n ≤ T.length := by
  have h1 : ((List.range n).filter fun j => T.contains (G.place k j)).Pairwise (· ≠ ·) := List.Pairwise.filter _ List.nodup_range
  have h2 : (((List.range n).filter fun j => T.contains (G.place k j)).map (G.place k)).Nodup := by
    refine List.pairwise_map.mpr (List.Pairwise.imp_of_mem (fun {a b} ha hb ne e => ne ?_) h1)
    have ha' := List.mem_range.mp (List.mem_filter.mp ha).1
    have hb' := List.mem_range.mp (List.mem_filter.mp hb).1
    exact place_inj k (by omega) (by omega) e
  have h3 := nodup_len (T := T) h2 fun x hx => by
    obtain ⟨j, hj, rfl⟩ := List.mem_map.mp hx
    have := (List.mem_filter.mp hj).2
    simpa using this
  rw [List.length_map] at h3
  exact h3
theorem hits_succ (k T : List Nat) (n : Nat) : hits k T (n + 1) = hits k T n + (if T.contains (G.place k n) = true then 1 else 0) := by
  unfold hits
  rw [List.range_succ, List.filter_append, List.length_append, List.filter_cons]
  by_cases c : T.contains (G.place k n) = true
  · rw [if_pos c, if_pos c] <;> rfl
  · rw [if_neg c, if_neg c] <;> rfl
/-- one turn: the found behind the place for j -/
def take1 (k T : List Nat) (j : Nat) (l : List Nat) : List Nat := if T.contains (G.place k j) = true then l else l ++ [G.place k j]
theorem seek_stop {k T l : List Nat} {j : Nat} (h : 64 ≤ l.length) : ∀ f, seek G k T f j l = (l, j)
  | 0 => rfl
  | f + 1 => by
    show (if 64 ≤ l.length then (l, j) else _) = _
    rw [if_pos h]
theorem seek_step {k T l : List Nat} {j f : Nat} (h : l.length < 64) : seek G k T (f + 1) j l = seek G k T f (j + 1) (take1 k T j l) := by
  show (if 64 ≤ l.length then (l, j) else seek G k T f (j + 1) (if T.contains (G.place k j) then l else l ++ [G.place k j])) = _
  rw [if_neg (by omega)]
  rfl
/-- the loop's word -/
structure Sk (k T : List Nat) (j : Nat) (l : List Nat) : Prop where
  cnt : j ≤ l.length + hits k T j
  le : l.length ≤ 64
  j1 : j ≤ 1024
  eq : seek G k T 1024 0 [] = seek G k T (1024 - j) j l
  lt : ∀ p ∈ l, p < 1024
theorem Sk.start (k T : List Nat) : Sk k T 0 [] := ⟨Nat.zero_le _, Nat.zero_le _, Nat.zero_le _, rfl, fun _ h => by cases h⟩
theorem Sk.lt' {k T l : List Nat} {j : Nat} (h : Sk k T j l) (hT : T.length ≤ 192) (hl : l.length < 64) : j < 1024 := by
  have a := h.cnt
  have b := hits_le k T h.j1
  omega
theorem Sk.next {k T l : List Nat} {j : Nat} (h : Sk k T j l) (hT : T.length ≤ 192) (hl : l.length < 64) : Sk k T (j + 1) (take1 k T j l) := by
  have hj := h.lt' hT hl
  have c := h.cnt
  have hs := hits_succ k T j
  refine ⟨?_, ?_, hj, ?_, ?_⟩
  · unfold take1
    by_cases q : T.contains (G.place k j) = true
    · rw [if_pos q] at hs ⊢
      omega
    · rw [if_neg q] at hs ⊢
      rw [List.length_append, List.length_singleton]
      omega
  · unfold take1
    split
    · exact h.le
    · rw [List.length_append, List.length_singleton]
      omega
  · rw [h.eq, show 1024 - j = (1024 - (j + 1)) + 1 by omega, seek_step hl]
  · unfold take1
    split
    · exact h.lt
    · intro p hp
      rcases List.mem_append.mp hp with z | z
      · exact h.lt p z
      · rw [List.mem_singleton.mp z]
        exact place_lt k j
theorem Sk.done {k T l : List Nat} {j : Nat} (h : Sk k T j l) (hl : ¬ l.length < 64) : seek G k T 1024 0 [] = (l, j) ∧ l.length = 64 := by
  refine ⟨?_, ?_⟩
  · rw [h.eq, seek_stop (by omega)]
  · have := h.le
    omega
/-- a drawer's own places, and how many are asked for -/
def own (k T : List Nat) : List Nat × Nat := seek G k T 1024 0 []
/-! ### a chain's places -/
theorem find_cons (T k : List Nat) (r : List (List Nat)) : find G T (k :: r) = own k T :: find G (T ++ (own k T).1) r := rfl
theorem find_app : ∀ (a b : List (List Nat)) (T : List Nat), find G T (a ++ b) = find G T a ++ find G (T ++ (find G T a).flatMap (·.1)) b
  | [], b, T => by
    show find G T b = find G (T ++ []) b
    rw [List.append_nil]
  | k :: r, b, T => by
    rw [List.cons_append, find_cons, find_cons, find_app r b, List.flatMap_cons, List.cons_append, List.append_assoc]
theorem find_len : ∀ (a : List (List Nat)) (T : List Nat), (find G T a).length = a.length
  | [], _ => rfl
  | k :: r, T => by
    rw [find_cons, List.length_cons, List.length_cons, find_len r]
/-- what is taken behind the first i keys -/
def takenAt (keys : List (List Nat)) (i : Nat) : List Nat := (find G [] (keys.take i)).flatMap (·.1)
def countsAt (keys : List (List Nat)) (i : Nat) : List Nat := (find G [] (keys.take i)).map (·.2)
def placesAt (keys : List (List Nat)) (i : Nat) : List Nat := ((find G [] (keys.take i)).getLast?.getD ([], 0)).1
theorem take_more {α : Type} : ∀ {l : List α} {i : Nat} {x : α}, l[i]? = some x → l.take (i + 1) = l.take i ++ [x]
  | [], i, x, h => by simp at h
  | a :: l, 0, x, h => by
    have e : a = x := Option.some.inj h
    subst e
    rfl
  | a :: l, i + 1, x, h => by
    have ih := take_more (l := l) (i := i) (x := x) h
    show a :: l.take (i + 1) = a :: l.take i ++ [x]
    rw [ih]
    rfl
theorem find_more {keys : List (List Nat)} {i : Nat} {k : List Nat} (h : keys[i]? = some k) : find G [] (keys.take (i + 1)) = find G [] (keys.take i) ++ [own k (takenAt keys i)] := by
  rw [take_more h, find_app]
  rfl
theorem taken_more {keys : List (List Nat)} {i : Nat} {k : List Nat} (h : keys[i]? = some k) : takenAt keys (i + 1) = takenAt keys i ++ (own k (takenAt keys i)).1 := by
  unfold takenAt
  rw [find_more h, List.flatMap_append]
  show _ ++ ((own k (takenAt keys i)).1 ++ []) = _
  rw [List.append_nil]
  rfl
theorem counts_more {keys : List (List Nat)} {i : Nat} {k : List Nat} (h : keys[i]? = some k) : countsAt keys (i + 1) = countsAt keys i ++ [(own k (takenAt keys i)).2] := by
  unfold countsAt
  rw [find_more h, List.map_append]
  rfl
theorem places_more {keys : List (List Nat)} {i : Nat} {k : List Nat} (h : keys[i]? = some k) : placesAt keys (i + 1) = (own k (takenAt keys i)).1 := by
  unfold placesAt
  rw [find_more h, List.getLast?_concat]
  rfl
theorem places_all (keys : List (List Nat)) : placesAt keys keys.length = places G keys := by
  unfold placesAt places
  rw [List.take_length]
/-- the numbers of what is asked while the places are found -/
def cntE (cs : List Nat) : List Int := cs.flatMap fun n => (List.range n).flatMap fun (j : Nat) => [(4 : Int), (j : Int)]
def evI : Ev → List Int := fun e => match e with
  | .read p _ => [(1 : Int), (p : Int)]
  | .write p b => (2 : Int) :: (p : Int) :: Ks190Neutral.ints b
  | .any b => [(3 : Int), (b.length : Int)]
  | .place _ j _ => [(4 : Int), (j : Int)]
  | .mix _ z _ => (5 : Int) :: Ks190Neutral.ints z
theorem finding_gen : ∀ (c : List (List Nat)) (fs : List (List Nat × Nat)), c.length = fs.length →
    ((c.zip fs).flatMap fun x => (List.range x.2.2).map fun j => Ev.place x.1 j (G.place x.1 j)).flatMap evI = cntE (fs.map (·.2)) ∧
    ((c.zip fs).flatMap fun x => (List.range x.2.2).map fun j => Ev.place x.1 j (G.place x.1 j)).length = (fs.map (·.2)).sum
  | [], [], _ => ⟨rfl, rfl⟩
  | k :: c, f :: fs, h => by
    obtain ⟨i1, i2⟩ := finding_gen c fs (Nat.succ.inj h)
    refine ⟨?_, ?_⟩
    · rw [List.zip_cons_cons, List.flatMap_cons, List.flatMap_append, i1, List.map_cons]
      show _ = (List.range f.2).flatMap (fun (j : Nat) => [(4 : Int), (j : Int)]) ++ cntE (fs.map (·.2))
      rw [List.flatMap_map]
      rfl
    · rw [List.zip_cons_cons, List.flatMap_cons, List.length_append, i2, List.map_cons, List.sum_cons, List.length_map, List.length_range]
  | [], _ :: _, h => by cases h
  | _ :: _, [], h => by cases h
theorem counts_all (keys : List (List Nat)) : countsAt keys keys.length = (find G [] keys).map (·.2) := by
  unfold countsAt
  rw [List.take_length]
theorem finding_ev (c : List (List Nat)) : (finding G c).flatMap evI = cntE (countsAt c c.length) := by
  rw [counts_all]
  exact (finding_gen c (find G [] c) (find_len c []).symm).1
theorem finding_len (c : List (List Nat)) : (finding G c).length = (countsAt c c.length).sum := by
  rw [counts_all]
  exact (finding_gen c (find G [] c) (find_len c []).symm).2
theorem after_find_gen : ∀ (xs : List (List Nat × (List Nat × Nat))) (d : Medium), after d (xs.flatMap fun x => (List.range x.2.2).map fun j => Ev.place x.1 j (G.place x.1 j)) = d := by
  have h1 : ∀ (js : List Nat) (k : List Nat) (d : Medium), after d (js.map fun j => Ev.place k j (G.place k j)) = d := by
    intro js k
    induction js with
    | nil => intro d; rfl
    | cons j r ih => intro d; exact ih d
  intro xs
  induction xs with
  | nil => intro d; rfl
  | cons x r ih =>
    intro d
    rw [List.flatMap_cons]
    unfold after at h1 ih ⊢
    rw [List.foldl_append, h1, ih]
theorem after_app (d : Medium) (a b : List Ev) : after d (a ++ b) = after (after d a) b := List.foldl_append ..
theorem after_find (d : Medium) (c : List (List Nat)) : after d (finding G c) = d := after_find_gen _ d
/-! ### chains in bytes -/
def chunks (b : List Nat) : List (List Nat) := (List.range (b.length / 32)).map fun i => (b.drop (32 * i)).take 32
theorem chunks_len (b : List Nat) : (chunks b).length = b.length / 32 := by
  unfold chunks
  rw [List.length_map, List.length_range]
theorem chunks_at {b : List Nat} {i : Nat} {k : List Nat} (h : (chunks b)[i]? = some k) : i < b.length / 32 ∧ k = (b.drop (32 * i)).take 32 := by
  unfold chunks at h
  rw [List.getElem?_map] at h
  by_cases q : i < b.length / 32
  · rw [List.getElem?_range q] at h
    exact ⟨q, (Option.some.inj h).symm⟩
  · rw [List.getElem?_eq_none (by rw [List.length_range]; omega)] at h
    cases h
/-- a key: 32 bytes -/
def KeyOk (k : List Nat) : Prop := k.length = 32 ∧ ∀ x ∈ k, x < 256
theorem chunk_ok {b : List Nat} (hb : ∀ x ∈ b, x < 256) {k : List Nat} (h : k ∈ chunks b) : KeyOk k := by
  obtain ⟨i, hi⟩ := List.mem_iff_getElem?.mp h
  obtain ⟨q, rfl⟩ := chunks_at hi
  refine ⟨?_, fun x hx => hb x (List.mem_of_mem_drop (List.mem_of_mem_take hx))⟩
  rw [List.length_take, List.length_drop]
  have : 32 * (i + 1) ≤ b.length := Nat.le_trans (Nat.mul_le_mul_left 32 q) (Nat.mul_div_le ..)
  omega
theorem chain_some {b : List Nat} (h : 1 ≤ (chunks b).length ∧ (chunks b).length ≤ 4) : Ks190Neutral.chain b = some (chunks b) := by
  rw [chunks_len] at h
  unfold Ks190Neutral.chain
  rw [if_pos h]
  rfl
theorem chain_none {b : List Nat} (h : ¬ (1 ≤ (chunks b).length ∧ (chunks b).length ≤ 4)) : Ks190Neutral.chain b = none := by
  rw [chunks_len] at h
  unfold Ks190Neutral.chain
  rw [if_neg h]
/-! ### what each call answers -/
abbrev step := Ks190Neutral.step
/-- the medium with one page written -/
def wr (d : Medium) (p : Nat) (b : List Nat) : Medium := fun q => if q = p then b else d q
def told (m : Nat) (ns : List Int) : List Int := (m : Int) :: ns
theorem step_of (s : Medium) (c : List (List Int)) (h : Ks190Neutral.num c 0 0 = 1 ∨ Ks190Neutral.num c 0 0 = 2 ∨ Ks190Neutral.num c 0 0 = 3) :
    step s c = (after s (act G s [Ks190Neutral.script c] (Ks190Neutral.callOf c)).1, (act G s [Ks190Neutral.script c] (Ks190Neutral.callOf c)).2.ret :: (Ks190Neutral.ints (act G s [Ks190Neutral.script c] (Ks190Neutral.callOf c)).2.out ++
      (((act G s [Ks190Neutral.script c] (Ks190Neutral.callOf c)).1.length : Int) :: (act G s [Ks190Neutral.script c] (Ks190Neutral.callOf c)).1.flatMap evI))) := by
  unfold step Ks190Neutral.step
  rcases h with e | e | e <;> rw [e] <;> rfl
section
variable (s : Medium) (i : Nat) (b x sc : List Nat)
theorem call_put : Ks190Neutral.callOf [[1, (i : Int)], nzs b, nzs x, nzs sc] = .put (Ks190Neutral.chain b) i x := by
  show Ks190.Call.put (Ks190Neutral.chain (Ks190Neutral.nats (nzs b))) i (Ks190Neutral.nats (nzs x)) = _
  rw [nats_nzs, nats_nzs]
theorem call_get : Ks190Neutral.callOf [[2, (i : Int)], nzs b] = .get (Ks190Neutral.chain b) i := by
  show Ks190.Call.get (Ks190Neutral.chain (Ks190Neutral.nats (nzs b))) i = _
  rw [nats_nzs]
theorem call_drop : Ks190Neutral.callOf [[3, (i : Int)], nzs b, nzs sc] = .drop (Ks190Neutral.chain b) i := by
  show Ks190.Call.drop (Ks190Neutral.chain (Ks190Neutral.nats (nzs b))) i = _
  rw [nats_nzs]
theorem script_put : Ks190Neutral.script [[1, (i : Int)], nzs b, nzs x, nzs sc] = sc := nats_nzs sc
theorem script_drop : Ks190Neutral.script [[3, (i : Int)], nzs b, nzs sc] = sc := nats_nzs sc
/-- a chain that is good, a slot that is there -/
def Good : Prop := (1 ≤ (chunks b).length ∧ (chunks b).length ≤ 4) ∧ i < 64
theorem put_bad (h : ¬ Good i b) : step s [[1, (i : Int)], nzs b, nzs x, nzs sc] = (s, [-22, 0]) := by
  rw [step_of s _ (.inl rfl), call_put]
  by_cases q : 1 ≤ (chunks b).length ∧ (chunks b).length ≤ 4
  · rw [chain_some q]
    have hi : 64 ≤ i := by
      unfold Good at h
      omega
    have e : act G s [Ks190Neutral.script [[1, (i : Int)], nzs b, nzs x, nzs sc]] (.put (some (chunks b)) i x) = ([], Ks190.say (-22)) := if_pos hi
    rw [e]
    rfl
  · rw [chain_none q]
    rfl
theorem get_bad (h : ¬ Good i b) : step s [[2, (i : Int)], nzs b] = (s, [-22, 0]) := by
  rw [step_of s _ (.inr (.inl rfl)), call_get]
  by_cases q : 1 ≤ (chunks b).length ∧ (chunks b).length ≤ 4
  · rw [chain_some q]
    have hi : 64 ≤ i := by
      unfold Good at h
      omega
    have e : act G s [Ks190Neutral.script [[2, (i : Int)], nzs b]] (.get (some (chunks b)) i) = ([], Ks190.say (-22)) := if_pos hi
    rw [e]
    rfl
  · rw [chain_none q]
    rfl
theorem drop_bad (h : ¬ Good i b) : step s [[3, (i : Int)], nzs b, nzs sc] = (s, [-22, 0]) := by
  rw [step_of s _ (.inr (.inr rfl)), call_drop]
  by_cases q : 1 ≤ (chunks b).length ∧ (chunks b).length ≤ 4
  · rw [chain_some q]
    have hi : 64 ≤ i := by
      unfold Good at h
      omega
    have e : act G s [Ks190Neutral.script [[3, (i : Int)], nzs b, nzs sc]] (.drop (some (chunks b)) i) = ([], Ks190.say (-22)) := if_pos hi
    rw [e]
    rfl
  · rw [chain_none q]
    rfl
/-- how many things are asked while the places are found; the slot's page -/
def asks (b : List Nat) : List Nat := countsAt (chunks b) (chunks b).length
def pageAt (i : Nat) (b : List Nat) : Nat := (places G (chunks b)).getD i 0
theorem put_ok (h : Good i b) (hs : sc.length = 16) : step s [[1, (i : Int)], nzs b, nzs x, nzs sc] =
    (wr s (pageAt i b) (pageOf G (lastKey (chunks b)) sc x), 0 :: told ((asks b).sum + 3) (cntE (asks b) ++ [3, 16] ++ ([5] ++ nzs sc) ++ ([2, (pageAt i b : Int)] ++ nzs (pageOf G (lastKey (chunks b)) sc x)))) := by
  rw [step_of s _ (.inl rfl), call_put, script_put, chain_some h.1]
  have e : act G s [sc] (.put (some (chunks b)) i x) = (finding G (chunks b) ++ [.any sc, .mix (lastKey (chunks b)) sc (G.mix (lastKey (chunks b)) sc), .write (pageAt i b) (pageOf G (lastKey (chunks b)) sc x)], Ks190.say 0) := if_neg (by have := h.2; show ¬ 64 ≤ i; omega)
  rw [e]
  refine Prod.ext ?_ ?_
  · show after s (finding G (chunks b) ++ _) = _
    rw [after_app, after_find]
    rfl
  · show 0 :: (Ks190Neutral.ints [] ++ (((finding G (chunks b) ++ _).length : Nat) : Int) :: (finding G (chunks b) ++ _).flatMap evI) = _
    rw [List.length_append, List.flatMap_append, finding_ev, finding_len]
    show 0 :: (((asks b).sum + 3 : Nat) : Int) :: (cntE (asks b) ++ ([(3 : Int), (sc.length : Int)] ++ (((5 : Int) :: nzs sc) ++ ((((2 : Int) :: (pageAt i b : Int) :: nzs (pageOf G (lastKey (chunks b)) sc x)) ++ []))))) = _
    rw [hs, List.append_nil]
    unfold told
    rw [List.append_assoc, List.append_assoc]
    rfl
theorem drop_ok (h : Good i b) (hs : sc.length = 96) : step s [[3, (i : Int)], nzs b, nzs sc] =
    (wr s (pageAt i b) sc, 0 :: told ((asks b).sum + 2) (cntE (asks b) ++ [3, 96] ++ ([2, (pageAt i b : Int)] ++ nzs sc))) := by
  rw [step_of s _ (.inr (.inr rfl)), call_drop, script_drop, chain_some h.1]
  have e : act G s [sc] (.drop (some (chunks b)) i) = (finding G (chunks b) ++ [.any sc, .write (pageAt i b) sc], Ks190.say 0) := if_neg (by have := h.2; show ¬ 64 ≤ i; omega)
  rw [e]
  refine Prod.ext ?_ ?_
  · show after s (finding G (chunks b) ++ _) = _
    rw [after_app, after_find]
    rfl
  · show 0 :: (Ks190Neutral.ints [] ++ (((finding G (chunks b) ++ _).length : Nat) : Int) :: (finding G (chunks b) ++ _).flatMap evI) = _
    rw [List.length_append, List.flatMap_append, finding_ev, finding_len]
    show 0 :: (((asks b).sum + 2 : Nat) : Int) :: (cntE (asks b) ++ ([(3 : Int), (sc.length : Int)] ++ ((((2 : Int) :: (pageAt i b : Int) :: nzs sc) ++ [])))) = _
    rw [hs, List.append_nil]
    unfold told
    rw [List.append_assoc]
    rfl
/-- what a get asks -/
def getAsks : List Int := cntE (asks b) ++ [1, (pageAt i b : Int)] ++ ([5] ++ nzs ((s (pageAt i b)).take 16))
theorem get_act (h : Good i b) (sc' : List Nat) : act G s [sc'] (.get (some (chunks b)) i) = (finding G (chunks b) ++ [.read (pageAt i b) (s (pageAt i b)), .mix (lastKey (chunks b)) ((s (pageAt i b)).take 16) (G.mix (lastKey (chunks b)) ((s (pageAt i b)).take 16))],
    match Ks190.under G (lastKey (chunks b)) (s (pageAt i b)) with
    | some x => { ret := 0, out := x }
    | none => Ks190.say (-2)) := if_neg (by have := h.2; show ¬ 64 ≤ i; omega)
theorem get_ans (h : Good i b) (A : Ks190.Ans) (hA : (act G s [Ks190Neutral.script [[2, (i : Int)], nzs b]] (.get (some (chunks b)) i)).2 = A) : step s [[2, (i : Int)], nzs b] = (s, A.ret :: (nzs A.out ++ told ((asks b).sum + 2) (getAsks s i b))) := by
  rw [step_of s _ (.inr (.inl rfl)), call_get, chain_some h.1, hA]
  have e1 : (act G s [Ks190Neutral.script [[2, (i : Int)], nzs b]] (.get (some (chunks b)) i)).1 = finding G (chunks b) ++ [.read (pageAt i b) (s (pageAt i b)), .mix (lastKey (chunks b)) ((s (pageAt i b)).take 16) (G.mix (lastKey (chunks b)) ((s (pageAt i b)).take 16))] := by
    rw [get_act s i b h]
  rw [e1]
  refine Prod.ext ?_ ?_
  · show after s (finding G (chunks b) ++ _) = _
    rw [after_app, after_find]
    rfl
  · show A.ret :: (Ks190Neutral.ints A.out ++ (((finding G (chunks b) ++ _).length : Nat) : Int) :: (finding G (chunks b) ++ _).flatMap evI) = _
    rw [List.length_append, List.flatMap_append, finding_ev, finding_len]
    show A.ret :: (nzs A.out ++ (((asks b).sum + 2 : Nat) : Int) :: (cntE (asks b) ++ ([(1 : Int), (pageAt i b : Int)] ++ (((5 : Int) :: nzs ((s (pageAt i b)).take 16)) ++ [])))) = _
    rw [List.append_nil]
    unfold told getAsks
    rw [List.append_assoc]
    rfl
theorem get_none (h : Good i b) (hu : Ks190.under G (lastKey (chunks b)) (s (pageAt i b)) = none) : step s [[2, (i : Int)], nzs b] = (s, -2 :: told ((asks b).sum + 2) (getAsks s i b)) := by
  refine (get_ans s i b h (Ks190.say (-2)) ?_).trans rfl
  rw [get_act s i b h, hu]
theorem get_some (h : Good i b) {y : List Nat} (hu : Ks190.under G (lastKey (chunks b)) (s (pageAt i b)) = some y) : step s [[2, (i : Int)], nzs b] = (s, 0 :: (nzs y ++ told ((asks b).sum + 2) (getAsks s i b))) := by
  refine get_ans s i b h { ret := 0, out := y } ?_
  rw [get_act s i b h, hu]
end
/-! ### fresh, page -/
def freshRow (seed p : Nat) : List Nat := (List.range 96).map fun i => (seed + 7 * p + 13 * i) % 256
theorem fresh_after (g : Nat → List Nat) : ∀ (n : Nat) (s : Medium) (q : Nat), after s ((List.range n).flatMap fun p => [Ev.any (g p), Ev.write p (g p)]) q = if q < n then g q else s q
  | 0, s, q => by
    rw [if_neg (Nat.not_lt_zero q)]
    rfl
  | n + 1, s, q => by
    rw [List.range_succ, List.flatMap_append, after_app]
    show (if q = n then g n else after s ((List.range n).flatMap fun p => [Ev.any (g p), Ev.write p (g p)]) q) = _
    rw [fresh_after g n s q]
    by_cases e : q = n
    · rw [if_pos e, if_pos (by omega), e]
    · rw [if_neg e]
      by_cases l : q < n
      · rw [if_pos l, if_pos (by omega)]
      · rw [if_neg l, if_neg (by omega)]
theorem fixed_at (d : Medium) {p : Nat} (h : p < 1024) : Ks190Neutral.fixed d p = d p := by
  show ((List.range 1024).map d).getD p [] = d p
  rw [List.getD_eq_getElem?_getD, List.getElem?_map, List.getElem?_range h]
  rfl
theorem fresh_ok (s : Medium) (seed : Nat) : (step s [[0, (seed : Int)]]).2 = [0] ∧ ∀ p, p < 1024 → (step s [[0, (seed : Int)]]).1 p = freshRow seed p := by
  refine ⟨rfl, fun p hp => ?_⟩
  have e : (step s [[0, (seed : Int)]]).1 = Ks190Neutral.fixed (after s ((List.range 1024).flatMap fun p => [Ev.any (((List.range 1024).map (freshRow seed)).getD p []), Ev.write p (((List.range 1024).map (freshRow seed)).getD p [])])) := rfl
  rw [e, fixed_at _ hp, fresh_after (fun p => ((List.range 1024).map (freshRow seed)).getD p []), if_pos hp, List.getD_eq_getElem?_getD, List.getElem?_map, List.getElem?_range hp]
  rfl
theorem page_ok (s : Medium) (n : Nat) : step s [[4, (n : Int)]] = (s, 0 :: nzs (s (n % 1024))) := rfl
end Hd
namespace Hd
open PySem PySem.Spec PyProof.Rows L2
/-! ### the text by places -/
def top (i : Nat) : Stmt := PySem.Challenge.pw_hiddendrawers_s01_answers.main.body.getD i (.Pass ⟨0, 0, 0, 0⟩)
abbrev sPlace : Stmt := top 8
abbrev sPad : Stmt := top 9
abbrev sUnder : Stmt := top 10
abbrev sSealed : Stmt := top 11
abbrev sOpened : Stmt := top 12
abbrev sKeysIn : Stmt := top 16
abbrev sIsChain : Stmt := top 17
abbrev sOwn : Stmt := top 18
abbrev sFind : Stmt := top 19
abbrev sAInit : Stmt := inClass (top 26) 0
abbrev sNote : Stmt := inClass (top 26) 1
abbrev sTold : Stmt := inClass (top 26) 2
abbrev sPInit : Stmt := inClass (top 27) 0
abbrev sFill : Stmt := inClass (top 27) 1
abbrev sPage : Stmt := inClass (top 27) 2
abbrev sPFind : Stmt := inClass (top 27) 3
abbrev sWrite : Stmt := inClass (top 27) 4
abbrev sPPut : Stmt := inClass (top 27) 5
abbrev sPGet : Stmt := inClass (top 27) 6
abbrev sPDrop : Stmt := inClass (top 27) 7
abbrev sPut : Stmt := top 36
abbrev sGet : Stmt := top 37
abbrev sDrop : Stmt := top 38
abbrev sAnswered : Stmt := top 39
abbrev sRowsAt : Stmt := top 40
abbrev sAnswers : Stmt := top 41
/-! ### what stands by its name -/
/-- a module's whole number -/
def GI (mg : Str → Option Value) (x : Str) (i : Int) : Prop := ∃ t, mg x = some (.int i t)
structure Txt (K : PySem.W.Frag) (mg : Str → Option Value) (CA CP : Addr) : Prop where
  clA : Cls K CA
  nM : NoAttr K CA "many"
  nN : NoAttr K CA "numbers"
  clP : Cls K CP
  nR : NoAttr K CP "rows"
  range : mg "range" = none
  len : mg "len" = none
  list : mg "list" = none
  zip : mg "zip" = none
  PAGES : GI mg "PAGES" 1024
  PAGE_BYTES : GI mg "PAGE_BYTES" 96
  KEY_BYTES : GI mg "KEY_BYTES" 32
  SALT_BYTES : GI mg "SALT_BYTES" 16
  MARK_BYTES : GI mg "MARK_BYTES" 16
  PAD_BYTES : GI mg "PAD_BYTES" 80
  BYTE : GI mg "BYTE" 256
  SLOTS : GI mg "SLOTS" 64
  MOST_KEYS : GI mg "MOST_KEYS" 4
  READ : GI mg "READ" 1
  WRITTEN : GI mg "WRITTEN" 2
  CHANCE : GI mg "CHANCE" 3
  PLACE : GI mg "PLACE" 4
  PAD : GI mg "PAD" 5
  BAD : GI mg "BAD" (-22)
  NOTHING : GI mg "NOTHING" (-2)
  FRESH : GI mg "FRESH" 0
  PUT : GI mg "PUT" 1
  GET : GI mg "GET" 2
  DROP : GI mg "DROP" 3
/-- a def of the module, called by its name: where it stands and what it keeps, in k rooms -/
structure Cal (P : Program) (w : World) (K : PySem.W.Frag) (mg : Str → Option Value) (base : Heap) (k : Nat) (x : Str) (sp : Sp) where
  f : Addr
  fd : FuncData
  ps : List Str
  ok : FnOk P w K mg base CX0 k f fd ps sp
  mg : mg x = some (.ref f)
  kp : PySem.W.keepIn K (.ref f) = true
  bd : Binds K fd ps []
/-- a method m of C's objects -/
structure Met (P : Program) (w : World) (K : PySem.W.Frag) (mg : Str → Option Value) (base : Heap) (k : Nat) (C : Addr) (m : Str) (sp : Sp) where
  f : Addr
  fd : FuncData
  ps : List Str
  cl : Cls K C
  me : Meth K C m f
  ok : FnOk P w K mg base CX0 k f fd ps sp
  bd : Binds K fd ps []
/-- a class x whose objects are made without arguments -/
structure Mak (P : Program) (w : World) (K : PySem.W.Frag) (mg : Str → Option Value) (base : Heap) (k : Nat) (x : Str) (C : Addr) (sp : Sp) where
  f : Addr
  fd : FuncData
  ps : List Str
  mk' : Mk K C f
  ok : FnOk P w K mg base CX0 k f fd ps sp
  mg : mg x = some (.ref C)
  bd : Binds K fd ps []
/-- a module's whole number, by its name -/
theorem pe_ci {X : Cx} {x : Str} {pos : Pos} {i : Int} (h : GI X.mg x i) (hg : Gl X x := by rfl) (hd : (x == ("__debug__" : Str)) = false := by decide) : PE X (.Name x pos) (tC (.int i)) := by
  obtain ⟨u, hm⟩ := h
  exact pe_glob hg hm ⟨u, rfl⟩ hd
/-! ### values -/
/-- numbers as values -/
def nv (l : List Nat) : List V := l.map fun n : Nat => V.int (n : Int)
theorem nv_len (l : List Nat) : (nv l).length = l.length := List.length_map ..
theorem nv_nzs (l : List Nat) : (nzs l).map V.int = nv l := by
  unfold nzs nv
  rw [List.map_map]
  rfl
theorem nv_app (a b : List Nat) : nv (a ++ b) = nv a ++ nv b := List.map_append
theorem nv_some {l : List Nat} {i n : Nat} (h : l[i]? = some n) : (nv l)[i]? = some (.int (n : Int)) := by
  unfold nv
  rw [List.getElem?_map, h]
  rfl
theorem getD_some {l : List Nat} {i : Nat} (h : i < l.length) : l[i]? = some (l.getD i 0) := by
  rw [List.getD_eq_getElem?_getD, List.getElem?_eq_getElem h]
  rfl
theorem nv_at {l : List Nat} {i : Nat} (h : i < l.length) : (nv l)[i]? = some (.int ((l.getD i 0 : Nat) : Int)) := nv_some (getD_some h)
/-- an item by a whole number -/
theorem nv_ix {l : List Nat} {z : Int} {i : Nat} (e : z = (i : Int)) (h : i < l.length) : atI (nv l) z = some (.int ((l.getD i 0 : Nat) : Int)) := at_of e (nv_at h)
theorem nv_take (l : List Nat) (n : Nat) : (nv l).take n = nv (l.take n) := (List.map_take ..).symm
theorem nv_drop (l : List Nat) (n : Nat) : (nv l).drop n = nv (l.drop n) := (List.map_drop ..).symm
theorem cut_to (xs : List V) (n : Nat) : cutV xs none (some (n : Int)) = xs.take n := by
  unfold cutV
  rw [HT.sIx_none, HT.sIx_nat, List.drop_zero, Nat.sub_zero]
  rcases Nat.le_total n xs.length with h | h
  · rw [Nat.min_eq_left h]
  · rw [Nat.min_eq_right h, List.take_of_length_le (Nat.le_refl _), List.take_of_length_le h]
theorem cut_from (xs : List V) (n : Nat) : cutV xs (some (n : Int)) none = xs.drop n := by
  unfold cutV
  rw [HT.sIx_none, HT.sIx_nat]
  rcases Nat.le_total n xs.length with h | h
  · rw [Nat.min_eq_left h, List.take_of_length_le (by rw [List.length_drop]; omega)]
  · rw [Nat.min_eq_right h, Nat.sub_self, List.take_zero, List.drop_eq_nil_of_le h]
theorem cut_mid (xs : List V) (a n : Nat) : cutV xs (some (a : Int)) (some ((a + n : Nat) : Int)) = (xs.drop a).take n := by
  unfold cutV
  rw [HT.sIx_nat, HT.sIx_nat]
  rcases Nat.le_total a xs.length with h | h
  · rw [Nat.min_eq_left h]
    rcases Nat.le_total (a + n) xs.length with h2 | h2
    · rw [Nat.min_eq_left h2, Nat.add_sub_cancel_left]
    · rw [Nat.min_eq_right h2, List.take_of_length_le (by rw [List.length_drop]; omega), List.take_of_length_le (by rw [List.length_drop]; omega)]
  · rw [Nat.min_eq_right h, List.drop_eq_nil_of_le (Nat.le_refl _), List.drop_eq_nil_of_le h, List.take_nil, List.take_nil]
theorem qint {Q : VK} {x y : Int} {H : Hp} (e : x = y) (h : Q (.int y) H) : Q (.int x) H := e ▸ h
theorem atlast {l : List V} {v : V} (h : l.getLast? = some v) : atI l (-1) = some v := by
  obtain ⟨r, e⟩ := List.getLast?_eq_some_iff.mp h
  rw [e]
  exact atI_last r v
/-! ### heaps -/
theorem sameNew {H : Hp} {l : Addr} {o : HO} (hl : H l = none) : Same H (upd H l o) := fun b u e => by
  rw [upd_ne (ne_of_none e hl)]
  exact e
theorem samePut {H H1 : Hp} {l : Addr} {o : HO} (s : Same H H1) (hl : H l = none) : Same H (upd H1 l o) := fun b u e => by
  rw [upd_ne (ne_of_none e hl)]
  exact s b u e
theorem sameAdd {H H1 : Hp} {l : Addr} {o : HO} (s : Same H H1) (hl : H1 l = none) : Same H (upd H1 l o) := s.trans (sameNew hl)
/-- all but M stands -/
def Keep (M : Addr → Prop) (H H' : Hp) : Prop := ∀ b o, H b = some o → ¬ M b → H' b = some o
theorem Keep.same {M : Addr → Prop} {H H' : Hp} (k : Keep M H H') (h : ∀ b, M b → H b = none) : Same H H' := fun b o e => k b o e fun m => by
  rw [h b m] at e
  cases e
/-- a list of lists of bytes: none of them lies in F -/
structure RowsAt (F : Addr → Prop) (H : Hp) (p : Addr) (rows : List (List Nat)) : Prop where
  ex : ∃ ks : List Addr, H p = some (.lst (ks.map V.ref)) ∧ ks.length = rows.length ∧ (∀ (i : Nat) (k : Addr) (r : List Nat), ks[i]? = some k → rows[i]? = some r → H k = some (.lst (nv r)) ∧ ¬ F k) ∧ ¬ F p
theorem RowsAt.keep {F : Addr → Prop} {H H' : Hp} {p : Addr} {rows : List (List Nat)} (h : RowsAt F H p rows) (k : Keep F H H') : RowsAt F H' p rows := by
  obtain ⟨ks, h1, h2, h3, h4⟩ := h.ex
  refine ⟨ks, k _ _ h1 h4, h2, fun i a r e1 e2 => ?_, h4⟩
  obtain ⟨g1, g2⟩ := h3 i a r e1 e2
  exact ⟨k _ _ g1 g2, g2⟩
/-- new addresses: nothing that was tracked -/
theorem RowsAt.off {F F' : Addr → Prop} {H H' : Hp} {p : Addr} {rows : List (List Nat)} (h : RowsAt F H p rows) (s : Same H H') (hf : ∀ b, F' b → H b = none) : RowsAt F' H' p rows := by
  obtain ⟨ks, h1, h2, h3, h4⟩ := h.ex
  refine ⟨ks, s _ _ h1, h2, fun i a r e1 e2 => ?_, fun q => ?_⟩
  · obtain ⟨g1, g2⟩ := h3 i a r e1 e2
    refine ⟨s _ _ g1, fun q => ?_⟩
    rw [hf a q] at g1
    cases g1
  · rw [hf p q] at h1
    cases h1
theorem RowsAt.mono {F F' : Addr → Prop} {H : Hp} {p : Addr} {rows : List (List Nat)} (h : RowsAt F H p rows) (hf : ∀ b, F' b → F b) : RowsAt F' H p rows := by
  obtain ⟨ks, h1, h2, h3, h4⟩ := h.ex
  exact ⟨ks, h1, h2, fun i a r e1 e2 => ⟨(h3 i a r e1 e2).1, fun q => (h3 i a r e1 e2).2 (hf a q)⟩, fun q => h4 (hf p q)⟩
/-- its i-th row -/
theorem RowsAt.at {F : Addr → Prop} {H : Hp} {p : Addr} {rows : List (List Nat)} (h : RowsAt F H p rows) {i : Nat} {r : List Nat} (e : rows[i]? = some r) :
    ∃ (ks : List Addr) (k : Addr), H p = some (.lst (ks.map V.ref)) ∧ ks.length = rows.length ∧ (ks.map V.ref)[i]? = some (.ref k) ∧ H k = some (.lst (nv r)) ∧ ¬ F k := by
  obtain ⟨ks, h1, h2, h3, h4⟩ := h.ex
  have hi : i < ks.length := by
    rw [h2]
    exact (List.getElem?_eq_some_iff.mp e).1
  have ek : ks[i]? = some ks[i] := List.getElem?_eq_getElem hi
  obtain ⟨g1, g2⟩ := h3 i _ r ek e
  exact ⟨ks, ks[i], h1, h2, by rw [List.getElem?_map, ek] <;> rfl, g1, g2⟩
/-- tracked -/
def Trk (H : Hp) : Addr → Prop := fun b => ∃ o, H b = some o
theorem not_trk {H : Hp} {a : Addr} (h : H a = none) : ¬ Trk H a := fun ⟨o, e⟩ => by
  rw [h] at e
  cases e
end Hd
namespace Hd
open PySem PySem.Spec PyProof.Rows L2
open Ks190 (Medium)
/-! ### the promises -/
/-- a new list of bytes -/
def NewL (H : Hp) (Q : VK) (l : List Nat) : Prop := ∀ (H' : Hp) (p : Addr), Same H H' → H p = none → H' p = some (.lst (nv l)) → Q (.ref p) H'
def spPlace (K : PySem.W.Frag) : Sp := fun vs H Q _ => ∃ (a : Addr) (k : List Nat) (n : Nat), vs = [.ref a, .int (n : Int)] ∧ SqL K H a (nv k) ∧ KeyOk k ∧ Q (.int ((G.place k n : Nat) : Int)) H
def spPad (K : PySem.W.Frag) : Sp := fun vs H Q _ => ∃ (a b : Addr) (k z : List Nat), vs = [.ref a, .ref b] ∧ SqL K H a (nv k) ∧ SqL K H b (nv z) ∧ k.length = 32 ∧ z.length = 16 ∧ NewL H Q (G.mix k z)
def spUnder (K : PySem.W.Frag) : Sp := fun vs H Q _ => ∃ (a b : Addr) (x y : List Nat), vs = [.ref a, .ref b] ∧ SqL K H a (nv x) ∧ SqL K H b (nv y) ∧ x.length = y.length ∧ x.length ≤ 1000 ∧ NewL H Q (Ks190.xor y x)
def spSealed (K : PySem.W.Frag) : Sp := fun vs H Q _ => ∃ (a b c : Addr) (k z x : List Nat), vs = [.ref a, .ref b, .ref c] ∧ SqL K H a (nv k) ∧ H b = some (.lst (nv z)) ∧ H c = some (.lst (nv x)) ∧ k.length = 32 ∧ z.length = 16 ∧ x.length = 64 ∧
  NewL H Q (Ks190.pageOf G k z x)
def spOpened (K : PySem.W.Frag) : Sp := fun vs H Q _ => ∃ (a b : Addr) (k pg : List Nat), vs = [.ref a, .ref b] ∧ SqL K H a (nv k) ∧ SqL K H b (nv pg) ∧ k.length = 32 ∧ pg.length = 96 ∧
  (Ks190.under G k pg = none → ∀ H', Same H H' → Q .non H') ∧ ∀ y, Ks190.under G k pg = some y → NewL H Q y
def spKeysIn (K : PySem.W.Frag) : Sp := fun vs H Q _ => ∃ (a : Addr) (b : List Nat), vs = [.ref a] ∧ SqL K H a (nv b) ∧ b.length ≤ 1000 ∧
  ∀ (H' : Hp) (p : Addr), Same H H' → RowsAt (Trk H) H' p (chunks b) → Q (.ref p) H'
def spIsChain (K : PySem.W.Frag) : Sp := fun vs H Q _ => ∃ (a : Addr) (xs : List V), vs = [.ref a] ∧ SqL K H a xs ∧ Q (.bl (decide (1 ≤ xs.length ∧ xs.length ≤ 4))) H
/-- the dict at t holds just the taken places -/
def TakenAt (H : Hp) (t : Addr) (T : List Nat) : Prop := ∃ kvs : List (Key × V), H t = some (.dK kvs) ∧ (∀ n : Nat, (valV kvs (.inl (n : Int))).isSome = T.contains n) ∧ kvs.length ≤ T.length
def spOwn (K : PySem.W.Frag) : Sp := fun vs H Q _ => ∃ (a t : Addr) (k T : List Nat), vs = [.ref a, .ref t] ∧ SqL K H a (nv k) ∧ KeyOk k ∧ TakenAt H t T ∧ T.length ≤ 192 ∧
  ∀ (H' : Hp) (q f : Addr), Same H H' → H f = none → H' q = some (.tup [.ref f, .int (((own k T).2 : Nat) : Int)]) → H' f = some (.lst (nv (own k T).1)) → Q (.ref q) H'
def spFind : Sp := fun vs H Q _ => ∃ (a : Addr) (keys : List (List Nat)), vs = [.ref a] ∧ RowsAt (fun _ => False) H a keys ∧ (∀ k ∈ keys, KeyOk k) ∧ keys.length ≤ 4 ∧
  ∀ (H' : Hp) (q pl ak : Addr), Same H H' → H pl = none → H ak = none → H' q = some (.tup [.ref pl, .ref ak]) → H' pl = some (.lst (nv (Ks190.places G keys))) → H' ak = some (.lst (nv (countsAt keys keys.length))) → Q (.ref q) H'
/-! ### what is asked -/
def aF (m : Nat) (N : Addr) : List (Str × V) := [("many", .int (m : Int)), ("numbers", .ref N)]
def AskedAt (CA : Addr) (H : Hp) (x N : Addr) (m : Nat) (ns : List Int) : Prop := ∃ dx, H x = some (.ins CA dx (aF m N)) ∧ H N = some (.lst (ns.map V.int))
/-- the object's own -/
def AN (x N : Addr) : Addr → Prop := fun b => b = x ∨ b = N
def spAInit (CA : Addr) : Sp := fun vs H Q _ => ∃ (x dx : Addr), vs = [.ref x] ∧ H x = some (.ins CA dx []) ∧ ∀ (H' : Hp) (N : Addr), H N = none → Keep (· = x) H H' → AskedAt CA H' x N 0 [] → Q .non H'
def spNote (CA : Addr) : Sp := fun vs H Q _ => ∃ (x N r : Addr) (m : Nat) (ns rs : List Int), vs = [.ref x, .ref r] ∧ AskedAt CA H x N m ns ∧ H r = some (.lst (rs.map V.int)) ∧ ns.length + rs.length ≤ 1000000 ∧
  ∀ H' : Hp, Keep (AN x N) H H' → AskedAt CA H' x N (m + 1) (ns ++ rs) → Q .non H'
def spTold (CA : Addr) : Sp := fun vs H Q _ => ∃ (x N : Addr) (m : Nat) (ns : List Int), vs = [.ref x] ∧ AskedAt CA H x N m ns ∧ ns.length ≤ 1000000 ∧
  ∀ (H' : Hp) (p : Addr), Same H H' → H p = none → H' p = some (.lst ((told m ns).map V.int)) → Q (.ref p) H'
/-! ### the pages: S holds all that is the object's own -/
def pF (R : Addr) : List (Str × V) := [("rows", .ref R)]
structure PagesAt (CP : Addr) (S : Addr → Prop) (H : Hp) (a : Addr) (d : Medium) : Prop where
  ex : ∃ (dx R : Addr) (refs : List Addr), H a = some (.ins CP dx (pF R)) ∧ S a ∧ S R ∧ H R = some (.lst (refs.map V.ref)) ∧ refs.length = 1024 ∧ ∀ (p : Nat) (r : Addr), refs[p]? = some r → H r = some (.lst (nv (d p))) ∧ S r
  sz : ∀ p, p < 1024 → (d p).length = 96
def Fr (S : Addr → Prop) (H : Hp) (S' : Addr → Prop) (H' : Hp) : Prop := ∀ b o, H b = some o → ¬ S b → H' b = some o ∧ ¬ S' b
def spPInit (CP : Addr) : Sp := fun vs H Q _ => ∃ (x dx : Addr), vs = [.ref x] ∧ H x = some (.ins CP dx []) ∧
  ∀ (H' : Hp) (S : Addr → Prop), (∀ b o, H b = some o → b ≠ x → H' b = some o ∧ ¬ S b) → PagesAt CP S H' x Ks190Neutral.start → Q .non H'
def spFill (CP : Addr) : Sp := fun vs H Q _ => ∃ (a : Addr) (S : Addr → Prop) (d d' : Medium) (n : Nat), vs = [.ref a, .int (n : Int)] ∧ PagesAt CP S H a d ∧ (∀ p, p < 1024 → d' p = freshRow n p) ∧
  ∀ (H' : Hp) (S' : Addr → Prop), Fr S H S' H' → PagesAt CP S' H' a d' → Q .non H'
def spPage (CP : Addr) : Sp := fun vs H Q _ => ∃ (a : Addr) (S : Addr → Prop) (d : Medium) (n : Nat), vs = [.ref a, .int (n : Int)] ∧ PagesAt CP S H a d ∧ NewL H Q (d (n % 1024))
/-- the page of a chain's slot; what finding it asks -/
def pgOf (keys : List (List Nat)) (i : Nat) : Nat := (Ks190.places G keys).getD i 0
def cs (keys : List (List Nat)) : List Nat := countsAt keys keys.length
structure KeysOk (keys : List (List Nat)) : Prop where
  all : ∀ k ∈ keys, KeyOk k
  one : 1 ≤ keys.length
  four : keys.length ≤ 4
def spPFind (CA : Addr) : Sp := fun vs H Q _ => ∃ (v : V) (x N kp : Addr) (i : Nat) (keys : List (List Nat)), vs = [v, .ref x, .ref kp, .int (i : Int)] ∧ AskedAt CA H x N 0 [] ∧ RowsAt (AN x N) H kp keys ∧ KeysOk keys ∧ i < 64 ∧
  ∀ H' : Hp, Keep (AN x N) H H' → AskedAt CA H' x N (cs keys).sum (cntE (cs keys)) → Q (.int ((pgOf keys i : Nat) : Int)) H'
/-- all stands but the pages' own and what is asked's own -/
def FrA (S : Addr → Prop) (x N : Addr) (H : Hp) (S' : Addr → Prop) (H' : Hp) : Prop := ∀ b o, H b = some o → ¬ S b → ¬ AN x N b → H' b = some o ∧ ¬ S' b
def spWrite (CA CP : Addr) : Sp := fun vs H Q _ => ∃ (a x N r : Addr) (S : Addr → Prop) (d : Medium) (m p : Nat) (ns : List Int) (row : List Nat), vs = [.ref a, .ref x, .int (p : Int), .ref r] ∧ PagesAt CP S H a d ∧ AskedAt CA H x N m ns ∧
  (¬ S x ∧ ¬ S N) ∧ p < 1024 ∧ H r = some (.lst (nv row)) ∧ row.length = 96 ∧ ¬ AN x N r ∧ ns.length ≤ 100000 ∧
  ∀ (H' : Hp) (S' : Addr → Prop), (∀ b o, H b = some o → ¬ S b → ¬ AN x N b → b ≠ r → H' b = some o ∧ ¬ S' b) → PagesAt CP S' H' a (wr d p row) → AskedAt CA H' x N (m + 1) (ns ++ ([2, (p : Int)] ++ nzs row)) → Q .non H'
def spPPut (CA CP : Addr) : Sp := fun vs H Q _ => ∃ (a x N kp dt sc : Addr) (S : Addr → Prop) (d : Medium) (i : Nat) (keys : List (List Nat)) (data script : List Nat), vs = [.ref a, .ref x, .ref kp, .int (i : Int), .ref dt, .ref sc] ∧
  PagesAt CP S H a d ∧ AskedAt CA H x N 0 [] ∧ (¬ S x ∧ ¬ S N) ∧ RowsAt (AN x N) H kp keys ∧ KeysOk keys ∧ i < 64 ∧ (H dt = some (.lst (nv data)) ∧ data.length = 64 ∧ ¬ AN x N dt) ∧ (H sc = some (.lst (nv script)) ∧ script.length = 16 ∧ ¬ AN x N sc) ∧
  ∀ (H' : Hp) (S' : Addr → Prop), FrA S x N H S' H' → PagesAt CP S' H' a (wr d (pgOf keys i) (Ks190.pageOf G (Ks190.lastKey keys) script data)) →
    AskedAt CA H' x N ((cs keys).sum + 3) (cntE (cs keys) ++ [3, 16] ++ ([5] ++ nzs script) ++ ([2, (pgOf keys i : Int)] ++ nzs (Ks190.pageOf G (Ks190.lastKey keys) script data))) → Q .non H'
def spPGet (CA CP : Addr) : Sp := fun vs H Q _ => ∃ (a x N kp : Addr) (S : Addr → Prop) (d : Medium) (i : Nat) (keys : List (List Nat)), vs = [.ref a, .ref x, .ref kp, .int (i : Int)] ∧
  PagesAt CP S H a d ∧ AskedAt CA H x N 0 [] ∧ (¬ S x ∧ ¬ S N) ∧ RowsAt (AN x N) H kp keys ∧ KeysOk keys ∧ i < 64 ∧
  ∀ (H' : Hp) (v : V), Keep (AN x N) H H' → AskedAt CA H' x N ((cs keys).sum + 2) (cntE (cs keys) ++ [1, (pgOf keys i : Int)] ++ ([5] ++ nzs ((d (pgOf keys i)).take 16))) →
    (match Ks190.under G (Ks190.lastKey keys) (d (pgOf keys i)) with
      | none => v = .non
      | some y => ∃ p, v = .ref p ∧ H' p = some (.lst (nv y))) → Q v H'
def spPDrop (CA CP : Addr) : Sp := fun vs H Q _ => ∃ (a x N kp sc : Addr) (S : Addr → Prop) (d : Medium) (i : Nat) (keys : List (List Nat)) (script : List Nat), vs = [.ref a, .ref x, .ref kp, .int (i : Int), .ref sc] ∧
  PagesAt CP S H a d ∧ AskedAt CA H x N 0 [] ∧ (¬ S x ∧ ¬ S N) ∧ RowsAt (AN x N) H kp keys ∧ KeysOk keys ∧ i < 64 ∧ (H sc = some (.lst (nv script)) ∧ script.length = 96 ∧ ¬ AN x N sc) ∧
  ∀ (H' : Hp) (S' : Addr → Prop), FrA S x N H S' H' → PagesAt CP S' H' a (wr d (pgOf keys i) script) →
    AskedAt CA H' x N ((cs keys).sum + 2) (cntE (cs keys) ++ [3, 96] ++ ([2, (pgOf keys i : Int)] ++ nzs script)) → Q .non H'
/-! ### the calls -/
/-- behind a call: the pages, and the answer in a new list -/
def After (CP : Addr) (S : Addr → Prop) (H : Hp) (a : Addr) (Q : VK) (r : Medium × List Int) : Prop :=
  ∀ (H' : Hp) (S' : Addr → Prop) (p : Addr), PagesAt CP S' H' a r.1 → Fr S H S' H' → (¬ S p → H p = none) → H' p = some (.lst (r.2.map V.int)) → Q (.ref p) H'
structure PutOk (i : Nat) (b x sc : List Nat) : Prop where
  by_ : ∀ y ∈ b, y < 256
  most : b.length ≤ 1000
  data : x.length = 64
  script : Good i b → sc.length = 16
def spPut (CP : Addr) : Sp := fun vs H Q _ => ∃ (a r : Addr) (S : Addr → Prop) (d : Medium) (i : Nat) (b x sc : List Nat), vs = [.ref a, .int (i : Int), .ref r] ∧ PagesAt CP S H a d ∧ (∀ z, S z → Trk H z) ∧ RowsAt (fun _ => False) H r [b, x, sc] ∧ PutOk i b x sc ∧
  After CP S H a Q (step d [[1, (i : Int)], nzs b, nzs x, nzs sc])
structure GetOk (b : List Nat) : Prop where
  by_ : ∀ y ∈ b, y < 256
  most : b.length ≤ 1000
def spGet (CP : Addr) : Sp := fun vs H Q _ => ∃ (a r : Addr) (S : Addr → Prop) (d : Medium) (i : Nat) (b : List Nat), vs = [.ref a, .int (i : Int), .ref r] ∧ PagesAt CP S H a d ∧ (∀ z, S z → Trk H z) ∧ RowsAt (fun _ => False) H r [b] ∧ GetOk b ∧
  After CP S H a Q (step d [[2, (i : Int)], nzs b])
structure DropOk (i : Nat) (b sc : List Nat) : Prop where
  by_ : ∀ y ∈ b, y < 256
  most : b.length ≤ 1000
  script : Good i b → sc.length = 96
def spDrop (CP : Addr) : Sp := fun vs H Q _ => ∃ (a r : Addr) (S : Addr → Prop) (d : Medium) (i : Nat) (b sc : List Nat), vs = [.ref a, .int (i : Int), .ref r] ∧ PagesAt CP S H a d ∧ (∀ z, S z → Trk H z) ∧ RowsAt (fun _ => False) H r [b, sc] ∧ DropOk i b sc ∧
  After CP S H a Q (step d [[3, (i : Int)], nzs b, nzs sc])
/-- a call of the document's -/
inductive CallOk : Int → Nat → List (List Nat) → Prop
  | fresh (n : Nat) : CallOk 0 n []
  | put {n : Nat} {b x sc : List Nat} : PutOk n b x sc → CallOk 1 n [b, x, sc]
  | get {n : Nat} {b : List Nat} : GetOk b → CallOk 2 n [b]
  | drop {n : Nat} {b sc : List Nat} : DropOk n b sc → CallOk 3 n [b, sc]
  | page (n : Nat) : CallOk 4 n []
def spAnswered (CP : Addr) : Sp := fun vs H Q _ => ∃ (a r : Addr) (S : Addr → Prop) (d : Medium) (c : Int) (n : Nat) (rows : List (List Nat)), vs = [.ref a, .int c, .int (n : Int), .ref r] ∧ PagesAt CP S H a d ∧ (∀ z, S z → Trk H z) ∧
  RowsAt (fun _ => False) H r rows ∧ CallOk c n rows ∧ After CP S H a Q (step d ([c, (n : Int)] :: rows.map nzs))
def spRowsAt (K : PySem.W.Frag) : Sp := fun vs H Q _ => ∃ (cl : Addr) (ns : List Int) (at_ many : Nat) (rows : List (List Nat)) (t : List Int), vs = [.ref cl, .int (at_ : Int), .int (many : Int)] ∧ SqL K H cl (ns.map V.int) ∧ ns.length ≤ 30000 ∧ at_ ≤ ns.length ∧ many ≤ 3 ∧
  PyFlat.rows many (ns.drop at_) = some (rows.map nzs, t) ∧ ∀ (H' : Hp) (q f : Addr) (e : Nat), Same H H' → H' q = some (.tup [.ref f, .int (e : Int)]) → RowsAt (Trk H) H' f rows → e ≤ ns.length → ns.drop e = t → Q (.ref q) H'
def spAnswers (K : PySem.W.Frag) : Sp := fun vs H Q _ => ∃ (a : Addr) (ns : List Int), vs = [.ref a] ∧ SqL K H a (ns.map V.int) ∧ ns.length ≤ 30000 ∧ PyKs190.answers_asked ns = true ∧
  ∀ (H' : Hp) (p : Addr), H' p = some (.lst ((PyKs190.answers ns).map V.int)) → Q (.ref p) H'
end Hd
namespace Hd
open PySem PySem.Spec PyProof.Rows L2
open Ks190 (Medium)
section
variable {P : Program} {w : World} {K : PySem.W.Frag} {mg : Str → Option Value} {base : Heap} {CA CP : Addr}
theorem scPlace : FnScope ["key", "j", "begin", "step"] ["key", "j"] (defScope sPlace) := ⟨rfl, rfl, rfl, by decide +kernel, rfl, by decide +kernel, by decide +kernel⟩
theorem ok_place {f : Addr} {fd : FuncData} (F : Fun K "place_of" "place_of" sPlace f fd) (T : Txt K mg CA CP) : FnOk P w K mg base CX0 1 f fd ["key", "j"] (spPlace K) := by
  refine F.ok scPlace (fun vs H Q E h => ?_) (fun cdv A outer s H vs Q E hr h => ?_)
  · obtain ⟨a, k, n, rfl, _⟩ := h
    rfl
  · obtain ⟨a, k, n, rfl, hS, ⟨kl, kb⟩, hq⟩ := h
    have b2 : k.getD 2 0 < 256 := kb _ (List.mem_of_getElem? (getD_some (by omega)))
    refine ⟨_, pss_cons (ps_set (i := 2) scPlace.nd rfl (Or.inl rfl) (pe_op op_add (pe_ix ix_list (pv 0) pe_int (fun _ _ => rfl)) (pe_op op_mul (pe_ci T.BYTE) (pe_op op_mod (pe_ix ix_list (pv 0) pe_int (fun _ _ => rfl)) pe_int))))
      (pss_cons (ps_set (i := 3) scPlace.nd rfl (Or.inl rfl) (pe_op op_add (pe_op op_mul pe_int (pe_ix ix_list (pv 0) pe_int (fun _ _ => rfl))) pe_int))
      (pss_one (ps_ret (pe_op op_mod (pe_op op_add (pv 2) (pe_op op_mul (pv 3) (pv 1))) (pe_ci T.PAGES))))), ?_⟩
    refine ⟨_, rfl, a, _, _, _, rfl, rfl, hS, nv_ix (i := 0) rfl (by omega), _, rfl, a, _, _, _, rfl, rfl, hS, nv_ix (i := 1) rfl (by omega), _, _, rfl, rfl, (by show (0 : Int) < 4; decide), _, _, rfl, rfl, .inl (by constructor <;> decide), _, _, rfl, rfl, ?_⟩
    refine ⟨_, rfl, a, _, _, _, rfl, rfl, hS, nv_ix (i := 2) rfl (by omega), _, _, rfl, rfl, .inl (by constructor <;> decide), _, _, rfl, rfl, ?_⟩
    refine ⟨_, rfl, _, rfl, _, rfl, _, _, rfl, rfl, .inl (by constructor <;> omega), _, _, rfl, rfl, _, _, rfl, rfl, (by show (0 : Int) < 1024; decide), ?_⟩
    refine qint ?_ hq
    show _ = (((k.getD 0 0 + 256 * (k.getD 1 0 % 4) + (2 * k.getD 2 0 + 1) * n) % 1024 : Nat) : Int)
    push_cast
    rfl
theorem scPad : FnScope ["key", "salt", "found", "i"] ["key", "salt"] (defScope sPad) := ⟨rfl, rfl, rfl, by decide +kernel, rfl, by decide +kernel, by decide +kernel⟩
theorem mix_at (k z : List Nat) {i : Nat} (h : i < 80) : (G.mix k z)[i]? = some ((3 * k.getD (i % 32) 0 + 5 * z.getD (i % 16) 0 + i) % 256) := by
  show ((List.range 80).map (fun i => (3 * k.getD (i % 32) 0 + 5 * z.getD (i % 16) 0 + i) % 256))[i]? = _
  rw [List.getElem?_map, List.getElem?_range h]
  rfl
theorem mix_len (k z : List Nat) : (G.mix k z).length = 80 := by
  show ((List.range 80).map (fun i => (3 * k.getD (i % 32) 0 + 5 * z.getD (i % 16) 0 + i) % 256)).length = _
  rw [List.length_map, List.length_range]
theorem ok_pad {f : Addr} {fd : FuncData} (F : Fun K "pad_of" "pad_of" sPad f fd) (T : Txt K mg CA CP) : FnOk P w K mg base CX0 1 f fd ["key", "salt"] (spPad K) := by
  refine F.ok scPad (fun vs H Q E h => ?_) (fun cdv A outer s H vs Q E hr h => ?_)
  · obtain ⟨a, b, k, z, rfl, _⟩ := h
    rfl
  · obtain ⟨a, b, k, z, rfl, hK, hZ, kl, zl, hq⟩ := h
    refine ⟨_, pss_cons (ps_set (i := 2) scPad.nd rfl (Or.inl rfl) (pe_lst pa_nil))
      (pss_cons (ps_for PassesOwn.never rfl (pi_range1 (by rfl) T.range (pa_cons (pe_ci T.PAD_BYTES) pa_nil)) (pg_name (i := 3) scPad.nd rfl (Or.inl rfl))
        (pss_one (ps_expr (pe_bm PySem.F.plainAttrs_list PySem.F.slot_list_append PySem.F.type_list_append mt_append (pv 2) (pa_cons
          (pe_op op_mod (pe_op op_add (pe_op op_add (pe_op op_mul pe_int (pe_ix ix_list (pv 0) (pe_op op_mod (pv 3) (pe_ci T.KEY_BYTES)) (fun _ _ => rfl))) (pe_op op_mul pe_int (pe_ix ix_list (pv 1) (pe_op op_mod (pv 3) (pe_ci T.SALT_BYTES)) (fun _ _ => rfl)))) (pv 3)) (pe_ci T.BYTE)) pa_nil)))))
      (pss_one (ps_ret (pv 2)))), ?_⟩
    refine ⟨Nat.zero_le _, fun l hl => ?_⟩
    refine ⟨80, rfl, by decide, by decide, for_range (n := 80) (fun i σ H' => ∃ v : Option V, σ = [some (.ref a), some (.ref b), some (.ref l), v] ∧ Same H H' ∧ H' l = some (.lst (nv ((G.mix k z).take i))))
      ⟨none, rfl, sameNew hl, upd_same⟩ ?_ ?_⟩
    · rintro i σ H' hi ⟨v, rfl, s1, h1⟩
      have e0 : (0 : Int) + (i : Int) = (i : Int) := by omega
      refine ⟨_, rfl, .inl ⟨rfl, _, SqL.of h1⟩, ?_⟩
      refine ⟨_, rfl, _, rfl, _, _, rfl, rfl, (by show (0 : Int) < 32; decide), a, _, _, _, rfl, rfl, s1.seq hK, nv_ix (i := i % 32) (by omega) (by omega), _, _, rfl, rfl, .inl (by constructor <;> decide), ?_⟩
      refine ⟨_, rfl, _, rfl, _, _, rfl, rfl, (by show (0 : Int) < 16; decide), b, _, _, _, rfl, rfl, s1.seq hZ, nv_ix (i := i % 16) (by omega) (by omega), _, _, rfl, rfl, .inl (by constructor <;> decide), ?_⟩
      refine ⟨_, _, rfl, rfl, _, rfl, _, _, rfl, rfl, _, _, rfl, rfl, (by show (0 : Int) < 256; decide), ?_⟩
      refine ⟨l, _, _, rfl, rfl, h1, ?_, ?_⟩
      · rw [nv_len, List.length_take]
        have : min i (G.mix k z).length ≤ 80 := by omega
        exact Nat.lt_of_le_of_lt this (by decide)
      · refine ⟨_, rfl, samePut s1 hl, ?_⟩
        rw [upd_same, take_more (mix_at k z hi), nv_app]
        refine congrArg (fun q : V => some (HO.lst (nv ((G.mix k z).take i) ++ [q]))) (congrArg V.int ?_)
        push_cast
        rw [e0]
    · rintro σ H' ⟨v, rfl, s1, h1⟩
      refine ⟨_, rfl, hq _ _ s1 hl ?_⟩
      rw [h1, List.take_of_length_le (by rw [mix_len]; exact Nat.le_refl _)]
theorem scUnder : FnScope ["pad", "row", "one", "other"] ["pad", "row"] (defScope sUnder) := ⟨rfl, rfl, rfl, by decide +kernel, rfl, by decide +kernel, by decide +kernel⟩
theorem xor_more {x y : List Nat} {i p q : Nat} (hx : x[i]? = some p) (hy : y[i]? = some q) : (Ks190.xor y x)[i]? = some (q ^^^ p) := by
  unfold Ks190.xor
  rw [List.getElem?_zipWith, hx, hy]
theorem xor_len {x y : List Nat} : (Ks190.xor y x).length = min y.length x.length := List.length_zipWith
theorem nv_inv {l : List Nat} {i : Nat} {x : V} (h : (nv l)[i]? = some x) : ∃ n, l[i]? = some n ∧ x = .int (n : Int) := by
  unfold nv at h
  rw [List.getElem?_map] at h
  cases e : l[i]? with
  | none =>
    rw [e] at h
    cases h
  | some n =>
    rw [e] at h
    exact ⟨n, rfl, (Option.some.inj h).symm⟩
theorem ok_under {f : Addr} {fd : FuncData} (F : Fun K "under" "under" sUnder f fd) (T : Txt K mg CA CP) : FnOk P w K mg base CX0 1 f fd ["pad", "row"] (spUnder K) := by
  refine F.ok scUnder (fun vs H Q E h => ?_) (fun cdv A outer s H vs Q E hr h => ?_)
  · obtain ⟨a, b, x, y, rfl, _⟩ := h
    rfl
  · obtain ⟨a, b, x, y, rfl, hX, hY, hl, hm, hq⟩ := h
    refine ⟨_, pss_one (ps_ret (pe_lc (own := [("one", 2), ("other", 3)]) (g := gTup K 2 (gCons (gName 2) (gCons (gName 3) gNil))) (by rfl) scUnder.nd (pi_zip (by rfl) T.zip (pa_cons (pv 0) (pa_cons (pv 1) pa_nil)))
      (blkOk_by (own := [("one", 2), ("other", 3)]) (N := ["pad", "row", "one", "other"]) (sc := defScope sUnder) (by decide +kernel))
      (fun _ _ _ _ _ => pg_tup rfl (pgs_cons (pg_name (i := 2) scUnder.nd rfl (Or.inl rfl)) (pgs_cons (pg_name (i := 3) scUnder.nd rfl (Or.inl rfl)) pgs_nil))) (fun _ _ _ _ _ => pts_nil)
      (fun _ _ _ _ _ => pe_op op_xor (pv 2) (pv 3)))), ?_⟩
    refine ⟨_, rfl, _, rfl, a, b, _, _, rfl, hX, hY, fun D hD => ?_⟩
    refine lc_it (walk_zip (K := K) (a := a) (b := b) (xs := nv x) (ys := nv y) (n := x.length) (by rw [nv_len, nv_len, ← hl, Nat.min_self])) (fun i H' => Same H H' ∧ H' D = some (.lst (nv ((Ks190.xor y x).take i)))) ⟨sameNew hD, upd_same⟩ (fun i H' _ ⟨s1, _⟩ => ⟨s1.seq hX, s1.seq hY⟩) ?_ ?_
    · rintro i pr H' H2 hi ⟨s1, h1⟩ ⟨t, u, v, rfl, ht, rfl, hu, hv⟩
      obtain ⟨p, hp, rfl⟩ := nv_inv hu
      obtain ⟨q, hq', rfl⟩ := nv_inv hv
      have nDt : D ≠ t := ne_of_none h1 ht
      refine ⟨t, _, rfl, SqT.of upd_same, rfl, _, _, rfl, _, _, rfl, rfl, rfl, ?_⟩
      refine ⟨_, rfl, _, rfl, _, _, rfl, rfl, _, (upd_ne nDt).trans h1, ?_, samePut (sameAdd s1 ht) hD, ?_⟩
      · rw [nv_len, List.length_take]
        have : min i (Ks190.xor y x).length ≤ 1000 := by
          rw [xor_len]
          omega
        exact Nat.lt_of_le_of_lt this (by decide)
      · rw [upd_same, take_more (xor_more hp hq'), nv_app]
        refine congrArg (fun q : V => some (HO.lst (nv ((Ks190.xor y x).take i) ++ [q]))) (congrArg V.int ?_)
        rw [Bits.bitXor_pp (Int.natCast_nonneg _) (Int.natCast_nonneg _), Int.toNat_natCast, Int.toNat_natCast, Nat.xor_comm]
    · rintro H' ⟨s1, h1⟩
      refine hq _ _ s1 hD ?_
      rw [h1, List.take_of_length_le (by rw [xor_len]; omega)]
theorem scSealed : FnScope ["key", "salt", "data"] ["key", "salt", "data"] (defScope sSealed) := ⟨rfl, rfl, rfl, by decide +kernel, rfl, by decide +kernel, by decide +kernel⟩
theorem mixLen (k z : List Nat) : (G.mix k z).length = 80 := by
  show ((List.range 80).map (fun i => (3 * k.getD (i % 32) 0 + 5 * z.getD (i % 16) 0 + i) % 256)).length = _
  rw [List.length_map, List.length_range]
theorem zeros16 : (List.replicate (16 : Int).toNat [V.int 0]).flatten = nv (Ks190.zeros 16) := rfl
theorem zerosLen (n : Nat) : (Ks190.zeros n).length = n := List.length_replicate
theorem ok_sealed {f : Addr} {fd : FuncData} (F : Fun K "sealed" "sealed" sSealed f fd) (T : Txt K mg CA CP) (cU : Cal P w K mg base 1 "under" (spUnder K)) (cP : Cal P w K mg base 1 "pad_of" (spPad K)) : FnOk P w K mg base CX0 2 f fd ["key", "salt", "data"] (spSealed K) := by
  refine F.ok scSealed (fun vs H Q E h => ?_) (fun cdv A outer s H vs Q E hr h => ?_)
  · obtain ⟨a, b, c, k, z, x, rfl, _⟩ := h
    rfl
  · obtain ⟨a, b, c, k, z, x, rfl, hK, hZ, hX, kl, zl, xl, hq⟩ := h
    refine ⟨_, pss_one (ps_ret (pe_op op_cat (pv 1) (pe_call cU.ok (hr.mono (by decide)) rfl cU.mg cU.kp cU.bd .nil pass0 (pa_cons (pe_call cP.ok (hr.mono (by decide)) rfl cP.mg cP.kp cP.bd .nil pass0 (pa_cons (pv 0) (pa_cons (pv 1) pa_nil)))
      (pa_cons (pe_op op_cat (pe_op op_rep (pe_lst (pa_cons pe_int pa_nil)) (pe_ci T.MARK_BYTES)) (pv 2)) pa_nil))))), ?_⟩
    refine ⟨_, rfl, _, rfl, _, rfl, a, b, k, z, rfl, hK, SqL.of hZ, kl, zl, fun H1 p s1 n1 h1 => ?_⟩
    refine ⟨(by show 1 ≤ sizeLine; decide), fun l hl => ?_⟩
    refine ⟨l, 16, _, rfl, rfl, upd_same, by decide, by decide, (by show 1 * 16 ≤ sizeLine; decide), fun m hm => ?_⟩
    have sl : Same H1 (upd H1 l (.lst [V.int 0])) := sameNew hl
    have sm : Same H1 (upd (upd H1 l (.lst [V.int 0])) m (.lst (List.replicate (16 : Int).toNat [V.int 0]).flatten)) := sameAdd sl hm
    refine ⟨_, rfl, m, c, _, _, rfl, rfl, upd_same, sm _ _ (s1 _ _ hX), ?_, fun q hq' => ?_⟩
    · rw [zeros16, nv_len, nv_len, zerosLen, xl]
      decide
    · have sq := sameAdd (o := .lst ((List.replicate (16 : Int).toNat [V.int 0]).flatten ++ nv x)) sm hq'
      have e16 : (List.replicate (16 : Int).toNat [V.int 0]).flatten ++ nv x = nv (Ks190.zeros 16 ++ x) := by rw [zeros16, nv_app]
      refine ⟨p, q, G.mix k z, Ks190.zeros 16 ++ x, rfl, SqL.of (sq _ _ h1), SqL.of (upd_same.trans (by rw [e16])), ?_, ?_, fun H2 r s2 n2 h2 => ?_⟩
      · rw [mixLen, List.length_append, zerosLen, xl]
      · rw [mixLen]
        decide
      · have sa : Same H H2 := (s1.trans sq).trans s2
        refine ⟨b, r, _, _, rfl, rfl, sa _ _ hZ, h2, ?_, fun t ht => hq _ _ (sameAdd sa ht) (sa.free ht) ?_⟩
        · rw [nv_len, nv_len, zl, Ks190.xor, List.length_zipWith, mixLen]
          exact Nat.le_trans (Nat.add_le_add_left (Nat.min_le_right _ _) _) (by decide)
        · rw [upd_same, ← nv_app]
          rfl
theorem scOpened : FnScope ["key", "page", "plain"] ["key", "page"] (defScope sOpened) := ⟨rfl, rfl, rfl, by decide +kernel, rfl, by decide +kernel, by decide +kernel⟩
/-- a list of numbers as data -/
def pd (l : List Nat) : List PyData := l.map fun n : Nat => .int (n : Int)
theorem dp_nv {H : Hp} : ∀ l : List Nat, DpAll K H (nv l) (pd l)
  | [] => .nil
  | n :: r => .cons (.int (n : Int)) (dp_nv r)
theorem lay_pd : ∀ l : List Nat, PyData.canLayAll0 (pd l) = true
  | [] => rfl
  | _ :: r => lay_pd r
theorem dep_pd : ∀ l : List Nat, PyData.depthAll (pd l) = 0
  | [] => rfl
  | n :: r => by
    show max 0 (PyData.depthAll (pd r)) = 0
    rw [dep_pd r]
    rfl
theorem shaped_pd (l : List Nat) : SeqAt.shaped (.list (pd l)) = true := by
  show (PyData.canLayAll0 (pd l) && decide (PyData.depthAll (pd l) + 1 ≤ 64)) = true
  rw [lay_pd, dep_pd]
  rfl
theorem eqv_pd : ∀ l m : List Nat, PyData.eqvAll (pd l) (pd m) = decide (l = m)
  | [], [] => rfl
  | [], _ :: _ => rfl
  | _ :: _, [] => rfl
  | a :: l, b :: m => by
    show (((a : Int) == (b : Int)) && PyData.eqvAll (pd l) (pd m)) = _
    rw [eqv_pd l m, Bool.eq_iff_iff]
    simp only [Bool.and_eq_true, beq_iff_eq, decide_eq_true_eq, List.cons.injEq, Int.natCast_inj]
theorem ok_opened {f : Addr} {fd : FuncData} (F : Fun K "opened" "opened" sOpened f fd) (T : Txt K mg CA CP) (cU : Cal P w K mg base 1 "under" (spUnder K)) (cP : Cal P w K mg base 1 "pad_of" (spPad K)) : FnOk P w K mg base CX0 2 f fd ["key", "page"] (spOpened K) := by
  refine F.ok scOpened (fun vs H Q E h => ?_) (fun cdv A outer s H vs Q E hr h => ?_)
  · obtain ⟨a, b, k, pg, rfl, _⟩ := h
    rfl
  · obtain ⟨a, b, k, pg, rfl, hK, hP, kl, pl, qN, qS⟩ := h
    refine ⟨_, pss_cons (ps_set (i := 2) scOpened.nd rfl (Or.inl rfl) (pe_call cU.ok (hr.mono (by decide)) rfl cU.mg cU.kp cU.bd .nil pass0 (pa_cons (pe_call cP.ok (hr.mono (by decide)) rfl cP.mg cP.kp cP.bd .nil pass0 (pa_cons (pv 0) (pa_cons (pe_slice sl_list (pv 1) po_none (po_some (pe_ci T.SALT_BYTES))) pa_nil)))
        (pa_cons (pe_slice sl_list (pv 1) (po_some (pe_ci T.SALT_BYTES)) po_none) pa_nil))))
      (pss_cons (ps_if (pt_cmpR (op_neD hr.units) (pe_slice sl_list (pv 2) po_none (po_some (pe_ci T.MARK_BYTES))) (pe_op op_rep (pe_lst (pa_cons pe_int pa_nil)) (pe_ci T.MARK_BYTES)) (nomark _)) (pss_one (ps_ret pe_non)) pss_nil)
      (pss_one (ps_ret (pe_slice sl_list (pv 2) (po_some (pe_ci T.MARK_BYTES)) po_none)))), ?_⟩
    have cT : ∀ l : List Nat, cutV (nv l) none (some (16 : Int)) = nv (l.take 16) := fun l => (cut_to (nv l) 16).trans (nv_take l 16)
    have cF : ∀ l : List Nat, cutV (nv l) (some (16 : Int)) none = nv (l.drop 16) := fun l => (cut_from (nv l) 16).trans (nv_drop l 16)
    refine ⟨_, rfl, _, rfl, _, rfl, b, _, rfl, hP, fun p np => ?_⟩
    have s1 : Same H (upd H p (.lst (cutV (nv pg) none (some (16 : Int))))) := sameNew np
    refine ⟨a, p, k, pg.take 16, rfl, s1.seq hK, SqL.of (upd_same.trans (by rw [cT])), kl, by rw [List.length_take]; omega, fun H2 m s2 n2 h2 => ?_⟩
    have s12 := s1.trans s2
    refine ⟨_, rfl, _, rfl, b, _, rfl, s12.seq hP, fun q nq => ?_⟩
    have s3 := sameAdd (o := .lst (cutV (nv pg) (some (16 : Int)) none)) s12 nq
    refine ⟨m, q, G.mix k (pg.take 16), pg.drop 16, rfl, SqL.of ((sameNew nq) _ _ h2), SqL.of (upd_same.trans (by rw [cF])), by rw [mixLen, List.length_drop]; omega, by rw [mixLen]; decide, fun H4 r s4 n4 h4 => ?_⟩
    have s14 := s3.trans s4
    generalize hy : Ks190.xor (pg.drop 16) (G.mix k (pg.take 16)) = y at h4
    refine ⟨_, rfl, _, rfl, r, _, rfl, SqL.of h4, fun t nt => ?_⟩
    have s5 := sameAdd (o := .lst (cutV (nv y) none (some (16 : Int)))) s14 nt
    refine ⟨(by show 1 ≤ sizeLine; decide), fun l hl => ?_⟩
    have s6 := sameAdd (o := .lst [V.int 0]) s5 hl
    refine ⟨l, 16, _, rfl, rfl, upd_same, by decide, by decide, (by show 1 * 16 ≤ sizeLine; decide), fun u hu => ?_⟩
    have s7 := sameAdd (o := .lst (List.replicate (16 : Int).toNat [V.int 0]).flatten) s6 hu
    have ht7 := (sameNew (o := .lst (List.replicate (16 : Int).toNat [V.int 0]).flatten) hu) _ _ ((sameNew (o := .lst [V.int 0]) hl) t _ (upd_same (o := .lst (cutV (nv y) none (some (16 : Int))))))
    have hr7 := (sameNew (o := .lst (List.replicate (16 : Int).toNat [V.int 0]).flatten) hu) _ _ ((sameNew (o := .lst [V.int 0]) hl) _ _ ((sameNew (o := .lst (cutV (nv y) none (some (16 : Int)))) nt) _ _ h4))
    refine ⟨.list (pd (y.take 16)), .list (pd (Ks190.zeros 16)), .lst (SqL.of (ht7.trans (by rw [cT]))) (dp_nv _), .lst (SqL.of (upd_same.trans (by rw [zeros16]))) (dp_nv _), shaped_pd _, shaped_pd _, _, rfl, ?_⟩
    have ev : (!PyData.eqv (.list (pd (y.take 16))) (.list (pd (Ks190.zeros 16)))) = !decide (y.take 16 = Ks190.zeros 16) := congrArg (!·) (eqv_pd _ _)
    rw [ev]
    have un : Ks190.under G k pg = if y.take 16 = Ks190.zeros 16 then some (y.drop 16) else none := by
      unfold Ks190.under
      rw [hy]
    by_cases c : y.take 16 = Ks190.zeros 16
    · rw [decide_eq_true c]
      rw [if_pos c] at un
      refine ⟨_, rfl, _, rfl, r, _, rfl, SqL.of hr7, fun v nv' => ?_⟩
      refine qS _ un _ _ (sameAdd s7 nv') (s7.free nv') ?_
      rw [upd_same, cF]
    · rw [decide_eq_false c]
      rw [if_neg c] at un
      exact qN un _ s7
theorem scKeysIn : FnScope ["row", "k"] ["row"] (defScope sKeysIn) := ⟨rfl, rfl, rfl, by decide +kernel, rfl, by decide +kernel, by decide +kernel⟩
def rMul : R2 := rI CMul fun i j => .int (i * j)
def rSum2 : R2 := rI0 fun i j => .int (i + j)
theorem ok_keysIn {f : Addr} {fd : FuncData} (F : Fun K "keys_in" "keys_in" sKeysIn f fd) (T : Txt K mg CA CP) : FnOk P w K mg base CX0 1 f fd ["row"] (spKeysIn K) := by
  refine F.ok scKeysIn (fun vs H Q E h => ?_) (fun cdv A outer s H vs Q E hr h => ?_)
  · obtain ⟨a, b, rfl, _⟩ := h
    rfl
  · obtain ⟨a, b, rfl, hB, hl, hq⟩ := h
    refine ⟨_, pss_one (ps_ret (pe_lc (own := [("k", 1)]) (g := gName 1) (te := tSl (rSlL K) (tVar 0) (tPart (tOp rMul (tC (.int 32)) (tVar 1))) (tPart (tOp rSum2 (tOp rMul (tC (.int 32)) (tVar 1)) (tC (.int 32))))) (by rfl) scKeysIn.nd
      (pi_range1 (by rfl) T.range (pa_cons (pe_op op_fdiv (pe_callB call_len_seq (by rfl) T.len PySem.boot_len (pa_cons (pv 0) pa_nil)) (pe_ci T.KEY_BYTES)) pa_nil))
      (blkOk_by (own := [("k", 1)]) (N := ["row", "k"]) (sc := defScope sKeysIn) (by decide +kernel))
      (fun _ _ _ _ _ => pg_name (i := 1) scKeysIn.nd rfl (Or.inl rfl)) (fun _ _ _ _ _ => pts_nil)
      (fun _ _ _ _ _ => pe_slice sl_list (pv 0) (po_some (pe_op op_mul (pe_ci T.KEY_BYTES) (pv 1))) (po_some (pe_op op_add (pe_op op_mul (pe_ci T.KEY_BYTES) (pv 1)) (pe_ci T.KEY_BYTES)))))), ?_⟩
    have eL : (((nv b).length : Nat) : Int) / 32 = ((b.length / 32 : Nat) : Int) := by
      rw [nv_len]
      omega
    refine ⟨_, rfl, a, _, rfl, .inl hB, _, _, rfl, rfl, ⟨by decide, by decide⟩, _, rfl, ?_, ?_, fun D hD => ?_⟩
    · rw [eL]
      omega
    · rw [eL]
      omega
    have eN : ((((nv b).length : Nat) : Int) / 32).toNat = b.length / 32 := by
      rw [eL]
      exact Int.toNat_natCast _
    refine lc_range (lo := 0) (fun i H' => Same H H' ∧ ∃ ks : List Addr, H' D = some (.lst (ks.map V.ref)) ∧ ks.length = i ∧ ∀ (j : Nat) (k : Addr), ks[j]? = some k → H' k = some (.lst (nv ((b.drop (32 * j)).take 32))) ∧ H k = none)
      ⟨sameNew hD, [], upd_same, rfl, fun j k e => by simp at e⟩ ?_ ?_
    · rintro i H' hi ⟨s1, ks, h1, h2, h3⟩
      rw [eN] at hi
      have e0 : (0 : Int) + (i : Int) = (i : Int) := by omega
      refine ⟨rfl, ?_⟩
      refine ⟨_, rfl, _, rfl, _, _, rfl, rfl, .inl (by constructor <;> decide), _, rfl, _, rfl, _, _, rfl, rfl, .inl (by constructor <;> decide), _, _, rfl, rfl, _, rfl, a, _, rfl, s1.seq hB, fun p np => ?_⟩
      have nDp : D ≠ p := ne_of_none h1 np
      refine ⟨_, (upd_ne nDp).trans h1, ?_, samePut (sameAdd s1 np) hD, ks ++ [p], ?_, ?_, ?_⟩
      · rw [List.length_map, h2]
        exact Nat.lt_of_le_of_lt (show i ≤ 1000 by omega) (by decide)
      · rw [upd_same, List.map_append]
        rfl
      · rw [List.length_append, h2]
        rfl
      · intro j k e
        have hjl : j < (ks ++ [p]).length := (List.getElem?_eq_some_iff.mp e).1
        rw [List.length_append, List.length_singleton, h2] at hjl
        by_cases c : j < ks.length
        · rw [List.getElem?_append_left c] at e
          obtain ⟨g1, g2⟩ := h3 j k e
          have nkD : k ≠ D := by
            intro q
            rw [q, h1] at g1
            have g1' := Option.some.inj g1
            have z : (ks.map V.ref) = nv ((b.drop (32 * j)).take 32) := HO.lst.inj g1'
            cases ks with
            | nil => simp at c
            | cons k0 kr =>
              cases hb : (b.drop (32 * j)).take 32 with
              | nil =>
                rw [hb] at z
                cases z
              | cons n0 nr =>
                rw [hb] at z
                have z0 := List.head_eq_of_cons_eq z
                cases z0
          exact ⟨by rw [upd_ne nkD, upd_ne (ne_of_none g1 np)]; exact g1, g2⟩
        · have ej : j = i := by omega
          have e' : k = p := by
            rw [List.getElem?_append_right (by omega), h2, ej, Nat.sub_self] at e
            exact (Option.some.inj e).symm
          subst e'
          refine ⟨?_, s1.free np⟩
          rw [upd_ne nDp.symm, upd_same, ej]
          refine congrArg (fun q => some (HO.lst q)) ?_
          have e1 : (32 : Int) * ((0 : Int) + (i : Int)) = ((32 * i : Nat) : Int) := by omega
          have e2 : (32 : Int) * ((0 : Int) + (i : Int)) + 32 = ((32 * i + 32 : Nat) : Int) := by omega
          show cutV (nv b) (some ((32 : Int) * ((0 : Int) + (i : Int)))) (some ((32 : Int) * ((0 : Int) + (i : Int)) + 32)) = _
          rw [e2, e1, cut_mid, nv_drop, nv_take]
    · rintro H' ⟨s1, ks, h1, h2, h3⟩
      rw [eN] at h2
      refine hq _ _ s1 ⟨ks, h1, by rw [h2, chunks_len], fun i k r e1 e2 => ?_, not_trk hD⟩
      obtain ⟨g1, g2⟩ := h3 i k e1
      obtain ⟨_, rfl⟩ := chunks_at e2
      exact ⟨g1, not_trk g2⟩
theorem scIsChain : FnScope ["keys"] ["keys"] (defScope sIsChain) := ⟨rfl, rfl, rfl, by decide +kernel, rfl, by decide +kernel, by decide +kernel⟩
theorem ok_isChain {f : Addr} {fd : FuncData} (F : Fun K "is_chain" "is_chain" sIsChain f fd) (T : Txt K mg CA CP) : FnOk P w K mg base CX0 1 f fd ["keys"] (spIsChain K) := by
  refine F.ok scIsChain (fun vs H Q E h => ?_) (fun cdv A outer s H vs Q E hr h => ?_)
  · obtain ⟨a, xs, rfl, _⟩ := h
    rfl
  · obtain ⟨a, xs, rfl, hS, hq⟩ := h
    refine ⟨_, pss_one (ps_ret (pe_chain op_le op_le pe_int (pe_callB call_len_seq (by rfl) T.len PySem.boot_len (pa_cons (pv 0) pa_nil)) (pe_ci T.MOST_KEYS))), ?_⟩
    refine ⟨_, rfl, a, _, rfl, .inl hS, _, _, rfl, rfl, _, rfl, ?_⟩
    by_cases c : (1 : Int) ≤ ((xs.length : Nat) : Int)
    · rw [decide_eq_true c]
      refine ⟨_, _, rfl, rfl, ?_⟩
      have e : decide (1 ≤ xs.length ∧ xs.length ≤ 4) = decide (((xs.length : Nat) : Int) ≤ 4) := by
        rw [decide_eq_decide]
        omega
      rw [e] at hq
      exact hq
    · rw [decide_eq_false c]
      have e : decide (1 ≤ xs.length ∧ xs.length ≤ 4) = false := decide_eq_false (by omega)
      rw [e] at hq
      exact hq
theorem scOwn : FnScope ["key", "taken", "found", "j", "place"] ["key", "taken"] (defScope sOwn) := ⟨rfl, rfl, rfl, by decide +kernel, rfl, by decide +kernel, by decide +kernel⟩
theorem TakenAt.same {H H' : Hp} {t : Addr} {T : List Nat} (h : TakenAt H t T) (s : Same H H') : TakenAt H' t T := by
  obtain ⟨kvs, h1, h2, h3⟩ := h
  exact ⟨kvs, s _ _ h1, h2, h3⟩
theorem TakenAt.put {H : Hp} {t : Addr} {T : List Nat} {kvs : List (Key × V)} (h2 : ∀ n : Nat, (valV kvs (.inl (n : Int))).isSome = T.contains n) (h3 : kvs.length ≤ T.length) (n : Nat) (v : V) : TakenAt (upd H t (.dK (putK kvs (.inl (n : Int)) v))) t (T ++ [n]) := by
  refine ⟨_, upd_same, fun j => ?_, ?_⟩
  · rw [valV_put]
    by_cases c : (Sum.inl (j : Int) : Key) = Sum.inl (n : Int)
    · rw [if_pos c]
      have e : j = n := by
        have := Sum.inl.inj c
        omega
      subst e
      simp
    · rw [if_neg c, h2 j]
      have ne : j ≠ n := fun e => c (by rw [e])
      rw [Bool.eq_iff_iff]
      simp only [List.contains_iff_mem, List.mem_append, List.mem_singleton]
      exact ⟨Or.inl, fun z => z.resolve_right ne⟩
  · rw [List.length_append, List.length_singleton]
    unfold putK
    split
    · rw [List.length_map]
      omega
    · rw [List.length_append, List.length_singleton]
      omega
theorem ok_own {f : Addr} {fd : FuncData} (F : Fun K "own_places" "own_places" sOwn f fd) (T : Txt K mg CA CP) (cP : Cal P w K mg base 1 "place_of" (spPlace K)) : FnOk P w K mg base CX0 2 f fd ["key", "taken"] (spOwn K) := by
  refine F.ok scOwn (fun vs H Q E h => ?_) (fun cdv A outer s H vs Q E hr h => ?_)
  · obtain ⟨a, t, k, T, rfl, _⟩ := h
    rfl
  · obtain ⟨a, t, k, T', rfl, hK, kok, hT, hl, hq⟩ := h
    refine ⟨_, pss_cons (ps_set (i := 2) scOwn.nd rfl (Or.inl rfl) (pe_lst pa_nil)) (pss_cons (ps_set (i := 3) scOwn.nd rfl (Or.inl rfl) pe_int)
      (pss_cons (ps_while PassesOwn.never (pt_cmpR op_lt (pe_callB call_len_seq (by rfl) T.len PySem.boot_len (pa_cons (pv 2) pa_nil)) (pe_ci T.SLOTS) (nomark _))
        (pss_cons (ps_set (i := 4) scOwn.nd rfl (Or.inl rfl) (pe_call cP.ok (hr.mono (by decide)) rfl cP.mg cP.kp cP.bd .nil pass0 (pa_cons (pv 0) (pa_cons (pv 3) pa_nil))))
        (pss_cons (ps_if (pt_cmp (pc_dnotin (hu_of hr) (pv 4) (pv 1))) (pss_one (ps_expr (pe_bm PySem.F.plainAttrs_list PySem.F.slot_list_append PySem.F.type_list_append mt_append (pv 2) (pa_cons (pv 4) pa_nil)))) pss_nil)
        (pss_one (ps_aug (i := 3) scOwn.nd rfl (.inl rfl) pe_int ip_add)))))
      (pss_one (ps_ret (pe_tup (pa_cons (pv 2) (pa_cons (pv 3) pa_nil))))))), ?_⟩
    refine ⟨Nat.zero_le _, fun l hl0 => ?_⟩
    refine ⟨fun m σ H' => ∃ (ls : List Nat) (j : Nat) (v : Option V), m = 1024 - j ∧ σ = [some (.ref a), some (.ref t), some (.ref l), some (.int (j : Int)), v] ∧ Sk k T' j ls ∧ Same H H' ∧ H' l = some (.lst (nv ls)), ⟨1024, [], 0, none, rfl, rfl, Sk.start k T', sameNew hl0, upd_same⟩, ?_⟩
    rintro m σ H' ⟨ls, j, v, rfl, rfl, sk, s1, h1⟩
    refine ⟨_, rfl, l, _, rfl, .inl (SqL.of h1), _, _, rfl, rfl, _, rfl, ?_⟩
    rw [nv_len]
    by_cases c : ls.length < 64
    · rw [decide_eq_true (show ((ls.length : Nat) : Int) < 64 by omega)]
      have hj := sk.lt' hl c
      have sk' := sk.next hl c
      refine ⟨fun σ' H' => ∃ v' : Option V, σ' = [some (.ref a), some (.ref t), some (.ref l), some (.int ((j + 1 : Nat) : Int)), v'] ∧ Same H H' ∧ H' l = some (.lst (nv (take1 k T' j ls))), ?_, ?_⟩
      · rintro σ' H2 ⟨v', rfl, s2, h2⟩
        exact ⟨1024 - (j + 1), by omega, _, j + 1, v', rfl, rfl, sk', s2, h2⟩
      · obtain ⟨kvs, hd, hc, hkl⟩ := hT
        refine ⟨_, rfl, _, rfl, a, k, j, rfl, s1.seq hK, kok, ?_⟩
        refine ⟨_, rfl, _, rfl, t, _, rfl, DGet.k (k := Sum.inl ((G.place k j : Nat) : Int)) (s1 _ _ hd), _, rfl, ?_⟩
        rw [hc]
        unfold take1
        by_cases q : T'.contains (G.place k j) = true
        · rw [q, if_pos rfl]
          exact ⟨_, rfl, _, _, rfl, rfl, _, rfl, s1, h1⟩
        · have q' : T'.contains (G.place k j) = false := by
            cases e : T'.contains (G.place k j) with
            | true => exact absurd e q
            | false => rfl
          rw [q']
          refine ⟨_, rfl, .inl ⟨rfl, _, SqL.of h1⟩, _, rfl, l, _, _, rfl, rfl, h1, ?_, _, rfl, _, _, rfl, rfl, _, rfl, samePut s1 hl0, ?_⟩
          · rw [nv_len]
            exact Nat.lt_of_le_of_lt (show ls.length ≤ 64 by omega) (by decide)
          · rw [upd_same, if_neg Bool.false_ne_true, nv_app]
            rfl
    · rw [decide_eq_false (show ¬ ((ls.length : Nat) : Int) < 64 by omega)]
      obtain ⟨e1, e2⟩ := sk.done c
      have eo : own k T' = (ls, j) := e1
      rw [eo] at hq
      refine ⟨_, rfl, _, rfl, (by show 2 ≤ sizeLine; decide), fun p np => ?_⟩
      exact hq _ p l (sameAdd s1 np) hl0 upd_same ((upd_ne (ne_of_none h1 np)).trans h1)
/-- the loop ends: there are 64 -/
theorem own_ends (k T : List Nat) (hT : T.length ≤ 192) : ∀ (n j : Nat) (l : List Nat), 1024 - j ≤ n → Sk k T j l → ∃ j' l', Sk k T j' l' ∧ ¬ l'.length < 64
  | 0, j, l, hn, sk => by
    by_cases c : l.length < 64
    · have := sk.lt' hT c
      omega
    · exact ⟨j, l, sk, c⟩
  | n + 1, j, l, hn, sk => by
    by_cases c : l.length < 64
    · have := sk.lt' hT c
      exact own_ends k T hT n (j + 1) _ (by omega) (sk.next hT c)
    · exact ⟨j, l, sk, c⟩
theorem own_is {k T : List Nat} (hT : T.length ≤ 192) : (own k T).1.length = 64 ∧ (own k T).2 ≤ 1024 ∧ ∀ p ∈ (own k T).1, p < 1024 := by
  obtain ⟨j, l, sk, c⟩ := own_ends k T hT 1024 0 [] (Nat.le_refl _) (Sk.start k T)
  obtain ⟨e1, e2⟩ := sk.done c
  have eo : own k T = (l, j) := e1
  rw [eo]
  exact ⟨e2, sk.j1, sk.lt⟩
theorem taken_len (keys : List (List Nat)) : ∀ i, i ≤ keys.length → i ≤ 4 → (takenAt keys i).length = 64 * i
  | 0, _, _ => rfl
  | i + 1, h, h4 => by
    have ih := taken_len keys i (by omega) (by omega)
    have e : keys[i]? = some keys[i] := List.getElem?_eq_getElem (by omega)
    rw [taken_more e, List.length_append, ih, (own_is (by rw [ih]; omega)).1]
    omega
theorem places_is {keys : List (List Nat)} (h1 : 1 ≤ keys.length) (h4 : keys.length ≤ 4) : (Ks190.places G keys).length = 64 ∧ ∀ p ∈ Ks190.places G keys, p < 1024 := by
  obtain ⟨i, hi⟩ : ∃ i, keys.length = i + 1 := ⟨keys.length - 1, by omega⟩
  have e : keys[i]? = some keys[i] := List.getElem?_eq_getElem (by omega)
  have tl := taken_len keys i (by omega) (by omega)
  rw [← places_all, hi, places_more e]
  have o := own_is (k := keys[i]) (T := takenAt keys i) (by rw [tl]; omega)
  exact ⟨o.1, o.2.2⟩
theorem counts_le (keys : List (List Nat)) : ∀ i, i ≤ keys.length → i ≤ 4 → ∀ c ∈ countsAt keys i, c ≤ 1024
  | 0, _, _, c, hc => by cases hc
  | i + 1, h, h4, c, hc => by
    have tl := taken_len keys i (by omega) (by omega)
    have e : keys[i]? = some keys[i] := List.getElem?_eq_getElem (by omega)
    rw [counts_more e] at hc
    rcases List.mem_append.mp hc with z | z
    · exact counts_le keys i (by omega) (by omega) c z
    · rw [List.mem_singleton.mp z]
      exact (own_is (by rw [tl]; omega)).2.1
theorem counts_len (keys : List (List Nat)) : (countsAt keys keys.length).length = keys.length := by
  unfold countsAt
  rw [List.length_map, find_len, List.take_length]
theorem scFind : FnScope ["keys", "taken", "asked", "places", "key", "many", "place"] ["keys"] (defScope sFind) := ⟨rfl, rfl, rfl, by decide +kernel, rfl, by decide +kernel, by decide +kernel⟩
theorem ok_find {f : Addr} {fd : FuncData} (F : Fun K "find_places" "find_places" sFind f fd) (cO : Cal P w K mg base 2 "own_places" (spOwn K)) : FnOk P w K mg base CX0 3 f fd ["keys"] spFind := by
  refine F.ok scFind (fun vs H Q E h => ?_) (fun cdv A outer s H vs Q E hr h => ?_)
  · obtain ⟨a, keys, rfl, _⟩ := h
    rfl
  · obtain ⟨a, keys, rfl, hR, kok, h4, hq⟩ := h
    obtain ⟨ks, hA, hkl, hks, _⟩ := hR.ex
    refine ⟨_, pss_cons (ps_set (i := 1) scFind.nd rfl (Or.inl rfl) pe_dnewK) (pss_cons (ps_set (i := 2) scFind.nd rfl (Or.inl rfl) (pe_lst pa_nil)) (pss_cons (ps_set (i := 3) scFind.nd rfl (Or.inl rfl) (pe_lst pa_nil))
      (pss_cons (ps_for PassesOwn.never rfl (pi_list (pv 0)) (pg_name (i := 4) scFind.nd rfl (Or.inl rfl))
        (pss_cons (ps_asg (pe_call cO.ok (hr.mono (by decide)) rfl cO.mg cO.kp cO.bd .nil pass0 (pa_cons (pv 4) (pa_cons (pv 1) pa_nil))) (pg_tup rfl (pgs_cons (pg_name (i := 3) scFind.nd rfl (Or.inl rfl)) (pgs_cons (pg_name (i := 5) scFind.nd rfl (Or.inl rfl)) pgs_nil))))
        (pss_cons (ps_expr (pe_bm PySem.F.plainAttrs_list PySem.F.slot_list_append PySem.F.type_list_append mt_append (pv 2) (pa_cons (pv 5) pa_nil)))
        (pss_one (ps_for PassesOwn.never rfl (pi_list (pv 3)) (pg_name (i := 6) scFind.nd rfl (Or.inl rfl)) (pss_one (ps_dput (hu_of hr) (pv 1) (pv 6) pe_bl rfl)))))))
      (pss_one (ps_ret (pe_tup (pa_cons (pv 3) (pa_cons (pv 2) pa_nil)))))))), ?_⟩
    refine fun t nt => ?_
    refine ⟨Nat.zero_le _, fun ak nak => ?_⟩
    refine ⟨Nat.zero_le _, fun p0 np0 => ?_⟩
    have s1 := sameNew (o := .dK []) nt
    have s2 := sameAdd (o := .lst []) s1 nak
    have s3 := sameAdd (o := .lst []) s2 np0
    have hak0 := s1.free nak
    refine ⟨_, rfl, a, rfl, ⟨_, SqL.of (s3 _ _ hA)⟩, ?_⟩
    refine for_list (K := K) (a := a) (xs := ks.map V.ref) (fun i σ H' => ∃ (pl : Addr) (v4 v5 v6 : Option V), σ = [some (.ref a), some (.ref t), some (.ref ak), some (.ref pl), v4, v5, v6] ∧ Same H H' ∧ TakenAt H' t (takenAt keys i) ∧
        H' ak = some (.lst (nv (countsAt keys i))) ∧ H' pl = some (.lst (nv (placesAt keys i))) ∧ H pl = none)
      ⟨p0, none, none, none, rfl, s3, ?_, ?_, upd_same, s2.free np0⟩ (fun i σ H' _ ⟨_, _, _, _, _, sx, _⟩ => SqL.of (sx _ _ hA)) ?_ ?_
    · refine ⟨[], ?_, fun n => rfl, Nat.le_refl _⟩
      have e1 : (upd H t (.dK [])) t = some (.dK []) := upd_same
      exact (sameNew np0) _ _ ((sameNew nak) _ _ e1)
    · exact (sameNew np0) _ _ upd_same
    · rintro i x σ H' hx ⟨pl, v4, v5, v6, rfl, sH, hT, hak, hpl, hpn⟩
      obtain ⟨k, hk, rfl⟩ : ∃ k, ks[i]? = some k ∧ x = V.ref k := by
        rw [List.getElem?_map] at hx
        cases e : ks[i]? with
        | none =>
          rw [e] at hx
          cases hx
        | some k =>
          rw [e] at hx
          exact ⟨k, rfl, (Option.some.inj hx).symm⟩
      have hi : i < keys.length := by
        rw [← hkl]
        exact (List.getElem?_eq_some_iff.mp hk).1
      have e : keys[i]? = some keys[i] := List.getElem?_eq_getElem hi
      have hkk := (hks i k _ hk e).1
      have tl := taken_len keys i (by omega) (by omega)
      have oi := own_is (k := keys[i]) (T := takenAt keys i) (by rw [tl]; omega)
      refine ⟨_, rfl, _, rfl, k, t, keys[i], takenAt keys i, rfl, SqL.of (sH _ _ hkk), kok _ (List.mem_of_getElem? e), hT, by rw [tl]; omega, fun H2 q f s4 nf hq2 hf2 => ?_⟩
      have nfak : f ≠ ak := (ne_of_none hak nf).symm
      refine ⟨q, _, rfl, SqT.of hq2, rfl, _, _, rfl, _, _, rfl, rfl, ?_⟩
      have hak2 := s4 _ _ hak
      refine ⟨_, rfl, .inl ⟨rfl, _, SqL.of hak2⟩, _, rfl, ak, _, _, rfl, rfl, hak2, ?_, ?_⟩
      · have cl : (countsAt keys i).length ≤ 4 := by
          unfold countsAt
          rw [List.length_map, find_len, List.length_take]
          omega
        rw [nv_len]
        exact Nat.lt_of_le_of_lt cl (by decide)
      have hfH : H f = none := sH.free nf
      have s5 : Same H (upd H2 ak (.lst (nv (countsAt keys i) ++ [V.int (((own keys[i] (takenAt keys i)).2 : Nat) : Int)]))) := samePut (sH.trans s4) hak0
      have hf5 : (upd H2 ak (.lst (nv (countsAt keys i) ++ [V.int (((own keys[i] (takenAt keys i)).2 : Nat) : Int)]))) f = some (.lst (nv (own keys[i] (takenAt keys i)).1)) := (upd_ne nfak).trans hf2
      have hak5 : (upd H2 ak (.lst (nv (countsAt keys i) ++ [V.int (((own keys[i] (takenAt keys i)).2 : Nat) : Int)]))) ak = some (.lst (nv (countsAt keys (i + 1)))) := by
        rw [upd_same, counts_more e, nv_app]
        rfl
      have hT5 : TakenAt (upd H2 ak (.lst (nv (countsAt keys i) ++ [V.int (((own keys[i] (takenAt keys i)).2 : Nat) : Int)]))) t (takenAt keys i) := by
        obtain ⟨kvs, g1, g2, g3⟩ := hT.same s4
        exact ⟨kvs, (upd_ne (ne_of g1 hak2 (by intro z; cases z))).trans g1, g2, g3⟩
      generalize upd H2 ak (.lst (nv (countsAt keys i) ++ [V.int (((own keys[i] (takenAt keys i)).2 : Nat) : Int)])) = H5 at s5 hf5 hak5 hT5
      refine ⟨_, rfl, f, rfl, ⟨_, SqL.of hf5⟩, ?_⟩
      refine for_list (K := K) (a := f) (xs := nv (own keys[i] (takenAt keys i)).1) (fun j σ H' => ∃ v6 : Option V, σ = [some (.ref a), some (.ref t), some (.ref ak), some (.ref f), some (.ref k), some (.int (((own keys[i] (takenAt keys i)).2 : Nat) : Int)), v6] ∧ Same H H' ∧
          TakenAt H' t (takenAt keys i ++ (own keys[i] (takenAt keys i)).1.take j) ∧ H' ak = some (.lst (nv (countsAt keys (i + 1)))) ∧ H' f = some (.lst (nv (own keys[i] (takenAt keys i)).1)))
        ⟨_, rfl, s5, by rw [List.take_zero, List.append_nil]; exact hT5, hak5, hf5⟩ (fun i σ H' _ ⟨_, _, _, _, _, g⟩ => SqL.of g) ?_ ?_
      · rintro j y σ H' hy ⟨v6, rfl, s6, hT6, hak6, hf6⟩
        have hjl : j < 64 := by
          have := (List.getElem?_eq_some_iff.mp hy).1
          rw [nv_len, oi.1] at this
          exact this
        obtain ⟨n, hn, rfl⟩ : ∃ n, (own keys[i] (takenAt keys i)).1[j]? = some n ∧ y = .int (n : Int) := by
          unfold nv at hy
          rw [List.getElem?_map] at hy
          cases e : (own keys[i] (takenAt keys i)).1[j]? with
          | none =>
            rw [e] at hy
            cases hy
          | some n =>
            rw [e] at hy
            exact ⟨n, rfl, (Option.some.inj hy).symm⟩
        obtain ⟨kvs, g1, g2, g3⟩ := hT6
        have gl : kvs.length ≤ 1000 := by
          rw [List.length_append, tl, List.length_take] at g3
          omega
        refine ⟨_, rfl, _, rfl, t, _, rfl, DPut.k (k := Sum.inl (n : Int)) g1 (Nat.lt_of_le_of_lt gl (by decide)), ?_⟩
        refine ⟨_, rfl, samePut s6 nt, ?_, ?_, ?_⟩
        · rw [take_more hn, ← List.append_assoc]
          exact TakenAt.put g2 g3 n _
        · exact (upd_ne (ne_of hak6 g1 (by intro z; cases z))).trans hak6
        · exact (upd_ne (ne_of hf6 g1 (by intro z; cases z))).trans hf6
      · rintro σ H' ⟨v6, rfl, s6, hT6, hak6, hf6⟩
        refine ⟨f, _, _, _, rfl, s6, ?_, hak6, ?_, hfH⟩
        · rw [nv_len, List.take_length, ← taken_more e] at hT6
          exact hT6
        · rw [places_more e]
          exact hf6
    · rintro σ H' ⟨pl, v4, v5, v6, rfl, sH, hT, hak, hpl, hpn⟩
      rw [List.length_map, hkl] at hak hpl
      rw [places_all] at hpl
      refine ⟨_, rfl, _, rfl, (by show 2 ≤ sizeLine; decide), fun q nq => ?_⟩
      exact hq _ q pl ak (sameAdd sH nq) hpn hak0 upd_same ((upd_ne (ne_of_none hpl nq)).trans hpl) ((upd_ne (ne_of_none hak nq)).trans hak)
theorem lkHere {k : Str} {v : V} {r : List (Str × V)} : List.lookup k ((k, v) :: r) = some v := by
  simp only [List.lookup, beq_self_eq_true k]
theorem lkPast {k g : Str} {v : V} {r : List (Str × V)} (h : (k == g) = false) : List.lookup k ((g, v) :: r) = List.lookup k r := by
  simp only [List.lookup, h]
theorem putHere {f : Str} {v x : V} {r : List (Str × V)} : putF f v ((f, x) :: r) = (f, v) :: r := if_pos rfl
theorem putPast {f g : Str} {v x : V} {r : List (Str × V)} (h : ¬ g = f) : putF f v ((g, x) :: r) = (g, x) :: putF f v r := if_neg h
theorem aF_many (m : Nat) (N : Addr) : (aF m N).lookup ("many" : Str) = some (.int (m : Int)) := lkHere
theorem aF_numbers (m : Nat) (N : Addr) : (aF m N).lookup ("numbers" : Str) = some (.ref N) := (lkPast (by decide +kernel)).trans lkHere
theorem aF_no (m : Nat) (N : Addr) {x : Str} (h1 : (x == ("many" : Str)) = false) (h2 : (x == ("numbers" : Str)) = false) : (aF m N).lookup x = none := (lkPast h1).trans ((lkPast h2).trans rfl)
theorem aF_put (m m' : Nat) (N : Addr) : putF "many" (.int (m' : Int)) (aF m N) = aF m' N := putHere
theorem aF_new (N : Addr) : putF "numbers" (.ref N) (putF "many" (.int 0) []) = aF 0 N := (putPast (by decide +kernel)).trans rfl
theorem scAInit : FnScope ["self"] ["self"] (defScope sAInit) := ⟨rfl, rfl, rfl, by decide +kernel, rfl, by decide +kernel, by decide +kernel⟩
theorem ok_aInit {f : Addr} {fd : FuncData} (F : Fun K "__init__" "Asked.__init__" sAInit f fd) (T : Txt K mg CA CP) : FnOk P w K mg base CX0 1 f fd ["self"] (spAInit CA) := by
  refine F.ok scAInit (fun vs H Q E h => ?_) (fun cdv A outer s H vs Q E hr h => ?_)
  · obtain ⟨x, dx, rfl, _⟩ := h
    rfl
  · obtain ⟨x, dx, rfl, hx, hq⟩ := h
    refine ⟨_, pss_cons (ps_fld (pv 0) pe_int rfl) (pss_one (ps_fld (pv 0) (pe_lst pa_nil) rfl)), ?_⟩
    refine ⟨_, rfl, x, CA, dx, [], rfl, hx, T.clA, T.nM, (by show 0 < 1000; decide), ?_⟩
    refine ⟨Nat.zero_le _, fun N hN => ?_⟩
    have nxN : x ≠ N := ne_of_none upd_same hN
    refine ⟨_, rfl, x, CA, dx, _, rfl, (upd_ne nxN).trans upd_same, T.clA, T.nN, (by show 1 < 1000; decide), ?_⟩
    have hN0 : H N = none := by
      rw [upd_ne nxN.symm] at hN
      exact hN
    refine hq _ N hN0 (fun b o e ne => ?_) ⟨dx, upd_same.trans (congrArg (fun q => some (HO.ins CA dx q)) (aF_new N)), (upd_ne nxN.symm).trans upd_same⟩
    rw [upd_ne ne, upd_ne (ne_of_none e hN0), upd_ne ne]
    exact e
theorem scNote : FnScope ["self", "row"] ["self", "row"] (defScope sNote) := ⟨rfl, rfl, rfl, by decide +kernel, rfl, by decide +kernel, by decide +kernel⟩
theorem ok_note {f : Addr} {fd : FuncData} (F : Fun K "note" "Asked.note" sNote f fd) (T : Txt K mg CA CP) : FnOk P w K mg base CX0 1 f fd ["self", "row"] (spNote CA) := by
  refine F.ok scNote (fun vs H Q E h => ?_) (fun cdv A outer s H vs Q E hr h => ?_)
  · obtain ⟨x, N, r, m, ns, rs, rfl, _⟩ := h
    rfl
  · obtain ⟨x, N, r, m, ns, rs, rfl, ⟨dx, hx, hN⟩, hR, hl, hq⟩ := h
    refine ⟨_, pss_cons (ps_fldaug (pv 0) pe_int in_add) (pss_one (ps_expr (pe_bm PySem.F.plainAttrs_list PySem.F.slot_list_extend PySem.F.type_list_extend mt_extend (pe_fld (pv 0) rfl) (pa_cons (pv 1) pa_nil)))), ?_⟩
    have nNx : N ≠ x := ne_of hN hx (by intro z; cases z)
    have nrx : r ≠ x := ne_of hR hx (by intro z; cases z)
    refine ⟨_, rfl, x, CA, dx, _, _, rfl, hx, T.clA, T.nM, aF_many m N, _, _, rfl, rfl, dx, _, hx, (by show 2 < 1000; decide), ?_⟩
    have e1 : putF "many" (.int ((m : Int) + 1)) (aF m N) = aF (m + 1) N := aF_put m (m + 1) N
    refine ⟨_, rfl, x, CA, dx, aF (m + 1) N, _, rfl, upd_same.trans (congrArg (fun q => some (HO.ins CA dx q)) e1), T.clA, T.nN, aF_numbers (m + 1) N, .inl ⟨rfl, _, SqL.of ((upd_ne nNx).trans hN)⟩, _, rfl, N, r, _, _, rfl, rfl, (upd_ne nNx).trans hN, (upd_ne nrx).trans hR, ?_, ?_⟩
    · rw [List.length_map, List.length_map]
      exact Nat.le_trans hl (by decide)
    · refine hq _ (fun b o e nb => ?_) ⟨dx, (upd_ne nNx.symm).trans (upd_same.trans (congrArg (fun q => some (HO.ins CA dx q)) e1)), upd_same.trans (by rw [List.map_append])⟩
      rw [upd_ne fun z => nb (.inr z), upd_ne fun z => nb (.inl z)]
      exact e
theorem scTold : FnScope ["self"] ["self"] (defScope sTold) := ⟨rfl, rfl, rfl, by decide +kernel, rfl, by decide +kernel, by decide +kernel⟩
theorem ok_told {f : Addr} {fd : FuncData} (F : Fun K "told" "Asked.told" sTold f fd) (T : Txt K mg CA CP) : FnOk P w K mg base CX0 1 f fd ["self"] (spTold CA) := by
  refine F.ok scTold (fun vs H Q E h => ?_) (fun cdv A outer s H vs Q E hr h => ?_)
  · obtain ⟨x, N, m, ns, rfl, _⟩ := h
    rfl
  · obtain ⟨x, N, m, ns, rfl, ⟨dx, hx, hN⟩, hl, hq⟩ := h
    refine ⟨_, pss_one (ps_ret (pe_op op_cat (pe_lst (pa_cons (pe_fld (pv 0) rfl) pa_nil)) (pe_fld (pv 0) rfl))), ?_⟩
    refine ⟨_, rfl, x, CA, dx, _, _, rfl, hx, T.clA, T.nM, aF_many m N, (by show 1 ≤ sizeLine; decide), fun l nl => ?_⟩
    have s1 := sameNew (o := .lst [V.int (m : Int)]) nl
    refine ⟨_, rfl, x, CA, dx, _, _, rfl, s1 _ _ hx, T.clA, T.nN, aF_numbers m N, l, N, _, _, rfl, rfl, upd_same, s1 _ _ hN, ?_, fun p np => ?_⟩
    · rw [List.length_map]
      exact Nat.le_trans (Nat.add_le_add_left hl _) (show 1 + 1000000 ≤ sizeLine by decide)
    · exact hq _ p (sameAdd s1 np) (s1.free np) upd_same
theorem lookRows {k : Str} {v : V} {r : List (Str × V)} : List.lookup k ((k, v) :: r) = some v := by
  simp only [List.lookup, beq_self_eq_true k]
theorem pF_rows (R : Addr) : (pF R).lookup ("rows" : Str) = some (.ref R) := lookRows
theorem pF_no (R : Addr) {x : Str} (h : (x == ("rows" : Str)) = false) : (pF R).lookup x = none := by
  simp only [pF, List.lookup, h]
theorem pF_put (R R' : Addr) : putF "rows" (.ref R') (pF R) = pF R' := if_pos rfl
theorem pF_new (R : Addr) : putF "rows" (.ref R) [] = pF R := rfl
/-- a new list of new rows at D, i of them -/
structure NewRows (H H' : Hp) (D : Addr) (i : Nat) (g : Nat → List Nat) : Prop where
  same : Same H H'
  ex : ∃ refs : List Addr, H' D = some (.lst (refs.map V.ref)) ∧ refs.length = i ∧ ∀ (j : Nat) (r : Addr), refs[j]? = some r → H' r = some (.lst (nv (g j))) ∧ H r = none ∧ r ≠ D
theorem NewRows.start {H : Hp} {D : Addr} {g : Nat → List Nat} (hD : H D = none) : NewRows H (upd H D (.lst [])) D 0 g := ⟨sameNew hD, [], upd_same, rfl, fun j r e => by simp at e⟩
theorem NewRows.next {H H' H2 : Hp} {D r : Addr} {i : Nat} {g : Nat → List Nat} (h : NewRows H H' D i g) (hD : H D = none) (s : Same H' H2) (hr : H' r = none) (h2 : H2 r = some (.lst (nv (g i)))) :
    ∃ acc, H2 D = some (.lst acc) ∧ acc.length = i ∧ NewRows H (upd H2 D (.lst (acc ++ [V.ref r]))) D (i + 1) g := by
  obtain ⟨refs, h1, hl, h3⟩ := h.ex
  have nrD : r ≠ D := (ne_of_none h1 hr).symm
  refine ⟨_, s _ _ h1, by rw [List.length_map, hl], samePut (h.same.trans s) hD, refs ++ [r], ?_, ?_, fun j q e => ?_⟩
  · rw [upd_same, List.map_append]
    rfl
  · rw [List.length_append, hl]
    rfl
  · by_cases c : j < refs.length
    · rw [List.getElem?_append_left c] at e
      obtain ⟨g1, g2, g3⟩ := h3 j q e
      exact ⟨by rw [upd_ne g3]; exact s _ _ g1, g2, g3⟩
    · have hjl : j < (refs ++ [r]).length := (List.getElem?_eq_some_iff.mp e).1
      rw [List.length_append, List.length_singleton] at hjl
      have ej : j = i := by omega
      rw [List.getElem?_append_right (by omega), hl, ej, Nat.sub_self] at e
      have eq : r = q := Option.some.inj e
      subst eq
      refine ⟨?_, h.same.free hr, nrD⟩
      rw [upd_ne nrD, ej]
      exact h2
theorem scPInit : FnScope ["self", "p"] ["self"] (defScope sPInit) := ⟨rfl, rfl, rfl, by decide +kernel, rfl, by decide +kernel, by decide +kernel⟩
theorem ok_pInit {f : Addr} {fd : FuncData} (F : Fun K "__init__" "Pages.__init__" sPInit f fd) (T : Txt K mg CA CP) : FnOk P w K mg base CX0 1 f fd ["self"] (spPInit CP) := by
  refine F.ok scPInit (fun vs H Q E h => ?_) (fun cdv A outer s H vs Q E hr h => ?_)
  · obtain ⟨x, dx, rfl, _⟩ := h
    rfl
  · obtain ⟨x, dx, rfl, hx, hq⟩ := h
    refine ⟨_, pss_one (ps_fld (pv 0) (pe_lc (own := [("p", 1)]) (g := gName 1) (te := tOp rRep (tLst (tCons (tC (.int 0)) tNil)) (tC (.int 96))) (by rfl) scPInit.nd (pi_range1 (by rfl) T.range (pa_cons (pe_ci T.PAGES) pa_nil))
      (blkOk_by (own := [("p", 1)]) (N := ["self", "p"]) (sc := defScope sPInit) (by decide +kernel))
      (fun _ _ _ _ _ => pg_name (i := 1) scPInit.nd rfl (Or.inl rfl)) (fun _ _ _ _ _ => pts_nil)
      (fun _ _ _ _ _ => pe_op op_rep (pe_lst (pa_cons pe_int pa_nil)) (pe_ci T.PAGE_BYTES))) rfl), ?_⟩
    refine ⟨1024, rfl, by decide, by decide, fun D hD => ?_⟩
    refine lc_range (lo := 0) (n := 1024) (fun i H' => NewRows H H' D i (fun _ => Ks190.zeros 96)) (NewRows.start hD) ?_ ?_
    · rintro i H' hi nr
      refine ⟨rfl, (by show 1 ≤ sizeLine; decide), fun l hl => ?_⟩
      refine ⟨l, 96, _, rfl, rfl, upd_same, by decide, by decide, (by show 1 * 96 ≤ sizeLine; decide), fun m hm => ?_⟩
      have s1 := sameNew (o := .lst [V.int 0]) hl
      have e96 : (List.replicate (96 : Int).toNat [V.int 0]).flatten = nv (Ks190.zeros 96) := rfl
      obtain ⟨acc, a1, a2, a3⟩ := nr.next hD (sameAdd (o := .lst (List.replicate (96 : Int).toNat [V.int 0]).flatten) s1 hm) (s1.free hm) (upd_same.trans (by rw [e96]))
      exact ⟨acc, a1, by rw [a2]; exact Nat.lt_trans hi (by decide), a3⟩
    · rintro H' nr
      obtain ⟨refs, h1, hl, h3⟩ := nr.ex
      have hx' := nr.same _ _ hx
      have nDx : D ≠ x := (ne_of_none hx hD).symm
      refine ⟨_, rfl, x, CP, dx, [], rfl, hx', T.clP, T.nR, (by show 0 < 1000; decide), ?_⟩
      refine hq _ (fun b => H b = none ∨ b = x) (fun b o e ne => ⟨(upd_ne ne).trans (nr.same _ _ e), fun z => ?_⟩) ⟨⟨dx, D, refs, upd_same.trans (congrArg (fun q => some (HO.ins CP dx q)) (pF_new D)), .inr rfl, .inl hD, (upd_ne nDx).trans h1, hl, fun p r e => ?_⟩, fun p hp => ?_⟩
      · rcases z with z | z
        · rw [z] at e
          cases e
        · exact ne z
      · obtain ⟨g1, g2, g3⟩ := h3 p r e
        exact ⟨(upd_ne (ne_of_none hx g2).symm).trans g1, .inl g2⟩
      · exact List.length_replicate
/-- the scope of a written comprehension -/
def lcScope : Stmt → Scope
  | .Assign _ (.ListComp _ _ sc _) _ => sc
  | _ => { kind := .function, names := [], isGenerator := false, isCoroutine := false }
theorem scFill : FnScope ["self", "seed", "p", "i"] ["self", "seed"] (defScope sFill) := ⟨rfl, rfl, rfl, by decide +kernel, rfl, by decide +kernel, by decide +kernel⟩
def rMul7 : R2 := rI CMul fun i j => .int (i * j)
def rSum7 : R2 := rI0 fun i j => .int (i + j)
def rMod7 : R2 := rI (fun _ j => 0 < j) fun i j => .int (i % j)
def tItem : TE := tOp rMod7 (tOp rSum7 (tOp rSum7 (tVar 1) (tOp rMul7 (tC (.int 7)) (tVar 2))) (tOp rMul7 (tC (.int 13)) (tVar 3))) (tC (.int 256))
def tRow : TE := tLc (iRng1 (tCons (tC (.int 96)) tNil)) (gName 3) tYes tItem [3]
theorem row_at (n p : Nat) {i : Nat} (h : i < 96) : (freshRow n p)[i]? = some ((n + 7 * p + 13 * i) % 256) := by
  unfold freshRow
  rw [List.getElem?_map, List.getElem?_range h]
  rfl
theorem row_len (n p : Nat) : (freshRow n p).length = 96 := by
  unfold freshRow
  rw [List.length_map, List.length_range]
theorem ok_fill {f : Addr} {fd : FuncData} (F : Fun K "fill" "Pages.fill" sFill f fd) (T : Txt K mg CA CP) : FnOk P w K mg base CX0 1 f fd ["self", "seed"] (spFill CP) := by
  refine F.ok scFill (fun vs H Q E h => ?_) (fun cdv A outer s H vs Q E hr h => ?_)
  · obtain ⟨a, S, d, d', n, rfl, _⟩ := h
    rfl
  · obtain ⟨a, S, d, d', n, rfl, hP, hd, hq⟩ := h
    obtain ⟨dx, R, refs0, ha, Sa, _⟩ := hP.ex
    refine ⟨_, pss_one (ps_fld (pv 0) (pe_lc (own := [("p", 2)]) (g := gName 2) (te := tRow) (by rfl) scFill.nd (pi_range1 (by rfl) T.range (pa_cons (pe_ci T.PAGES) pa_nil))
      (blkOk_by (own := [("p", 2)]) (N := ["self", "seed", "p", "i"]) (sc := defScope sFill) (by decide +kernel))
      (fun _ _ _ _ _ => pg_name (i := 2) scFill.nd rfl (Or.inr rfl)) (fun _ _ _ _ _ => pts_nil)
      (fun _ _ _ _ _ => pe_lc (own := [("i", 3)]) (g := gName 3) (te := tItem) (by rfl) scFill.nd (pi_range1 (by rfl) T.range (pa_cons (pe_ci T.PAGE_BYTES) pa_nil))
        (blkOk_by (own := [("i", 3)]) (N := ["self", "seed", "p", "i"]) (sc := relS (lcScope ((defBody sFill).getD 0 (.Pass ⟨0, 0, 0, 0⟩))) (defScope sFill)) (by decide +kernel))
        (fun _ _ _ _ _ => pg_name (i := 3) scFill.nd rfl (Or.inl rfl)) (fun _ _ _ _ _ => pts_nil)
        (fun _ _ _ _ _ => pe_op op_mod (pe_op op_add (pe_op op_add (pv 1) (pe_op op_mul pe_int (pv 2))) (pe_op op_mul pe_int (pv 3))) (pe_ci T.BYTE)))) rfl), ?_⟩
    refine ⟨1024, rfl, by decide, by decide, fun D hD => ?_⟩
    refine lc_range (lo := 0) (n := 1024) (fun i H' => NewRows H H' D i d') (NewRows.start hD) ?_ ?_
    · rintro p H' hp nr
      refine ⟨rfl, ?_⟩
      refine ⟨96, rfl, by decide, by decide, fun r hr' => ?_⟩
      refine lc_range (lo := 0) (n := 96) (fun i H2 => Same H' H2 ∧ H2 r = some (.lst (nv ((freshRow n p).take i)))) ⟨sameNew hr', upd_same⟩ ?_ ?_
      · rintro i H2 hi ⟨s2, h2⟩
        refine ⟨rfl, ?_⟩
        refine ⟨_, rfl, _, rfl, _, _, rfl, rfl, .inl (by constructor <;> decide), _, _, rfl, rfl, _, rfl, _, _, rfl, rfl, .inl (by constructor <;> decide), _, _, rfl, rfl, _, _, rfl, rfl, (by show (0 : Int) < 256; decide), ?_⟩
        refine ⟨_, h2, ?_, samePut s2 hr', ?_⟩
        · rw [nv_len, List.length_take]
          exact Nat.lt_of_le_of_lt (Nat.min_le_left _ _) (Nat.lt_trans hi (by decide))
        · rw [upd_same, take_more (row_at n p hi), nv_app]
          refine congrArg (fun q : V => some (HO.lst (nv ((freshRow n p).take i) ++ [q]))) (congrArg V.int ?_)
          push_cast
          rw [show (0 : Int) + (p : Int) = (p : Int) by omega, show (0 : Int) + (i : Int) = (i : Int) by omega]
      · rintro H2 ⟨s2, h2⟩
        rw [List.take_of_length_le (by rw [row_len]; exact Nat.le_refl _), ← hd p hp] at h2
        obtain ⟨acc, a1, a2, a3⟩ := nr.next hD s2 hr' h2
        exact ⟨acc, a1, by rw [a2]; exact Nat.lt_trans hp (by decide), a3⟩
    · rintro H' nr
      obtain ⟨refs, h1, hl, h3⟩ := nr.ex
      have ha' := nr.same _ _ ha
      have nDa : D ≠ a := (ne_of_none ha hD).symm
      refine ⟨_, rfl, a, CP, dx, _, rfl, ha', T.clP, T.nR, (by show 1 < 1000; decide), ?_⟩
      refine hq _ (fun b => H b = none ∨ S b) (fun b o e ne => ⟨(upd_ne fun q => ne (by rw [q]; exact Sa)).trans (nr.same _ _ e), fun z => ?_⟩) ⟨⟨dx, D, refs, upd_same.trans (congrArg (fun q => some (HO.ins CP dx q)) (pF_put R D)), .inr Sa, .inl hD, (upd_ne nDa).trans h1, hl, fun p r e => ?_⟩, fun p hp => ?_⟩
      · rcases z with z | z
        · rw [z] at e
          cases e
        · exact ne z
      · obtain ⟨g1, g2, g3⟩ := h3 p r e
        exact ⟨(upd_ne (ne_of_none ha g2).symm).trans g1, .inl g2⟩
      · rw [hd p hp]
        exact row_len n p
theorem scPage : FnScope ["self", "number"] ["self", "number"] (defScope sPage) := ⟨rfl, rfl, rfl, by decide +kernel, rfl, by decide +kernel, by decide +kernel⟩
theorem PagesAt.at {S : Addr → Prop} {H : Hp} {a : Addr} {d : Medium} (h : PagesAt CP S H a d) {p : Nat} (hp : p < 1024) :
    ∃ (dx R r : Addr) (refs : List Addr), H a = some (.ins CP dx (pF R)) ∧ H R = some (.lst (refs.map V.ref)) ∧ (refs.map V.ref)[p]? = some (.ref r) ∧ H r = some (.lst (nv (d p))) := by
  obtain ⟨dx, R, refs, h1, _, _, h2, hl, h3⟩ := h.ex
  have e : refs[p]? = some refs[p] := List.getElem?_eq_getElem (by omega)
  exact ⟨dx, R, refs[p], refs, h1, h2, by rw [List.getElem?_map, e] <;> rfl, (h3 p _ e).1⟩
theorem ok_page {f : Addr} {fd : FuncData} (F : Fun K "page" "Pages.page" sPage f fd) (T : Txt K mg CA CP) : FnOk P w K mg base CX0 1 f fd ["self", "number"] (spPage CP) := by
  refine F.ok scPage (fun vs H Q E h => ?_) (fun cdv A outer s H vs Q E hr h => ?_)
  · obtain ⟨a, S, d, n, rfl, _⟩ := h
    rfl
  · obtain ⟨a, S, d, n, rfl, hP, hq⟩ := h
    obtain ⟨dx, R, r, refs, h1, h2, h3, h4⟩ := hP.at (p := n % 1024) (Nat.mod_lt _ (by decide))
    refine ⟨_, pss_one (ps_ret (pe_callTy call_list_of (by rfl) T.list (by decide +kernel) (pa_cons (pe_ix ix_list (pe_fld (pv 0) rfl) (pe_op op_mod (pv 1) (pe_ci T.PAGES)) (fun _ _ => rfl)) pa_nil))), ?_⟩
    refine ⟨_, rfl, a, CP, dx, _, _, rfl, h1, T.clP, T.nR, pF_rows R, _, rfl, _, _, rfl, rfl, (by show (0 : Int) < 1024; decide), R, _, _, _, rfl, rfl, SqL.of h2, at_of (j := n % 1024) (by omega) h3, r, _, rfl, .inl (SqL.of h4), fun l nl => ?_⟩
    exact hq _ l (sameNew nl) nl upd_same
theorem keepTrans {M : Addr → Prop} {H H1 H2 : Hp} (k : Keep M H H1) (k2 : Keep M H1 H2) : Keep M H H2 := fun b o e nb => k2 b o (k b o e nb) nb
theorem keepSame {M : Addr → Prop} {H H1 H2 : Hp} (k : Keep M H H1) (s : Same H1 H2) : Keep M H H2 := fun b o e nb => s b o (k b o e nb)
theorem sameKeep {M : Addr → Prop} {H H1 : Hp} (s : Same H H1) : Keep M H H1 := fun b o e _ => s b o e
theorem asked_same {H H' : Hp} {x N : Addr} {m : Nat} {ns : List Int} (h : AskedAt CA H x N m ns) (s : Same H H') : AskedAt CA H' x N m ns := by
  obtain ⟨dx, h1, h2⟩ := h
  exact ⟨dx, s _ _ h1, s _ _ h2⟩
theorem asked_ne {H : Hp} {x N b : Addr} {m : Nat} {ns : List Int} (h : AskedAt CA H x N m ns) (hb : H b = none) : ¬ AN x N b := by
  obtain ⟨dx, h1, h2⟩ := h
  rintro (e | e)
  · rw [e, h1] at hb
    cases hb
  · rw [e, h2] at hb
    cases hb
theorem PagesAt.keep {S : Addr → Prop} {H H' : Hp} {a : Addr} {d : Medium} (h : PagesAt CP S H a d) (k : ∀ b o, H b = some o → S b → H' b = some o) : PagesAt CP S H' a d := by
  obtain ⟨dx, R, refs, h1, sa, sR, h2, hl, h3⟩ := h.ex
  exact ⟨⟨dx, R, refs, k _ _ h1 sa, sa, sR, k _ _ h2 sR, hl, fun p r e => ⟨k _ _ (h3 p r e).1 (h3 p r e).2, (h3 p r e).2⟩⟩, h.sz⟩
theorem notAN {S : Addr → Prop} {x N b : Addr} (h : ¬ S x ∧ ¬ S N) (hb : S b) : ¬ AN x N b := by
  rintro (e | e)
  · exact h.1 (e ▸ hb)
  · exact h.2 (e ▸ hb)
theorem PagesAt.keepAN {S : Addr → Prop} {H H' : Hp} {a x N : Addr} {d : Medium} (h : PagesAt CP S H a d) (n : ¬ S x ∧ ¬ S N) (k : Keep (AN x N) H H') : PagesAt CP S H' a d := h.keep fun b o e sb => k b o e (notAN n sb)
theorem cntE_app (a b : List Nat) : cntE (a ++ b) = cntE a ++ cntE b := List.flatMap_append
theorem cnt1_len (n : Nat) : ((List.range n).flatMap fun (j : Nat) => [(4 : Int), (j : Int)]).length = 2 * n := by
  induction n with
  | zero => rfl
  | succ n ih =>
    rw [List.range_succ, List.flatMap_append, List.length_append, ih]
    show 2 * n + 2 = _
    omega
theorem cntE_len : ∀ cs : List Nat, (cntE cs).length = 2 * cs.sum
  | [] => rfl
  | c :: r => by
    show (((List.range c).flatMap fun (j : Nat) => [(4 : Int), (j : Int)]) ++ cntE r).length = _
    rw [List.length_append, cnt1_len, cntE_len r, List.sum_cons]
    omega
theorem sum_le : ∀ {l : List Nat}, (∀ c ∈ l, c ≤ 1024) → l.sum ≤ 1024 * l.length
  | [], _ => Nat.zero_le _
  | c :: r, h => by
    have i := sum_le (l := r) fun z hz => h z (List.mem_cons_of_mem _ hz)
    have j := h c (List.mem_cons_self ..)
    rw [List.sum_cons, List.length_cons]
    omega
theorem KeysOk.cs_le {keys : List (List Nat)} (h : KeysOk keys) : ∀ c ∈ cs keys, c ≤ 1024 := counts_le keys keys.length (Nat.le_refl _) h.four
theorem KeysOk.cs_len {keys : List (List Nat)} (h : KeysOk keys) : (cs keys).length ≤ 4 := by
  unfold cs
  rw [counts_len]
  exact h.four
theorem KeysOk.sum_le {keys : List (List Nat)} (h : KeysOk keys) : (cs keys).sum ≤ 4096 := by
  have a := Hd.sum_le h.cs_le
  have b := h.cs_len
  omega
theorem KeysOk.pg_lt {keys : List (List Nat)} (h : KeysOk keys) {i : Nat} (hi : i < 64) : (Ks190.places G keys)[i]? = some (pgOf keys i) ∧ pgOf keys i < 1024 := by
  obtain ⟨p1, p2⟩ := places_is h.one h.four
  have e : (Ks190.places G keys)[i]? = some (pgOf keys i) := getD_some (by rw [p1]; exact hi)
  exact ⟨e, p2 _ (List.mem_of_getElem? e)⟩
theorem scPFind : FnScope ["self", "asked", "keys", "i", "places", "many", "count", "j"] ["self", "asked", "keys", "i"] (defScope sPFind) := ⟨rfl, rfl, rfl, by decide +kernel, rfl, by decide +kernel, by decide +kernel⟩
theorem ok_pFind {f : Addr} {fd : FuncData} (F : Fun K "find" "Pages.find" sPFind f fd) (T : Txt K mg CA CP) (cF : Cal P w K mg base 3 "find_places" spFind) (mN : Met P w K mg base 1 CA "note" (spNote CA)) : FnOk P w K mg base CX0 4 f fd ["self", "asked", "keys", "i"] (spPFind CA) := by
  refine F.ok scPFind (fun vs H Q E h => ?_) (fun cdv A outer s H vs Q E hr h => ?_)
  · obtain ⟨v, x, N, kp, i, keys, rfl, _⟩ := h
    rfl
  · obtain ⟨v, x, N, kp, i, keys, rfl, hA, hR, kok, hi, hq⟩ := h
    refine ⟨_, pss_cons (ps_asg (pe_call cF.ok (hr.mono (by decide)) rfl cF.mg cF.kp cF.bd .nil pass0 (pa_cons (pv 2) pa_nil)) (pg_tup rfl (pgs_cons (pg_name (i := 4) scPFind.nd rfl (Or.inl rfl)) (pgs_cons (pg_name (i := 5) scPFind.nd rfl (Or.inl rfl)) pgs_nil))))
      (pss_cons (ps_for PassesOwn.never rfl (pi_list (pv 5)) (pg_name (i := 6) scPFind.nd rfl (Or.inl rfl)) (pss_one (ps_for PassesOwn.never rfl (pi_range1 (by rfl) T.range (pa_cons (pv 6) pa_nil)) (pg_name (i := 7) scPFind.nd rfl (Or.inl rfl))
        (pss_one (ps_expr (pe_meth (pv 1) mN.cl mN.me mN.ok (hr.mono (by decide)) mN.bd .nil pass0 (pa_cons (pe_lst (pa_cons (pe_ci T.PLACE) (pa_cons (pv 7) pa_nil))) pa_nil)))))))
      (pss_one (ps_ret (pe_ix ix_list (pv 4) (pv 3) (fun _ _ => rfl))))), ?_⟩
    refine ⟨_, rfl, kp, keys, rfl, hR.mono (fun _ z => z.elim), kok.all, kok.four, fun H1 q pl ak s1 npl nak h1 h2 h3 => ?_⟩
    refine ⟨q, _, rfl, SqT.of h1, rfl, _, _, rfl, _, _, rfl, rfl, ?_⟩
    have apl := asked_ne hA npl
    have aak := asked_ne hA nak
    refine ⟨_, rfl, ak, rfl, ⟨_, SqL.of h3⟩, ?_⟩
    refine for_list (K := K) (a := ak) (xs := nv (cs keys)) (fun j σ H' => ∃ v6 v7 : Option V, σ = [some v, some (.ref x), some (.ref kp), some (.int (i : Int)), some (.ref pl), some (.ref ak), v6, v7] ∧ Keep (AN x N) H H' ∧
        AskedAt CA H' x N ((cs keys).take j).sum (cntE ((cs keys).take j)) ∧ H' ak = some (.lst (nv (cs keys))) ∧ H' pl = some (.lst (nv (Ks190.places G keys))))
      ⟨none, none, rfl, sameKeep s1, asked_same hA s1, h3, h2⟩ (fun j σ H' _ ⟨_, _, _, _, _, g, _⟩ => SqL.of g) ?_ ?_
    · rintro j y σ H' hy ⟨v6, v7, rfl, k1, a1, hak, hpl⟩
      obtain ⟨c, hc, rfl⟩ : ∃ c, (cs keys)[j]? = some c ∧ y = .int (c : Int) := by
        unfold nv at hy
        rw [List.getElem?_map] at hy
        cases e : (cs keys)[j]? with
        | none =>
          rw [e] at hy
          cases hy
        | some n =>
          rw [e] at hy
          exact ⟨n, rfl, (Option.some.inj hy).symm⟩
      have c1 : c ≤ 1024 := kok.cs_le c (List.mem_of_getElem? hc)
      have sj : ((cs keys).take j).sum ≤ 4096 := by
        have z := Hd.sum_le (l := (cs keys).take j) fun u hu => kok.cs_le u (List.mem_of_mem_take hu)
        have z2 := kok.cs_len
        rw [List.length_take] at z
        omega
      refine ⟨_, rfl, (c : Int), rfl, by omega, by omega, ?_⟩
      refine for_range (lo := 0) (fun n σ H' => ∃ v7 : Option V, σ = [some v, some (.ref x), some (.ref kp), some (.int (i : Int)), some (.ref pl), some (.ref ak), some (.int (c : Int)), v7] ∧ Keep (AN x N) H H' ∧
          AskedAt CA H' x N (((cs keys).take j).sum + n) (cntE ((cs keys).take j) ++ (List.range n).flatMap fun (j : Nat) => [(4 : Int), (j : Int)]) ∧ H' ak = some (.lst (nv (cs keys))) ∧ H' pl = some (.lst (nv (Ks190.places G keys))))
        ⟨_, rfl, k1, by simpa using a1, hak, hpl⟩ ?_ ?_
      · rintro n σ H' hn ⟨v7, rfl, k2, a2, hak2, hpl2⟩
        rw [Int.toNat_natCast] at hn
        obtain ⟨dx, a21, a22⟩ := id a2
        refine ⟨_, rfl, x, dx, _, rfl, a21, aF_no _ _ (by decide +kernel) (by decide +kernel), ?_⟩
        refine ⟨_, rfl, (by show 2 ≤ sizeLine; decide), fun l nl => ?_⟩
        have s3 := sameNew (o := .lst [V.int 4, V.int ((0 : Int) + (n : Int))]) nl
        refine ⟨x, N, l, _, _, [4, (0 : Int) + (n : Int)], rfl, asked_same a2 s3, upd_same, ?_, fun H3 k3 a3 => ?_⟩
        · rw [List.length_append, cntE_len, cnt1_len]
          show 2 * ((cs keys).take j).sum + 2 * n + 2 ≤ 1000000
          omega
        · refine ⟨_, rfl, keepTrans (keepSame k2 s3) k3, ?_, k3 _ _ (s3 _ _ hak2) aak, k3 _ _ (s3 _ _ hpl2) apl⟩
          rw [show (0 : Int) + (n : Int) = (n : Int) by omega] at a3
          rw [List.range_succ, List.flatMap_append, ← List.append_assoc]
          exact a3
      · rintro σ H' ⟨v7, rfl, k2, a2, hak2, hpl2⟩
        rw [Int.toNat_natCast] at a2
        refine ⟨_, _, rfl, k2, ?_, hak2, hpl2⟩
        rw [take_more hc, cntE_app, List.sum_append]
        have e1 : cntE [c] = (List.range c).flatMap fun (j : Nat) => [(4 : Int), (j : Int)] := List.append_nil _
        rw [e1, List.sum_singleton]
        exact a2
    · rintro σ H' ⟨v6, v7, rfl, k1, a1, hak, hpl⟩
      rw [nv_len, List.take_length] at a1
      refine ⟨_, rfl, _, rfl, pl, _, _, _, rfl, rfl, SqL.of hpl, atI_nat (nv_some (kok.pg_lt hi).1), ?_⟩
      exact hq _ k1 a1
theorem scWrite : FnScope ["self", "asked", "page", "row"] ["self", "asked", "page", "row"] (defScope sWrite) := ⟨rfl, rfl, rfl, by decide +kernel, rfl, by decide +kernel, by decide +kernel⟩
theorem ixAt {n j : Nat} (h : j < n) : ixN n (j : Int) = some j := by
  unfold ixN
  rw [if_pos (by omega), if_pos (by omega), Int.toNat_natCast]
theorem ok_write {f : Addr} {fd : FuncData} (F : Fun K "write" "Pages.write" sWrite f fd) (T : Txt K mg CA CP) (mN : Met P w K mg base 1 CA "note" (spNote CA)) : FnOk P w K mg base CX0 2 f fd ["self", "asked", "page", "row"] (spWrite CA CP) := by
  refine F.ok scWrite (fun vs H Q E h => ?_) (fun cdv A outer s H vs Q E hr h => ?_)
  · obtain ⟨a, x, N, r, S, d, m, p, ns, row, rfl, _⟩ := h
    rfl
  · obtain ⟨a, x, N, r, S, d, m, p, ns, row, rfl, hP, hA, hS, hp, hrow, rl, hr0, hn, hq⟩ := h
    refine ⟨_, pss_cons (ps_expr (pe_meth (pv 1) mN.cl mN.me mN.ok (hr.mono (by decide)) mN.bd .nil pass0 (pa_cons (pe_op op_cat (pe_lst (pa_cons (pe_ci T.WRITTEN) (pa_cons (pv 2) pa_nil))) (pv 3)) pa_nil)))
      (pss_one (ps_asg (pv 3) (pg_sub (pe_fld (pv 0) rfl) (pv 2) set_list))), ?_⟩
    obtain ⟨dx, a1, a2⟩ := id hA
    refine ⟨_, rfl, x, dx, _, rfl, a1, aF_no _ _ (by decide +kernel) (by decide +kernel), ?_⟩
    refine ⟨_, rfl, (by show 2 ≤ sizeLine; decide), fun l nl => ?_⟩
    have s1 := sameNew (o := .lst [V.int 2, V.int (p : Int)]) nl
    refine ⟨_, rfl, l, r, _, _, rfl, rfl, upd_same, s1 _ _ hrow, ?_, fun t nt => ?_⟩
    · rw [nv_len, rl]
      exact show 2 + 96 ≤ sizeLine by decide
    have s2 := sameAdd (o := .lst ([V.int 2, V.int (p : Int)] ++ nv row)) s1 nt
    refine ⟨x, N, t, m, ns, [2, (p : Int)] ++ nzs row, rfl, asked_same hA s2, upd_same.trans (by rw [List.map_append, nv_nzs] <;> rfl), ?_, fun H2 k2 as2 => ?_⟩
    · rw [List.length_append, nzs_len, rl]
      show ns.length + (2 + 96) ≤ 1000000
      omega
    have k : Keep (AN x N) H H2 := keepTrans (sameKeep s2) k2
    have hP2 := hP.keepAN hS k
    obtain ⟨dp, R, refs, h1, sa, sR, h2, hl, h3⟩ := hP2.ex
    have hrow2 := k _ _ hrow hr0
    refine ⟨_, rfl, _, rfl, a, CP, dp, _, _, rfl, h1, T.clP, T.nR, pF_rows R, _, rfl, R, _, _, p, rfl, rfl, h2, ?_, ?_⟩
    · rw [List.length_map, hl]
      exact ixAt hp
    have aR : a ≠ R := ne_of h1 h2 (by intro z; cases z)
    have lenNe : ∀ (b : Addr) (u : List Nat), H2 b = some (.lst (nv u)) → u.length = 96 → b ≠ R := fun b u e el => ne_of e h2 (by
      intro z
      have z1 := congrArg List.length (HO.lst.inj z)
      rw [nv_len, List.length_map, hl, el] at z1
      cases z1)
    have rR := lenNe _ _ hrow2 rl
    obtain ⟨dx2, b1, b2⟩ := id as2
    refine hq _ (fun b => S b ∨ b = r) (fun b o e nS nA nr => ⟨(upd_ne (show b ≠ R from fun q => nS (q ▸ sR))).trans (k b o e nA), fun z => z.elim nS nr⟩) ⟨⟨dp, R, refs.set p r, (upd_ne aR).trans h1, .inl sa, .inl sR, ?_, ?_, fun q u e => ?_⟩, fun q hq' => ?_⟩ ⟨dx2, (upd_ne (show x ≠ R from fun q => hS.1 (q ▸ sR))).trans b1, (upd_ne (show N ≠ R from fun q => hS.2 (q ▸ sR))).trans b2⟩
    · rw [upd_same, List.map_set]
    · rw [List.length_set, hl]
    · by_cases c : q = p
      · rw [c, List.getElem?_set_self (by rw [hl]; exact hp)] at e
        have e' := Option.some.inj e
        subst e'
        refine ⟨(upd_ne rR).trans (hrow2.trans ?_), .inr rfl⟩
        rw [wr, if_pos c]
      · rw [List.getElem?_set_ne (fun z => c z.symm)] at e
        obtain ⟨g1, g2⟩ := h3 q u e
        have hq2 : q < 1024 := by
          rw [← hl]
          exact (List.getElem?_eq_some_iff.mp e).1
        refine ⟨(upd_ne (lenNe _ _ g1 (hP.sz q hq2))).trans (g1.trans ?_), .inl g2⟩
        rw [wr, if_neg c]
    · unfold wr
      by_cases c : q = p
      · rw [if_pos c]
        exact rl
      · rw [if_neg c]
        exact hP.sz q hq'
theorem last_row {F : Addr → Prop} {H : Hp} {kp : Addr} {keys : List (List Nat)} (h : RowsAt F H kp keys) (h1 : 1 ≤ keys.length) :
    ∃ (ks : List Addr) (k : Addr), H kp = some (.lst (ks.map V.ref)) ∧ atI (ks.map V.ref) (-1) = some (.ref k) ∧ H k = some (.lst (nv (Ks190.lastKey keys))) ∧ ¬ F k ∧ Ks190.lastKey keys ∈ keys := by
  have e : keys[keys.length - 1]? = some (Ks190.lastKey keys) := by
    unfold Ks190.lastKey
    rw [List.getLast?_eq_getElem?, List.getElem?_eq_getElem (by omega)]
    rfl
  obtain ⟨ks, k, g1, g2, g3, g4, g5⟩ := h.at e
  refine ⟨ks, k, g1, atlast ?_, g4, g5, List.mem_of_getElem? e⟩
  rw [List.getLast?_eq_getElem?, List.length_map, g2]
  exact g3
theorem pageOf_len {k z x : List Nat} (hz : z.length = 16) (hx : x.length = 64) : (Ks190.pageOf G k z x).length = 96 := by
  unfold Ks190.pageOf Ks190.xor Ks190.zeros
  rw [List.length_append, List.length_zipWith, List.length_append, List.length_replicate, hz, hx]
  show 16 + min (16 + 64) ((List.range 80).map (fun i => (3 * k.getD (i % 32) 0 + 5 * z.getD (i % 16) 0 + i) % 256)).length = 96
  rw [List.length_map, List.length_range]
  rfl
theorem cutTo16 (l : List Nat) : cutV (nv l) none (some (16 : Int)) = nv (l.take 16) := (cut_to (nv l) 16).trans (nv_take l 16)
theorem cutTo96 (l : List Nat) : cutV (nv l) none (some (96 : Int)) = nv (l.take 96) := (cut_to (nv l) 96).trans (nv_take l 96)
theorem scPPut : FnScope ["self", "asked", "keys", "i", "data", "script", "page", "salt"] ["self", "asked", "keys", "i", "data", "script"] (defScope sPPut) := ⟨rfl, rfl, rfl, by decide +kernel, rfl, by decide +kernel, by decide +kernel⟩
theorem ok_pPut {f : Addr} {fd : FuncData} (F : Fun K "put" "Pages.put" sPPut f fd) (T : Txt K mg CA CP) (mF : Met P w K mg base 4 CP "find" (spPFind CA)) (mN : Met P w K mg base 1 CA "note" (spNote CA)) (mW : Met P w K mg base 2 CP "write" (spWrite CA CP))
    (cS : Cal P w K mg base 2 "sealed" (spSealed K)) : FnOk P w K mg base CX0 5 f fd ["self", "asked", "keys", "i", "data", "script"] (spPPut CA CP) := by
  refine F.ok scPPut (fun vs H Q E h => ?_) (fun cdv A outer s H vs Q E hr h => ?_)
  · obtain ⟨a, x, N, kp, dt, sc, S, d, i, keys, data, script, rfl, _⟩ := h
    rfl
  · obtain ⟨a, x, N, kp, dt, sc, S, d, i, keys, data, script, rfl, hP, hA, hS, hR, kok, hi, ⟨hd, dl, dn⟩, ⟨hsc, sl, sn⟩, hq⟩ := h
    refine ⟨_, pss_cons (ps_set (i := 6) scPPut.nd rfl (Or.inl rfl) (pe_meth (pv 0) mF.cl mF.me mF.ok (hr.mono (by decide)) mF.bd .nil pass0 (pa_cons (pv 1) (pa_cons (pv 2) (pa_cons (pv 3) pa_nil)))))
      (pss_cons (ps_set (i := 7) scPPut.nd rfl (Or.inl rfl) (pe_slice sl_list (pv 5) po_none (po_some (pe_ci T.SALT_BYTES))))
      (pss_cons (ps_expr (pe_meth (pv 1) mN.cl mN.me mN.ok (hr.mono (by decide)) mN.bd .nil pass0 (pa_cons (pe_lst (pa_cons (pe_ci T.CHANCE) (pa_cons (pe_ci T.SALT_BYTES) pa_nil))) pa_nil)))
      (pss_cons (ps_expr (pe_meth (pv 1) mN.cl mN.me mN.ok (hr.mono (by decide)) mN.bd .nil pass0 (pa_cons (pe_op op_cat (pe_lst (pa_cons (pe_ci T.PAD) pa_nil)) (pv 7)) pa_nil)))
      (pss_one (ps_expr (pe_meth (pv 0) mW.cl mW.me mW.ok (hr.mono (by decide)) mW.bd .nil pass0 (pa_cons (pv 1) (pa_cons (pv 6) (pa_cons (pe_call cS.ok (hr.mono (by decide)) rfl cS.mg cS.kp cS.bd .nil pass0 (pa_cons (pe_ix ix_list (pv 2) (pe_un un_neg pe_int) (fun _ _ => rfl)) (pa_cons (pv 7) (pa_cons (pv 4) pa_nil)))) pa_nil))))))))), ?_⟩
    obtain ⟨dp, R, refs, hpa, sa, _⟩ := hP.ex
    refine ⟨_, rfl, a, dp, _, rfl, hpa, pF_no R (by decide +kernel), _, rfl, _, rfl, _, rfl, _, x, N, kp, i, keys, rfl, hA, hR, kok, hi, fun H1 k1 A1 => ?_⟩
    refine ⟨_, rfl, _, rfl, sc, _, rfl, SqL.of (k1 _ _ hsc sn), fun z nz => ?_⟩
    have nzA := asked_ne A1 nz
    have hz : (upd H1 z (.lst (cutV (nv script) none (some (16 : Int))))) z = some (.lst (nv script)) := by
      rw [upd_same, cutTo16, List.take_of_length_le (by omega)]
    have s2 := sameNew (o := .lst (cutV (nv script) none (some (16 : Int)))) nz
    have k2 := keepSame k1 s2
    have A2 := asked_same A1 s2
    generalize upd H1 z (.lst (cutV (nv script) none (some (16 : Int)))) = H2 at hz k2 A2
    obtain ⟨d2, a21, _⟩ := id A2
    refine ⟨_, rfl, x, d2, _, rfl, a21, aF_no _ _ (by decide +kernel) (by decide +kernel), (by show 2 ≤ sizeLine; decide), fun l nl => ?_⟩
    have s3 := sameNew (o := .lst [V.int 3, V.int 16]) nl
    have csl := kok.sum_le
    refine ⟨x, N, l, _, _, [3, 16], rfl, asked_same A2 s3, upd_same, ?_, fun H3 k3 A3 => ?_⟩
    · rw [cntE_len]
      show 2 * (cs keys).sum + 2 ≤ 1000000
      omega
    have kz3 : H3 z = some (.lst (nv script)) := k3 _ _ (s3 _ _ hz) nzA
    have k03 := keepTrans (keepSame k2 s3) k3
    obtain ⟨d3, a31, _⟩ := id A3
    refine ⟨_, rfl, x, d3, _, rfl, a31, aF_no _ _ (by decide +kernel) (by decide +kernel), (by show 1 ≤ sizeLine; decide), fun l2 nl2 => ?_⟩
    have s4 := sameNew (o := .lst [V.int 5]) nl2
    refine ⟨_, rfl, l2, z, _, _, rfl, rfl, upd_same, s4 _ _ kz3, ?_, fun l3 nl3 => ?_⟩
    · rw [nv_len, sl]
      exact show 1 + 16 ≤ sizeLine by decide
    have s5 := sameAdd (o := .lst ([V.int 5] ++ nv script)) s4 nl3
    refine ⟨x, N, l3, _, _, [5] ++ nzs script, rfl, asked_same A3 s5, upd_same.trans (by rw [List.map_append, nv_nzs] <;> rfl), ?_, fun H4 k4 A4 => ?_⟩
    · rw [List.length_append, List.length_append, cntE_len, nzs_len, sl]
      show 2 * (cs keys).sum + 2 + (1 + 16) ≤ 1000000
      omega
    have kz4 : H4 z = some (.lst (nv script)) := k4 _ _ (s5 _ _ kz3) nzA
    have k04 := keepTrans (keepSame k03 s5) k4
    have hP4 := hP.keepAN hS k04
    obtain ⟨dp4, R4, refs4, hpa4, _, _⟩ := hP4.ex
    obtain ⟨ks, kk, g1, g2, g3, g4, g5⟩ := last_row (hR.keep k04) kok.one
    refine ⟨_, rfl, a, dp4, _, rfl, hpa4, pF_no R4 (by decide +kernel), _, rfl, _, rfl, _, rfl, _, rfl, kp, _, _, _, rfl, rfl, SqL.of g1, g2, _, rfl, _, rfl, kk, z, dt, _, _, _, rfl, SqL.of g3, kz4, k04 _ _ hd dn, (kok.all _ g5).1, sl, dl, fun H5 r s6 nr hr5 => ?_⟩
    have k05 := keepSame k04 s6
    refine ⟨a, x, N, r, S, d, _, pgOf keys i, _, _, rfl, hP.keepAN hS k05, asked_same A4 s6, hS, (kok.pg_lt hi).2, hr5, pageOf_len sl dl, asked_ne A4 nr, ?_, fun H6 S' fr hP6 A6 => ?_⟩
    · rw [List.length_append, List.length_append, List.length_append, cntE_len, nzs_len, sl]
      show 2 * (cs keys).sum + 2 + (1 + 16) ≤ 100000
      omega
    · refine hq _ S' (fun b o e nS nA => ?_) hP6 A6
      have e4 := k04 b o e nA
      exact fr b o (s6 _ _ e4) nS nA (ne_of_none e4 nr)
theorem scPDrop : FnScope ["self", "asked", "keys", "i", "script", "page"] ["self", "asked", "keys", "i", "script"] (defScope sPDrop) := ⟨rfl, rfl, rfl, by decide +kernel, rfl, by decide +kernel, by decide +kernel⟩
theorem ok_pDrop {f : Addr} {fd : FuncData} (F : Fun K "drop" "Pages.drop" sPDrop f fd) (T : Txt K mg CA CP) (mF : Met P w K mg base 4 CP "find" (spPFind CA)) (mN : Met P w K mg base 1 CA "note" (spNote CA)) (mW : Met P w K mg base 2 CP "write" (spWrite CA CP)) :
    FnOk P w K mg base CX0 5 f fd ["self", "asked", "keys", "i", "script"] (spPDrop CA CP) := by
  refine F.ok scPDrop (fun vs H Q E h => ?_) (fun cdv A outer s H vs Q E hr h => ?_)
  · obtain ⟨a, x, N, kp, sc, S, d, i, keys, script, rfl, _⟩ := h
    rfl
  · obtain ⟨a, x, N, kp, sc, S, d, i, keys, script, rfl, hP, hA, hS, hR, kok, hi, ⟨hsc, sl, sn⟩, hq⟩ := h
    refine ⟨_, pss_cons (ps_set (i := 5) scPDrop.nd rfl (Or.inl rfl) (pe_meth (pv 0) mF.cl mF.me mF.ok (hr.mono (by decide)) mF.bd .nil pass0 (pa_cons (pv 1) (pa_cons (pv 2) (pa_cons (pv 3) pa_nil)))))
      (pss_cons (ps_expr (pe_meth (pv 1) mN.cl mN.me mN.ok (hr.mono (by decide)) mN.bd .nil pass0 (pa_cons (pe_lst (pa_cons (pe_ci T.CHANCE) (pa_cons (pe_ci T.PAGE_BYTES) pa_nil))) pa_nil)))
      (pss_one (ps_expr (pe_meth (pv 0) mW.cl mW.me mW.ok (hr.mono (by decide)) mW.bd .nil pass0 (pa_cons (pv 1) (pa_cons (pv 5) (pa_cons (pe_slice sl_list (pv 4) po_none (po_some (pe_ci T.PAGE_BYTES))) pa_nil))))))), ?_⟩
    obtain ⟨dp, R, refs, hpa, sa, _⟩ := hP.ex
    refine ⟨_, rfl, a, dp, _, rfl, hpa, pF_no R (by decide +kernel), _, rfl, _, rfl, _, rfl, _, x, N, kp, i, keys, rfl, hA, hR, kok, hi, fun H1 k1 A1 => ?_⟩
    obtain ⟨d2, a21, _⟩ := id A1
    refine ⟨_, rfl, x, d2, _, rfl, a21, aF_no _ _ (by decide +kernel) (by decide +kernel), (by show 2 ≤ sizeLine; decide), fun l nl => ?_⟩
    have s3 := sameNew (o := .lst [V.int 3, V.int 96]) nl
    have csl := kok.sum_le
    refine ⟨x, N, l, _, _, [3, 96], rfl, asked_same A1 s3, upd_same, ?_, fun H3 k3 A3 => ?_⟩
    · rw [cntE_len]
      show 2 * (cs keys).sum + 2 ≤ 1000000
      omega
    have k03 := keepTrans (keepSame k1 s3) k3
    have hP3 := hP.keepAN hS k03
    obtain ⟨dp3, R3, refs3, hpa3, _, _⟩ := hP3.ex
    refine ⟨_, rfl, a, dp3, _, rfl, hpa3, pF_no R3 (by decide +kernel), _, rfl, _, rfl, _, rfl, _, rfl, sc, _, rfl, SqL.of (k03 _ _ hsc sn), fun r nr => ?_⟩
    have s6 := sameNew (o := .lst (cutV (nv script) none (some (96 : Int)))) nr
    have k05 := keepSame k03 s6
    refine ⟨a, x, N, r, S, d, _, pgOf keys i, _, script, rfl, hP.keepAN hS k05, asked_same A3 s6, hS, (kok.pg_lt hi).2, ?_, sl, asked_ne A3 nr, ?_, fun H6 S' fr hP6 A6 => ?_⟩
    · rw [upd_same, cutTo96, List.take_of_length_le (by omega)]
    · rw [List.length_append, cntE_len]
      show 2 * (cs keys).sum + 2 ≤ 100000
      omega
    · refine hq _ S' (fun b o e nS nA => ?_) hP6 A6
      have e4 := k03 b o e nA
      exact fr b o (s6 _ _ e4) nS nA (ne_of_none e4 nr)
theorem scPGet : FnScope ["self", "asked", "keys", "i", "page", "row"] ["self", "asked", "keys", "i"] (defScope sPGet) := ⟨rfl, rfl, rfl, by decide +kernel, rfl, by decide +kernel, by decide +kernel⟩
theorem ok_pGet {f : Addr} {fd : FuncData} (F : Fun K "get" "Pages.get" sPGet f fd) (T : Txt K mg CA CP) (mF : Met P w K mg base 4 CP "find" (spPFind CA)) (mN : Met P w K mg base 1 CA "note" (spNote CA)) (mP : Met P w K mg base 1 CP "page" (spPage CP))
    (cO : Cal P w K mg base 2 "opened" (spOpened K)) : FnOk P w K mg base CX0 5 f fd ["self", "asked", "keys", "i"] (spPGet CA CP) := by
  refine F.ok scPGet (fun vs H Q E h => ?_) (fun cdv A outer s H vs Q E hr h => ?_)
  · obtain ⟨a, x, N, kp, S, d, i, keys, rfl, _⟩ := h
    rfl
  · obtain ⟨a, x, N, kp, S, d, i, keys, rfl, hP, hA, hS, hR, kok, hi, hq⟩ := h
    refine ⟨_, pss_cons (ps_set (i := 4) scPGet.nd rfl (Or.inl rfl) (pe_meth (pv 0) mF.cl mF.me mF.ok (hr.mono (by decide)) mF.bd .nil pass0 (pa_cons (pv 1) (pa_cons (pv 2) (pa_cons (pv 3) pa_nil)))))
      (pss_cons (ps_set (i := 5) scPGet.nd rfl (Or.inl rfl) (pe_meth (pv 0) mP.cl mP.me mP.ok (hr.mono (by decide)) mP.bd .nil pass0 (pa_cons (pv 4) pa_nil)))
      (pss_cons (ps_expr (pe_meth (pv 1) mN.cl mN.me mN.ok (hr.mono (by decide)) mN.bd .nil pass0 (pa_cons (pe_lst (pa_cons (pe_ci T.READ) (pa_cons (pv 4) pa_nil))) pa_nil)))
      (pss_cons (ps_expr (pe_meth (pv 1) mN.cl mN.me mN.ok (hr.mono (by decide)) mN.bd .nil pass0 (pa_cons (pe_op op_cat (pe_lst (pa_cons (pe_ci T.PAD) pa_nil)) (pe_slice sl_list (pv 5) po_none (po_some (pe_ci T.SALT_BYTES)))) pa_nil)))
      (pss_one (ps_ret (pe_call cO.ok (hr.mono (by decide)) rfl cO.mg cO.kp cO.bd .nil pass0 (pa_cons (pe_ix ix_list (pv 2) (pe_un un_neg pe_int) (fun _ _ => rfl)) (pa_cons (pv 5) pa_nil)))))))), ?_⟩
    obtain ⟨dp, R, refs, hpa, sa, _⟩ := hP.ex
    refine ⟨_, rfl, a, dp, _, rfl, hpa, pF_no R (by decide +kernel), _, rfl, _, rfl, _, rfl, _, x, N, kp, i, keys, rfl, hA, hR, kok, hi, fun H1 k1 A1 => ?_⟩
    have hP1 := hP.keepAN hS k1
    have pl := (kok.pg_lt hi).2
    obtain ⟨dp1, R1, refs1, hpa1, _, _⟩ := hP1.ex
    refine ⟨_, rfl, a, dp1, _, rfl, hpa1, pF_no R1 (by decide +kernel), _, rfl, a, S, d, pgOf keys i, rfl, hP1, fun H2 z s2 nz hz => ?_⟩
    rw [Nat.mod_eq_of_lt pl] at hz
    have rl := hP.sz _ pl
    generalize d (pgOf keys i) = row at hq hz rl
    have nzA := asked_ne A1 nz
    have k2 := keepSame k1 s2
    have A2 := asked_same A1 s2
    obtain ⟨d2, a21, _⟩ := id A2
    refine ⟨_, rfl, x, d2, _, rfl, a21, aF_no _ _ (by decide +kernel) (by decide +kernel), _, rfl, (by show 2 ≤ sizeLine; decide), fun l nl => ?_⟩
    have s3 := sameNew (o := .lst [V.int 1, V.int ((pgOf keys i : Nat) : Int)]) nl
    have csl := kok.sum_le
    refine ⟨x, N, l, _, _, [1, ((pgOf keys i : Nat) : Int)], rfl, asked_same A2 s3, upd_same, ?_, fun H3 k3 A3 => ?_⟩
    · rw [cntE_len]
      show 2 * (cs keys).sum + 2 ≤ 1000000
      omega
    have kz3 : H3 z = some (.lst (nv row)) := k3 _ _ (s3 _ _ hz) nzA
    have k03 := keepTrans (keepSame k2 s3) k3
    obtain ⟨d3, a31, _⟩ := id A3
    refine ⟨_, rfl, x, d3, _, rfl, a31, aF_no _ _ (by decide +kernel) (by decide +kernel), (by show 1 ≤ sizeLine; decide), fun l2 nl2 => ?_⟩
    have s4 := sameNew (o := .lst [V.int 5]) nl2
    refine ⟨_, rfl, _, rfl, z, _, rfl, SqL.of (s4 _ _ kz3), fun l4 nl4 => ?_⟩
    have s45 := sameNew (o := .lst (cutV (nv row) none (some (16 : Int)))) nl4
    have hl4 : (upd (upd H3 l2 (.lst [V.int 5])) l4 (.lst (cutV (nv row) none (some (16 : Int))))) l4 = some (.lst (nv (row.take 16))) := by rw [upd_same, cutTo16]
    have hl2 := s45 _ _ (upd_same (H := H3) (a := l2) (o := .lst [V.int 5]))
    have s46 := s4.trans s45
    generalize upd (upd H3 l2 (.lst [V.int 5])) l4 (.lst (cutV (nv row) none (some (16 : Int)))) = H34 at hl4 hl2 s46
    have t16 : (row.take 16).length = 16 := by
      rw [List.length_take]
      omega
    refine ⟨l2, l4, _, _, rfl, rfl, hl2, hl4, ?_, fun l3 nl3 => ?_⟩
    · rw [nv_len, t16]
      exact show 1 + 16 ≤ sizeLine by decide
    have s5 := sameAdd (o := .lst ([V.int 5] ++ nv (row.take 16))) s46 nl3
    refine ⟨x, N, l3, _, _, [5] ++ nzs (row.take 16), rfl, asked_same A3 s5, upd_same.trans (by rw [List.map_append, nv_nzs] <;> rfl), ?_, fun H4 k4 A4 => ?_⟩
    · rw [List.length_append, List.length_append, cntE_len, nzs_len, t16]
      show 2 * (cs keys).sum + 2 + (1 + 16) ≤ 1000000
      omega
    have kz4 : H4 z = some (.lst (nv row)) := k4 _ _ (s5 _ _ kz3) nzA
    have k04 := keepTrans (keepSame k03 s5) k4
    obtain ⟨ks, kk, g1, g2, g3, g4, g5⟩ := last_row (hR.keep k04) kok.one
    refine ⟨_, rfl, _, rfl, kp, _, _, _, rfl, rfl, SqL.of g1, g2, _, rfl, kk, z, _, row, rfl, SqL.of g3, SqL.of kz4, (kok.all _ g5).1, rl, fun e H5 s6 => ?_, fun y e H5 p s6 np hp => ?_⟩
    · refine hq _ _ (keepSame k04 s6) (asked_same A4 s6) ?_
      rw [e]
    · refine hq _ _ (keepSame k04 s6) (asked_same A4 s6) ?_
      rw [e]
      exact ⟨p, rfl, hp⟩
end
end Hd
namespace Hd
open PySem PySem.Spec PyProof.Rows L2
open Ks190 (Medium)
section
variable {P : Program} {w : World} {K : PySem.W.Frag} {mg : Str → Option Value} {base : Heap} {CA CP : Addr}
end
/-! ### the list of calls, read -/
abbrev shape := PyKs190.shape
theorem shape_is {p : Int} {n k : Nat} (h : shape p = some (n, k)) : n = 1 ∧ ((p = 0 ∧ k = 0) ∨ (p = 1 ∧ k = 3) ∨ (p = 2 ∧ k = 1) ∨ (p = 3 ∧ k = 2) ∨ (p = 4 ∧ k = 0)) := by
  unfold shape PyKs190.shape at h
  by_cases c0 : p = 0
  · rw [if_pos c0] at h
    cases h
    exact ⟨rfl, .inl ⟨c0, rfl⟩⟩
  rw [if_neg c0] at h
  by_cases c1 : p = 1
  · rw [if_pos c1] at h
    cases h
    exact ⟨rfl, .inr (.inl ⟨c1, rfl⟩)⟩
  rw [if_neg c1] at h
  by_cases c2 : p = 2
  · rw [if_pos c2] at h
    cases h
    exact ⟨rfl, .inr (.inr (.inl ⟨c2, rfl⟩))⟩
  rw [if_neg c2] at h
  by_cases c3 : p = 3
  · rw [if_pos c3] at h
    cases h
    exact ⟨rfl, .inr (.inr (.inr (.inl ⟨c3, rfl⟩)))⟩
  rw [if_neg c3] at h
  by_cases c4 : p = 4
  · rw [if_pos c4] at h
    cases h
    exact ⟨rfl, .inr (.inr (.inr (.inr ⟨c4, rfl⟩)))⟩
  rw [if_neg c4] at h
  cases h
theorem row_split {l x s : List Int} (h : PyFlat.row l = some (x, s)) : ∃ (n : Nat) (r : List Int), l = (n : Int) :: r ∧ n ≤ r.length ∧ x = r.take n ∧ s = r.drop n := by
  cases l with
  | nil => cases h
  | cons z r =>
    have h' : (if 0 ≤ z ∧ z.toNat ≤ r.length then some (r.take z.toNat, r.drop z.toNat) else none) = some (x, s) := h
    by_cases c : 0 ≤ z ∧ z.toNat ≤ r.length
    · rw [if_pos c] at h'
      have e := Option.some.inj h'
      exact ⟨z.toNat, r, by rw [Int.toNat_of_nonneg c.1], c.2, (congrArg Prod.fst e).symm, (congrArg Prod.snd e).symm⟩
    · rw [if_neg c] at h'
      cases h'
theorem rows_split {k : Nat} {l t : List Int} {xs : List (List Int)} (h : PyFlat.rows (k + 1) l = some (xs, t)) : ∃ x s ys, PyFlat.row l = some (x, s) ∧ PyFlat.rows k s = some (ys, t) ∧ xs = x :: ys := by
  unfold PyFlat.rows at h
  cases e : PyFlat.row l with
  | none =>
    rw [e] at h
    cases h
  | some xs1 =>
    obtain ⟨x, s⟩ := xs1
    rw [e] at h
    cases e2 : PyFlat.rows k s with
    | none =>
      simp only [e2] at h
      cases h
    | some ys1 =>
      obtain ⟨ys, t'⟩ := ys1
      simp only [e2] at h
      have e3 := Option.some.inj h
      have e4 : x :: ys = xs := congrArg Prod.fst e3
      have e5 : t' = t := congrArg Prod.snd e3
      subst e5
      exact ⟨x, s, ys, rfl, e2, e4.symm⟩
theorem rows_len : ∀ (k : Nat) (l t : List Int) (xs : List (List Int)), PyFlat.rows k l = some (xs, t) → xs.length = k ∧ t.length ≤ l.length
  | 0, l, t, xs, h => by
    have e := Option.some.inj (show some (([] : List (List Int)), l) = some (xs, t) from h)
    have e1 : [] = xs := congrArg Prod.fst e
    have e2 : l = t := congrArg Prod.snd e
    subst e1 e2
    exact ⟨rfl, Nat.le_refl _⟩
  | k + 1, l, t, xs, h => by
    obtain ⟨x, s, ys, h1, h2, rfl⟩ := rows_split h
    obtain ⟨n, r, rfl, hn, rfl, rfl⟩ := row_split h1
    obtain ⟨i1, i2⟩ := rows_len k _ t ys h2
    refine ⟨by rw [List.length_cons, i1], ?_⟩
    rw [List.length_drop] at i2
    rw [List.length_cons]
    omega
/-- one call read off -/
theorem calls_split {f : Nat} {p : Int} {r : List Int} {cs : List (List (List Int))} (h : PyFlat.calls shape f (p :: r) = some cs) :
    ∃ (f' : Nat) (z : Int) (r' : List Int) (k : Nat) (xs : List (List Int)) (t : List Int) (cs' : List (List (List Int))), shape p = some (1, k) ∧ r = z :: r' ∧ PyFlat.rows k r' = some (xs, t) ∧ PyFlat.calls shape f' t = some cs' ∧ cs = ([p, z] :: xs) :: cs' := by
  cases f with
  | zero => cases h
  | succ f =>
    unfold PyFlat.calls at h
    cases e : PyFlat.call shape (p :: r) with
    | none =>
      rw [e] at h
      cases h
    | some ct =>
      obtain ⟨c, t⟩ := ct
      simp only [e] at h
      cases e2 : PyFlat.calls shape f t with
      | none =>
        simp only [e2] at h
        cases h
      | some cs' =>
        simp only [e2] at h
        have hcs := Option.some.inj h
        unfold PyFlat.call at e
        cases es : shape p with
        | none =>
          simp only [es] at e
          cases e
        | some nk =>
          obtain ⟨n, k⟩ := nk
          simp only [es] at e
          obtain ⟨rfl, _⟩ := shape_is es
          by_cases c0 : r.length < 1
          · rw [if_pos c0] at e
            cases e
          rw [if_neg c0] at e
          cases r with
          | nil => exact absurd (show 0 < 1 by decide) c0
          | cons z r' =>
            cases e3 : PyFlat.rows k ((z :: r').drop 1) with
            | none =>
              simp only [e3] at e
              cases e
            | some xt =>
              obtain ⟨xs, t'⟩ := xt
              simp only [e3] at e
              have e4 := Option.some.inj e
              have e5 : (p :: (z :: r').take 1) :: xs = c := congrArg Prod.fst e4
              have e6 : t' = t := congrArg Prod.snd e4
              subst e6
              exact ⟨f, z, r', k, xs, t', cs', rfl, rfl, e3, e2, by rw [← hcs, ← e5]; rfl⟩
theorem whole_id (c : List (List Int)) : PyKs190.whole c = c := by
  unfold PyKs190.whole
  split <;> rfl
theorem whole_map (cs : List (List (List Int))) : cs.map PyKs190.whole = cs := by
  rw [show PyKs190.whole = id from funext whole_id, List.map_id]
/-! ### what is asked of one call -/
theorem within_is {lo hi z : Int} (h : PyInside.within lo hi z = true) : lo ≤ z ∧ z ≤ hi := by
  unfold PyInside.within at h
  simpa using h
theorem bytes_is {l : List Int} (h : l.all (PyInside.within 0 255) = true) : ∃ b : List Nat, l = nzs b ∧ ∀ y ∈ b, y < 256 := by
  have hz : ∀ z ∈ l, 0 ≤ z ∧ z ≤ 255 := fun z hz => within_is (List.all_eq_true.mp h z hz)
  refine ⟨l.map Int.toNat, nzs_of fun z q => (hz z q).1, fun y hy => ?_⟩
  obtain ⟨z, q, rfl⟩ := List.mem_map.mp hy
  have := hz z q
  omega
theorem num_is {z : Int} (h : PyInside.each [(0, 4294967295)] [z] = true) : ∃ n : Nat, z = (n : Int) := by
  have h' : (PyInside.within 0 4294967295 z && true) = true := h
  rw [Bool.and_true] at h'
  have := (within_is h').1
  exact ⟨z.toNat, (Int.toNat_of_nonneg this).symm⟩
/-- one list of a call within its bounds -/
theorem list_is {least most : Nat} {r : List Int} {b : List (Int × Int × Nat × Nat)} {rs : List (List Int)} (h : PyInside.lists ((0, 255, least, most) :: b) (r :: rs) = true) :
    (∃ l : List Nat, r = nzs l ∧ (∀ y ∈ l, y < 256) ∧ least ≤ l.length ∧ l.length ≤ most) ∧ PyInside.lists b rs = true := by
  have h' : (decide (least ≤ r.length) && decide (r.length ≤ most) && r.all (PyInside.within 0 255) && PyInside.lists b rs) = true := h
  simp only [Bool.and_eq_true, decide_eq_true_eq] at h'
  obtain ⟨⟨⟨h1, h2⟩, h3⟩, h4⟩ := h'
  obtain ⟨l, e, hl⟩ := bytes_is h3
  refine ⟨⟨l, e, hl, ?_, ?_⟩, h4⟩
  · rw [e, nzs_len] at h1
    exact h1
  · rw [e, nzs_len] at h2
    exact h2
theorem len1 {α : Type} {l : List α} (h : l.length = 1) : ∃ a, l = [a] := List.length_eq_one_iff.mp h
theorem len2 {α : Type} {l : List α} (h : l.length = 2) : ∃ a b, l = [a, b] := by
  match l, h with
  | [a, b], _ => exact ⟨a, b, rfl⟩
theorem len3 {α : Type} {l : List α} (h : l.length = 3) : ∃ a b c, l = [a, b, c] := by
  match l, h with
  | [a, b, c], _ => exact ⟨a, b, c, rfl⟩
theorem good_chain {n : Nat} {b : List Nat} (h : Good n b) : Ks190Neutral.chain b = some (chunks b) := chain_some h.1
theorem call_ok {s : Medium} {p z : Int} {k : Nat} {xs : List (List Int)} (hs : shape p = some (1, k)) (hl : xs.length = k) (hb : PyInside.call PyKs190.bound ([p, z] :: xs) = true) (hg : Ks190Neutral.scripted s ([p, z] :: xs) = true) :
    ∃ (n : Nat) (rows : List (List Nat)), z = (n : Int) ∧ xs = rows.map nzs ∧ CallOk p n rows := by
  have hb' : (PyInside.each (PyKs190.bound p).1 [z] && PyInside.lists (PyKs190.bound p).2 xs) = true := hb
  rw [Bool.and_eq_true] at hb'
  obtain ⟨hb1, hb2⟩ := hb'
  rcases (shape_is hs).2 with ⟨rfl, rfl⟩ | ⟨rfl, rfl⟩ | ⟨rfl, rfl⟩ | ⟨rfl, rfl⟩ | ⟨rfl, rfl⟩
  · obtain ⟨n, rfl⟩ := num_is hb1
    obtain rfl := List.length_eq_zero_iff.mp hl
    exact ⟨n, [], rfl, rfl, .fresh n⟩
  · obtain ⟨n, rfl⟩ := num_is hb1
    obtain ⟨x1, x2, x3, rfl⟩ := len3 hl
    have hb2' : PyInside.lists [(0, 255, 0, 1000), (0, 255, 64, 64), (0, 255, 0, 16)] [x1, x2, x3] = true := hb2
    obtain ⟨⟨b, rfl, b1, _, b2⟩, r1⟩ := list_is hb2'
    obtain ⟨⟨x, rfl, _, d1, d2⟩, r2⟩ := list_is r1
    obtain ⟨⟨sc, rfl, _, _, _⟩, _⟩ := list_is r2
    refine ⟨n, [b, x, sc], rfl, rfl, .put ⟨b1, b2, by omega, fun good => ?_⟩⟩
    have hg' : ((Ks190Neutral.script [[1, (n : Int)], nzs b, nzs x, nzs sc]).length == (Ks190.sizes (Ks190Neutral.callOf [[1, (n : Int)], nzs b, nzs x, nzs sc])).foldl (· + ·) 0) = true := hg
    rw [script_put, call_put, good_chain good] at hg'
    have e : Ks190.sizes (.put (some (chunks b)) n x) = [16] := if_pos good.2
    rw [e] at hg'
    exact beq_iff_eq.mp hg'
  · obtain ⟨n, rfl⟩ := num_is hb1
    obtain ⟨x1, rfl⟩ := len1 hl
    have hb2' : PyInside.lists [(0, 255, 0, 1000)] [x1] = true := hb2
    obtain ⟨⟨b, rfl, b1, _, b2⟩, _⟩ := list_is hb2'
    exact ⟨n, [b], rfl, rfl, .get ⟨b1, b2⟩⟩
  · obtain ⟨n, rfl⟩ := num_is hb1
    obtain ⟨x1, x2, rfl⟩ := len2 hl
    have hb2' : PyInside.lists [(0, 255, 0, 1000), (0, 255, 0, 96)] [x1, x2] = true := hb2
    obtain ⟨⟨b, rfl, b1, _, b2⟩, r1⟩ := list_is hb2'
    obtain ⟨⟨sc, rfl, _, _, _⟩, _⟩ := list_is r1
    refine ⟨n, [b, sc], rfl, rfl, .drop ⟨b1, b2, fun good => ?_⟩⟩
    have hg' : ((Ks190Neutral.script [[3, (n : Int)], nzs b, nzs sc]).length == (Ks190.sizes (Ks190Neutral.callOf [[3, (n : Int)], nzs b, nzs sc])).foldl (· + ·) 0) = true := hg
    rw [script_drop, call_drop, good_chain good] at hg'
    have e : Ks190.sizes (.drop (some (chunks b)) n) = [96] := if_pos good.2
    rw [e] at hg'
    exact beq_iff_eq.mp hg'
  · obtain ⟨n, rfl⟩ := num_is hb1
    obtain rfl := List.length_eq_zero_iff.mp hl
    exact ⟨n, [], rfl, rfl, .page n⟩
/-- what is asked of the rest of a line, from a state -/
structure Rest (s : Medium) (cs : List (List (List Int))) : Prop where
  goes : Ks190Neutral.goes s cs = true
  inside : PyInside.calls PyKs190.bound cs = true
theorem Rest.head {s : Medium} {c : List (List Int)} {cs : List (List (List Int))} (h : Rest s (c :: cs)) : Ks190Neutral.scripted s c = true ∧ PyInside.call PyKs190.bound c = true ∧ Rest (step s c).1 cs := by
  have h1 : (Ks190Neutral.form c && Ks190Neutral.scripted s c && Ks190Neutral.goes (Ks190Neutral.step s c).1 cs) = true := h.goes
  have h2 : (PyInside.call PyKs190.bound c && PyInside.calls PyKs190.bound cs) = true := h.inside
  simp only [Bool.and_eq_true] at h1 h2
  exact ⟨h1.1.2, h2.1, h1.2, h2.2⟩
/-- what a line answers from a state -/
def says (s : Medium) (cs : List (List (List Int))) : List Int := PyFlat.told (PyFlat.played Ks190Neutral.step s cs)
theorem says_cons (s : Medium) (c : List (List Int)) (cs : List (List (List Int))) : says s (c :: cs) = ((step s c).2.length : Int) :: ((step s c).2 ++ says (step s c).1 cs) := rfl
theorem line_is {ns : List Int} (h : PyKs190.answers_asked ns = true) : ∃ cs, PyFlat.calls shape ns.length ns = some cs ∧ Rest Ks190Neutral.start cs ∧ PyKs190.answers ns = says Ks190Neutral.start cs ∧ (PyKs190.answers ns).length ≤ 10000000 := by
  unfold PyKs190.answers_asked at h
  cases e : PyFlat.calls PyKs190.shape ns.length ns with
  | none =>
    rw [e] at h
    cases h
  | some cs =>
    simp only [e, whole_map, Bool.and_eq_true] at h
    obtain ⟨⟨⟨_, h2⟩, h3⟩, h4⟩ := h
    unfold Ks190Neutral.asked at h3
    simp only [Bool.and_eq_true] at h3
    refine ⟨cs, rfl, ⟨h3.1.2, h2⟩, ?_, ?_⟩
    · unfold PyKs190.answers PyKs190.calls
      simp only [e, whole_map]
      rfl
    · unfold PyFlat.short at h4
      exact of_decide_eq_true h4
section
end
end Hd
namespace Hd
open PySem PySem.Spec PyProof.Rows L2
open Ks190 (Medium)
section
variable {P : Program} {w : World} {K : PySem.W.Frag} {mg : Str → Option Value} {base : Heap} {CA CP : Addr}
theorem PagesAt.same {S : Addr → Prop} {H H' : Hp} {a : Addr} {d : Medium} (h : PagesAt CP S H a d) (s : Same H H') : PagesAt CP S H' a d := h.keep fun b o e _ => s b o e
/-- what [c] + asked.told() asks -/
theorem told_end {H : Hp} {x N : Addr} {m : Nat} {ns : List Int} {c : Int} {Q : VK} {σ : L2.St} (hA : AskedAt CA H x N m ns) (hn : ns.length ≤ 900000) (hσ : σ[3]? = some (some (.ref x)))
    (hQ : ∀ (H' : Hp) (q : Addr), Same H H' → H q = none → H' q = some (.lst ((c :: told m ns).map V.int)) → Q (.ref q) H') :
    tOp rCat (tLst (tCons (tC (.int c)) tNil)) (tMeth CA "told" (spTold CA) [] E0 (tVar 3) tNil) σ H Q := by
  refine ⟨(by show 1 ≤ sizeLine; decide), fun l nl => ?_⟩
  have s1 := sameNew (o := .lst [V.int c]) nl
  obtain ⟨dx, a1, _⟩ := asked_same hA s1
  refine ⟨_, hσ, x, dx, _, rfl, a1, aF_no _ _ (by decide +kernel) (by decide +kernel), x, N, m, ns, rfl, asked_same hA s1, Nat.le_trans hn (by decide), fun H2 p s2 np hp => ?_⟩
  refine ⟨l, p, _, _, rfl, rfl, s2 _ _ upd_same, hp, ?_, fun q nq => ?_⟩
  · rw [List.length_map, told, List.length_cons]
    exact Nat.le_trans (show 1 + (ns.length + 1) ≤ 900002 by omega) (by decide)
  · have s12 := s1.trans s2
    exact hQ _ q (sameAdd s12 nq) (s12.free nq) upd_same
theorem trk_none {H : Hp} {S : Addr → Prop} (hS : ∀ z, S z → Trk H z) {b : Addr} (h : H b = none) : ¬ S b := fun q => not_trk h (hS b q)
theorem goodKeys {i : Nat} {b : List Nat} (hb : ∀ y ∈ b, y < 256) (h : Good i b) : KeysOk (chunks b) := ⟨fun k hk => chunk_ok hb hk, h.1.1, h.1.2⟩
theorem rowsLen {F : Addr → Prop} {H : Hp} {p : Addr} {rows : List (List Nat)} (h : RowsAt F H p rows) : ∃ ks : List Addr, H p = some (.lst (ks.map V.ref)) ∧ (ks.map V.ref).length = rows.length := by
  obtain ⟨ks, h1, h2, _⟩ := h.ex
  exact ⟨ks, h1, by rw [List.length_map, h2]⟩
/-- the first three lines of each: the object, the keys, the test -/
structure Begun (CA : Addr) (H H2 : Hp) (x N kp : Addr) (b : List Nat) : Prop where
  same : Same H H2
  asked : AskedAt CA H2 x N 0 []
  new : H x = none ∧ H N = none
  keys : RowsAt (AN x N) H2 kp (chunks b)
theorem begun_no {H H2 : Hp} {x N kp b' : Addr} {b : List Nat} (B : Begun CA H H2 x N kp b) {o : HO} (h : H b' = some o) : ¬ AN x N b' := by
  rintro (e | e)
  · rw [e, B.new.1] at h
    cases h
  · rw [e, B.new.2] at h
    cases h
/-- making the object -/
theorem made {H H1 : Hp} {x dx N : Addr} (nx : H x = none) (ndx : H dx = none) (nN : (upd (upd H dx (.own x)) x (.ins CA dx [])) N = none) (hk : Keep (· = x) (upd (upd H dx (.own x)) x (.ins CA dx [])) H1) : Same H H1 ∧ H N = none := by
  refine ⟨Same.made nx ndx hk, ?_⟩
  have s0 : Same H (upd (upd H dx (.own x)) x (.ins CA dx [])) := fun b o e => by
    rw [upd_ne (ne_of_none e nx), upd_ne (ne_of_none e ndx)]
    exact e
  exact s0.free nN
theorem begun {H H1 H2 : Hp} {x N kp : Addr} {b : List Nat} (s1 : Same H H1) (nx : H x = none) (nN : H N = none) (hA : AskedAt CA H1 x N 0 []) (s2 : Same H1 H2) (hK : RowsAt (Trk H1) H2 kp (chunks b)) : Begun CA H H2 x N kp b := by
  refine ⟨s1.trans s2, asked_same hA s2, ⟨nx, nN⟩, hK.mono fun z hz => ?_⟩
  obtain ⟨d, h1, h2⟩ := hA
  rcases hz with e | e
  · exact ⟨_, e ▸ h1⟩
  · exact ⟨_, e ▸ h2⟩
theorem after_bad {S : Addr → Prop} {H H2 : Hp} {a x N kp : Addr} {b : List Nat} {Q : VK} {d : Medium} {σ : L2.St} (B : Begun CA H H2 x N kp b) (hP : PagesAt CP S H a d) (hσ : σ[3]? = some (some (.ref x))) (hq : After CP S H a Q (d, [-22, 0])) :
    tOp rCat (tLst (tCons (tC (.int (-22))) tNil)) (tMeth CA "told" (spTold CA) [] E0 (tVar 3) tNil) σ H2 Q := by
  refine told_end B.asked (Nat.zero_le _) hσ fun H' q s nq h => ?_
  have s' := B.same.trans s
  exact hq H' S q (hP.same s') (fun b o e nS => ⟨s' _ _ e, nS⟩) (fun _ => B.same.free nq) h
theorem scPut : FnScope ["pages", "i", "rows", "asked", "keys"] ["pages", "i", "rows"] (defScope sPut) := ⟨rfl, rfl, rfl, by decide +kernel, rfl, by decide +kernel, by decide +kernel⟩
theorem ok_put {f : Addr} {fd : FuncData} (F : Fun K "put" "put" sPut f fd) (T : Txt K mg CA CP) (kA : Mak P w K mg base 1 "Asked" CA (spAInit CA)) (mT : Met P w K mg base 1 CA "told" (spTold CA)) (cK : Cal P w K mg base 1 "keys_in" (spKeysIn K)) (cI : Cal P w K mg base 1 "is_chain" (spIsChain K))
    (mP : Met P w K mg base 5 CP "put" (spPPut CA CP)) : FnOk P w K mg base CX0 6 f fd ["pages", "i", "rows"] (spPut CP) := by
  refine F.ok scPut (fun vs H Q E h => ?_) (fun cdv A outer s H vs Q E hr h => ?_)
  · obtain ⟨a, r, S, d, i, b, x, sc, rfl, _⟩ := h
    rfl
  · obtain ⟨a, r, S, d, i, b, y, sc, rfl, hP, hS, hR, ok, hq⟩ := h
    refine ⟨_, pss_cons (ps_set (i := 3) scPut.nd rfl (Or.inl rfl) (pe_make0 kA.mk' kA.ok (hr.mono (by decide)) rfl kA.mg kA.bd .nil pass0))
      (pss_cons (ps_set (i := 4) scPut.nd rfl (Or.inl rfl) (pe_call cK.ok (hr.mono (by decide)) rfl cK.mg cK.kp cK.bd .nil pass0 (pa_cons (pe_ix ix_list (pv 2) pe_int (fun _ _ => rfl)) pa_nil)))
      (pss_cons (ps_if (PW.pt (pw_or (pt_not (pt_val (pe_call cI.ok (hr.mono (by decide)) rfl cI.mg cI.kp cI.bd .nil pass0 (pa_cons (pv 4) pa_nil)))) (pw_or1 (pt_cmpR op_ge (pv 1) (pe_ci T.SLOTS) (nomark _)))))
        (pss_one (ps_ret (pe_op op_cat (pe_lst (pa_cons (pe_ci T.BAD) pa_nil)) (pe_meth0 (pv 3) mT.cl mT.me mT.ok (hr.mono (by decide)) mT.bd .nil pass0)))) pss_nil)
      (pss_cons (ps_expr (pe_meth (pv 0) mP.cl mP.me mP.ok (hr.mono (by decide)) mP.bd .nil pass0 (pa_cons (pv 3) (pa_cons (pv 4) (pa_cons (pv 1) (pa_cons (pe_ix ix_list (pv 2) pe_int (fun _ _ => rfl)) (pa_cons (pe_ix ix_list (pv 2) pe_int (fun _ _ => rfl)) pa_nil)))))))
      (pss_one (ps_ret (pe_op op_cat (pe_lst (pa_cons pe_int pa_nil)) (pe_meth0 (pv 3) mT.cl mT.me mT.ok (hr.mono (by decide)) mT.bd .nil pass0))))))), ?_⟩
    intro x dx nx ndx nex
    refine ⟨x, dx, rfl, upd_same, fun H1 N nN kN hA => ⟨rfl, ?_⟩⟩
    obtain ⟨s1, nN0⟩ := made nx ndx nN kN
    obtain ⟨ks, k0, g1, g2, g3, g4, _⟩ := hR.at (i := 0) (r := b) rfl
    refine ⟨_, rfl, r, _, _, _, rfl, rfl, SqL.of (s1 _ _ g1), at_of (j := 0) rfl g3, k0, b, rfl, SqL.of (s1 _ _ g4), ok.most, fun H2 kp s2 hK => ?_⟩
    have B := begun s1 nx nN0 hA s2 hK
    obtain ⟨ks2, e1, e2⟩ := rowsLen B.keys
    refine ⟨_, rfl, kp, _, rfl, SqL.of e1, _, rfl, ?_⟩
    rw [e2]
    by_cases hc : 1 ≤ (chunks b).length ∧ (chunks b).length ≤ 4
    · rw [decide_eq_true hc]
      refine ⟨_, rfl, _, _, rfl, rfl, _, rfl, ?_⟩
      by_cases hi : i < 64
      · rw [decide_eq_false (show ¬ (64 : Int) ≤ (i : Int) by omega)]
        have good : Good i b := ⟨hc, hi⟩
        have R2 : RowsAt (AN x N) H2 r [b, y, sc] := hR.off B.same fun z hz => by
          rcases hz with e | e
          · rw [e]
            exact nx
          · rw [e]
            exact nN0
        obtain ⟨ks3, k1, u1, _, u3, u4, u5⟩ := R2.at (i := 1) (r := y) rfl
        obtain ⟨ks4, k2, w1, _, w3, w4, w5⟩ := R2.at (i := 2) (r := sc) rfl
        have nS : ¬ S x ∧ ¬ S N := ⟨trk_none hS nx, trk_none hS nN0⟩
        have hP2 := hP.same B.same
        obtain ⟨dp, R, refs, hpa, _, _⟩ := hP2.ex
        rw [put_ok d i b y sc good (ok.script good)] at hq
        refine ⟨_, rfl, a, dp, _, rfl, hpa, pF_no R (by decide +kernel), _, rfl, _, rfl, _, rfl, _, rfl, r, _, _, _, rfl, rfl, SqL.of u1, at_of (j := 1) rfl u3, _, rfl, r, _, _, _, rfl, rfl, SqL.of w1, at_of (j := 2) rfl w3, ?_⟩
        refine ⟨a, x, N, kp, k1, k2, S, d, i, chunks b, y, sc, rfl, hP2, B.asked, nS, B.keys, goodKeys ok.by_ good, hi, ⟨u4, ok.data, u5⟩, ⟨w4, ok.script good, w5⟩, fun H4 S' fr hP4 A4 => ?_⟩
        have ln : ∀ l : List Nat, l.length = 96 → (cntE (cs (chunks b)) ++ [3, 16] ++ ([5] ++ nzs sc) ++ ([2, (pgOf (chunks b) i : Int)] ++ nzs l)).length ≤ 900000 := fun l hl => by
          have csl := (goodKeys ok.by_ good).sum_le
          rw [List.length_append, List.length_append, List.length_append, List.length_append, List.length_append, cntE_len, nzs_len, nzs_len, ok.script good, hl]
          show 2 * (cs (chunks b)).sum + 2 + (1 + 16) + (2 + 96) ≤ 900000
          omega
        refine told_end A4 (ln _ (pageOf_len (ok.script good) ok.data)) rfl fun H5 q s5 nq h5 => ?_
        have fr' : ∀ z o, H z = some o → ¬ S z → H4 z = some o ∧ ¬ S' z := fun z o e nz => fr z o (B.same _ _ e) nz (begun_no B e)
        refine hq H5 S' q (hP4.same s5) (fun z o e nz => ⟨s5 _ _ (fr' z o e nz).1, (fr' z o e nz).2⟩) (fun nz => ?_) h5
        cases e : H q with
        | none => rfl
        | some o =>
          rw [(fr' q o e nz).1] at nq
          cases nq
      · rw [decide_eq_true (show (64 : Int) ≤ (i : Int) by omega)]
        rw [put_bad d i b y sc fun g => hi g.2] at hq
        exact after_bad B hP rfl hq
    · rw [decide_eq_false hc]
      rw [put_bad d i b y sc fun g => hc g.1] at hq
      exact after_bad B hP rfl hq
theorem scDrop : FnScope ["pages", "i", "rows", "asked", "keys"] ["pages", "i", "rows"] (defScope sDrop) := ⟨rfl, rfl, rfl, by decide +kernel, rfl, by decide +kernel, by decide +kernel⟩
theorem ok_drop {f : Addr} {fd : FuncData} (F : Fun K "drop" "drop" sDrop f fd) (T : Txt K mg CA CP) (kA : Mak P w K mg base 1 "Asked" CA (spAInit CA)) (mT : Met P w K mg base 1 CA "told" (spTold CA)) (cK : Cal P w K mg base 1 "keys_in" (spKeysIn K)) (cI : Cal P w K mg base 1 "is_chain" (spIsChain K))
    (mP : Met P w K mg base 5 CP "drop" (spPDrop CA CP)) : FnOk P w K mg base CX0 6 f fd ["pages", "i", "rows"] (spDrop CP) := by
  refine F.ok scDrop (fun vs H Q E h => ?_) (fun cdv A outer s H vs Q E hr h => ?_)
  · obtain ⟨a, r, S, d, i, b, sc, rfl, _⟩ := h
    rfl
  · obtain ⟨a, r, S, d, i, b, sc, rfl, hP, hS, hR, ok, hq⟩ := h
    refine ⟨_, pss_cons (ps_set (i := 3) scDrop.nd rfl (Or.inl rfl) (pe_make0 kA.mk' kA.ok (hr.mono (by decide)) rfl kA.mg kA.bd .nil pass0))
      (pss_cons (ps_set (i := 4) scDrop.nd rfl (Or.inl rfl) (pe_call cK.ok (hr.mono (by decide)) rfl cK.mg cK.kp cK.bd .nil pass0 (pa_cons (pe_ix ix_list (pv 2) pe_int (fun _ _ => rfl)) pa_nil)))
      (pss_cons (ps_if (PW.pt (pw_or (pt_not (pt_val (pe_call cI.ok (hr.mono (by decide)) rfl cI.mg cI.kp cI.bd .nil pass0 (pa_cons (pv 4) pa_nil)))) (pw_or1 (pt_cmpR op_ge (pv 1) (pe_ci T.SLOTS) (nomark _)))))
        (pss_one (ps_ret (pe_op op_cat (pe_lst (pa_cons (pe_ci T.BAD) pa_nil)) (pe_meth0 (pv 3) mT.cl mT.me mT.ok (hr.mono (by decide)) mT.bd .nil pass0)))) pss_nil)
      (pss_cons (ps_expr (pe_meth (pv 0) mP.cl mP.me mP.ok (hr.mono (by decide)) mP.bd .nil pass0 (pa_cons (pv 3) (pa_cons (pv 4) (pa_cons (pv 1) (pa_cons (pe_ix ix_list (pv 2) pe_int (fun _ _ => rfl)) pa_nil))))))
      (pss_one (ps_ret (pe_op op_cat (pe_lst (pa_cons pe_int pa_nil)) (pe_meth0 (pv 3) mT.cl mT.me mT.ok (hr.mono (by decide)) mT.bd .nil pass0))))))), ?_⟩
    intro x dx nx ndx nex
    refine ⟨x, dx, rfl, upd_same, fun H1 N nN kN hA => ⟨rfl, ?_⟩⟩
    obtain ⟨s1, nN0⟩ := made nx ndx nN kN
    obtain ⟨ks, k0, g1, g2, g3, g4, _⟩ := hR.at (i := 0) (r := b) rfl
    refine ⟨_, rfl, r, _, _, _, rfl, rfl, SqL.of (s1 _ _ g1), at_of (j := 0) rfl g3, k0, b, rfl, SqL.of (s1 _ _ g4), ok.most, fun H2 kp s2 hK => ?_⟩
    have B := begun s1 nx nN0 hA s2 hK
    obtain ⟨ks2, e1, e2⟩ := rowsLen B.keys
    refine ⟨_, rfl, kp, _, rfl, SqL.of e1, _, rfl, ?_⟩
    rw [e2]
    by_cases hc : 1 ≤ (chunks b).length ∧ (chunks b).length ≤ 4
    · rw [decide_eq_true hc]
      refine ⟨_, rfl, _, _, rfl, rfl, _, rfl, ?_⟩
      by_cases hi : i < 64
      · rw [decide_eq_false (show ¬ (64 : Int) ≤ (i : Int) by omega)]
        have good : Good i b := ⟨hc, hi⟩
        have R2 : RowsAt (AN x N) H2 r [b, sc] := hR.off B.same fun z hz => by
          rcases hz with e | e
          · rw [e]
            exact nx
          · rw [e]
            exact nN0
        obtain ⟨ks4, k2, w1, _, w3, w4, w5⟩ := R2.at (i := 1) (r := sc) rfl
        have nS : ¬ S x ∧ ¬ S N := ⟨trk_none hS nx, trk_none hS nN0⟩
        have hP2 := hP.same B.same
        obtain ⟨dp, R, refs, hpa, _, _⟩ := hP2.ex
        rw [drop_ok d i b sc good (ok.script good)] at hq
        refine ⟨_, rfl, a, dp, _, rfl, hpa, pF_no R (by decide +kernel), _, rfl, _, rfl, _, rfl, _, rfl, r, _, _, _, rfl, rfl, SqL.of w1, at_of (j := 1) rfl w3, ?_⟩
        refine ⟨a, x, N, kp, k2, S, d, i, chunks b, sc, rfl, hP2, B.asked, nS, B.keys, goodKeys ok.by_ good, hi, ⟨w4, ok.script good, w5⟩, fun H4 S' fr hP4 A4 => ?_⟩
        have ln : (cntE (cs (chunks b)) ++ [3, 96] ++ ([2, (pgOf (chunks b) i : Int)] ++ nzs sc)).length ≤ 900000 := by
          have csl := (goodKeys ok.by_ good).sum_le
          rw [List.length_append, List.length_append, List.length_append, cntE_len, nzs_len, ok.script good]
          show 2 * (cs (chunks b)).sum + 2 + (2 + 96) ≤ 900000
          omega
        refine told_end A4 ln rfl fun H5 q s5 nq h5 => ?_
        have fr' : ∀ z o, H z = some o → ¬ S z → H4 z = some o ∧ ¬ S' z := fun z o e nz => fr z o (B.same _ _ e) nz (begun_no B e)
        refine hq H5 S' q (hP4.same s5) (fun z o e nz => ⟨s5 _ _ (fr' z o e nz).1, (fr' z o e nz).2⟩) (fun nz => ?_) h5
        cases e : H q with
        | none => rfl
        | some o =>
          rw [(fr' q o e nz).1] at nq
          cases nq
      · rw [decide_eq_true (show (64 : Int) ≤ (i : Int) by omega)]
        rw [drop_bad d i b sc fun g => hi g.2] at hq
        exact after_bad B hP rfl hq
    · rw [decide_eq_false hc]
      rw [drop_bad d i b sc fun g => hc g.1] at hq
      exact after_bad B hP rfl hq
theorem under_len {k b y : List Nat} (hu : Ks190.under G k b = some y) : y.length ≤ b.length := by
  have hu' : (if (Ks190.xor (b.drop 16) (G.mix k (b.take 16))).take 16 = Ks190.zeros 16 then some ((Ks190.xor (b.drop 16) (G.mix k (b.take 16))).drop 16) else none) = some y := hu
  by_cases c : (Ks190.xor (b.drop 16) (G.mix k (b.take 16))).take 16 = Ks190.zeros 16
  · rw [if_pos c] at hu'
    rw [← Option.some.inj hu', List.length_drop, Ks190.xor, List.length_zipWith, List.length_drop]
    omega
  · rw [if_neg c] at hu'
    cases hu'
theorem scGet : FnScope ["pages", "i", "rows", "asked", "keys", "found"] ["pages", "i", "rows"] (defScope sGet) := ⟨rfl, rfl, rfl, by decide +kernel, rfl, by decide +kernel, by decide +kernel⟩
theorem ok_get {f : Addr} {fd : FuncData} (F : Fun K "get" "get" sGet f fd) (T : Txt K mg CA CP) (kA : Mak P w K mg base 1 "Asked" CA (spAInit CA)) (mT : Met P w K mg base 1 CA "told" (spTold CA)) (cK : Cal P w K mg base 1 "keys_in" (spKeysIn K)) (cI : Cal P w K mg base 1 "is_chain" (spIsChain K))
    (mP : Met P w K mg base 5 CP "get" (spPGet CA CP)) : FnOk P w K mg base CX0 6 f fd ["pages", "i", "rows"] (spGet CP) := by
  refine F.ok scGet (fun vs H Q E h => ?_) (fun cdv A outer s H vs Q E hr h => ?_)
  · obtain ⟨a, r, S, d, i, b, rfl, _⟩ := h
    rfl
  · obtain ⟨a, r, S, d, i, b, rfl, hP, hS, hR, ok, hq⟩ := h
    refine ⟨_, pss_cons (ps_set (i := 3) scGet.nd rfl (Or.inl rfl) (pe_make0 kA.mk' kA.ok (hr.mono (by decide)) rfl kA.mg kA.bd .nil pass0))
      (pss_cons (ps_set (i := 4) scGet.nd rfl (Or.inl rfl) (pe_call cK.ok (hr.mono (by decide)) rfl cK.mg cK.kp cK.bd .nil pass0 (pa_cons (pe_ix ix_list (pv 2) pe_int (fun _ _ => rfl)) pa_nil)))
      (pss_cons (ps_if (PW.pt (pw_or (pt_not (pt_val (pe_call cI.ok (hr.mono (by decide)) rfl cI.mg cI.kp cI.bd .nil pass0 (pa_cons (pv 4) pa_nil)))) (pw_or1 (pt_cmpR op_ge (pv 1) (pe_ci T.SLOTS) (nomark _)))))
        (pss_one (ps_ret (pe_op op_cat (pe_lst (pa_cons (pe_ci T.BAD) pa_nil)) (pe_meth0 (pv 3) mT.cl mT.me mT.ok (hr.mono (by decide)) mT.bd .nil pass0)))) pss_nil)
      (pss_cons (ps_set (i := 5) scGet.nd rfl (Or.inl rfl) (pe_meth (pv 0) mP.cl mP.me mP.ok (hr.mono (by decide)) mP.bd .nil pass0 (pa_cons (pv 3) (pa_cons (pv 4) (pa_cons (pv 1) pa_nil)))))
      (pss_cons (ps_if (pt_cmp (pc_isN (pv 5))) (pss_one (ps_ret (pe_op op_cat (pe_lst (pa_cons (pe_ci T.NOTHING) pa_nil)) (pe_meth0 (pv 3) mT.cl mT.me mT.ok (hr.mono (by decide)) mT.bd .nil pass0)))) pss_nil)
      (pss_one (ps_ret (pe_op op_cat (pe_op op_cat (pe_lst (pa_cons pe_int pa_nil)) (pv 5)) (pe_meth0 (pv 3) mT.cl mT.me mT.ok (hr.mono (by decide)) mT.bd .nil pass0)))))))), ?_⟩
    intro x dx nx ndx nex
    refine ⟨x, dx, rfl, upd_same, fun H1 N nN kN hA => ⟨rfl, ?_⟩⟩
    obtain ⟨s1, nN0⟩ := made nx ndx nN kN
    obtain ⟨ks, k0, g1, g2, g3, g4, _⟩ := hR.at (i := 0) (r := b) rfl
    refine ⟨_, rfl, r, _, _, _, rfl, rfl, SqL.of (s1 _ _ g1), at_of (j := 0) rfl g3, k0, b, rfl, SqL.of (s1 _ _ g4), ok.most, fun H2 kp s2 hK => ?_⟩
    have B := begun s1 nx nN0 hA s2 hK
    obtain ⟨ks2, e1, e2⟩ := rowsLen B.keys
    refine ⟨_, rfl, kp, _, rfl, SqL.of e1, _, rfl, ?_⟩
    rw [e2]
    by_cases hc : 1 ≤ (chunks b).length ∧ (chunks b).length ≤ 4
    · rw [decide_eq_true hc]
      refine ⟨_, rfl, _, _, rfl, rfl, _, rfl, ?_⟩
      by_cases hi : i < 64
      · rw [decide_eq_false (show ¬ (64 : Int) ≤ (i : Int) by omega)]
        have good : Good i b := ⟨hc, hi⟩
        have nS : ¬ S x ∧ ¬ S N := ⟨trk_none hS nx, trk_none hS nN0⟩
        have hP2 := hP.same B.same
        have kok := goodKeys ok.by_ good
        obtain ⟨dp, R, refs, hpa, _, _⟩ := hP2.ex
        refine ⟨_, rfl, a, dp, _, rfl, hpa, pF_no R (by decide +kernel), _, rfl, _, rfl, _, rfl, ?_⟩
        refine ⟨a, x, N, kp, S, d, i, chunks b, rfl, hP2, B.asked, nS, B.keys, kok, hi, fun H4 v k4 A4 hv => ?_⟩
        have s4 : Same H H4 := fun z o e => k4 z o (B.same _ _ e) (begun_no B e)
        have ln : (cntE (cs (chunks b)) ++ [1, (pgOf (chunks b) i : Int)] ++ ([5] ++ nzs ((d (pgOf (chunks b) i)).take 16))).length ≤ 900000 := by
          have csl := kok.sum_le
          rw [List.length_append, List.length_append, List.length_append, cntE_len, nzs_len, List.length_take, hP.sz _ (kok.pg_lt hi).2]
          show 2 * (cs (chunks b)).sum + 2 + (1 + 16) ≤ 900000
          omega
        cases hu : Ks190.under G (Ks190.lastKey (chunks b)) (d (pgOf (chunks b) i)) with
        | none =>
          rw [hu] at hv
          have hv : v = .non := hv
          subst hv
          rw [get_none d i b good hu] at hq
          refine ⟨_, rfl, _, rfl, ?_⟩
          rw [decide_eq_true (rfl : V.non = V.non)]
          refine told_end A4 ln rfl fun H5 q s5 nq h5 => ?_
          have s' := s4.trans s5
          exact hq H5 S q (hP.same s') (fun z o e nz => ⟨s' _ _ e, nz⟩) (fun _ => s4.free nq) h5
        | some y =>
          rw [hu] at hv
          obtain ⟨p, rfl, hp⟩ := hv
          rw [get_some d i b good hu] at hq
          refine ⟨_, rfl, _, rfl, ?_⟩
          rw [decide_eq_false (show ¬ V.ref p = V.non by intro z; cases z)]
          have yl : y.length ≤ 96 := Nat.le_trans (under_len hu) (Nat.le_of_eq (hP.sz _ (kok.pg_lt hi).2))
          refine ⟨(by show 1 ≤ sizeLine; decide), fun l nl => ?_⟩
          have s5 := sameNew (o := .lst [V.int 0]) nl
          refine ⟨_, rfl, l, p, _, _, rfl, rfl, upd_same, s5 _ _ hp, ?_, fun l2 nl2 => ?_⟩
          · rw [nv_len]
            exact Nat.le_trans (Nat.add_le_add_left yl _) (show 1 + 96 ≤ sizeLine by decide)
          have s6 := sameAdd (o := .lst ([V.int 0] ++ nv y)) s5 nl2
          have A6 := asked_same A4 s6
          obtain ⟨d6, a6, _⟩ := id A6
          refine ⟨_, rfl, x, d6, _, rfl, a6, aF_no _ _ (by decide +kernel) (by decide +kernel), x, N, _, _, rfl, A6, Nat.le_trans ln (by decide), fun H7 t s7 nt ht => ?_⟩
          have s47 := s6.trans s7
          refine ⟨l2, t, _, _, rfl, rfl, s7 _ _ upd_same, ht, ?_, fun q nq => ?_⟩
          · rw [List.length_append, nv_len, List.length_map, told, List.length_cons]
            have u : [V.int 0].length + y.length + ((cntE (cs (chunks b)) ++ [1, (pgOf (chunks b) i : Int)] ++ ([5] ++ nzs ((d (pgOf (chunks b) i)).take 16))).length + 1) ≤ 900098 := by
              show 1 + y.length + (_ + 1) ≤ 900098
              omega
            exact Nat.le_trans u (by decide)
          · have s' := s4.trans (sameAdd (o := .lst ([V.int 0] ++ nv y ++ (told ((cs (chunks b)).sum + 2) (cntE (cs (chunks b)) ++ [1, (pgOf (chunks b) i : Int)] ++ ([5] ++ nzs ((d (pgOf (chunks b) i)).take 16)))).map V.int)) s47 nq)
            refine hq _ S q (hP.same s') (fun z o e nz => ⟨s' _ _ e, nz⟩) (fun _ => (s4.trans s47).free nq) (upd_same.trans ?_)
            rw [List.map_cons, List.map_append, nv_nzs]
            rfl
      · rw [decide_eq_true (show (64 : Int) ≤ (i : Int) by omega)]
        rw [get_bad d i b fun g => hi g.2] at hq
        exact after_bad B hP rfl hq
    · rw [decide_eq_false hc]
      rw [get_bad d i b fun g => hc g.1] at hq
      exact after_bad B hP rfl hq
theorem vne {i j : Int} (h : i ≠ j) : decide (V.int i = V.int j) = false := decide_eq_false fun z => h (V.int.inj z)
theorem veq (i : Int) : decide (V.int i = V.int i) = true := decide_eq_true rfl
theorem pageSame {S : Addr → Prop} {H H' : Hp} {a : Addr} {d : Medium} (h : PagesAt CP S H a d) (s : Same H H') : PagesAt CP S H' a d := h.keep fun b o e _ => s b o e
theorem scAnswered : FnScope ["pages", "call", "number", "rows"] ["pages", "call", "number", "rows"] (defScope sAnswered) := ⟨rfl, rfl, rfl, by decide +kernel, rfl, by decide +kernel, by decide +kernel⟩
theorem ok_answered {f : Addr} {fd : FuncData} (F : Fun K "answered" "answered" sAnswered f fd) (T : Txt K mg CA CP) (mF : Met P w K mg base 1 CP "fill" (spFill CP)) (mP : Met P w K mg base 1 CP "page" (spPage CP)) (cP : Cal P w K mg base 6 "put" (spPut CP)) (cG : Cal P w K mg base 6 "get" (spGet CP))
    (cD : Cal P w K mg base 6 "drop" (spDrop CP)) : FnOk P w K mg base CX0 7 f fd ["pages", "call", "number", "rows"] (spAnswered CP) := by
  refine F.ok scAnswered (fun vs H Q E h => ?_) (fun cdv A outer s H vs Q E hr h => ?_)
  · obtain ⟨a, r, S, d, c, n, rows, rfl, _⟩ := h
    rfl
  · obtain ⟨a, r, S, d, c, n, rows, rfl, hP, hS, hR, hC, hq⟩ := h
    refine ⟨_, pss_cons (ps_if (pt_cmpR op_eq (pv 1) (pe_ci T.FRESH) (nomark _)) (pss_cons (ps_expr (pe_meth (pv 0) mF.cl mF.me mF.ok (hr.mono (by decide)) mF.bd .nil pass0 (pa_cons (pv 2) pa_nil))) (pss_one (ps_ret (pe_lst (pa_cons pe_int pa_nil))))) pss_nil)
      (pss_cons (ps_if (pt_cmpR op_eq (pv 1) (pe_ci T.PUT) (nomark _)) (pss_one (ps_ret (pe_call cP.ok (hr.mono (by decide)) rfl cP.mg cP.kp cP.bd .nil pass0 (pa_cons (pv 0) (pa_cons (pv 2) (pa_cons (pv 3) pa_nil)))))) pss_nil)
      (pss_cons (ps_if (pt_cmpR op_eq (pv 1) (pe_ci T.GET) (nomark _)) (pss_one (ps_ret (pe_call cG.ok (hr.mono (by decide)) rfl cG.mg cG.kp cG.bd .nil pass0 (pa_cons (pv 0) (pa_cons (pv 2) (pa_cons (pv 3) pa_nil)))))) pss_nil)
      (pss_cons (ps_if (pt_cmpR op_eq (pv 1) (pe_ci T.DROP) (nomark _)) (pss_one (ps_ret (pe_call cD.ok (hr.mono (by decide)) rfl cD.mg cD.kp cD.bd .nil pass0 (pa_cons (pv 0) (pa_cons (pv 2) (pa_cons (pv 3) pa_nil)))))) pss_nil)
      (pss_one (ps_ret (pe_op op_cat (pe_lst (pa_cons pe_int pa_nil)) (pe_meth (pv 0) mP.cl mP.me mP.ok (hr.mono (by decide)) mP.bd .nil pass0 (pa_cons (pv 2) pa_nil)))))))), ?_⟩
    obtain ⟨dp, R, refs, hpa, _, _⟩ := hP.ex
    refine ⟨_, rfl, rfl, _, rfl, ?_⟩
    cases hC with
    | fresh =>
      rw [veq]
      obtain ⟨f1, f2⟩ := fresh_ok d n
      refine ⟨_, rfl, a, dp, _, rfl, hpa, pF_no R (by decide +kernel), _, rfl, ?_⟩
      refine ⟨a, S, d, (step d [[0, (n : Int)]]).1, n, rfl, hP, f2, fun H1 S' fr hP1 => ?_⟩
      refine ⟨(by show 1 ≤ sizeLine; decide), fun l nl => ?_⟩
      have s1 := sameNew (o := .lst [V.int 0]) nl
      refine hq _ S' l (pageSame hP1 s1) (fun z o e nz => ⟨s1 _ _ (fr z o e nz).1, (fr z o e nz).2⟩) (fun nz => ?_) ?_
      · cases e : H l with
        | none => rfl
        | some o =>
          rw [(fr l o e nz).1] at nl
          cases nl
      · exact upd_same
    | @put n b x sc ok =>
      rw [vne (show (1 : Int) ≠ 0 by decide)]
      refine ⟨_, rfl, rfl, _, rfl, ?_⟩
      rw [veq]
      exact ⟨_, rfl, _, rfl, _, rfl, a, r, S, d, n, b, x, sc, rfl, hP, hS, hR, ok, hq⟩
    | @get n b ok =>
      rw [vne (show (2 : Int) ≠ 0 by decide)]
      refine ⟨_, rfl, rfl, _, rfl, ?_⟩
      rw [vne (show (2 : Int) ≠ 1 by decide)]
      refine ⟨_, rfl, rfl, _, rfl, ?_⟩
      rw [veq]
      exact ⟨_, rfl, _, rfl, _, rfl, a, r, S, d, n, b, rfl, hP, hS, hR, ok, hq⟩
    | @drop n b sc ok =>
      rw [vne (show (3 : Int) ≠ 0 by decide)]
      refine ⟨_, rfl, rfl, _, rfl, ?_⟩
      rw [vne (show (3 : Int) ≠ 1 by decide)]
      refine ⟨_, rfl, rfl, _, rfl, ?_⟩
      rw [vne (show (3 : Int) ≠ 2 by decide)]
      refine ⟨_, rfl, rfl, _, rfl, ?_⟩
      rw [veq]
      exact ⟨_, rfl, _, rfl, _, rfl, a, r, S, d, n, b, sc, rfl, hP, hS, hR, ok, hq⟩
    | page =>
      rw [vne (show (4 : Int) ≠ 0 by decide)]
      refine ⟨_, rfl, rfl, _, rfl, ?_⟩
      rw [vne (show (4 : Int) ≠ 1 by decide)]
      refine ⟨_, rfl, rfl, _, rfl, ?_⟩
      rw [vne (show (4 : Int) ≠ 2 by decide)]
      refine ⟨_, rfl, rfl, _, rfl, ?_⟩
      rw [vne (show (4 : Int) ≠ 3 by decide)]
      refine ⟨(by show 1 ≤ sizeLine; decide), fun l nl => ?_⟩
      have s1 := sameNew (o := .lst [V.int 0]) nl
      refine ⟨_, rfl, a, dp, _, rfl, s1 _ _ hpa, pF_no R (by decide +kernel), _, rfl, a, S, d, n, rfl, pageSame hP s1, fun H2 p s2 np hp => ?_⟩
      refine ⟨l, p, _, _, rfl, rfl, s2 _ _ upd_same, hp, ?_, fun q nq => ?_⟩
      · rw [nv_len, hP.sz _ (Nat.mod_lt _ (by decide))]
        exact show 1 + 96 ≤ sizeLine by decide
      · have s12 := s1.trans s2
        have s3 := sameAdd (o := .lst ([V.int 0] ++ nv (d (n % 1024)))) s12 nq
        refine hq _ S q (pageSame hP s3) (fun z o e nz => ⟨s3 _ _ e, nz⟩) (fun _ => s12.free nq) (upd_same.trans ?_)
        show some (HO.lst ([V.int 0] ++ nv (d (n % 1024)))) = some (HO.lst ((0 :: nzs (d (n % 1024))).map V.int))
        rw [List.map_cons, nv_nzs]
        rfl
theorem scRowsAt : FnScope ["calls", "at", "many", "found", "behind", "k", "begin"] ["calls", "at", "many"] (defScope sRowsAt) := ⟨rfl, rfl, rfl, by decide +kernel, rfl, by decide +kernel, by decide +kernel⟩
theorem drop_head {ns r : List Int} {b : Nat} {z : Int} (h : ns.drop b = z :: r) : b < ns.length ∧ ns[b]? = some z ∧ ns.drop (b + 1) = r := by
  have hb : b < ns.length := by
    rcases Nat.lt_or_ge b ns.length with c | c
    · exact c
    · rw [List.drop_eq_nil_of_le c] at h
      cases h
  rw [List.drop_eq_getElem_cons hb] at h
  have e1 := List.head_eq_of_cons_eq h
  have e2 := List.tail_eq_of_cons_eq h
  exact ⟨hb, by rw [List.getElem?_eq_getElem hb, e1], e2⟩
theorem nzs_inj {a b : List Nat} (h : nzs a = nzs b) : a = b := by
  rw [← nats_nzs a, ← nats_nzs b, h]
theorem iv_at {ns : List Int} {b : Nat} {z : Int} (h : ns[b]? = some z) : (ns.map V.int)[b]? = some (.int z) := by
  rw [List.getElem?_map, h]
  rfl
theorem ok_rowsAt {f : Addr} {fd : FuncData} (F : Fun K "rows_at" "rows_at" sRowsAt f fd) (T : Txt K mg CA CP) : FnOk P w K mg base CX0 1 f fd ["calls", "at", "many"] (spRowsAt K) := by
  refine F.ok scRowsAt (fun vs H Q E h => ?_) (fun cdv A outer s H vs Q E hr h => ?_)
  · obtain ⟨cl, ns, at_, many, rows, t, rfl, _⟩ := h
    rfl
  · obtain ⟨cl, ns, at_, many, rows, t, rfl, hS, hl, ha, hm, hp, hq⟩ := h
    refine ⟨_, pss_cons (ps_set (i := 3) scRowsAt.nd rfl (Or.inl rfl) (pe_lst pa_nil)) (pss_cons (ps_set (i := 4) scRowsAt.nd rfl (Or.inl rfl) (pv 1))
      (pss_cons (ps_for PassesOwn.never rfl (pi_range1 (by rfl) T.range (pa_cons (pv 2) pa_nil)) (pg_name (i := 5) scRowsAt.nd rfl (Or.inl rfl))
        (pss_cons (ps_set (i := 6) scRowsAt.nd rfl (Or.inl rfl) (pe_op op_add (pv 4) pe_int))
        (pss_cons (ps_set (i := 4) scRowsAt.nd rfl (Or.inl rfl) (pe_op op_add (pv 6) (pe_ix ix_list (pv 0) (pe_op op_sub (pv 6) pe_int) (fun _ _ => rfl))))
        (pss_one (ps_expr (pe_bm PySem.F.plainAttrs_list PySem.F.slot_list_append PySem.F.type_list_append mt_append (pv 3) (pa_cons (pe_slice sl_list (pv 0) (po_some (pv 6)) (po_some (pv 4))) pa_nil)))))))
      (pss_one (ps_ret (pe_tup (pa_cons (pv 3) (pa_cons (pv 4) pa_nil))))))), ?_⟩
    refine ⟨Nat.zero_le _, fun D hD => ?_⟩
    refine ⟨_, rfl, ?_⟩
    refine ⟨_, rfl, (many : Int), rfl, by omega, by omega, ?_⟩
    refine for_range (lo := 0) (fun j σ H' => ∃ (b : Nat) (v5 v6 : Option V), σ = [some (.ref cl), some (.int (at_ : Int)), some (.int (many : Int)), some (.ref D), some (.int (b : Int)), v5, v6] ∧ b ≤ ns.length ∧ NewRows H H' D j (fun i => rows.getD i []) ∧
        PyFlat.rows (many - j) (ns.drop b) = some ((rows.drop j).map nzs, t))
      ⟨at_, none, none, rfl, ha, NewRows.start hD, hp⟩ ?_ ?_
    · rintro j σ H' hj ⟨b, v5, v6, rfl, hb, nr, hrs⟩
      rw [Int.toNat_natCast] at hj
      obtain ⟨m, hm'⟩ : ∃ m, many - j = m + 1 := ⟨many - j - 1, by omega⟩
      rw [hm'] at hrs
      obtain ⟨x, s', ys, h1, h2, h3⟩ := rows_split hrs
      obtain ⟨n, r, h4, h5, rfl, rfl⟩ := row_split h1
      obtain ⟨b1, b2, b3⟩ := drop_head h4
      have lr : r.length = ns.length - (b + 1) := by rw [← b3, List.length_drop]
      have hjr : j < rows.length := by
        have z := congrArg List.length h3
        rw [List.length_map, List.length_drop, List.length_cons] at z
        omega
      have dr : rows.drop j = rows[j] :: rows.drop (j + 1) := List.drop_eq_getElem_cons hjr
      rw [dr, List.map_cons] at h3
      have x1 : nzs rows[j] = r.take n := List.head_eq_of_cons_eq h3
      have x2 : (rows.drop (j + 1)).map nzs = ys := List.tail_eq_of_cons_eq h3
      have gj : rows.getD j [] = rows[j] := by
        rw [List.getD_eq_getElem?_getD, List.getElem?_eq_getElem hjr]
        rfl
      refine ⟨_, rfl, _, _, rfl, rfl, ?_⟩
      refine ⟨_, rfl, _, rfl, _, rfl, _, _, rfl, rfl, cl, _, _, _, rfl, rfl, nr.same.seq hS, at_of (j := b) (by omega) (iv_at b2), _, _, rfl, rfl, ?_⟩
      obtain ⟨refs, q1, q2, q3⟩ := nr.ex
      refine ⟨_, rfl, .inl ⟨rfl, _, SqL.of q1⟩, _, rfl, _, rfl, _, rfl, _, rfl, _, rfl, cl, _, rfl, nr.same.seq hS, fun p np => ?_⟩
      have eC : cutV (ns.map V.int) (some ((b : Int) + 1)) (some ((b : Int) + 1 + (n : Int))) = nv rows[j] := by
        have e1 : ((b : Int) + 1) = ((b + 1 : Nat) : Int) := by omega
        have e2 : ((b : Int) + 1 + (n : Int)) = ((b + 1 + n : Nat) : Int) := by omega
        rw [e2, e1, cut_mid, ← List.map_drop, ← List.map_take, b3, ← x1, nv_nzs]
      have sp := sameNew (o := .lst (cutV (ns.map V.int) (some ((b : Int) + 1)) (some ((b : Int) + 1 + (n : Int))))) np
      obtain ⟨acc, a1, a2, a3⟩ := nr.next hD sp np (upd_same.trans (by rw [eC, gj]))
      refine ⟨D, acc, _, rfl, rfl, a1, ?_, ?_⟩
      · rw [a2]
        exact Nat.lt_of_le_of_lt (show j ≤ 3 by omega) (by decide)
      · refine ⟨b + 1 + n, _, _, rfl, by omega, a3, ?_⟩
        rw [show many - (j + 1) = m by omega, x2, ← List.drop_drop, b3]
        exact h2
    · rintro σ H' ⟨b, v5, v6, rfl, hb, nr, hrs⟩
      rw [Int.toNat_natCast] at nr hrs
      rw [Nat.sub_self] at hrs
      have e := Option.some.inj (show some (([] : List (List Int)), ns.drop b) = some ((rows.drop many).map nzs, t) from hrs)
      have et : ns.drop b = t := congrArg Prod.snd e
      have er : [] = (rows.drop many).map nzs := congrArg Prod.fst e
      obtain ⟨refs, q1, q2, q3⟩ := nr.ex
      have lm : rows.length = many := by
        have z := (rows_len _ _ _ _ hp).1
        rw [List.length_map] at z
        exact z
      refine ⟨_, rfl, _, rfl, (by show 2 ≤ sizeLine; decide), fun q nq => ?_⟩
      have nqD : D ≠ q := ne_of_none q1 nq
      refine hq _ q D b (sameAdd nr.same nq) upd_same ⟨refs, (upd_ne nqD).trans q1, by rw [q2, lm], fun i k r' e1 e2 => ?_, not_trk hD⟩ hb et
      obtain ⟨g1, g2, g3⟩ := q3 i k e1
      have gr : rows.getD i [] = r' := by
        rw [List.getD_eq_getElem?_getD, e2]
        rfl
      rw [gr] at g1
      exact ⟨(upd_ne (ne_of_none g1 nq)).trans g1, not_trk g2⟩
/-- the pages' own, no more than that: all of it is tracked -/
theorem PagesAt.small {S : Addr → Prop} {H : Hp} {a : Addr} {d : Medium} (h : PagesAt CP S H a d) : ∃ S0 : Addr → Prop, PagesAt CP S0 H a d ∧ (∀ z, S0 z → S z) ∧ ∀ z, S0 z → Trk H z := by
  obtain ⟨dx, R, refs, h1, sa, sR, h2, hl, h3⟩ := h.ex
  refine ⟨fun z => S z ∧ Trk H z, ⟨⟨dx, R, refs, h1, ⟨sa, _, h1⟩, ⟨sR, _, h2⟩, h2, hl, fun p r e => ⟨(h3 p r e).1, (h3 p r e).2, _, (h3 p r e).1⟩⟩, h.sz⟩, fun z q => q.1, fun z q => q.2⟩
theorem trk_upd {H : Hp} {F : Addr} {o : HO} {z : Addr} (h : Trk H z) : Trk (upd H F o) z := by
  by_cases c : z = F
  · exact ⟨o, by rw [c, upd_same]⟩
  · obtain ⟨u, e⟩ := h
    exact ⟨u, (upd_ne c).trans e⟩
/-- the tuple ROWS -/
def RowsTup (K : PySem.W.Frag) (mg : Str → Option Value) : Prop := ∃ tp : Addr, mg "ROWS" = some (.ref tp) ∧ ∀ H : Hp, SqT K H tp [.int 0, .int 3, .int 1, .int 2, .int 0]
theorem rows_ix {p : Int} {k : Nat} (h : shape p = some (1, k)) : atI [V.int 0, V.int 3, V.int 1, V.int 2, V.int 0] p = some (.int (k : Int)) ∧ k ≤ 3 := by
  rcases (shape_is h).2 with ⟨rfl, rfl⟩ | ⟨rfl, rfl⟩ | ⟨rfl, rfl⟩ | ⟨rfl, rfl⟩ | ⟨rfl, rfl⟩ <;> exact ⟨rfl, by decide⟩
/-- the loop's word -/
structure Line (CP : Addr) (H0 : Hp) (ns : List Int) (a F : Addr) (S : Addr → Prop) (H : Hp) (at_ f : Nat) (s : Medium) (cs : List (List (List Int))) (found : List Int) : Prop where
  old : ∀ b o, H0 b = some o → H b = some o ∧ ¬ S b ∧ b ≠ F
  pages : PagesAt CP S H a s
  trk : ∀ z, S z → Trk H z
  list : H F = some (.lst (found.map V.int))
  off : ¬ S F
  le : at_ ≤ ns.length
  calls : PyFlat.calls shape f (ns.drop at_) = some cs
  rest : Rest s cs
  says : found ++ says s cs = PyKs190.answers ns
def LineW (CP : Addr) (H0 : Hp) (ns : List Int) (cl a F : Addr) : Nat → L2.St → Hp → Prop := fun m σ H => ∃ (S : Addr → Prop) (at_ f : Nat) (s : Medium) (cs : List (List (List Int))) (found : List Int) (v4 v5 v6 v7 : Option V),
  m = ns.length - at_ ∧ σ = [some (.ref cl), some (.ref a), some (.ref F), some (.int (at_ : Int)), v4, v5, v6, v7] ∧ Line CP H0 ns a F S H at_ f s cs found
theorem scAnswers : FnScope ["calls", "pages", "found", "at", "call", "number", "rows", "told"] ["calls"] (defScope sAnswers) := ⟨rfl, rfl, rfl, by decide +kernel, rfl, by decide +kernel, by decide +kernel⟩
theorem ok_answers {f : Addr} {fd : FuncData} (F : Fun K "answers" "answers" sAnswers f fd) (T : Txt K mg CA CP) (RT : RowsTup K mg) (kP : Mak P w K mg base 1 "Pages" CP (spPInit CP)) (cR : Cal P w K mg base 1 "rows_at" (spRowsAt K)) (cA : Cal P w K mg base 7 "answered" (spAnswered CP)) :
    FnOk P w K mg base CX0 8 f fd ["calls"] (spAnswers K) := by
  refine F.ok scAnswers (fun vs H Q E h => ?_) (fun cdv A outer s H vs Q E hr h => ?_)
  · obtain ⟨a, ns, rfl, _⟩ := h
    rfl
  · obtain ⟨cl, ns, rfl, hS, hl, hask, hq⟩ := h
    obtain ⟨tp, gR, hT⟩ := RT
    obtain ⟨cs0, hcalls0, hrest0, hsay0, hbig⟩ := line_is hask
    refine ⟨_, pss_cons (ps_set (i := 1) scAnswers.nd rfl (Or.inl rfl) (pe_make0 kP.mk' kP.ok (hr.mono (by decide)) rfl kP.mg kP.bd .nil pass0))
      (pss_cons (ps_set (i := 2) scAnswers.nd rfl (Or.inl rfl) (pe_lst pa_nil))
      (pss_cons (ps_set (i := 3) scAnswers.nd rfl (Or.inl rfl) pe_int)
      (pss_cons (ps_while PassesOwn.never (pt_cmpR op_lt (pv 3) (pe_callB call_len_seq (by rfl) T.len PySem.boot_len (pa_cons (pv 0) pa_nil)) (nomark _))
        (pss_cons (ps_set (i := 4) scAnswers.nd rfl (Or.inl rfl) (pe_ix ix_list (pv 0) (pv 3) (fun _ _ => rfl)))
        (pss_cons (ps_set (i := 5) scAnswers.nd rfl (Or.inl rfl) (pe_ix ix_list (pv 0) (pe_op op_add (pv 3) pe_int) (fun _ _ => rfl)))
        (pss_cons (ps_asg (pe_call cR.ok (hr.mono (by decide)) rfl cR.mg cR.kp cR.bd .nil pass0 (pa_cons (pv 0) (pa_cons (pe_op op_add (pv 3) pe_int) (pa_cons (pe_ix ix_tup (pe_glob (v := .ref tp) (by rfl) gR rfl) (pv 4) (fun _ _ => rfl)) pa_nil))))
          (pg_tup rfl (pgs_cons (pg_name (i := 6) scAnswers.nd rfl (Or.inl rfl)) (pgs_cons (pg_name (i := 3) scAnswers.nd rfl (Or.inl rfl)) pgs_nil))))
        (pss_cons (ps_set (i := 7) scAnswers.nd rfl (Or.inl rfl) (pe_call cA.ok (hr.mono (by decide)) rfl cA.mg cA.kp cA.bd .nil pass0 (pa_cons (pv 1) (pa_cons (pv 4) (pa_cons (pv 5) (pa_cons (pv 6) pa_nil))))))
        (pss_cons (ps_expr (pe_bm PySem.F.plainAttrs_list PySem.F.slot_list_append PySem.F.type_list_append mt_append (pv 2) (pa_cons (pe_callB call_len_seq (by rfl) T.len PySem.boot_len (pa_cons (pv 7) pa_nil)) pa_nil)))
        (pss_one (ps_expr (pe_bm PySem.F.plainAttrs_list PySem.F.slot_list_extend PySem.F.type_list_extend mt_extend (pv 2) (pa_cons (pv 7) pa_nil))))))))))
      (pss_one (ps_ret (pv 2)))))), ?_⟩
    intro a dx na ndx nea
    refine ⟨a, dx, rfl, upd_same, fun H1 S1 fr1 hP1 => ⟨rfl, ?_⟩⟩
    obtain ⟨S0, hP0, sub0, trk0⟩ := hP1.small
    have old1 : ∀ b o, H b = some o → H1 b = some o ∧ ¬ S0 b := fun b o e => by
      have q := fr1 b o (by rw [upd_ne (ne_of_none e na), upd_ne (ne_of_none e ndx)]; exact e) (ne_of_none e na)
      exact ⟨q.1, fun z => q.2 (sub0 b z)⟩
    refine ⟨Nat.zero_le _, fun Fd nF => ?_⟩
    refine ⟨LineW CP H ns cl a Fd, ⟨ns.length - 0, S0, 0, ns.length, Ks190Neutral.start, cs0, [], none, none, none, none, rfl, rfl, ?_⟩, ?_⟩
    · have s2 := sameNew (o := .lst []) nF
      exact ⟨fun b o e => ⟨s2 _ _ (old1 b o e).1, (old1 b o e).2, ne_of_none (old1 b o e).1 nF⟩, pageSame hP0 s2, fun z q => trk_upd (trk0 z q), upd_same, fun q => not_trk nF (trk0 _ q), Nat.zero_le _, hcalls0, hrest0, hsay0.symm⟩
    · rintro m σ H' ⟨S, at_, fu, s, cs, found, v4, v5, v6, v7, rfl, rfl, L⟩
      have hS' : SqL K H' cl (ns.map V.int) := Same.seq (H := H) (fun b o e => (L.old b o e).1) hS
      refine ⟨_, rfl, _, rfl, cl, _, rfl, .inl hS', _, _, rfl, rfl, _, rfl, ?_⟩
      rw [List.length_map]
      by_cases c : at_ < ns.length
      · rw [decide_eq_true (show (at_ : Int) < ((ns.length : Nat) : Int) by omega)]
        refine ⟨fun σ' H2 => ∃ m', m' < ns.length - at_ ∧ LineW CP H ns cl a Fd m' σ' H2, fun _ _ z => z, ?_⟩
        obtain ⟨p, rr, hd⟩ : ∃ p rr, ns.drop at_ = p :: rr := ⟨_, _, List.drop_eq_getElem_cons c⟩
        have hcl := L.calls
        rw [hd] at hcl
        obtain ⟨f', z, r', k, xs, t, cs', hsh, hr2, hrows, hcs', rfl⟩ := calls_split hcl
        obtain ⟨_, p1, p2⟩ := drop_head hd
        obtain ⟨c2, p3, p4⟩ := drop_head (p2.trans hr2)
        obtain ⟨h1, h2, h3⟩ := L.rest.head
        obtain ⟨lk, lt⟩ := rows_len _ _ _ _ hrows
        obtain ⟨n, rows, rfl, rfl, hok⟩ := call_ok hsh lk h2 h1
        obtain ⟨ri, rk⟩ := rows_ix hsh
        refine ⟨_, rfl, _, rfl, cl, _, _, _, rfl, rfl, hS', atI_nat (iv_at p1), ?_⟩
        refine ⟨_, rfl, _, rfl, _, _, rfl, rfl, cl, _, _, _, rfl, rfl, hS', at_of (j := at_ + 1) (by omega) (iv_at p3), ?_⟩
        refine ⟨_, rfl, _, rfl, _, _, rfl, rfl, _, rfl, tp, _, _, _, rfl, rfl, hT _, ri, cl, ns, at_ + 2, k, rows, t, rfl, hS', hl, by omega, rk, ?_, fun H2 q f e s2 hq2 hR2 he ht => ?_⟩
        · rw [p4]
          exact hrows
        refine ⟨q, _, rfl, SqT.of hq2, rfl, _, _, rfl, _, _, rfl, rfl, ?_⟩
        refine ⟨_, rfl, _, rfl, _, rfl, _, rfl, a, f, S, s, p, n, rows, rfl, pageSame L.pages s2, fun z q => (L.trk z q).imp fun o e => s2 _ _ e, hR2.mono (fun _ z => z.elim), hok, fun H3 S3 tl hP3 fr3 nt3 ht3 => ?_⟩
        have hsay := L.says
        rw [says_cons] at hsay
        generalize hst : step s ([p, (n : Int)] :: rows.map nzs) = st at hsay h3 hP3 ht3
        have hF2 := s2 _ _ L.list
        obtain ⟨hF3, nF3⟩ := fr3 _ _ hF2 L.off
        have ntF : tl ≠ Fd := fun e => by
          have z := nt3 (by rw [e]; exact L.off)
          rw [e, hF2] at z
          cases z
        obtain ⟨S4, hP4, sub4, trk4⟩ := hP3.small
        have nF4 : ¬ S4 Fd := fun z => nF3 (sub4 _ z)
        have lens : found.length + (st.2.length + 1) ≤ 10000000 := by
          have z := congrArg List.length hsay
          rw [List.length_append, List.length_cons, List.length_append] at z
          omega
        refine ⟨_, rfl, .inl ⟨rfl, _, SqL.of hF3⟩, _, rfl, tl, _, rfl, .inl (SqL.of ht3), Fd, _, _, rfl, rfl, hF3, ?_, ?_⟩
        · rw [List.length_map]
          exact Nat.lt_of_le_of_lt (show found.length ≤ 10000000 by omega) (by decide)
        refine ⟨_, rfl, .inl ⟨rfl, _, SqL.of upd_same⟩, _, rfl, Fd, tl, _, _, rfl, rfl, upd_same, (upd_ne ntF).trans ht3, ?_, ?_⟩
        · rw [List.length_append, List.length_map, List.length_map]
          exact Nat.le_trans (show found.length + 1 + st.2.length ≤ 10000000 by omega) (by decide)
        have el : t.length = ns.length - e := by
          rw [← ht, List.length_drop]
        have ll : r'.length = ns.length - (at_ + 2) := by
          rw [← p4, List.length_drop]
        refine ⟨ns.length - e, by omega, S4, e, f', st.1, cs', found ++ ((st.2.length : Int) :: st.2), _, _, _, _, rfl, rfl, ?_⟩
        have kp : ∀ b o, b ≠ Fd → H3 b = some o → (upd (upd H3 Fd (.lst (found.map V.int ++ [V.int (((st.2.map V.int).length : Nat) : Int)]))) Fd (.lst (found.map V.int ++ [V.int (((st.2.map V.int).length : Nat) : Int)] ++ st.2.map V.int))) b = some o := fun b o nb eb => by
          rw [upd_ne nb, upd_ne nb]
          exact eb
        refine ⟨fun b o eb => ?_, hP4.keep fun b o eb sb => kp b o (fun z => nF4 (z ▸ sb)) eb, fun z q => trk_upd (trk_upd (trk4 z q)), ?_, nF4, he, ?_, h3, ?_⟩
        · obtain ⟨g1, g2, g3⟩ := L.old b o eb
          obtain ⟨g4, g5⟩ := fr3 b o (s2 _ _ g1) g2
          exact ⟨kp b o g3 g4, fun z => g5 (sub4 _ z), g3⟩
        · rw [upd_same, List.map_append, List.map_cons, List.length_map, List.append_assoc]
          rfl
        · rw [ht]
          exact hcs'
        · rw [← hsay, List.append_assoc]
          rfl
      · rw [decide_eq_false (show ¬ (at_ : Int) < ((ns.length : Nat) : Int) by omega)]
        have hcl := L.calls
        rw [List.drop_eq_nil_of_le (by omega)] at hcl
        have e0 : cs = [] := by
          unfold PyFlat.calls at hcl
          exact (Option.some.inj hcl).symm
        have hsay := L.says
        rw [e0] at hsay
        have hs : found = PyKs190.answers ns := (List.append_nil found).symm.trans hsay
        refine ⟨_, rfl, hq _ Fd ?_⟩
        rw [← hs]
        exact L.list
end
end Hd
namespace Hd
open PySem PySem.Spec PyProof.Rows L2
theorem all_mk {P : Program} {w : World} {K : PySem.W.Frag} {h : Heap} {mg : Str → Option Value} {fa CA CP tp fPlace fPad fUnder fSealed fOpened fKeysIn fIsChain fOwn fFind fAInit fNote fTold fPInit fFill fPage fPFind fWrite fPPut fPGet fPDrop fPut fGet fDrop fAnswered fRowsAt fAnswers : Addr} (X : K.In h) (G : h.Ns mainGlobals mg) (hfa : mg "answers" = some (.ref fa))
    {odPlace anPlace odPad anPad odUnder anUnder odSealed anSealed odOpened anOpened odKeysIn anKeysIn odIsChain anIsChain odOwn anOwn odFind anFind odAInit anAInit odNote anNote odTold anTold odPInit anPInit odFill anFill odPage anPage odPFind anPFind odWrite anWrite odPPut anPPut odPGet anPGet odPDrop anPDrop odPut anPut odGet anGet odDrop anDrop odAnswered anAnswered odRowsAt anRowsAt odAnswers anAnswers odR : Option Addr}
    {slPlace slPad slUnder slSealed slOpened slKeysIn slIsChain slOwn slFind slAInit slNote slTold slPInit slFill slPage slPFind slWrite slPPut slPGet slPDrop slPut slGet slDrop slAnswered slRowsAt slAnswers slR : Array (Option Value)} {nR : Nat}
    {ocPlace kVPlace dcPlace pmPlace cdPlace ctPlace ocPad kVPad dcPad pmPad cdPad ctPad ocUnder kVUnder dcUnder pmUnder cdUnder ctUnder ocSealed kVSealed dcSealed pmSealed cdSealed ctSealed ocOpened kVOpened dcOpened pmOpened cdOpened ctOpened ocKeysIn kVKeysIn dcKeysIn pmKeysIn cdKeysIn ctKeysIn ocIsChain kVIsChain dcIsChain pmIsChain cdIsChain ctIsChain ocOwn kVOwn dcOwn pmOwn cdOwn ctOwn ocFind kVFind dcFind pmFind cdFind ctFind ocAInit kVAInit dcAInit pmAInit cdAInit ctAInit ocNote kVNote dcNote pmNote cdNote ctNote ocTold kVTold dcTold pmTold cdTold ctTold ocPInit kVPInit dcPInit pmPInit cdPInit ctPInit ocFill kVFill dcFill pmFill cdFill ctFill ocPage kVPage dcPage pmPage cdPage ctPage ocPFind kVPFind dcPFind pmPFind cdPFind ctPFind ocWrite kVWrite dcWrite pmWrite cdWrite ctWrite ocPPut kVPPut dcPPut pmPPut cdPPut ctPPut ocPGet kVPGet dcPGet pmPGet cdPGet ctPGet ocPDrop kVPDrop dcPDrop pmPDrop cdPDrop ctPDrop ocPut kVPut dcPut pmPut cdPut ctPut ocGet kVGet dcGet pmGet cdGet ctGet ocDrop kVDrop dcDrop pmDrop cdDrop ctDrop ocAnswered kVAnswered dcAnswered pmAnswered cdAnswered ctAnswered ocRowsAt kVRowsAt dcRowsAt pmRowsAt cdRowsAt ctRowsAt ocAnswers kVAnswers dcAnswers pmAnswers cdAnswers ctAnswers : Value}
    {tPAGES tPAGE_BYTES tKEY_BYTES tSALT_BYTES tMARK_BYTES tPAD_BYTES tBYTE tSLOTS tMOST_KEYS tREAD tWRITTEN tCHANCE tPLACE tPAD tBAD tNOTHING tFRESH tPUT tGET tDROP r0 r1 r2 r3 r4 : Tok}
    (aA : PySem.W.nsIn K mainGlobals "Asked" = some (some (.ref CA)))
    (aP : PySem.W.nsIn K mainGlobals "Pages" = some (some (.ref CP)))
    (aPlace : PySem.W.nsIn K mainGlobals "place_of" = some (some (.ref fPlace)))
    (lPlace : K.lookup fPlace = some ⟨ocPlace, odPlace, .func (PySem.W.fnOf "place_of" "place_of" (defArgs sPlace) (defBody sPlace) (defScope sPlace) .none kVPlace dcPlace pmPlace anPlace cdPlace ctPlace), slPlace⟩)
    (cPlace : PySem.W.codeIn K cdPlace "place_of" = true)
    (kPlace : PySem.W.keepIn K (.ref fPlace) = true)
    (aPad : PySem.W.nsIn K mainGlobals "pad_of" = some (some (.ref fPad)))
    (lPad : K.lookup fPad = some ⟨ocPad, odPad, .func (PySem.W.fnOf "pad_of" "pad_of" (defArgs sPad) (defBody sPad) (defScope sPad) .none kVPad dcPad pmPad anPad cdPad ctPad), slPad⟩)
    (cPad : PySem.W.codeIn K cdPad "pad_of" = true)
    (kPad : PySem.W.keepIn K (.ref fPad) = true)
    (aUnder : PySem.W.nsIn K mainGlobals "under" = some (some (.ref fUnder)))
    (lUnder : K.lookup fUnder = some ⟨ocUnder, odUnder, .func (PySem.W.fnOf "under" "under" (defArgs sUnder) (defBody sUnder) (defScope sUnder) .none kVUnder dcUnder pmUnder anUnder cdUnder ctUnder), slUnder⟩)
    (cUnder : PySem.W.codeIn K cdUnder "under" = true)
    (kUnder : PySem.W.keepIn K (.ref fUnder) = true)
    (aSealed : PySem.W.nsIn K mainGlobals "sealed" = some (some (.ref fSealed)))
    (lSealed : K.lookup fSealed = some ⟨ocSealed, odSealed, .func (PySem.W.fnOf "sealed" "sealed" (defArgs sSealed) (defBody sSealed) (defScope sSealed) .none kVSealed dcSealed pmSealed anSealed cdSealed ctSealed), slSealed⟩)
    (cSealed : PySem.W.codeIn K cdSealed "sealed" = true)
    (kSealed : PySem.W.keepIn K (.ref fSealed) = true)
    (aOpened : PySem.W.nsIn K mainGlobals "opened" = some (some (.ref fOpened)))
    (lOpened : K.lookup fOpened = some ⟨ocOpened, odOpened, .func (PySem.W.fnOf "opened" "opened" (defArgs sOpened) (defBody sOpened) (defScope sOpened) .none kVOpened dcOpened pmOpened anOpened cdOpened ctOpened), slOpened⟩)
    (cOpened : PySem.W.codeIn K cdOpened "opened" = true)
    (kOpened : PySem.W.keepIn K (.ref fOpened) = true)
    (aKeysIn : PySem.W.nsIn K mainGlobals "keys_in" = some (some (.ref fKeysIn)))
    (lKeysIn : K.lookup fKeysIn = some ⟨ocKeysIn, odKeysIn, .func (PySem.W.fnOf "keys_in" "keys_in" (defArgs sKeysIn) (defBody sKeysIn) (defScope sKeysIn) .none kVKeysIn dcKeysIn pmKeysIn anKeysIn cdKeysIn ctKeysIn), slKeysIn⟩)
    (cKeysIn : PySem.W.codeIn K cdKeysIn "keys_in" = true)
    (kKeysIn : PySem.W.keepIn K (.ref fKeysIn) = true)
    (aIsChain : PySem.W.nsIn K mainGlobals "is_chain" = some (some (.ref fIsChain)))
    (lIsChain : K.lookup fIsChain = some ⟨ocIsChain, odIsChain, .func (PySem.W.fnOf "is_chain" "is_chain" (defArgs sIsChain) (defBody sIsChain) (defScope sIsChain) .none kVIsChain dcIsChain pmIsChain anIsChain cdIsChain ctIsChain), slIsChain⟩)
    (cIsChain : PySem.W.codeIn K cdIsChain "is_chain" = true)
    (kIsChain : PySem.W.keepIn K (.ref fIsChain) = true)
    (aOwn : PySem.W.nsIn K mainGlobals "own_places" = some (some (.ref fOwn)))
    (lOwn : K.lookup fOwn = some ⟨ocOwn, odOwn, .func (PySem.W.fnOf "own_places" "own_places" (defArgs sOwn) (defBody sOwn) (defScope sOwn) .none kVOwn dcOwn pmOwn anOwn cdOwn ctOwn), slOwn⟩)
    (cOwn : PySem.W.codeIn K cdOwn "own_places" = true)
    (kOwn : PySem.W.keepIn K (.ref fOwn) = true)
    (aFind : PySem.W.nsIn K mainGlobals "find_places" = some (some (.ref fFind)))
    (lFind : K.lookup fFind = some ⟨ocFind, odFind, .func (PySem.W.fnOf "find_places" "find_places" (defArgs sFind) (defBody sFind) (defScope sFind) .none kVFind dcFind pmFind anFind cdFind ctFind), slFind⟩)
    (cFind : PySem.W.codeIn K cdFind "find_places" = true)
    (kFind : PySem.W.keepIn K (.ref fFind) = true)
    (aAInit : PySem.W.findIn K (.ref CA) "__init__" = some (some (.ref fAInit)))
    (iAInit : PySem.W.isFn K (.ref fAInit) = true)
    (lAInit : K.lookup fAInit = some ⟨ocAInit, odAInit, .func (PySem.W.fnOf "__init__" "Asked.__init__" (defArgs sAInit) (defBody sAInit) (defScope sAInit) .none kVAInit dcAInit pmAInit anAInit cdAInit ctAInit), slAInit⟩)
    (cAInit : PySem.W.codeIn K cdAInit "Asked.__init__" = true)
    (kAInit : PySem.W.keepIn K (.ref fAInit) = true)
    (aNote : PySem.W.findIn K (.ref CA) "note" = some (some (.ref fNote)))
    (iNote : PySem.W.isFn K (.ref fNote) = true)
    (lNote : K.lookup fNote = some ⟨ocNote, odNote, .func (PySem.W.fnOf "note" "Asked.note" (defArgs sNote) (defBody sNote) (defScope sNote) .none kVNote dcNote pmNote anNote cdNote ctNote), slNote⟩)
    (cNote : PySem.W.codeIn K cdNote "Asked.note" = true)
    (kNote : PySem.W.keepIn K (.ref fNote) = true)
    (aTold : PySem.W.findIn K (.ref CA) "told" = some (some (.ref fTold)))
    (iTold : PySem.W.isFn K (.ref fTold) = true)
    (lTold : K.lookup fTold = some ⟨ocTold, odTold, .func (PySem.W.fnOf "told" "Asked.told" (defArgs sTold) (defBody sTold) (defScope sTold) .none kVTold dcTold pmTold anTold cdTold ctTold), slTold⟩)
    (cTold : PySem.W.codeIn K cdTold "Asked.told" = true)
    (kTold : PySem.W.keepIn K (.ref fTold) = true)
    (aPInit : PySem.W.findIn K (.ref CP) "__init__" = some (some (.ref fPInit)))
    (iPInit : PySem.W.isFn K (.ref fPInit) = true)
    (lPInit : K.lookup fPInit = some ⟨ocPInit, odPInit, .func (PySem.W.fnOf "__init__" "Pages.__init__" (defArgs sPInit) (defBody sPInit) (defScope sPInit) .none kVPInit dcPInit pmPInit anPInit cdPInit ctPInit), slPInit⟩)
    (cPInit : PySem.W.codeIn K cdPInit "Pages.__init__" = true)
    (kPInit : PySem.W.keepIn K (.ref fPInit) = true)
    (aFill : PySem.W.findIn K (.ref CP) "fill" = some (some (.ref fFill)))
    (iFill : PySem.W.isFn K (.ref fFill) = true)
    (lFill : K.lookup fFill = some ⟨ocFill, odFill, .func (PySem.W.fnOf "fill" "Pages.fill" (defArgs sFill) (defBody sFill) (defScope sFill) .none kVFill dcFill pmFill anFill cdFill ctFill), slFill⟩)
    (cFill : PySem.W.codeIn K cdFill "Pages.fill" = true)
    (kFill : PySem.W.keepIn K (.ref fFill) = true)
    (aPage : PySem.W.findIn K (.ref CP) "page" = some (some (.ref fPage)))
    (iPage : PySem.W.isFn K (.ref fPage) = true)
    (lPage : K.lookup fPage = some ⟨ocPage, odPage, .func (PySem.W.fnOf "page" "Pages.page" (defArgs sPage) (defBody sPage) (defScope sPage) .none kVPage dcPage pmPage anPage cdPage ctPage), slPage⟩)
    (cPage : PySem.W.codeIn K cdPage "Pages.page" = true)
    (kPage : PySem.W.keepIn K (.ref fPage) = true)
    (aPFind : PySem.W.findIn K (.ref CP) "find" = some (some (.ref fPFind)))
    (iPFind : PySem.W.isFn K (.ref fPFind) = true)
    (lPFind : K.lookup fPFind = some ⟨ocPFind, odPFind, .func (PySem.W.fnOf "find" "Pages.find" (defArgs sPFind) (defBody sPFind) (defScope sPFind) .none kVPFind dcPFind pmPFind anPFind cdPFind ctPFind), slPFind⟩)
    (cPFind : PySem.W.codeIn K cdPFind "Pages.find" = true)
    (kPFind : PySem.W.keepIn K (.ref fPFind) = true)
    (aWrite : PySem.W.findIn K (.ref CP) "write" = some (some (.ref fWrite)))
    (iWrite : PySem.W.isFn K (.ref fWrite) = true)
    (lWrite : K.lookup fWrite = some ⟨ocWrite, odWrite, .func (PySem.W.fnOf "write" "Pages.write" (defArgs sWrite) (defBody sWrite) (defScope sWrite) .none kVWrite dcWrite pmWrite anWrite cdWrite ctWrite), slWrite⟩)
    (cWrite : PySem.W.codeIn K cdWrite "Pages.write" = true)
    (kWrite : PySem.W.keepIn K (.ref fWrite) = true)
    (aPPut : PySem.W.findIn K (.ref CP) "put" = some (some (.ref fPPut)))
    (iPPut : PySem.W.isFn K (.ref fPPut) = true)
    (lPPut : K.lookup fPPut = some ⟨ocPPut, odPPut, .func (PySem.W.fnOf "put" "Pages.put" (defArgs sPPut) (defBody sPPut) (defScope sPPut) .none kVPPut dcPPut pmPPut anPPut cdPPut ctPPut), slPPut⟩)
    (cPPut : PySem.W.codeIn K cdPPut "Pages.put" = true)
    (kPPut : PySem.W.keepIn K (.ref fPPut) = true)
    (aPGet : PySem.W.findIn K (.ref CP) "get" = some (some (.ref fPGet)))
    (iPGet : PySem.W.isFn K (.ref fPGet) = true)
    (lPGet : K.lookup fPGet = some ⟨ocPGet, odPGet, .func (PySem.W.fnOf "get" "Pages.get" (defArgs sPGet) (defBody sPGet) (defScope sPGet) .none kVPGet dcPGet pmPGet anPGet cdPGet ctPGet), slPGet⟩)
    (cPGet : PySem.W.codeIn K cdPGet "Pages.get" = true)
    (kPGet : PySem.W.keepIn K (.ref fPGet) = true)
    (aPDrop : PySem.W.findIn K (.ref CP) "drop" = some (some (.ref fPDrop)))
    (iPDrop : PySem.W.isFn K (.ref fPDrop) = true)
    (lPDrop : K.lookup fPDrop = some ⟨ocPDrop, odPDrop, .func (PySem.W.fnOf "drop" "Pages.drop" (defArgs sPDrop) (defBody sPDrop) (defScope sPDrop) .none kVPDrop dcPDrop pmPDrop anPDrop cdPDrop ctPDrop), slPDrop⟩)
    (cPDrop : PySem.W.codeIn K cdPDrop "Pages.drop" = true)
    (kPDrop : PySem.W.keepIn K (.ref fPDrop) = true)
    (aPut : PySem.W.nsIn K mainGlobals "put" = some (some (.ref fPut)))
    (lPut : K.lookup fPut = some ⟨ocPut, odPut, .func (PySem.W.fnOf "put" "put" (defArgs sPut) (defBody sPut) (defScope sPut) .none kVPut dcPut pmPut anPut cdPut ctPut), slPut⟩)
    (cPut : PySem.W.codeIn K cdPut "put" = true)
    (kPut : PySem.W.keepIn K (.ref fPut) = true)
    (aGet : PySem.W.nsIn K mainGlobals "get" = some (some (.ref fGet)))
    (lGet : K.lookup fGet = some ⟨ocGet, odGet, .func (PySem.W.fnOf "get" "get" (defArgs sGet) (defBody sGet) (defScope sGet) .none kVGet dcGet pmGet anGet cdGet ctGet), slGet⟩)
    (cGet : PySem.W.codeIn K cdGet "get" = true)
    (kGet : PySem.W.keepIn K (.ref fGet) = true)
    (aDrop : PySem.W.nsIn K mainGlobals "drop" = some (some (.ref fDrop)))
    (lDrop : K.lookup fDrop = some ⟨ocDrop, odDrop, .func (PySem.W.fnOf "drop" "drop" (defArgs sDrop) (defBody sDrop) (defScope sDrop) .none kVDrop dcDrop pmDrop anDrop cdDrop ctDrop), slDrop⟩)
    (cDrop : PySem.W.codeIn K cdDrop "drop" = true)
    (kDrop : PySem.W.keepIn K (.ref fDrop) = true)
    (aAnswered : PySem.W.nsIn K mainGlobals "answered" = some (some (.ref fAnswered)))
    (lAnswered : K.lookup fAnswered = some ⟨ocAnswered, odAnswered, .func (PySem.W.fnOf "answered" "answered" (defArgs sAnswered) (defBody sAnswered) (defScope sAnswered) .none kVAnswered dcAnswered pmAnswered anAnswered cdAnswered ctAnswered), slAnswered⟩)
    (cAnswered : PySem.W.codeIn K cdAnswered "answered" = true)
    (kAnswered : PySem.W.keepIn K (.ref fAnswered) = true)
    (aRowsAt : PySem.W.nsIn K mainGlobals "rows_at" = some (some (.ref fRowsAt)))
    (lRowsAt : K.lookup fRowsAt = some ⟨ocRowsAt, odRowsAt, .func (PySem.W.fnOf "rows_at" "rows_at" (defArgs sRowsAt) (defBody sRowsAt) (defScope sRowsAt) .none kVRowsAt dcRowsAt pmRowsAt anRowsAt cdRowsAt ctRowsAt), slRowsAt⟩)
    (cRowsAt : PySem.W.codeIn K cdRowsAt "rows_at" = true)
    (kRowsAt : PySem.W.keepIn K (.ref fRowsAt) = true)
    (aAnswers : PySem.W.nsIn K mainGlobals "answers" = some (some (.ref fAnswers)))
    (lAnswers : K.lookup fAnswers = some ⟨ocAnswers, odAnswers, .func (PySem.W.fnOf "answers" "answers" (defArgs sAnswers) (defBody sAnswers) (defScope sAnswers) .none kVAnswers dcAnswers pmAnswers anAnswers cdAnswers ctAnswers), slAnswers⟩)
    (cAnswers : PySem.W.codeIn K cdAnswers "answers" = true)
    (kAnswers : PySem.W.keepIn K (.ref fAnswers) = true)
    (pgCA : PySem.W.plainGet K CA Str.empty = true)
    (hdCA : PySem.W.hasDictIn K CA = true)
    (poCA : PySem.W.plainOver K CA = true)
    (saCA : PySem.W.findIn K (.ref CA) "__setattr__" = some (some (.builtin "object.__setattr__")))
    (mkCA : PySem.W.makesIn K CA = true)
    (kcCA : PySem.W.keepIn K (.ref CA) = true)
    (pgCP : PySem.W.plainGet K CP Str.empty = true)
    (hdCP : PySem.W.hasDictIn K CP = true)
    (poCP : PySem.W.plainOver K CP = true)
    (saCP : PySem.W.findIn K (.ref CP) "__setattr__" = some (some (.builtin "object.__setattr__")))
    (mkCP : PySem.W.makesIn K CP = true)
    (kcCP : PySem.W.keepIn K (.ref CP) = true)
    (nM : PySem.W.findIn K (.ref CA) "many" = some none)
    (nN : PySem.W.findIn K (.ref CA) "numbers" = some none)
    (nR_ : PySem.W.findIn K (.ref CP) "rows" = some none)
    (z_range : PySem.W.nsIn K mainGlobals "range" = some none)
    (z_len : PySem.W.nsIn K mainGlobals "len" = some none)
    (z_list : PySem.W.nsIn K mainGlobals "list" = some none)
    (z_zip : PySem.W.nsIn K mainGlobals "zip" = some none)
    (v_PAGES : PySem.W.nsIn K mainGlobals "PAGES" = some (some (.int 1024 tPAGES)))
    (v_PAGE_BYTES : PySem.W.nsIn K mainGlobals "PAGE_BYTES" = some (some (.int 96 tPAGE_BYTES)))
    (v_KEY_BYTES : PySem.W.nsIn K mainGlobals "KEY_BYTES" = some (some (.int 32 tKEY_BYTES)))
    (v_SALT_BYTES : PySem.W.nsIn K mainGlobals "SALT_BYTES" = some (some (.int 16 tSALT_BYTES)))
    (v_MARK_BYTES : PySem.W.nsIn K mainGlobals "MARK_BYTES" = some (some (.int 16 tMARK_BYTES)))
    (v_PAD_BYTES : PySem.W.nsIn K mainGlobals "PAD_BYTES" = some (some (.int 80 tPAD_BYTES)))
    (v_BYTE : PySem.W.nsIn K mainGlobals "BYTE" = some (some (.int 256 tBYTE)))
    (v_SLOTS : PySem.W.nsIn K mainGlobals "SLOTS" = some (some (.int 64 tSLOTS)))
    (v_MOST_KEYS : PySem.W.nsIn K mainGlobals "MOST_KEYS" = some (some (.int 4 tMOST_KEYS)))
    (v_READ : PySem.W.nsIn K mainGlobals "READ" = some (some (.int 1 tREAD)))
    (v_WRITTEN : PySem.W.nsIn K mainGlobals "WRITTEN" = some (some (.int 2 tWRITTEN)))
    (v_CHANCE : PySem.W.nsIn K mainGlobals "CHANCE" = some (some (.int 3 tCHANCE)))
    (v_PLACE : PySem.W.nsIn K mainGlobals "PLACE" = some (some (.int 4 tPLACE)))
    (v_PAD : PySem.W.nsIn K mainGlobals "PAD" = some (some (.int 5 tPAD)))
    (v_BAD : PySem.W.nsIn K mainGlobals "BAD" = some (some (.int (-22) tBAD)))
    (v_NOTHING : PySem.W.nsIn K mainGlobals "NOTHING" = some (some (.int (-2) tNOTHING)))
    (v_FRESH : PySem.W.nsIn K mainGlobals "FRESH" = some (some (.int 0 tFRESH)))
    (v_PUT : PySem.W.nsIn K mainGlobals "PUT" = some (some (.int 1 tPUT)))
    (v_GET : PySem.W.nsIn K mainGlobals "GET" = some (some (.int 2 tGET)))
    (v_DROP : PySem.W.nsIn K mainGlobals "DROP" = some (some (.int 3 tDROP)))
    (aR : PySem.W.nsIn K mainGlobals "ROWS" = some (some (.ref tp)))
    (lR : K.lookup tp = some ⟨.type "tuple", odR, .seq #[.int 0 r0, .int 3 r1, .int 1 r2, .int 2 r3, .int 0 r4] nR, slR⟩)
    : ∃ fd : FuncData, (∀ (s : Shared) (us : List Value), us.length = (["calls"] : List Str).length → BindsTo s fd ⟨us, []⟩ ((["calls"] : List Str).zip us)) ∧ ∀ base : Heap, K.In base → base.Ns mainGlobals mg → FnOk P w K mg base CX0 8 fa fd ["calls"] (spAnswers K) := by
  have e := hfa.symm.trans (PySem.W.mg_of X G aAnswers)
  cases e
  have clA : Cls K CA := ⟨pgCA, hdCA, poCA, saCA⟩
  have clP : Cls K CP := ⟨pgCP, hdCP, poCP, saCP⟩
  have T : Txt K mg CA CP := { clA := clA, nM := nM, nN := nN, clP := clP, nR := nR_, range := PySem.W.mg_none_of X G z_range, len := PySem.W.mg_none_of X G z_len, list := PySem.W.mg_none_of X G z_list, zip := PySem.W.mg_none_of X G z_zip, PAGES := ⟨_, PySem.W.mg_of X G v_PAGES⟩, PAGE_BYTES := ⟨_, PySem.W.mg_of X G v_PAGE_BYTES⟩, KEY_BYTES := ⟨_, PySem.W.mg_of X G v_KEY_BYTES⟩, SALT_BYTES := ⟨_, PySem.W.mg_of X G v_SALT_BYTES⟩, MARK_BYTES := ⟨_, PySem.W.mg_of X G v_MARK_BYTES⟩, PAD_BYTES := ⟨_, PySem.W.mg_of X G v_PAD_BYTES⟩, BYTE := ⟨_, PySem.W.mg_of X G v_BYTE⟩, SLOTS := ⟨_, PySem.W.mg_of X G v_SLOTS⟩, MOST_KEYS := ⟨_, PySem.W.mg_of X G v_MOST_KEYS⟩, READ := ⟨_, PySem.W.mg_of X G v_READ⟩, WRITTEN := ⟨_, PySem.W.mg_of X G v_WRITTEN⟩, CHANCE := ⟨_, PySem.W.mg_of X G v_CHANCE⟩, PLACE := ⟨_, PySem.W.mg_of X G v_PLACE⟩, PAD := ⟨_, PySem.W.mg_of X G v_PAD⟩, BAD := ⟨_, PySem.W.mg_of X G v_BAD⟩, NOTHING := ⟨_, PySem.W.mg_of X G v_NOTHING⟩, FRESH := ⟨_, PySem.W.mg_of X G v_FRESH⟩, PUT := ⟨_, PySem.W.mg_of X G v_PUT⟩, GET := ⟨_, PySem.W.mg_of X G v_GET⟩, DROP := ⟨_, PySem.W.mg_of X G v_DROP⟩ }
  have RT : RowsTup K mg := ⟨tp, PySem.W.mg_of X G aR, fun H => .inr ⟨_, _, _, lR, rfl, rfl, (by show 5 ≤ sizeLine; decide), .cons ⟨_, rfl⟩ (.cons ⟨_, rfl⟩ (.cons ⟨_, rfl⟩ (.cons ⟨_, rfl⟩ (.cons ⟨_, rfl⟩ .nil))))⟩⟩
  have FPlace := fun_mk (st := sPlace) lPlace cPlace kPlace
  have bPlace := FPlace.binds (ps := ["key", "j"]) fun _ _ _ _ _ _ us hl => match us, hl with | [_, _], _ => rfl
  have FPad := fun_mk (st := sPad) lPad cPad kPad
  have bPad := FPad.binds (ps := ["key", "salt"]) fun _ _ _ _ _ _ us hl => match us, hl with | [_, _], _ => rfl
  have FUnder := fun_mk (st := sUnder) lUnder cUnder kUnder
  have bUnder := FUnder.binds (ps := ["pad", "row"]) fun _ _ _ _ _ _ us hl => match us, hl with | [_, _], _ => rfl
  have FSealed := fun_mk (st := sSealed) lSealed cSealed kSealed
  have bSealed := FSealed.binds (ps := ["key", "salt", "data"]) fun _ _ _ _ _ _ us hl => match us, hl with | [_, _, _], _ => rfl
  have FOpened := fun_mk (st := sOpened) lOpened cOpened kOpened
  have bOpened := FOpened.binds (ps := ["key", "page"]) fun _ _ _ _ _ _ us hl => match us, hl with | [_, _], _ => rfl
  have FKeysIn := fun_mk (st := sKeysIn) lKeysIn cKeysIn kKeysIn
  have bKeysIn := FKeysIn.binds (ps := ["row"]) fun _ _ _ _ _ _ us hl => match us, hl with | [_], _ => rfl
  have FIsChain := fun_mk (st := sIsChain) lIsChain cIsChain kIsChain
  have bIsChain := FIsChain.binds (ps := ["keys"]) fun _ _ _ _ _ _ us hl => match us, hl with | [_], _ => rfl
  have FOwn := fun_mk (st := sOwn) lOwn cOwn kOwn
  have bOwn := FOwn.binds (ps := ["key", "taken"]) fun _ _ _ _ _ _ us hl => match us, hl with | [_, _], _ => rfl
  have FFind := fun_mk (st := sFind) lFind cFind kFind
  have bFind := FFind.binds (ps := ["keys"]) fun _ _ _ _ _ _ us hl => match us, hl with | [_], _ => rfl
  have FAInit := fun_mk (st := sAInit) lAInit cAInit kAInit
  have bAInit := FAInit.binds (ps := ["self"]) fun _ _ _ _ _ _ us hl => match us, hl with | [_], _ => rfl
  have FNote := fun_mk (st := sNote) lNote cNote kNote
  have bNote := FNote.binds (ps := ["self", "row"]) fun _ _ _ _ _ _ us hl => match us, hl with | [_, _], _ => rfl
  have FTold := fun_mk (st := sTold) lTold cTold kTold
  have bTold := FTold.binds (ps := ["self"]) fun _ _ _ _ _ _ us hl => match us, hl with | [_], _ => rfl
  have FPInit := fun_mk (st := sPInit) lPInit cPInit kPInit
  have bPInit := FPInit.binds (ps := ["self"]) fun _ _ _ _ _ _ us hl => match us, hl with | [_], _ => rfl
  have FFill := fun_mk (st := sFill) lFill cFill kFill
  have bFill := FFill.binds (ps := ["self", "seed"]) fun _ _ _ _ _ _ us hl => match us, hl with | [_, _], _ => rfl
  have FPage := fun_mk (st := sPage) lPage cPage kPage
  have bPage := FPage.binds (ps := ["self", "number"]) fun _ _ _ _ _ _ us hl => match us, hl with | [_, _], _ => rfl
  have FPFind := fun_mk (st := sPFind) lPFind cPFind kPFind
  have bPFind := FPFind.binds (ps := ["self", "asked", "keys", "i"]) fun _ _ _ _ _ _ us hl => match us, hl with | [_, _, _, _], _ => rfl
  have FWrite := fun_mk (st := sWrite) lWrite cWrite kWrite
  have bWrite := FWrite.binds (ps := ["self", "asked", "page", "row"]) fun _ _ _ _ _ _ us hl => match us, hl with | [_, _, _, _], _ => rfl
  have FPPut := fun_mk (st := sPPut) lPPut cPPut kPPut
  have bPPut := FPPut.binds (ps := ["self", "asked", "keys", "i", "data", "script"]) fun _ _ _ _ _ _ us hl => match us, hl with | [_, _, _, _, _, _], _ => rfl
  have FPGet := fun_mk (st := sPGet) lPGet cPGet kPGet
  have bPGet := FPGet.binds (ps := ["self", "asked", "keys", "i"]) fun _ _ _ _ _ _ us hl => match us, hl with | [_, _, _, _], _ => rfl
  have FPDrop := fun_mk (st := sPDrop) lPDrop cPDrop kPDrop
  have bPDrop := FPDrop.binds (ps := ["self", "asked", "keys", "i", "script"]) fun _ _ _ _ _ _ us hl => match us, hl with | [_, _, _, _, _], _ => rfl
  have FPut := fun_mk (st := sPut) lPut cPut kPut
  have bPut := FPut.binds (ps := ["pages", "i", "rows"]) fun _ _ _ _ _ _ us hl => match us, hl with | [_, _, _], _ => rfl
  have FGet := fun_mk (st := sGet) lGet cGet kGet
  have bGet := FGet.binds (ps := ["pages", "i", "rows"]) fun _ _ _ _ _ _ us hl => match us, hl with | [_, _, _], _ => rfl
  have FDrop := fun_mk (st := sDrop) lDrop cDrop kDrop
  have bDrop := FDrop.binds (ps := ["pages", "i", "rows"]) fun _ _ _ _ _ _ us hl => match us, hl with | [_, _, _], _ => rfl
  have FAnswered := fun_mk (st := sAnswered) lAnswered cAnswered kAnswered
  have bAnswered := FAnswered.binds (ps := ["pages", "call", "number", "rows"]) fun _ _ _ _ _ _ us hl => match us, hl with | [_, _, _, _], _ => rfl
  have FRowsAt := fun_mk (st := sRowsAt) lRowsAt cRowsAt kRowsAt
  have bRowsAt := FRowsAt.binds (ps := ["calls", "at", "many"]) fun _ _ _ _ _ _ us hl => match us, hl with | [_, _, _], _ => rfl
  have FAnswers := fun_mk (st := sAnswers) lAnswers cAnswers kAnswers
  refine ⟨PySem.W.fnOf "answers" "answers" (defArgs sAnswers) (defBody sAnswers) (defScope sAnswers) .none kVAnswers dcAnswers pmAnswers anAnswers cdAnswers ctAnswers, fun s us hu => match us, hu with | [_], _ => .of_eq rfl, fun base _ _ => ?_⟩
  have CPlace : Cal P w K mg base 1 "place_of" (spPlace K) := ⟨fPlace, _, _, ok_place FPlace T, PySem.W.mg_of X G aPlace, kPlace, bPlace⟩
  have CPad : Cal P w K mg base 1 "pad_of" (spPad K) := ⟨fPad, _, _, ok_pad FPad T, PySem.W.mg_of X G aPad, kPad, bPad⟩
  have CUnder : Cal P w K mg base 1 "under" (spUnder K) := ⟨fUnder, _, _, ok_under FUnder T, PySem.W.mg_of X G aUnder, kUnder, bUnder⟩
  have CSealed : Cal P w K mg base 2 "sealed" (spSealed K) := ⟨fSealed, _, _, ok_sealed FSealed T CUnder CPad, PySem.W.mg_of X G aSealed, kSealed, bSealed⟩
  have COpened : Cal P w K mg base 2 "opened" (spOpened K) := ⟨fOpened, _, _, ok_opened FOpened T CUnder CPad, PySem.W.mg_of X G aOpened, kOpened, bOpened⟩
  have CKeysIn : Cal P w K mg base 1 "keys_in" (spKeysIn K) := ⟨fKeysIn, _, _, ok_keysIn FKeysIn T, PySem.W.mg_of X G aKeysIn, kKeysIn, bKeysIn⟩
  have CIsChain : Cal P w K mg base 1 "is_chain" (spIsChain K) := ⟨fIsChain, _, _, ok_isChain FIsChain T, PySem.W.mg_of X G aIsChain, kIsChain, bIsChain⟩
  have COwn : Cal P w K mg base 2 "own_places" (spOwn K) := ⟨fOwn, _, _, ok_own FOwn T CPlace, PySem.W.mg_of X G aOwn, kOwn, bOwn⟩
  have CFind : Cal P w K mg base 3 "find_places" spFind := ⟨fFind, _, _, ok_find FFind COwn, PySem.W.mg_of X G aFind, kFind, bFind⟩
  have CAInit : Mak P w K mg base 1 "Asked" CA (spAInit CA) := ⟨fAInit, _, _, ⟨mkCA, aAInit, iAInit, kcCA⟩, ok_aInit FAInit T, PySem.W.mg_of X G aA, bAInit⟩
  have CNote : Met P w K mg base 1 CA "note" (spNote CA) := ⟨fNote, _, _, clA, ⟨aNote, iNote, kNote⟩, ok_note FNote T, bNote⟩
  have CTold : Met P w K mg base 1 CA "told" (spTold CA) := ⟨fTold, _, _, clA, ⟨aTold, iTold, kTold⟩, ok_told FTold T, bTold⟩
  have CPInit : Mak P w K mg base 1 "Pages" CP (spPInit CP) := ⟨fPInit, _, _, ⟨mkCP, aPInit, iPInit, kcCP⟩, ok_pInit FPInit T, PySem.W.mg_of X G aP, bPInit⟩
  have CFill : Met P w K mg base 1 CP "fill" (spFill CP) := ⟨fFill, _, _, clP, ⟨aFill, iFill, kFill⟩, ok_fill FFill T, bFill⟩
  have CPage : Met P w K mg base 1 CP "page" (spPage CP) := ⟨fPage, _, _, clP, ⟨aPage, iPage, kPage⟩, ok_page FPage T, bPage⟩
  have CPFind : Met P w K mg base 4 CP "find" (spPFind CA) := ⟨fPFind, _, _, clP, ⟨aPFind, iPFind, kPFind⟩, ok_pFind FPFind T CFind CNote, bPFind⟩
  have CWrite : Met P w K mg base 2 CP "write" (spWrite CA CP) := ⟨fWrite, _, _, clP, ⟨aWrite, iWrite, kWrite⟩, ok_write FWrite T CNote, bWrite⟩
  have CPPut : Met P w K mg base 5 CP "put" (spPPut CA CP) := ⟨fPPut, _, _, clP, ⟨aPPut, iPPut, kPPut⟩, ok_pPut FPPut T CPFind CNote CWrite CSealed, bPPut⟩
  have CPGet : Met P w K mg base 5 CP "get" (spPGet CA CP) := ⟨fPGet, _, _, clP, ⟨aPGet, iPGet, kPGet⟩, ok_pGet FPGet T CPFind CNote CPage COpened, bPGet⟩
  have CPDrop : Met P w K mg base 5 CP "drop" (spPDrop CA CP) := ⟨fPDrop, _, _, clP, ⟨aPDrop, iPDrop, kPDrop⟩, ok_pDrop FPDrop T CPFind CNote CWrite, bPDrop⟩
  have CPut : Cal P w K mg base 6 "put" (spPut CP) := ⟨fPut, _, _, ok_put FPut T CAInit CTold CKeysIn CIsChain CPPut, PySem.W.mg_of X G aPut, kPut, bPut⟩
  have CGet : Cal P w K mg base 6 "get" (spGet CP) := ⟨fGet, _, _, ok_get FGet T CAInit CTold CKeysIn CIsChain CPGet, PySem.W.mg_of X G aGet, kGet, bGet⟩
  have CDrop : Cal P w K mg base 6 "drop" (spDrop CP) := ⟨fDrop, _, _, ok_drop FDrop T CAInit CTold CKeysIn CIsChain CPDrop, PySem.W.mg_of X G aDrop, kDrop, bDrop⟩
  have CAnswered : Cal P w K mg base 7 "answered" (spAnswered CP) := ⟨fAnswered, _, _, ok_answered FAnswered T CFill CPage CPut CGet CDrop, PySem.W.mg_of X G aAnswered, kAnswered, bAnswered⟩
  have CRowsAt : Cal P w K mg base 1 "rows_at" (spRowsAt K) := ⟨fRowsAt, _, _, ok_rowsAt FRowsAt T, PySem.W.mg_of X G aRowsAt, kRowsAt, bRowsAt⟩
  exact ok_answers FAnswers T RT CPInit CRowsAt CAnswered
end Hd
open PySem PySem.W PyProof.Rows
set_option maxRecDepth 100000 in
set_option maxHeartbeats 0 in
theorem PySem.Challenge.cw_hiddendrawers_s01_answers_holds : PySem.Challenge.rw_hiddendrawers_s01_answers.Holds := by
  w_on; k_headS; (case hw => exact ⟨[.list [.int 4, .int 0]], by decide +kernel, by decide +kernel⟩)
  k_fillS
  refine L2.walk_specK (r := PySem.Challenge.rw_hiddendrawers_s01_answers) (k := 8) (CX := L2.CX0) (ps := ["calls"]) (sp := Hd.spAnswers) (by decide +kernel) rfl rfl ⟨rfl, by decide, by decide⟩ (fun w h Y => PySem.W.kIn_of Y) ?F ?S (fun _ _ _ _ z => z)
  case F =>
    intro w mg fa h Y KX G hmg
    refine' Hd.all_mk KX G hmg ?aA ?aP ?aPlace ?lPlace ?cPlace ?kPlace ?aPad ?lPad ?cPad ?kPad ?aUnder ?lUnder ?cUnder ?kUnder ?aSealed ?lSealed ?cSealed ?kSealed ?aOpened ?lOpened ?cOpened ?kOpened ?aKeysIn ?lKeysIn ?cKeysIn ?kKeysIn ?aIsChain ?lIsChain ?cIsChain ?kIsChain ?aOwn ?lOwn ?cOwn ?kOwn ?aFind ?lFind ?cFind ?kFind ?aAInit ?iAInit ?lAInit ?cAInit ?kAInit ?aNote ?iNote ?lNote ?cNote ?kNote ?aTold ?iTold ?lTold ?cTold ?kTold ?aPInit ?iPInit ?lPInit ?cPInit ?kPInit ?aFill ?iFill ?lFill ?cFill ?kFill ?aPage ?iPage ?lPage ?cPage ?kPage ?aPFind ?iPFind ?lPFind ?cPFind ?kPFind ?aWrite ?iWrite ?lWrite ?cWrite ?kWrite ?aPPut ?iPPut ?lPPut ?cPPut ?kPPut ?aPGet ?iPGet ?lPGet ?cPGet ?kPGet ?aPDrop ?iPDrop ?lPDrop ?cPDrop ?kPDrop ?aPut ?lPut ?cPut ?kPut ?aGet ?lGet ?cGet ?kGet ?aDrop ?lDrop ?cDrop ?kDrop ?aAnswered ?lAnswered ?cAnswered ?kAnswered ?aRowsAt ?lRowsAt ?cRowsAt ?kRowsAt ?aAnswers ?lAnswers ?cAnswers ?kAnswers ?pgCA ?hdCA ?poCA ?saCA ?mkCA ?kcCA ?pgCP ?hdCP ?poCP ?saCP ?mkCP ?kcCP ?nM ?nN ?nR_ ?z_range ?z_len ?z_list ?z_zip ?v_PAGES ?v_PAGE_BYTES ?v_KEY_BYTES ?v_SALT_BYTES ?v_MARK_BYTES ?v_PAD_BYTES ?v_BYTE ?v_SLOTS ?v_MOST_KEYS ?v_READ ?v_WRITTEN ?v_CHANCE ?v_PLACE ?v_PAD ?v_BAD ?v_NOTHING ?v_FRESH ?v_PUT ?v_GET ?v_DROP ?aR ?lR
    (case aA => k_is)
    (case aP => k_is)
    (case aPlace => k_is)
    (case lPlace => k_is)
    (case cPlace => k_is)
    (case kPlace => k_is)
    (case aPad => k_is)
    (case lPad => k_is)
    (case cPad => k_is)
    (case kPad => k_is)
    (case aUnder => k_is)
    (case lUnder => k_is)
    (case cUnder => k_is)
    (case kUnder => k_is)
    (case aSealed => k_is)
    (case lSealed => k_is)
    (case cSealed => k_is)
    (case kSealed => k_is)
    (case aOpened => k_is)
    (case lOpened => k_is)
    (case cOpened => k_is)
    (case kOpened => k_is)
    (case aKeysIn => k_is)
    (case lKeysIn => k_is)
    (case cKeysIn => k_is)
    (case kKeysIn => k_is)
    (case aIsChain => k_is)
    (case lIsChain => k_is)
    (case cIsChain => k_is)
    (case kIsChain => k_is)
    (case aOwn => k_is)
    (case lOwn => k_is)
    (case cOwn => k_is)
    (case kOwn => k_is)
    (case aFind => k_is)
    (case lFind => k_is)
    (case cFind => k_is)
    (case kFind => k_is)
    (case aAInit => k_is)
    (case iAInit => k_is)
    (case lAInit => k_is)
    (case cAInit => k_is)
    (case kAInit => k_is)
    (case aNote => k_is)
    (case iNote => k_is)
    (case lNote => k_is)
    (case cNote => k_is)
    (case kNote => k_is)
    (case aTold => k_is)
    (case iTold => k_is)
    (case lTold => k_is)
    (case cTold => k_is)
    (case kTold => k_is)
    (case aPInit => k_is)
    (case iPInit => k_is)
    (case lPInit => k_is)
    (case cPInit => k_is)
    (case kPInit => k_is)
    (case aFill => k_is)
    (case iFill => k_is)
    (case lFill => k_is)
    (case cFill => k_is)
    (case kFill => k_is)
    (case aPage => k_is)
    (case iPage => k_is)
    (case lPage => k_is)
    (case cPage => k_is)
    (case kPage => k_is)
    (case aPFind => k_is)
    (case iPFind => k_is)
    (case lPFind => k_is)
    (case cPFind => k_is)
    (case kPFind => k_is)
    (case aWrite => k_is)
    (case iWrite => k_is)
    (case lWrite => k_is)
    (case cWrite => k_is)
    (case kWrite => k_is)
    (case aPPut => k_is)
    (case iPPut => k_is)
    (case lPPut => k_is)
    (case cPPut => k_is)
    (case kPPut => k_is)
    (case aPGet => k_is)
    (case iPGet => k_is)
    (case lPGet => k_is)
    (case cPGet => k_is)
    (case kPGet => k_is)
    (case aPDrop => k_is)
    (case iPDrop => k_is)
    (case lPDrop => k_is)
    (case cPDrop => k_is)
    (case kPDrop => k_is)
    (case aPut => k_is)
    (case lPut => k_is)
    (case cPut => k_is)
    (case kPut => k_is)
    (case aGet => k_is)
    (case lGet => k_is)
    (case cGet => k_is)
    (case kGet => k_is)
    (case aDrop => k_is)
    (case lDrop => k_is)
    (case cDrop => k_is)
    (case kDrop => k_is)
    (case aAnswered => k_is)
    (case lAnswered => k_is)
    (case cAnswered => k_is)
    (case kAnswered => k_is)
    (case aRowsAt => k_is)
    (case lRowsAt => k_is)
    (case cRowsAt => k_is)
    (case kRowsAt => k_is)
    (case aAnswers => k_is)
    (case lAnswers => k_is)
    (case cAnswers => k_is)
    (case kAnswers => k_is)
    (case pgCA => k_is)
    (case hdCA => k_is)
    (case poCA => k_is)
    (case saCA => k_is)
    (case mkCA => k_is)
    (case kcCA => k_is)
    (case pgCP => k_is)
    (case hdCP => k_is)
    (case poCP => k_is)
    (case saCP => k_is)
    (case mkCP => k_is)
    (case kcCP => k_is)
    (case nM => k_is)
    (case nN => k_is)
    (case nR_ => k_is)
    (case z_range => k_is)
    (case z_len => k_is)
    (case z_list => k_is)
    (case z_zip => k_is)
    (case v_PAGES => k_is)
    (case v_PAGE_BYTES => k_is)
    (case v_KEY_BYTES => k_is)
    (case v_SALT_BYTES => k_is)
    (case v_MARK_BYTES => k_is)
    (case v_PAD_BYTES => k_is)
    (case v_BYTE => k_is)
    (case v_SLOTS => k_is)
    (case v_MOST_KEYS => k_is)
    (case v_READ => k_is)
    (case v_WRITTEN => k_is)
    (case v_CHANCE => k_is)
    (case v_PLACE => k_is)
    (case v_PAD => k_is)
    (case v_BAD => k_is)
    (case v_NOTHING => k_is)
    (case v_FRESH => k_is)
    (case v_PUT => k_is)
    (case v_GET => k_is)
    (case v_DROP => k_is)
    (case aR => k_is)
    (case lR => k_is)
  case S =>
    intro K H xs a hO hwi hask hx
    cases hx with
    | cons h1 h2 =>
      cases h2
      cases h1 with
      | lst hs ha =>
        have e := L2.ints_dw a.1 _ ha
        subst e
        have q : ((Codec.inLen 0 30000 a.1 && a.1.all (Codec.inInt 0 4294967295)) && true) = true := hwi
        rw [Bool.and_eq_true, Bool.and_eq_true] at q
        exact ⟨_, a.1, rfl, hs, (Codec.inNat_iff.mp q.1.1).2, hask, fun H' p hp => .lst (L2.SqL.of hp) (L2.dw_ints _)⟩
#print axioms PySem.Challenge.cw_hiddendrawers_s01_answers_holds
