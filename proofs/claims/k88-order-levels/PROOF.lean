import PyProof.Rows.All
import HandS.ForMost
import HandS.Deep
import KE.DataEq
import KE.DataCmp
import HandS.TupAny
import HandS.Conv
import HandS.TupLen
import HandS.IsInst
import HandS.Style
import HandS.Walk
import HandS.Zip
import KE.KDictPairs
import KE.KDictDisplayH
import HandS.Iter
import PyProof.DictUpdate
import HandS.SortInts
import HandS.SortRule
import KE.KDictCopyH
import KE.KDictSum
import KE.DatumOrd
import HandS.SortKw
import HandS.Ends
import HandS.WideBits
import PyProof.ReprRoads
import PyProof.PassesOwn
import HandS.Zip0
import KE.KDictZip
import PySem.Challenge.RW_webmaps_k88_whole_main_order_levels
import PyProof.ReprLen
import PyProof.FitsInt
set_option Elab.async false
set_option linter.all false
set_option autoImplicit false
set_option maxRecDepth 100000
set_option maxHeartbeats 4000000
/-! Ev0: plain data, how it lies in the abstract heap, who owns what. -/
namespace Ev
open PySem PySem.Spec L2

/-- plain data -/
inductive D where
  | non | bl (b : Bool) | int (i : Int) | str (s : Str)
  | tup (xs : List D) | lst (xs : List D)
  | dK (kvs : List (Key × D)) | dT (kvs : List (List Key × D))
  /-- the script -/
  | scr (ns : List Int)

/-- no list, no dict at its top -/
def D.imm : D → Bool
  | .lst _ => false | .dK _ => false | .dT _ => false | _ => true

section
variable (K : PySem.W.Frag) (H : Hp) (F : Addr → Prop)
/-- a list that may be read and that nobody of F writes -/
def RdL (p : Addr) (vs : List V) : Prop := (Rd H p (.lst vs) ∧ ¬ F p) ∨
  ∃ (o : Obj) (its : Array Value) (n : Nat), K.lookup p = some o ∧ o.cls = .type "list" ∧ o.dict = none ∧ o.data = .seq its n ∧ its.size ≤ sizeLine ∧ Vals vs its.toList
mutual
/-- v is the data d, and nothing of it that may change is in F -/
inductive RepD : V → D → Prop
  | non : RepD .non .non
  | bl (b : Bool) : RepD (.bl b) (.bl b)
  | int (i : Int) : RepD (.int i) (.int i)
  | str (s : Str) : RepD (.str s) (.str s)
  | tup {p : Addr} {vs : List V} {ds : List D} : H p = some (.tup vs) → RepDs vs ds → RepD (.ref p) (.tup ds)
  | lst {p : Addr} {vs : List V} {ds : List D} : H p = some (.lst vs) → ¬ F p → RepDs vs ds → RepD (.ref p) (.lst ds)
  | scr {p : Addr} {ns : List Int} : RdL K H F p (ns.map V.int) → RepD (.ref p) (.scr ns)
  | dK {p : Addr} {kvs : List (Key × V)} {kds : List (Key × D)} : Rd H p (.dK kvs) → ¬ F p → kvs.map (·.1) = kds.map (·.1) → RepDs (kvs.map (·.2)) (kds.map (·.2)) → RepD (.ref p) (.dK kds)
  | dT {p : Addr} {kvs : List (List Key × V)} {kds : List (List Key × D)} : Rd H p (.dT kvs) → ¬ F p → kvs.map (·.1) = kds.map (·.1) → RepDs (kvs.map (·.2)) (kds.map (·.2)) → RepD (.ref p) (.dT kds)
inductive RepDs : List V → List D → Prop
  | nil : RepDs [] []
  | cons {v : V} {d : D} {vs : List V} {ds : List D} : RepD v d → RepDs vs ds → RepDs (v :: vs) (d :: ds)
end
mutual
/-- v is the data d, whose first k levels of lists and dicts are ours to change: they stand at B -/
inductive RepO : Nat → V → D → List Addr → Prop
  | zero {v : V} {d : D} : RepD K H F v d → RepO 0 v d []
  | flat {k : Nat} {v : V} {d : D} : d.imm = true → RepD K H F v d → RepO (k + 1) v d []
  | lst {k : Nat} {p : Addr} {vs : List V} {ds : List D} {B : List Addr} : H p = some (.lst vs) → RepOs k vs ds B → RepO (k + 1) (.ref p) (.lst ds) (p :: B)
  | dK {k : Nat} {p : Addr} {kvs : List (Key × V)} {kds : List (Key × D)} {B : List Addr} : Rd H p (.dK kvs) → kvs.map (·.1) = kds.map (·.1) → RepOs k (kvs.map (·.2)) (kds.map (·.2)) B → RepO (k + 1) (.ref p) (.dK kds) (p :: B)
  | dT {k : Nat} {p : Addr} {kvs : List (List Key × V)} {kds : List (List Key × D)} {B : List Addr} : Rd H p (.dT kvs) → kvs.map (·.1) = kds.map (·.1) → RepOs k (kvs.map (·.2)) (kds.map (·.2)) B → RepO (k + 1) (.ref p) (.dT kds) (p :: B)
inductive RepOs : Nat → List V → List D → List Addr → Prop
  | nil {k : Nat} : RepOs k [] [] []
  | cons {k : Nat} {v : V} {d : D} {vs : List V} {ds : List D} {B C : List Addr} : RepO k v d B → RepOs k vs ds C → RepOs k (v :: vs) (d :: ds) (B ++ C)
end
end

section
variable {K : PySem.W.Frag} {H H' : Hp} {F F' : Addr → Prop}
theorem Rd.to {p : Addr} {u : HO} (h : ∀ o, H p = some o → H' p = some o) (r : Rd H p u) : Rd H' p u := by
  rcases r with r | ⟨o, r⟩
  · exact .inl (h _ r)
  · exact .inr ⟨o, h _ r⟩
theorem Rd.some {p : Addr} {u : HO} (r : Rd H p u) : ∃ o, H p = some o := by
  rcases r with r | ⟨o, r⟩
  · exact ⟨_, r⟩
  · exact ⟨_, r⟩
mutual
theorem RepD.to (h : ∀ p o, H p = some o → ¬ F p → H' p = some o ∧ ¬ F' p) (ht : ∀ p xs, H p = some (.tup xs) → H' p = some (.tup xs)) : ∀ {v : V} {d : D}, RepD K H F v d → RepD K H' F' v d
  | _, _, .non => .non
  | _, _, .bl b => .bl b
  | _, _, .int i => .int i
  | _, _, .str s => .str s
  | _, _, .tup e r => .tup (ht _ _ e) (RepDs.to h ht r)
  | _, _, .lst e n r => .lst (h _ _ e n).1 (h _ _ e n).2 (RepDs.to h ht r)
  | _, _, .scr e => .scr (by
      rcases e with ⟨e, n⟩ | e
      · obtain ⟨o, eo⟩ := Rd.some e
        exact .inl ⟨Rd.to (fun o q => (h _ _ q n).1) e, (h _ _ eo n).2⟩
      · exact .inr e)
  | _, _, .dK e n q r => by
      obtain ⟨o, eo⟩ := Rd.some e
      exact .dK (Rd.to (fun o q => (h _ _ q n).1) e) (h _ _ eo n).2 q (RepDs.to h ht r)
  | _, _, .dT e n q r => by
      obtain ⟨o, eo⟩ := Rd.some e
      exact .dT (Rd.to (fun o q => (h _ _ q n).1) e) (h _ _ eo n).2 q (RepDs.to h ht r)
theorem RepDs.to (h : ∀ p o, H p = some o → ¬ F p → H' p = some o ∧ ¬ F' p) (ht : ∀ p xs, H p = some (.tup xs) → H' p = some (.tup xs)) : ∀ {vs : List V} {ds : List D}, RepDs K H F vs ds → RepDs K H' F' vs ds
  | _, _, .nil => .nil
  | _, _, .cons r rs => .cons (RepD.to h ht r) (RepDs.to h ht rs)
end
mutual
theorem RepO.to (h : ∀ p o, H p = some o → ¬ F p → H' p = some o ∧ ¬ F' p) (ht : ∀ p xs, H p = some (.tup xs) → H' p = some (.tup xs)) : ∀ {k : Nat} {v : V} {d : D} {B : List Addr}, RepO K H F k v d B → (∀ p ∈ B, ∀ o, H p = some o → H' p = some o) → RepO K H' F' k v d B
  | _, _, _, _, .zero r, _ => .zero (RepD.to h ht r)
  | _, _, _, _, .flat i r, _ => .flat i (RepD.to h ht r)
  | _, _, _, _, .lst e r, hB => .lst (hB _ (List.mem_cons_self ..) _ e) (RepOs.to h ht r fun p m => hB p (List.mem_cons_of_mem _ m))
  | _, _, _, _, .dK e q r, hB => .dK (Rd.to (hB _ (List.mem_cons_self ..)) e) q (RepOs.to h ht r fun p m => hB p (List.mem_cons_of_mem _ m))
  | _, _, _, _, .dT e q r, hB => .dT (Rd.to (hB _ (List.mem_cons_self ..)) e) q (RepOs.to h ht r fun p m => hB p (List.mem_cons_of_mem _ m))
theorem RepOs.to (h : ∀ p o, H p = some o → ¬ F p → H' p = some o ∧ ¬ F' p) (ht : ∀ p xs, H p = some (.tup xs) → H' p = some (.tup xs)) : ∀ {k : Nat} {vs : List V} {ds : List D} {B : List Addr}, RepOs K H F k vs ds B → (∀ p ∈ B, ∀ o, H p = some o → H' p = some o) → RepOs K H' F' k vs ds B
  | _, _, _, _, .nil, _ => .nil
  | _, _, _, _, .cons r rs, hB => .cons (RepO.to h ht r fun p m => hB p (List.mem_append_left _ m)) (RepOs.to h ht rs fun p m => hB p (List.mem_append_right _ m))
end
/- the owned objects stand -/
mutual
theorem RepO.at : ∀ {k : Nat} {v : V} {d : D} {B : List Addr}, RepO K H F k v d B → ∀ p ∈ B, ∃ o, H p = some o ∧ ∀ xs, o ≠ .tup xs
  | _, _, _, _, .zero _, p, m => nomatch m
  | _, _, _, _, .flat _ _, p, m => nomatch m
  | _, _, _, _, .lst e r, p, m => by
    rcases List.mem_cons.mp m with rfl | m
    · exact ⟨_, e, fun _ q => nomatch q⟩
    · exact RepOs.at r p m
  | _, _, _, _, .dK e _ r, p, m => by
    rcases List.mem_cons.mp m with rfl | m
    · rcases e with e | ⟨o, e⟩
      · exact ⟨_, e, fun _ q => nomatch q⟩
      · exact ⟨_, e, fun _ q => nomatch q⟩
    · exact RepOs.at r p m
  | _, _, _, _, .dT e _ r, p, m => by
    rcases List.mem_cons.mp m with rfl | m
    · rcases e with e | ⟨o, e⟩
      · exact ⟨_, e, fun _ q => nomatch q⟩
      · exact ⟨_, e, fun _ q => nomatch q⟩
    · exact RepOs.at r p m
theorem RepOs.at : ∀ {k : Nat} {vs : List V} {ds : List D} {B : List Addr}, RepOs K H F k vs ds B → ∀ p ∈ B, ∃ o, H p = some o ∧ ∀ xs, o ≠ .tup xs
  | _, _, _, _, .nil, p, m => nomatch m
  | _, _, _, _, .cons r rs, p, m => by
    rcases List.mem_append.mp m with m | m
    · exact RepO.at r p m
    · exact RepOs.at rs p m
end
/- given away: what was owned is read from now on; nobody of F' owns it -/
mutual
theorem RepO.frozen (hF : ∀ p, F' p → F p) : ∀ {k : Nat} {v : V} {d : D} {B : List Addr}, RepO K H F k v d B → (∀ p ∈ B, ¬ F' p) → RepD K H F' v d
  | _, _, _, _, .zero r, _ => RepD.to (fun p o e n => ⟨e, fun q => n (hF p q)⟩) (fun _ _ e => e) r
  | _, _, _, _, .flat _ r, _ => RepD.to (fun p o e n => ⟨e, fun q => n (hF p q)⟩) (fun _ _ e => e) r
  | _, _, _, _, .lst e r, hB => .lst e (hB _ (List.mem_cons_self ..)) (RepOs.frozen hF r fun p m => hB p (List.mem_cons_of_mem _ m))
  | _, _, _, _, .dK e q r, hB => .dK e (hB _ (List.mem_cons_self ..)) q (RepOs.frozen hF r fun p m => hB p (List.mem_cons_of_mem _ m))
  | _, _, _, _, .dT e q r, hB => .dT e (hB _ (List.mem_cons_self ..)) q (RepOs.frozen hF r fun p m => hB p (List.mem_cons_of_mem _ m))
theorem RepOs.frozen (hF : ∀ p, F' p → F p) : ∀ {k : Nat} {vs : List V} {ds : List D} {B : List Addr}, RepOs K H F k vs ds B → (∀ p ∈ B, ¬ F' p) → RepDs K H F' vs ds
  | _, _, _, _, .nil, _ => .nil
  | _, _, _, _, .cons r rs, hB => .cons (RepO.frozen hF r fun p m => hB p (List.mem_append_left _ m)) (RepOs.frozen hF rs fun p m => hB p (List.mem_append_right _ m))
end
end

/-- as it lies now -/
abbrev RepV (K : PySem.W.Frag) (H : Hp) : V → D → Prop := RepD K H fun _ => False
abbrev RepVs (K : PySem.W.Frag) (H : Hp) : List V → List D → Prop := RepDs K H fun _ => False
theorem RepD.view {K : PySem.W.Frag} {H : Hp} {F : Addr → Prop} {v : V} {d : D} (r : RepD K H F v d) : RepV K H v d := r.to (fun _ _ e _ => ⟨e, id⟩) fun _ _ e => e
theorem RepO.view {K : PySem.W.Frag} {H : Hp} {F : Addr → Prop} {k : Nat} {v : V} {d : D} {B : List Addr} (r : RepO K H F k v d B) : RepV K H v d := r.frozen (fun _ q => q.elim) fun _ _ q => q
theorem RepV.keep {K : PySem.W.Frag} {H H' : Hp} {v : V} {d : D} (r : RepV K H v d) (h : ∀ p o, H p = some o → H' p = some o) : RepV K H' v d := r.to (fun p o e n => ⟨h p o e, n⟩) fun p xs e => h p _ e
theorem RepVs.keep {K : PySem.W.Frag} {H H' : Hp} {v : List V} {d : List D} (r : RepVs K H v d) (h : ∀ p o, H p = some o → H' p = some o) : RepVs K H' v d := r.to (fun p o e n => ⟨h p o e, n⟩) fun p xs e => h p _ e
theorem RepDs.length {K : PySem.W.Frag} {H : Hp} {F : Addr → Prop} : ∀ {vs : List V} {ds : List D}, RepDs K H F vs ds → vs.length = ds.length
  | _, _, .nil => rfl
  | _, _, .cons _ r => congrArg (· + 1) (RepDs.length r)
theorem RepOs.length {K : PySem.W.Frag} {H : Hp} {F : Addr → Prop} {k : Nat} : ∀ {vs : List V} {ds : List D} {B : List Addr}, RepOs K H F k vs ds B → vs.length = ds.length
  | _, _, _, .nil => rfl
  | _, _, _, .cons _ r => congrArg (· + 1) (RepOs.length r)
theorem RepDs.get {K : PySem.W.Frag} {H : Hp} {F : Addr → Prop} : ∀ {vs : List V} {ds : List D} {i : Nat} {d : D}, RepDs K H F vs ds → ds[i]? = some d → ∃ v, vs[i]? = some v ∧ RepD K H F v d
  | _, _, _, _, .nil, e => by simp at e
  | _, _, 0, _, .cons r _, e => by simp at e; subst e; exact ⟨_, rfl, r⟩
  | _, _, i + 1, _, .cons _ rs, e => by
    obtain ⟨v, h1, h2⟩ := RepDs.get (i := i) rs (by simpa using e)
    exact ⟨v, by simpa using h1, h2⟩
theorem RepDs.get' {K : PySem.W.Frag} {H : Hp} {F : Addr → Prop} : ∀ {vs : List V} {ds : List D} {i : Nat} {v : V}, RepDs K H F vs ds → vs[i]? = some v → ∃ d, ds[i]? = some d ∧ RepD K H F v d
  | _, _, _, _, .nil, e => by simp at e
  | _, _, 0, _, .cons r _, e => by simp at e; subst e; exact ⟨_, rfl, r⟩
  | _, _, i + 1, _, .cons _ rs, e => by
    obtain ⟨v, h1, h2⟩ := RepDs.get' (i := i) rs (by simpa using e)
    exact ⟨v, by simpa using h1, h2⟩
theorem RepDs.app {K : PySem.W.Frag} {H : Hp} {F : Addr → Prop} : ∀ {vs ws : List V} {ds es : List D}, RepDs K H F vs ds → RepDs K H F ws es → RepDs K H F (vs ++ ws) (ds ++ es)
  | _, _, _, _, .nil, s => s
  | _, _, _, _, .cons r t, s => .cons r (RepDs.app t s)
theorem RepDs.take {K : PySem.W.Frag} {H : Hp} {F : Addr → Prop} : ∀ {vs : List V} {ds : List D} (n : Nat), RepDs K H F vs ds → RepDs K H F (vs.take n) (ds.take n)
  | _, _, 0, _ => .nil
  | _, _, _ + 1, .nil => .nil
  | _, _, n + 1, .cons r t => .cons r (RepDs.take n t)
theorem RepDs.drop {K : PySem.W.Frag} {H : Hp} {F : Addr → Prop} : ∀ {vs : List V} {ds : List D} (n : Nat), RepDs K H F vs ds → RepDs K H F (vs.drop n) (ds.drop n)
  | _, _, 0, r => r
  | _, _, _ + 1, .nil => .nil
  | _, _, n + 1, .cons _ t => RepDs.drop n t
theorem RepOs.app {K : PySem.W.Frag} {H : Hp} {F : Addr → Prop} {k : Nat} : ∀ {vs ws : List V} {ds es : List D} {B C : List Addr}, RepOs K H F k vs ds B → RepOs K H F k ws es C → RepOs K H F k (vs ++ ws) (ds ++ es) (B ++ C)
  | _, _, _, _, _, _, .nil, s => s
  | _, _, _, _, _, _, .cons r t, s => by
    rw [List.append_assoc]
    exact .cons r (RepOs.app t s)
end Ev
set_option Elab.async false
set_option linter.all false
set_option autoImplicit false
set_option maxRecDepth 100000
set_option maxHeartbeats 4000000
/-! Ev1: a def's names over the abstract heap; what an evaluation leaves; the readings by plain functions. -/
namespace Ev
open PySem PySem.Spec L2

/-- a name's data, how many levels are owned, 0 free | 1 its binding stays | 2 locked -/
structure Slot where
  d : D
  k : Nat
  m : Nat
abbrev En := List (Option Slot)
abbrev Own := Nat → List Addr
def Fb (As : Own) (L : Addr → Prop) : Addr → Prop := fun a => (∃ i, a ∈ As i) ∨ L a
def plusL (L : Addr → Prop) (B : List Addr) : Addr → Prop := fun a => L a ∨ a ∈ B
def putA (As : Own) (i : Nat) (B : List Addr) : Own := fun j => if j = i then B else As j
theorem putA_same {As : Own} {i : Nat} {B : List Addr} : putA As i B i = B := by unfold putA; rw [if_pos rfl]
theorem putA_ne {As : Own} {i j : Nat} {B : List Addr} (h : j ≠ i) : putA As i B j = As j := by unfold putA; rw [if_neg h]
theorem plusL_nil (L : Addr → Prop) : plusL L [] = L := by funext a; unfold plusL; simp
theorem plusL_app (L : Addr → Prop) (B C : List Addr) : plusL (plusL L B) C = plusL L (B ++ C) := by funext a; unfold plusL; simp [or_assoc]

structure Holds (K : PySem.W.Frag) (H : Hp) (σ : St) (env : En) (As : Own) (L : Addr → Prop) : Prop where
  len : σ.length = env.length
  rep : ∀ (i : Nat) s, env[i]? = some (some s) → ∃ v, σ[i]? = some (some v) ∧ RepO K H (Fb As L) s.k v s.d (As i)
  emp : ∀ (i : Nat), (∀ s, env[i]? ≠ some (some s)) → As i = []
  nd : ∀ i, (As i).Nodup
  dj : ∀ i j a, a ∈ As i → a ∈ As j → i = j
  ow : ∀ (i : Nat) s, env[i]? = some (some s) → s.m ≠ 2 → ∀ a ∈ As i, ¬ L a ∧ ∀ o u, H a ≠ some (.frz o u)
  lo : ∀ (i : Nat) s, env[i]? = some (some s) → s.m = 2 → ∀ a ∈ As i, L a
  lv : ∀ a, L a → ∃ o, H a = some o

theorem Holds.slot {K : PySem.W.Frag} {H : Hp} {σ : St} {env : En} {As : Own} {L : Addr → Prop} (h : Holds K H σ env As L) {i : Nat} {a : Addr} (m : a ∈ As i) : ∃ s, env[i]? = some (some s) := by
  cases e : env[i]? with
  | none =>
    rw [h.emp i (fun s q => by rw [e] at q; cases q)] at m
    cases m
  | some o =>
    cases o with
    | none =>
      rw [h.emp i (fun s q => by rw [e] at q; cases q)] at m
      cases m
    | some s => exact ⟨s, rfl⟩
theorem Holds.there {K : PySem.W.Frag} {H : Hp} {σ : St} {env : En} {As : Own} {L : Addr → Prop} (h : Holds K H σ env As L) {i : Nat} {a : Addr} (m : a ∈ As i) : ∃ o, H a = some o ∧ ∀ xs, o ≠ .tup xs := by
  obtain ⟨s, e⟩ := h.slot m
  obtain ⟨v, _, r⟩ := h.rep i s e
  exact r.at a m

/-- what an evaluation leaves; B: what the new value owns -/
structure Pst (K : PySem.W.Frag) (σ : St) (env : En) (H : Hp) (As : Own) (L : Addr → Prop) (σ' : St) (env' : En) (H' : Hp) (As' : Own) (B : List Addr) : Prop where
  fr : ∀ a o, H a = some o → (L a ∨ ∀ i, a ∉ As i) → H' a = some o
  nw : ∀ a, ((∃ i, a ∈ As' i) ∨ a ∈ B) → (∃ i, a ∈ As i) ∨ H a = none
  tr : ∀ a, H' a = none → H a = none
  tu : ∀ a xs, H a = some (.tup xs) → H' a = some (.tup xs)
  fx : ∀ (i : Nat) s, env[i]? = some (some s) → s.m ≠ 0 → σ'[i]? = σ[i]? ∧ ∃ d', env'[i]? = some (some { s with d := d' }) ∧ (s.m = 2 → d' = s.d ∧ As' i = As i)
  hd : Holds K H' σ' env' As' (plusL L B)
  bn : B.Nodup
  bo : ∀ a ∈ B, ¬ L a ∧ (∀ i, a ∉ As' i) ∧ ∀ o u, H' a ≠ some (.frz o u)

section
variable {K : PySem.W.Frag} {σ σ1 σ2 : St} {env env1 env2 : En} {H H1 H2 : Hp} {As As1 As2 : Own} {L : Addr → Prop} {B B1 B2 : List Addr}
theorem Pst.refl (h : Holds K H σ env As L) : Pst K σ env H As L σ env H As [] :=
  ⟨fun _ _ e _ => e, fun a m => m.elim .inl (fun q => nomatch q), fun _ e => e, fun _ _ e => e, fun i s e _ => ⟨rfl, s.d, e, fun _ => ⟨rfl, rfl⟩⟩, by rw [plusL_nil]; exact h, List.nodup_nil, fun a m => nomatch m⟩
theorem Pst.fresh (P : Pst K σ env H As L σ1 env1 H1 As1 B) {a : Addr} {o : HO} (e : H a = some o) (n : ∀ i, a ∉ As i) : (∀ i, a ∉ As1 i) ∧ a ∉ B := by
  refine ⟨fun i m => ?_, fun m => ?_⟩
  · rcases P.nw a (.inl ⟨i, m⟩) with ⟨j, q⟩ | q
    · exact n j q
    · rw [e] at q; cases q
  · rcases P.nw a (.inr m) with ⟨j, q⟩ | q
    · exact n j q
    · rw [e] at q; cases q
theorem Pst.trans (P : Pst K σ env H As L σ1 env1 H1 As1 B1) (R : Pst K σ1 env1 H1 As1 (plusL L B1) σ2 env2 H2 As2 B2) : Pst K σ env H As L σ2 env2 H2 As2 (B1 ++ B2) where
  fr := fun a o e c => R.fr a o (P.fr a o e c) (c.elim (fun q => .inl (.inl q)) fun q => .inr (P.fresh e q).1)
  nw := fun a m => by
    have go : (∃ i, a ∈ As1 i) ∨ H1 a = none → (∃ i, a ∈ As i) ∨ H a = none := fun q => q.elim (fun q => P.nw a (.inl q)) fun q => .inr (P.tr a q)
    rcases m with m | m
    · exact go (R.nw a (.inl m))
    · rcases List.mem_append.mp m with m | m
      · exact P.nw a (.inr m)
      · exact go (R.nw a (.inr m))
  tr := fun a e => P.tr a (R.tr a e)
  tu := fun a xs e => R.tu a xs (P.tu a xs e)
  fx := fun i s e n => by
    obtain ⟨h1, d1, e1, l1⟩ := P.fx i s e n
    obtain ⟨h2, d2, e2, l2⟩ := R.fx i _ e1 n
    exact ⟨h2.trans h1, d2, e2, fun q => ⟨(l2 q).1.trans (l1 q).1, (l2 q).2.trans (l1 q).2⟩⟩
  hd := by rw [← plusL_app]; exact R.hd
  bn := List.nodup_append.mpr ⟨P.bn, R.bn, fun a m b m' e => by subst e; exact (R.bo _ m').1 (.inr m)⟩
  bo := fun a m => by
    rcases List.mem_append.mp m with m | m
    · obtain ⟨n1, n2, n3⟩ := P.bo a m
      obtain ⟨o, e⟩ := P.hd.lv a (.inr m)
      refine ⟨n1, (R.fresh e n2).1, fun o' u q => ?_⟩
      rw [R.fr a o e (.inl (.inr m))] at q
      exact n3 o' u (e.trans q)
    · obtain ⟨n1, n2, n3⟩ := R.bo a m
      exact ⟨fun q => n1 (.inl q), n2, n3⟩
theorem Pst.seq (P : Pst K σ env H As L σ1 env1 H1 As1 []) (R : Pst K σ1 env1 H1 As1 L σ2 env2 H2 As2 B2) : Pst K σ env H As L σ2 env2 H2 As2 B2 := P.trans (B1 := []) (by rw [plusL_nil]; exact R)
theorem Pst.hd0 (P : Pst K σ env H As L σ1 env1 H1 As1 []) : Holds K H1 σ1 env1 As1 L := by have := P.hd; rwa [plusL_nil] at this
/-- a value that nobody changes stays -/
theorem Pst.keepD (P : Pst K σ env H As L σ1 env1 H1 As1 B) {v : V} {d : D} (r : RepD K H (Fb As L) v d) : RepD K H1 (Fb As1 (plusL L B)) v d :=
  r.to (fun p o e n => by
    have n1 : ∀ i, p ∉ As i := fun i m => n (.inl ⟨i, m⟩)
    have n2 : ¬ L p := fun m => n (.inr m)
    refine ⟨P.fr p o e (.inr n1), fun q => ?_⟩
    rcases q with ⟨i, m⟩ | m | m
    · exact (P.fresh e n1).1 i m
    · exact n2 m
    · exact (P.fresh e n1).2 m) P.tu
theorem Pst.keepO (P : Pst K σ env H As L σ1 env1 H1 As1 B) {k : Nat} {v : V} {d : D} {C : List Addr} (r : RepO K H (Fb As L) k v d C) (hC : ∀ a ∈ C, L a) : RepO K H1 (Fb As1 (plusL L B)) k v d C :=
  r.to (fun p o e n => by
    have n1 : ∀ i, p ∉ As i := fun i m => n (.inl ⟨i, m⟩)
    have n2 : ¬ L p := fun m => n (.inr m)
    refine ⟨P.fr p o e (.inr n1), fun q => ?_⟩
    rcases q with ⟨i, m⟩ | m | m
    · exact (P.fresh e n1).1 i m
    · exact n2 m
    · exact (P.fresh e n1).2 m) P.tu fun p m o e => P.fr p o e (.inl (hC p m))
/-- fewer of F -/
theorem RepD.anti {F F' : Addr → Prop} {v : V} {d : D} (r : RepD K H F v d) (h : ∀ a, F' a → F a) : RepD K H F' v d := r.to (fun p o e n => ⟨e, fun q => n (h p q)⟩) fun _ _ e => e
theorem RepDs.anti {F F' : Addr → Prop} {v : List V} {d : List D} (r : RepDs K H F v d) (h : ∀ a, F' a → F a) : RepDs K H F' v d := r.to (fun p o e n => ⟨e, fun q => n (h p q)⟩) fun _ _ e => e
theorem RepO.anti {F F' : Addr → Prop} {k : Nat} {v : V} {d : D} {C : List Addr} (r : RepO K H F k v d C) (h : ∀ a, F' a → F a) : RepO K H F' k v d C := r.to (fun p o e n => ⟨e, fun q => n (h p q)⟩) (fun _ _ e => e) fun _ _ _ e => e
theorem RepOs.anti {F F' : Addr → Prop} {k : Nat} {v : List V} {d : List D} {C : List Addr} (r : RepOs K H F k v d C) (h : ∀ a, F' a → F a) : RepOs K H F' k v d C := r.to (fun p o e n => ⟨e, fun q => n (h p q)⟩) (fun _ _ e => e) fun _ _ _ e => e
/-- the state with fewer things set apart -/
theorem Holds.fewer {L' : Addr → Prop} (h : Holds K H σ env As L) (hs : ∀ a, L' a → L a) (hl : ∀ (i : Nat) s, env[i]? = some (some s) → s.m = 2 → ∀ a ∈ As i, L' a) : Holds K H σ env As L' where
  len := h.len
  rep := fun i s e => by
    obtain ⟨v, e1, r⟩ := h.rep i s e
    exact ⟨v, e1, r.anti fun a q => q.elim .inl fun q => .inr (hs a q)⟩
  emp := h.emp
  nd := h.nd
  dj := h.dj
  ow := fun i s e n a m => ⟨fun q => (h.ow i s e n a m).1 (hs a q), (h.ow i s e n a m).2⟩
  lo := hl
  lv := fun a q => h.lv a (hs a q)
/-- values are dropped -/
theorem Pst.drop (P : Pst K σ env H As L σ1 env1 H1 As1 B) (C : List Addr) (hs : ∀ a ∈ C, a ∈ B) (hn : C.Nodup) : Pst K σ env H As L σ1 env1 H1 As1 C :=
  ⟨P.fr, fun a m => P.nw a (m.imp id (hs a)), P.tr, P.tu, P.fx,
    P.hd.fewer (fun a q => q.imp id (hs a)) (fun i s e n a m => by
      rcases P.hd.lo i s e n a m with q | q
      · exact .inl q
      · exact absurd m ((P.bo a q).2.1 i)), hn, fun a m => P.bo a (hs a m)⟩
theorem Pst.drop0 (P : Pst K σ env H As L σ1 env1 H1 As1 B) : Pst K σ env H As L σ1 env1 H1 As1 [] := P.drop [] (fun _ m => nomatch m) List.nodup_nil
/-- a new tracked object, of nobody yet -/
theorem Pst.alloc (h : Holds K H σ env As L) {p : Addr} {o : HO} (n : H p = none) : Pst K σ env H As L σ env (upd H p o) As [] := by
  have ne : ∀ {a : Addr} {u : HO}, H a = some u → a ≠ p := fun e z => by subst z; rw [n] at e; cases e
  have keep : ∀ a u, H a = some u → upd H p o a = some u := fun a u e => by rw [upd_ne (ne e)]; exact e
  refine ⟨fun a u e _ => keep a u e, fun a m => m.elim .inl (fun q => nomatch q), fun a e => ?_, fun a xs e => keep a _ e, fun i s e _ => ⟨rfl, s.d, e, fun _ => ⟨rfl, rfl⟩⟩, ?_, List.nodup_nil, fun a m => nomatch m⟩
  · by_cases z : a = p
    · rw [z]; exact n
    · rw [upd_ne z] at e; exact e
  · rw [plusL_nil]
    refine ⟨h.len, fun i s e => ?_, h.emp, h.nd, h.dj, fun i s e q a m => ⟨(h.ow i s e q a m).1, fun o' u z => ?_⟩, h.lo, fun a q => ?_⟩
    · obtain ⟨v, e1, r⟩ := h.rep i s e
      exact ⟨v, e1, r.to (fun p' u e n => ⟨keep p' u e, n⟩) (fun p' xs e => keep p' _ e) fun p' m u e => keep p' u e⟩
    · obtain ⟨u1, e1, _⟩ := h.there m
      rw [keep a _ e1] at z
      exact (h.ow i s e q a m).2 o' u (e1.trans z)
    · obtain ⟨u, e⟩ := h.lv a q
      exact ⟨u, keep a u e⟩
/-- the state where some free addresses are set apart besides -/
theorem Holds.more {C : List Addr} (h : Holds K H σ env As L) (hC : ∀ a ∈ C, (∀ i, a ∉ As i) ∧ ∃ o, H a = some o) (hr : ∀ (i : Nat) s v, env[i]? = some (some s) → σ[i]? = some (some v) → RepO K H (Fb As (plusL L C)) s.k v s.d (As i)) : Holds K H σ env As (plusL L C) where
  len := h.len
  rep := fun i s e => by
    obtain ⟨v, e1, r⟩ := h.rep i s e
    exact ⟨v, e1, hr i s v e e1⟩
  emp := h.emp
  nd := h.nd
  dj := h.dj
  ow := fun i s e n a m => ⟨fun q => q.elim (h.ow i s e n a m).1 fun q => (hC a q).1 i m, (h.ow i s e n a m).2⟩
  lo := fun i s e n a m => .inl (h.lo i s e n a m)
  lv := fun a q => q.elim (h.lv a) fun q => (hC a q).2
/-- a new tracked object, owned by the value that is being made -/
theorem Pst.alloc1 (h : Holds K H σ env As L) {p : Addr} {o : HO} (n : H p = none) (nf : ∀ ob u, o ≠ .frz ob u) : Pst K σ env H As L σ env (upd H p o) As [p] := by
  have P := Pst.alloc (o := o) h n
  have np : ∀ i, p ∉ As i := fun i m => by
    obtain ⟨u, e, _⟩ := h.there m
    rw [n] at e; cases e
  have nL : ¬ L p := fun q => by
    obtain ⟨u, e⟩ := h.lv p q
    rw [n] at e; cases e
  refine ⟨P.fr, fun a m => ?_, P.tr, P.tu, P.fx, ?_, by simp, fun a m => ?_⟩
  · rcases m with m | m
    · exact .inl m
    · rw [List.mem_singleton.mp m]; exact .inr n
  · have h2 := P.hd0
    refine h2.more (fun a m => ?_) fun i s v e e1 => ?_
    · rw [List.mem_singleton.mp m]; exact ⟨np, o, upd_same⟩
    · obtain ⟨v', e1', r⟩ := h.rep i s e
      rw [e1] at e1'; cases e1'
      have ne : ∀ {a : Addr} {u : HO}, H a = some u → a ≠ p := fun e z => by subst z; rw [n] at e; cases e
      refine r.to (fun p' u e' n' => ⟨by rw [upd_ne (ne e')]; exact e', fun q => ?_⟩) (fun p' xs e' => by rw [upd_ne (ne e')]; exact e') fun p' m u e' => by rw [upd_ne (ne e')]; exact e'
      rcases q with q | q | q
      · exact n' (.inl q)
      · exact n' (.inr q)
      · exact ne e' (List.mem_singleton.mp q)
  · rw [List.mem_singleton.mp m]
    refine ⟨nL, np, fun ob u q => ?_⟩
    rw [upd_same] at q
    exact nf ob u (Option.some.inj q)

/-- a name takes the value; others wait -/
theorem Pst.store2 (P : Pst K σ env H As L σ1 env1 H1 As1 (B1 ++ B2)) {i k m : Nat} {v : V} {d : D} (r : RepO K H1 (Fb As1 (plusL L (B1 ++ B2))) k v d B1) (hi : i < env1.length) (hm : m ≠ 2) (hf : ∀ s, env1[i]? = some (some s) → s.m = 0) :
    Pst K σ env H As L (σ1.set i (some v)) (env1.set i (some ⟨d, k, m⟩)) H1 (putA As1 i B1) B2 := by
  have hiσ : i < σ1.length := by rw [P.hd.len]; exact hi
  have nd := List.nodup_append.mp P.bn
  have sub : ∀ a, Fb (putA As1 i B1) (plusL L B2) a → Fb As1 (plusL L (B1 ++ B2)) a := fun a q => by
    rcases q with ⟨j, q⟩ | q | q
    · by_cases e : j = i
      · rw [e, putA_same] at q; exact .inr (.inr (List.mem_append_left _ q))
      · rw [putA_ne e] at q; exact .inl ⟨j, q⟩
    · exact .inr (.inl q)
    · exact .inr (.inr (List.mem_append_right _ q))
  have b1 : ∀ a ∈ B1, a ∈ B1 ++ B2 := fun a m => List.mem_append_left _ m
  have b2 : ∀ a ∈ B2, a ∈ B1 ++ B2 := fun a m => List.mem_append_right _ m
  refine ⟨P.fr, fun a q => ?_, P.tr, P.tu, fun j s e n => ?_, ?_, nd.2.1, fun a q => ?_⟩
  · rcases q with ⟨j, q⟩ | q
    · by_cases e : j = i
      · rw [e, putA_same] at q; exact P.nw a (.inr (b1 a q))
      · rw [putA_ne e] at q; exact P.nw a (.inl ⟨j, q⟩)
    · exact P.nw a (.inr (b2 a q))
  · obtain ⟨h1, d1, e1, l1⟩ := P.fx j s e n
    have ne : j ≠ i := fun z => by
      subst z
      have q0 := hf _ e1
      exact n q0
    rw [List.getElem?_set_ne (Ne.symm ne), List.getElem?_set_ne (Ne.symm ne), putA_ne ne]
    exact ⟨h1, d1, e1, l1⟩
  · refine ⟨by simp [P.hd.len], fun j s e => ?_, fun j q => ?_, fun j => ?_, fun j j' a m1 m2 => ?_, fun j s e n a q => ?_, fun j s e n a q => ?_, fun a q => P.hd.lv a (q.imp id (b2 a))⟩
    · by_cases z : j = i
      · subst z
        rw [List.getElem?_set_self hi] at e
        cases e
        refine ⟨v, List.getElem?_set_self hiσ, ?_⟩
        rw [putA_same]
        exact r.anti sub
      · rw [List.getElem?_set_ne (Ne.symm z)] at e
        obtain ⟨v', e1, r'⟩ := P.hd.rep j s e
        refine ⟨v', by rw [List.getElem?_set_ne (Ne.symm z)]; exact e1, ?_⟩
        rw [putA_ne z]
        exact r'.anti sub
    · by_cases z : j = i
      · subst z
        exact absurd (List.getElem?_set_self hi) (q _)
      · rw [putA_ne z]
        refine P.hd.emp j fun s e => q s ?_
        rw [List.getElem?_set_ne (Ne.symm z)]; exact e
    · by_cases z : j = i
      · rw [z, putA_same]; exact nd.1
      · rw [putA_ne z]; exact P.hd.nd j
    · by_cases z : j = i <;> by_cases z' : j' = i
      · rw [z, z']
      · rw [z, putA_same] at m1; rw [putA_ne z'] at m2
        exact absurd m2 ((P.bo a (b1 a m1)).2.1 j')
      · rw [z', putA_same] at m2; rw [putA_ne z] at m1
        exact absurd m1 ((P.bo a (b1 a m2)).2.1 j)
      · rw [putA_ne z] at m1; rw [putA_ne z'] at m2
        exact P.hd.dj j j' a m1 m2
    · by_cases z : j = i
      · subst z
        rw [putA_same] at q
        have w := P.bo a (b1 a q)
        exact ⟨fun x => x.elim w.1 fun x => nd.2.2 a q a x rfl, w.2.2⟩
      · rw [putA_ne z] at q
        rw [List.getElem?_set_ne (Ne.symm z)] at e
        exact ⟨fun w => (P.hd.ow j s e n a q).1 (w.imp id (b2 a)), (P.hd.ow j s e n a q).2⟩
    · by_cases z : j = i
      · subst z
        rw [List.getElem?_set_self hi] at e
        cases e
        exact absurd n hm
      · rw [putA_ne z] at q
        rw [List.getElem?_set_ne (Ne.symm z)] at e
        rcases P.hd.lo j s e n a q with w | w
        · exact .inl w
        · exact absurd q ((P.bo a w).2.1 j)
  · have w := P.bo a (b2 a q)
    refine ⟨w.1, fun j m => ?_, w.2.2⟩
    by_cases z : j = i
    · rw [z, putA_same] at m; exact nd.2.2 a m a q rfl
    · rw [putA_ne z] at m; exact w.2.1 j m
/-- a name takes the value -/
theorem Pst.store (P : Pst K σ env H As L σ1 env1 H1 As1 B) {i k m : Nat} {v : V} {d : D} (r : RepO K H1 (Fb As1 (plusL L B)) k v d B) (hi : i < env1.length) (hm : m ≠ 2) (hf : ∀ s, env1[i]? = some (some s) → s.m = 0) :
    Pst K σ env H As L (σ1.set i (some v)) (env1.set i (some ⟨d, k, m⟩)) H1 (putA As1 i B) [] := by
  have e : B = B ++ [] := (List.append_nil B).symm
  exact Pst.store2 (B1 := B) (B2 := []) (by rw [← e]; exact P) (by rw [← e]; exact r) hi hm hf
end

/-! ### the semantic functions and their readings -/
abbrev Rv := D × Nat
abbrev SE := En → Option (Rv × En)
abbrev SP := En → Option (D × En)
abbrev ST := En → Option (Bool × En)
abbrev SA := En → Option (List Rv × En)
abbrev SPs := En → Option (List D × En)
inductive Rs where
  | nx (e : En) | ret (r : Rv) (e : En) | bk (e : En) | ct (e : En)
abbrev SS := En → Option Rs

/-- values, each with what it owns -/
inductive RepA (K : PySem.W.Frag) (H : Hp) (F : Addr → Prop) : List V → List Rv → List Addr → Prop
  | nil : RepA K H F [] [] []
  | cons {v : V} {r : Rv} {vs : List V} {rs : List Rv} {B C : List Addr} : RepO K H F r.2 v r.1 B → RepA K H F vs rs C → RepA K H F (v :: vs) (r :: rs) (B ++ C)

def Nm (mu : Bool) (H H' : Hp) : Prop := mu = false → ∀ a o, H a = some o → H' a = some o
theorem Nm.refl {mu : Bool} {H : Hp} : Nm mu H H := fun _ _ _ e => e
theorem Nm.trans {a b : Bool} {H H1 H2 : Hp} (x : Nm a H H1) (y : Nm b H1 H2) : Nm (a || b) H H2 := fun e p o q => by
  have h := (Bool.or_eq_false_iff.mp e)
  exact y h.2 p o (x h.1 p o q)
theorem Nm.new {mu : Bool} {H : Hp} {p : Addr} {o : HO} (n : H p = none) : Nm mu H (upd H p o) := fun _ a u e => by
  rw [upd_ne (fun z => by subst z; rw [n] at e; cases e)]; exact e

section
variable (K : PySem.W.Frag) (mu : Bool)
def tE (s : SE) : TE := fun σ H Q => ∃ env r env' As L, s env = some (r, env') ∧ Holds K H σ env As L ∧
  ∀ v H' As' B, Pst K σ env H As L σ env' H' As' B → Nm mu H H' → RepO K H' (Fb As' (plusL L B)) r.2 v r.1 B → Q v H'
def tP (s : SP) : TE := fun σ H Q => ∃ env d env' As L, s env = some (d, env') ∧ Holds K H σ env As L ∧
  ∀ v H' As', Pst K σ env H As L σ env' H' As' [] → Nm mu H H' → RepV K H' v d → Q v H'
def tT (s : ST) : TT := fun σ H Q => ∃ env b env' As L, s env = some (b, env') ∧ Holds K H σ env As L ∧
  ∀ H' As', Pst K σ env H As L σ env' H' As' [] → Nm mu H H' → Q b H'
def tA (s : SA) : TA := fun σ H Q => ∃ env rs env' As L, s env = some (rs, env') ∧ Holds K H σ env As L ∧
  ∀ vs H' As' B, Pst K σ env H As L σ env' H' As' B → Nm mu H H' → RepA K H' (Fb As' (plusL L B)) vs rs B → Q vs H'
def tPs (s : SPs) : TA := fun σ H Q => ∃ env ds env' As L, s env = some (ds, env') ∧ Holds K H σ env As L ∧
  ∀ vs H' As', Pst K σ env H As L σ env' H' As' [] → Nm mu H H' → RepVs K H' vs ds → Q vs H'
end
/-- what is wanted behind a statement's end -/
def EndS (K : PySem.W.Frag) (σ : St) (env : En) (H : Hp) (As : Own) (L : Addr → Prop) (D : Ends) : Rs → Prop
  | .nx env' => ∀ σ' H' As', Pst K σ env H As L σ' env' H' As' [] → D.nx σ' H'
  | .bk env' => ∀ σ' H' As', Pst K σ env H As L σ' env' H' As' [] → D.bk σ' H'
  | .ct env' => ∀ σ' H' As', Pst K σ env H As L σ' env' H' As' [] → D.ct σ' H'
  | .ret r env' => ∀ v σ' H' As' B, Pst K σ env H As L σ' env' H' As' B → RepO K H' (Fb As' (plusL L B)) r.2 v r.1 B → D.rt v H'
def tS (K : PySem.W.Frag) (s : SS) : TS := fun D σ H => ∃ env r As L, s env = some r ∧ Holds K H σ env As L ∧ EndS K σ env H As L D r
theorem EndS.after {K : PySem.W.Frag} {σ σ1 : St} {env env1 : En} {H H1 : Hp} {As As1 : Own} {L : Addr → Prop} {D : Ends} {r : Rs} (P : Pst K σ env H As L σ1 env1 H1 As1 []) (h : EndS K σ env H As L D r) : EndS K σ1 env1 H1 As1 L D r := by
  cases r with
  | nx e => exact fun σ' H' As' R => h σ' H' As' (P.seq R)
  | bk e => exact fun σ' H' As' R => h σ' H' As' (P.seq R)
  | ct e => exact fun σ' H' As' R => h σ' H' As' (P.seq R)
  | ret r e => exact fun v σ' H' As' B R => h v σ' H' As' B (P.seq R)

section
variable {X : Cx}
theorem _root_.L2.PE.wk {e : Expr} {t t' : TE} (h : PE X e t) (w : ∀ σ H Q, t' σ H Q → t σ H Q) : PE X e t' := ⟨fun pins s σ H Q I q => h.run pins s σ H Q I (w σ H Q q)⟩
theorem _root_.L2.PT.wk {e : Expr} {t t' : TT} (h : PT X e t) (w : ∀ σ H Q, t' σ H Q → t σ H Q) : PT X e t' := ⟨fun pins s σ H Q I q => h.run pins s σ H Q I (w σ H Q q)⟩
theorem _root_.L2.PW.wk {e : Expr} {t t' : TT} (h : PW X e t) (w : ∀ σ H Q, t' σ H Q → t σ H Q) : PW X e t' := ⟨fun wh pins s σ H Q I q => h.run wh pins s σ H Q I (w σ H Q q)⟩
theorem _root_.L2.PA.wk {es : List Expr} {t t' : TA} (h : PA X es t) (w : ∀ σ H Q, t' σ H Q → t σ H Q) : PA X es t' := ⟨fun pos pins s σ H Q I q => h.run pos pins s σ H Q I (w σ H Q q)⟩
theorem _root_.L2.PS.wk {st : Stmt} {t t' : TS} (h : PS X st t) (w : ∀ D σ H, t' D σ H → t D σ H) : PS X st t' := ⟨fun pins s σ H D I q => h.run pins s σ H D I (w D σ H q)⟩
theorem _root_.L2.PSs.wk {st : List Stmt} {t t' : TS} (h : PSs X st t) (w : ∀ D σ H, t' D σ H → t D σ H) : PSs X st t' := ⟨fun pins s σ H D I q => h.run pins s σ H D I (w D σ H q)⟩

/-! ### constants -/
def sC (d : D) : SE := fun env => some ((d, 0), env)
section
variable {i : Int} {b : Bool} {x : Str} {j : Nat} {pos : Pos}
theorem cst_wk {v : V} {d : D} (r : ∀ H F, RepD X.K H F v d) (σ : St) (H : Hp) (Q : VK) : tE X.K false (sC d) σ H Q → tC v σ H Q := by
  rintro ⟨env, r', env', As, L, h, hd, q⟩
  cases h
  exact q v H As [] (Pst.refl hd) Nm.refl (.zero (r _ _))
theorem e_int {j} : PE X (.Constant (.int i) j pos) (tE X.K false (sC (.int i))) := pe_int.wk (cst_wk fun _ _ => .int i)
theorem e_bl {j} : PE X (.Constant (.bool b) j pos) (tE X.K false (sC (.bl b))) := pe_bl.wk (cst_wk fun _ _ => .bl b)
theorem e_non {j} : PE X (.Constant .none j pos) (tE X.K false (sC .non)) := pe_non.wk (cst_wk fun _ _ => .non)
theorem e_str {j} : PE X (.Constant (.str x) j pos) (tE X.K false (sC (.str x))) := pe_str.wk (cst_wk fun _ _ => .str x)
end

/-! ### names -/
/-- the name's value, given away if it was owned -/
def sVar (i : Nat) : SE := fun env => match env[i]? with
  | some (some s) => if s.k = 0 ∨ s.d.imm = true then some ((s.d, 0), env) else if s.m = 0 then some ((s.d, 0), env.set i (some ⟨s.d, 0, 0⟩)) else none
  | _ => none
/-- the name's value moved out -/
def sMv (i : Nat) : SE := fun env => match env[i]? with
  | some (some s) => if s.m = 0 then some ((s.d, s.k), env.set i none) else none
  | _ => none
/-- looked at only -/
def sPk (i : Nat) : SP := fun env => match env[i]? with
  | some (some s) => some (s.d, env)
  | _ => none
/-- a value, looked at -/
def pkE (s : SE) : SP := fun env => (s env).map fun x => (x.1.1, x.2)
theorem p_of {mu : Bool} {e : Expr} {s : SE} (h : PE X e (tE X.K mu s)) : PE X e (tP X.K mu (pkE s)) := h.wk fun σ H Q ⟨env, d, env', As, L, e, hd, q⟩ => by
  unfold pkE at e
  cases h1 : s env with
  | none => rw [h1] at e; cases e
  | some x =>
    rw [h1] at e
    cases e
    exact ⟨env, x.1, x.2, As, L, h1, hd, fun v H' As' B P n r => q v H' As' P.drop0 n r.view⟩
theorem RepO.immD {K : PySem.W.Frag} {H : Hp} {F : Addr → Prop} {k : Nat} {v : V} {d : D} {B : List Addr} (r : RepO K H F k v d B) (h : k = 0 ∨ d.imm = true) : RepD K H F v d ∧ B = [] := by
  cases r with
  | zero r => exact ⟨r, rfl⟩
  | flat _ r => exact ⟨r, rfl⟩
  | lst _ _ => rcases h with h | h <;> cases h
  | dK _ _ _ => rcases h with h | h <;> cases h
  | dT _ _ _ => rcases h with h | h <;> cases h
theorem Holds.give {K : PySem.W.Frag} {H : Hp} {σ : St} {env : En} {As : Own} {L : Addr → Prop} (h : Holds K H σ env As L) {i : Nat} {s : Slot} (e : env[i]? = some (some s)) (hm : s.m = 0) :
    Pst K σ env H As L σ (env.set i none) H (putA As i []) (As i) ∧ ∃ v, σ[i]? = some (some v) ∧ RepO K H (Fb (putA As i []) (plusL L (As i))) s.k v s.d (As i) := by
  have hi : i < env.length := (List.getElem?_eq_some_iff.mp e).1
  have sub : ∀ a, Fb (putA As i []) (plusL L (As i)) a → Fb As L a := fun a q => by
    rcases q with ⟨j, q⟩ | q | q
    · by_cases z : j = i
      · rw [z, putA_same] at q; nomatch q
      · rw [putA_ne z] at q; exact .inl ⟨j, q⟩
    · exact .inr q
    · exact .inl ⟨i, q⟩
  refine ⟨⟨fun _ _ e _ => e, fun a q => ?_, fun _ e => e, fun _ _ e => e, fun j t e' n => ?_, ?_, h.nd i, fun a q => ?_⟩, ?_⟩
  · rcases q with ⟨j, q⟩ | q
    · by_cases z : j = i
      · rw [z, putA_same] at q; nomatch q
      · rw [putA_ne z] at q; exact .inl ⟨j, q⟩
    · exact .inl ⟨i, q⟩
  · have z : j ≠ i := fun z => by
      subst z
      rw [e] at e'; cases e'
      exact n hm
    rw [List.getElem?_set_ne (Ne.symm z), putA_ne z]
    exact ⟨rfl, t.d, e', fun _ => ⟨rfl, rfl⟩⟩
  · refine ⟨by simp [h.len], fun j t e' => ?_, fun j q => ?_, fun j => ?_, fun j j' a m1 m2 => ?_, fun j t e' n a q => ?_, fun j t e' n a q => ?_, fun a q => ?_⟩
    · have z : j ≠ i := fun z => by subst z; rw [List.getElem?_set_self hi] at e'; cases e'
      rw [List.getElem?_set_ne (Ne.symm z)] at e'
      obtain ⟨v, e1, r⟩ := h.rep j t e'
      refine ⟨v, e1, ?_⟩
      rw [putA_ne z]
      exact r.anti sub
    · by_cases z : j = i
      · rw [z, putA_same]
      · rw [putA_ne z]
        refine h.emp j fun t e' => q t ?_
        rw [List.getElem?_set_ne (Ne.symm z)]; exact e'
    · by_cases z : j = i
      · rw [z, putA_same]; exact List.nodup_nil
      · rw [putA_ne z]; exact h.nd j
    · by_cases z : j = i
      · rw [z, putA_same] at m1; nomatch m1
      · by_cases z' : j' = i
        · rw [z', putA_same] at m2; nomatch m2
        · rw [putA_ne z] at m1; rw [putA_ne z'] at m2
          exact h.dj j j' a m1 m2
    · have z : j ≠ i := fun z => by subst z; rw [List.getElem?_set_self hi] at e'; cases e'
      rw [List.getElem?_set_ne (Ne.symm z)] at e'
      rw [putA_ne z] at q
      refine ⟨fun w => ?_, (h.ow j t e' n a q).2⟩
      rcases w with w | w
      · exact (h.ow j t e' n a q).1 w
      · exact z (h.dj j i a q w)
    · have z : j ≠ i := fun z => by subst z; rw [List.getElem?_set_self hi] at e'; cases e'
      rw [List.getElem?_set_ne (Ne.symm z)] at e'
      rw [putA_ne z] at q
      exact .inl (h.lo j t e' n a q)
    · rcases q with q | q
      · exact h.lv a q
      · obtain ⟨o, e1, _⟩ := h.there q
        exact ⟨o, e1⟩
  · refine ⟨(h.ow i s e (by rw [hm]; decide) a q).1, fun j m => ?_, (h.ow i s e (by rw [hm]; decide) a q).2⟩
    by_cases z : j = i
    · rw [z, putA_same] at m; nomatch m
    · rw [putA_ne z] at m
      exact z (h.dj j i a m q)
  · obtain ⟨v, e1, r⟩ := h.rep i s e
    exact ⟨v, e1, r.anti sub⟩
theorem e_var {i : Nat} {x : Str} {pos : Pos} (h : PE X (.Name x pos) (tVar i)) : PE X (.Name x pos) (tE X.K false (sVar i)) := h.wk fun σ H Q ⟨env, r, env', As, L, e, hd, q⟩ => by
  unfold sVar at e
  split at e
  · rename_i s es
    obtain ⟨v, ev, rp⟩ := hd.rep i s es
    split at e
    · rename_i c
      cases e
      obtain ⟨rd, b0⟩ := rp.immD c
      exact ⟨v, ev, q v H As [] (Pst.refl hd) Nm.refl (.zero (by rw [plusL_nil]; exact rd))⟩
    · split at e
      · rename_i c hm
        cases e
        obtain ⟨P, v', ev', rp'⟩ := hd.give es hm
        rw [ev] at ev'; cases ev'
        have hi : i < env.length := (List.getElem?_eq_some_iff.mp es).1
        have rd : RepD X.K H (Fb (putA As i []) L) v s.d := rp.frozen (fun a z => by
          rcases z with ⟨j, z⟩ | z
          · by_cases ji : j = i
            · rw [ji, putA_same] at z; nomatch z
            · rw [putA_ne ji] at z; exact .inl ⟨j, z⟩
          · exact .inr z) fun a m z => by
          rcases z with ⟨j, z⟩ | z
          · by_cases ji : j = i
            · rw [ji, putA_same] at z; nomatch z
            · rw [putA_ne ji] at z; exact ji (hd.dj j i a z m)
          · exact (hd.ow i s es (by rw [hm]; decide) a m).1 z
        have P2 := (P.drop0).store (i := i) (k := 0) (m := 0) (v := v) (d := s.d) (.zero (by rw [plusL_nil]; exact rd)) (by simpa using hi) (by decide) (fun t e => by rw [List.getElem?_set_self hi] at e; cases e)
        have e1 : (env.set i none).set i (some ⟨s.d, 0, 0⟩) = env.set i (some ⟨s.d, 0, 0⟩) := by rw [List.set_set]
        have e2 : σ.set i (some v) = σ := by
          apply List.ext_getElem?
          intro n
          by_cases z : n = i
          · subst z
            rw [List.getElem?_set_self (List.getElem?_eq_some_iff.mp ev).1, ev]
          · rw [List.getElem?_set_ne (Ne.symm z)]
        have e3 : putA (putA As i []) i [] = putA As i [] := by funext j; unfold putA; split <;> rfl
        rw [e1, e2, e3] at P2
        exact ⟨v, ev, q v H _ [] P2 Nm.refl (.zero (by rw [plusL_nil]; exact rd))⟩
      · cases e
  · cases e
theorem e_mv {i : Nat} {x : Str} {pos : Pos} (h : PE X (.Name x pos) (tVar i)) : PE X (.Name x pos) (tE X.K false (sMv i)) := h.wk fun σ H Q ⟨env, r, env', As, L, e, hd, q⟩ => by
  unfold sMv at e
  split at e
  · rename_i s es
    split at e
    · rename_i hm
      cases e
      obtain ⟨P, v, ev, rp⟩ := hd.give es hm
      exact ⟨v, ev, q v H _ _ P Nm.refl rp⟩
    · cases e
  · cases e
theorem p_var {i : Nat} {x : Str} {pos : Pos} (h : PE X (.Name x pos) (tVar i)) : PE X (.Name x pos) (tP X.K false (sPk i)) := h.wk fun σ H Q ⟨env, r, env', As, L, e, hd, q⟩ => by
  unfold sPk at e
  split at e
  · rename_i s es
    cases e
    obtain ⟨v, ev, rp⟩ := hd.rep i s es
    exact ⟨v, ev, q v H As (Pst.refl hd) Nm.refl rp.view⟩
  · cases e

/-! ### statements in a row, assignment to a name, return, tests -/
def sSkip : SS := fun env => some (.nx env)
def sSeq (a b : SS) : SS := fun env => match a env with
  | some (.nx e) => b e
  | r => r
theorem ss_nil : PSs X [] (tS X.K sSkip) := pss_nil.wk fun D σ H ⟨env, r, As, L, e, hd, q⟩ => by
  cases e
  exact q σ H As (Pst.refl hd)
theorem seq_wk {a b : SS} (D : Ends) (σ : St) (H : Hp) : tS X.K (sSeq a b) D σ H → tSeq (tS X.K a) (tS X.K b) D σ H := by
  rintro ⟨env, r, As, L, e, hd, q⟩
  unfold sSeq at e
  cases h1 : a env with
  | none => rw [h1] at e; cases e
  | some x =>
    rw [h1] at e
    cases x with
    | nx e1 => exact ⟨env, .nx e1, As, L, h1, hd, fun σ' H' As' P => ⟨e1, r, As', L, e, P.hd0, q.after P⟩⟩
    | bk e1 => cases e; exact ⟨env, _, As, L, h1, hd, q⟩
    | ct e1 => cases e; exact ⟨env, _, As, L, h1, hd, q⟩
    | ret v e1 => cases e; exact ⟨env, _, As, L, h1, hd, q⟩
theorem ss_cons {st : Stmt} {rest : List Stmt} {a b : SS} (h1 : PS X st (tS X.K a)) (h2 : PSs X rest (tS X.K b)) : PSs X (st :: rest) (tS X.K (sSeq a b)) := (pss_cons h1 h2).wk seq_wk
theorem ss_one {st : Stmt} {a : SS} (h1 : PS X st (tS X.K a)) : PSs X [st] (tS X.K a) := pss_one h1
/-- x = e -/
def sSet (i : Nat) (s : SE) : SS := fun env => match s env with
  | some (r, e) => if i < e.length then match e[i]? with
      | some (some t) => if t.m = 0 then some (.nx (e.set i (some ⟨r.1, r.2, 0⟩))) else none
      | _ => some (.nx (e.set i (some ⟨r.1, r.2, 0⟩)))
    else none
  | none => none
theorem sSet_some {i : Nat} {s : SE} {env : En} {r : Rs} (h : sSet i s env = some r) : ∃ x e, s env = some (x, e) ∧ i < e.length ∧ (∀ t, e[i]? = some (some t) → t.m = 0) ∧ r = .nx (e.set i (some ⟨x.1, x.2, 0⟩)) := by
  unfold sSet at h
  split at h
  · rename_i x e h1
    split at h
    · rename_i hi
      split at h
      · rename_i t ht
        split at h
        · rename_i hm
          cases h
          exact ⟨x, e, h1, hi, fun t' q => by rw [ht] at q; cases q; exact hm, rfl⟩
        · cases h
      · rename_i hn
        cases h
        exact ⟨x, e, h1, hi, fun t' q => absurd q (hn t'), rfl⟩
    · cases h
  · cases h
theorem set_wk {i : Nat} {mu : Bool} {s : SE} (D : Ends) (σ : St) (H : Hp) : tS X.K (sSet i s) D σ H → tAsg (tE X.K mu s) (gName i) D σ H := by
  rintro ⟨env, r, As, L, e, hd, q⟩
  obtain ⟨x, e1, h1, hi, hm, rfl⟩ := sSet_some e
  exact ⟨env, x, e1, As, L, h1, hd, fun v H' As' B P _ rp => q _ H' _ (P.store (m := 0) rp hi (by decide) hm)⟩
def sRet (s : SE) : SS := fun env => (s env).map fun x => .ret x.1 x.2
theorem s_ret {e : Expr} {mu : Bool} {s : SE} {pos : Pos} (h : PE X e (tE X.K mu s)) : PS X (.Return (some e) pos) (tS X.K (sRet s)) := (ps_ret h).wk fun D σ H ⟨env, r, As, L, e1, hd, q⟩ => by
  unfold sRet at e1
  cases h1 : s env with
  | none => rw [h1] at e1; cases e1
  | some x =>
    rw [h1] at e1
    cases e1
    exact ⟨env, x.1, x.2, As, L, h1, hd, fun v H' As' B P _ rp => q v σ H' As' B P rp⟩
def sIf (c : ST) (a b : SS) : SS := fun env => match c env with
  | some (true, e) => a e
  | some (false, e) => b e
  | none => none
theorem s_if {c : Expr} {sa sb : List Stmt} {mu : Bool} {tc : ST} {a b : SS} {pos : Pos} (hc : PT X c (tT X.K mu tc)) (ha : PSs X sa (tS X.K a)) (hb : PSs X sb (tS X.K b)) : PS X (.If c sa sb pos) (tS X.K (sIf tc a b)) := (ps_if hc ha hb).wk fun D σ H ⟨env, r, As, L, e, hd, q⟩ => by
  unfold sIf at e
  split at e
  · rename_i e1 h1
    exact ⟨env, true, e1, As, L, h1, hd, fun H' As' P _ => iteT ⟨e1, r, As', L, e, P.hd0, q.after P⟩⟩
  · rename_i e1 h1
    exact ⟨env, false, e1, As, L, h1, hd, fun H' As' P _ => iteF ⟨e1, r, As', L, e, P.hd0, q.after P⟩⟩
  · cases e
def sBk : SS := fun env => some (.bk env)
def sCt : SS := fun env => some (.ct env)
theorem s_break {pos : Pos} : PS X (.Break pos) (tS X.K sBk) := ps_break.wk fun D σ H ⟨env, r, As, L, e, hd, q⟩ => by cases e; exact q σ H As (Pst.refl hd)
theorem s_continue {pos : Pos} : PS X (.Continue pos) (tS X.K sCt) := ps_continue.wk fun D σ H ⟨env, r, As, L, e, hd, q⟩ => by cases e; exact q σ H As (Pst.refl hd)
/-- code never reached -/
def sNever : SS := fun _ => none
theorem s_never {st : Stmt} : PS X st (tS X.K sNever) := ps_never.wk fun D σ H ⟨env, r, As, L, e, hd, q⟩ => by cases e
theorem ss_never {st : List Stmt} : PSs X st (tS X.K sNever) := pss_never.wk fun D σ H ⟨env, r, As, L, e, hd, q⟩ => by cases e
end
end Ev
set_option Elab.async false
set_option linter.all false
set_option autoImplicit false
set_option maxRecDepth 100000
set_option maxHeartbeats 4000000
/-! Ev2: scalars, tests, operators on numbers, comparisons of data. -/
namespace Ev
open PySem PySem.Spec L2

/-! ### plain data as the library's -/
def kPy : Key → PyData
  | .inl i => .int i
  | .inr s => .str s
mutual
def D.toPy : D → PyData
  | .non => .none
  | .bl b => .bool b
  | .int i => .int i
  | .str s => .str s
  | .tup xs => .tuple (toPys xs)
  | .lst xs => .list (toPys xs)
  | .dK kvs => .dict (toPyK kvs)
  | .dT kvs => .dict (toPyT kvs)
  | .scr ns => .list (ns.map .int)
def toPys : List D → List PyData
  | [] => []
  | x :: xs => x.toPy :: toPys xs
def toPyK : List (Key × D) → List (PyData × PyData)
  | [] => []
  | (k, v) :: r => (kPy k, v.toPy) :: toPyK r
def toPyT : List (List Key × D) → List (PyData × PyData)
  | [] => []
  | (k, v) :: r => (.tuple (k.map kPy), v.toPy) :: toPyT r
end
theorem toPys_map : ∀ xs : List D, toPys xs = xs.map D.toPy
  | [] => by simp only [toPys, List.map_nil]
  | x :: xs => by simp only [toPys, List.map_cons, toPys_map xs]
mutual
/-- no dict in it, and nested n deep at most -/
def D.sh : D → Nat → Bool
  | .non, _ => true
  | .bl _, _ => true
  | .int _, _ => true
  | .str s, _ => PyData.strOk s
  | .tup xs, n => match n with | 0 => false | n + 1 => shs xs n
  | .lst xs, n => match n with | 0 => false | n + 1 => shs xs n
  | .dK _, _ => false
  | .dT _, _ => false
  | .scr _, _ => false
def shs : List D → Nat → Bool
  | [], _ => true
  | x :: xs, n => x.sh n && shs xs n
end
theorem shs_all (n : Nat) : ∀ xs : List D, shs xs n = xs.all fun x => x.sh n
  | [] => by simp only [shs, List.all_nil]
  | x :: xs => by simp only [shs, List.all_cons, shs_all n xs]
mutual
theorem D.sh_dp {K : PySem.W.Frag} {H : Hp} {F : Addr → Prop} : ∀ {v : V} {d : D} {n : Nat}, RepD K H F v d → d.sh n = true → Dp K H v d.toPy
  | _, _, _, .non, _ => by simp only [D.toPy]; exact .non
  | _, _, _, .bl b, _ => by simp only [D.toPy]; exact .bl b
  | _, _, _, .int i, _ => by simp only [D.toPy]; exact .int i
  | _, _, _, .str s, _ => by simp only [D.toPy]; exact .str s
  | _, _, 0, .tup e r, h => by simp [D.sh] at h
  | _, _, n + 1, .tup e r, h => by simp only [D.toPy]; exact .tup (SqT.of e) (shs_dp r (n := n) (by simpa [D.sh] using h))
  | _, _, 0, .lst e _ r, h => by simp [D.sh] at h
  | _, _, n + 1, .lst e _ r, h => by simp only [D.toPy]; exact .lst (SqL.of e) (shs_dp r (n := n) (by simpa [D.sh] using h))
  | _, _, _, .dK _ _ _ _, h => by simp [D.sh] at h
  | _, _, _, .dT _ _ _ _, h => by simp [D.sh] at h
  | _, _, _, .scr _, h => by simp [D.sh] at h
theorem shs_dp {K : PySem.W.Frag} {H : Hp} {F : Addr → Prop} : ∀ {vs : List V} {ds : List D} {n : Nat}, RepDs K H F vs ds → shs ds n = true → DpAll K H vs (toPys ds)
  | _, _, _, .nil, _ => by simp only [toPys]; exact .nil
  | _, _, n, .cons r rs, h => by
    simp only [shs, Bool.and_eq_true] at h
    simp only [toPys]
    exact .cons (D.sh_dp r h.1) (shs_dp rs h.2)
end
mutual
theorem D.sh_ok : ∀ (d : D) (n : Nat), d.sh n = true → d.toPy.canLay0 = true ∧ d.toPy.depth ≤ n
  | .non, n, _ => by simp [D.toPy, PyData.canLay0, PyData.depth]
  | .bl b, n, _ => by simp [D.toPy, PyData.canLay0, PyData.depth]
  | .int i, n, _ => by simp [D.toPy, PyData.canLay0, PyData.depth]
  | .str s, n, h => by simpa [D.toPy, PyData.canLay0, PyData.depth, D.sh] using h
  | .tup xs, 0, h => by simp [D.sh] at h
  | .tup xs, n + 1, h => by
    have q := shs_ok xs n (by simpa [D.sh] using h)
    simp only [D.toPy, PyData.canLay0, PyData.depth]
    exact ⟨q.1, Nat.succ_le_succ q.2⟩
  | .lst xs, 0, h => by simp [D.sh] at h
  | .lst xs, n + 1, h => by
    have q := shs_ok xs n (by simpa [D.sh] using h)
    simp only [D.toPy, PyData.canLay0, PyData.depth]
    exact ⟨q.1, Nat.succ_le_succ q.2⟩
  | .dK _, n, h => by simp [D.sh] at h
  | .dT _, n, h => by simp [D.sh] at h
  | .scr _, n, h => by simp [D.sh] at h
theorem shs_ok : ∀ (xs : List D) (n : Nat), shs xs n = true → PyData.canLayAll0 (toPys xs) = true ∧ PyData.depthAll (toPys xs) ≤ n
  | [], n, _ => by simp [toPys, PyData.canLayAll0, PyData.depthAll]
  | x :: xs, n, h => by
    simp only [shs, Bool.and_eq_true] at h
    have q1 := D.sh_ok x n h.1
    have q2 := shs_ok xs n h.2
    simp only [toPys, PyData.canLayAll0, PyData.depthAll, Bool.and_eq_true]
    exact ⟨⟨q1.1, q2.1⟩, Nat.max_le.mpr ⟨q1.2, q2.2⟩⟩
end
theorem sh_shaped {d : D} (h : d.sh 64 = true) : SeqAt.shaped d.toPy = true := by
  obtain ⟨h1, h2⟩ := D.sh_ok d 64 h
  unfold SeqAt.shaped
  rw [h1, Bool.true_and]
  exact decide_eq_true h2

/-! ### scalars -/
def D.scl : D → Bool
  | .non => true | .bl _ => true | .int _ => true | .str _ => true | _ => false
def dV : D → V
  | .non => .non | .bl b => .bl b | .int i => .int i | .str s => .str s | _ => .non
theorem scl_rep {K : PySem.W.Frag} {H : Hp} {F : Addr → Prop} {d : D} (h : d.scl = true) : RepD K H F (dV d) d := by
  cases d <;> first | exact .non | exact .bl _ | exact .int _ | exact .str _ | cases h
theorem scl_inv {K : PySem.W.Frag} {H : Hp} {F : Addr → Prop} {v : V} {d : D} (r : RepD K H F v d) (h : d.scl = true) : v = dV d := by
  cases r <;> first | rfl | cases h
theorem scl_imm {d : D} (h : d.scl = true) : d.imm = true := by cases d <;> first | rfl | cases h
/-- the end of an evaluation whose value is a scalar -/
theorem scl_end {K : PySem.W.Frag} {H : Hp} {F : Addr → Prop} {d : D} (h : d.scl = true) : RepO K H F 0 (dV d) d [] := .zero (scl_rep h)

/-! ### two operands looked at, a scalar out -/
/-- an operation of two data with a scalar answer, by values -/
def rOp (K : PySem.W.Frag) (g : D → D → Option D) : R2 := fun x y H Q => ∃ a b c, RepV K H x a ∧ RepV K H y b ∧ g a b = some c ∧ c.scl = true ∧ Q (dV c) H
/-- mb: whether the second operand may change what is owned -/
def sOp (mb : Bool) (g : D → D → Option D) (a b : SP) : SE := fun env => match a env with
  | some (x, e1) => match b e1 with
    | some (y, e2) => if (mb && !x.scl) = true then none else match g x y with
      | some c => if c.scl = true then some ((c, 0), e2) else none
      | none => none
    | none => none
  | none => none
theorem sOp_some {mb : Bool} {g : D → D → Option D} {a b : SP} {env env' : En} {r : Rv} (h : sOp mb g a b env = some (r, env')) :
    ∃ x e1 y c, a env = some (x, e1) ∧ b e1 = some (y, env') ∧ (mb = false ∨ x.scl = true) ∧ g x y = some c ∧ c.scl = true ∧ r = (c, 0) := by
  unfold sOp at h
  split at h
  · rename_i x e1 h1
    split at h
    · rename_i y e2 h2
      split at h
      · cases h
      · rename_i hm
        split at h
        · rename_i c hc
          split at h
          · rename_i hs
            cases h
            refine ⟨x, e1, y, c, h1, h2, ?_, hc, hs, rfl⟩
            cases mb with
            | false => exact .inl rfl
            | true => exact .inr (by simpa using hm)
          · cases h
        · cases h
    · cases h
  · cases h
theorem op_wk {K : PySem.W.Frag} {ma mb : Bool} {g : D → D → Option D} {a b : SP} (σ : St) (H : Hp) (Q : VK) : tE K (ma || mb) (sOp mb g a b) σ H Q → tOp (rOp K g) (tP K ma a) (tP K mb b) σ H Q := by
  rintro ⟨env, r, env', As, L, e, hd, q⟩
  obtain ⟨x, e1, y, c, h1, h2, hm, hg, hs, rfl⟩ := sOp_some e
  refine ⟨env, x, e1, As, L, h1, hd, fun v1 H1 As1 P1 n1 r1 => ⟨e1, y, env', As1, L, h2, P1.hd0, fun v2 H2 As2 P2 n2 r2 => ?_⟩⟩
  refine ⟨x, y, c, ?_, r2, hg, hs, q _ H2 As2 [] (P1.seq P2) (n1.trans n2) (scl_end hs)⟩
  rcases hm with hm | hm
  · exact r1.keep (n2 hm)
  · rw [scl_inv r1 hm]
    exact scl_rep hm
section
variable {X : Cx} {a b : Expr} {sa sb : SP} {ma mb : Bool} {pos : Pos} {g : D → D → Option D}
theorem e_op {op : Operator} (ho : OpR X (binaryOp op) (rOp X.K g)) (ha : PE X a (tP X.K ma sa)) (hb : PE X b (tP X.K mb sb)) : PE X (.BinOp a op b pos) (tE X.K (ma || mb) (sOp mb g sa sb)) := (pe_op ho ha hb).wk op_wk
theorem e_cmp {op : CmpOp} (ho : OpR X (compareOp op) (rOp X.K g)) (ha : PE X a (tP X.K ma sa)) (hb : PE X b (tP X.K mb sb)) (hm : behindInMarks op b = false) : PE X (.Compare a [op] [b] pos) (tE X.K (ma || mb) (sOp mb g sa sb)) := (pe_cmpR ho ha hb hm).wk op_wk

/-! ### whole numbers -/
def gI (f : Int → Int → Option Int) : D → D → Option D
  | .int i, .int j => (f i j).map .int
  | _, _ => none
theorem gI_some {f : Int → Int → Option Int} {x y c : D} (h : gI f x y = some c) : ∃ i j k, x = .int i ∧ y = .int j ∧ f i j = some k ∧ c = .int k := by
  unfold gI at h
  split at h
  · rename_i i j
    cases e : f i j with
    | none => rw [e] at h; cases h
    | some k => rw [e] at h; cases h; exact ⟨i, j, k, rfl, rfl, e, rfl⟩
  · cases h
theorem intRep {K : PySem.W.Frag} {H : Hp} {F : Addr → Prop} {v : V} {i : Int} (r : RepD K H F v (.int i)) : v = .int i := by cases r; rfl
theorem ofI {f : Value → Value → Sem Value} {C : Int → Int → Prop} {h : Int → Int → Int} {fo : Int → Int → Option Int} (ho : OpR X f (rI C fun i j => .int (h i j))) (hf : ∀ i j k, fo i j = some k → C i j ∧ k = h i j) : OpR X f (rOp X.K (gI fo)) := by
  intro pins s σ H x y v u Q I rx ry ⟨da, db, c, r1, r2, hg, _, q⟩
  obtain ⟨i, j, k, rfl, rfl, e, rfl⟩ := gI_some hg
  obtain ⟨hc, rfl⟩ := hf i j k e
  exact ho pins s σ H x y v u Q I rx ry ⟨i, j, intRep r1, intRep r2, hc, q⟩
theorem ofI0 {f : Value → Value → Sem Value} {h : Int → Int → Int} (ho : OpR X f (rI0 fun i j => .int (h i j))) : OpR X f (rOp X.K (gI fun i j => some (h i j))) := by
  intro pins s σ H x y v u Q I rx ry ⟨da, db, c, r1, r2, hg, _, q⟩
  obtain ⟨i, j, k, rfl, rfl, e, rfl⟩ := gI_some hg
  cases e
  exact ho pins s σ H x y v u Q I rx ry ⟨i, j, intRep r1, intRep r2, q⟩
abbrev gSub : D → D → Option D := gI fun i j => some (i - j)
abbrev gMul : D → D → Option D := gI fun i j => if ((-(2 ^ 64) < i ∧ i < 2 ^ 64) ∨ (-(2 ^ 64) < j ∧ j < 2 ^ 64)) then some (i * j) else none
abbrev gDiv : D → D → Option D := gI fun i j => if 0 < j ∧ j < 1073741824 then some (i / j) else none
abbrev gMod : D → D → Option D := gI fun i j => if 0 < j then some (i % j) else none
abbrev gPow : D → D → Option D := gI fun i j => if 0 ≤ j ∧ j ≤ 1000000 ∧ i.natAbs < 2 ^ 64 then some (i ^ j.toNat) else none
abbrev gShl : D → D → Option D := gI fun i j => if 0 ≤ j ∧ j ≤ 1000000 ∧ i.natAbs < 2 ^ 64 then some (i * 2 ^ j.toNat) else none
abbrev gShr : D → D → Option D := gI fun i j => if 0 ≤ j then some (i / 2 ^ j.toNat) else none
abbrev gAnd : D → D → Option D := gI fun i j => some (Builtin.bitAnd i j)
abbrev gOr : D → D → Option D := gI fun i j => some (Builtin.bitOr i j)
abbrev gXor : D → D → Option D := gI fun i j => some (Builtin.bitXor i j)
theorem o_sub : OpR X (binaryOp .Sub) (rOp X.K gSub) := ofI0 op_sub
theorem o_mul : OpR X (binaryOp .Mult) (rOp X.K gMul) := ofI op_mul fun i j k h => by split at h; (rename_i c; cases h; exact ⟨c, rfl⟩); cases h
theorem o_div : OpR X (binaryOp .FloorDiv) (rOp X.K gDiv) := ofI op_fdiv fun i j k h => by split at h; (rename_i c; cases h; exact ⟨c, rfl⟩); cases h
theorem o_mod : OpR X (binaryOp .Mod) (rOp X.K gMod) := ofI op_mod fun i j k h => by split at h; (rename_i c; cases h; exact ⟨c, rfl⟩); cases h
theorem o_pow : OpR X (binaryOp .Pow) (rOp X.K gPow) := ofI op_pow fun i j k h => by split at h; (rename_i c; cases h; exact ⟨c, rfl⟩); cases h
theorem o_shl : OpR X (binaryOp .LShift) (rOp X.K gShl) := ofI op_shl fun i j k h => by split at h; (rename_i c; cases h; exact ⟨c, rfl⟩); cases h
theorem o_shr : OpR X (binaryOp .RShift) (rOp X.K gShr) := ofI op_shr fun i j k h => by split at h; (rename_i c; cases h; exact ⟨c, rfl⟩); cases h
theorem o_and : OpR X (binaryOp .BitAnd) (rOp X.K gAnd) := ofI0 op_and
theorem o_or : OpR X (binaryOp .BitOr) (rOp X.K gOr) := ofI0 op_or
theorem o_xor : OpR X (binaryOp .BitXor) (rOp X.K gXor) := ofI0 op_xor

/-! ### comparisons -/
def gB (f : Int → Int → Bool) : D → D → Option D
  | .int i, .int j => some (.bl (f i j))
  | _, _ => none
theorem ofB {f : Value → Value → Sem Value} {h : Int → Int → Bool} (ho : OpR X f (rI0 fun i j => .bl (h i j))) : OpR X f (rOp X.K (gB h)) := by
  intro pins s σ H x y v u Q I rx ry ⟨da, db, c, r1, r2, hg, _, q⟩
  unfold gB at hg
  split at hg
  · rename_i i j
    cases hg
    exact ho pins s σ H x y v u Q I rx ry ⟨i, j, intRep r1, intRep r2, q⟩
  · cases hg
abbrev gLt : D → D → Option D := gB fun i j => decide (i < j)
abbrev gLe : D → D → Option D := gB fun i j => decide (i ≤ j)
abbrev gGt : D → D → Option D := gB fun i j => decide (j < i)
abbrev gGe : D → D → Option D := gB fun i j => decide (j ≤ i)
theorem o_lt : OpR X (compareOp .Lt) (rOp X.K gLt) := ofB op_lt
theorem o_le : OpR X (compareOp .LtE) (rOp X.K gLe) := ofB op_le
theorem o_gt : OpR X (compareOp .Gt) (rOp X.K gGt) := ofB op_gt
theorem o_ge : OpR X (compareOp .GtE) (rOp X.K gGe) := ofB op_ge
/-- == of data -/
def D.eqv (a b : D) : Bool := PyData.eqv a.toPy b.toPy
def gEq (a b : D) : Option D := if (a.sh 64 && b.sh 64) = true then some (.bl (a.eqv b)) else none
def gNe (a b : D) : Option D := if (a.sh 64 && b.sh 64) = true then some (.bl (!a.eqv b)) else none
theorem o_eq (hu : X.A.units + 64 < cLine) : OpR X (compareOp .Eq) (rOp X.K gEq) := by
  intro pins s σ H x y v u Q I rx ry ⟨da, db, c, r1, r2, hg, _, q⟩
  unfold gEq at hg
  split at hg
  · rename_i h
    rw [Bool.and_eq_true] at h
    cases hg
    exact op_eqD hu pins s σ H x y v u Q I rx ry ⟨_, _, D.sh_dp r1 h.1, D.sh_dp r2 h.2, sh_shaped h.1, sh_shaped h.2, q⟩
  · cases hg
theorem o_ne (hu : X.A.units + 64 < cLine) : OpR X (compareOp .NotEq) (rOp X.K gNe) := by
  intro pins s σ H x y v u Q I rx ry ⟨da, db, c, r1, r2, hg, _, q⟩
  unfold gNe at hg
  split at hg
  · rename_i h
    rw [Bool.and_eq_true] at h
    cases hg
    exact op_neD hu pins s σ H x y v u Q I rx ry ⟨_, _, D.sh_dp r1 h.1, D.sh_dp r2 h.2, sh_shaped h.1, sh_shaped h.2, q⟩
  · cases hg
/-- x in a list or a tuple -/
def gIn (neg : Bool) (a b : D) : Option D := match b with
  | .lst ds => if (a.sh 64 && b.sh 64) = true then some (.bl (if neg = true then !(ds.any fun z => z.eqv a) else ds.any fun z => z.eqv a)) else none
  | .tup ds => if (a.sh 64 && b.sh 64) = true then some (.bl (if neg = true then !(ds.any fun z => z.eqv a) else ds.any fun z => z.eqv a)) else none
  | _ => none
theorem any_eqvs (a : D) : ∀ ds : List D, ((toPys ds).any fun z => PyData.eqv z a.toPy) = ds.any fun z => z.eqv a
  | [] => by simp [toPys]
  | x :: xs => by simp only [toPys, List.any_cons, any_eqvs a xs]; rfl
theorem units65 {A : Around} {k : Nat} (h : Room k A) : A.units + 64 < cLine ∧ A.units + 65 < cLine := by have := h.un; omega
theorem o_in (hu : X.A.units + 64 < cLine) (hu5 : X.A.units + 65 < cLine) : OpR X (compareOp .In) (rOp X.K (gIn false)) := by
  intro pins s σ H x y v u Q I rx ry ⟨da, db, c, r1, r2, hg, _, q⟩
  unfold gIn at hg
  split at hg
  · rename_i ds
    split at hg
    · rename_i h
      rw [Bool.and_eq_true] at h
      cases hg
      have d2 := D.sh_dp r2 h.2
      have s2 := sh_shaped h.2
      simp only [D.toPy] at d2 s2
      exact op_inD hu5 pins s σ H x y v u Q I rx ry ⟨_, _, D.sh_dp r1 h.1, d2, sh_shaped h.1, s2, by rw [any_eqvs]; exact q⟩
    · cases hg
  · rename_i ds
    split at hg
    · rename_i h
      rw [Bool.and_eq_true] at h
      cases hg
      have d2 := D.sh_dp r2 h.2
      have s2 := sh_shaped h.2
      simp only [D.toPy] at d2 s2
      obtain ⟨as, q1⟩ := Dp.reads I _ x v (D.sh_dp r1 h.1) rx
      obtain ⟨bs, q2⟩ := Dp.reads I _ y u d2 ry
      have c2 := SeqAt.canLay_of_shaped s2
      refine SeqAt.in_tuple_reads q2 q1 c2 (SeqAt.canLay_of_shaped (sh_shaped h.1)) (PyProof.Rows.room_in_shaped (sh_shaped h.1) hu5) ⟨.bl _, H, I, rfl, ?_⟩
      rw [any_eqvs]; exact q
    · cases hg
  · cases hg
theorem o_notin (hu : X.A.units + 64 < cLine) (hu5 : X.A.units + 65 < cLine) : OpR X (compareOp .NotIn) (rOp X.K (gIn true)) := by
  intro pins s σ H x y v u Q I rx ry ⟨da, db, c, r1, r2, hg, _, q⟩
  unfold gIn at hg
  split at hg
  · rename_i ds
    split at hg
    · rename_i h
      rw [Bool.and_eq_true] at h
      cases hg
      have d2 := D.sh_dp r2 h.2
      have s2 := sh_shaped h.2
      simp only [D.toPy] at d2 s2
      exact op_notInD hu5 pins s σ H x y v u Q I rx ry ⟨_, _, D.sh_dp r1 h.1, d2, sh_shaped h.1, s2, by rw [any_eqvs]; exact q⟩
    · cases hg
  · rename_i ds
    split at hg
    · rename_i h
      rw [Bool.and_eq_true] at h
      cases hg
      have d2 := D.sh_dp r2 h.2
      have s2 := sh_shaped h.2
      simp only [D.toPy] at d2 s2
      obtain ⟨as, q1⟩ := Dp.reads I _ x v (D.sh_dp r1 h.1) rx
      obtain ⟨bs, q2⟩ := Dp.reads I _ y u d2 ry
      have c2 := SeqAt.canLay_of_shaped s2
      refine SeqAt.notIn_tuple_reads q2 q1 c2 (SeqAt.canLay_of_shaped (sh_shaped h.1)) (PyProof.Rows.room_in_shaped (sh_shaped h.1) hu5) ⟨.bl _, H, I, rfl, ?_⟩
      rw [any_eqvs]; exact q
    · cases hg
  · cases hg
end
end Ev
set_option Elab.async false
set_option linter.all false
set_option autoImplicit false
set_option maxRecDepth 100000
set_option maxHeartbeats 4000000
/-! Ev3: tests, and, or, not, chains; subscripts; displays. -/
namespace Ev
open PySem PySem.Spec L2

/-! ### tests -/
section
variable {X : Cx} {a b c : Expr} {rest : List Expr} {ma mb mc : Bool} {pos : Pos}
def sTv (s : SE) : ST := fun env => match s env with
  | some ((.bl b, _), e) => some (b, e)
  | _ => none
theorem sTv_some {s : SE} {env e : En} {b : Bool} (h : sTv s env = some (b, e)) : ∃ k, s env = some ((.bl b, k), e) := by
  unfold sTv at h
  split at h
  · rename_i b' k e' h1
    cases h
    exact ⟨_, h1⟩
  · cases h
theorem RepO.bl {K : PySem.W.Frag} {H : Hp} {F : Addr → Prop} {k : Nat} {v : V} {b : Bool} {B : List Addr} (r : RepO K H F k v (.bl b) B) : v = .bl b := by
  cases r.view; rfl
theorem tv_wk {m : Bool} {s : SE} (σ : St) (H : Hp) (Q : Bool → Hp → Prop) : tT X.K m (sTv s) σ H Q → tB (tE X.K m s) σ H Q := by
  rintro ⟨env, b, env', As, L, e, hd, q⟩
  obtain ⟨k, h1⟩ := sTv_some e
  exact ⟨env, _, env', As, L, h1, hd, fun v H' As' B P n r => ⟨b, r.bl, q H' As' P.drop0 n⟩⟩
theorem t_val {s : SE} (h : PE X a (tE X.K ma s)) (he : ∀ whole, isTrue a X.env whole = (do let v ← whole; standAt a.pos; holding [v] (truthy v)) := by intro _; rfl) : PT X a (tT X.K ma (sTv s)) := (pt_val h he).wk tv_wk
theorem t_cmp {op : CmpOp} {g : D → D → Option D} {sa sb : SP} (ho : OpR X (compareOp op) (rOp X.K g)) (ha : PE X a (tP X.K ma sa)) (hb : PE X b (tP X.K mb sb)) (hm : behindInMarks op b = false) : PT X (.Compare a [op] [b] pos) (tT X.K (ma || mb) (sTv (sOp mb g sa sb))) :=
  (pt_cmpR ho ha hb hm).wk fun σ H Q q => by
    obtain ⟨env, t, env', As, L, e, hd, q⟩ := q
    obtain ⟨k, h1⟩ := sTv_some e
    exact op_wk σ H _ ⟨env, _, env', As, L, h1, hd, fun v H' As' B P n r => ⟨t, r.bl, q H' As' P.drop0 n⟩⟩
def sAnd (a b : ST) : ST := fun env => match a env with
  | some (true, e) => b e
  | some (false, e) => some (false, e)
  | none => none
def sOr (a b : ST) : ST := fun env => match a env with
  | some (true, e) => some (true, e)
  | some (false, e) => b e
  | none => none
def sNot (a : ST) : ST := fun env => match a env with
  | some (c, e) => some (!c, e)
  | none => none
theorem t_and1 {s : ST} (ha : PT X a (tT X.K ma s)) : PW X (.BoolOp .And [a] pos) (tT X.K ma s) := pw_and1 ha
theorem t_or1 {s : ST} (ha : PT X a (tT X.K ma s)) : PW X (.BoolOp .Or [a] pos) (tT X.K ma s) := pw_or1 ha
theorem t_and {s u : ST} (ha : PT X a (tT X.K ma s)) (hb : PW X (.BoolOp .And (b :: rest) pos) (tT X.K mb u)) : PW X (.BoolOp .And (a :: b :: rest) pos) (tT X.K (ma || mb) (sAnd s u)) := (pw_and ha hb).wk fun σ H Q ⟨env, c, env', As, L, e, hd, q⟩ => by
  unfold sAnd at e
  split at e
  · rename_i e1 h1
    exact ⟨env, true, e1, As, L, h1, hd, fun H1 As1 P n => iteT ⟨e1, c, env', As1, L, e, P.hd0, fun H2 As2 R n2 => q H2 As2 (P.seq R) (n.trans n2)⟩⟩
  · rename_i e1 h1
    cases e
    exact ⟨env, false, env', As, L, h1, hd, fun H1 As1 P n => iteF (q H1 As1 P fun z => n (Bool.or_eq_false_iff.mp z).1)⟩
  · cases e
theorem t_or {s u : ST} (ha : PT X a (tT X.K ma s)) (hb : PW X (.BoolOp .Or (b :: rest) pos) (tT X.K mb u)) : PW X (.BoolOp .Or (a :: b :: rest) pos) (tT X.K (ma || mb) (sOr s u)) := (pw_or ha hb).wk fun σ H Q ⟨env, c, env', As, L, e, hd, q⟩ => by
  unfold sOr at e
  split at e
  · rename_i e1 h1
    cases e
    exact ⟨env, true, env', As, L, h1, hd, fun H1 As1 P n => iteT (q H1 As1 P fun z => n (Bool.or_eq_false_iff.mp z).1)⟩
  · rename_i e1 h1
    exact ⟨env, false, e1, As, L, h1, hd, fun H1 As1 P n => iteF ⟨e1, c, env', As1, L, e, P.hd0, fun H2 As2 R n2 => q H2 As2 (P.seq R) (n.trans n2)⟩⟩
  · cases e
theorem t_not {s : ST} (ha : PT X a (tT X.K ma s)) : PT X (.UnaryOp .Not a pos) (tT X.K ma (sNot s)) := (pt_not ha).wk fun σ H Q ⟨env, c, env', As, L, e, hd, q⟩ => by
  unfold sNot at e
  split at e
  · rename_i c1 e1 h1
    cases e
    exact ⟨env, c1, env', As, L, h1, hd, q⟩
  · cases e
/-! as values, True or False -/
def sAndV (a b : SE) : SE := fun env => match a env with
  | some ((.bl true, _), e) => b e
  | some ((.bl false, _), e) => some ((.bl false, 0), e)
  | _ => none
def sOrV (a b : SE) : SE := fun env => match a env with
  | some ((.bl true, _), e) => some ((.bl true, 0), e)
  | some ((.bl false, _), e) => b e
  | _ => none
def sNotV (a : SE) : SE := fun env => match a env with
  | some ((.bl c, _), e) => some ((.bl (!c), 0), e)
  | _ => none
theorem e_one {op : BoolOp} {s : SE} (h : PE X a (tE X.K ma s)) : PE X (.BoolOp op [a] pos) (tE X.K ma s) := pe_one h
theorem e_and {s u : SE} (ha : PE X a (tE X.K ma s)) (hb : PE X (.BoolOp .And (b :: rest) pos) (tE X.K mb u)) : PE X (.BoolOp .And (a :: b :: rest) pos) (tE X.K (ma || mb) (sAndV s u)) := (pe_and ha hb).wk fun σ H Q ⟨env, r, env', As, L, e, hd, q⟩ => by
  unfold sAndV at e
  split at e
  · rename_i k e1 h1
    exact ⟨env, _, e1, As, L, h1, hd, fun v H1 As1 B P n rr => ⟨true, rr.bl, iteT ⟨e1, r, env', As1, L, e, P.drop0.hd0, fun v2 H2 As2 B2 R n2 r2 => q v2 H2 As2 B2 (P.drop0.seq R) (n.trans n2) r2⟩⟩⟩
  · rename_i k e1 h1
    cases e
    exact ⟨env, _, env', As, L, h1, hd, fun v H1 As1 B P n rr => ⟨false, rr.bl, iteF (q _ H1 As1 [] P.drop0 (fun z => n (Bool.or_eq_false_iff.mp z).1) (.zero (.bl false)))⟩⟩
  · cases e
theorem e_or {s u : SE} (ha : PE X a (tE X.K ma s)) (hb : PE X (.BoolOp .Or (b :: rest) pos) (tE X.K mb u)) : PE X (.BoolOp .Or (a :: b :: rest) pos) (tE X.K (ma || mb) (sOrV s u)) := (pe_or ha hb).wk fun σ H Q ⟨env, r, env', As, L, e, hd, q⟩ => by
  unfold sOrV at e
  split at e
  · rename_i k e1 h1
    cases e
    exact ⟨env, _, env', As, L, h1, hd, fun v H1 As1 B P n rr => ⟨true, rr.bl, iteT (q _ H1 As1 [] P.drop0 (fun z => n (Bool.or_eq_false_iff.mp z).1) (.zero (.bl true)))⟩⟩
  · rename_i k e1 h1
    exact ⟨env, _, e1, As, L, h1, hd, fun v H1 As1 B P n rr => ⟨false, rr.bl, iteF ⟨e1, r, env', As1, L, e, P.drop0.hd0, fun v2 H2 As2 B2 R n2 r2 => q v2 H2 As2 B2 (P.drop0.seq R) (n.trans n2) r2⟩⟩⟩
  · cases e
theorem e_not {s : SE} (ha : PE X a (tE X.K ma s)) : PE X (.UnaryOp .Not a pos) (tE X.K ma (sNotV s)) := (pe_not ha).wk fun σ H Q ⟨env, r, env', As, L, e, hd, q⟩ => by
  unfold sNotV at e
  split at e
  · rename_i c1 k e1 h1
    cases e
    exact ⟨env, _, env', As, L, h1, hd, fun v H1 As1 B P n rr => ⟨c1, rr.bl, q _ H1 As1 [] P.drop0 n (.zero (.bl _))⟩⟩
  · cases e
/-- a if t else b -/
def sIte (t : ST) (a b : SE) : SE := fun env => match t env with
  | some (true, e) => a e
  | some (false, e) => b e
  | none => none
theorem e_ite {t : ST} {s u : SE} (hc : PT X c (tT X.K mc t)) (ha : PE X a (tE X.K ma s)) (hb : PE X b (tE X.K mb u)) : PE X (.IfExp c a b pos) (tE X.K (mc || ma || mb) (sIte t s u)) := (pe_ifExp hc ha hb).wk fun σ H Q ⟨env, r, env', As, L, e, hd, q⟩ => by
  unfold sIte at e
  split at e
  · rename_i e1 h1
    exact ⟨env, true, e1, As, L, h1, hd, fun H1 As1 P n => iteT ⟨e1, r, env', As1, L, e, P.hd0, fun v2 H2 As2 B2 R n2 r2 => q v2 H2 As2 B2 (P.seq R) (fun z => (n.trans n2) (Bool.or_eq_false_iff.mp z).1) r2⟩⟩
  · rename_i e1 h1
    exact ⟨env, false, e1, As, L, h1, hd, fun H1 As1 P n => iteF ⟨e1, r, env', As1, L, e, P.hd0, fun v2 H2 As2 B2 R n2 r2 => q v2 H2 As2 B2 (P.seq R) (fun z => (n.trans n2) (by cases mc <;> cases ma <;> cases mb <;> first | rfl | cases z)) r2⟩⟩
  · cases e
/-- a op b op' c, b a scalar -/
def sChain (g g' : D → D → Option D) (a b c : SP) : SE := fun env => match a env with
  | some (x, e1) => match b e1 with
    | some (y, e2) => if x.scl = true ∧ y.scl = true then match g x y with
        | some (.bl true) => match c e2 with
          | some (z, e3) => match g' y z with
            | some w => if w.scl = true then some ((w, 0), e3) else none
            | none => none
          | none => none
        | some (.bl false) => some ((.bl false, 0), e2)
        | _ => none
      else none
    | none => none
  | none => none
theorem chain_wk {K : PySem.W.Frag} {g g' : D → D → Option D} {sa sb sc : SP} (σ : St) (H : Hp) (Q : VK) : tE K (ma || mb || mc) (sChain g g' sa sb sc) σ H Q → tChain (rOp K g) (rOp K g') (tP K ma sa) (tP K mb sb) (tP K mc sc) σ H Q := by
  rintro ⟨env, r, env', As, L, e, hd, q⟩
  unfold sChain at e
  split at e
  · rename_i x e1 h1
    split at e
    · rename_i y e2 h2
      split at e
      · rename_i hs
        split at e
        · rename_i hg
          split at e
          · rename_i z e3 h3
            split at e
            · rename_i w hg'
              split at e
              · rename_i hw
                cases e
                refine ⟨env, x, e1, As, L, h1, hd, fun v1 H1 As1 P1 n1 r1 => ⟨e1, y, e2, As1, L, h2, P1.hd0, fun v2 H2 As2 P2 n2 r2 => ?_⟩⟩
                refine ⟨x, y, _, by rw [scl_inv r1 hs.1]; exact scl_rep hs.1, r2, hg, rfl, true, rfl, iteT ?_⟩
                refine ⟨e2, z, env', As2, L, h3, P2.hd0, fun v3 H3 As3 P3 n3 r3 => ?_⟩
                refine ⟨y, z, w, by rw [scl_inv r2 hs.2]; exact scl_rep hs.2, r3, hg', hw, q _ H3 As3 [] ((P1.seq P2).seq P3) ((n1.trans n2).trans n3) (scl_end hw)⟩
              · cases e
            · cases e
          · cases e
        · rename_i hg
          cases e
          refine ⟨env, x, e1, As, L, h1, hd, fun v1 H1 As1 P1 n1 r1 => ⟨e1, y, env', As1, L, h2, P1.hd0, fun v2 H2 As2 P2 n2 r2 => ?_⟩⟩
          exact ⟨x, y, _, by rw [scl_inv r1 hs.1]; exact scl_rep hs.1, r2, hg, rfl, false, rfl, iteF (q _ H2 As2 [] (P1.seq P2) (fun z => (n1.trans n2) (Bool.or_eq_false_iff.mp z).1) (.zero (.bl false)))⟩
        · cases e
      · cases e
    · cases e
  · cases e
theorem e_chain {op op' : CmpOp} {g g' : D → D → Option D} {sa sb sc : SP} (ho : OpR X (compareOp op) (rOp X.K g)) (ho' : OpR X (compareOp op') (rOp X.K g')) (ha : PE X a (tP X.K ma sa)) (hb : PE X b (tP X.K mb sb)) (hc : PE X c (tP X.K mc sc)) (hm : lastMarks [op, op'] [b, c] = false := by with_unfolding_all rfl) :
    PE X (.Compare a [op, op'] [b, c] pos) (tE X.K (ma || mb || mc) (sChain g g' sa sb sc)) := (pe_chain ho ho' ha hb hc hm).wk chain_wk
theorem t_chain {op op' : CmpOp} {g g' : D → D → Option D} {sa sb sc : SP} (ho : OpR X (compareOp op) (rOp X.K g)) (ho' : OpR X (compareOp op') (rOp X.K g')) (ha : PE X a (tP X.K ma sa)) (hb : PE X b (tP X.K mb sb)) (hc : PE X c (tP X.K mc sc)) (hm : lastMarks [op, op'] [b, c] = false := by with_unfolding_all rfl) :
    PT X (.Compare a [op, op'] [b, c] pos) (tT X.K (ma || mb || mc) (sTv (sChain g g' sa sb sc))) := (pt_chain ho ho' ha hb hc hm).wk fun σ H Q q => by
  obtain ⟨env, t, env', As, L, e, hd, q⟩ := q
  obtain ⟨k, h1⟩ := sTv_some e
  exact chain_wk σ H _ ⟨env, _, env', As, L, h1, hd, fun v H' As' B P n r => ⟨t, r.bl, q H' As' P.drop0 n⟩⟩
def D.isNon : D → Bool
  | .non => true | _ => false
/-- is None, is not None -/
def sIsN (neg : Bool) (a : SP) : SE := fun env => match a env with
  | some (d, e) => some ((.bl (if neg = true then !d.isNon else d.isNon), 0), e)
  | none => none
theorem non_iff {K : PySem.W.Frag} {H : Hp} {v : V} {d : D} (r : RepV K H v d) : decide (v = .non) = d.isNon := by
  cases r <;> rfl
theorem sIsN_some {neg : Bool} {a : SP} {env e : En} {r : Rv} (h : sIsN neg a env = some (r, e)) : ∃ d, a env = some (d, e) ∧ r = (.bl (if neg = true then !d.isNon else d.isNon), 0) := by
  unfold sIsN at h
  split at h
  · cases h
    exact ⟨_, by assumption, rfl⟩
  · cases h
theorem isn_wk {K : PySem.W.Frag} {s : SP} (σ : St) (H : Hp) (Q : VK) : tE K ma (sIsN false s) σ H Q → tOp (fun x y H Q => y = .non ∧ Q (.bl (decide (x = .non))) H) (tP K ma s) (tC .non) σ H Q := by
  rintro ⟨env, r, env', As, L, e, hd, q⟩
  obtain ⟨d, h1, rfl⟩ := sIsN_some e
  exact ⟨env, d, env', As, L, h1, hd, fun v H1 As1 P n r => ⟨rfl, q _ H1 As1 [] P n (by rw [non_iff r]; exact .zero (.bl _))⟩⟩
theorem notn_wk {K : PySem.W.Frag} {s : SP} (σ : St) (H : Hp) (Q : VK) : tE K ma (sIsN true s) σ H Q → tOp (fun x y H Q => y = .non ∧ Q (.bl (!decide (x = .non))) H) (tP K ma s) (tC .non) σ H Q := by
  rintro ⟨env, r, env', As, L, e, hd, q⟩
  obtain ⟨d, h1, rfl⟩ := sIsN_some e
  exact ⟨env, d, env', As, L, h1, hd, fun v H1 As1 P n r => ⟨rfl, q _ H1 As1 [] P n (by rw [non_iff r]; exact .zero (.bl _))⟩⟩
theorem e_isn {s : SP} {j pos'} (ha : PE X a (tP X.K ma s)) : PE X (.Compare a [.Is] [.Constant .none j pos'] pos) (tE X.K ma (sIsN false s)) := (pe_cmpR op_isN ha pe_non rfl).wk isn_wk
theorem e_notn {s : SP} {j pos'} (ha : PE X a (tP X.K ma s)) : PE X (.Compare a [.IsNot] [.Constant .none j pos'] pos) (tE X.K ma (sIsN true s)) := (pe_cmpR op_notN ha pe_non rfl).wk notn_wk
theorem t_isn {s : SP} {j pos'} (ha : PE X a (tP X.K ma s)) : PT X (.Compare a [.Is] [.Constant .none j pos'] pos) (tT X.K ma (sTv (sIsN false s))) := (pt_cmpR op_isN ha pe_non rfl).wk fun σ H Q q => by
  obtain ⟨env, t, env', As, L, e, hd, q⟩ := q
  obtain ⟨k, h1⟩ := sTv_some e
  exact isn_wk σ H _ ⟨env, _, env', As, L, h1, hd, fun v H' As' B P n r => ⟨t, r.bl, q H' As' P.drop0 n⟩⟩
theorem t_notn {s : SP} {j pos'} (ha : PE X a (tP X.K ma s)) : PT X (.Compare a [.IsNot] [.Constant .none j pos'] pos) (tT X.K ma (sTv (sIsN true s))) := (pt_cmpR op_notN ha pe_non rfl).wk fun σ H Q q => by
  obtain ⟨env, t, env', As, L, e, hd, q⟩ := q
  obtain ⟨k, h1⟩ := sTv_some e
  exact notn_wk σ H _ ⟨env, _, env', As, L, h1, hd, fun v H' As' B P n r => ⟨t, r.bl, q H' As' P.drop0 n⟩⟩
end

/-! ### dicts, looked at -/
section
variable {κ : Type} [DecidableEq κ] {β : Type}
def look (kvs : List (κ × β)) (k : κ) : Option β := (kvs.find? fun kv => decide (kv.1 = k)).map (·.2)
theorem look_nil (k : κ) : look ([] : List (κ × β)) k = none := rfl
theorem look_cons (p : κ × β) (r : List (κ × β)) (k : κ) : look (p :: r) k = if p.1 = k then some p.2 else look r k := by
  unfold look
  rw [List.find?_cons]
  by_cases h : p.1 = k
  · simp [h]
  · simp [h]
end
def kD : D → Option Key
  | .int i => some (.inl i)
  | .str s => some (.inr s)
  | _ => none
def kDs : List D → Option (List Key)
  | [] => some []
  | d :: ds => match kD d, kDs ds with
    | some k, some ks => some (k :: ks)
    | _, _ => none
def tD : D → Option (List Key)
  | .tup ds => kDs ds
  | _ => none
theorem kD_rep {K : PySem.W.Frag} {H : Hp} {F : Addr → Prop} {v : V} {d : D} {k : Key} (r : RepD K H F v d) (h : kD d = some k) : v = kV k := by
  cases r <;> simp [kD] at h <;> subst h <;> rfl
theorem kDs_rep {K : PySem.W.Frag} {H : Hp} {F : Addr → Prop} : ∀ {vs : List V} {ds : List D} {ks : List Key}, RepDs K H F vs ds → kDs ds = some ks → vs = ks.map kV
  | _, _, ks, .nil, h => by simp [kDs] at h; subst h; rfl
  | _, _, ks, .cons r rs, h => by
    unfold kDs at h
    split at h
    · rename_i k ks' h1 h2
      cases h
      rw [kD_rep r h1, kDs_rep rs h2]
      rfl
    · cases h
theorem look_rep {κ : Type} [DecidableEq κ] {K : PySem.W.Frag} {H : Hp} {F : Addr → Prop} (k : κ) : ∀ {kvs : List (κ × V)} {kds : List (κ × D)}, kvs.map (·.1) = kds.map (·.1) → RepDs K H F (kvs.map (·.2)) (kds.map (·.2)) →
    (∀ d, look kds k = some d → ∃ v, valV kvs k = some v ∧ RepD K H F v d) ∧ (look kds k = none → valV kvs k = none)
  | [], [], _, _ => ⟨fun d h => by simp [look] at h, fun _ => rfl⟩
  | [], _ :: _, h, _ => by simp at h
  | _ :: _, [], h, _ => by simp at h
  | (k1, v1) :: kvs, (k2, d2) :: kds, h, r => by
    simp only [List.map_cons, List.cons.injEq] at h
    simp only [List.map_cons] at r
    obtain ⟨rfl, h⟩ := h
    cases r with
    | cons r rs =>
      obtain ⟨i1, i2⟩ := look_rep k h rs
      rw [look_cons]
      by_cases e : k1 = k
      · rw [if_pos e, valV_pos e]
        exact ⟨fun d q => by cases q; exact ⟨v1, rfl, r⟩, fun q => by cases q⟩
      · rw [if_neg e, valV_neg e]
        exact ⟨i1, i2⟩
/-- what a dict has under a key -/
def dget (d k : D) : Option (Option D) := match d with
  | .dK kvs => match kD k with
    | some k => some (look kvs k)
    | none => none
  | .dT kvs => match tD k with
    | some k => some (look kvs k)
    | none => none
  | _ => none
theorem dget_rep {K : PySem.W.Frag} {H : Hp} {x y : V} {d k : D} {o : Option D} (r1 : RepV K H x d) (r2 : RepV K H y k) (h : dget d k = some o) : ∃ a r, x = .ref a ∧ DGet H a y r ∧ (∀ e, o = some e → ∃ v, r = some v ∧ RepV K H v e) ∧ (o = none → r = none) := by
  unfold dget at h
  split at h
  · rename_i kvs
    split at h
    · rename_i k' hk
      cases h
      cases r1 with
      | dK e _ hk' rs =>
        obtain ⟨i1, i2⟩ := look_rep k' hk' rs
        exact ⟨_, _, rfl, .inl ⟨_, k', e, kD_rep r2 hk, rfl⟩, fun e' h' => i1 e' h', i2⟩
    · cases h
  · rename_i kvs
    split at h
    · rename_i k' hk
      cases h
      cases r1 with
      | dT e _ hk' rs =>
        obtain ⟨i1, i2⟩ := look_rep k' hk' rs
        unfold tD at hk
        split at hk
        · rename_i ds
          cases r2 with
          | tup e2 rd =>
            exact ⟨_, _, rfl, .inr ⟨_, k', _, e, rfl, by rw [e2, kDs_rep rd hk], rfl⟩, fun e' h' => i1 e' h', i2⟩
        · cases hk
    · cases h
  · cases h

/-! ### a[b] -/
def gIx (a b : D) : Option D := match a, b with
  | .lst ds, .int i => atI ds i
  | .tup ds, .int i => atI ds i
  | d, k => match dget d k with
    | some (some v) => some v
    | _ => none
theorem atI_rep {K : PySem.W.Frag} {H : Hp} {F : Addr → Prop} {vs : List V} {ds : List D} {i : Int} {d : D} (r : RepDs K H F vs ds) (h : atI ds i = some d) : ∃ v, atI vs i = some v ∧ RepD K H F v d := by
  unfold atI at h ⊢
  rw [r.length]
  cases e : ixN ds.length i with
  | none => rw [e] at h; cases h
  | some j =>
    rw [e] at h
    exact r.get h
/-- a[b], by values, an item that lies within -/
def rIx (K : PySem.W.Frag) : R2 := fun x y H Q => ∃ a b c, RepV K H x a ∧ RepV K H y b ∧ gIx a b = some c ∧ ∀ v, RepV K H v c → Q v H
section
variable {X : Cx} {a b : Expr} {ma mb : Bool} {pos : Pos}
theorem ix_any (hu : X.A.units + 1 < cLine) : IxR X (rIx X.K) := by
  intro value slice pins s σ H x y v u Q I rx ry h hs
  obtain ⟨da, db, c, r1, r2, hg, q⟩ := h
  have dict : ∀ {o : D}, dget da db = some (some o) → c = o → wpAny (model X.prog X.w) X.A (PyProof.Rows.subscriptTail value slice v u) (EP X pins σ Q) X.xe s := fun {o} hd e => by
    subst e
    obtain ⟨p, r, rfl, g, g1, _⟩ := dget_rep r1 r2 hd
    obtain ⟨w, rfl, rw'⟩ := g1 _ rfl
    cases rx
    exact PyProof.Rows.tail_any (dict_typeIs I g) PySem.F.slot_dict_getitem.lookup (d_getItem hu I g ry fun w2 s2 I2 r2' => (⟨w, H, I2, r2', q w rw'⟩ : EP X pins σ Q w2 s2)) hs
  unfold gIx at hg
  split at hg
  · rename_i ds i
    cases r1 with
    | lst e _ rs =>
      obtain ⟨w, h1, h2⟩ := atI_rep rs hg
      exact ix_list value slice pins s σ H _ y v u Q I rx ry ⟨_, _, i, w, rfl, intRep r2, SqL.of e, h1, q w h2⟩ hs
  · rename_i ds i
    cases r1 with
    | tup e rs =>
      obtain ⟨w, h1, h2⟩ := atI_rep rs hg
      exact ix_tup value slice pins s σ H _ y v u Q I rx ry ⟨_, _, i, w, rfl, intRep r2, SqT.of e, h1, q w h2⟩ hs
  · split at hg
    · rename_i w hd
      cases hg
      exact dict hd rfl
    · cases hg
/-- looked at -/
def sSub (mb : Bool) (a b : SP) : SP := fun env => match a env with
  | some (x, e1) => match b e1 with
    | some (y, e2) => if (mb && !x.scl) = true then none else match gIx x y with
      | some c => some (c, e2)
      | none => none
    | none => none
  | none => none
theorem p_sub {sa sb : SP} (hu : X.A.units + 1 < cLine) (ha : PE X a (tP X.K ma sa)) (hb : PE X b (tP X.K mb sb)) (hs : PlainIx b) : PE X (.Subscript a b pos) (tP X.K (ma || mb) (sSub mb sa sb)) := (pe_ix (ix_any hu) ha hb hs).wk fun σ H Q ⟨env, d, env', As, L, e, hd, q⟩ => by
  unfold sSub at e
  split at e
  · rename_i x e1 h1
    split at e
    · rename_i y e2 h2
      split at e
      · cases e
      · rename_i hm
        split at e
        · rename_i c hg
          cases e
          refine ⟨env, x, e1, As, L, h1, hd, fun v1 H1 As1 P1 n1 r1 => ⟨e1, y, env', As1, L, h2, P1.hd0, fun v2 H2 As2 P2 n2 r2 => ⟨x, y, _, ?_, r2, hg, fun v r => q v H2 As2 (P1.seq P2) (n1.trans n2) r⟩⟩⟩
          cases mb with
          | false => exact r1.keep (n2 rfl)
          | true =>
            have hx : x.scl = true := by simpa using hm
            rw [scl_inv r1 hx]
            exact scl_rep hx
        · cases e
    · cases e
  · cases e

/-! ### what may never change: looked at, then kept -/
mutual
def D.im : D → Bool
  | .non => true | .bl _ => true | .int _ => true | .str _ => true
  | .tup xs => ims xs
  | .lst _ => false | .dK _ => false | .dT _ => false | .scr _ => false
def ims : List D → Bool
  | [] => true
  | x :: xs => x.im && ims xs
end
theorem ims_all : ∀ xs : List D, ims xs = xs.all D.im
  | [] => by simp only [ims, List.all_nil]
  | x :: xs => by simp only [ims, List.all_cons, ims_all xs]
mutual
theorem im_any {K : PySem.W.Frag} {H : Hp} {F F' : Addr → Prop} : ∀ {v : V} {d : D}, RepD K H F v d → d.im = true → RepD K H F' v d
  | _, _, .non, _ => .non
  | _, _, .bl b, _ => .bl b
  | _, _, .int i, _ => .int i
  | _, _, .str s, _ => .str s
  | _, _, .tup e r, h => .tup e (ims_any r (by simpa [D.im] using h))
  | _, _, .lst _ _ _, h => by simp [D.im] at h
  | _, _, .scr _, h => by simp [D.im] at h
  | _, _, .dK _ _ _ _, h => by simp [D.im] at h
  | _, _, .dT _ _ _ _, h => by simp [D.im] at h
theorem ims_any {K : PySem.W.Frag} {H : Hp} {F F' : Addr → Prop} : ∀ {vs : List V} {ds : List D}, RepDs K H F vs ds → ims ds = true → RepDs K H F' vs ds
  | _, _, .nil, _ => .nil
  | _, _, .cons r rs, h => by
    simp only [ims, Bool.and_eq_true] at h
    exact .cons (im_any r h.1) (ims_any rs h.2)
end
def sIm (p : SP) : SE := fun env => match p env with
  | some (d, e) => if d.im = true then some ((d, 0), e) else none
  | none => none
theorem e_im {s : SP} (h : PE X a (tP X.K ma s)) : PE X a (tE X.K ma (sIm s)) := h.wk fun σ H Q ⟨env, r, env', As, L, e, hd, q⟩ => by
  unfold sIm at e
  split at e
  · rename_i d e1 h1
    split at e
    · rename_i hi
      cases e
      exact ⟨env, d, env', As, L, h1, hd, fun v H1 As1 P n r => q v H1 As1 [] P n (.zero (im_any r hi))⟩
    · cases e
  · cases e
/-- an item of a value (the value itself given away) -/
def sSubV (a : SE) (b : SP) : SE := fun env => match a env with
  | some ((x, _), e1) => match b e1 with
    | some (y, e2) => match gIx x y with
      | some c => some ((c, 0), e2)
      | none => none
    | none => none
  | none => none
end
end Ev
set_option Elab.async false
set_option linter.all false
set_option autoImplicit false
set_option maxRecDepth 100000
set_option maxHeartbeats 4000000
/-! Ev4: values given away, lists and tuples by their items; displays, slices, +, list(), tuple(), len. -/
namespace Ev
open PySem PySem.Spec L2

section
variable {K : PySem.W.Frag} {σ σ1 σ2 : St} {env env1 env2 : En} {H H1 H2 : Hp} {As As1 As2 : Own} {L : Addr → Prop} {B B1 B2 : List Addr}
theorem Pst.keepDs (P : Pst K σ env H As L σ1 env1 H1 As1 B) {vs : List V} {ds : List D} (r : RepDs K H (Fb As L) vs ds) : RepDs K H1 (Fb As1 (plusL L B)) vs ds :=
  r.to (fun p o e n => by
    have n1 : ∀ i, p ∉ As i := fun i m => n (.inl ⟨i, m⟩)
    have n2 : ¬ L p := fun m => n (.inr m)
    refine ⟨P.fr p o e (.inr n1), fun q => ?_⟩
    rcases q with ⟨i, m⟩ | m | m
    · exact (P.fresh e n1).1 i m
    · exact n2 m
    · exact (P.fresh e n1).2 m) P.tu
theorem RepOs.ofD {F : Addr → Prop} : ∀ {vs : List V} {ds : List D}, RepDs K H F vs ds → RepOs K H F 0 vs ds []
  | _, _, .nil => .nil
  | _, _, .cons r rs => .cons (B := []) (C := []) (.zero r) (RepOs.ofD rs)
theorem Pst.frozen (P : Pst K σ env H As L σ1 env1 H1 As1 B) {k : Nat} {v : V} {d : D} (r : RepO K H1 (Fb As1 (plusL L B)) k v d B) : RepD K H1 (Fb As1 L) v d :=
  r.frozen (fun a q => q.elim .inl fun q => .inr (.inl q)) fun a m q => q.elim (fun ⟨i, q⟩ => (P.bo a m).2.1 i q) fun q => (P.bo a m).1 q
theorem RepA.length {F : Addr → Prop} : ∀ {vs : List V} {rs : List Rv} {B : List Addr}, RepA K H F vs rs B → vs.length = rs.length
  | _, _, _, .nil => rfl
  | _, _, _, .cons _ r => congrArg (· + 1) (RepA.length r)
theorem RepA.frozen {F F' : Addr → Prop} (hF : ∀ p, F' p → F p) : ∀ {vs : List V} {rs : List Rv} {B : List Addr}, RepA K H F vs rs B → (∀ p ∈ B, ¬ F' p) → RepDs K H F' vs (rs.map (·.1))
  | _, _, _, .nil, _ => .nil
  | _, _, _, .cons r rs, hB => .cons (r.frozen hF fun p m => hB p (List.mem_append_left _ m)) (RepA.frozen hF rs fun p m => hB p (List.mem_append_right _ m))
theorem Pst.frozenA (P : Pst K σ env H As L σ1 env1 H1 As1 B) {vs : List V} {rs : List Rv} (r : RepA K H1 (Fb As1 (plusL L B)) vs rs B) : RepDs K H1 (Fb As1 L) vs (rs.map (·.1)) :=
  r.frozen (fun a q => q.elim .inl fun q => .inr (.inl q)) fun a m q => q.elim (fun ⟨i, q⟩ => (P.bo a m).2.1 i q) fun q => (P.bo a m).1 q
/-- a new list of such items -/
theorem Pst.newList (P : Pst K σ env H As L σ1 env1 H1 As1 []) {vs : List V} {ds : List D} (r : RepDs K H1 (Fb As1 L) vs ds) {p : Addr} (n : H1 p = none) :
    Pst K σ env H As L σ1 env1 (upd H1 p (.lst vs)) As1 [p] ∧ RepO K (upd H1 p (.lst vs)) (Fb As1 (plusL L [p])) 1 (.ref p) (.lst ds) [p] := by
  have Q := Pst.alloc1 (o := .lst vs) P.hd0 n (fun _ _ z => nomatch z)
  have r2 : RepDs K (upd H1 p (.lst vs)) (Fb As1 (plusL L [p])) vs ds := r.to (fun q o e nn => by
    have z : q ≠ p := fun z => by subst z; rw [n] at e; cases e
    refine ⟨by rw [upd_ne z]; exact e, fun w => ?_⟩
    rcases w with w | w | w
    · exact nn (.inl w)
    · exact nn (.inr w)
    · exact z (List.mem_singleton.mp w)) fun q xs e => by rw [upd_ne (fun z => by subst z; rw [n] at e; cases e)]; exact e
  exact ⟨P.seq Q, .lst (B := []) upd_same (RepOs.ofD r2)⟩
theorem Pst.newTup (P : Pst K σ env H As L σ1 env1 H1 As1 []) {vs : List V} {ds : List D} (r : RepDs K H1 (Fb As1 L) vs ds) {p : Addr} (n : H1 p = none) :
    Pst K σ env H As L σ1 env1 (upd H1 p (.tup vs)) As1 [] ∧ RepO K (upd H1 p (.tup vs)) (Fb As1 (plusL L [])) 0 (.ref p) (.tup ds) [] := by
  have Q := Pst.alloc (o := .tup vs) P.hd0 n
  have r2 : RepDs K (upd H1 p (.tup vs)) (Fb As1 (plusL L [])) vs ds := r.to (fun q o e nn => by
    have z : q ≠ p := fun z => by subst z; rw [n] at e; cases e
    exact ⟨by rw [upd_ne z]; exact e, by rw [plusL_nil]; exact nn⟩) fun q xs e => by rw [upd_ne (fun z => by subst z; rw [n] at e; cases e)]; exact e
  exact ⟨P.seq Q, .zero (.tup upd_same r2)⟩
end

/-! ### given away; by its items -/
def Sq (t : Bool) (H : Hp) (p : Addr) (vs : List V) : Prop := H p = some (if t = true then .tup vs else .lst vs)
abbrev SL := En → Option ((Bool × List D) × En)
section
variable (K : PySem.W.Frag) (mu : Bool)
def tF (s : SP) : TE := fun σ H Q => ∃ env d env' As L, s env = some (d, env') ∧ Holds K H σ env As L ∧
  ∀ v H' As', Pst K σ env H As L σ env' H' As' [] → Nm mu H H' → RepD K H' (Fb As' L) v d → Q v H'
def tL (st : Bool) (s : SL) : TE := fun σ H Q => ∃ env t ds env' As L, s env = some ((t, ds), env') ∧ Holds K H σ env As L ∧
  ∀ p vs H' As', Pst K σ env H As L σ env' H' As' [] → Nm mu H H' → Sq t H' p vs → RepDs K H' (Fb As' L) vs ds →
    (st = true → ∀ σ2 env2 H2 As2 B2, Pst K σ env' H' As' L σ2 env2 H2 As2 B2 → Sq t H2 p vs) → Q (.ref p) H'
end
section
variable {X : Cx} {a b : Expr} {es : List Expr} {ma mb : Bool} {pos : Pos}
theorem f_of {s : SE} (h : PE X a (tE X.K ma s)) : PE X a (tF X.K ma (pkE s)) := h.wk fun σ H Q ⟨env, d, env', As, L, e, hd, q⟩ => by
  unfold pkE at e
  cases h1 : s env with
  | none => rw [h1] at e; cases e
  | some x =>
    rw [h1] at e
    cases e
    exact ⟨env, x.1, x.2, As, L, h1, hd, fun v H' As' B P n r => q v H' As' P.drop0 n (P.frozen r)⟩
def pkV (p : SP) : SE := fun env => (p env).map fun x => ((x.1, 0), x.2)
theorem e_of {s : SP} (h : PE X a (tF X.K ma s)) : PE X a (tE X.K ma (pkV s)) := h.wk fun σ H Q ⟨env, r, env', As, L, e, hd, q⟩ => by
  unfold pkV at e
  cases h1 : s env with
  | none => rw [h1] at e; cases e
  | some x =>
    rw [h1] at e
    cases e
    exact ⟨env, x.1, x.2, As, L, h1, hd, fun v H' As' P n r => q v H' As' [] P n (.zero (by rw [plusL_nil]; exact r))⟩
theorem p_of_f {s : SP} (h : PE X a (tF X.K ma s)) : PE X a (tP X.K ma s) := h.wk fun σ H Q ⟨env, r, env', As, L, e, hd, q⟩ => ⟨env, r, env', As, L, e, hd, fun v H' As' P n r => q v H' As' P n r.view⟩
/-- an item of a value that is given away -/
theorem f_sub {sa sb : SP} (hu : X.A.units + 1 < cLine) (ha : PE X a (tF X.K ma sa)) (hb : PE X b (tP X.K mb sb)) (hs : PlainIx b) : PE X (.Subscript a b pos) (tF X.K (ma || mb) (sSub false sa sb)) := by
  have rule : IxR X (fun x y H Q => ∃ p q c F, RepD X.K H F x p ∧ RepV X.K H y q ∧ gIx p q = some c ∧ ∀ v, RepD X.K H F v c → Q v H) := by
    intro value slice pins s σ H x y v u Q I rx ry h hs
    obtain ⟨da, db, c, F, r1, r2, hg, q⟩ := h
    have dict : ∀ {o : D}, dget da db = some (some o) → c = o → wpAny (model X.prog X.w) X.A (PyProof.Rows.subscriptTail value slice v u) (EP X pins σ Q) X.xe s := fun {o} hd e => by
      subst e
      unfold dget at hd
      split at hd
      · rename_i kvs
        split at hd
        · rename_i k' hk
          cases r1 with
          | dK e _ hk' rs =>
            have g : DGet H _ y (valV _ k') := .inl ⟨_, k', e, kD_rep r2 hk, rfl⟩
            obtain ⟨i1, _⟩ := look_rep k' hk' rs
            obtain ⟨w, hw, rw'⟩ := i1 _ (Option.some.inj hd)
            rw [hw] at g
            cases rx
            exact PyProof.Rows.tail_any (dict_typeIs I g) PySem.F.slot_dict_getitem.lookup (d_getItem hu I g ry fun w2 s2 I2 r2' => (⟨w, H, I2, r2', q w rw'⟩ : EP X pins σ Q w2 s2)) hs
        · cases hd
      · rename_i kvs
        split at hd
        · rename_i k' hk
          cases r1 with
          | dT e _ hk' rs =>
            unfold tD at hk
            split at hk
            · rename_i ds
              cases r2 with
              | tup e2 rd =>
                have g : DGet H _ (V.ref _) (valV _ k') := .inr ⟨_, k', _, e, rfl, by rw [e2, kDs_rep rd hk], rfl⟩
                obtain ⟨i1, _⟩ := look_rep k' hk' rs
                obtain ⟨w, hw, rw'⟩ := i1 _ (Option.some.inj hd)
                rw [hw] at g
                cases rx
                exact PyProof.Rows.tail_any (dict_typeIs I g) PySem.F.slot_dict_getitem.lookup (d_getItem hu I g ry fun w2 s2 I2 r2' => (⟨w, H, I2, r2', q w rw'⟩ : EP X pins σ Q w2 s2)) hs
            · cases hk
        · cases hd
      · cases hd
    unfold gIx at hg
    split at hg
    · rename_i ds i
      cases r1 with
      | lst e _ rs =>
        obtain ⟨w, h1, h2⟩ := atI_rep rs hg
        exact ix_list value slice pins s σ H _ y v u Q I rx ry ⟨_, _, i, w, rfl, intRep r2, SqL.of e, h1, q w h2⟩ hs
    · rename_i ds i
      cases r1 with
      | tup e rs =>
        obtain ⟨w, h1, h2⟩ := atI_rep rs hg
        exact ix_tup value slice pins s σ H _ y v u Q I rx ry ⟨_, _, i, w, rfl, intRep r2, SqT.of e, h1, q w h2⟩ hs
    · split at hg
      · rename_i w hd
        cases hg
        exact dict hd rfl
      · cases hg
  refine (pe_ix rule ha hb hs).wk fun σ H Q ⟨env, d, env', As, L, e, hd, q⟩ => ?_
  unfold sSub at e
  split at e
  · rename_i x e1 h1
    split at e
    · rename_i y e2 h2
      split at e
      · cases e
      · split at e
        · rename_i c hg
          cases e
          refine ⟨env, x, e1, As, L, h1, hd, fun v1 H1 As1 P1 n1 r1 => ⟨e1, y, env', As1, L, h2, P1.hd0, fun v2 H2 As2 P2 n2 r2 => ⟨x, y, _, Fb As2 L, ?_, r2, hg, fun v r => q v H2 As2 (P1.seq P2) (n1.trans n2) r⟩⟩⟩
          have := P2.keepD r1
          rwa [plusL_nil] at this
        · cases e
    · cases e
  · cases e
def sItm (p : SP) : SL := fun env => match p env with
  | some (.lst ds, e) => some ((false, ds), e)
  | some (.tup ds, e) => some ((true, ds), e)
  | _ => none
theorem RdL.sq {K : PySem.W.Frag} {H : Hp} {F : Addr → Prop} {p : Addr} {vs : List V} (h : RdL K H F p vs) : SqL K H p vs := h.imp And.left id
theorem l_of_f {s : SP} (h : PE X a (tF X.K ma s)) : PE X a (tL X.K ma true (sItm s)) := h.wk fun σ H Q ⟨env, t, ds, env', As, L, e, hd, q⟩ => by
  unfold sItm at e
  split at e
  · rename_i ds1 e1 h1
    cases e
    refine ⟨env, _, env', As, L, h1, hd, fun v H' As' P n r => ?_⟩
    cases r with
    | lst e nn r =>
      refine q _ _ H' As' P n (show H' _ = some _ from e) r fun _ σ2 env2 H2 As2 B2 P2 => ?_
      show H2 _ = some _
      exact P2.fr _ _ e (.inr fun i m => nn (.inl ⟨i, m⟩))
  · rename_i ds1 e1 h1
    cases e
    refine ⟨env, _, env', As, L, h1, hd, fun v H' As' P n r => ?_⟩
    cases r with
    | tup e r => exact q _ _ H' As' P n (show H' _ = some _ from e) r fun _ σ2 env2 H2 As2 B2 P2 => show H2 _ = some _ from P2.tu _ _ e
  · cases e
/-- the items of what is looked at, if they never change -/
def sItmP (p : SP) : SL := fun env => match p env with
  | some (.lst ds, e) => if ims ds = true then some ((false, ds), e) else none
  | some (.tup ds, e) => if ims ds = true then some ((true, ds), e) else none
  | _ => none
theorem l_of_p {s : SP} (h : PE X a (tP X.K ma s)) : PE X a (tL X.K ma false (sItmP s)) := h.wk fun σ H Q ⟨env, t, ds, env', As, L, e, hd, q⟩ => by
  unfold sItmP at e
  split at e
  · rename_i ds1 e1 h1
    split at e
    · rename_i hi
      cases e
      refine ⟨env, _, env', As, L, h1, hd, fun v H' As' P n r => ?_⟩
      cases r with
      | lst e _ r => exact q _ _ H' As' P n (show H' _ = some _ from e) (ims_any r hi) fun z => nomatch z
    · cases e
  · rename_i ds1 e1 h1
    split at e
    · rename_i hi
      cases e
      refine ⟨env, _, env', As, L, h1, hd, fun v H' As' P n r => ?_⟩
      cases r with
      | tup e r => exact q _ _ H' As' P n (show H' _ = some _ from e) (ims_any r hi) fun z => nomatch z
    · cases e
  · cases e

/-! ### argument lists -/
def saNil : SA := fun env => some ([], env)
def saCons (s : SE) (t : SA) : SA := fun env => match s env with
  | some (r, e1) => match t e1 with
    | some (rs, e2) => some (r :: rs, e2)
    | none => none
  | none => none
theorem a_nil : PA X [] (tA X.K false saNil) := pa_nil.wk fun σ H Q ⟨env, rs, env', As, L, e, hd, q⟩ => by
  cases e
  exact q [] H As [] (Pst.refl hd) Nm.refl .nil
theorem a_cons {s : SE} {t : SA} (ha : PE X a (tE X.K ma s)) (hr : PA X es (tA X.K mb t)) (hs : starEach (a :: es) X.env = (false, eval a X.env) :: starEach es X.env := by rfl) : PA X (a :: es) (tA X.K (ma || mb) (saCons s t)) := (pa_cons ha hr hs).wk fun σ H Q ⟨env, rs, env', As, L, e, hd, q⟩ => by
  unfold saCons at e
  split at e
  · rename_i r e1 h1
    split at e
    · rename_i rs e2 h2
      cases e
      refine ⟨env, r, e1, As, L, h1, hd, fun v1 H1 As1 B1 P1 n1 r1 => ⟨e1, rs, env', As1, plusL L B1, h2, P1.hd, fun vs H2 As2 B2 P2 n2 r2 => ?_⟩⟩
      refine q _ H2 As2 (B1 ++ B2) (P1.trans P2) (n1.trans n2) ?_
      rw [← plusL_app]
      exact .cons (P2.keepO r1 fun a m => .inr m) r2
    · cases e
  · cases e

/-! ### displays -/
def sTup (t : SA) : SE := fun env => match t env with
  | some (rs, e) => if rs.length ≤ 1000 then some ((.tup (rs.map (·.1)), 0), e) else none
  | none => none
theorem le1000 {n : Nat} (h : n ≤ 1000) : n ≤ sizeLine := Nat.le_trans h (by decide)
theorem e_tup {t : SA} {x1} (h : PA X es (tA X.K ma t)) : PE X (.Tuple es x1 pos) (tE X.K ma (sTup t)) := (pe_tup h).wk fun σ H Q ⟨env, r, env', As, L, e, hd, q⟩ => by
  unfold sTup at e
  split at e
  · rename_i rs e1 h1
    split at e
    · rename_i hl
      cases e
      refine ⟨env, rs, env', As, L, h1, hd, fun vs H1 As1 B P n r => ⟨by rw [r.length]; exact le1000 hl, fun p np => ?_⟩⟩
      obtain ⟨P2, r2⟩ := P.drop0.newTup (P.frozenA r) np
      exact q _ _ As1 [] P2 (fun z a o e => Nm.new (mu := false) np rfl a o (n z a o e)) r2
    · cases e
  · cases e
/-- how many levels of a new list are to be owned: 1, or more where its items are owned so -/
def ownOk (k : Nat) (rs : List Rv) : Bool := match k with
  | 0 => false
  | 1 => true
  | j + 2 => rs.all fun r => decide (r.2 = j + 1) || r.1.imm
theorem RepA.own {K : PySem.W.Frag} {H : Hp} {F : Addr → Prop} {j : Nat} : ∀ {vs : List V} {rs : List Rv} {B : List Addr}, RepA K H F vs rs B → (rs.all fun r => decide (r.2 = j + 1) || r.1.imm) = true → RepOs K H F (j + 1) vs (rs.map (·.1)) B
  | _, _, _, .nil, _ => .nil
  | _, _, _, .cons (r := r) ro rs, h => by
    simp only [List.all_cons, Bool.and_eq_true, Bool.or_eq_true, decide_eq_true_eq] at h
    refine .cons ?_ (RepA.own rs h.2)
    rcases h.1 with e | e
    · rw [← e]; exact ro
    · obtain ⟨rd, b0⟩ := ro.immD (.inr e)
      rw [b0]
      exact .flat e rd
/-- a new list whose items are owned with it -/
theorem Pst.newListO {K : PySem.W.Frag} {σ σ1 : St} {env env1 : En} {H H1 : Hp} {As As1 : Own} {L : Addr → Prop} {B : List Addr} {j : Nat} (P : Pst K σ env H As L σ1 env1 H1 As1 B) {vs : List V} {ds : List D} (r : RepOs K H1 (Fb As1 (plusL L B)) j vs ds B) {p : Addr} (n : H1 p = none) :
    Pst K σ env H As L σ1 env1 (upd H1 p (.lst vs)) As1 (p :: B) ∧ RepO K (upd H1 p (.lst vs)) (Fb As1 (plusL L (p :: B))) (j + 1) (.ref p) (.lst ds) (p :: B) := by
  have Q := Pst.alloc1 (o := .lst vs) P.hd n (fun _ _ z => nomatch z)
  have T := P.trans Q
  have T2 := T.drop (p :: B) (fun a m => by
    rcases List.mem_cons.mp m with rfl | m
    · exact List.mem_append_right _ (List.mem_singleton.mpr rfl)
    · exact List.mem_append_left _ m) (List.nodup_cons.mpr ⟨(fun m => by
      obtain ⟨o, e⟩ := P.hd.lv p (.inr m)
      rw [n] at e
      cases e), P.bn⟩)
  have ne : ∀ {q : Addr} {o : HO}, H1 q = some o → q ≠ p := fun e z => by subst z; rw [n] at e; cases e
  refine ⟨T2, .lst upd_same (r.to (fun q o e nn => ⟨by rw [upd_ne (ne e)]; exact e, fun w => ?_⟩) (fun q xs e => by rw [upd_ne (ne e)]; exact e) fun q m o e => by rw [upd_ne (ne e)]; exact e)⟩
  rcases w with w | w | w
  · exact nn (.inl w)
  · exact nn (.inr (.inl w))
  · rcases List.mem_cons.mp w with w | w
    · exact ne e w
    · exact nn (.inr (.inr w))
def sLst (k : Nat) (t : SA) : SE := fun env => match t env with
  | some (rs, e) => if rs.length ≤ 1000 ∧ ownOk k rs = true then some ((.lst (rs.map (·.1)), k), e) else none
  | none => none
theorem e_lst {t : SA} {k : Nat} (h : PA X es (tA X.K ma t)) : PE X (.List es pos) (tE X.K ma (sLst k t)) := (pe_lst h).wk fun σ H Q ⟨env, r, env', As, L, e, hd, q⟩ => by
  unfold sLst at e
  split at e
  · rename_i rs e1 h1
    split at e
    · rename_i hl
      cases e
      refine ⟨env, rs, env', As, L, h1, hd, fun vs H1 As1 B P n r => ⟨by rw [r.length]; exact le1000 hl.1, fun p np => ?_⟩⟩
      have nm : Nm ma H (upd H1 p (.lst vs)) := fun z a o e => Nm.new (mu := false) np rfl a o (n z a o e)
      match k, hl.2 with
      | 0, z => exact absurd z Bool.false_ne_true
      | 1, _ =>
        obtain ⟨P2, r2⟩ := P.drop0.newList (P.frozenA r) np
        exact q _ _ As1 _ P2 nm r2
      | j + 2, z =>
        obtain ⟨P2, r2⟩ := P.newListO (r.own (j := j) z) np
        exact q _ _ As1 _ P2 nm r2
    · cases e
  · cases e

/-! ### len -/
def gLen : D → Option Int
  | .lst ds => some ds.length
  | .tup ds => some ds.length
  | .dK kvs => some kvs.length
  | .dT kvs => some kvs.length
  | _ => none
/-- a call of a built-in with one argument looked at, a scalar out -/
def sC1 (g : D → Option D) (p : SP) : SE := fun env => match p env with
  | some (d, e) => match g d with
    | some c => if c.scl = true then some ((c, 0), e) else none
    | none => none
  | none => none
def rC1 (K : PySem.W.Frag) (g : D → Option D) : List V → Hp → VK → Prop := fun xs H Q => ∃ x d c, xs = [x] ∧ RepV K H x d ∧ g d = some c ∧ c.scl = true ∧ Q (dV c) H
theorem c1_wk {K : PySem.W.Frag} {g : D → Option D} {s : SP} (σ : St) (H : Hp) (Q : VK) : tE K ma (sC1 g s) σ H Q → tCB (rC1 K g) (tCons (tP K ma s) tNil) σ H Q := by
  rintro ⟨env, r, env', As, L, e, hd, q⟩
  unfold sC1 at e
  split at e
  · rename_i d e1 h1
    split at e
    · rename_i c hc
      split at e
      · rename_i hs
        cases e
        exact ⟨env, d, env', As, L, h1, hd, fun v H1 As1 P n r => ⟨v, d, c, rfl, r, hc, hs, q _ H1 As1 [] P n (scl_end hs)⟩⟩
      · cases e
    · cases e
  · cases e
theorem e_b1 {x : Str} {p : Pos} {id : String} {g : D → Option D} {s : SP} (hc : CallR X (.builtin id) (rC1 X.K g)) (hg : Gl X x) (hm : X.mg x = none) (hv : bootBuiltins x = some (.builtin id)) (ha : PE X a (tP X.K ma s)) (hn : x ≠ "__name__" := by decide) (hd : (x == ("__debug__" : Str)) = false := by decide) (hs : starEach [a] X.env = (false, eval a X.env) :: starEach [] X.env := by rfl) (hpl : (backTo pos (starEach [] X.env)).any (·.1) = false := by rfl) :
    PE X (.Call (.Name x p) [a] [] pos) (tE X.K ma (sC1 g s)) := (pe_callB hc hg hm hv (pa_cons ha pa_nil hs) (hn := hn) (hdb := hd) (he := hs) (hpl := hpl)).wk c1_wk
theorem e_t1 {x : Str} {p : Pos} {T : String} {g : D → Option D} {s : SP} (hc : CallR X (.type T) (rC1 X.K g)) (hg : Gl X x) (hm : X.mg x = none) (hv : bootBuiltins x = some (.type T)) (ha : PE X a (tP X.K ma s)) (hn : x ≠ "__name__" := by decide) (hd : (x == ("__debug__" : Str)) = false := by decide) (hs : starEach [a] X.env = (false, eval a X.env) :: starEach [] X.env := by rfl) (hpl : (backTo pos (starEach [] X.env)).any (·.1) = false := by rfl) :
    PE X (.Call (.Name x p) [a] [] pos) (tE X.K ma (sC1 g s)) := (pe_callTy hc hg hm hv (pa_cons ha pa_nil hs) (hn := hn) (hdb := hd) (he := hs) (hpl := hpl)).wk c1_wk
end
end Ev
set_option Elab.async false
set_option linter.all false
set_option autoImplicit false
set_option maxRecDepth 100000
set_option maxHeartbeats 4000000
/-! Ev5: built-ins with a scalar answer; lists and tuples made of others' items. -/
namespace Ev
open PySem PySem.Spec L2

section
variable {X : Cx} {a b : Expr} {es : List Expr} {ma mb : Bool} {pos : Pos}
/-! ### scalars out -/
def gLenD (d : D) : Option D := match d with
  | .lst ds => some (.int ds.length)
  | .tup ds => some (.int ds.length)
  | .dK kvs => some (.int kvs.length)
  | .dT kvs => some (.int kvs.length)
  | .scr ns => some (.int ns.length)
  | _ => none
theorem RepDs.sumLen {K : PySem.W.Frag} {H : Hp} {F : Addr → Prop} {κ : Type} {kvs : List (κ × V)} {kds : List (κ × D)} (h : kvs.map (·.1) = kds.map (·.1)) : kvs.length = kds.length := by
  have := congrArg List.length h
  simpa using this
/-- dicts that no loop holds -/
def Unlk (H : Hp) : V → Prop
  | .ref a => ∀ o u, H a ≠ some (.frz o u)
  | _ => True
theorem cr_len : CallR X (.builtin "len") (fun xs H Q => ∃ x d c, xs = [x] ∧ RepV X.K H x d ∧ (Unlk H x ∨ ∀ kvs kvt, d ≠ .dK kvs ∧ d ≠ .dT kvt) ∧ gLenD d = some c ∧ Q (dV c) H) := by
  intro pins s σ H xs us Q I r ⟨x, d, c, e, rd, hu, hg, q⟩
  subst e
  cases rd with
  | non => simp [gLenD] at hg
  | bl => simp [gLenD] at hg
  | int => simp [gLenD] at hg
  | str => simp [gLenD] at hg
  | tup e rs =>
    simp only [gLenD, Option.some.injEq] at hg
    subst hg
    exact call_len_seq pins s σ H _ us Q I r ⟨_, _, rfl, .inr (SqT.of e), by rw [rs.length]; exact q⟩
  | lst e _ rs =>
    simp only [gLenD, Option.some.injEq] at hg
    subst hg
    exact call_len_seq pins s σ H _ us Q I r ⟨_, _, rfl, .inl (SqL.of e), by rw [rs.length]; exact q⟩
  | scr e =>
    simp only [gLenD, Option.some.injEq] at hg
    subst hg
    exact call_len_seq pins s σ H _ us Q I r ⟨_, _, rfl, .inl e.sq, by rw [List.length_map]; exact q⟩
  | dK e _ hk rs =>
    simp only [gLenD, Option.some.injEq] at hg
    subst hg
    have hl := congrArg List.length hk
    simp only [List.length_map] at hl
    rcases hu with hu | hu
    · rcases e with e | ⟨o, e⟩
      · exact call_lenD pins s σ H _ us Q I r ⟨_, _, rfl, e, by rw [hl]; exact q⟩
      · exact absurd e (hu _ _)
    · exact absurd rfl (hu _ []).1
  | dT e _ hk rs =>
    simp only [gLenD, Option.some.injEq] at hg
    subst hg
    have hl := congrArg List.length hk
    simp only [List.length_map] at hl
    rcases hu with hu | hu
    · rcases e with e | ⟨o, e⟩
      · exact call_len_dT pins s σ H _ us Q I r ⟨_, _, rfl, e, by rw [hl]; exact q⟩
      · exact absurd e (hu _ _)
    · exact absurd rfl (hu [] _).2
/-- len of a list, a tuple, the script -/
def gLen1 (d : D) : Option D := match d with
  | .lst ds => some (.int ds.length)
  | .tup ds => some (.int ds.length)
  | .scr ns => some (.int ns.length)
  | _ => none
theorem c_len : CallR X (.builtin "len") (rC1 X.K gLen1) := by
  intro pins s σ H xs us Q I r ⟨x, d, c, e, rd, hg, _, q⟩
  refine cr_len pins s σ H xs us Q I r ⟨x, d, c, e, rd, .inr fun kvs kvt => ⟨fun z => ?_, fun z => ?_⟩, ?_, q⟩
  · subst z; simp [gLen1] at hg
  · subst z; simp [gLen1] at hg
  · cases d <;> first | exact hg | (simp [gLen1] at hg)
def gInt (d : D) : Option D := match d with
  | .int i => some (.int i)
  | .bl b => some (.int (if b = true then 1 else 0))
  | _ => none
theorem c_int : CallR X (.type "int") (rC1 X.K gInt) := by
  intro pins s σ H xs us Q I r ⟨x, d, c, e, rd, hg, _, q⟩
  subst e
  cases rd <;> simp only [gInt, Option.some.injEq, reduceCtorEq] at hg
  · subst hg; exact call_int1 pins s σ H _ us Q I r (.inr ⟨_, rfl, q⟩)
  · subst hg; exact call_int1 pins s σ H _ us Q I r (.inl ⟨_, rfl, q⟩)
def gAbs (d : D) : Option D := match d with
  | .int i => some (.int (if i < 0 then -i else i))
  | _ => none
theorem c_abs : CallR X (.builtin "abs") (rC1 X.K gAbs) := by
  intro pins s σ H xs us Q I r ⟨x, d, c, e, rd, hg, _, q⟩
  subst e
  cases rd <;> simp only [gAbs, Option.some.injEq, reduceCtorEq] at hg
  subst hg
  exact call_abs pins s σ H _ us Q I r ⟨_, rfl, q⟩
/-- the numbers, the truths of a list -/
def intsD : List D → Option (List Int)
  | [] => some []
  | .int i :: ds => (intsD ds).map (i :: ·)
  | _ => none
def blsD : List D → Option (List Bool)
  | [] => some []
  | .bl b :: ds => (blsD ds).map (b :: ·)
  | _ => none
theorem intsD_rep {K : PySem.W.Frag} {H : Hp} {F : Addr → Prop} : ∀ {vs : List V} {ds : List D} {ns : List Int}, RepDs K H F vs ds → intsD ds = some ns → vs = ns.map V.int
  | _, _, ns, .nil, h => by simp [intsD] at h; subst h; rfl
  | _, _, ns, .cons (d := d) (ds := ds) r rs, h => by
    cases r <;> simp only [intsD, reduceCtorEq] at h
    cases e : intsD ds with
    | none => rw [e] at h; cases h
    | some ms =>
      rw [e] at h
      cases h
      rw [intsD_rep rs e]
      rfl
theorem blsD_rep {K : PySem.W.Frag} {H : Hp} {F : Addr → Prop} : ∀ {vs : List V} {ds : List D} {ns : List Bool}, RepDs K H F vs ds → blsD ds = some ns → vs = ns.map V.bl
  | _, _, ns, .nil, h => by simp [blsD] at h; subst h; rfl
  | _, _, ns, .cons (d := d) (ds := ds) r rs, h => by
    cases r <;> simp only [blsD, reduceCtorEq] at h
    cases e : blsD ds with
    | none => rw [e] at h; cases h
    | some ms =>
      rw [e] at h
      cases h
      rw [blsD_rep rs e]
      rfl
theorem intsD_map : ∀ ns : List Int, intsD (ns.map D.int) = some ns
  | [] => rfl
  | n :: ns => by simp only [List.map_cons, intsD, intsD_map ns, Option.map_some]
theorem blsD_map : ∀ ns : List Bool, blsD (ns.map D.bl) = some ns
  | [] => rfl
  | n :: ns => by simp only [List.map_cons, blsD, blsD_map ns, Option.map_some]
def gSum (d : D) : Option D := match d with
  | .lst ds => (intsD ds).map fun ns => .int ns.sum
  | _ => none
theorem c_sum (hc : X.calm = true) : CallR X (.builtin "sum") (rC1 X.K gSum) := by
  intro pins s σ H xs us Q I r ⟨x, d, c, e, rd, hg, _, q⟩
  subst e
  cases rd <;> simp only [gSum, reduceCtorEq] at hg
  rename_i p vs ds e n rs
  cases h : intsD ds with
  | none => rw [h] at hg; cases hg
  | some ns =>
    rw [h] at hg
    cases hg
    exact cr_sum hc pins s σ H _ us Q I r ⟨_, ns, rfl, by rw [← intsD_rep rs h]; exact SqL.of e, q⟩
def gAll (d : D) : Option D := match d with
  | .lst ds => (blsD ds).map fun ns => .bl (ns.all id)
  | _ => none
theorem c_all (hc : X.calm = true) : CallR X (.builtin "all") (rC1 X.K gAll) := by
  intro pins s σ H xs us Q I r ⟨x, d, c, e, rd, hg, _, q⟩
  subst e
  cases rd <;> simp only [gAll, reduceCtorEq] at hg
  rename_i p vs ds e n rs
  cases h : blsD ds with
  | none => rw [h] at hg; cases hg
  | some ns =>
    rw [h] at hg
    cases hg
    exact cr_all hc pins s σ H _ us Q I r ⟨_, ns, rfl, by rw [← blsD_rep rs h]; exact SqL.of e, q⟩
def gAny (d : D) : Option D := match d with
  | .lst ds => (blsD ds).map fun ns => .bl (ns.any id)
  | _ => none
theorem c_any (hc : X.calm = true) : CallR X (.builtin "any") (rC1 X.K gAny) := by
  intro pins s σ H xs us Q I r ⟨x, d, c, e, rd, hg, _, q⟩
  subst e
  cases rd <;> simp only [gAny, reduceCtorEq] at hg
  rename_i p vs ds e n rs
  cases h : blsD ds with
  | none => rw [h] at hg; cases hg
  | some ns =>
    rw [h] at hg
    cases hg
    exact cr_any hc pins s σ H _ us Q I r ⟨_, ns, rfl, by rw [← blsD_rep rs h]; exact SqL.of e, q⟩
/-! ### two arguments looked at: max, min -/
def rC2 (K : PySem.W.Frag) (g : D → D → Option D) : List V → Hp → VK → Prop := fun xs H Q => ∃ x y d e c, xs = [x, y] ∧ RepV K H x d ∧ RepV K H y e ∧ g d e = some c ∧ c.scl = true ∧ Q (dV c) H
theorem c2_wk {K : PySem.W.Frag} {g : D → D → Option D} {sa sb : SP} (σ : St) (H : Hp) (Q : VK) : tE K (ma || mb) (sOp mb g sa sb) σ H Q → tCB (rC2 K g) (tCons (tP K ma sa) (tCons (tP K mb sb) tNil)) σ H Q := by
  rintro ⟨env, r, env', As, L, e, hd, q⟩
  obtain ⟨x, e1, y, c, h1, h2, hm, hg, hs, rfl⟩ := sOp_some e
  refine ⟨env, x, e1, As, L, h1, hd, fun v1 H1 As1 P1 n1 r1 => ⟨e1, y, env', As1, L, h2, P1.hd0, fun v2 H2 As2 P2 n2 r2 => ?_⟩⟩
  refine ⟨v1, v2, x, y, c, rfl, ?_, r2, hg, hs, q _ H2 As2 [] (P1.seq P2) (n1.trans n2) (scl_end hs)⟩
  rcases hm with hm | hm
  · exact r1.keep (n2 hm)
  · rw [scl_inv r1 hm]
    exact scl_rep hm
theorem e_b2 {x : Str} {p : Pos} {id : String} {g : D → D → Option D} {sa sb : SP} (hc : CallR X (.builtin id) (rC2 X.K g)) (hg : Gl X x) (hm : X.mg x = none) (hv : bootBuiltins x = some (.builtin id)) (ha : PE X a (tP X.K ma sa)) (hb : PE X b (tP X.K mb sb)) (hn : x ≠ "__name__" := by decide) (hd : (x == ("__debug__" : Str)) = false := by decide)
    (hs : starEach [a, b] X.env = (false, eval a X.env) :: starEach [b] X.env := by rfl) (hs2 : starEach [b] X.env = (false, eval b X.env) :: starEach [] X.env := by rfl) (hpl : (backTo pos (starEach [b] X.env)).any (·.1) = false := by rfl) :
    PE X (.Call (.Name x p) [a, b] [] pos) (tE X.K (ma || mb) (sOp mb g sa sb)) := (pe_callB hc hg hm hv (pa_cons ha (pa_cons hb pa_nil hs2) hs) (hn := hn) (hdb := hd) (he := hs) (hpl := hpl)).wk c2_wk
abbrev gMax2 : D → D → Option D := gI fun i j => some (if j > i then j else i)
abbrev gMin2 : D → D → Option D := gI fun i j => some (if j < i then j else i)
theorem c_max2 (hc : X.calm = true) : CallR X (.builtin "max") (rC2 X.K gMax2) := by
  intro pins s σ H xs us Q I r ⟨x, y, d, e, c, e1, rd, re, hg, _, q⟩
  obtain ⟨i, j, k, rfl, rfl, e, rfl⟩ := gI_some hg
  cases e
  exact call_max2 hc pins s σ H xs us Q I r ⟨i, j, by rw [e1, intRep rd, intRep re], q⟩
theorem c_min2 (hc : X.calm = true) : CallR X (.builtin "min") (rC2 X.K gMin2) := by
  intro pins s σ H xs us Q I r ⟨x, y, d, e, c, e1, rd, re, hg, _, q⟩
  obtain ⟨i, j, k, rfl, rfl, e, rfl⟩ := gI_some hg
  cases e
  exact call_min2 hc pins s σ H xs us Q I r ⟨i, j, by rw [e1, intRep rd, intRep re], q⟩
/-! ### isinstance -/
def D.ty : D → String
  | .non => "NoneType" | .bl _ => "bool" | .int _ => "int" | .str _ => "str" | .tup _ => "tuple" | .lst _ => "list" | .dK _ => "dict" | .dT _ => "dict" | .scr _ => "list"
def gIsi (T : String) (d : D) : Option D := match d with
  | .dT _ => none
  | .scr _ => none
  | d => (kitB d.ty T).map .bl
theorem RepD.tyx {K : PySem.W.Frag} {H : Hp} {F : Addr → Prop} {v : V} {d : D} {c : D} {T : String} (r : RepD K H F v d) (h : gIsi T d = some c) : TyX K H v (.type d.ty) := by
  cases r with
  | non => exact .base .non
  | bl b => exact .base (.bl b)
  | int i => exact .base (.int i)
  | str s => exact .base (.str s)
  | tup e _ => exact .base (.tup e)
  | lst e _ _ => exact .base (.lst e)
  | scr _ => simp [gIsi] at h
  | dK e _ _ _ =>
    rcases e with e | ⟨o, e⟩
    · exact .base (.dK e)
    · exact .fDict e
  | dT e _ _ _ => simp [gIsi] at h
theorem gIsi_kit {T : String} {d c : D} (h : gIsi T d = some c) : ∃ b, kitB d.ty T = some b ∧ c = .bl b := by
  cases d <;> simp only [gIsi, reduceCtorEq, Option.map_eq_some_iff] at h <;> (obtain ⟨b, h1, h2⟩ := h; exact ⟨b, h1, h2.symm⟩)
theorem e_isi {T : Str} {n : String} {p pt : Pos} {s : SP} (hg : Gl X "isinstance") (hm : X.mg "isinstance" = none) (hgT : Gl X T) (hmT : X.mg T = none) (hvT : bootBuiltins T = some (.type n)) (ha : PE X a (tP X.K ma s)) (hnT : T ≠ "__name__" := by decide) (hdT : (T == ("__debug__" : Str)) = false := by decide)
    (hs : starEach [a, .Name T pt] X.env = (false, eval a X.env) :: starEach [.Name T pt] X.env := by rfl) (hs2 : starEach [.Name T pt] X.env = (false, eval (.Name T pt) X.env) :: starEach [] X.env := by rfl) (hpl : (backTo pos (starEach [.Name T pt] X.env)).any (·.1) = false := by rfl) :
    PE X (.Call (.Name "isinstance" p) [a, .Name T pt] [] pos) (tE X.K ma (sC1 (gIsi n) s)) :=
  (pe_callB call_isi hg hm (by decide +kernel) (pa_cons ha (pa_cons (pe_bltn (v := .ty n) hgT hmT hvT rfl hnT hdT) pa_nil hs2) hs) (he := hs) (hpl := hpl)).wk fun σ H Q ⟨env, r, env', As, L, e, hd, q⟩ => by
    unfold sC1 at e
    split at e
    · rename_i d e1 h1
      split at e
      · rename_i c hc
        split at e
        · rename_i hsc
          cases e
          refine ⟨env, d, env', As, L, h1, hd, fun v H1 As1 P nm r => ?_⟩
          obtain ⟨b, hk, rfl⟩ := gIsi_kit hc
          exact ⟨v, .ty n, _, _, b, rfl, .ty n, r.tyx hc, kit_ty hk, q _ H1 As1 [] P nm (.zero (.bl b))⟩
        · cases e
      · cases e
    · cases e

/-! ### lists and tuples of others' items -/
/-- a new list, a new tuple -/
def mkSq (t : Bool) (ds : List D) : Rv := if t = true then (.tup ds, 0) else (.lst ds, 1)
theorem sq_end {K : PySem.W.Frag} {σ : St} {env env1 : En} {H H1 : Hp} {As As1 : Own} {L : Addr → Prop} {mu : Bool} {Q : VK} {t : Bool} {vs : List V} {ds : List D}
    (q : ∀ v H' As' B, Pst K σ env H As L σ env1 H' As' B → Nm mu H H' → RepO K H' (Fb As' (plusL L B)) (mkSq t ds).2 v (mkSq t ds).1 B → Q v H') (P : Pst K σ env H As L σ env1 H1 As1 []) (n : Nm mu H H1) (rs : RepDs K H1 (Fb As1 L) vs ds) :
    ∀ p, H1 p = none → Q (.ref p) (upd H1 p (if t = true then .tup vs else .lst vs)) := fun p np => by
  cases t with
  | true =>
    obtain ⟨P2, r2⟩ := P.newTup rs np
    exact q _ _ As1 [] P2 (fun z a o e => Nm.new (mu := false) np rfl a o (n z a o e)) r2
  | false =>
    obtain ⟨P2, r2⟩ := P.newList rs np
    exact q _ _ As1 [p] P2 (fun z a o e => Nm.new (mu := false) np rfl a o (n z a o e)) r2
/-- list(x), tuple(x) -/
def sConv (t : Bool) (s : SL) : SE := fun env => match s env with
  | some ((_, ds), e) => some (mkSq t ds, e)
  | none => none
theorem e_listOf {st : Bool} {p : Pos} {s : SL} (hg : Gl X "list") (hm : X.mg "list" = none) (ha : PE X a (tL X.K ma st s)) (hs : starEach [a] X.env = (false, eval a X.env) :: starEach [] X.env := by rfl) (hpl : (backTo pos (starEach [] X.env)).any (·.1) = false := by rfl) :
    PE X (.Call (.Name "list" p) [a] [] pos) (tE X.K ma (sConv false s)) := (pe_callTy call_list_of hg hm (by decide +kernel) (pa_cons ha pa_nil hs) (he := hs) (hpl := hpl)).wk fun σ H Q ⟨env, r, env', As, L, e, hd, q⟩ => by
  unfold sConv at e
  split at e
  · rename_i t ds e1 h1
    cases e
    refine ⟨env, t, ds, env', As, L, h1, hd, fun p vs H1 As1 P n sq rs _ => ⟨p, vs, rfl, ?_, sq_end (t := false) q P n rs⟩⟩
    cases t with
    | true => exact .inr (SqT.of sq)
    | false => exact .inl (SqL.of sq)
  · cases e
theorem e_tupleOf {st : Bool} {p : Pos} {s : SL} (hg : Gl X "tuple") (hm : X.mg "tuple" = none) (ha : PE X a (tL X.K ma st s)) (hs : starEach [a] X.env = (false, eval a X.env) :: starEach [] X.env := by rfl) (hpl : (backTo pos (starEach [] X.env)).any (·.1) = false := by rfl) :
    PE X (.Call (.Name "tuple" p) [a] [] pos) (tE X.K ma (sConv true s)) := (pe_callTy call_tuple_of hg hm (by decide +kernel) (pa_cons ha pa_nil hs) (he := hs) (hpl := hpl)).wk fun σ H Q ⟨env, r, env', As, L, e, hd, q⟩ => by
  unfold sConv at e
  split at e
  · rename_i t ds e1 h1
    cases e
    refine ⟨env, t, ds, env', As, L, h1, hd, fun p vs H1 As1 P n sq rs _ => ⟨p, vs, rfl, ?_⟩⟩
    cases t with
    | false => exact .inl ⟨SqL.of sq, sq_end (t := true) q P n rs⟩
    | true => exact .inr ⟨SqT.of sq, q _ H1 As1 [] P n (.zero (by rw [plusL_nil]; exact .tup sq rs))⟩
  · cases e
/-- a + b of two lists, of two tuples -/
def sCat (sa sb : SL) : SE := fun env => match sa env with
  | some ((t, ds), e1) => match sb e1 with
    | some ((u, es), e2) => if t = u ∧ ds.length + es.length ≤ 16777216 then some (mkSq t (ds ++ es), e2) else none
    | none => none
  | none => none
theorem e_cat {sa sb : SL} {sta stb : Bool} (hst : sta = true ∨ mb = false) (ha : PE X a (tL X.K ma sta sa)) (hb : PE X b (tL X.K mb stb sb)) : PE X (.BinOp a .Add b pos) (tE X.K (ma || mb) (sCat sa sb)) := by
  have ho : OpR X (binaryOp .Add) (fun x y H Q => rCat x y H Q ∨ rCatA X.K x y H Q) := by
    intro pins s σ H x y v u Q I rx ry h
    rcases h with h | h
    · exact op_cat pins s σ H x y v u Q I rx ry h
    · exact op_catA pins s σ H x y v u Q I rx ry h
  refine (pe_op ho ha hb).wk fun σ H Q ⟨env, r, env', As, L, e, hd, q⟩ => ?_
  unfold sCat at e
  split at e
  · rename_i t ds e1 h1
    split at e
    · rename_i u es e2 h2
      split at e
      · rename_i hc
        obtain ⟨rfl, hl⟩ := hc
        cases e
        refine ⟨env, t, ds, e1, As, L, h1, hd, fun p vs H1 As1 P1 n1 sq1 rs1 st1 => ⟨e1, t, es, env', As1, L, h2, P1.hd0, fun p2 vs2 H2 As2 P2 n2 sq2 rs2 _ => ?_⟩⟩
        have sq1' : Sq t H2 p vs := by
          rcases hst with z | z
          · exact st1 z σ env' H2 As2 [] P2
          · exact n2 z _ _ sq1
        have rs1' : RepDs X.K H2 (Fb As2 L) vs ds := by
          have := P2.keepDs rs1
          rwa [plusL_nil] at this
        have rr := rs1'.app rs2
        have hz : vs.length + vs2.length ≤ sizeLine := by rw [rs1.length, rs2.length]; exact hl
        have PP := P1.seq P2
        have nn := n1.trans n2
        cases t with
        | false => exact .inl ⟨p, p2, vs, vs2, rfl, rfl, sq1', sq2, hz, sq_end (t := false) q PP nn rr⟩
        | true =>
          refine .inr ⟨p, p2, vs, vs2, rfl, rfl, SqT.of sq1', SqT.of sq2, hz, fun z => ?_, fun _ z => ?_, fun _ _ => sq_end (t := true) q PP nn rr⟩
          · have e0 : ds = [] := by have := rs1.length; rw [z] at this; exact List.eq_nil_of_length_eq_zero this.symm
            subst e0
            exact q _ H2 As2 [] PP nn (.zero (by rw [plusL_nil]; exact .tup sq2 rs2))
          · have e0 : es = [] := by have := rs2.length; rw [z] at this; exact List.eq_nil_of_length_eq_zero this.symm
            subst e0
            refine q _ H2 As2 [] PP nn (.zero (by rw [plusL_nil]; show RepD _ _ _ _ (.tup (ds ++ [])); rw [List.append_nil]; exact .tup sq1' rs1'))
      · cases e
    · cases e
  · cases e
/-- [..] * n -/
def sRep (sa : SL) (sb : SP) : SE := fun env => match sa env with
  | some ((false, ds), e1) => match sb e1 with
    | some (.int k, e2) => if -(2 ^ 63) ≤ k ∧ k < 2 ^ 63 ∧ ds.length * k.toNat ≤ 16777216 then some ((.lst (List.replicate k.toNat ds).flatten, 1), e2) else none
    | _ => none
  | _ => none
theorem RepDs.rep {K : PySem.W.Frag} {H : Hp} {F : Addr → Prop} {vs : List V} {ds : List D} (r : RepDs K H F vs ds) : ∀ n : Nat, RepDs K H F (List.replicate n vs).flatten (List.replicate n ds).flatten
  | 0 => .nil
  | n + 1 => by
    rw [List.replicate_succ, List.replicate_succ, List.flatten_cons, List.flatten_cons]
    exact r.app (RepDs.rep r n)
theorem e_rep {sa : SL} {sb : SP} {sta : Bool} (hst : sta = true ∨ mb = false) (ha : PE X a (tL X.K ma sta sa)) (hb : PE X b (tP X.K mb sb)) : PE X (.BinOp a .Mult b pos) (tE X.K (ma || mb) (sRep sa sb)) := (pe_op op_rep ha hb).wk fun σ H Q ⟨env, r, env', As, L, e, hd, q⟩ => by
  unfold sRep at e
  split at e
  · rename_i ds e1 h1
    split at e
    · rename_i k e2 h2
      split at e
      · rename_i hc
        cases e
        refine ⟨env, false, ds, e1, As, L, h1, hd, fun p vs H1 As1 P1 n1 sq1 rs1 st1 => ⟨e1, .int k, env', As1, L, h2, P1.hd0, fun v2 H2 As2 P2 n2 r2 => ?_⟩⟩
        have sq1' : Sq false H2 p vs := by
          rcases hst with z | z
          · exact st1 z σ env' H2 As2 [] P2
          · exact n2 z _ _ sq1
        have rs1' : RepDs X.K H2 (Fb As2 L) vs ds := by
          have := P2.keepDs rs1
          rwa [plusL_nil] at this
        exact ⟨p, k, vs, rfl, intRep r2, sq1', hc.1, hc.2.1, by rw [rs1.length]; exact hc.2.2, sq_end (t := false) q (P1.seq P2) (n1.trans n2) (rs1'.rep k.toNat)⟩
      · cases e
    · cases e
  · cases e

/-! ### slices -/
def cutD (xs : List D) (lo hi : Option Int) : List D := (xs.drop (HT.sIx xs.length 0 lo)).take (HT.sIx xs.length xs.length hi - HT.sIx xs.length 0 lo)
/-- a bound of a slice -/
abbrev SO := En → Option (Option Int × En)
def tO (K : PySem.W.Frag) (s : SO) : TO := fun σ H Q => ∃ env i env' As L, s env = some (i, env') ∧ Holds K H σ env As L ∧
  ∀ H' As', Pst K σ env H As L σ env' H' As' [] → Nm false H H' → Q i H'
def soNone : SO := fun env => some (none, env)
def soSome (s : SP) : SO := fun env => match s env with
  | some (.int i, e) => some (some i, e)
  | _ => none
theorem _root_.L2.PO.wk {e : Option Expr} {t t' : TO} (h : PO X e t) (w : ∀ σ H Q, t' σ H Q → t σ H Q) : PO X e t' := ⟨fun pins s σ H Q I q => h.run pins s σ H Q I (w σ H Q q)⟩
theorem o_none : PO X none (tO X.K soNone) := po_none.wk fun σ H Q ⟨env, i, env', As, L, e, hd, q⟩ => by
  cases e
  exact q H As (Pst.refl hd) Nm.refl
theorem o_some {s : SP} (h : PE X a (tP X.K false s)) : PO X (some a) (tO X.K (soSome s)) := (po_some h).wk fun σ H Q ⟨env, i, env', As, L, e, hd, q⟩ => by
  unfold soSome at e
  split at e
  · rename_i j e1 h1
    cases e
    exact ⟨env, _, env', As, L, h1, hd, fun v H1 As1 P n r => ⟨j, intRep r, q H1 As1 P n⟩⟩
  · cases e
def sSl (s : SL) (lo hi : SO) : SE := fun env => match s env with
  | some ((t, ds), e1) => match lo e1 with
    | some (l, e2) => match hi e2 with
      | some (h, e3) => some (mkSq t (cutD ds l h), e3)
      | none => none
    | none => none
  | none => none
theorem cut_rep {K : PySem.W.Frag} {H : Hp} {F : Addr → Prop} {vs : List V} {ds : List D} (r : RepDs K H F vs ds) (lo hi : Option Int) : RepDs K H F (cutV vs lo hi) (cutD ds lo hi) := by
  unfold cutV cutD
  rw [r.length]
  exact (r.drop _).take _
theorem e_sl {s : SL} {st : Bool} {lo hi : Option Expr} {sl sh : SO} {p2 : Pos} (ha : PE X a (tL X.K ma st s)) (hl : PO X lo (tO X.K sl)) (hh : PO X hi (tO X.K sh)) : PE X (.Subscript a (.Slice lo hi none p2) pos) (tE X.K ma (sSl s sl sh)) := by
  have hr : SlR X (fun x l h H Q => rSlL X.K x l h H Q ∨ rSlA X.K x l h H Q) := by
    intro pins s σ H x v vl vu lo hi sl Q I rx hs pl pu q
    rcases q with q | q
    · exact sl_list pins s σ H x v vl vu lo hi sl Q I rx hs pl pu q
    · exact sl_tupA pins s σ H x v vl vu lo hi sl Q I rx hs pl pu q
  refine (pe_slice hr ha hl hh).wk fun σ H Q ⟨env, r, env', As, L, e, hd, q⟩ => ?_
  unfold sSl at e
  split at e
  · rename_i t ds e1 h1
    split at e
    · rename_i l e2 h2
      split at e
      · rename_i h e3 h3
        cases e
        refine ⟨env, t, ds, e1, As, L, h1, hd, fun p vs H1 As1 P1 n1 sq1 rs1 _ => ⟨e1, l, e2, As1, L, h2, P1.hd0, fun H2 As2 P2 n2 => ⟨e2, h, env', As2, L, h3, P2.hd0, fun H3 As3 P3 n3 => ?_⟩⟩⟩
        have P23 := P2.seq P3
        have nn : Nm ma H H3 := fun z a o w => n3 rfl a o (n2 rfl a o (n1 z a o w))
        have sq3 : Sq t H3 p vs := n3 rfl _ _ (n2 rfl _ _ sq1)
        have rs3 : RepDs X.K H3 (Fb As3 L) vs ds := by
          have := P23.keepDs rs1
          rwa [plusL_nil] at this
        have PP := P1.seq P23
        cases t with
        | false => exact .inl ⟨p, vs, rfl, SqL.of sq3, sq_end (t := false) q PP nn (cut_rep rs3 l h)⟩
        | true =>
          refine .inr ⟨p, vs, rfl, SqT.of sq3, fun z => ?_, fun _ => sq_end (t := true) q PP nn (cut_rep rs3 l h)⟩
          have e0 : cutD ds l h = ds := by
            unfold cutD
            rw [← rs1.length, z.1, z.2, List.drop_zero, Nat.sub_zero, rs1.length, List.take_length]
          refine q _ H3 As3 [] PP nn (.zero (by rw [plusL_nil]; show RepD _ _ _ _ (.tup (cutD ds l h)); rw [e0]; exact .tup sq3 rs3))
      · cases e
    · cases e
  · cases e
end
end Ev
set_option Elab.async false
set_option linter.all false
set_option autoImplicit false
set_option maxRecDepth 100000
set_option maxHeartbeats 4000000
/-! Ev6: what is owned is changed: the object of a name, or one that lies in it. -/
namespace Ev
open PySem PySem.Spec L2

section
variable {K : PySem.W.Frag} {σ0 σ : St} {env0 env : En} {H0 H : Hp} {As0 As : Own} {L : Addr → Prop} {B : List Addr}
/-- one object that the name i owns is changed; C: what the name owns then, R: what the answer owns -/
theorem Pst.mut (P : Pst K σ0 env0 H0 As0 L σ env H As B) {i : Nat} {s : Slot} (hi : env[i]? = some (some s)) (hm : s.m ≠ 2) {q : Addr} {o' : HO} (hq : q ∈ As i) (nf : ∀ ob u, o' ≠ .frz ob u) {C R : List Addr} {d' : D} (hC : ∀ a ∈ C ++ R, a ∈ As i ∨ a ∈ B) (hn : (C ++ R).Nodup)
    (rep : ∃ v, σ[i]? = some (some v) ∧ RepO K (upd H q o') (Fb (putA As i C) (plusL L R)) s.k v d' C) : Pst K σ0 env0 H0 As0 L σ (env.set i (some { s with d := d' })) (upd H q o') (putA As i C) R := by
  have hlt : i < env.length := (List.getElem?_eq_some_iff.mp hi).1
  have qo := P.hd.ow i s hi hm q hq
  have qL : ¬ L q := fun z => qo.1 (.inl z)
  have sub : ∀ a, Fb (putA As i C) (plusL L R) a → Fb As (plusL L B) a := fun a z => by
    have go : a ∈ C ++ R → Fb As (plusL L B) a := fun m => (hC a m).elim (fun w => .inl ⟨i, w⟩) fun w => .inr (.inr w)
    rcases z with ⟨j, z⟩ | z | z
    · by_cases e : j = i
      · rw [e, putA_same] at z; exact go (List.mem_append_left _ z)
      · rw [putA_ne e] at z; exact .inl ⟨j, z⟩
    · exact .inr (.inl z)
    · exact go (List.mem_append_right _ z)
  have disj : ∀ a ∈ C, a ∉ R := fun a m m' => (List.nodup_append.mp hn).2.2 a m a m' rfl
  refine ⟨fun a o e c => ?_, fun a m => ?_, fun a e => ?_, fun a xs e => ?_, fun j t e n => ?_, ?_, (List.nodup_append.mp hn).2.1, fun a m => ?_⟩
  · have e1 := P.fr a o e c
    have ne : a ≠ q := fun z => by
      subst z
      rcases c with c | c
      · exact qL c
      · exact (P.fresh e c).1 i hq
    rw [upd_ne ne]; exact e1
  · have go : a ∈ C ++ R → (∃ j, a ∈ As0 j) ∨ H0 a = none := fun m => (hC a m).elim (fun w => P.nw a (.inl ⟨i, w⟩)) fun w => P.nw a (.inr w)
    rcases m with ⟨j, m⟩ | m
    · by_cases e : j = i
      · rw [e, putA_same] at m; exact go (List.mem_append_left _ m)
      · rw [putA_ne e] at m; exact P.nw a (.inl ⟨j, m⟩)
    · exact go (List.mem_append_right _ m)
  · by_cases z : a = q
    · rw [z, upd_same] at e; cases e
    · rw [upd_ne z] at e; exact P.tr a e
  · have e1 := P.tu a xs e
    have ne : a ≠ q := fun z => by
      subst z
      obtain ⟨o, eo, ht⟩ := P.hd.there hq
      rw [e1] at eo
      exact ht xs (Option.some.inj eo).symm
    rw [upd_ne ne]; exact e1
  · obtain ⟨h1, d1, e1, l1⟩ := P.fx j t e n
    by_cases z : j = i
    · subst z
      rw [hi] at e1
      have es : s = { t with d := d1 } := by injection (Option.some.inj e1)
      refine ⟨h1, d', ?_, fun w => ?_⟩
      · rw [List.getElem?_set_self hlt, es]
      · exact absurd (by rw [es]; exact w) hm
    · rw [List.getElem?_set_ne (Ne.symm z), putA_ne z]
      exact ⟨h1, d1, e1, l1⟩
  · refine ⟨by simp [P.hd.len], fun j t e => ?_, fun j w => ?_, fun j => ?_, fun j j' a m1 m2 => ?_, fun j t e n a m => ?_, fun j t e n a m => ?_, fun a m => ?_⟩
    · by_cases z : j = i
      · subst z
        rw [List.getElem?_set_self hlt] at e
        cases e
        rw [putA_same]
        exact rep
      · rw [List.getElem?_set_ne (Ne.symm z)] at e
        obtain ⟨v, ev, r⟩ := P.hd.rep j t e
        refine ⟨v, ev, ?_⟩
        rw [putA_ne z]
        have ne : ∀ p, p ∈ As j → p ≠ q := fun p m w => by subst w; exact z (P.hd.dj j i p m hq)
        refine r.to (fun p o e n => ⟨?_, fun w => n (sub p w)⟩) (fun p xs e => ?_) fun p m o e => by rw [upd_ne (ne p m)]; exact e
        · rw [upd_ne (fun w => n (by subst w; exact .inl ⟨i, hq⟩))]; exact e
        · rw [upd_ne (fun w => ?_)]
          · exact e
          · subst w
            obtain ⟨o, eo, ht⟩ := P.hd.there hq
            rw [e] at eo
            exact ht xs (Option.some.inj eo).symm
    · by_cases z : j = i
      · subst z
        exact absurd (List.getElem?_set_self hlt) (w _)
      · rw [putA_ne z]
        refine P.hd.emp j fun t e => w t ?_
        rw [List.getElem?_set_ne (Ne.symm z)]; exact e
    · by_cases z : j = i
      · rw [z, putA_same]; exact (List.nodup_append.mp hn).1
      · rw [putA_ne z]; exact P.hd.nd j
    · have cas : ∀ {j' : Nat}, j' ≠ i → a ∈ C → a ∈ As j' → False := fun {j'} z m m' => by
        rcases hC a (List.mem_append_left _ m) with w | w
        · exact z (P.hd.dj j' i a m' w)
        · exact (P.bo a w).2.1 j' m'
      by_cases z : j = i <;> by_cases z' : j' = i
      · rw [z, z']
      · rw [z, putA_same] at m1; rw [putA_ne z'] at m2
        exact (cas z' m1 m2).elim
      · rw [z', putA_same] at m2; rw [putA_ne z] at m1
        exact (cas z m2 m1).elim
      · rw [putA_ne z] at m1; rw [putA_ne z'] at m2
        exact P.hd.dj j j' a m1 m2
    · have fz : H a = upd H q o' a ∨ a = q := by
        by_cases w : a = q
        · exact .inr w
        · exact .inl (by rw [upd_ne w])
      have nfr : (∀ ob u, H a ≠ some (.frz ob u)) → ∀ ob u, upd H q o' a ≠ some (.frz ob u) := fun h ob u w => by
        rcases fz with f | f
        · rw [← f] at w; exact h ob u w
        · rw [f, upd_same] at w; exact nf ob u (Option.some.inj w)
      by_cases z : j = i
      · subst z
        rw [putA_same] at m
        rcases hC a (List.mem_append_left _ m) with w | w
        · have := P.hd.ow j s hi hm a w
          exact ⟨fun x => x.elim (fun x => this.1 (.inl x)) (disj a m), nfr this.2⟩
        · have := P.bo a w
          exact ⟨fun x => x.elim this.1 (disj a m), nfr this.2.2⟩
      · rw [putA_ne z] at m
        rw [List.getElem?_set_ne (Ne.symm z)] at e
        have := P.hd.ow j t e n a m
        refine ⟨fun x => ?_, nfr this.2⟩
        rcases x with x | x
        · exact this.1 (.inl x)
        · rcases hC a (List.mem_append_right _ x) with w | w
          · exact z (P.hd.dj j i a m w)
          · exact this.1 (.inr w)
    · by_cases z : j = i
      · subst z
        rw [List.getElem?_set_self hlt] at e
        cases e
        exact absurd n hm
      · rw [putA_ne z] at m
        rw [List.getElem?_set_ne (Ne.symm z)] at e
        rcases P.hd.lo j t e n a m with w | w
        · exact .inl w
        · exact absurd m ((P.bo a w).2.1 j)
    · have there : ∀ a, (∃ o, H a = some o) → ∃ o, upd H q o' a = some o := fun a ⟨o, e⟩ => by
        by_cases w : a = q
        · exact ⟨o', by rw [w, upd_same]⟩
        · exact ⟨o, by rw [upd_ne w]; exact e⟩
      rcases m with m | m
      · exact there a (P.hd.lv a (.inl m))
      · rcases hC a (List.mem_append_right _ m) with w | w
        · obtain ⟨o, e, _⟩ := P.hd.there w
          exact there a ⟨o, e⟩
        · exact there a (P.hd.lv a (.inr w))
  · have nfr : (∀ ob u, H a ≠ some (.frz ob u)) → ∀ ob u, upd H q o' a ≠ some (.frz ob u) := fun h ob u w => by
      by_cases f : a = q
      · rw [f, upd_same] at w; exact nf ob u (Option.some.inj w)
      · rw [upd_ne f] at w; exact h ob u w
    have nA : ∀ j, a ∉ putA As i C j := fun j w => by
      by_cases z : j = i
      · rw [z, putA_same] at w; exact disj a w m
      · rw [putA_ne z] at w
        rcases hC a (List.mem_append_right _ m) with x | x
        · exact z (P.hd.dj j i a w x)
        · exact (P.bo a x).2.1 j w
    rcases hC a (List.mem_append_right _ m) with w | w
    · have := P.hd.ow i s hi hm a w
      exact ⟨fun x => this.1 (.inl x), nA, nfr this.2⟩
    · have := P.bo a w
      exact ⟨this.1, nA, nfr this.2.2⟩
end

/-! ### places -/
/-- one step down in the heap: an item of a list, of a dict -/
def StepAt (H : Hp) (u : V) (key : D) (v : V) : Prop :=
  (∃ p vs i, u = .ref p ∧ H p = some (.lst vs) ∧ key = .int i ∧ atI vs i = some v) ∨
  (∃ p kvs k, u = .ref p ∧ H p = some (.dK kvs) ∧ kD key = some k ∧ valV kvs k = some v)
/-- where a place lies: the name's own object, or one step down -/
def AtP (H : Hp) (u : V) : Option D → V → Prop
  | none, v => v = u
  | some key, v => StepAt H u key v
def putK {κ β : Type} [DecidableEq κ] (kvs : List (κ × β)) (k : κ) (v : β) : List (κ × β) :=
  if (kvs.any fun kv => decide (kv.1 = k)) = true then kvs.map (fun kv => if kv.1 = k then (kv.1, v) else kv) else kvs ++ [(k, v)]
/-- the datum at a place; another one put there -/
def subP (d : D) : Option D → Option D
  | none => some d
  | some key => match d, key with
    | .lst ds, .int i => atI ds i
    | .dK kvs, key => match kD key with
      | some k => look kvs k
      | none => none
    | _, _ => none
def putP (d : D) : Option D → D → D
  | none, d' => d'
  | some key, d' => match d, key with
    | .lst ds, .int i => match ixN ds.length i with
      | some j => .lst (ds.set j d')
      | none => d
    | .dK kvs, key => match kD key with
      | some k => .dK (putK kvs k d')
      | none => d
    | _, _ => d
def depP : Option D → Nat
  | none => 0
  | some _ => 1
section
variable {K : PySem.W.Frag} {H : Hp} {F : Addr → Prop}
/-- one item of many that are owned -/
theorem RepOs.nth {k : Nat} : ∀ {vs : List V} {ds : List D} {B : List Addr} {j : Nat} {d : D}, RepOs K H F k vs ds B → ds[j]? = some d → ∃ v B0 B1 B2, vs[j]? = some v ∧ B = B0 ++ (B1 ++ B2) ∧ RepO K H F k v d B1 ∧
    ∀ (H' : Hp) (F' : Addr → Prop) (d' : D) (C : List Addr), (∀ p o, H p = some o → ¬ F p → H' p = some o ∧ ¬ F' p) → (∀ p xs, H p = some (.tup xs) → H' p = some (.tup xs)) → (∀ p ∈ B0 ++ B2, ∀ o, H p = some o → H' p = some o) → RepO K H' F' k v d' C → RepOs K H' F' k vs (ds.set j d') (B0 ++ (C ++ B2))
  | _, _, _, _, _, .nil, e => by simp at e
  | _, _, _, 0, _, .cons (B := B) (C := C0) (vs := vs) (ds := ds) r rs, e => by
    simp at e
    subst e
    refine ⟨_, [], B, C0, rfl, by simp, r, fun H' F' d' C h ht hB r' => ?_⟩
    simp only [List.nil_append, List.set_cons_zero]
    exact .cons r' (rs.to h ht fun p m => hB p (by simpa using m))
  | _, _, _, j + 1, _, .cons (B := B) (C := C0) r rs, e => by
    obtain ⟨v, B0, B1, B2, h1, h2, h3, h4⟩ := RepOs.nth (j := j) rs (by simpa using e)
    refine ⟨v, B ++ B0, B1, B2, by simpa using h1, by rw [h2]; simp, h3, fun H' F' d' C h ht hB r' => ?_⟩
    simp only [List.set_cons_succ]
    rw [List.append_assoc]
    exact .cons (r.to h ht fun p m => hB p (List.mem_append_left _ (List.mem_append_left _ m))) (h4 H' F' d' C h ht (fun p m => hB p (by
      rcases List.mem_append.mp m with m | m
      · exact List.mem_append_left _ (List.mem_append_right _ m)
      · exact List.mem_append_right _ m)) r')
theorem atI_some {α : Type} {xs : List α} {i : Int} {v : α} (h : atI xs i = some v) : ∃ j, ixN xs.length i = some j ∧ xs[j]? = some v := by
  unfold atI at h
  cases e : ixN xs.length i with
  | none => rw [e] at h; cases h
  | some j => rw [e] at h; exact ⟨j, rfl, h⟩
/-- a key's place in a dict -/
theorem look_nth {κ β : Type} [DecidableEq κ] (k : κ) : ∀ {kds : List (κ × β)} {d : β}, look kds k = some d → ∃ j, (kds.map (·.2))[j]? = some d ∧ (∀ (kvs : List (κ × V)), kvs.map (·.1) = kds.map (·.1) → valV kvs k = (kvs.map (·.2))[j]?) ∧
    ∀ (hn : (kds.map (·.1)).Nodup) (d' : β), (putK kds k d').map (·.2) = (kds.map (·.2)).set j d' ∧ (putK kds k d').map (·.1) = kds.map (·.1)
  | [], _, h => by simp [look] at h
  | (k1, d1) :: kds, d, h => by
    rw [look_cons] at h
    by_cases e : k1 = k
    · rw [if_pos e] at h
      cases h
      refine ⟨0, rfl, fun kvs hk => ?_, fun hn d' => ?_⟩
      · cases kvs with
        | nil => simp at hk
        | cons p r =>
          simp only [List.map_cons, List.cons.injEq] at hk
          rw [valV_pos (hk.1.trans e)]
          rfl
      · subst e
        have no : ∀ kv ∈ kds, kv.1 ≠ k1 := fun kv m z => (List.nodup_cons.mp hn).1 (by rw [← z]; exact List.mem_map.mpr ⟨kv, m, rfl⟩)
        have e1 : kds.map (fun kv => if kv.1 = k1 then (kv.1, d') else kv) = kds := by
          conv => rhs; rw [← List.map_id kds]
          exact List.map_congr_left fun kv m => by rw [if_neg (no kv m)]; rfl
        unfold putK
        simp [e1]
    · rw [if_neg e] at h
      obtain ⟨j, h1, h2, h3⟩ := look_nth k h
      refine ⟨j + 1, by simpa using h1, fun kvs hk => ?_, fun hn d' => ?_⟩
      · cases kvs with
        | nil => simp at hk
        | cons p r =>
          simp only [List.map_cons, List.cons.injEq] at hk
          rw [valV_neg (fun z => e (hk.1.symm.trans z)), h2 r hk.2]
          simp
      · obtain ⟨i1, i2⟩ := h3 (List.nodup_cons.mp hn).2 d'
        have ha : (kds.any fun kv => decide (kv.1 = k)) = true := by
          have hm : ∃ kv ∈ kds, kv.1 = k := by
            unfold look at h
            cases f : kds.find? fun kv => decide (kv.1 = k) with
            | none => rw [f] at h; cases h
            | some kv => exact ⟨kv, List.mem_of_find?_eq_some f, by simpa using List.find?_some f⟩
          obtain ⟨kv, m, z⟩ := hm
          exact List.any_eq_true.mpr ⟨kv, m, decide_eq_true z⟩
        unfold putK at i1 i2 ⊢
        rw [if_pos ha] at i1 i2
        rw [if_pos (by rw [List.any_cons, ha, Bool.or_true])]
        simp only [List.map_cons, if_neg e, List.set_cons_succ]
        exact ⟨by rw [i1], by rw [i2]⟩
end
end Ev
set_option Elab.async false
set_option linter.all false
set_option autoImplicit false
set_option maxRecDepth 100000
set_option maxHeartbeats 4000000
/-! Ev7: places, targets, append, extend, pop, x[i] = e. -/
namespace Ev
open PySem PySem.Spec L2

/-- the keys of a dict one step up are told apart -/
def okP (d : D) : Option D → Bool
  | none => true
  | some _ => match d with
    | .dK kds => decide (kds.map (·.1)).Nodup
    | _ => true
section
variable {K : PySem.W.Frag} {H : Hp} {F : Addr → Prop}
theorem RepO.focus {k : Nat} {v v1 : V} {d d1 : D} {B : List Addr} {path : Option D} (r : RepO K H F (k + depP path) v d B) (hs : subP d path = some d1) (hok : okP d path = true) (hat : AtP H v path v1) :
    ∃ B0 B1 B2, B = B0 ++ (B1 ++ B2) ∧ RepO K H F k v1 d1 B1 ∧ ∀ (H' : Hp) (F' : Addr → Prop) (d' : D) (C : List Addr), (∀ p o, H p = some o → ¬ F p → H' p = some o ∧ ¬ F' p) → (∀ p xs, H p = some (.tup xs) → H' p = some (.tup xs)) →
      (∀ p ∈ B0 ++ B2, ∀ o, H p = some o → H' p = some o) → RepO K H' F' k v1 d' C → RepO K H' F' (k + depP path) v (putP d path d') (B0 ++ (C ++ B2)) := by
  cases path with
  | none =>
    simp only [subP, Option.some.injEq] at hs
    subst hs
    obtain rfl : v1 = v := hat
    exact ⟨[], B, [], by simp, r, fun H' F' d' C _ _ _ r' => by simpa [putP, depP] using r'⟩
  | some key =>
    have r : RepO K H F (k + 1) v d B := r
    show ∃ B0 B1 B2, B = B0 ++ (B1 ++ B2) ∧ RepO K H F k v1 d1 B1 ∧ ∀ (H' : Hp) (F' : Addr → Prop) (d' : D) (C : List Addr), _ → _ → _ → RepO K H' F' k v1 d' C → RepO K H' F' (k + 1) v (putP d (some key) d') (B0 ++ (C ++ B2))
    cases r with
    | flat hi r => cases d <;> first | (simp [subP] at hs; done) | cases hi
    | lst e rs =>
      rename_i p vs ds E
      rcases hat with ⟨p', vs', i, e1, e2, rfl, e3⟩ | ⟨p', kvs, k', e1, e2, _, _⟩
      · cases e1
        rw [e] at e2
        cases e2
        have hs : atI ds i = some d1 := hs
        obtain ⟨j, hj, hd⟩ := atI_some hs
        obtain ⟨vj, B0, B1, B2, h1, h2, h3, h4⟩ := rs.nth hd
        have ev : vj = v1 := by
          unfold atI at e3
          rw [rs.length, hj] at e3
          exact Option.some.inj (h1.symm.trans e3)
        subst ev
        refine ⟨p :: B0, B1, B2, by rw [h2]; rfl, h3, fun H' F' d' C h ht hB r' => ?_⟩
        have q := h4 H' F' d' C h ht (fun q m => hB q (by
          rcases List.mem_append.mp m with m | m
          · exact List.mem_append_left _ (List.mem_cons_of_mem _ m)
          · exact List.mem_append_right _ m)) r'
        have ep : putP (.lst ds) (some (.int i)) d' = .lst (ds.set j d') := by simp [putP, hj]
        rw [ep]
        exact .lst (hB p (List.mem_append_left _ (List.mem_cons_self ..)) _ e) q
      · cases e1
        rw [e] at e2
        cases e2
    | dK e hk rs =>
      rename_i p kvs kds E
      rcases hat with ⟨p', vs', i, e1, e2, rfl, e3⟩ | ⟨p', kvs', k', e1, e2, hkd, e3⟩
      · cases e1
        rcases e with e | ⟨o, e⟩ <;> (rw [e] at e2; cases e2)
      · cases e1
        have ek : kvs' = kvs := by
          rcases e with e | ⟨o, e⟩
          · rw [e] at e2; cases e2; rfl
          · rw [e] at e2; cases e2
        subst ek
        have hs : look kds k' = some d1 := by
          have : (match kD key with | some k => look kds k | none => none) = some d1 := by cases key <;> exact hs
          rw [hkd] at this
          exact this
        have hn : (kds.map (·.1)).Nodup := of_decide_eq_true hok
        obtain ⟨j, h1, h2, h3⟩ := look_nth k' hs
        obtain ⟨vj, B0, B1, B2, g1, g2, g3, g4⟩ := rs.nth h1
        have ev : vj = v1 := by
          rw [h2 kvs' hk] at e3
          exact Option.some.inj (g1.symm.trans e3)
        subst ev
        refine ⟨p :: B0, B1, B2, by rw [g2]; rfl, g3, fun H' F' d' C h ht hB r' => ?_⟩
        have q := g4 H' F' d' C h ht (fun q m => hB q (by
          rcases List.mem_append.mp m with m | m
          · exact List.mem_append_left _ (List.mem_cons_of_mem _ m)
          · exact List.mem_append_right _ m)) r'
        obtain ⟨i1, i2⟩ := h3 hn d'
        have ep : putP (.dK kds) (some key) d' = .dK (putK kds k' d') := by
          cases key <;> simp only [putP, hkd]
        rw [ep]
        refine .dK (Rd.to (fun o eo => hB p (List.mem_append_left _ (List.mem_cons_self ..)) o eo) e) (hk.trans i2.symm) ?_
        rw [i1]
        exact q
    | dT e hk rs => cases key <;> simp [subP] at hs
end

/-! ### places in the text -/
abbrev SPl := En → Option (Option D × En)
def tPl (K : PySem.W.Frag) (i : Nat) (s : SPl) : TE := fun σ H Q => ∃ env path env' As L, s env = some (path, env') ∧ Holds K H σ env As L ∧
  ∀ v H' As', Pst K σ env H As L σ env' H' As' [] → Nm false H H' → (∃ u, σ[i]? = some (some u) ∧ AtP H' u path v) → Q v H'
def plVar (i : Nat) : SPl := fun env => match env[i]? with
  | some (some _) => some (none, env)
  | _ => none
def plSub (i : Nat) (b : SP) : SPl := fun env => match env[i]? with
  | some (some _) => match b env with
    | some (key, e) => match e[i]? with
      | some (some s) => match subP s.d (some key) with
        | some _ => if s.m = 2 ∨ s.k = 0 then none else some (some key, e)
        | none => none
      | _ => none
    | none => none
  | _ => none
section
variable {X : Cx} {a b : Expr} {es : List Expr} {ma mb : Bool} {pos : Pos}
/-- the name's own object -/
theorem pl_var {i : Nat} {x : Str} (h : PE X (.Name x pos) (tVar i)) : PE X (.Name x pos) (tPl X.K i (plVar i)) := h.wk fun σ H Q ⟨env, path, env', As, L, e1, hd, q⟩ => by
  unfold plVar at e1
  split at e1
  · rename_i s0 hs0
    obtain ⟨v, e, _⟩ := hd.rep i s0 hs0
    cases e1
    exact ⟨v, e, q v H As (Pst.refl hd) Nm.refl ⟨v, e, rfl⟩⟩
  · cases e1
/-- a tracked item one step down -/
theorem ix_step (hu : X.A.units + 1 < cLine) : IxR X (fun x y H Q => ∃ key v, RepV X.K H y key ∧ StepAt H x key v ∧ Q v H) := by
  intro value slice pins s σ H x y v u Q I rx ry ⟨key, w, rk, st, q⟩ hs
  rcases st with ⟨p, vs, i, rfl, e2, rfl, e3⟩ | ⟨p, kvs, k, rfl, e2, hk, e3⟩
  · exact ix_list value slice pins s σ H _ y v u Q I rx ry ⟨p, vs, i, w, rfl, intRep rk, SqL.of e2, e3, q⟩ hs
  · cases rx
    have g : DGet H p y (some w) := .inl ⟨kvs, k, .inl e2, kD_rep rk hk, e3.symm⟩
    exact PyProof.Rows.tail_any (dict_typeIs I g) PySem.F.slot_dict_getitem.lookup (d_getItem hu I g ry fun w2 s2 I2 r2' => (⟨w, H, I2, r2', q⟩ : EP X pins σ Q w2 s2)) hs
/-- in the state the place is there -/
theorem RepO.step {K : PySem.W.Frag} {H : Hp} {F : Addr → Prop} {k : Nat} {v : V} {d d1 key : D} {B : List Addr} (r : RepO K H F (k + 1) v d B) (nf : ∀ a ∈ B, ∀ o u, H a ≠ some (.frz o u)) (hs : subP d (some key) = some d1) : ∃ v1, StepAt H v key v1 := by
  cases r with
  | flat hi r => cases d <;> first | (simp [subP] at hs; done) | cases hi
  | lst e rs =>
    cases key <;> try (simp [subP] at hs; done)
    rename_i i
    have hs : atI _ i = some d1 := hs
    obtain ⟨j, hj, hd⟩ := atI_some hs
    obtain ⟨vj, B0, B1, B2, h1, h2, h3, h4⟩ := rs.nth hd
    refine ⟨vj, .inl ⟨_, _, i, rfl, e, rfl, ?_⟩⟩
    unfold atI
    rw [rs.length, hj]
    exact h1
  | dK e hk rs =>
    rename_i p kvs kds E
    have e' : H p = some (.dK kvs) := by
      rcases e with e | ⟨o, e⟩
      · exact e
      · exact absurd e (nf p (List.mem_cons_self ..) _ _)
    have hs : (match kD key with | some k => look kds k | none => none) = some d1 := by cases key <;> exact hs
    cases hkd : kD key with
    | none => rw [hkd] at hs; cases hs
    | some k' =>
      rw [hkd] at hs
      obtain ⟨j, h1, h2, h3⟩ := look_nth k' hs
      obtain ⟨vj, B0, B1, B2, g1, g2, g3, g4⟩ := rs.nth h1
      exact ⟨vj, .inr ⟨p, kvs, k', rfl, e', hkd, by rw [h2 kvs hk]; exact g1⟩⟩
  | dT e hk rs => cases key <;> simp [subP] at hs
theorem pl_sub {i : Nat} {x : Str} {px : Pos} {sb : SP} (hu : X.A.units + 1 < cLine) (h : PE X (.Name x px) (tVar i)) (hb : PE X b (tP X.K false sb)) (hs : PlainIx b) : PE X (.Subscript (.Name x px) b pos) (tPl X.K i (plSub i sb)) := (pe_ix (ix_step hu) h hb hs).wk fun σ H Q ⟨env, path, env', As, L, e, hd, q⟩ => by
  unfold plSub at e
  split at e
  · rename_i s0 hs0
    obtain ⟨u, eu, _⟩ := hd.rep i s0 hs0
    split at e
    · rename_i key e1 h1
      split at e
      · rename_i sl hsl
        split at e
        · rename_i d1 hd1
          split at e
          · cases e
          · rename_i hm
            cases e
            refine ⟨u, eu, env, key, env', As, L, h1, hd, fun v2 H2 As2 P2 n2 r2 => ?_⟩
            obtain ⟨u', eu', ro⟩ := P2.hd0.rep i sl hsl
            rw [eu] at eu'
            cases eu'
            have hm2 : sl.m ≠ 2 := fun z => hm (.inl z)
            obtain ⟨k0, hk0⟩ : ∃ k0, sl.k = k0 + 1 := ⟨sl.k - 1, by have : sl.k ≠ 0 := fun z => hm (.inr z); omega⟩
            rw [hk0] at ro
            obtain ⟨v1, st⟩ := ro.step (fun a m => (P2.hd0.ow i sl hsl hm2 a m).2) hd1
            exact ⟨key, v1, r2, st, q v1 H2 As2 P2 n2 ⟨u, eu, st⟩⟩
        · cases e
      · cases e
    · cases e
  · cases e
end
end Ev
set_option Elab.async false
set_option linter.all false
set_option autoImplicit false
set_option maxRecDepth 100000
set_option maxHeartbeats 4000000
/-! Ev8: append, extend, pop, x[i] = e; targets. -/
namespace Ev
open PySem PySem.Spec L2

/-- the object at a place is changed to o'; C1: what the place owns then, R: what the answer owns -/
theorem Pst.opAt {K : PySem.W.Frag} {σ0 σ : St} {env0 env : En} {H0 H : Hp} {As0 As : Own} {L : Addr → Prop} {B : List Addr} (P : Pst K σ0 env0 H0 As0 L σ env H As B) {i k : Nat} {sl : Slot} {u : V} {q : Addr} {path : Option D} {d1 d1' : D} {o' : HO} {Pp : List Addr → (Addr → Prop) → Prop}
    (hi : env[i]? = some (some sl)) (hm : sl.m ≠ 2) (hu : σ[i]? = some (some u)) (hat : AtP H u path (.ref q)) (hs : subP sl.d path = some d1) (hok : okP sl.d path = true) (hk : sl.k = k + depP path) (nf : ∀ ob u, o' ≠ .frz ob u)
    (new : ∀ B1, RepO K H (Fb As (plusL L B)) k (.ref q) d1 B1 → B1.Nodup → (∀ a ∈ B1, a ∉ B) → ∃ C1 R, (∀ a ∈ C1 ++ R, a ∈ B1 ∨ a ∈ B) ∧ (C1 ++ R).Nodup ∧ q ∈ B1 ∧
      ∀ F' : Addr → Prop, (∀ p o, H p = some o → ¬ Fb As (plusL L B) p → upd H q o' p = some o ∧ ¬ F' p) → (∀ p xs, H p = some (.tup xs) → upd H q o' p = some (.tup xs)) → (∀ a, F' a → Fb As (plusL L B) a) →
        (∀ a, a ∈ B1 ∨ a ∈ B → a ∉ C1 ++ R → ¬ F' a) → RepO K (upd H q o') F' k (.ref q) d1' C1 ∧ Pp R F') :
    ∃ C R, Pst K σ0 env0 H0 As0 L σ (env.set i (some { sl with d := putP sl.d path d1' })) (upd H q o') (putA As i C) R ∧ Pp R (Fb (putA As i C) (plusL L R)) := by
  obtain ⟨v, ev, ro⟩ := P.hd.rep i sl hi
  rw [hu] at ev
  cases ev
  rw [hk] at ro
  obtain ⟨B0, B1, B2, hB, r1, back⟩ := ro.focus hs hok hat
  have hnd := P.hd.nd i
  rw [hB] at hnd
  have n1 := List.nodup_append.mp hnd
  have n2 := List.nodup_append.mp n1.2.1
  have hAB : ∀ a ∈ As i, a ∉ B := fun a m m' => (P.bo a m').2.1 i m
  obtain ⟨C1, R, hC, hn, hq, fin⟩ := new B1 r1 n2.1 fun a m => hAB a (by rw [hB]; exact List.mem_append_right _ (List.mem_append_left _ m))
  have hqi : q ∈ As i := by rw [hB]; exact List.mem_append_right _ (List.mem_append_left _ hq)
  have hqF : Fb As (plusL L B) q := .inl ⟨i, hqi⟩
  have inB : ∀ a, a ∈ B1 → a ∈ As i := fun a m => by rw [hB]; exact List.mem_append_right _ (List.mem_append_left _ m)
  have in02 : ∀ a, a ∈ B0 ++ B2 → a ∈ As i := fun a m => by
    rw [hB]
    rcases List.mem_append.mp m with m | m
    · exact List.mem_append_left _ m
    · exact List.mem_append_right _ (List.mem_append_right _ m)
  have d02 : ∀ a, a ∈ B0 ++ B2 → a ∉ C1 ++ R := fun a m m' => by
    rcases hC a m' with w | w
    · rcases List.mem_append.mp m with m | m
      · exact n1.2.2 a m a (List.mem_append_left _ w) rfl
      · exact n2.2.2 a w a m rfl
    · exact hAB a (in02 a m) w
  have hCC : ∀ a ∈ (B0 ++ (C1 ++ B2)) ++ R, a ∈ As i ∨ a ∈ B := fun a m => by
    have go : a ∈ C1 ++ R → a ∈ As i ∨ a ∈ B := fun m => (hC a m).imp (inB a) id
    rcases List.mem_append.mp m with m | m
    · rcases List.mem_append.mp m with m | m
      · exact .inl (in02 a (List.mem_append_left _ m))
      · rcases List.mem_append.mp m with m | m
        · exact go (List.mem_append_left _ m)
        · exact .inl (in02 a (List.mem_append_right _ m))
    · exact go (List.mem_append_right _ m)
  have hnn : ((B0 ++ (C1 ++ B2)) ++ R).Nodup := by
    have c := List.nodup_append.mp hn
    refine List.nodup_append.mpr ⟨List.nodup_append.mpr ⟨n1.1, List.nodup_append.mpr ⟨c.1, n2.2.1, fun a m b m' e => ?_⟩, fun a m b m' e => ?_⟩, c.2.1, fun a m b m' e => ?_⟩
    · subst e; exact d02 a (List.mem_append_right _ m') (List.mem_append_left _ m)
    · subst e
      rcases List.mem_append.mp m' with m' | m'
      · exact d02 a (List.mem_append_left _ m) (List.mem_append_left _ m')
      · exact n1.2.2 a m a (List.mem_append_right _ m') rfl
    · subst e
      rcases List.mem_append.mp m with m | m
      · exact d02 a (List.mem_append_left _ m) (List.mem_append_right _ m')
      · rcases List.mem_append.mp m with m | m
        · exact c.2.2 a m a m' rfl
        · exact d02 a (List.mem_append_right _ m) (List.mem_append_right _ m')
  have sub : ∀ a, Fb (putA As i (B0 ++ (C1 ++ B2))) (plusL L R) a → Fb As (plusL L B) a := fun a z => by
    have go : a ∈ (B0 ++ (C1 ++ B2)) ++ R → Fb As (plusL L B) a := fun m => (hCC a m).elim (fun w => .inl ⟨i, w⟩) fun w => .inr (.inr w)
    rcases z with ⟨j, z⟩ | z | z
    · by_cases e : j = i
      · rw [e, putA_same] at z; exact go (List.mem_append_left _ z)
      · rw [putA_ne e] at z; exact .inl ⟨j, z⟩
    · exact .inr (.inl z)
    · exact go (List.mem_append_right _ z)
  have tr : ∀ p o, H p = some o → ¬ Fb As (plusL L B) p → upd H q o' p = some o ∧ ¬ Fb (putA As i (B0 ++ (C1 ++ B2))) (plusL L R) p := fun p o e n =>
    ⟨by rw [upd_ne (fun w => n (by rw [w]; exact hqF))]; exact e, fun w => n (sub p w)⟩
  have tt : ∀ p xs, H p = some (.tup xs) → upd H q o' p = some (.tup xs) := fun p xs e => by
    rw [upd_ne (fun w => ?_)]
    · exact e
    · subst w
      obtain ⟨o, eo, ht⟩ := P.hd.there hqi
      rw [e] at eo
      exact ht xs (Option.some.inj eo).symm
  obtain ⟨r2, pp⟩ := fin _ tr tt sub fun a m n w => by
    rcases w with ⟨j, w⟩ | w | w
    · by_cases e : j = i
      · rw [e, putA_same] at w
        rcases List.mem_append.mp w with w | w
        · rcases m with m | m
          · exact n1.2.2 a w a (List.mem_append_left _ m) rfl
          · exact hAB a (in02 a (List.mem_append_left _ w)) m
        · rcases List.mem_append.mp w with w | w
          · exact n (List.mem_append_left _ w)
          · rcases m with m | m
            · exact n2.2.2 a m a w rfl
            · exact hAB a (in02 a (List.mem_append_right _ w)) m
      · rw [putA_ne e] at w
        rcases m with m | m
        · exact e (P.hd.dj j i a w (inB a m))
        · exact (P.bo a m).2.1 j w
    · rcases m with m | m
      · exact (P.hd.ow i sl hi hm a (inB a m)).1 (.inl w)
      · exact (P.bo a m).1 w
    · exact n (List.mem_append_right _ w)
  have r3 := back (upd H q o') _ d1' C1 tr tt (fun p m o e => by
    rw [upd_ne (fun w => ?_)]
    · exact e
    · subst w
      rcases List.mem_append.mp m with m | m
      · exact n1.2.2 p m p (List.mem_append_left _ hq) rfl
      · exact n2.2.2 p hq p m rfl) r2
  rw [← hk] at r3
  exact ⟨_, R, P.mut hi hm hqi nf hCC hnn ⟨u, hu, r3⟩, pp⟩

section
variable {X : Cx} {a b : Expr} {es : List Expr} {ma mb : Bool} {pos : Pos}
theorem lst_inv {K : PySem.W.Frag} {H : Hp} {F : Addr → Prop} {j : Nat} {v : V} {ds : List D} {B : List Addr} (r : RepO K H F (j + 1) v (.lst ds) B) : ∃ p vs E, v = .ref p ∧ H p = some (.lst vs) ∧ B = p :: E ∧ RepOs K H F j vs ds E := by
  cases r with
  | flat h _ => cases h
  | lst e rs => exact ⟨_, _, _, rfl, e, rfl, rs⟩
theorem RepO.lift {K : PySem.W.Frag} {H : Hp} {F : Addr → Prop} {j : Nat} {v : V} {d : D} (r : RepD K H F v d) (h : j = 0 ∨ d.imm = true) : RepO K H F j v d [] := by
  cases j with
  | zero => exact .zero r
  | succ j => exact .flat (h.resolve_left (by simp)) r
theorem RepOs.one {K : PySem.W.Frag} {H : Hp} {F : Addr → Prop} {j : Nat} {v : V} {d : D} {B : List Addr} (r : RepO K H F j v d B) : RepOs K H F j [v] [d] B := by
  have := RepOs.cons r .nil
  rwa [List.append_nil] at this
/-- what a value owns when it is put where j levels are owned -/
def fitsJ (j : Nat) (r : Rv) : Bool := decide (j = 0) || (decide (r.2 = j) || r.1.imm)
/-- where a list item may be put: the slot i, the place, and the level of its items -/
def atList (i : Nat) (path : Option D) (e : En) : Option (Slot × List D × Nat) := match e[i]? with
  | some (some sl) => if sl.m ≠ 2 ∧ okP sl.d path = true ∧ depP path + 1 ≤ sl.k then match subP sl.d path with
      | some (.lst ds) => some (sl, ds, sl.k - depP path - 1)
      | _ => none
    else none
  | _ => none
theorem atList_some {i : Nat} {path : Option D} {e : En} {sl : Slot} {ds : List D} {j : Nat} (h : atList i path e = some (sl, ds, j)) : e[i]? = some (some sl) ∧ sl.m ≠ 2 ∧ okP sl.d path = true ∧ subP sl.d path = some (.lst ds) ∧ sl.k = (j + 1) + depP path := by
  unfold atList at h
  split at h
  · rename_i s hs
    split at h
    · rename_i hc
      split at h
      · rename_i ds' hd
        cases h
        exact ⟨hs, hc.1, hc.2.1, hd, by have := hc.2.2; omega⟩
      · cases h
    · cases h
  · cases h
/-- x.append(e) -/
def sApp (i : Nat) (pl : SPl) (s : SE) : SS := fun env => match pl env with
  | some (path, e1) => match atList i path e1, s e1 with
    | some _, some (r, e2) => match atList i path e2 with
      | some (sl, ds, j) => if ds.length < 16777216 ∧ fitsJ j r = true then some (.nx (e2.set i (some { sl with d := putP sl.d path (.lst (ds ++ [r.1])) }))) else none
      | none => none
    | _, _ => none
  | none => none
theorem plVar_some {i : Nat} {env : En} {path : Option D} {e : En} (h : plVar i env = some (path, e)) : path = none := by
  unfold plVar at h
  split at h
  · cases h; rfl
  · cases h
theorem AtP.keep {H H' : Hp} {u v : V} {path : Option D} (h : AtP H u path v) (k : path = none ∨ ∀ p o, H p = some o → H' p = some o) : AtP H' u path v := by
  cases path with
  | none => exact h
  | some key =>
    have k := k.resolve_left (by simp)
    rcases h with ⟨p, vs, i, e1, e2, e3, e4⟩ | ⟨p, kvs, kk, e1, e2, e3, e4⟩
    · exact .inl ⟨p, vs, i, e1, k _ _ e2, e3, e4⟩
    · exact .inr ⟨p, kvs, kk, e1, k _ _ e2, e3, e4⟩
theorem tyV_lst {K : PySem.W.Frag} {H : Hp} {p : Addr} {vs : List V} (h : H p = some (.lst vs)) : tyV K "list" (.ref p) H := .inl ⟨rfl, vs, SqL.of h⟩
/-- the place in a state that came behind -/
theorem place_at {K : PySem.W.Frag} {σ : St} {env : En} {H : Hp} {As : Own} {L : Addr → Prop} {i j : Nat} {path : Option D} {sl : Slot} {ds : List D} {u v : V} (hd : Holds K H σ env As L) (h : atList i path env = some (sl, ds, j)) (hu : σ[i]? = some (some u)) (hat : AtP H u path v) :
    ∃ q vs, v = .ref q ∧ H q = some (.lst vs) ∧ vs.length = ds.length := by
  obtain ⟨h1, h2, h3, h4, h5⟩ := atList_some h
  obtain ⟨u', eu, ro⟩ := hd.rep i sl h1
  rw [hu] at eu
  cases eu
  rw [h5] at ro
  obtain ⟨B0, B1, B2, hB, r1, back⟩ := ro.focus h4 h3 hat
  obtain ⟨p, vs, E, e1, e2, e3, e4⟩ := lst_inv r1
  exact ⟨p, vs, e1, e2, e4.length⟩
theorem app_end {K : PySem.W.Frag} {σ0 σ : St} {env0 env : En} {H0 H : Hp} {As0 As : Own} {L : Addr → Prop} {B : List Addr} (P : Pst K σ0 env0 H0 As0 L σ env H As B) {i j : Nat} {path : Option D} {sl : Slot} {ds : List D} {u : V} {q : Addr} {vs : List V} {y : V} {r : Rv}
    (h : atList i path env = some (sl, ds, j)) (hf : fitsJ j r = true) (hu : σ[i]? = some (some u)) (hat : AtP H u path (.ref q)) (hq : H q = some (.lst vs)) (ry : RepO K H (Fb As (plusL L B)) r.2 y r.1 B) :
    ∃ C, Pst K σ0 env0 H0 As0 L σ (env.set i (some { sl with d := putP sl.d path (.lst (ds ++ [r.1])) })) (upd H q (.lst (vs ++ [y]))) (putA As i C) [] := by
  obtain ⟨h1, h2, h3, h4, h5⟩ := atList_some h
  obtain ⟨C, R, P2, hR⟩ := P.opAt (Pp := fun R _ => R = []) (o' := .lst (vs ++ [y])) (d1' := .lst (ds ++ [r.1])) h1 h2 hu hat h4 h3 h5 (fun _ _ z => nomatch z) (fun B1 r1 hn hd => by
    obtain ⟨p, vs', E, e1, e2, e3, e4⟩ := lst_inv r1
    cases e1
    rw [hq] at e2
    cases e2
    subst e3
    have hn' := List.nodup_cons.mp hn
    have hqB : q ∉ B := hd q (List.mem_cons_self ..)
    have old : ∀ F' : Addr → Prop, (∀ p o, H p = some o → ¬ Fb As (plusL L B) p → upd H q (.lst (vs ++ [y])) p = some o ∧ ¬ F' p) → (∀ p xs, H p = some (.tup xs) → upd H q (.lst (vs ++ [y])) p = some (.tup xs)) → RepOs K (upd H q (.lst (vs ++ [y]))) F' j vs ds E ∧ RepO K (upd H q (.lst (vs ++ [y]))) F' r.2 y r.1 B := fun F' tr tt =>
      ⟨e4.to tr tt fun p m o e => by rw [upd_ne (fun w => hn'.1 (by rw [← w]; exact m))]; exact e, ry.to tr tt fun p m o e => by rw [upd_ne (fun w => hqB (by rw [← w]; exact m))]; exact e⟩
    by_cases z : j = 0 ∨ r.1.imm = true
    · refine ⟨q :: E, [], fun a m => .inl (by simpa using m), by simpa using hn, List.mem_cons_self .., fun F' tr tt hs nF => ⟨.lst upd_same ?_, rfl⟩⟩
      obtain ⟨e5, e6⟩ := old F' tr tt
      have e7 := e6.frozen (F' := F') (fun _ w => w) (fun a m => nF a (.inr m) fun w => hd a (by simpa using w) m)
      have := e5.app (RepOs.one (RepO.lift e7 z))
      rwa [List.append_nil] at this
    · have zj : r.2 = j := by
        unfold fitsJ at hf
        simp only [Bool.or_eq_true, decide_eq_true_eq] at hf
        rcases hf with w | w | w
        · exact absurd (.inl w) z
        · exact w
        · exact absurd (.inr w) z
      refine ⟨q :: (E ++ B), [], fun a m => ?_, ?_, List.mem_cons_self .., fun F' tr tt hs nF => ⟨.lst upd_same ?_, rfl⟩⟩
      · rw [List.append_nil] at m
        rcases List.mem_cons.mp m with rfl | m
        · exact .inl (List.mem_cons_self ..)
        · exact (List.mem_append.mp m).imp (List.mem_cons_of_mem _) id
      · rw [List.append_nil]
        refine List.nodup_cons.mpr ⟨fun m => (List.mem_append.mp m).elim hn'.1 hqB, List.nodup_append.mpr ⟨hn'.2, P.bn, fun a m b m' e => ?_⟩⟩
        subst e
        exact hd a (List.mem_cons_of_mem _ m) m'
      · obtain ⟨e5, e6⟩ := old F' tr tt
        exact e5.app (RepOs.one (by rw [← zj]; exact e6)))
  subst hR
  exact ⟨C, P2⟩
theorem s_app {st : Stmt} {i : Nat} {pl : SPl} {s : SE} (hst : mb = false ∨ pl = plVar i) (h : PS X st (tDrop (tBM X.K "list" rAppend (tPl X.K i pl) (tCons (tE X.K mb s) tNil)))) : PS X st (tS X.K (sApp i pl s)) := h.wk fun D σ H ⟨env, rr, As, L, e, hd, q⟩ => by
  unfold sApp at e
  split at e
  · rename_i path e1 h1
    split at e
    · rename_i z0 r e2 h0 h2
      split at e
      · rename_i sl ds j h3
        split at e
        · rename_i hc
          cases e
          refine ⟨env, path, e1, As, L, h1, hd, fun v1 H1 As1 P1 n1 ⟨u, hu, hat⟩ => ?_⟩
          have pth : path = none ∨ mb = false := hst.elim .inr fun z => by subst z; exact .inl (plVar_some h1)
          obtain ⟨sl0, ds0, j0⟩ := z0
          obtain ⟨p0, vs0, e0, hp0, _⟩ := place_at P1.hd0 h0 hu hat
          refine ⟨by rw [e0]; exact tyV_lst hp0, e1, r, e2, As1, L, h2, P1.hd0, fun v H2 As2 B2 P2 n2 ry => ?_⟩
          have PP := P1.seq P2
          have hat2 : AtP H2 u path v1 := hat.keep (pth.imp id fun z => n2 z)
          obtain ⟨p, vs, rfl, hp, hl⟩ := place_at PP.hd h3 hu hat2
          obtain ⟨C, P3⟩ := app_end PP h3 hc.2 hu hat2 hp ry
          exact ⟨p, vs, v, rfl, rfl, hp, by rw [hl]; exact hc.1, q σ _ _ P3⟩
        · cases e
      · cases e
    · cases e
  · cases e
/-! ### x.extend(e): e a list by its items -/
theorem imm_reps {K : PySem.W.Frag} {H : Hp} {F : Addr → Prop} {j : Nat} : ∀ {vs : List V} {ds : List D}, RepDs K H F vs ds → (j = 0 ∨ (ds.all D.imm) = true) → RepOs K H F j vs ds []
  | _, _, .nil, _ => .nil
  | _, _, .cons r rs, h => .cons (B := []) (C := []) (RepO.lift r (h.imp id fun z => (Bool.and_eq_true_iff.mp (by rw [List.all_cons] at z; exact z)).1)) (imm_reps rs (h.imp id fun z => (Bool.and_eq_true_iff.mp (by rw [List.all_cons] at z; exact z)).2))
def sExt (i : Nat) (pl : SPl) (s : SL) : SS := fun env => match pl env with
  | some (path, e1) => match atList i path e1, s e1 with
    | some _, some ((false, es), e2) => match atList i path e2 with
      | some (sl, ds, j) => if ds.length + es.length ≤ 16777216 ∧ (j = 0 ∨ es.all D.imm = true) then some (.nx (e2.set i (some { sl with d := putP sl.d path (.lst (ds ++ es)) }))) else none
      | none => none
    | _, _ => none
  | none => none
theorem ext_end {K : PySem.W.Frag} {σ0 σ : St} {env0 env : En} {H0 H : Hp} {As0 As : Own} {L : Addr → Prop} (P : Pst K σ0 env0 H0 As0 L σ env H As []) {i j : Nat} {path : Option D} {sl : Slot} {ds es : List D} {u : V} {q : Addr} {vs ws : List V}
    (h : atList i path env = some (sl, ds, j)) (hf : j = 0 ∨ es.all D.imm = true) (hu : σ[i]? = some (some u)) (hat : AtP H u path (.ref q)) (hq : H q = some (.lst vs)) (ry : RepDs K H (Fb As L) ws es) :
    ∃ C, Pst K σ0 env0 H0 As0 L σ (env.set i (some { sl with d := putP sl.d path (.lst (ds ++ es)) })) (upd H q (.lst (vs ++ ws))) (putA As i C) [] := by
  obtain ⟨h1, h2, h3, h4, h5⟩ := atList_some h
  obtain ⟨C, R, P2, hR⟩ := P.opAt (Pp := fun R _ => R = []) (o' := .lst (vs ++ ws)) (d1' := .lst (ds ++ es)) h1 h2 hu hat h4 h3 h5 (fun _ _ z => nomatch z) (fun B1 r1 hn hd => by
    obtain ⟨p, vs', E, e1, e2, e3, e4⟩ := lst_inv r1
    cases e1
    rw [hq] at e2
    cases e2
    subst e3
    have hn' := List.nodup_cons.mp hn
    refine ⟨q :: E, [], fun a m => .inl (by simpa using m), by simpa using hn, List.mem_cons_self .., fun F' tr tt hs nF => ⟨.lst upd_same ?_, rfl⟩⟩
    have e5 : RepOs K (upd H q (.lst (vs ++ ws))) F' j vs ds E := e4.to tr tt fun p m o e => by rw [upd_ne (fun w => hn'.1 (by rw [← w]; exact m))]; exact e
    have e6 : RepDs K (upd H q (.lst (vs ++ ws))) F' ws es := ry.to (fun p o e n => tr p o e (by rw [plusL_nil]; exact n)) tt
    have := e5.app (imm_reps e6 hf)
    rwa [List.append_nil] at this)
  subst hR
  exact ⟨C, P2⟩
theorem s_ext {st : Stmt} {i : Nat} {pl : SPl} {s : SL} {stl : Bool} (hst : mb = false ∨ pl = plVar i) (h : PS X st (tDrop (tBM X.K "list" rExtend (tPl X.K i pl) (tCons (tL X.K mb stl s) tNil)))) : PS X st (tS X.K (sExt i pl s)) := h.wk fun D σ H ⟨env, rr, As, L, e, hd, q⟩ => by
  unfold sExt at e
  split at e
  · rename_i path e1 h1
    split at e
    · rename_i z0 es e2 h0 h2
      split at e
      · rename_i sl ds j h3
        split at e
        · rename_i hc
          cases e
          refine ⟨env, path, e1, As, L, h1, hd, fun v1 H1 As1 P1 n1 ⟨u, hu, hat⟩ => ?_⟩
          have pth : path = none ∨ mb = false := hst.elim .inr fun z => by subst z; exact .inl (plVar_some h1)
          obtain ⟨sl0, ds0, j0⟩ := z0
          obtain ⟨p0, vs0, e0, hp0, _⟩ := place_at P1.hd0 h0 hu hat
          refine ⟨by rw [e0]; exact tyV_lst hp0, e1, false, es, e2, As1, L, h2, P1.hd0, fun b ws H2 As2 P2 n2 sq ry _ => ?_⟩
          have PP := P1.seq P2
          have hat2 : AtP H2 u path v1 := hat.keep (pth.imp id fun z => n2 z)
          obtain ⟨p, vs, rfl, hp, hl⟩ := place_at PP.hd0 h3 hu hat2
          obtain ⟨C, P3⟩ := ext_end PP h3 hc.2 hu hat2 hp ry
          exact ⟨p, b, vs, ws, rfl, rfl, hp, sq, by rw [hl, ry.length]; exact hc.1, q σ _ _ P3⟩
        · cases e
      · cases e
    · cases e
  · cases e
/-! ### x.pop(), x.pop(i) -/
theorem RepOs.erase {K : PySem.W.Frag} {H : Hp} {F : Addr → Prop} {k : Nat} : ∀ {vs : List V} {ds : List D} {B : List Addr} {j : Nat} {d : D}, RepOs K H F k vs ds B → ds[j]? = some d → ∃ v B0 B1 B2, vs[j]? = some v ∧ B = B0 ++ (B1 ++ B2) ∧ RepO K H F k v d B1 ∧ RepOs K H F k (vs.eraseIdx j) (ds.eraseIdx j) (B0 ++ B2)
  | _, _, _, _, _, .nil, e => by simp at e
  | _, _, _, 0, _, .cons (B := B) (C := C0) r rs, e => by
    simp at e
    subst e
    exact ⟨_, [], B, C0, rfl, rfl, r, rs⟩
  | _, _, _, j + 1, _, .cons (B := B) (C := C0) r rs, e => by
    obtain ⟨v, B0, B1, B2, h1, h2, h3, h4⟩ := RepOs.erase (j := j) rs (by simpa using e)
    refine ⟨v, B ++ B0, B1, B2, by simpa using h1, by rw [h2]; simp, h3, ?_⟩
    simp only [List.eraseIdx_cons_succ]
    rw [List.append_assoc]
    exact .cons r h4
/-- one item is taken out -/
theorem pop_end {K : PySem.W.Frag} {σ0 σ : St} {env0 env : En} {H0 H : Hp} {As0 As : Own} {L : Addr → Prop} (P : Pst K σ0 env0 H0 As0 L σ env H As []) {i j n : Nat} {path : Option D} {sl : Slot} {ds : List D} {d : D} {u : V} {q : Addr} {vs : List V}
    (h : atList i path env = some (sl, ds, j)) (hd : ds[n]? = some d) (hu : σ[i]? = some (some u)) (hat : AtP H u path (.ref q)) (hq : H q = some (.lst vs)) :
    ∃ y C R, vs[n]? = some y ∧ Pst K σ0 env0 H0 As0 L σ (env.set i (some { sl with d := putP sl.d path (.lst (ds.eraseIdx n)) })) (upd H q (.lst (vs.eraseIdx n))) (putA As i C) R ∧ RepO K (upd H q (.lst (vs.eraseIdx n))) (Fb (putA As i C) (plusL L R)) j y d R := by
  obtain ⟨h1, h2, h3, h4, h5⟩ := atList_some h
  obtain ⟨C, R, P2, y, hy, hR⟩ := P.opAt (Pp := fun R F' => ∃ y, vs[n]? = some y ∧ RepO K (upd H q (.lst (vs.eraseIdx n))) F' j y d R) (o' := .lst (vs.eraseIdx n)) (d1' := .lst (ds.eraseIdx n)) h1 h2 hu hat h4 h3 h5 (fun _ _ z => nomatch z) (fun B1 r1 hn hdB => by
    obtain ⟨p, vs', E, e1, e2, e3, e4⟩ := lst_inv r1
    cases e1
    rw [hq] at e2
    cases e2
    subst e3
    have hn' := List.nodup_cons.mp hn
    obtain ⟨y, B0, Bm, B2, g1, g2, g3, g4⟩ := e4.erase hd
    have hE := hn'.2
    rw [g2] at hE
    have c1 := List.nodup_append.mp hE
    have c2 := List.nodup_append.mp c1.2.1
    have inE : ∀ a, a ∈ B0 ++ B2 → a ∈ E := fun a m => by
      rw [g2]
      rcases List.mem_append.mp m with m | m
      · exact List.mem_append_left _ m
      · exact List.mem_append_right _ (List.mem_append_right _ m)
    have inM : ∀ a, a ∈ Bm → a ∈ E := fun a m => by rw [g2]; exact List.mem_append_right _ (List.mem_append_left _ m)
    refine ⟨q :: (B0 ++ B2), Bm, fun a m => .inl ?_, ?_, List.mem_cons_self .., fun F' tr tt hs nF => ⟨.lst upd_same ?_, y, g1, ?_⟩⟩
    · rcases List.mem_append.mp m with m | m
      · rcases List.mem_cons.mp m with rfl | m
        · exact List.mem_cons_self ..
        · exact List.mem_cons_of_mem _ (inE a m)
      · exact List.mem_cons_of_mem _ (inM a m)
    · refine List.nodup_append.mpr ⟨List.nodup_cons.mpr ⟨fun m => hn'.1 (inE q m), List.nodup_append.mpr ⟨c1.1, c2.2.1, fun a m b m' e => c1.2.2 a m b (List.mem_append_right _ m') e⟩⟩, c2.1, fun a m b m' e => ?_⟩
      subst e
      rcases List.mem_cons.mp m with rfl | m
      · exact hn'.1 (inM _ m')
      · rcases List.mem_append.mp m with m | m
        · exact c1.2.2 a m a (List.mem_append_left _ m') rfl
        · exact c2.2.2 a m' a m rfl
    · exact g4.to tr tt fun p m o e => by rw [upd_ne (fun w => hn'.1 (by rw [← w]; exact inE p m))]; exact e
    · exact g3.to tr tt fun p m o e => by rw [upd_ne (fun w => hn'.1 (by rw [← w]; exact inM p m))]; exact e)
  exact ⟨y, C, R, hy, P2, hR⟩
theorem drop_last_erase {α : Type} : ∀ l : List α, l.dropLast = l.eraseIdx (l.length - 1)
  | [] => rfl
  | [x] => rfl
  | x :: y :: r => by
    have := drop_last_erase (y :: r)
    simp only [List.dropLast_cons₂, List.length_cons, Nat.add_sub_cancel, List.eraseIdx_cons_succ] at this ⊢
    rw [this]
def sPop (i : Nat) (pl : SPl) : SE := fun env => match pl env with
  | some (path, e1) => match atList i path e1 with
    | some (sl, ds, j) => match ds[ds.length - 1]? with
      | some d => some ((d, j), e1.set i (some { sl with d := putP sl.d path (.lst (ds.eraseIdx (ds.length - 1))) }))
      | none => none
    | none => none
  | none => none
theorem e_pop {i : Nat} {pl : SPl} (h : PE X a (tBM0 X.K "list" rPop (tPl X.K i pl))) : PE X a (tE X.K true (sPop i pl)) := h.wk fun σ H Q ⟨env, rr, env', As, L, e, hd, q⟩ => by
  unfold sPop at e
  split at e
  · rename_i path e1 h1
    split at e
    · rename_i sl ds j h2
      split at e
      · rename_i d h3
        cases e
        refine ⟨env, path, e1, As, L, h1, hd, fun v1 H1 As1 P1 n1 ⟨u, hu, hat⟩ => ?_⟩
        obtain ⟨p, vs, rfl, hp, hl⟩ := place_at P1.hd0 h2 hu hat
        obtain ⟨y, C, R, hy, P2, ry⟩ := pop_end P1 h2 h3 hu hat hp
        refine ⟨tyV_lst hp, p, vs, y, rfl, rfl, hp, by rw [hl]; exact hy, ?_⟩
        have e9 : vs.dropLast = vs.eraseIdx (ds.length - 1) := by rw [← hl, drop_last_erase]
        rw [e9]
        exact q y _ _ R P2 (fun z => nomatch z) ry
      · cases e
    · cases e
  · cases e
def sPopAt (i : Nat) (pl : SPl) (s : SP) : SE := fun env => match pl env with
  | some (path, e1) => match atList i path e1, s e1 with
    | some _, some (.int n, e2) => match atList i path e2 with
      | some (sl, ds, j) => match (if -(2 ^ 63) ≤ n ∧ n < 2 ^ 63 then ixN ds.length n else none) with
        | some m => match ds[m]? with
          | some d => some ((d, j), e2.set i (some { sl with d := putP sl.d path (.lst (ds.eraseIdx m)) }))
          | none => none
        | none => none
      | none => none
    | _, _ => none
  | none => none
theorem e_popAt {i : Nat} {pl : SPl} {s : SP} (hst : mb = false ∨ pl = plVar i) (h : PE X a (tBM X.K "list" rPopAt (tPl X.K i pl) (tCons (tP X.K mb s) tNil))) : PE X a (tE X.K true (sPopAt i pl s)) := h.wk fun σ H Q ⟨env, rr, env', As, L, e, hd, q⟩ => by
  unfold sPopAt at e
  split at e
  · rename_i path e1 h1
    split at e
    · rename_i z0 n e2 h0 h2
      split at e
      · rename_i sl ds j h3
        split at e
        · rename_i m hm
          split at e
          · rename_i d hdm
            cases e
            have hb : -(2 ^ 63) ≤ n ∧ n < 2 ^ 63 := by
              by_cases w : -(2 ^ 63) ≤ n ∧ n < 2 ^ 63
              · exact w
              · rw [if_neg w] at hm; cases hm
            rw [if_pos hb] at hm
            refine ⟨env, path, e1, As, L, h1, hd, fun v1 H1 As1 P1 n1 ⟨u, hu, hat⟩ => ?_⟩
            have pth : path = none ∨ mb = false := hst.elim .inr fun z => by subst z; exact .inl (plVar_some h1)
            obtain ⟨sl0, ds0, j0⟩ := z0
            obtain ⟨p0, vs0, e0, hp0, _⟩ := place_at P1.hd0 h0 hu hat
            refine ⟨by rw [e0]; exact tyV_lst hp0, e1, .int n, e2, As1, L, h2, P1.hd0, fun v H2 As2 P2 n2 r2 => ?_⟩
            have PP := P1.seq P2
            have hat2 : AtP H2 u path v1 := hat.keep (pth.imp id fun z => n2 z)
            obtain ⟨p, vs, rfl, hp, hl⟩ := place_at PP.hd0 h3 hu hat2
            obtain ⟨y, C, R, hy, P3, ry⟩ := pop_end PP h3 hdm hu hat2 hp
            obtain ⟨s1, s2, s3, s4⟩ := ixN_seq hm
            exact ⟨p, vs, n, m, y, rfl, by rw [intRep r2], hp, hb.1, hb.2, by rw [hl]; exact s1, hy, q y _ _ R P3 (fun z => nomatch z) ry⟩
          · cases e
        · cases e
      · cases e
    · cases e
  · cases e
end
end Ev
set_option Elab.async false
set_option linter.all false
set_option autoImplicit false
set_option maxRecDepth 100000
set_option maxHeartbeats 4000000
/-! Ev9: targets; what a loop walks; for, while; locks. -/
namespace Ev
open PySem PySem.Spec L2

/-! ### targets -/
abbrev SG := Rv → En → Option En
/-- ts: the names that it stores -/
def tG (K : PySem.W.Frag) (mg : Bool) (ts : List Nat) (g : SG) : TG := fun v σ H Q => ∃ σ0 env0 H0 As0 L env r env' As B, g r env = some env' ∧ Pst K σ0 env0 H0 As0 L σ env H As B ∧ RepO K H (Fb As (plusL L B)) r.2 v r.1 B ∧
  ∀ σ' H' As', Pst K σ0 env0 H0 As0 L σ' env' H' As' [] → Nm mg H H' → (∀ vs, (∀ i ∈ ts, i ∈ vs) → wipe σ' vs = wipe σ vs) → Q σ' H'
abbrev SGs := List D → En → Option En
def tGs (K : PySem.W.Frag) (mg : Bool) (ts : List Nat) (g : SGs) : TGs := fun vs σ H Q => ∃ env ds env' As L, g ds env = some env' ∧ Holds K H σ env As L ∧ RepDs K H (Fb As L) vs ds ∧
  ∀ σ' H' As', Pst K σ env H As L σ' env' H' As' [] → Nm mg H H' → (∀ vs, (∀ i ∈ ts, i ∈ vs) → wipe σ' vs = wipe σ vs) → Q σ' H'
theorem wipe_get {σ : St} : ∀ {vs : List Nat} {j : Nat}, (wipe σ vs)[j]? = if j ∈ vs then (if j < σ.length then some none else none) else σ[j]?
  | [], j => by simp [wipe]
  | v :: vs, j => by
    unfold wipe
    by_cases e : v = j
    · subst e
      rw [if_pos (List.mem_cons_self ..), List.getElem?_set]
      rw [wipe_length]
      simp
    · rw [List.getElem?_set_ne e, wipe_get (vs := vs)]
      have : (j ∈ v :: vs) ↔ j ∈ vs := by
        rw [List.mem_cons]
        exact ⟨fun h => h.resolve_left fun z => e z.symm, .inr⟩
      simp only [this]
theorem wipe_set {σ : St} {i : Nat} {x : Option V} {vs : List Nat} (h : i ∈ vs) : wipe (σ.set i x) vs = wipe σ vs := by
  apply List.ext_getElem?
  intro j
  rw [wipe_get, wipe_get, List.length_set]
  by_cases m : j ∈ vs
  · rw [if_pos m, if_pos m]
  · rw [if_neg m, if_neg m, List.getElem?_set_ne]
    exact fun z => m (z ▸ h)
def gSet (i : Nat) : SG := fun r env => if i < env.length then match env[i]? with
    | some (some t) => if t.m = 0 then some (env.set i (some ⟨r.1, r.2, 0⟩)) else none
    | _ => some (env.set i (some ⟨r.1, r.2, 0⟩))
  else none
theorem gSet_some {i : Nat} {r : Rv} {env env' : En} (h : gSet i r env = some env') : i < env.length ∧ (∀ t, env[i]? = some (some t) → t.m = 0) ∧ env' = env.set i (some ⟨r.1, r.2, 0⟩) := by
  unfold gSet at h
  split at h
  · rename_i hi
    split at h
    · rename_i t ht
      split at h
      · rename_i hm
        cases h
        exact ⟨hi, fun t' q => by rw [ht] at q; cases q; exact hm, rfl⟩
      · cases h
    · rename_i hn
      cases h
      exact ⟨hi, fun t' q => absurd q (hn t'), rfl⟩
  · cases h
section
variable {X : Cx} {a b : Expr} {es : List Expr} {ma mb : Bool} {pos : Pos}
theorem _root_.L2.PG.wk {e : Expr} {t t' : TG} (h : PG X e t) (w : ∀ v σ H Q, t' v σ H Q → t v σ H Q) : PG X e t' := ⟨fun pins s σ H v u Q I r q => h.run pins s σ H v u Q I r (w v σ H Q q)⟩
theorem _root_.L2.PGs.wk {e : List Expr} {t t' : TGs} (h : PGs X e t) (w : ∀ v σ H Q, t' v σ H Q → t v σ H Q) : PGs X e t' := ⟨fun pins s σ H v u Q I r q => h.run pins s σ H v u Q I r (w v σ H Q q)⟩
theorem g_name {tg : Expr} {i : Nat} (h : PG X tg (gName i)) : PG X tg (tG X.K false [i] (gSet i)) := h.wk fun v σ H Q ⟨σ0, env0, H0, As0, L, env, r, env', As, B, e, P, ro, q⟩ => by
  obtain ⟨hi, hf, rfl⟩ := gSet_some e
  exact q _ H _ (P.store (m := 0) ro hi (by decide) hf) Nm.refl fun vs hv => wipe_set (hv i (List.mem_singleton.mpr rfl))
def gsNil : SGs := fun ds env => match ds with
  | [] => some env
  | _ => none
def gsCons (g : SG) (gs : SGs) : SGs := fun ds env => match ds with
  | d :: ds => match g (d, 0) env with
    | some e => gs ds e
    | none => none
  | [] => none
theorem gs_nil : PGs X [] (tGs X.K false [] gsNil) := pgs_nil.wk fun vs σ H Q ⟨env, ds, env', As, L, e, hd, r, q⟩ => by
  cases r with
  | nil => cases e; exact ⟨rfl, q σ H As (Pst.refl hd) Nm.refl fun _ _ => rfl⟩
  | cons _ _ => cases e
theorem gs_cons {t1 t2 : List Nat} {g : SG} {gs : SGs} (h1 : PG X a (tG X.K ma t1 g)) (h2 : PGs X es (tGs X.K mb t2 gs)) (hs : (assignEach (a :: es) X.env).map (·.2) = assign a X.env :: (assignEach es X.env).map (·.2) := by rfl) : PGs X (a :: es) (tGs X.K (ma || mb) (t1 ++ t2) (gsCons g gs)) := (pgs_cons h1 h2 hs).wk fun vs σ H Q ⟨env, ds, env', As, L, e, hd, r, q⟩ => by
  cases r with
  | nil => cases e
  | @cons v d vs ds r rs =>
    unfold gsCons at e
    simp only at e
    split at e
    · rename_i e1 h1
      refine ⟨v, vs, rfl, σ, env, H, As, L, env, (d, 0), e1, As, [], h1, Pst.refl hd, .zero (by rw [plusL_nil]; exact r), fun σ1 H1 As1 P n1 w1 => ?_⟩
      have rs1 := P.keepDs rs
      rw [plusL_nil] at rs1
      exact ⟨e1, ds, env', As1, L, e, P.hd0, rs1, fun σ2 H2 As2 R n2 w2 => q σ2 H2 As2 (P.seq R) (n1.trans n2) fun vs hv => (w2 vs fun i m => hv i (List.mem_append_right _ m)).trans (w1 vs fun i m => hv i (List.mem_append_left _ m))⟩
    · cases e
/-- (a, b, ..) = a tuple -/
def gTupS (n : Nat) (gs : SGs) : SG := fun r env => match r.1 with
  | .tup ds => if ds.length = n then gs ds env else none
  | _ => none
theorem g_tup {tg : Expr} {ts : List Nat} {n : Nat} {gs : SGs} (h : PG X tg (gTup X.K n (tGs X.K ma ts gs))) : PG X tg (tG X.K ma ts (gTupS n gs)) := h.wk fun v σ H Q ⟨σ0, env0, H0, As0, L, env, r, env', As, B, e, P, ro, q⟩ => by
  unfold gTupS at e
  split at e
  · rename_i ds hd
    split at e
    · rename_i hl
      have rd := P.frozen ro
      rw [hd] at rd
      cases rd with
      | tup ev rs =>
        exact ⟨_, _, rfl, SqT.of ev, by rw [rs.length]; exact hl, env, ds, env', As, L, e, P.drop0.hd0, rs, fun σ' H' As' R n w => q σ' H' As' (P.drop0.seq R) n w⟩
    · cases e
  · cases e
/-- tg = e -/
def sAsg (s : SE) (g : SG) : SS := fun env => match s env with
  | some (r, e) => (g r e).map .nx
  | none => none
theorem s_asg {st : Stmt} {s : SE} {ts : List Nat} {g : SG} (h : PS X st (tAsg (tE X.K ma s) (tG X.K mb ts g))) : PS X st (tS X.K (sAsg s g)) := h.wk fun D σ H ⟨env, r, As, L, e, hd, q⟩ => by
  unfold sAsg at e
  split at e
  · rename_i r1 e1 h1
    cases h2 : g r1 e1 with
    | none => rw [h2] at e; cases e
    | some e2 =>
      rw [h2] at e
      cases e
      exact ⟨env, r1, e1, As, L, h1, hd, fun v H1 As1 B P n ro => ⟨σ, env, H, As, L, e1, r1, e2, As1, B, h2, P, ro, fun σ' H' As' R _ _ => q σ' H' As' R⟩⟩
  · cases e
/-- a, b = x, y : two names -/
def sPar (i j : Nat) (s : SA) : SS := fun env => match s env with
  | some ([r1, r2], e) => match gSet i r1 e with
    | some e1 => (gSet j r2 e1).map .nx
    | none => none
  | _ => none
theorem s_par {st : Stmt} {i j : Nat} {s : SA} (h : PS X st (tPar i j (tA X.K ma s))) : PS X st (tS X.K (sPar i j s)) := h.wk fun D σ H ⟨env, r, As, L, e, hd, q⟩ => by
  unfold sPar at e
  split at e
  · rename_i r1 r2 e1 h1
    split at e
    · rename_i e2 h2
      cases h3 : gSet j r2 e2 with
      | none => rw [h3] at e; cases e
      | some e3 =>
        rw [h3] at e
        cases e
        refine ⟨env, [r1, r2], e1, As, L, h1, hd, fun vs H1 As1 B P n ra => ?_⟩
        cases ra with
        | cons ro1 ra =>
          rename_i v1 vs B1 C
          cases ra with
          | cons ro2 ra =>
            rename_i v2 vs B2 C2
            cases ra
            obtain ⟨hi, hf, rfl⟩ := gSet_some h2
            obtain ⟨hj, hg, rfl⟩ := gSet_some h3
            refine ⟨v1, v2, rfl, ?_⟩
            have e0 : B1 ++ (B2 ++ []) = B1 ++ B2 := by rw [List.append_nil]
            rw [e0] at P ro1 ro2
            have P2 := P.store2 (m := 0) ro1 hi (by decide) hf
            have ro2' : RepO X.K H1 (Fb (putA As1 i B1) (plusL L B2)) r2.2 v2 r2.1 B2 := ro2.anti fun a q => by
              rcases q with ⟨k, q⟩ | q | q
              · by_cases z : k = i
                · rw [z, putA_same] at q; exact .inr (.inr (List.mem_append_left _ q))
                · rw [putA_ne z] at q; exact .inl ⟨k, q⟩
              · exact .inr (.inl q)
              · exact .inr (.inr (List.mem_append_right _ q))
            exact q _ H1 _ (P2.store (m := 0) ro2' hj (by decide) hg)
    · cases e
  · cases e
end
end Ev
set_option Elab.async false
set_option linter.all false
set_option autoImplicit false
set_option maxRecDepth 100000
set_option maxHeartbeats 4000000
/-! Ev10: what a loop walks; for, while; locks. -/
namespace Ev
open PySem PySem.Spec L2

/-- new things alone -/
theorem Pst.grow {K : PySem.W.Frag} {σ : St} {env : En} {H H' : Hp} {As : Own} {L : Addr → Prop} (h : Holds K H σ env As L) (k : ∀ a o, H a = some o → H' a = some o) : Pst K σ env H As L σ env H' As [] := by
  refine ⟨fun a o e _ => k a o e, fun a m => m.elim .inl (fun q => nomatch q), fun a e => ?_, fun a xs e => k a _ e, fun i s e _ => ⟨rfl, s.d, e, fun _ => ⟨rfl, rfl⟩⟩, ?_, List.nodup_nil, fun a m => nomatch m⟩
  · cases q : H a with
    | none => rfl
    | some o => rw [k a o q] at e; cases e
  · rw [plusL_nil]
    refine ⟨h.len, fun i s e => ?_, h.emp, h.nd, h.dj, fun i s e q a m => ⟨(h.ow i s e q a m).1, fun o' u z => ?_⟩, h.lo, fun a q => ?_⟩
    · obtain ⟨v, e1, r⟩ := h.rep i s e
      exact ⟨v, e1, r.to (fun p' u e n => ⟨k p' u e, n⟩) (fun p' xs e => k p' _ e) fun p' m u e => k p' u e⟩
    · obtain ⟨u1, e1, _⟩ := h.there m
      rw [k a _ e1] at z
      exact (h.ow i s e q a m).2 o' u (e1.trans z)
    · obtain ⟨u, e⟩ := h.lv a q
      exact ⟨u, k a u e⟩
/-- J hands out ds, whatever is done meanwhile -/
structure WalkOk (K : PySem.W.Frag) (σ : St) (env : En) (H : Hp) (As : Own) (L : Addr → Prop) (J : It) (ds : List D) : Prop where
  go : ∀ σ' env' H' As' B', Pst K σ env H As L σ' env' H' As' B' → ∀ i, i < ds.length → J.go i H'
  yl : ∀ σ' env' H' As' B', Pst K σ env H As L σ' env' H' As' B' → ∀ (i : Nat) d, ds[i]? = some d → ∀ x H'', J.yld i H' x H'' → Nm false H' H'' ∧ RepD K H'' (Fb As' (plusL L B')) x d
  st : ∀ σ' env' H' As' B', Pst K σ env H As L σ' env' H' As' B' → ∀ i, ds.length ≤ i → J.stop i H'
  len : ds.length ≤ sizeLine
abbrev SI := En → Option (List D × En)
def tI (K : PySem.W.Frag) (mu : Bool) (s : SI) : TI := fun σ H R => ∃ env ds env' As L, s env = some (ds, env') ∧ Holds K H σ env As L ∧
  ∀ J H' As', Pst K σ env H As L σ env' H' As' [] → Nm mu H H' → WalkOk K σ env' H' As' L J ds → R J H'
theorem _root_.L2.PI.wk {X : Cx} {tg e : Expr} {t t' : TI} (h : PI X tg e t) (w : ∀ σ H R, t' σ H R → t σ H R) : PI X tg e t' := ⟨fun pins s σ H R I q => h.run pins s σ H R I (w σ H R q)⟩
section
variable {X : Cx} {a b tg : Expr} {es : List Expr} {ma mb : Bool} {pos : Pos}
/-! ### lists and tuples that stay -/
theorem pi_sq {l : Expr} {tl : TE} (hl : PE X l tl) : PI X tg l (fun σ H R => tl σ H fun x H1 => ∃ a, x = .ref a ∧ ((∃ xs, SqL X.K H1 a xs ∧ (xs.length ≤ sizeLine → R (Itl X.K a) H1)) ∨ ∃ xs, SqT X.K H1 a xs ∧ (xs.length ≤ sizeLine → R (Itt X.K a) H1))) := by
  refine ⟨fun pins s σ H R I h => ?_⟩
  refine thn (hl.run pins s σ H _ I h) fun v s1 ⟨x, H1, I1, r1, q1⟩ => ?_
  obtain ⟨p, rfl, q⟩ := q1
  have hx : PE X l tl := hl
  rcases q with ⟨xs, hq, q⟩ | ⟨xs, hq, q⟩
  · cases r1
    obtain ⟨its, rv, pl, hz⟩ := I1.list hq
    refine wpAny_pyIter_list pl.isList ?_
    refine ⟨s1.heap.objs.size, [s1.heap.objs.size], _, _, H1, rfl, I1.kept (t' := s1.toks) fun b o e => Heap.get?_push_of_some _ e, turn_list p _, ⟨_, Heap.get?_push_size _ rfl, rfl, rfl⟩, fun b hb => ?_, q hz⟩
    have e : b = s1.heap.objs.size := by simpa using hb
    subst e
    exact I1.fpOk (Nat.le_refl _) (I1.hok.fresh (Nat.le_refl _))
  · cases r1
    obtain ⟨its, rv, pl, hz⟩ := I1.tuple hq
    refine wpAny_pyIter_tuple (show s1.heap.IsTuple p its.toArray from pl) ?_
    refine ⟨s1.heap.objs.size, [s1.heap.objs.size], _, _, H1, rfl, I1.kept (t' := s1.toks) fun b o e => Heap.get?_push_of_some _ e, turn_tuple p _, ⟨_, Heap.get?_push_size _ rfl, rfl, rfl⟩, fun b hb => ?_, q hz⟩
    have e : b = s1.heap.objs.size := by simpa using hb
    subst e
    exact I1.fpOk (Nat.le_refl _) (I1.hok.fresh (Nat.le_refl _))
def sIt (s : SL) : SI := fun env => match s env with
  | some ((_, ds), e) => some (ds, e)
  | none => none
theorem Pst.refl' {K : PySem.W.Frag} {σ : St} {env : En} {H : Hp} {As : Own} {L : Addr → Prop} {σ0 : St} {env0 : En} {H0 : Hp} {As0 : Own} {B : List Addr} (P : Pst K σ0 env0 H0 As0 L σ env H As B) : Pst K σ env H As (plusL L B) σ env H As [] := Pst.refl P.hd
theorem i_sq {s : SL} (h : PE X a (tL X.K ma true s)) : PI X tg a (tI X.K ma (sIt s)) := (pi_sq h).wk fun σ H R ⟨env, ds, env', As, L, e, hd, q⟩ => by
  unfold sIt at e
  split at e
  · rename_i t ds1 e1 h1
    cases e
    refine ⟨env, t, ds, env', As, L, h1, hd, fun p vs H1 As1 P n sq rs stay => ⟨p, rfl, ?_⟩⟩
    have keep : ∀ {σ' env' H' As' B'}, Pst X.K σ env' H1 As1 L σ' env' H' As' B' → True := fun _ => trivial
    cases t with
    | false =>
      refine .inl ⟨vs, SqL.of sq, fun hz => q _ H1 As1 P n ⟨fun σ' e' H' As' B' P' i hi => ?_, fun σ' e' H' As' B' P' i d hi x H'' y => ?_, fun σ' e' H' As' B' P' i hi => ?_, by rw [← rs.length]; exact hz⟩⟩
      · have sq' := stay rfl σ' e' H' As' B' P'
        exact ⟨vs, vs[i]'(by rw [rs.length]; exact hi), SqL.of sq', by simp⟩
      · have sq' := stay rfl σ' e' H' As' B' P'
        obtain ⟨rfl, y⟩ := y
        obtain ⟨v, hv, rv⟩ := (P'.keepDs rs).get hi
        have := y vs (SqL.of sq')
        rw [hv] at this
        cases this
        exact ⟨Nm.refl, rv⟩
      · exact ⟨vs, SqL.of (stay rfl σ' e' H' As' B' P'), by rw [rs.length]; exact hi⟩
    | true =>
      refine .inr ⟨vs, SqT.of sq, fun hz => q _ H1 As1 P n ⟨fun σ' e' H' As' B' P' i hi => ?_, fun σ' e' H' As' B' P' i d hi x H'' y => ?_, fun σ' e' H' As' B' P' i hi => ?_, by rw [← rs.length]; exact hz⟩⟩
      · have sq' := stay rfl σ' e' H' As' B' P'
        exact ⟨vs, vs[i]'(by rw [rs.length]; exact hi), SqT.of sq', by simp⟩
      · have sq' := stay rfl σ' e' H' As' B' P'
        obtain ⟨rfl, y⟩ := y
        obtain ⟨v, hv, rv⟩ := (P'.keepDs rs).get hi
        have := y vs (SqT.of sq')
        rw [hv] at this
        cases this
        exact ⟨Nm.refl, rv⟩
      · exact ⟨vs, SqT.of (stay rfl σ' e' H' As' B' P'), by rw [rs.length]; exact hi⟩
  · cases e
/-! ### ranges -/
def rgD (lo : Int) (n : Nat) : List D := (List.range n).map fun (k : Nat) => .int (lo + k)
theorem rgD_length (lo : Int) (n : Nat) : (rgD lo n).length = n := by unfold rgD; rw [List.length_map, List.length_range]
theorem rgD_get {lo : Int} {n i : Nat} {d : D} (h : (rgD lo n)[i]? = some d) : d = .int (lo + i) := by
  unfold rgD at h
  rw [List.getElem?_map] at h
  cases e : (List.range n)[i]? with
  | none => rw [e] at h; cases h
  | some k =>
    rw [e] at h
    have hk : k = i := by
      obtain ⟨hl, hk⟩ := List.getElem?_eq_some_iff.mp e
      rw [List.getElem_range] at hk
      exact hk.symm
    subst hk
    exact (Option.some.inj h).symm
theorem walk_rg {K : PySem.W.Frag} {σ : St} {env : En} {H : Hp} {As : Own} {L : Addr → Prop} (lo : Int) (n : Nat) (hn : n ≤ sizeLine) : WalkOk K σ env H As L (Itr lo n) (rgD lo n) :=
  ⟨fun _ _ _ _ _ _ i hi => by rw [rgD_length] at hi; exact hi, fun _ _ _ _ _ P i d hd x H'' ⟨e1, e2⟩ => by
    subst e1 e2
    rw [rgD_get hd]
    exact ⟨Nm.refl, .int _⟩, fun _ _ _ _ _ _ i hi => by rw [rgD_length] at hi; exact hi, by rw [rgD_length]; exact hn⟩
def sRg1 (p : SP) : SI := fun env => match p env with
  | some (.int n, e) => if -(2 ^ 62) ≤ n ∧ n ≤ 16777216 then some (rgD 0 n.toNat, e) else none
  | _ => none
theorem i_rg1 {s : SP} (h : PI X tg a (iRng1 (tCons (tP X.K ma s) tNil))) : PI X tg a (tI X.K ma (sRg1 s)) := h.wk fun σ H R ⟨env, ds, env', As, L, e, hd, q⟩ => by
  unfold sRg1 at e
  split at e
  · rename_i n e1 h1
    split at e
    · rename_i hb
      cases e
      exact ⟨env, .int n, env', As, L, h1, hd, fun v H1 As1 P nm r => ⟨n, by rw [intRep r], hb.1, by omega, q _ H1 As1 P nm (walk_rg 0 _ (show n.toNat ≤ 16777216 by omega))⟩⟩
    · cases e
  · cases e
def sRg2 (p r : SP) : SI := fun env => match p env with
  | some (.int i, e1) => match r e1 with
    | some (.int j, e) => if (-(2 ^ 62) ≤ i ∧ i < 2 ^ 62 ∧ -(2 ^ 62) ≤ j ∧ j < 2 ^ 62) ∧ j - i ≤ 16777216 then some (rgD i (j - i).toNat, e) else none
    | _ => none
  | _ => none
theorem i_rg2 {s u : SP} (h : PI X tg a (iRng2 (tCons (tP X.K ma s) (tCons (tP X.K mb u) tNil)))) : PI X tg a (tI X.K (ma || mb) (sRg2 s u)) := h.wk fun σ H R ⟨env, ds, env', As, L, e, hd, q⟩ => by
  unfold sRg2 at e
  split at e
  · rename_i i e1 h1
    split at e
    · rename_i j e2 h2
      split at e
      · rename_i hb
        cases e
        refine ⟨env, .int i, e1, As, L, h1, hd, fun v H1 As1 P nm r => ⟨e1, .int j, env', As1, L, h2, P.hd0, fun v2 H2 As2 P2 n2 r2 => ⟨i, j, by rw [intRep r, intRep r2], hb.1, q _ H2 As2 (P.seq P2) (nm.trans n2) (walk_rg i _ (show (j - i).toNat ≤ 16777216 by omega))⟩⟩⟩
      · cases e
    · cases e
  · cases e
/-- downward by ones -/
def dnD (hi : Int) (n : Nat) : List D := (List.range n).map fun (k : Nat) => .int (hi - k)
theorem dnD_length (lo : Int) (n : Nat) : (dnD lo n).length = n := by unfold dnD; rw [List.length_map, List.length_range]
theorem dnD_get {lo : Int} {n i : Nat} {d : D} (h : (dnD lo n)[i]? = some d) : d = .int (lo - i) := by
  unfold dnD at h
  rw [List.getElem?_map] at h
  cases e : (List.range n)[i]? with
  | none => rw [e] at h; cases h
  | some k =>
    rw [e] at h
    have hk : k = i := by
      obtain ⟨hl, hk⟩ := List.getElem?_eq_some_iff.mp e
      rw [List.getElem_range] at hk
      exact hk.symm
    subst hk
    exact (Option.some.inj h).symm
def sRgDn (p r c : SP) : SI := fun env => match p env with
  | some (.int i, e1) => match r e1 with
    | some (.int j, e2) => match c e2 with
      | some (.int k, e) => if k = -1 ∧ -(2 ^ 62) ≤ i ∧ i < 2 ^ 62 ∧ -(2 ^ 62) ≤ j ∧ j < 2 ^ 62 ∧ i - j ≤ 16777216 then some (dnD i (i - j).toNat, e) else none
      | _ => none
    | _ => none
  | _ => none
theorem i_rgdn {s u w : SP} (h : PI X tg a (iRng3 (tCons (tP X.K false s) (tCons (tP X.K false u) (tCons (tP X.K false w) tNil))))) : PI X tg a (tI X.K false (sRgDn s u w)) := h.wk fun σ H R ⟨env, ds, env', As, L, e, hd, q⟩ => by
  unfold sRgDn at e
  split at e
  · rename_i i e1 h1
    split at e
    · rename_i j e2 h2
      split at e
      · rename_i k e3 h3
        split at e
        · rename_i hb
          cases e
          refine ⟨env, .int i, e1, As, L, h1, hd, fun v H1 As1 P nm r => ⟨e1, .int j, e2, As1, L, h2, P.hd0, fun v2 H2 As2 P2 n2 r2 => ⟨e2, .int k, env', As2, L, h3, P2.hd0, fun v3 H3 As3 P3 n3 r3 => ?_⟩⟩⟩
          obtain ⟨hk, b1, b2, b3, b4, b5⟩ := hb
          subst hk
          refine ⟨i, j, -1, (i - j).toNat, by rw [intRep r, intRep r2, intRep r3], RgC.neg b1 b2 b3 b4, q _ H3 As3 ((P.seq P2).seq P3) ((nm.trans n2).trans n3) ?_⟩
          refine ⟨fun _ _ _ _ _ _ i hi => by rw [dnD_length] at hi; exact hi, fun _ _ _ _ _ P m d hd x H'' ⟨z1, z2⟩ => ?_, fun _ _ _ _ _ _ i hi => by rw [dnD_length] at hi; exact hi, by rw [dnD_length]; exact (show (i - j).toNat ≤ 16777216 by omega)⟩
          subst z1 z2
          rw [dnD_get hd, show i + (m : Int) * -1 = i - m by omega]
          exact ⟨Nm.refl, .int _⟩
        · cases e
      · cases e
    · cases e
  · cases e

/-! ### names forgotten -/
def clr : List Nat → En → Option En
  | [], e => some e
  | i :: cl, e => match e[i]? with
    | some (some s) => if s.m = 0 then clr cl (e.set i none) else none
    | _ => clr cl e
theorem Pst.clr {K : PySem.W.Frag} {σ σ1 : St} {env env2 : En} {H H1 : Hp} {As : Own} {L : Addr → Prop} : ∀ {cl : List Nat} {env1 : En} {As1 : Own}, Pst K σ env H As L σ1 env1 H1 As1 [] → clr cl env1 = some env2 → ∃ As2, Pst K σ env H As L σ1 env2 H1 As2 []
  | [], env1, As1, P, h => by cases h; exact ⟨As1, P⟩
  | i :: cl, env1, As1, P, h => by
    unfold Ev.clr at h
    split at h
    · rename_i s hs
      split at h
      · rename_i hm
        obtain ⟨R, _⟩ := P.hd0.give hs hm
        exact Pst.clr (P.seq R.drop0) h
      · cases h
    · exact Pst.clr P h

/-! ### for -/
def sLoop (g : SG) (b : SS) (cl : List Nat) : List D → En → Option Rs
  | [], e => some (.nx e)
  | d :: ds, e => match g (d, 0) e with
    | some e1 => match b e1 with
      | some (.nx e2) => match clr cl e2 with
        | some e3 => sLoop g b cl ds e3
        | none => none
      | some (.ct e2) => match clr cl e2 with
        | some e3 => sLoop g b cl ds e3
        | none => none
      | some (.bk e2) => (clr cl e2).map .nx
      | some (.ret r e2) => some (.ret r e2)
      | none => none
    | none => none
def sFor (s : SI) (g : SG) (b : SS) (cl : List Nat) : SS := fun env => match s env with
  | some (ds, e) => sLoop g b cl ds e
  | none => none
/-- the turns, J handing out ds -/
theorem for_core {Dn : Ends} {σ : St} {env e1 : En} {H H1 : Hp} {As As1 : Own} {L : Addr → Prop} {J : It} {ds : List D} {r : Rs} {ts : List Nat} {g : SG} {bb : SS} {cl : List Nat} (P1 : Pst X.K σ env H As L σ e1 H1 As1 []) (W : WalkOk X.K σ e1 H1 As1 L J ds) (e : sLoop g bb cl ds e1 = some r) (q : EndS X.K σ env H As L Dn r) :
    ∃ W : Nat → Nat → St → Hp → Prop, (∃ m, W 0 m σ H1) ∧ ∀ i m σ H, W i m σ H → (J.stop i H ∧ Dn.nx σ H) ∨ (J.go i H ∧ ∃ N : St → Hp → Prop, (∀ σ' H', N σ' H' → ∃ m', m' < m ∧ W (i + 1) m' σ' H') ∧ ∀ x H', J.yld i H x H' → tG X.K mb ts g x σ H' fun σ2 H2 => tS X.K bb { Dn with nx := N, ct := N, bk := Dn.nx } σ2 H2) := by
  have q1 := q.after P1
  refine ⟨fun i m σ' H' => ∃ ei Ai, m = ds.length - i ∧ i ≤ ds.length ∧ Pst X.K σ e1 H1 As1 L σ' ei H' Ai [] ∧ sLoop g bb cl (ds.drop i) ei = some r, ⟨_, e1, As1, rfl, Nat.zero_le _, Pst.refl P1.hd0, e⟩, ?_⟩
  rintro i m σi Hi ⟨ei, Ai, rfl, hi, Pi, el⟩
  by_cases hlt : i < ds.length
  · refine .inr ⟨W.go _ _ _ _ _ Pi i hlt, _, fun σ' H' z => z, fun x H'' y => ?_⟩
    have hdi : ds[i]? = some ds[i] := List.getElem?_eq_getElem hlt
    obtain ⟨ny, rx⟩ := W.yl _ _ _ _ _ Pi i _ hdi x H'' y
    have Py := Pst.grow Pi.hd0 (ny rfl)
    have ed : ds.drop i = ds[i] :: ds.drop (i + 1) := List.drop_eq_getElem_cons hlt
    rw [ed] at el
    unfold sLoop at el
    split at el
    · rename_i e2 hg
      rw [plusL_nil] at rx
      have Pi2 := Pi.seq Py
      refine ⟨σ, e1, H1, As1, L, ei, (ds[i], 0), e2, Ai, [], hg, Pi2, .zero (by rw [plusL_nil]; exact rx), fun σ2 H2 As2 P2 _ _ => ?_⟩
      have again : ∀ {e3 e4 : En}, clr cl e3 = some e4 → sLoop g bb cl (ds.drop (i + 1)) e4 = some r → ∀ σ' H' As', Pst X.K σ2 e2 H2 As2 L σ' e3 H' As' [] → ∃ m', m' < ds.length - i ∧ ∃ ej Aj, m' = ds.length - (i + 1) ∧ i + 1 ≤ ds.length ∧ Pst X.K σ e1 H1 As1 L σ' ej H' Aj [] ∧ sLoop g bb cl (ds.drop (i + 1)) ej = some r := fun {e3 e4} hc hl σ' H' As' R => by
        obtain ⟨As4, R4⟩ := Pst.clr (P2.seq R) hc
        exact ⟨_, by omega, e4, As4, rfl, hlt, R4, hl⟩
      split at el
      · rename_i e3 hb
        split at el
        · rename_i e4 hc
          exact ⟨e2, _, As2, L, hb, P2.hd0, fun σ' H' As' R => again hc el σ' H' As' R⟩
        · cases el
      · rename_i e3 hb
        split at el
        · rename_i e4 hc
          exact ⟨e2, _, As2, L, hb, P2.hd0, fun σ' H' As' R => again hc el σ' H' As' R⟩
        · cases el
      · rename_i e3 hb
        cases hc : clr cl e3 with
        | none => rw [hc] at el; cases el
        | some e4 =>
          rw [hc] at el
          cases el
          refine ⟨e2, _, As2, L, hb, P2.hd0, fun σ' H' As' R => ?_⟩
          obtain ⟨As4, R4⟩ := Pst.clr (P2.seq R) hc
          exact q1 σ' H' As4 R4
      · rename_i rr e3 hb
        cases el
        exact ⟨e2, _, As2, L, hb, P2.hd0, fun v σ' H' As' B R ro => q1 v σ' H' As' B (P2.seq R) ro⟩
      · cases el
    · cases el
  · have ei' : i = ds.length := by omega
    refine .inl ⟨W.st _ _ _ _ _ Pi i (by omega), ?_⟩
    rw [ei', List.drop_length] at el
    cases el
    exact q1 _ _ _ Pi
theorem s_for {st : Stmt} {s : SI} {ts : List Nat} {g : SG} {bb : SS} (cl : List Nat) (h : PS X st (tFor (tI X.K ma s) (tG X.K mb ts g) (tS X.K bb))) : PS X st (tS X.K (sFor s g bb cl)) := h.wk fun D σ H ⟨env, r, As, L, e, hd, q⟩ => by
  unfold sFor at e
  split at e
  · rename_i ds e1 h1
    exact ⟨env, ds, e1, As, L, h1, hd, fun J H1 As1 P1 n1 W => for_core P1 W e q⟩
  · cases e

/-! ### while -/
def sWh (c : ST) (b : SS) (cl : List Nat) : Nat → En → Option Rs
  | 0, _ => none
  | n + 1, e => match c e with
    | some (false, e1) => some (.nx e1)
    | some (true, e1) => match b e1 with
      | some (.nx e2) => match clr cl e2 with
        | some e3 => sWh c b cl n e3
        | none => none
      | some (.ct e2) => match clr cl e2 with
        | some e3 => sWh c b cl n e3
        | none => none
      | some (.bk e2) => (clr cl e2).map .nx
      | some (.ret r e2) => some (.ret r e2)
      | none => none
    | none => none
open Classical in
noncomputable def sWhile (c : ST) (b : SS) (cl : List Nat) : SS := fun env => if h : ∃ r n, sWh c b cl n env = some r then some (Classical.choose h) else none
theorem sWh_more {c : ST} {b : SS} {cl : List Nat} : ∀ {n : Nat} {e : En} {r : Rs} (k : Nat), sWh c b cl n e = some r → sWh c b cl (n + k) e = some r
  | 0, e, r, k, h => by cases h
  | n + 1, e, r, k, h => by
    rw [Nat.add_right_comm]
    unfold sWh at h ⊢
    split at h
    · exact h
    · split at h
      · split at h
        · exact sWh_more k h
        · cases h
      · split at h
        · exact sWh_more k h
        · cases h
      · exact h
      · exact h
      · cases h
    · cases h
theorem sWh_det {c : ST} {b : SS} {cl : List Nat} {n m : Nat} {e : En} {r r' : Rs} (h : sWh c b cl n e = some r) (h' : sWh c b cl m e = some r') : r = r' := by
  have h1 := sWh_more m h
  have h2 := sWh_more n h'
  rw [Nat.add_comm] at h2
  exact Option.some.inj (h1.symm.trans h2)
theorem sWhile_eq {c : ST} {b : SS} {cl : List Nat} {n : Nat} {e : En} {r : Rs} (h : sWh c b cl n e = some r) : sWhile c b cl e = some r := by
  unfold sWhile
  have hx : ∃ r n, sWh c b cl n e = some r := ⟨r, n, h⟩
  rw [dif_pos hx]
  obtain ⟨m, hm⟩ := Classical.choose_spec hx
  rw [sWh_det h hm]
theorem sWhile_some {c : ST} {b : SS} {cl : List Nat} {e : En} {r : Rs} (h : sWhile c b cl e = some r) : ∃ n, sWh c b cl n e = some r := by
  unfold sWhile at h
  split at h
  · rename_i hx
    cases h
    exact Classical.choose_spec hx
  · cases h
theorem s_while {st : Stmt} {c : ST} {bb : SS} (cl : List Nat) (h : PS X st (tWhile (tT X.K ma c) (tS X.K bb))) : PS X st (tS X.K (sWhile c bb cl)) := h.wk fun D σ H ⟨env, r, As, L, e, hd, q⟩ => by
  obtain ⟨n0, e0⟩ := sWhile_some e
  refine ⟨fun m σ' H' => ∃ ei Ai, Pst X.K σ env H As L σ' ei H' Ai [] ∧ sWh c bb cl m ei = some r, ⟨n0, env, As, Pst.refl hd, e0⟩, ?_⟩
  rintro m σi Hi ⟨ei, Ai, Pi, el⟩
  cases m with
  | zero => cases el
  | succ m =>
    unfold sWh at el
    split at el
    · rename_i e1 hc
      cases el
      exact ⟨ei, false, e1, Ai, L, hc, Pi.hd0, fun H1 As1 P1 _ => iteF (q _ _ _ (Pi.seq P1))⟩
    · rename_i e1 hc
      refine ⟨ei, true, e1, Ai, L, hc, Pi.hd0, fun H1 As1 P1 _ => iteT ?_⟩
      have PP := Pi.seq P1
      refine ⟨_, fun σ' H' z => z, ?_⟩
      have again : ∀ {e3 e4 : En}, clr cl e3 = some e4 → sWh c bb cl m e4 = some r → ∀ σ' H' As', Pst X.K σi e1 H1 As1 L σ' e3 H' As' [] → ∃ m', m' < m + 1 ∧ ∃ ej Aj, Pst X.K σ env H As L σ' ej H' Aj [] ∧ sWh c bb cl m' ej = some r := fun {e3 e4} hcl hl σ' H' As' R => by
        obtain ⟨As4, R4⟩ := Pst.clr (PP.seq R) hcl
        exact ⟨m, Nat.lt_succ_self _, e4, As4, R4, hl⟩
      split at el
      · rename_i e3 hb
        split at el
        · rename_i e4 hcl
          exact ⟨e1, _, As1, L, hb, PP.hd0, fun σ' H' As' R => again hcl el σ' H' As' R⟩
        · cases el
      · rename_i e3 hb
        split at el
        · rename_i e4 hcl
          exact ⟨e1, _, As1, L, hb, PP.hd0, fun σ' H' As' R => again hcl el σ' H' As' R⟩
        · cases el
      · rename_i e3 hb
        cases hcl : clr cl e3 with
        | none => rw [hcl] at el; cases el
        | some e4 =>
          rw [hcl] at el
          cases el
          refine ⟨e1, _, As1, L, hb, PP.hd0, fun σ' H' As' R => ?_⟩
          obtain ⟨As4, R4⟩ := Pst.clr (PP.seq R) hcl
          exact q σ' H' As4 R4
      · rename_i rr e3 hb
        cases el
        exact ⟨e1, _, As1, L, hb, PP.hd0, fun v σ' H' As' B R ro => q v σ' H' As' B (PP.seq R) ro⟩
      · cases el
    · cases el
end
end Ev
set_option Elab.async false
set_option linter.all false
set_option autoImplicit false
set_option maxRecDepth 100000
set_option maxHeartbeats 4000000
/-! Ev11: list comprehensions. -/
namespace Ev
open PySem PySem.Spec L2

/-! ### some names hidden -/
def wipeE (env : En) : List Nat → En
  | [] => env
  | v :: vs => (wipeE env vs).set v none
theorem wipeE_length (env : En) : ∀ vs : List Nat, (wipeE env vs).length = env.length
  | [] => rfl
  | v :: vs => by unfold wipeE; rw [List.length_set, wipeE_length env vs]
theorem wipeE_get {env : En} : ∀ {vs : List Nat} {j : Nat}, (wipeE env vs)[j]? = if j ∈ vs then (if j < env.length then some none else none) else env[j]?
  | [], j => by simp [wipeE]
  | v :: vs, j => by
    unfold wipeE
    by_cases e : v = j
    · subst e
      rw [if_pos (List.mem_cons_self ..), List.getElem?_set]
      rw [wipeE_length]
      simp
    · rw [List.getElem?_set_ne e, wipeE_get (vs := vs)]
      have : (j ∈ v :: vs) ↔ j ∈ vs := by
        rw [List.mem_cons]
        exact ⟨fun h => h.resolve_left fun z => e z.symm, .inr⟩
      simp only [this]
/-- put back -/
def restE (env0 env1 : En) : List Nat → En
  | [] => env1
  | v :: vs => (restE env0 env1 vs).set v (env0[v]?.getD none)
theorem restE_length (env0 env1 : En) : ∀ vs : List Nat, (restE env0 env1 vs).length = env1.length
  | [] => rfl
  | v :: vs => by unfold restE; rw [List.length_set, restE_length env0 env1 vs]
theorem restE_get {env0 env1 : En} (hl : env0.length = env1.length) : ∀ {vs : List Nat} {j : Nat}, (restE env0 env1 vs)[j]? = if j ∈ vs then env0[j]? else env1[j]?
  | [], j => by simp [restE]
  | v :: vs, j => by
    unfold restE
    by_cases e : v = j
    · subst e
      rw [if_pos (List.mem_cons_self ..), List.getElem?_set]
      rw [restE_length]
      by_cases h : v < env1.length
      · have h0 : v < env0.length := by omega
        simp [h, h0]
      · have h0 : ¬ v < env0.length := by omega
        rw [if_pos rfl, if_neg h, List.getElem?_eq_none (by omega)]
    · rw [List.getElem?_set_ne e, restE_get hl (vs := vs)]
      have : (j ∈ v :: vs) ↔ j ∈ vs := by
        rw [List.mem_cons]
        exact ⟨fun h => h.resolve_left fun z => e z.symm, .inr⟩
      simp only [this]
def hidA (As : Own) (vs : List Nat) : Own := fun j => if j ∈ vs then [] else As j
def hidL (L : Addr → Prop) (As : Own) (vs : List Nat) : Addr → Prop := fun a => L a ∨ ∃ j, j ∈ vs ∧ a ∈ As j
def unA (As As1 : Own) (vs : List Nat) : Own := fun j => if j ∈ vs then As j else As1 j
section
variable {K : PySem.W.Frag} {σ : St} {env env1 : En} {H H1 : Hp} {As As1 : Own} {L : Addr → Prop} {vs : List Nat} {B : List Addr}
theorem hid_mem {As : Own} {vs : List Nat} {j : Nat} {a : Addr} (h : a ∈ hidA As vs j) : j ∉ vs ∧ a ∈ As j := by
  unfold hidA at h
  by_cases m : j ∈ vs
  · rw [if_pos m] at h; nomatch h
  · rw [if_neg m] at h; exact ⟨m, h⟩
theorem hid_in {As : Own} {vs : List Nat} {j : Nat} {a : Addr} (m : j ∉ vs) (h : a ∈ As j) : a ∈ hidA As vs j := by
  unfold hidA; rw [if_neg m]; exact h
theorem hidF {a : Addr} : Fb (hidA As vs) (hidL L As vs) a → Fb As L a := fun h => by
  rcases h with ⟨j, h⟩ | h | ⟨j, _, h⟩
  · exact .inl ⟨j, (hid_mem h).2⟩
  · exact .inr h
  · exact .inl ⟨j, h⟩
theorem Holds.hide (h : Holds K H σ env As L) (vs : List Nat) : Holds K H (wipe σ vs) (wipeE env vs) (hidA As vs) (hidL L As vs) := by
  have get : ∀ {i : Nat} {s : Slot}, (wipeE env vs)[i]? = some (some s) → i ∉ vs ∧ env[i]? = some (some s) := fun {i s} e => by
    rw [wipeE_get] at e
    by_cases m : i ∈ vs
    · rw [if_pos m] at e; split at e <;> cases e
    · rw [if_neg m] at e; exact ⟨m, e⟩
  refine ⟨by rw [wipe_length, wipeE_length]; exact h.len, fun i s e => ?_, fun i e => ?_, fun i => ?_, fun i j a m1 m2 => h.dj i j a (hid_mem m1).2 (hid_mem m2).2, fun i s e n a m => ?_, fun i s e n a m => ?_, fun a q => ?_⟩
  · obtain ⟨m, e⟩ := get e
    obtain ⟨v, ev, r⟩ := h.rep i s e
    refine ⟨v, by rw [wipe_get, if_neg m]; exact ev, ?_⟩
    have : hidA As vs i = As i := by unfold hidA; rw [if_neg m]
    rw [this]
    exact r.anti fun a => hidF
  · unfold hidA
    by_cases m : i ∈ vs
    · rw [if_pos m]
    · rw [if_neg m]
      refine h.emp i fun s z => e s ?_
      rw [wipeE_get, if_neg m]; exact z
  · unfold hidA
    by_cases m : i ∈ vs
    · rw [if_pos m]; exact List.nodup_nil
    · rw [if_neg m]; exact h.nd i
  · obtain ⟨mi, e⟩ := get e
    have w := h.ow i s e n a (hid_mem m).2
    refine ⟨fun z => ?_, w.2⟩
    rcases z with z | ⟨j, mj, z⟩
    · exact w.1 z
    · exact mi (h.dj j i a z (hid_mem m).2 ▸ mj)
  · obtain ⟨mi, e⟩ := get e
    exact .inl (h.lo i s e n a (hid_mem m).2)
  · rcases q with q | ⟨j, _, q⟩
    · exact h.lv a q
    · obtain ⟨o, e, _⟩ := h.there q
      exact ⟨o, e⟩
theorem Pst.unhide (h : Holds K H σ env As L) (P : Pst K (wipe σ vs) (wipeE env vs) H (hidA As vs) (hidL L As vs) (wipe σ vs) env1 H1 As1 B) (hv : ∀ j ∈ vs, ∀ s, env1[j]? ≠ some (some s)) : Pst K σ env H As L σ (restE env env1 vs) H1 (unA As As1 vs) B := by
  have hl : env.length = env1.length := by rw [← h.len, ← P.hd.len, wipe_length]
  have un_mem : ∀ {j a}, a ∈ unA As As1 vs j → (j ∈ vs ∧ a ∈ As j) ∨ (j ∉ vs ∧ a ∈ As1 j) := fun {j a} m => by
    unfold unA at m
    by_cases z : j ∈ vs
    · rw [if_pos z] at m; exact .inl ⟨z, m⟩
    · rw [if_neg z] at m; exact .inr ⟨z, m⟩
  have toF : ∀ a, Fb (unA As As1 vs) (plusL L B) a → Fb As1 (plusL (hidL L As vs) B) a := fun a q => by
    rcases q with ⟨j, q⟩ | q | q
    · rcases un_mem q with ⟨z, q⟩ | ⟨z, q⟩
      · exact .inr (.inl (.inr ⟨j, z, q⟩))
      · exact .inl ⟨j, q⟩
    · exact .inr (.inl (.inl q))
    · exact .inr (.inr q)
  have toFh : ∀ a, Fb (hidA As vs) (hidL L As vs) a ↔ Fb As L a := fun a => ⟨hidF, fun q => by
    rcases q with ⟨j, q⟩ | q
    · by_cases z : j ∈ vs
      · exact .inr (.inr ⟨j, z, q⟩)
      · exact .inl ⟨j, hid_in z q⟩
    · exact .inr (.inl q)⟩
  have old : ∀ {j a}, j ∈ vs → a ∈ As j → ∀ i, a ∉ As1 i := fun {j a} z m i m' => by
    obtain ⟨o, e, _⟩ := h.there m
    rcases P.nw a (.inl ⟨i, m'⟩) with ⟨k, w⟩ | w
    · have hk := hid_mem w
      exact hk.1 (h.dj k j a hk.2 m ▸ z)
    · rw [e] at w; cases w
  have oldB : ∀ {j a}, j ∈ vs → a ∈ As j → a ∉ B := fun {j a} z m m' => (P.bo a m').1 (.inr ⟨j, z, m⟩)
  refine ⟨fun a o e c => P.fr a o e ?_, fun a m => ?_, P.tr, P.tu, fun i s e n => ?_, ?_, P.bn, fun a m => ?_⟩
  · rcases c with c | c
    · exact .inl (.inl c)
    · exact .inr fun i m => c i (hid_mem m).2
  · have go : (∃ i, a ∈ hidA As vs i) ∨ H a = none → (∃ i, a ∈ As i) ∨ H a = none := fun q => q.imp (fun ⟨i, w⟩ => ⟨i, (hid_mem w).2⟩) id
    rcases m with ⟨i, m⟩ | m
    · rcases un_mem m with ⟨z, m⟩ | ⟨z, m⟩
      · exact .inl ⟨i, m⟩
      · exact go (P.nw a (.inl ⟨i, m⟩))
    · exact go (P.nw a (.inr m))
  · refine ⟨rfl, ?_⟩
    rw [restE_get hl]
    by_cases z : i ∈ vs
    · rw [if_pos z]
      refine ⟨s.d, e, fun _ => ⟨rfl, ?_⟩⟩
      unfold unA; rw [if_pos z]
    · rw [if_neg z]
      have e2 : (wipeE env vs)[i]? = some (some s) := by rw [wipeE_get, if_neg z]; exact e
      obtain ⟨_, d', e3, l3⟩ := P.fx i s e2 n
      refine ⟨d', e3, fun w => ⟨(l3 w).1, ?_⟩⟩
      unfold unA; rw [if_neg z, (l3 w).2]
      unfold hidA; rw [if_neg z]
  · refine ⟨by rw [restE_length]; exact h.len.trans hl, fun i s e => ?_, fun i e => ?_, fun i => ?_, fun i j a m1 m2 => ?_, fun i s e n a m => ?_, fun i s e n a m => ?_, fun a q => ?_⟩
    · rw [restE_get hl] at e
      by_cases z : i ∈ vs
      · rw [if_pos z] at e
        obtain ⟨v, ev, r⟩ := h.rep i s e
        refine ⟨v, ev, ?_⟩
        have : unA As As1 vs i = As i := by unfold unA; rw [if_pos z]
        rw [this]
        have r1 : RepO K H (Fb (hidA As vs) (hidL L As vs)) s.k v s.d (As i) := r.anti fun a => (toFh a).mp
        exact (P.keepO r1 fun a m => .inr ⟨i, z, m⟩).anti toF
      · rw [if_neg z] at e
        obtain ⟨v, ev, r⟩ := P.hd.rep i s e
        rw [wipe_get, if_neg z] at ev
        refine ⟨v, ev, ?_⟩
        have : unA As As1 vs i = As1 i := by unfold unA; rw [if_neg z]
        rw [this]
        exact r.anti toF
    · unfold unA
      by_cases z : i ∈ vs
      · rw [if_pos z]
        refine h.emp i fun s w => e s ?_
        rw [restE_get hl, if_pos z]; exact w
      · rw [if_neg z]
        refine P.hd.emp i fun s w => e s ?_
        rw [restE_get hl, if_neg z]; exact w
    · unfold unA
      by_cases z : i ∈ vs
      · rw [if_pos z]; exact h.nd i
      · rw [if_neg z]; exact P.hd.nd i
    · rcases un_mem m1 with ⟨z1, m1⟩ | ⟨z1, m1⟩ <;> rcases un_mem m2 with ⟨z2, m2⟩ | ⟨z2, m2⟩
      · exact h.dj i j a m1 m2
      · exact absurd m2 (old z1 m1 j)
      · exact absurd m1 (old z2 m2 i)
      · exact P.hd.dj i j a m1 m2
    · rw [restE_get hl] at e
      rcases un_mem m with ⟨z, m⟩ | ⟨z, m⟩
      · rw [if_pos z] at e
        have w := h.ow i s e n a m
        refine ⟨fun q => q.elim w.1 (oldB z m), fun o u q => ?_⟩
        obtain ⟨o1, e1, _⟩ := h.there m
        rw [P.fr a o1 e1 (.inl (.inr ⟨i, z, m⟩))] at q
        exact w.2 o u (e1.trans q)
      · rw [if_neg z] at e
        have w := P.hd.ow i s e n a m
        exact ⟨fun q => w.1 (q.imp .inl id), w.2⟩
    · rw [restE_get hl] at e
      rcases un_mem m with ⟨z, m⟩ | ⟨z, m⟩
      · rw [if_pos z] at e
        exact .inl (h.lo i s e n a m)
      · rw [if_neg z] at e
        rcases P.hd.lo i s e n a m with (q | ⟨j, zj, q⟩) | q
        · exact .inl q
        · exact absurd m (old zj q i)
        · exact .inr q
    · exact P.hd.lv a (q.imp .inl id)
  · have w := P.bo a m
    refine ⟨fun q => w.1 (.inl q), fun i m' => ?_, w.2.2⟩
    rcases un_mem m' with ⟨z, m'⟩ | ⟨z, m'⟩
    · exact oldB z m' m
    · exact w.2.1 i m'
/-- the value that is being made changes -/
theorem Pst.tmut {σ0 : St} {env0 : En} {H0 : Hp} {As0 : Own} (P : Pst K σ0 env0 H0 As0 L σ env H As B) {q : Addr} {o' : HO} (hq : q ∈ B) (nt : ∀ xs, H q ≠ some (.tup xs)) (nf : ∀ ob u, o' ≠ .frz ob u) {C : List Addr} (hC : ∀ a ∈ C, a ∈ B) (hn : C.Nodup) :
    Pst K σ0 env0 H0 As0 L σ env (upd H q o') As C := by
  have w := P.bo q hq
  have keep : ∀ a o, H a = some o → a ≠ q → upd H q o' a = some o := fun a o e n => by rw [upd_ne n]; exact e
  have sub : ∀ a, Fb As (plusL L C) a → Fb As (plusL L B) a := fun a z => by
    rcases z with z | z | z
    · exact .inl z
    · exact .inr (.inl z)
    · exact .inr (.inr (hC a z))
  refine ⟨fun a o e c => ?_, fun a m => P.nw a (m.imp id (hC a)), fun a e => ?_, fun a xs e => ?_, P.fx, ?_, hn, fun a m => ⟨(P.bo a (hC a m)).1, (P.bo a (hC a m)).2.1, fun ob u z => ?_⟩⟩
  · refine keep a o (P.fr a o e c) fun z => ?_
    subst z
    rcases c with c | c
    · exact w.1 c
    · exact (P.fresh e c).2 hq
  · by_cases z : a = q
    · rw [z, upd_same] at e; cases e
    · rw [upd_ne z] at e; exact P.tr a e
  · have e1 := P.tu a xs e
    exact keep a _ e1 fun z => by subst z; exact nt xs e1
  · refine ⟨P.hd.len, fun i s e => ?_, P.hd.emp, P.hd.nd, P.hd.dj, fun i s e n a m => ⟨fun z => (P.hd.ow i s e n a m).1 (z.imp id (hC a)), fun ob u z => ?_⟩, fun i s e n a m => ?_, fun a z => ?_⟩
    · obtain ⟨v, ev, r⟩ := P.hd.rep i s e
      refine ⟨v, ev, r.to (fun p o e n => ⟨keep p o e fun z => n (by subst z; exact .inr (.inr hq)), fun z => n (sub p z)⟩) (fun p xs e => keep p _ e fun z => by subst z; exact nt xs e) fun p m o e => keep p o e fun z => by subst z; exact w.2.1 i m⟩
    · rw [upd_ne (fun y => by subst y; exact w.2.1 i m)] at z
      exact (P.hd.ow i s e n a m).2 ob u z
    · rcases P.hd.lo i s e n a m with z | z
      · exact .inl z
      · exact absurd m ((P.bo a z).2.1 i)
    · obtain ⟨o, e⟩ := P.hd.lv a (z.imp id (hC a))
      by_cases y : a = q
      · exact ⟨o', by rw [y, upd_same]⟩
      · exact ⟨o, keep a o e y⟩
  · by_cases y : a = q
    · rw [y, upd_same] at z; exact nf ob u (Option.some.inj z)
    · rw [upd_ne y] at z; exact (P.bo a (hC a m)).2.2 ob u z
end
end Ev
set_option Elab.async false
set_option linter.all false
set_option autoImplicit false
set_option maxRecDepth 100000
set_option maxHeartbeats 4000000
/-! Ev12: list comprehensions, the rule. -/
namespace Ev
open PySem PySem.Spec L2

def freeAll (vs : List Nat) (e : En) : Bool := vs.all fun j => match e[j]? with
  | some (some s) => s.m == 0
  | _ => true
theorem Pst.wipe {K : PySem.W.Frag} {σ σ1 : St} {env env1 : En} {H H1 : Hp} {As As1 : Own} {L : Addr → Prop} {B : List Addr} {vs : List Nat} (P : Pst K σ env H As L σ1 env1 H1 As1 B) (h : freeAll vs env1 = true) : Pst K σ env H As L (L2.wipe σ1 vs) (wipeE env1 vs) H1 (hidA As1 vs) B := by
  have free : ∀ {i : Nat} {s : Slot}, i ∈ vs → env1[i]? = some (some s) → s.m = 0 := fun {i s} m e => by
    have := List.all_eq_true.mp h i m
    rw [e] at this
    simpa using this
  have get : ∀ {i : Nat} {s : Slot}, (wipeE env1 vs)[i]? = some (some s) → i ∉ vs ∧ env1[i]? = some (some s) := fun {i s} e => by
    rw [wipeE_get] at e
    by_cases m : i ∈ vs
    · rw [if_pos m] at e; split at e <;> cases e
    · rw [if_neg m] at e; exact ⟨m, e⟩
  refine ⟨P.fr, fun a m => P.nw a (m.imp (fun ⟨i, w⟩ => ⟨i, (hid_mem w).2⟩) id), P.tr, P.tu, fun i s e n => ?_, ?_, P.bn, fun a m => ⟨(P.bo a m).1, fun i w => (P.bo a m).2.1 i (hid_mem w).2, (P.bo a m).2.2⟩⟩
  · obtain ⟨h1, d', e1, l1⟩ := P.fx i s e n
    have mi : i ∉ vs := fun m => by
      have := free m e1
      exact n this
    refine ⟨by rw [wipe_get, if_neg mi]; exact h1, d', by rw [wipeE_get, if_neg mi]; exact e1, fun w => ⟨(l1 w).1, ?_⟩⟩
    unfold hidA; rw [if_neg mi]; exact (l1 w).2
  · refine (P.hd.hide vs).fewer (fun a q => .inl q) fun i s e n a m => ?_
    obtain ⟨mi, e⟩ := get e
    exact P.hd.lo i s e n a (hid_mem m).2
theorem Pst.keepOs {K : PySem.W.Frag} {σ σ1 : St} {env env1 : En} {H H1 : Hp} {As As1 : Own} {L : Addr → Prop} {B : List Addr} (P : Pst K σ env H As L σ1 env1 H1 As1 B) {k : Nat} {v : List V} {d : List D} {C : List Addr} (r : RepOs K H (Fb As L) k v d C) (hC : ∀ a ∈ C, L a) : RepOs K H1 (Fb As1 (plusL L B)) k v d C :=
  r.to (fun p o e n => by
    have n1 : ∀ i, p ∉ As i := fun i m => n (.inl ⟨i, m⟩)
    have n2 : ¬ L p := fun m => n (.inr m)
    refine ⟨P.fr p o e (.inr n1), fun q => ?_⟩
    rcases q with ⟨i, m⟩ | m | m
    · exact (P.fresh e n1).1 i m
    · exact n2 m
    · exact (P.fresh e n1).2 m) P.tu fun p m o e => P.fr p o e (.inl (hC p m))
/-- the turns of a comprehension: j levels of the items are owned -/
def sCLoop (j : Nat) (g : SG) (c : ST) (el : SE) (vs : List Nat) : List D → List D → En → Option (List D × En)
  | [], acc, e => some (acc, e)
  | d :: ds, acc, e => match g (d, 0) e with
    | some e1 => match c e1 with
      | some (false, e2) => if freeAll vs e2 = true then sCLoop j g c el vs ds acc (wipeE e2 vs) else none
      | some (true, e2) => match el e2 with
        | some (r, e3) => if freeAll vs e3 = true ∧ fitsJ j r = true then sCLoop j g c el vs ds (acc ++ [r.1]) (wipeE e3 vs) else none
        | none => none
      | none => none
    | none => none
def sComp (j : Nat) (it : SI) (g : SG) (c : ST) (el : SE) (vs : List Nat) : SE := fun env => match it env with
  | some (ds, e1) => match sCLoop j g c el vs ds [] (wipeE e1 vs) with
    | some (acc, e2) => some ((.lst acc, j + 1), restE e1 e2 vs)
    | none => none
  | none => none
def sYes : ST := fun env => some (true, env)
theorem wipe_wipe (σ : St) (vs : List Nat) : L2.wipe (L2.wipe σ vs) vs = L2.wipe σ vs := by
  apply List.ext_getElem?
  intro j
  rw [wipe_get, wipe_get, wipe_length]
  by_cases m : j ∈ vs
  · rw [if_pos m, if_pos m]
  · rw [if_neg m, if_neg m]
theorem wipeE_none {env : En} {vs : List Nat} : ∀ j ∈ vs, ∀ s, (wipeE env vs)[j]? ≠ some (some s) := fun j m s e => by
  rw [wipeE_get, if_pos m] at e
  split at e <;> cases e
section
variable {X : Cx} {mi mc me : Bool}
/-- the turns, J handing out ds -/
theorem lc_core {g : SG} {c : ST} {el : SE} {vs ts : List Nat} {j : Nat} (hts : ∀ i ∈ ts, i ∈ vs) {σ : St} {env e1 e2 : En} {H H1 : Hp} {As As1 : Own} {L : Addr → Prop} {J : It} {ds accF : List D} {Q : VK} (P1 : Pst X.K σ env H As L σ e1 H1 As1 []) (n1 : Nm mi H H1) (Wk : WalkOk X.K σ e1 H1 As1 L J ds) (hl : sCLoop j g c el vs ds [] (wipeE e1 vs) = some (accF, e2))
    (q : ∀ v H' As' B, Pst X.K σ env H As L σ (restE e1 e2 vs) H' As' B → Nm (mi || (mc || me)) H H' → RepO X.K H' (Fb As' (plusL L B)) (j + 1) v (.lst accF) B → Q v H') : ∀ D, H1 D = none → ∃ W : Nat → Nat → Hp → Prop, (∃ m, W 0 m (upd H1 D (.lst []))) ∧ ∀ i m H, W i m H →
      (J.stop i H ∧ Q (.ref D) H) ∨ (J.go i H ∧ ∃ Nx : Hp → Prop, (∀ H', Nx H' → ∃ m', m' < m ∧ W (i + 1) m' H') ∧ ∀ x H', J.yld i H x H' → tG X.K false ts g x (L2.wipe σ vs) H' fun σ2 H2 => L2.wipe σ2 vs = L2.wipe σ vs ∧ tT X.K mc c σ2 H2 fun b H3 =>
        if b = true then tE X.K me el σ2 H3 fun y H4 => ∃ acc, H4 D = some (.lst acc) ∧ acc.length < sizeLine ∧ Nx (upd H4 D (.lst (acc ++ [y]))) else Nx H3) := fun Da hDa => by
  have h0 := P1.hd0
  have hw := h0.hide vs
  obtain ⟨Q0, R0⟩ := (Pst.refl hw).newListO (j := j) (B := []) (vs := []) (ds := []) (by exact .nil) hDa
  refine ⟨fun i m H' => ∃ ei Ai accV acc Ei, m = ds.length - i ∧ i ≤ ds.length ∧ Pst X.K (L2.wipe σ vs) (wipeE e1 vs) H1 (hidA As1 vs) (hidL L As1 vs) (L2.wipe σ vs) ei H' Ai (Da :: Ei) ∧ H' Da = some (.lst accV) ∧
    RepOs X.K H' (Fb Ai (plusL (hidL L As1 vs) (Da :: Ei))) j accV acc Ei ∧ acc.length ≤ i ∧ (∀ k ∈ vs, ∀ s, ei[k]? ≠ some (some s)) ∧ sCLoop j g c el vs (ds.drop i) acc ei = some (accF, e2) ∧ Nm (mc || me) H1 H', ⟨_, wipeE e1 vs, _, [], [], [], rfl, Nat.zero_le _, Q0, upd_same, .nil, Nat.le_refl _, wipeE_none, hl, Nm.new hDa⟩, ?_⟩
  rintro i m Hi ⟨ei, Ai, accV, acc, Ei, rfl, hi, Pi, hD, rO, hal, hnone, el0, nmi⟩
  have PU := Pst.unhide h0 Pi hnone
  have AiV : ∀ k ∈ vs, Ai k = [] := fun k m => Pi.hd.emp k (hnone k m)
  by_cases hlt : i < ds.length
  · refine .inr ⟨Wk.go _ _ _ _ _ PU i hlt, _, fun H' z => z, fun x H'' y => ?_⟩
    have hdi : ds[i]? = some ds[i] := List.getElem?_eq_getElem hlt
    obtain ⟨ny, rx⟩ := Wk.yl _ _ _ _ _ PU i _ hdi x H'' y
    have rx' : RepD X.K H'' (Fb Ai (plusL (hidL L As1 vs) (Da :: Ei))) x ds[i] := rx.anti fun a z => by
      rcases z with ⟨k, z⟩ | (z | ⟨k, mk, z⟩) | z
      · by_cases mk : k ∈ vs
        · rw [AiV k mk] at z; nomatch z
        · exact .inl ⟨k, by unfold unA; rw [if_neg mk]; exact z⟩
      · exact .inr (.inl z)
      · exact .inl ⟨k, by unfold unA; rw [if_pos mk]; exact z⟩
      · exact .inr (.inr z)
    have Py := Pst.grow Pi.hd (ny rfl)
    have ed : ds.drop i = ds[i] :: ds.drop (i + 1) := List.drop_eq_getElem_cons hlt
    rw [ed] at el0
    unfold sCLoop at el0
    split at el0
    · rename_i ea hg
      refine ⟨_, ei, H'', Ai, _, ei, (ds[i], 0), ea, Ai, [], hg, Pst.refl Py.hd0, .zero (by rw [plusL_nil]; exact rx'), fun σ2 H2 As2 P2 n2 w2 => ⟨by rw [w2 vs hts, wipe_wipe], ?_⟩⟩
      split at el0
      · rename_i eb hc
        split at el0
        · rename_i hf
          refine ⟨ea, false, eb, As2, _, hc, P2.hd0, fun H3 As3 P3 n3 => iteF ?_⟩
          have PP := (Py.seq P2).seq P3
          have P5 := Pi.trans PP
          rw [List.append_nil] at P5
          have P6 := P5.wipe hf
          have ew : L2.wipe σ2 vs = L2.wipe σ vs := by rw [w2 vs hts, wipe_wipe]
          rw [ew] at P6
          have rO2 := PP.keepOs rO fun a m => .inr (List.mem_cons_of_mem _ m)
          rw [plusL_nil] at rO2
          refine ⟨_, by omega, wipeE eb vs, _, accV, acc, Ei, rfl, hlt, P6, PP.fr _ _ hD (.inl (.inr (List.mem_cons_self ..))), rO2.anti fun a z => ?_, by omega, wipeE_none, el0, ?_⟩
          · exact z.imp (fun ⟨k, z⟩ => ⟨k, (hid_mem z).2⟩) id
          · exact fun z a o eo => n3 (Bool.or_eq_false_iff.mp z).1 a o (n2 rfl a o (ny rfl a o (nmi z a o eo)))
        · cases el0
      · rename_i eb hc
        split at el0
        · rename_i r e3 he
          split at el0
          · rename_i hf
            obtain ⟨hf, hj⟩ := hf
            refine ⟨ea, true, eb, As2, _, hc, P2.hd0, fun H3 As3 P3 n3 => iteT ⟨eb, r, e3, As3, _, he, P3.hd0, fun y' H4 As4 B4 P4 n4 ry => ?_⟩⟩
            have PP := ((Py.seq P2).seq P3).seq P4
            have P5 := Pi.trans PP
            have ew : L2.wipe σ2 vs = L2.wipe σ vs := by rw [w2 vs hts, wipe_wipe]
            have hD4 := PP.fr _ _ hD (.inl (.inr (List.mem_cons_self ..)))
            have rO2 := PP.keepOs rO fun a m => .inr (List.mem_cons_of_mem _ m)
            rw [plusL_app] at rO2 ry
            have nd := List.nodup_append.mp P5.bn
            have ndi := List.nodup_cons.mp nd.1
            have dB : Da ∉ B4 := fun m => nd.2.2 Da (List.mem_cons_self ..) Da m rfl
            have nm4 : Nm (mc || me) H1 (upd H4 Da (.lst (accV ++ [y']))) := fun z a o eo => by
              rw [upd_ne (fun w => by subst w; rw [hDa] at eo; cases eo)]
              exact n4 (Bool.or_eq_false_iff.mp z).2 a o (n3 (Bool.or_eq_false_iff.mp z).1 a o (n2 rfl a o (ny rfl a o (nmi z a o eo))))
            have lenA : accV.length < sizeLine := by
              have w1 := rO.length
              have w2 := Wk.len
              omega
            have nt : ∀ xs, H4 Da ≠ some (.tup xs) := fun xs w => by rw [hD4] at w; cases w
            have fin : ∀ Ej : List Addr, Pst X.K (L2.wipe σ vs) (wipeE e1 vs) H1 (hidA As1 vs) (hidL L As1 vs) σ2 e3 (upd H4 Da (.lst (accV ++ [y']))) As4 (Da :: Ej) → RepOs X.K (upd H4 Da (.lst (accV ++ [y']))) (Fb As4 (plusL (hidL L As1 vs) (Da :: Ej))) j (accV ++ [y']) (acc ++ [r.1]) Ej →
                ∃ m', m' < ds.length - i ∧ ∃ ei Ai accV' acc' Ei, m' = ds.length - (i + 1) ∧ i + 1 ≤ ds.length ∧ Pst X.K (L2.wipe σ vs) (wipeE e1 vs) H1 (hidA As1 vs) (hidL L As1 vs) (L2.wipe σ vs) ei (upd H4 Da (.lst (accV ++ [y']))) Ai (Da :: Ei) ∧ (upd H4 Da (.lst (accV ++ [y']))) Da = some (.lst accV') ∧
                  RepOs X.K (upd H4 Da (.lst (accV ++ [y']))) (Fb Ai (plusL (hidL L As1 vs) (Da :: Ei))) j accV' acc' Ei ∧ acc'.length ≤ i + 1 ∧ (∀ k ∈ vs, ∀ s, ei[k]? ≠ some (some s)) ∧ sCLoop j g c el vs (ds.drop (i + 1)) acc' ei = some (accF, e2) ∧ Nm (mc || me) H1 (upd H4 Da (.lst (accV ++ [y']))) := fun Ej P6 r6 => by
              have P7 := P6.wipe hf
              rw [ew] at P7
              refine ⟨_, by omega, wipeE e3 vs, _, accV ++ [y'], acc ++ [r.1], Ej, rfl, hlt, P7, upd_same, r6.anti fun a z => z.imp (fun ⟨k, z⟩ => ⟨k, (hid_mem z).2⟩) id, ?_, wipeE_none, el0, nm4⟩
              rw [List.length_append]
              simp only [List.length_cons, List.length_nil]
              omega
            refine ⟨accV, hD4, lenA, ?_⟩
            have old : ∀ F' : Addr → Prop, (∀ a, F' a → Fb As4 (plusL (hidL L As1 vs) (Da :: Ei ++ B4)) a) → RepOs X.K (upd H4 Da (.lst (accV ++ [y']))) F' j accV acc Ei ∧ RepO X.K (upd H4 Da (.lst (accV ++ [y']))) F' r.2 y' r.1 B4 := fun F' hF => by
              have tr : ∀ p o, H4 p = some o → ¬ Fb As4 (plusL (hidL L As1 vs) (Da :: Ei ++ B4)) p → upd H4 Da (.lst (accV ++ [y'])) p = some o ∧ ¬ F' p := fun p o e n => ⟨by rw [upd_ne (fun w => n (by rw [w]; exact .inr (.inr (List.mem_cons_self ..))))]; exact e, fun w => n (hF p w)⟩
              have tt : ∀ p xs, H4 p = some (.tup xs) → upd H4 Da (.lst (accV ++ [y'])) p = some (.tup xs) := fun p xs e => by rw [upd_ne (fun w => nt xs (by rw [← w]; exact e))]; exact e
              exact ⟨rO2.to tr tt fun p m o e => by rw [upd_ne (fun w => ndi.1 (by rw [← w]; exact m))]; exact e, ry.to tr tt fun p m o e => by rw [upd_ne (fun w => dB (by rw [← w]; exact m))]; exact e⟩
            have hqB : Da ∈ Da :: Ei ++ B4 := List.mem_cons_self ..
            by_cases z : j = 0 ∨ r.1.imm = true
            · have P6 := P5.tmut (q := Da) (o' := .lst (accV ++ [y'])) hqB nt (fun _ _ z => nomatch z) (C := Da :: Ei) (fun a m => List.mem_append_left _ m) nd.1
              refine fin Ei P6 ?_
              obtain ⟨e5, e6⟩ := old (Fb As4 (plusL (hidL L As1 vs) (Da :: Ei))) fun a w => w.imp id (fun w => w.imp id fun w => List.mem_append_left _ w)
              have e7 := e6.frozen (F' := Fb As4 (plusL (hidL L As1 vs) (Da :: Ei))) (fun _ w => w) fun a m w => by
                have bo := P5.bo a (List.mem_append_right _ m)
                rcases w with ⟨k, w⟩ | w | w
                · exact bo.2.1 k w
                · exact bo.1 w
                · exact nd.2.2 a w a m rfl
              have := e5.app (RepOs.one (RepO.lift e7 z))
              rwa [List.append_nil] at this
            · have zj : r.2 = j := by
                unfold fitsJ at hj
                simp only [Bool.or_eq_true, decide_eq_true_eq] at hj
                rcases hj with w | w | w
                · exact absurd (.inl w) z
                · exact w
                · exact absurd (.inr w) z
              have P6 := P5.tmut (q := Da) (o' := .lst (accV ++ [y'])) hqB nt (fun _ _ z => nomatch z) (C := Da :: (Ei ++ B4)) (fun a m => by rwa [List.cons_append]) (by rw [← List.cons_append]; exact P5.bn)
              refine fin (Ei ++ B4) P6 ?_
              obtain ⟨e5, e6⟩ := old (Fb As4 (plusL (hidL L As1 vs) (Da :: (Ei ++ B4)))) fun a w => by rwa [List.cons_append]
              exact e5.app (RepOs.one (by rw [← zj]; exact e6))
          · cases el0
        · cases el0
      · cases el0
    · cases el0
  · have ei' : i = ds.length := by omega
    refine .inl ⟨Wk.st _ _ _ _ _ PU i (by omega), ?_⟩
    rw [ei', List.drop_length] at el0
    cases el0
    refine q (.ref Da) Hi _ (Da :: Ei) (P1.seq PU) (fun z a o eo => nmi (Bool.or_eq_false_iff.mp z).2 a o (n1 (Bool.or_eq_false_iff.mp z).1 a o eo)) (.lst hD (rO.anti fun a z => ?_))
    rcases z with ⟨k, z⟩ | z | z
    · unfold unA at z
      by_cases mk : k ∈ vs
      · rw [if_pos mk] at z; exact .inr (.inl (.inr ⟨k, mk, z⟩))
      · rw [if_neg mk] at z; exact .inl ⟨k, z⟩
    · exact .inr (.inl (.inl z))
    · exact .inr (.inr z)
theorem lc_wk {it : SI} {g : SG} {c : ST} {el : SE} {vs ts : List Nat} {j : Nat} (hts : ∀ i ∈ ts, i ∈ vs) (σ : St) (H : Hp) (Q : VK) : tE X.K (mi || (mc || me)) (sComp j it g c el vs) σ H Q → tLc (tI X.K mi it) (tG X.K false ts g) (tT X.K mc c) (tE X.K me el) vs σ H Q := by
  rintro ⟨env, r, env', As, L, e, hd, q⟩
  unfold sComp at e
  split at e
  · rename_i ds e1 h1
    split at e
    · rename_i accF e2 hl
      cases e
      exact ⟨env, ds, e1, As, L, h1, hd, fun J H1 As1 P1 n1 Wk => lc_core hts P1 n1 Wk hl q⟩
    · cases e
  · cases e
end
end Ev
set_option Elab.async false
set_option linter.all false
set_option autoImplicit false
set_option maxRecDepth 100000
set_option maxHeartbeats 4000000
/-! Ev13: calls of the program's own defs; a def's promise. -/
namespace Ev
open PySem PySem.Spec L2

/-- an argument: a value given away, or a name that is lent -/
inductive Ag where
  | va (d : D) | bo (i : Nat)
inductive RepG (K : PySem.W.Frag) (H : Hp) (σ : St) (F : Addr → Prop) : List V → List Ag → Prop
  | nil : RepG K H σ F [] []
  | va {v : V} {d : D} {vs : List V} {as : List Ag} : RepD K H F v d → RepG K H σ F vs as → RepG K H σ F (v :: vs) (.va d :: as)
  | bo {v : V} {i : Nat} {vs : List V} {as : List Ag} : σ[i]? = some (some v) → RepG K H σ F vs as → RepG K H σ F (v :: vs) (.bo i :: as)
def agI : List Ag → List Nat
  | [] => []
  | .va _ :: r => agI r
  | .bo i :: r => i :: agI r
/-- the callee's slots -/
def agSl (e : En) : List Ag → Option En
  | [] => some []
  | .va d :: r => (agSl e r).map (some ⟨d, 0, 0⟩ :: ·)
  | .bo i :: r => match e[i]? with
    | some (some s) => (agSl e r).map (some ⟨s.d, s.k, if s.m = 2 then 2 else 1⟩ :: ·)
    | _ => none
/-- what comes back -/
def backE : List Ag → En → En → En
  | [], _, e => e
  | _ :: _, [], e => e
  | .va _ :: r, _ :: cs, e => backE r cs e
  | .bo i :: r, c :: cs, e => match e[i]?, c with
    | some (some s), some t => backE r cs (e.set i (some { s with d := t.d }))
    | _, _ => backE r cs e
theorem agI_mem {as : List Ag} {i : Nat} : i ∈ agI as ↔ ∃ p : Nat, as[p]? = some (Ag.bo i) := by
  induction as with
  | nil => simp [agI]
  | cons a r ih =>
    constructor
    · intro h
      cases a with
      | va d => obtain ⟨p, e⟩ := ih.mp h; exact ⟨p + 1, e⟩
      | bo j =>
        rcases List.mem_cons.mp h with rfl | h
        · exact ⟨0, rfl⟩
        · obtain ⟨p, e⟩ := ih.mp h; exact ⟨p + 1, e⟩
    · rintro ⟨p, e⟩
      cases p with
      | zero => cases (Option.some.inj (e : some a = _)); exact List.mem_cons_self ..
      | succ p =>
        have := ih.mpr ⟨p, e⟩
        cases a with
        | va d => exact this
        | bo j => exact List.mem_cons_of_mem _ this
theorem agI_inj {as : List Ag} (h : (agI as).Nodup) {i : Nat} : ∀ {p q : Nat}, as[p]? = some (Ag.bo i) → as[q]? = some (Ag.bo i) → p = q := by
  induction as with
  | nil => intro p q e; simp at e
  | cons a r ih =>
    have h' : (agI r).Nodup := by
      cases a with
      | va d => exact h
      | bo j => exact (List.nodup_cons.mp h).2
    intro p q e1 e2
    cases p with
    | zero =>
      cases (Option.some.inj (e1 : some a = _))
      cases q with
      | zero => rfl
      | succ q => exact absurd (agI_mem.mpr ⟨q, e2⟩) (List.nodup_cons.mp h).1
    | succ p =>
      cases q with
      | zero =>
        cases (Option.some.inj (e2 : some a = _))
        exact absurd (agI_mem.mpr ⟨p, e1⟩) (List.nodup_cons.mp h).1
      | succ q => exact congrArg (· + 1) (ih h' e1 e2)
theorem agSl_len {e : En} : ∀ {as : List Ag} {ce : En}, agSl e as = some ce → ce.length = as.length
  | [], _, h => by cases h; rfl
  | .va d :: r, ce, h => by
    unfold agSl at h
    cases h1 : agSl e r with
    | none => rw [h1] at h; cases h
    | some c => rw [h1] at h; cases h; exact congrArg (· + 1) (agSl_len h1)
  | .bo i :: r, ce, h => by
    unfold agSl at h
    split at h
    · cases h1 : agSl e r with
      | none => rw [h1] at h; cases h
      | some c => rw [h1] at h; cases h; exact congrArg (· + 1) (agSl_len h1)
    · cases h
theorem agSl_at {e : En} : ∀ {as : List Ag} {ce : En}, agSl e as = some ce → ∀ (p : Nat), (∀ d, as[p]? = some (Ag.va d) → ce[p]? = some (some ⟨d, 0, 0⟩)) ∧ (∀ i, as[p]? = some (Ag.bo i) → ∃ s, e[i]? = some (some s) ∧ ce[p]? = some (some ⟨s.d, s.k, if s.m = 2 then 2 else 1⟩))
  | [], _, h, p => ⟨fun _ z => by simp at z, fun _ z => by simp at z⟩
  | .va d :: r, ce, h, p => by
    unfold agSl at h
    cases h1 : agSl e r with
    | none => rw [h1] at h; cases h
    | some c =>
      rw [h1] at h; cases h
      cases p with
      | zero => exact ⟨fun d' z => by cases z; rfl, fun i z => by cases z⟩
      | succ p => exact agSl_at h1 p
  | .bo i :: r, ce, h, p => by
    unfold agSl at h
    split at h
    · rename_i s hs
      cases h1 : agSl e r with
      | none => rw [h1] at h; cases h
      | some c =>
        rw [h1] at h; cases h
        cases p with
        | zero => exact ⟨fun d' z => (by cases z), fun i z => by cases z; exact ⟨s, hs, rfl⟩⟩
        | succ p => exact agSl_at h1 p
    · cases h
theorem backE_len : ∀ (as : List Ag) (ce e : En), (backE as ce e).length = e.length
  | [], _, _ => by unfold backE; rfl
  | .va _ :: _, [], _ => by unfold backE; rfl
  | .bo _ :: _, [], _ => by unfold backE; rfl
  | .va _ :: r, _ :: cs, e => by unfold backE; exact backE_len r cs e
  | .bo i :: r, c :: cs, e => by
    unfold backE
    split
    · rw [backE_len, List.length_set]
    · exact backE_len r cs e
theorem backE_out : ∀ {as : List Ag} {ce e : En} {i : Nat}, i ∉ agI as → (backE as ce e)[i]? = e[i]?
  | [], _, _, _, _ => by unfold backE; rfl
  | .va _ :: _, [], _, _, _ => by unfold backE; rfl
  | .bo _ :: _, [], _, _, _ => by unfold backE; rfl
  | .va _ :: r, _ :: cs, e, i, h => by unfold backE; exact backE_out (as := r) h
  | .bo j :: r, c :: cs, e, i, h => by
    have h' : i ≠ j ∧ i ∉ agI r := by simpa [agI] using h
    unfold backE
    split
    · rw [backE_out h'.2, List.getElem?_set_ne (fun z => h'.1 z.symm)]
    · exact backE_out h'.2
theorem backE_in : ∀ {as : List Ag} {ce e : En} {i p : Nat} {s t : Slot}, (agI as).Nodup → as[p]? = some (Ag.bo i) → e[i]? = some (some s) → ce[p]? = some (some t) → (backE as ce e)[i]? = some (some { s with d := t.d })
  | [], _, _, _, _, _, _, _, h, _, _ => by simp at h
  | _ :: _, [], _, _, _, _, _, _, _, _, h => by simp at h
  | .va _ :: r, _ :: cs, e, i, p, s, t, hn, h, he, hc => by
    unfold backE
    cases p with
    | zero => cases h
    | succ p => exact backE_in (as := r) hn h he hc
  | .bo j :: r, c :: cs, e, i, p, s, t, hn, h, he, hc => by
    have hn' := List.nodup_cons.mp hn
    unfold backE
    cases p with
    | zero =>
      cases h
      cases hc
      rw [he]
      simp only
      rw [backE_out hn'.1, List.getElem?_set_self (List.getElem?_eq_some_iff.mp he).1]
    | succ p =>
      have hij : i ≠ j := fun z => by subst z; exact hn'.1 (agI_mem.mpr ⟨p, h⟩)
      split
      · exact backE_in (as := r) hn'.2 h (by rw [List.getElem?_set_ne (Ne.symm hij)]; exact he) hc
      · exact backE_in (as := r) hn'.2 h he hc
def passA (as : List Ag) (As : Own) : Own := fun p => match as[p]? with
  | some (Ag.bo i) => As i
  | _ => []
def passL (as : List Ag) (As : Own) (L : Addr → Prop) : Addr → Prop := fun a => L a ∨ ∃ i, i ∉ agI as ∧ a ∈ As i
def backA (as : List Ag) (AC As : Own) : Own := fun i => match (List.range as.length).find? (fun p => match as[p]? with | some (Ag.bo j) => decide (j = i) | _ => false) with
  | some p => AC p
  | none => As i
theorem pass_mem {as : List Ag} {As : Own} {p : Nat} {a : Addr} (h : a ∈ passA as As p) : ∃ i, as[p]? = some (Ag.bo i) ∧ a ∈ As i := by
  unfold passA at h
  split at h
  · rename_i i e; exact ⟨i, e, h⟩
  · nomatch h
theorem pass_at {as : List Ag} {As : Own} {p i : Nat} (h : as[p]? = some (Ag.bo i)) : passA as As p = As i := by unfold passA; rw [h]
theorem back_in {as : List Ag} {AC As : Own} {p i : Nat} (hn : (agI as).Nodup) (h : as[p]? = some (Ag.bo i)) : backA as AC As i = AC p := by
  unfold backA
  cases e : (List.range as.length).find? (fun p => match as[p]? with | some (Ag.bo j) => decide (j = i) | _ => false) with
  | some q =>
    have := List.find?_some e
    split at this
    · rename_i j hj
      have ji : j = i := by simpa using this
      subst ji
      rw [agI_inj hn hj h]
    · cases this
  | none =>
    have := List.find?_eq_none.mp e p (List.mem_range.mpr (List.getElem?_eq_some_iff.mp h).1)
    rw [h] at this
    simp at this
theorem back_out {as : List Ag} {AC As : Own} {i : Nat} (h : i ∉ agI as) : backA as AC As i = As i := by
  unfold backA
  cases e : (List.range as.length).find? (fun p => match as[p]? with | some (Ag.bo j) => decide (j = i) | _ => false) with
  | some q =>
    have := List.find?_some e
    split at this
    · rename_i j hj
      have ji : j = i := by simpa using this
      subst ji
      exact absurd (agI_mem.mpr ⟨q, hj⟩) h
    · cases this
  | none => rfl
section
variable {K : PySem.W.Frag} {σ : St} {env : En} {H H1 : Hp} {As : Own} {L : Addr → Prop}
theorem RepG.len {F : Addr → Prop} {vs : List V} {as : List Ag} (r : RepG K H σ F vs as) : vs.length = as.length := by
  induction r with
  | nil => rfl
  | va _ _ ih => exact congrArg (· + 1) ih
  | bo _ _ ih => exact congrArg (· + 1) ih
theorem RepG.at_ {F : Addr → Prop} {vs : List V} {as : List Ag} (r : RepG K H σ F vs as) : ∀ (p : Nat), (∀ d, as[p]? = some (Ag.va d) → ∃ v, vs[p]? = some v ∧ RepD K H F v d) ∧ ∀ i, as[p]? = some (Ag.bo i) → ∃ v, vs[p]? = some v ∧ σ[i]? = some (some v) := by
  induction r with
  | nil => intro p; exact ⟨fun _ z => by simp at z, fun _ z => by simp at z⟩
  | @va v d vs as rd _ ih =>
    intro p
    cases p with
    | zero => exact ⟨fun _ z => by cases z; exact ⟨v, rfl, rd⟩, fun _ z => by cases z⟩
    | succ p => exact ih p
  | @bo v i vs as rd _ ih =>
    intro p
    cases p with
    | zero => exact ⟨fun _ z => (by cases z), fun _ z => by cases z; exact ⟨v, rfl, rd⟩⟩
    | succ p => exact ih p
theorem passF {as : List Ag} {a : Addr} : Fb (passA as As) (passL as As L) a → Fb As L a := fun h => by
  rcases h with ⟨p, h⟩ | h | ⟨i, _, h⟩
  · obtain ⟨i, _, m⟩ := pass_mem h; exact .inl ⟨i, m⟩
  · exact .inr h
  · exact .inl ⟨i, h⟩
theorem passF' {as : List Ag} {a : Addr} : Fb As L a → Fb (passA as As) (passL as As L) a := fun h => by
  rcases h with ⟨i, h⟩ | h
  · by_cases m : i ∈ agI as
    · obtain ⟨p, e⟩ := agI_mem.mp m
      exact .inl ⟨p, by rw [pass_at e]; exact h⟩
    · exact .inr (.inr ⟨i, m, h⟩)
  · exact .inr (.inl h)
theorem padE {ce : En} {n i : Nat} {s : Slot} (h : (ce ++ List.replicate n none)[i]? = some (some s)) : ce[i]? = some (some s) := by
  by_cases z : i < ce.length
  · rwa [List.getElem?_append_left z] at h
  · rw [List.getElem?_append_right (by omega)] at h
    by_cases y : i - ce.length < n
    · rw [List.getElem?_replicate, if_pos y] at h; cases h
    · rw [List.getElem?_replicate, if_neg y] at h; cases h
theorem Holds.pass (h : Holds K H σ env As L) {vs : List V} {as : List Ag} {ce : En} (n : Nat) (r : RepG K H σ (Fb As L) vs as) (e : agSl env as = some ce) (hn : (agI as).Nodup) :
    Holds K H (vs.map some ++ List.replicate n none) (ce ++ List.replicate n none) (passA as As) (passL as As L) := by
  have hl : vs.length = ce.length := r.len.trans (agSl_len e).symm
  have slot : ∀ {p : Nat} {s : Slot}, (ce ++ List.replicate n none)[p]? = some (some s) → ((∃ d, as[p]? = some (Ag.va d) ∧ s = ⟨d, 0, 0⟩) ∨ ∃ i t, as[p]? = some (Ag.bo i) ∧ env[i]? = some (some t) ∧ s = ⟨t.d, t.k, if t.m = 2 then 2 else 1⟩) := fun {p s} q => by
    have q := padE q
    have hp : p < as.length := by rw [← agSl_len e]; exact (List.getElem?_eq_some_iff.mp q).1
    have w := agSl_at e p
    cases hA : as[p]? with
    | none => exact absurd (List.getElem?_eq_none_iff.mp hA) (by omega)
    | some g =>
      cases g with
      | va d =>
        have := w.1 d hA
        rw [q] at this
        exact .inl ⟨d, rfl, by cases this; rfl⟩
      | bo i =>
        obtain ⟨t, e1, e2⟩ := w.2 i hA
        rw [q] at e2
        exact .inr ⟨i, t, rfl, e1, by cases e2; rfl⟩
  refine ⟨by simp [hl], fun p s q => ?_, fun p q => ?_, fun p => ?_, fun p p' a m1 m2 => ?_, fun p s q hm a m => ?_, fun p s q hm a m => ?_, fun a q => ?_⟩
  · have hp : p < vs.length := by rw [hl]; exact (List.getElem?_eq_some_iff.mp (padE q)).1
    rw [List.getElem?_append_left (by simpa using hp), List.getElem?_map]
    rcases slot q with ⟨d, hA, rfl⟩ | ⟨i, t, hA, ht, rfl⟩
    · obtain ⟨v, ev, rd⟩ := (r.at_ p).1 d hA
      rw [ev]
      have z : passA as As p = [] := by unfold passA; rw [hA]
      rw [z]
      exact ⟨v, rfl, .zero (rd.anti fun a => passF)⟩
    · obtain ⟨v, ev, es⟩ := (r.at_ p).2 i hA
      rw [ev]
      obtain ⟨v', es', ro⟩ := h.rep i t ht
      rw [es] at es'
      cases es'
      rw [pass_at hA]
      exact ⟨v, rfl, ro.anti fun a => passF⟩
  · unfold passA
    cases hA : as[p]? with
    | none => rfl
    | some g =>
      cases g with
      | va d => rfl
      | bo i =>
        obtain ⟨t, e1, e2⟩ := (agSl_at e p).2 i hA
        exact absurd ((List.getElem?_append_left (List.getElem?_eq_some_iff.mp e2).1).trans e2) (q _)
  · unfold passA
    split
    · exact h.nd _
    · exact List.nodup_nil
  · obtain ⟨i, e1, m1⟩ := pass_mem m1
    obtain ⟨j, e2, m2⟩ := pass_mem m2
    have := h.dj i j a m1 m2
    subst this
    exact agI_inj hn e1 e2
  · rcases slot q with ⟨d, hA, rfl⟩ | ⟨i, t, hA, ht, rfl⟩
    · unfold passA at m; rw [hA] at m; nomatch m
    · rw [pass_at hA] at m
      have hm2 : t.m ≠ 2 := fun z => by simp [z] at hm
      have w := h.ow i t ht hm2 a m
      refine ⟨fun z => ?_, w.2⟩
      rcases z with z | ⟨j, nj, z⟩
      · exact w.1 z
      · exact nj (h.dj j i a z m ▸ agI_mem.mpr ⟨p, hA⟩)
  · rcases slot q with ⟨d, hA, rfl⟩ | ⟨i, t, hA, ht, rfl⟩
    · cases hm
    · rw [pass_at hA] at m
      have hm2 : t.m = 2 := by
        by_cases z : t.m = 2
        · exact z
        · simp [z] at hm
      exact .inl (h.lo i t ht hm2 a m)
  · rcases q with q | ⟨j, _, q⟩
    · exact h.lv a q
    · obtain ⟨o, e1, _⟩ := h.there q
      exact ⟨o, e1⟩
theorem Pst.back (h : Holds K H σ env As L) {vs : List V} {as : List Ag} {ce : En} {n : Nat} (r : RepG K H σ (Fb As L) vs as) (e : agSl env as = some ce) (hn : (agI as).Nodup) {σ' : St} {e' : En} {H' : Hp} {AC : Own} {B : List Addr}
    (P : Pst K (vs.map some ++ List.replicate n none) (ce ++ List.replicate n none) H (passA as As) (passL as As L) σ' e' H' AC B) : Pst K σ env H As L σ (backE as e' env) H' (backA as AC As) B ∧ ∀ a, Fb (backA as AC As) (plusL L B) a → Fb AC (plusL (passL as As L) B) a := by
  -- a lent name behind the call
  have lent : ∀ {p i : Nat}, as[p]? = some (Ag.bo i) → ∃ t v d', env[i]? = some (some t) ∧ σ[i]? = some (some v) ∧ e'[p]? = some (some ⟨d', t.k, if t.m = 2 then 2 else 1⟩) ∧ σ'[p]? = some (some v) ∧ (t.m = 2 → d' = t.d ∧ AC p = As i) := fun {p i} hA => by
    obtain ⟨t, e1, e2⟩ := (agSl_at e p).2 i hA
    obtain ⟨v, ev, es⟩ := (r.at_ p).2 i hA
    have e3 : (ce ++ List.replicate n none)[p]? = some (some ⟨t.d, t.k, if t.m = 2 then 2 else 1⟩) := by rw [List.getElem?_append_left (List.getElem?_eq_some_iff.mp e2).1]; exact e2
    obtain ⟨w1, d', w2, w3⟩ := P.fx p _ e3 (by show (if t.m = 2 then 2 else 1) ≠ 0; split <;> decide)
    refine ⟨t, v, d', e1, es, w2, ?_, fun z => ?_⟩
    · have hp : p < vs.length := (List.getElem?_eq_some_iff.mp ev).1
      rw [w1, List.getElem?_append_left (by simpa using hp), List.getElem?_map, ev]; rfl
    · have := w3 (if_pos z)
      rw [pass_at hA] at this
      exact this
  have split : ∀ {a : Addr} {i : Nat}, a ∈ backA as AC As i → (∃ p, as[p]? = some (Ag.bo i) ∧ a ∈ AC p) ∨ (i ∉ agI as ∧ a ∈ As i) := fun {a i} m => by
    by_cases z : i ∈ agI as
    · obtain ⟨p, hA⟩ := agI_mem.mp z
      rw [back_in hn hA] at m
      exact .inl ⟨p, hA, m⟩
    · rw [back_out z] at m
      exact .inr ⟨z, m⟩
  have slot : ∀ {i : Nat} {s : Slot}, (backE as e' env)[i]? = some (some s) → (∃ (p : Nat) (t : Slot) (d' : D), as[p]? = some (Ag.bo i) ∧ env[i]? = some (some t) ∧ e'[p]? = some (some ⟨d', t.k, if t.m = 2 then 2 else 1⟩) ∧ s = { t with d := d' }) ∨ (i ∉ agI as ∧ env[i]? = some (some s)) := fun {i s} q => by
    by_cases z : i ∈ agI as
    · obtain ⟨p, hA⟩ := agI_mem.mp z
      obtain ⟨t, v, d', e1, e2, e3, _, _⟩ := lent hA
      rw [backE_in hn hA e1 e3] at q
      cases q
      exact .inl ⟨p, t, d', hA, e1, e3, rfl⟩
    · rw [backE_out z] at q
      exact .inr ⟨z, q⟩
  have toF : ∀ a, Fb (backA as AC As) (plusL L B) a → Fb AC (plusL (passL as As L) B) a := fun a q => by
    rcases q with ⟨i, q⟩ | q | q
    · rcases split q with ⟨p, _, m⟩ | ⟨z, m⟩
      · exact .inl ⟨p, m⟩
      · exact .inr (.inl (.inr ⟨i, z, m⟩))
    · exact .inr (.inl (.inl q))
    · exact .inr (.inr q)
  refine ⟨⟨fun a o ea c => P.fr a o ea ?_, fun a m => ?_, P.tr, P.tu, fun i s es hm => ?_, ?_, P.bn, fun a m => ?_⟩, toF⟩
  · rcases c with c | c
    · exact .inl (.inl c)
    · exact .inr fun p m => by obtain ⟨i, _, m⟩ := pass_mem m; exact c i m
  · have go : (∃ p, a ∈ passA as As p) ∨ H a = none → (∃ i, a ∈ As i) ∨ H a = none := fun q => q.elim (fun ⟨p, w⟩ => by obtain ⟨i, _, m⟩ := pass_mem w; exact .inl ⟨i, m⟩) .inr
    rcases m with ⟨i, m⟩ | m
    · rcases split m with ⟨p, _, m⟩ | ⟨z, m⟩
      · exact go (P.nw a (.inl ⟨p, m⟩))
      · exact .inl ⟨i, m⟩
    · exact go (P.nw a (.inr m))
  · refine ⟨rfl, ?_⟩
    by_cases z : i ∈ agI as
    · obtain ⟨p, hA⟩ := agI_mem.mp z
      obtain ⟨t, v, d', e1, e2, e3, _, l⟩ := lent hA
      rw [es] at e1
      cases e1
      rw [backE_in hn hA es e3, back_in hn hA]
      exact ⟨d', rfl, fun w => l w⟩
    · rw [backE_out z, back_out z]
      exact ⟨s.d, es, fun _ => ⟨rfl, rfl⟩⟩
  · have apart : ∀ {i j p : Nat} {a : Addr}, as[p]? = some (Ag.bo i) → a ∈ AC p → j ∉ agI as → a ∈ As j → False := fun {i j p a} hA m nj m' => by
      obtain ⟨t, v, d', e1, e2, e3, _, l⟩ := lent hA
      by_cases z : t.m = 2
      · rw [(l z).2] at m
        exact nj (h.dj i j a m m' ▸ agI_mem.mpr ⟨p, hA⟩)
      · exact (P.hd.ow p _ e3 (by show (if t.m = 2 then 2 else 1) ≠ 2; rw [if_neg z]; decide) a m).1 (.inl (.inr ⟨j, nj, m'⟩))
    refine ⟨by rw [backE_len]; exact h.len, fun i s q => ?_, fun i q => ?_, fun i => ?_, fun i j a m1 m2 => ?_, fun i s q hm a m => ?_, fun i s q hm a m => ?_, fun a q => ?_⟩
    · rcases slot q with ⟨p, t, d', hA, e1, e3, rfl⟩ | ⟨z, q⟩
      · obtain ⟨t', v, d'', e1', e2, e3', e4, _⟩ := lent hA
        rw [e1] at e1'
        cases e1'
        rw [e3] at e3'
        cases e3'
        obtain ⟨v', ev', ro⟩ := P.hd.rep p _ e3
        rw [e4] at ev'
        cases ev'
        rw [back_in hn hA]
        exact ⟨v, e2, ro.anti toF⟩
      · obtain ⟨v, ev, ro⟩ := h.rep i s q
        rw [back_out z]
        exact ⟨v, ev, (P.keepO (ro.anti fun a => passF) fun a m => .inr ⟨i, z, m⟩).anti toF⟩
    · by_cases z : i ∈ agI as
      · obtain ⟨p, hA⟩ := agI_mem.mp z
        obtain ⟨t, v, d', e1, e2, e3, _, _⟩ := lent hA
        exact absurd (backE_in hn hA e1 e3) (q _)
      · rw [back_out z]
        refine h.emp i fun s w => q s ?_
        rw [backE_out z]; exact w
    · by_cases z : i ∈ agI as
      · obtain ⟨p, hA⟩ := agI_mem.mp z
        rw [back_in hn hA]
        exact P.hd.nd p
      · rw [back_out z]
        exact h.nd i
    · rcases split m1 with ⟨p, hA, m1⟩ | ⟨z1, m1⟩ <;> rcases split m2 with ⟨q, hB, m2⟩ | ⟨z2, m2⟩
      · have := P.hd.dj p q a m1 m2
        subst this
        rw [hA] at hB
        cases hB
        rfl
      · exact (apart hA m1 z2 m2).elim
      · exact (apart hB m2 z1 m1).elim
      · exact h.dj i j a m1 m2
    · rcases slot q with ⟨p, t, d', hA, e1, e3, rfl⟩ | ⟨z, q⟩
      · rw [back_in hn hA] at m
        have hm' : t.m ≠ 2 := hm
        have w := P.hd.ow p _ e3 (by show (if t.m = 2 then 2 else 1) ≠ 2; rw [if_neg hm']; decide) a m
        exact ⟨fun y => w.1 (y.imp .inl id), w.2⟩
      · rw [back_out z] at m
        have w := h.ow i s q hm a m
        refine ⟨fun y => y.elim w.1 fun y => (P.bo a y).1 (.inr ⟨i, z, m⟩), fun o u y => ?_⟩
        obtain ⟨o1, e1, _⟩ := h.there m
        rw [P.fr a o1 e1 (.inl (.inr ⟨i, z, m⟩))] at y
        exact w.2 o u (e1.trans y)
    · rcases slot q with ⟨p, t, d', hA, e1, e3, rfl⟩ | ⟨z, q⟩
      · rw [back_in hn hA] at m
        obtain ⟨t', v, d'', e1', _, _, _, l⟩ := lent hA
        rw [e1] at e1'
        cases e1'
        rw [(l hm).2] at m
        exact .inl (h.lo i t e1 hm a m)
      · rw [back_out z] at m
        exact .inl (h.lo i s q hm a m)
    · rcases q with q | q
      · exact P.hd.lv a (.inl (.inl q))
      · exact P.hd.lv a (.inr q)
  · have w := P.bo a m
    refine ⟨fun q => w.1 (.inl q), fun i m' => ?_, w.2.2⟩
    rcases split m' with ⟨p, _, m'⟩ | ⟨z, m'⟩
    · exact w.2.1 p m'
    · exact w.1 (.inr ⟨i, z, m'⟩)
end
end Ev
set_option Elab.async false
set_option linter.all false
set_option autoImplicit false
set_option maxRecDepth 100000
set_option maxHeartbeats 4000000
/-! Ev14: the rules for calls and defs. -/
namespace Ev
open PySem PySem.Spec L2

abbrev SAg := En → Option (List Ag × En)
/-- bw: a name may be lent -/
def tAg (K : PySem.W.Frag) (mu bw : Bool) (s : SAg) : TA := fun σ H Q => ∃ env ags env' As L, s env = some (ags, env') ∧ Holds K H σ env As L ∧
  ∀ vs H' As', Pst K σ env H As L σ env' H' As' [] → Nm mu H H' → RepG K H' σ (Fb As' L) vs ags → (bw = false → agI ags = []) → Q vs H'
/-- a def's promise: what its body does -/
def spF (K : PySem.W.Frag) (n p : Nat) (b : SS) : Sp := fun vs H Q E => vs.length = p ∧ ∃ ce r As L, b (ce ++ List.replicate n none) = some r ∧ Holds K H (vs.map some ++ List.replicate n none) (ce ++ List.replicate n none) As L ∧
  EndS K (vs.map some ++ List.replicate n none) (ce ++ List.replicate n none) H As L { nx := fun _ H' => Q .non H', rt := Q } r
def agNil : SAg := fun env => some ([], env)
def agVa (s : SP) (t : SAg) : SAg := fun env => match s env with
  | some (d, e1) => match t e1 with
    | some (as, e2) => some (.va d :: as, e2)
    | none => none
  | none => none
def agBo (i : Nat) (t : SAg) : SAg := fun env => match env[i]? with
  | some (some _) => match t env with
    | some (as, e) => some (.bo i :: as, e)
    | none => none
  | _ => none
def sCall (n p : Nat) (b : SS) (s : SAg) : SE := fun env => match s env with
  | some (ags, e1) => match agSl e1 ags with
    | some ce => if ags.length = p ∧ (agI ags).Nodup then match b (ce ++ List.replicate n none) with
        | some (.ret r e2) => some (r, backE ags e2 e1)
        | some (.nx e2) => some ((.non, 0), backE ags e2 e1)
        | _ => none
      else none
    | none => none
  | none => none
theorem RepG.keep {K : PySem.W.Frag} {σ : St} {env env' : En} {H H' : Hp} {As As' : Own} {L : Addr → Prop} (P : Pst K σ env H As L σ env' H' As' []) : ∀ {vs : List V} {as : List Ag}, RepG K H σ (Fb As L) vs as → RepG K H' σ (Fb As' L) vs as
  | _, _, .nil => .nil
  | _, _, .va r rs => .va (by have := P.keepD r; rwa [plusL_nil] at this) (RepG.keep P rs)
  | _, _, .bo e rs => .bo e (RepG.keep P rs)
section
variable {X : Cx} {a b : Expr} {es : List Expr} {ma mb bw : Bool} {pos : Pos}
theorem ag_nil : PA X [] (tAg X.K false false agNil) := pa_nil.wk fun σ H Q ⟨env, rs, env', As, L, e, hd, q⟩ => by
  cases e
  exact q [] H As (Pst.refl hd) Nm.refl .nil fun _ => rfl
theorem va_wk {s : SP} {t : SAg} (σ : St) (H : Hp) (Q : List V → Hp → Prop) : tAg X.K (ma || mb) bw (agVa s t) σ H Q → tCons (tF X.K ma s) (tAg X.K mb bw t) σ H Q := by
  rintro ⟨env, rs, env', As, L, e, hd, q⟩
  unfold agVa at e
  split at e
  · rename_i d e1 h1
    split at e
    · rename_i as e2 h2
      cases e
      refine ⟨env, d, e1, As, L, h1, hd, fun v H1 As1 P1 n1 r1 => ⟨e1, as, env', As1, L, h2, P1.hd0, fun vs H2 As2 P2 n2 r2 l2 => ?_⟩⟩
      exact q _ H2 As2 (P1.seq P2) (n1.trans n2) (.va (by have := P2.keepD r1; rwa [plusL_nil] at this) r2) l2
    · cases e
  · cases e
theorem ag_va {s : SP} {t : SAg} (ha : PE X a (tF X.K ma s)) (hr : PA X es (tAg X.K mb bw t)) (hs : starEach (a :: es) X.env = (false, eval a X.env) :: starEach es X.env := by rfl) : PA X (a :: es) (tAg X.K (ma || mb) bw (agVa s t)) := (pa_cons ha hr hs).wk va_wk
theorem bo_wk {i : Nat} {t : SAg} (σ : St) (H : Hp) (Q : List V → Hp → Prop) : tAg X.K mb true (agBo i t) σ H Q → tCons (tVar i) (tAg X.K mb bw t) σ H Q := by
  rintro ⟨env, rs, env', As, L, e, hd, q⟩
  unfold agBo at e
  split at e
  · rename_i s0 hs0
    split at e
    · rename_i as e2 h2
      cases e
      obtain ⟨v, ev, _⟩ := hd.rep i s0 hs0
      exact ⟨v, ev, env, as, env', As, L, h2, hd, fun vs H2 As2 P2 n2 r2 l2 => q _ H2 As2 P2 n2 (.bo ev r2) fun z => by cases z⟩
    · cases e
  · cases e
theorem ag_bo {i : Nat} {t : SAg} (ha : PE X a (tVar i)) (hr : PA X es (tAg X.K mb bw t)) (hs : starEach (a :: es) X.env = (false, eval a X.env) :: starEach es X.env := by rfl) : PA X (a :: es) (tAg X.K mb true (agBo i t)) := (pa_cons ha hr hs).wk bo_wk
theorem call_core {n p : Nat} {bd : SS} {s : SAg} {σ : St} {H : Hp} {Q : VK} (E : XK) : tE X.K (ma || bw) (sCall n p bd s) σ H Q → tAg X.K ma bw s σ H fun vs H1 => spF X.K n p bd vs H1 Q E := by
  rintro ⟨env, r, env', As, L, e, hd, q⟩
  unfold sCall at e
  split at e
  · rename_i ags e1 h1
    split at e
    · rename_i ce hce
      split at e
      · rename_i hc
        obtain ⟨hp, hn⟩ := hc
        refine ⟨env, ags, e1, As, L, h1, hd, fun vs H1 As1 P1 n1 rg hbw => ⟨rg.len.trans hp, ce, ?_⟩⟩
        have hdC := P1.hd0.pass n rg hce hn
        have nm : ∀ {H' : Hp} {σ' e'' AC B}, Pst X.K (vs.map some ++ List.replicate n none) (ce ++ List.replicate n none) H1 (passA ags As1) (passL ags As1 L) σ' e'' H' AC B → Nm (ma || bw) H H' := fun P z a o ea => by
          have z' := Bool.or_eq_false_iff.mp z
          refine P.fr a o (n1 z'.1 a o ea) (.inr fun p m => ?_)
          obtain ⟨i, hi, _⟩ := pass_mem m
          have := agI_mem.mpr ⟨p, hi⟩
          rw [hbw z'.2] at this
          nomatch this
        split at e
        · rename_i r' e2 hb
          cases e
          refine ⟨_, _, _, hb, hdC, fun v σ' H' AC B P ro => ?_⟩
          obtain ⟨P2, toF⟩ := Pst.back P1.hd0 rg hce hn P
          exact q v H' _ B (P1.seq P2) (nm P) (ro.anti toF)
        · rename_i e2 hb
          cases e
          refine ⟨_, _, _, hb, hdC, fun σ' H' AC P => ?_⟩
          obtain ⟨P2, toF⟩ := Pst.back P1.hd0 rg hce hn P
          exact q .non H' _ [] (P1.seq P2) (nm P) (.zero .non)
        · cases e
      · cases e
    · cases e
  · cases e
variable {k n : Nat} {f : Addr} {fd : FuncData} {ps ks : List Str} {bd : SS} {s : SAg} {x : Str} {p : Pos} {e : Expr} {kws : List Keyword}
theorem e_call (F : FnOk X.prog X.w X.K X.mg X.base CX0 k f fd ps (spF X.K n ps.length bd)) (hr : Room k X.A) (hg : Gl X x) (hm : X.mg x = some (.ref f)) (hk : PySem.W.keepIn X.K (.ref f) = true) (hb : Binds X.K fd ps []) (ha : PA X (e :: es) (tAg X.K ma bw s))
    (hdb : (x == ("__debug__" : Str)) = false := by decide) (he : starEach (e :: es) X.env = (false, eval e X.env) :: starEach es X.env := by rfl) (hpl : (backTo pos (starEach es X.env)).any (·.1) = false := by rfl) :
    PE X (.Call (.Name x p) (e :: es) [] pos) (tE X.K (ma || bw) (sCall n ps.length bd s)) := (pe_call F hr hg hm hk hb .nil pass0 ha hdb he hpl).wk fun σ H Q h => by
  have := call_core (X := X) E0 h
  unfold tCall
  simpa using this
theorem e_call0 (F : FnOk X.prog X.w X.K X.mg X.base CX0 k f fd [] (spF X.K n 0 bd)) (hr : Room k X.A) (hg : Gl X x) (hm : X.mg x = some (.ref f)) (hk : PySem.W.keepIn X.K (.ref f) = true) (hb : Binds X.K fd [] []) (hdb : (x == ("__debug__" : Str)) = false := by decide) :
    PE X (.Call (.Name x p) [] [] pos) (tE X.K false (sCall n 0 bd agNil)) := (pe_call0 F hr hg hm hk hb .nil pass0 hdb).wk fun σ H Q h => by
  obtain ⟨env, ags, e1, As, L, h1, hd, q⟩ := call_core (X := X) (ma := false) (bw := false) E0 h
  cases h1
  exact q [] H As (Pst.refl hd) Nm.refl .nil fun _ => rfl
/-- a def keeps its promise -/
theorem fn_ok {P : Program} {w : World} {K : PySem.W.Frag} {mg : Str → Option Value} {base : Heap} {qual : Str} {st : Stmt} {N : List Str} (F : Fun K x qual st f fd) (S : FnScope N ps (defScope st))
    (hb : ∀ (cdv : Value) (A : Around) (outer : List Env) (s : Shared) (H : Hp) (E : XK), Room k (A.deeper (PyProof.Rows.envOfC qual (defScope st) s.heap.objs.size f cdv)) → PSs (cxOf CX0 P w K mg base N qual (defScope st) f cdv A outer s H E).nox (defBody st) (tS K bd)) :
    FnOk P w K mg base CX0 (k + 1) f fd ps (spF K (N.length - ps.length) ps.length bd) := by
  refine F.ok S (fun vs H Q E h => h.1) fun cdv A outer s H vs Q E hr h => ⟨_, hb cdv A outer s H E hr, ?_⟩
  obtain ⟨hl, ce, r, As, L, e, hd, q⟩ := h
  refine ⟨_, r, As, L, e, ?_, ?_⟩
  · unfold L2.start; rw [hl]; exact hd
  · unfold L2.start; rw [hl]; exact q
/-! ### keywords -/
theorem _root_.L2.PK.wk {kws : List Keyword} {t t' : TA} (h : PK X kws t) (w : ∀ σ H Q, t' σ H Q → t σ H Q) : PK X kws t' := ⟨fun pos pins s σ H Q I q => h.run pos pins s σ H Q I (w σ H Q q)⟩
theorem kg_nil : PK X [] (tAg X.K false false agNil) := pk_nil.wk fun σ H Q ⟨env, rs, env', As, L, e, hd, q⟩ => by
  cases e
  exact q [] H As (Pst.refl hd) Nm.refl .nil fun _ => rfl
theorem kg_va {nm : Option Str} {kpos : Pos} {s : SP} {t : SAg} (ha : PE X a (tF X.K ma s)) (hr : PK X kws (tAg X.K mb bw t)) : PK X (⟨nm, a, kpos⟩ :: kws) (tAg X.K (ma || mb) bw (agVa s t)) := (pk_cons ha hr).wk va_wk
theorem kg_bo {nm : Option Str} {kpos : Pos} {i : Nat} {t : SAg} (ha : PE X a (tVar i)) (hr : PK X kws (tAg X.K mb bw t)) : PK X (⟨nm, a, kpos⟩ :: kws) (tAg X.K mb true (agBo i t)) := (pk_cons ha hr).wk bo_wk
/-- positional ones, then those by name; g puts them into the parameters' order -/
def agKw (g : List Ag → List Ag → List Ag) (s t : SAg) : SAg := fun env => match s env with
  | some (as, e1) => match t e1 with
    | some (bs, e2) => some (g as bs, e2)
    | none => none
  | none => none
/-- an order that is natural -/
structure Ord (gV : List V → List V → List V) (g : List Ag → List Ag → List Ag) : Prop where
  rel : ∀ {K H σ F vs as ws bs}, RepG K H σ F vs as → RepG K H σ F ws bs → RepG K H σ F (gV vs ws) (g as bs)
  nobo : ∀ {as bs}, agI as = [] → agI bs = [] → agI (g as bs) = []
theorem kw_wk {gV : List V → List V → List V} {g : List Ag → List Ag → List Ag} (og : Ord gV g) {s t : SAg} {bv : Bool} {σ : St} {H : Hp} {Q : List V → Hp → Prop} : tAg X.K (ma || mb) (bw || bv) (agKw g s t) σ H Q → tAg X.K ma bw s σ H fun vs H1 => tAg X.K mb bv t σ H1 fun zs H2 => Q (gV vs zs) H2 := by
  rintro ⟨env, rs, env', As, L, e, hd, q⟩
  unfold agKw at e
  split at e
  · rename_i as e1 h1
    split at e
    · rename_i bs e2 h2
      cases e
      refine ⟨env, as, e1, As, L, h1, hd, fun vs H1 As1 P1 n1 r1 b1 => ⟨e1, bs, env', As1, L, h2, P1.hd0, fun zs H2 As2 P2 n2 r2 b2 => ?_⟩⟩
      exact q _ H2 As2 (P1.seq P2) (n1.trans n2) (og.rel (RepG.keep P2 r1) r2) fun z => og.nobo (b1 (Bool.or_eq_false_iff.mp z).1) (b2 (Bool.or_eq_false_iff.mp z).2)
    · cases e
  · cases e
theorem e_callK {gv : List Value → List Value → List Value} {gV : List V → List V → List V} {g : List Ag → List Ag → List Ag} {t : SAg} {bv : Bool} (og : Ord gV g) (F : FnOk X.prog X.w X.K X.mg X.base CX0 k f fd ps (spF X.K n ps.length bd)) (hr : Room k X.A) (hg : Gl X x) (hm : X.mg x = some (.ref f)) (hk : PySem.W.keepIn X.K (.ref f) = true) (hb : KBinds X.K fd ps ks gv gV)
    (ha : PA X (e :: es) (tAg X.K ma bw s)) (hkw : PK X kws (tAg X.K mb bv t)) (hall : (backToKw pos (keywordEach kws X.env)).all (·.1.isSome) = true := by rfl) (hks : (backToKw pos (keywordEach kws X.env)).filterMap (·.1) = ks := by rfl)
    (hdb : (x == ("__debug__" : Str)) = false := by decide) (he : starEach (e :: es) X.env = (false, eval e X.env) :: starEach es X.env := by rfl)
    (hpl : ((backTo pos (starEach (e :: es) X.env)).any (·.1) || (backToKw pos (keywordEach kws X.env)).any (·.1.isNone)) = false := by rfl) :
    PE X (.Call (.Name x p) (e :: es) kws pos) (tE X.K ((ma || mb) || (bw || bv)) (sCall n ps.length bd (agKw g s t))) := (pe_callK F hr hg hm hk hb pass0 ha hkw hall hks hdb he hpl).wk fun σ H Q h => kw_wk (X := X) og (call_core (X := X) E0 h)
/-- f(k = v, ..) -/
theorem pe_callK0 {E : XK} {sp : Sp} {CX : CXT} {gv : List Value → List Value → List Value} {gV : List V → List V → List V} {tk : TA} (F : FnOk X.prog X.w X.K X.mg X.base CX k f fd ps sp) (hr : Room k X.A) (hg : Gl X x) (hm : X.mg x = some (.ref f)) (hk : PySem.W.keepIn X.K (.ref f) = true) (hb : KBinds X.K fd ps ks gv gV) (hx : Passes CX X E)
    (hkw : PK X kws tk) (hall : (backToKw pos (keywordEach kws X.env)).all (·.1.isSome) = true := by rfl) (hks : (backToKw pos (keywordEach kws X.env)).filterMap (·.1) = ks := by rfl)
    (hdb : (x == ("__debug__" : Str)) = false := by decide)
    (hpl : ((backTo pos (starEach [] X.env)).any (·.1) || (backToKw pos (keywordEach kws X.env)).any (·.1.isNone)) = false := by rfl) :
    PE X (.Call (.Name x p) [] kws pos) (fun σ H Q => tk σ H fun zs H2 => sp (gV [] zs) H2 Q E) := by
  refine ⟨fun pins s σ H Q I h => ?_⟩
  refine wpAny_Call_Name_kw (ld_glob I hg hm ?_ hdb)
  refine PySem.W.callWith_KW0 (h₀ := X.base) I.ok.mod.kin hk hall ?_ hpl
  refine thn (hkw.run pos pins s σ H _ I h) fun ws s2 ⟨zs, H2, I2, rz, q2⟩ => ⟨I2.kIn, ?_⟩
  rw [hks]
  exact run_fnk F hr hb hx I2 .nil rz q2
theorem e_callK0 {gv : List Value → List Value → List Value} {gV : List V → List V → List V} {g : List Ag → List Ag → List Ag} {t : SAg} {bv : Bool} (og : Ord gV g) (F : FnOk X.prog X.w X.K X.mg X.base CX0 k f fd ps (spF X.K n ps.length bd)) (hr : Room k X.A) (hg : Gl X x) (hm : X.mg x = some (.ref f)) (hk : PySem.W.keepIn X.K (.ref f) = true) (hb : KBinds X.K fd ps ks gv gV)
    (hkw : PK X kws (tAg X.K mb bv t)) (hall : (backToKw pos (keywordEach kws X.env)).all (·.1.isSome) = true := by rfl) (hks : (backToKw pos (keywordEach kws X.env)).filterMap (·.1) = ks := by rfl)
    (hdb : (x == ("__debug__" : Str)) = false := by decide)
    (hpl : ((backTo pos (starEach [] X.env)).any (·.1) || (backToKw pos (keywordEach kws X.env)).any (·.1.isNone)) = false := by rfl) :
    PE X (.Call (.Name x p) [] kws pos) (tE X.K (mb || bv) (sCall n ps.length bd (agKw g agNil t))) := (pe_callK0 F hr hg hm hk hb pass0 hkw hall hks hdb hpl).wk fun σ H Q h => by
  obtain ⟨env, ags, e1, As, L, h1, hd, q⟩ := kw_wk (X := X) (ma := false) (bw := false) og (call_core (X := X) (ma := false || mb) (bw := false || bv) E0 h)
  cases h1
  exact q [] H As (Pst.refl hd) Nm.refl .nil fun _ => rfl
end
end Ev
set_option Elab.async false
set_option linter.all false
set_option autoImplicit false
set_option maxRecDepth 100000
set_option maxHeartbeats 4000000
/-! Ev15: o[i] = v in lists and dicts. -/
namespace Ev
open PySem PySem.Spec L2

theorem nodup_swap {α : Type} {A B C E : List α} (h : ((A ++ (B ++ C)) ++ E).Nodup) : (A ++ (E ++ C)).Nodup := by
  have h1 := List.nodup_append.mp h
  have h2 := List.nodup_append.mp h1.1
  have h3 := List.nodup_append.mp h2.2.1
  refine List.nodup_append.mpr ⟨h2.1, List.nodup_append.mpr ⟨h1.2.1, h3.2.1, fun a m b m' e => ?_⟩, fun a m b m' e => ?_⟩
  · subst e; exact h1.2.2 a (List.mem_append_right _ (List.mem_append_right _ m')) a m rfl
  · subst e
    rcases List.mem_append.mp m' with m' | m'
    · exact h1.2.2 a (List.mem_append_left _ m) a m' rfl
    · exact h2.2.2 a m a (List.mem_append_right _ m') rfl
section
variable {K : PySem.W.Frag} {H : Hp} {F : Addr → Prop}
theorem RepOs.nthSet {k : Nat} : ∀ {vs : List V} {ds : List D} {B : List Addr} {j : Nat}, RepOs K H F k vs ds B → j < ds.length → ∃ B0 B1 B2, B = B0 ++ (B1 ++ B2) ∧
    ∀ (H' : Hp) (F' : Addr → Prop) (v' : V) (d' : D) (C : List Addr), (∀ p o, H p = some o → ¬ F p → H' p = some o ∧ ¬ F' p) → (∀ p xs, H p = some (.tup xs) → H' p = some (.tup xs)) → (∀ p ∈ B0 ++ B2, ∀ o, H p = some o → H' p = some o) → RepO K H' F' k v' d' C → RepOs K H' F' k (vs.set j v') (ds.set j d') (B0 ++ (C ++ B2))
  | _, _, _, _, .nil, e => by simp at e
  | _, _, _, 0, .cons (B := B) (C := C0) r rs, e => by
    refine ⟨[], B, C0, by simp, fun H' F' v' d' C h ht hB r' => ?_⟩
    simp only [List.nil_append, List.set_cons_zero]
    exact .cons r' (rs.to h ht fun p m => hB p (by simpa using m))
  | _, _, _, j + 1, .cons (B := B) (C := C0) r rs, e => by
    obtain ⟨B0, B1, B2, h2, h4⟩ := RepOs.nthSet (j := j) rs (by simpa using e)
    refine ⟨B ++ B0, B1, B2, by rw [h2]; simp, fun H' F' v' d' C h ht hB r' => ?_⟩
    simp only [List.set_cons_succ]
    rw [List.append_assoc]
    exact .cons (r.to h ht fun p m => hB p (List.mem_append_left _ (List.mem_append_left _ m))) (h4 H' F' v' d' C h ht (fun p m => hB p (by
      rcases List.mem_append.mp m with m | m
      · exact List.mem_append_left _ (List.mem_append_right _ m)
      · exact List.mem_append_right _ m)) r')
theorem RepO.zeroB {v : V} {d : D} {B : List Addr} (r : RepO K H F 0 v d B) : B = [] ∧ RepD K H F v d := by cases r with | zero r => exact ⟨rfl, r⟩
theorem RepOs.zeroB : ∀ {vs : List V} {ds : List D} {B : List Addr}, RepOs K H F 0 vs ds B → B = [] ∧ RepDs K H F vs ds
  | _, _, _, .nil => ⟨rfl, .nil⟩
  | _, _, _, .cons r rs => by
    obtain ⟨e1, r1⟩ := r.zeroB
    obtain ⟨e2, r2⟩ := RepOs.zeroB rs
    subst e1 e2
    exact ⟨rfl, .cons r1 r2⟩
theorem RepOs.ofDs : ∀ {vs : List V} {ds : List D}, RepDs K H F vs ds → RepOs K H F 0 vs ds []
  | _, _, .nil => .nil
  | _, _, .cons r rs => .cons (B := []) (C := []) (.zero r) (RepOs.ofDs rs)
theorem any_keys {κ α β : Type} [DecidableEq κ] (k : κ) : ∀ {kvs : List (κ × α)} {kds : List (κ × β)}, kvs.map (·.1) = kds.map (·.1) → (kvs.any fun kv => decide (kv.1 = k)) = kds.any fun kv => decide (kv.1 = k)
  | [], [], _ => rfl
  | [], _ :: _, h => by simp at h
  | _ :: _, [], h => by simp at h
  | p :: r, q :: t, h => by
    simp only [List.map_cons, List.cons.injEq] at h
    simp only [List.any_cons, h.1, any_keys k h.2]
theorem rep_mapK {κ : Type} [DecidableEq κ] (k : κ) {y : V} {d : D} (ry : RepD K H F y d) : ∀ {kvs : List (κ × V)} {kds : List (κ × D)}, kvs.map (·.1) = kds.map (·.1) → RepDs K H F (kvs.map (·.2)) (kds.map (·.2)) →
    (kvs.map fun kv => if kv.1 = k then (kv.1, y) else kv).map (·.1) = (kds.map fun kv => if kv.1 = k then (kv.1, d) else kv).map (·.1) ∧ RepDs K H F ((kvs.map fun kv => if kv.1 = k then (kv.1, y) else kv).map (·.2)) ((kds.map fun kv => if kv.1 = k then (kv.1, d) else kv).map (·.2))
  | [], [], _, _ => ⟨rfl, .nil⟩
  | [], _ :: _, h, _ => by simp at h
  | _ :: _, [], h, _ => by simp at h
  | p :: r, q :: t, h, .cons r1 rs => by
    simp only [List.map_cons, List.cons.injEq] at h
    obtain ⟨i1, i2⟩ := rep_mapK k ry h.2 rs
    simp only [List.map_cons]
    by_cases e : q.1 = k
    · rw [if_pos (h.1.trans e), if_pos e]
      exact ⟨by simp only [h.1, i1], .cons ry i2⟩
    · rw [if_neg (fun z => e (h.1.symm.trans z)), if_neg e]
      exact ⟨by simp only [h.1, i1], .cons r1 i2⟩
theorem put_set {κ β : Type} [DecidableEq κ] {k : κ} {y : β} : ∀ {kvs : List (κ × β)} {n : Nat}, (kvs.map (·.1)).Nodup → (kvs.map (·.1))[n]? = some k → (putK kvs k y).map (·.2) = (kvs.map (·.2)).set n y ∧ (putK kvs k y).map (·.1) = kvs.map (·.1)
  | [], _, _, h => by simp at h
  | p :: r, 0, hn, h => by
    have e : p.1 = k := by simpa using h
    have no : ∀ kv ∈ r, kv.1 ≠ k := fun kv m z => (List.nodup_cons.mp hn).1 (by show p.1 ∈ _; rw [e, ← z]; exact List.mem_map.mpr ⟨kv, m, rfl⟩)
    have e1 : r.map (fun kv => if kv.1 = k then (kv.1, y) else kv) = r := by
      conv => rhs; rw [← List.map_id r]
      exact List.map_congr_left fun kv m => by rw [if_neg (no kv m)]; rfl
    unfold putK
    rw [if_pos (by simp [e])]
    simp only [List.map_cons, if_pos e, e1, List.set_cons_zero]
    exact ⟨trivial, trivial⟩
  | p :: r, n + 1, hn, h => by
    have h' : (r.map (·.1))[n]? = some k := by simpa using h
    have hp : p.1 ≠ k := fun z => (List.nodup_cons.mp hn).1 (by show p.1 ∈ _; rw [z]; exact List.mem_of_getElem? h')
    have ha : (r.any fun kv => decide (kv.1 = k)) = true := by
      obtain ⟨kv, m, e⟩ := List.mem_map.mp (List.mem_of_getElem? h')
      exact List.any_eq_true.mpr ⟨kv, m, decide_eq_true e⟩
    obtain ⟨i1, i2⟩ := put_set (y := y) (List.nodup_cons.mp hn).2 h'
    unfold putK at i1 i2 ⊢
    rw [if_pos ha] at i1 i2
    rw [if_pos (by rw [List.any_cons, ha, Bool.or_true])]
    simp only [List.map_cons, if_neg hp, List.set_cons_succ]
    exact ⟨by rw [i1], by rw [i2]⟩
/-- a key is put -/
theorem RepOs.put {κ : Type} [DecidableEq κ] {j : Nat} (k : κ) {kvs : List (κ × V)} {kds : List (κ × D)} {E : List Addr} (hk : kvs.map (·.1) = kds.map (·.1)) (rs : RepOs K H F j (kvs.map (·.2)) (kds.map (·.2)) E) (hj : j = 0 ∨ (kds.map (·.1)).Nodup) (C : List Addr) :
    ∃ E', (∀ a ∈ E', a ∈ E ∨ a ∈ C) ∧ ((E ++ C).Nodup → E'.Nodup) ∧ ∀ (H' : Hp) (F' : Addr → Prop) (y : V) (d : D), (∀ p o, H p = some o → ¬ F p → H' p = some o ∧ ¬ F' p) → (∀ p xs, H p = some (.tup xs) → H' p = some (.tup xs)) → (∀ p ∈ E, ∀ o, H p = some o → H' p = some o) → RepO K H' F' j y d C →
      (L2.putK kvs k y).map (·.1) = (putK kds k d).map (·.1) ∧ RepOs K H' F' j ((L2.putK kvs k y).map (·.2)) ((putK kds k d).map (·.2)) E' := by
  have ha := any_keys k hk
  have app : (kds.any fun kv => decide (kv.1 = k)) = false → ∀ (H' : Hp) (F' : Addr → Prop) (y : V) (d : D), (∀ p o, H p = some o → ¬ F p → H' p = some o ∧ ¬ F' p) → (∀ p xs, H p = some (.tup xs) → H' p = some (.tup xs)) → (∀ p ∈ E, ∀ o, H p = some o → H' p = some o) → RepO K H' F' j y d C →
      (L2.putK kvs k y).map (·.1) = (putK kds k d).map (·.1) ∧ RepOs K H' F' j ((L2.putK kvs k y).map (·.2)) ((putK kds k d).map (·.2)) (E ++ C) := fun hf H' F' y d tr tt kp ry => by
    unfold L2.putK putK
    rw [ha, hf, if_neg (by simp), if_neg (by simp)]
    simp only [List.map_append, List.map_cons, List.map_nil]
    exact ⟨by rw [hk], (rs.to tr tt kp).app (RepOs.one ry)⟩
  by_cases hf : (kds.any fun kv => decide (kv.1 = k)) = true
  · rcases hj with hj | hn
    · subst hj
      obtain ⟨eE, rd⟩ := rs.zeroB
      subst eE
      refine ⟨C, fun a m => .inr m, fun h => by simpa using h, fun H' F' y d tr tt kp ry => ?_⟩
      obtain ⟨eC, _⟩ := ry.zeroB
      subst eC
      have ry1 := ry.zeroB.2
      obtain ⟨i1, i2⟩ := rep_mapK k ry1 hk (rd.to tr tt)
      unfold L2.putK putK
      rw [ha, hf, if_pos rfl, if_pos rfl]
      exact ⟨i1, RepOs.ofDs i2⟩
    · obtain ⟨n, hn1⟩ : ∃ n, (kds.map (·.1))[n]? = some k := by
        obtain ⟨kv, m, e⟩ := List.any_eq_true.mp hf
        obtain ⟨n, hlt, en⟩ := List.mem_iff_getElem.mp m
        refine ⟨n, ?_⟩
        rw [List.getElem?_map, List.getElem?_eq_getElem hlt, en]
        exact congrArg some (of_decide_eq_true e)
      have hlt : n < (kds.map (·.2)).length := by
        have := (List.getElem?_eq_some_iff.mp hn1).1
        simpa using this
      obtain ⟨B0, B1, B2, hB, h4⟩ := rs.nthSet hlt
      subst hB
      refine ⟨B0 ++ (C ++ B2), fun a m => ?_, nodup_swap, fun H' F' y d tr tt kp ry => ?_⟩
      · rcases List.mem_append.mp m with m | m
        · exact .inl (List.mem_append_left _ m)
        · rcases List.mem_append.mp m with m | m
          · exact .inr m
          · exact .inl (List.mem_append_right _ (List.mem_append_right _ m))
      · obtain ⟨i1, i2⟩ := put_set (y := d) hn hn1
        obtain ⟨e1, e2⟩ := put_set (kvs := kvs) (y := y) (by rw [hk]; exact hn) (by rw [hk]; exact hn1)
        refine ⟨e2.trans (hk.trans i2.symm), ?_⟩
        show RepOs K H' F' j ((putK kvs k y).map (·.2)) _ _
        rw [e1, i1]
        exact h4 H' F' y d C tr tt (fun p m => kp p (by
          rcases List.mem_append.mp m with m | m
          · exact List.mem_append_left _ m
          · exact List.mem_append_right _ (List.mem_append_right _ m))) ry
  · exact ⟨E ++ C, fun a m => List.mem_append.mp m, id, fun H' F' y d tr tt kp ry => app (by cases z : (kds.any fun kv => decide (kv.1 = k)) with | true => exact absurd z hf | false => rfl) H' F' y d tr tt kp ry⟩
end
end Ev
set_option Elab.async false
set_option linter.all false
set_option autoImplicit false
set_option maxRecDepth 100000
set_option maxHeartbeats 4000000
/-! Ev16: the target o[i]. -/
namespace Ev
open PySem PySem.Spec L2

def gPut (j : Nat) (d key v : D) : Option D := match d with
  | .lst ds => match key with
    | .int i => match ixN ds.length i with
      | some n => some (.lst (ds.set n v))
      | none => none
    | _ => none
  | .dK kvs => match kD key with
    | some k => if kvs.length < 16777216 ∧ (j = 0 ∨ (kvs.map (·.1)).Nodup) then some (.dK (putK kvs k v)) else none
    | none => none
  | .dT kvs => match tD key with
    | some k => if kvs.length < 16777216 ∧ (j = 0 ∨ (kvs.map (·.1)).Nodup) then some (.dT (putK kvs k v)) else none
    | none => none
  | _ => none
/-- a place that may be changed: what lies there, the level of its items -/
def atPl (i : Nat) (path : Option D) (e : En) : Option (Slot × D × Nat) := match e[i]? with
  | some (some sl) => if sl.m ≠ 2 ∧ okP sl.d path = true ∧ depP path + 1 ≤ sl.k then match subP sl.d path with
      | some d => some (sl, d, sl.k - depP path - 1)
      | _ => none
    else none
  | _ => none
theorem atPl_some {i : Nat} {path : Option D} {e : En} {sl : Slot} {d : D} {j : Nat} (h : atPl i path e = some (sl, d, j)) : e[i]? = some (some sl) ∧ sl.m ≠ 2 ∧ okP sl.d path = true ∧ subP sl.d path = some d ∧ sl.k = (j + 1) + depP path := by
  unfold atPl at h
  split at h
  · rename_i s hs
    split at h
    · rename_i hc
      split at h
      · rename_i ds' hd
        cases h
        exact ⟨hs, hc.1, hc.2.1, hd, by have := hc.2.2; omega⟩
      · cases h
    · cases h
  · cases h
theorem Pst.putAt {K : PySem.W.Frag} {σ0 σ : St} {env0 env : En} {H0 H : Hp} {As0 As : Own} {L : Addr → Prop} {B : List Addr} (P : Pst K σ0 env0 H0 As0 L σ env H As B) {i j : Nat} {path : Option D} {sl : Slot} {d d' : D} {u : V} {q : Addr} {y : V} {r : Rv} {o' : HO}
    (h : atPl i path env = some (sl, d, j)) (hf : fitsJ j r = true) (hu : σ[i]? = some (some u)) (hat : AtP H u path (.ref q)) (ry : RepO K H (Fb As (plusL L B)) r.2 y r.1 B) (nf : ∀ ob u, o' ≠ .frz ob u)
    (hcont : ∀ B1, RepO K H (Fb As (plusL L B)) (j + 1) (.ref q) d B1 → ∃ E, B1 = q :: E ∧ ∀ Cv, ∃ E', (∀ a ∈ E', a ∈ E ∨ a ∈ Cv) ∧ ((E ++ Cv).Nodup → E'.Nodup) ∧ ∀ (H' : Hp) (F' : Addr → Prop), (∀ p o, H p = some o → ¬ Fb As (plusL L B) p → H' p = some o ∧ ¬ F' p) → (∀ p xs, H p = some (.tup xs) → H' p = some (.tup xs)) →
      (∀ p ∈ E, ∀ o, H p = some o → H' p = some o) → H' q = some o' → RepO K H' F' j y r.1 Cv → RepO K H' F' (j + 1) (.ref q) d' (q :: E')) :
    ∃ C, Pst K σ0 env0 H0 As0 L σ (env.set i (some { sl with d := putP sl.d path d' })) (upd H q o') (putA As i C) [] := by
  obtain ⟨h1, h2, h3, h4, h5⟩ := atPl_some h
  obtain ⟨C, R, P2, hR⟩ := P.opAt (Pp := fun R _ => R = []) (o' := o') (d1' := d') h1 h2 hu hat h4 h3 h5 nf (fun B1 r1 hn hd => by
    obtain ⟨E, e1, hE⟩ := hcont B1 r1
    subst e1
    have hn' := List.nodup_cons.mp hn
    have hqB : q ∉ B := hd q (List.mem_cons_self ..)
    have keepB : ∀ p ∈ B, ∀ o, H p = some o → upd H q o' p = some o := fun p m o e => by rw [upd_ne (fun w => hqB (by rw [← w]; exact m))]; exact e
    have keepE : ∀ p ∈ E, ∀ o, H p = some o → upd H q o' p = some o := fun p m o e => by rw [upd_ne (fun w => hn'.1 (by rw [← w]; exact m))]; exact e
    by_cases z : j = 0 ∨ r.1.imm = true
    · obtain ⟨E', i1, i2, i3⟩ := hE []
      have inE : ∀ a ∈ E', a ∈ E := fun a m => (i1 a m).elim id fun w => nomatch w
      refine ⟨q :: E', [], fun a m => .inl ?_, ?_, List.mem_cons_self .., fun F' tr tt hs nF => ⟨i3 _ F' tr tt keepE upd_same ?_, rfl⟩⟩
      · rw [List.append_nil] at m
        rcases List.mem_cons.mp m with rfl | m
        · exact List.mem_cons_self ..
        · exact List.mem_cons_of_mem _ (inE a m)
      · rw [List.append_nil]
        exact List.nodup_cons.mpr ⟨fun m => hn'.1 (inE q m), i2 (by rw [List.append_nil]; exact hn'.2)⟩
      · have e6 := ry.to tr tt keepB
        refine RepO.lift (e6.frozen (F' := F') (fun _ w => w) fun a m => nF a (.inr m) fun w => ?_) z
        rw [List.append_nil] at w
        rcases List.mem_cons.mp w with rfl | w
        · exact hqB m
        · exact hd a (List.mem_cons_of_mem _ (inE a w)) m
    · have zj : r.2 = j := by
        unfold fitsJ at hf
        simp only [Bool.or_eq_true, decide_eq_true_eq] at hf
        rcases hf with w | w | w
        · exact absurd (.inl w) z
        · exact w
        · exact absurd (.inr w) z
      obtain ⟨E', i1, i2, i3⟩ := hE B
      refine ⟨q :: E', [], fun a m => ?_, ?_, List.mem_cons_self .., fun F' tr tt hs nF => ⟨i3 _ F' tr tt keepE upd_same ?_, rfl⟩⟩
      · rw [List.append_nil] at m
        rcases List.mem_cons.mp m with rfl | m
        · exact .inl (List.mem_cons_self ..)
        · exact (i1 a m).imp (List.mem_cons_of_mem _) id
      · rw [List.append_nil]
        refine List.nodup_cons.mpr ⟨fun m => (i1 q m).elim hn'.1 hqB, i2 (List.nodup_append.mpr ⟨hn'.2, P.bn, fun a m b m' e => ?_⟩)⟩
        subst e
        exact hd a (List.mem_cons_of_mem _ m) m'
      · rw [← zj]
        exact ry.to tr tt keepB)
  subst hR
  exact ⟨C, P2⟩
theorem dK_inv {K : PySem.W.Frag} {H : Hp} {F : Addr → Prop} {j : Nat} {v : V} {kds : List (Key × D)} {B : List Addr} (r : RepO K H F (j + 1) v (.dK kds) B) : ∃ p kvs E, v = .ref p ∧ Rd H p (.dK kvs) ∧ kvs.map (·.1) = kds.map (·.1) ∧ RepOs K H F j (kvs.map (·.2)) (kds.map (·.2)) E ∧ B = p :: E := by
  cases r with
  | flat h _ => cases h
  | dK e hk rs => exact ⟨_, _, _, rfl, e, hk, rs, rfl⟩
theorem dT_inv {K : PySem.W.Frag} {H : Hp} {F : Addr → Prop} {j : Nat} {v : V} {kds : List (List Key × D)} {B : List Addr} (r : RepO K H F (j + 1) v (.dT kds) B) : ∃ p kvs E, v = .ref p ∧ Rd H p (.dT kvs) ∧ kvs.map (·.1) = kds.map (·.1) ∧ RepOs K H F j (kvs.map (·.2)) (kds.map (·.2)) E ∧ B = p :: E := by
  cases r with
  | flat h _ => cases h
  | dT e hk rs => exact ⟨_, _, _, rfl, e, hk, rs, rfl⟩
theorem ixN_lt {n : Nat} {i : Int} {j : Nat} (h : ixN n i = some j) : j < n := by
  unfold ixN at h
  split at h <;> (try split at h) <;> (try cases h) <;> omega
theorem tD_rep {K : PySem.W.Frag} {H : Hp} {F : Addr → Prop} {v : V} {d : D} {k : List Key} (r : RepD K H F v d) (h : tD d = some k) : ∃ b, v = .ref b ∧ H b = some (.tup (k.map kV)) := by
  unfold tD at h
  split at h
  · cases r with
    | tup e rs => exact ⟨_, rfl, by rw [← kDs_rep rs h]; exact e⟩
  · cases h
/-- the heap behind o[i] = v -/
def rSetA (o i v : V) (H H' : Hp) : Prop := (∃ p xs k j, o = .ref p ∧ i = .int k ∧ H p = some (.lst xs) ∧ ixN xs.length k = some j ∧ H' = upd H p (.lst (xs.set j v))) ∨ ∃ a, o = .ref a ∧ DPut H a i v H'
section
variable {X : Cx} {a b : Expr} {es : List Expr} {ma mb : Bool} {pos : Pos}
theorem set_any (hu : X.A.units + 1 < cLine) : PSet X (fun o i v H Q => ∃ H', rSetA o i v H H' ∧ Q H') := by
  intro pins s σ H o i v ov iv u Q I ro ri rv h
  obtain ⟨H', h, q⟩ := h
  rcases h with ⟨p, xs, k, j, e1, e2, e3, e4, e5⟩ | ⟨a, e1, g⟩
  · subst e5
    exact set_list pins s σ H o i v ov iv u Q I ro ri rv ⟨p, xs, k, j, e1, e2, e3, e4, q⟩
  · subst e1
    cases ro
    exact d_setItem hu I g ri rv fun s' I' => ⟨H', I', q⟩
theorem put_end {K : PySem.W.Frag} {σ0 σ : St} {env0 env : En} {H0 H : Hp} {As0 As : Own} {L : Addr → Prop} {B : List Addr} (P : Pst K σ0 env0 H0 As0 L σ env H As B) {i j : Nat} {path : Option D} {sl : Slot} {d d' key : D} {u o kv y : V} {r : Rv}
    (h : atPl i path env = some (sl, d, j)) (hf : fitsJ j r = true) (hp : gPut j d key r.1 = some d') (hu : σ[i]? = some (some u)) (hat : AtP H u path o) (rk : RepV K H kv key) (ry : RepO K H (Fb As (plusL L B)) r.2 y r.1 B) :
    ∃ H', rSetA o kv y H H' ∧ ∃ C, Pst K σ0 env0 H0 As0 L σ (env.set i (some { sl with d := putP sl.d path d' })) H' (putA As i C) [] := by
  obtain ⟨h1, h2, h3, h4, h5⟩ := atPl_some h
  obtain ⟨u', eu, ro⟩ := P.hd.rep i sl h1
  rw [hu] at eu
  cases eu
  have ro' := ro
  rw [h5] at ro'
  obtain ⟨B0, B1, B2, hB, r1, _⟩ := ro'.focus h4 h3 hat
  have inA : ∀ a ∈ B1, a ∈ As i := fun a m => by rw [hB]; exact List.mem_append_right _ (List.mem_append_left _ m)
  unfold gPut at hp
  split at hp
  · rename_i ds
    split at hp
    · rename_i ix
      split at hp
      · rename_i n hn
        cases hp
        obtain ⟨q, vs, E, e1, e2, e3, e4⟩ := lst_inv r1
        subst e1
        have ek := intRep rk
        refine ⟨_, .inl ⟨q, vs, ix, n, rfl, ek, e2, by rw [e4.length]; exact hn, rfl⟩, P.putAt h hf hu hat ry (fun _ _ z => nomatch z) fun B1' r1' => ?_⟩
        obtain ⟨q', vs', E', g1, g2, g3, g4⟩ := lst_inv r1'
        cases g1
        rw [e2] at g2
        cases g2
        subst g3
        refine ⟨E', rfl, fun Cv => ?_⟩
        have hlt : n < ds.length := ixN_lt hn
        obtain ⟨C0, C1, C2, hC, nth⟩ := g4.nthSet hlt
        subst hC
        refine ⟨C0 ++ (Cv ++ C2), fun a m => ?_, nodup_swap, fun H' F' tr tt kp eq rv => .lst eq (nth H' F' y r.1 Cv tr tt (fun p m => kp p ?_) rv)⟩
        · rcases List.mem_append.mp m with m | m
          · exact .inl (List.mem_append_left _ m)
          · rcases List.mem_append.mp m with m | m
            · exact .inr m
            · exact .inl (List.mem_append_right _ (List.mem_append_right _ m))
        · rcases List.mem_append.mp m with m | m
          · exact List.mem_append_left _ m
          · exact List.mem_append_right _ (List.mem_append_right _ m)
      · cases hp
    · cases hp
  · rename_i kds
    split at hp
    · rename_i k hk
      split at hp
      · rename_i hc
        cases hp
        obtain ⟨q, kvs, E, eo, e, hkk, rs, eB⟩ := dK_inv r1
        subst eo eB
        · have e' : H q = some (.dK kvs) := by
            rcases e with e | ⟨ob, e⟩
            · exact e
            · exact absurd e ((P.hd.ow i sl h1 h2 q (inA q (List.mem_cons_self ..))).2 _ _)
          have hl : kvs.length = kds.length := by have := congrArg List.length hkk; simpa using this
          refine ⟨_, .inr ⟨q, rfl, .inl ⟨kvs, k, e', kD_rep rk hk, by rw [hl]; exact hc.1, rfl⟩⟩, P.putAt h hf hu hat ry (fun _ _ z => nomatch z) fun B1' r1' => ?_⟩
          obtain ⟨q', kvs', E', eo', g, gk, gs, eB'⟩ := dK_inv r1'
          cases eo'
          subst eB'
          · have ek : kvs' = kvs := by
              rcases g with g | ⟨ob, g⟩
              · rw [e'] at g; cases g; rfl
              · rw [e'] at g; cases g
            subst ek
            refine ⟨E', rfl, fun Cv => ?_⟩
            obtain ⟨E2, i1, i2, i3⟩ := gs.put k gk hc.2 Cv
            exact ⟨E2, i1, i2, fun H' F' tr tt kp eq rv => by
              obtain ⟨w1, w2⟩ := i3 H' F' y r.1 tr tt kp rv
              exact .dK (.inl eq) w1 w2⟩
      · cases hp
    · cases hp
  · rename_i kds
    split at hp
    · rename_i k hk
      split at hp
      · rename_i hc
        cases hp
        obtain ⟨q, kvs, E, eo, e, hkk, rs, eB⟩ := dT_inv r1
        subst eo eB
        · have e' : H q = some (.dT kvs) := by
            rcases e with e | ⟨ob, e⟩
            · exact e
            · exact absurd e ((P.hd.ow i sl h1 h2 q (inA q (List.mem_cons_self ..))).2 _ _)
          have hl : kvs.length = kds.length := by have := congrArg List.length hkk; simpa using this
          obtain ⟨b, eb, hb⟩ := tD_rep rk hk
          refine ⟨_, .inr ⟨q, rfl, .inr ⟨kvs, k, b, e', eb, hb, by rw [hl]; exact hc.1, rfl⟩⟩, P.putAt h hf hu hat ry (fun _ _ z => nomatch z) fun B1' r1' => ?_⟩
          obtain ⟨q', kvs', E', eo', g, gk, gs, eB'⟩ := dT_inv r1'
          cases eo'
          subst eB'
          · have ek : kvs' = kvs := by
              rcases g with g | ⟨ob, g⟩
              · rw [e'] at g; cases g; rfl
              · rw [e'] at g; cases g
            subst ek
            refine ⟨E', rfl, fun Cv => ?_⟩
            obtain ⟨E2, i1, i2, i3⟩ := gs.put k gk hc.2 Cv
            exact ⟨E2, i1, i2, fun H' F' tr tt kp eq rv => by
              obtain ⟨w1, w2⟩ := i3 H' F' y r.1 tr tt kp rv
              exact .dT (.inl eq) w1 w2⟩
      · cases hp
    · cases hp
  · cases hp
/-- the target o[i], o a name or an item of one -/
def gPutT (i : Nat) (pl : SPl) (s : SP) : SG := fun r env => match pl env with
  | some (path, e1) => match s e1 with
    | some (key, e2) => match atPl i path e2 with
      | some (sl, d, j) => if fitsJ j r = true then match gPut j d key r.1 with
          | some d' => some (e2.set i (some { sl with d := putP sl.d path d' }))
          | none => none
        else none
      | none => none
    | none => none
  | none => none
theorem g_sub {i : Nat} {pl : SPl} {s : SP} (hu : X.A.units + 1 < cLine) (ho : PE X a (tPl X.K i pl)) (hi : PE X b (tP X.K false s))
    (ha : ∀ v, assign (.Subscript a b pos) X.env v = (do
      let ov ← holding [v] (eval a X.env)
      let iv ← holding [v, ov] (eval b X.env)
      standAt pos
      holding [v, ov, iv] (setItem ov iv v)
      release [v, ov, iv] []) := by intro _; rfl) : PG X (.Subscript a b pos) (tG X.K true [] (gPutT i pl s)) := (pg_sub ho hi (set_any hu) ha).wk fun v σ H Q ⟨σ0, env0, H0, As0, L, env, r, env', As, B, e, P, ro, q⟩ => by
  unfold gPutT at e
  split at e
  · rename_i path e1 h1
    split at e
    · rename_i key e2 h2
      split at e
      · rename_i sl d j h3
        split at e
        · rename_i hf
          split at e
          · rename_i d' hg
            cases e
            refine ⟨env, path, e1, As, plusL L B, h1, P.hd, fun o H1 As1 P1 n1 hat => ⟨e1, key, e2, As1, plusL L B, h2, P1.hd0, fun kv H2 As2 P2 n2 rk => ?_⟩⟩
            obtain ⟨u, hu', hat⟩ := hat
            have P12 := P1.seq P2
            have PT := P.trans P12
            rw [List.append_nil] at PT
            have ro2 := P12.keepO ro fun a m => .inr m
            rw [plusL_app, List.append_nil] at ro2
            have hat2 : AtP H2 u path o := hat.keep (.inr fun p ob e => n2 rfl p ob e)
            obtain ⟨H', g, C, P3⟩ := put_end PT h3 hf hg hu' hat2 rk ro2
            exact ⟨H', g, q σ H' _ P3 (fun z => by cases z) fun _ _ => rfl⟩
          · cases e
        · cases e
      · cases e
    · cases e
  · cases e
end
end Ev
set_option Elab.async false
set_option linter.all false
set_option autoImplicit false
set_option maxRecDepth 100000
set_option maxHeartbeats 4000000
/-! Ev17: dicts: in, displays, update, dict(pairs); more operators. -/
namespace Ev
open PySem PySem.Spec L2

abbrev gAdd : D → D → Option D := gI fun i j => some (i + j)
def gInD (neg : Bool) (a b : D) : Option D := match dget b a with
  | some o => some (.bl (if neg = true then !o.isSome else o.isSome))
  | none => none
/-- in, not in: a list, a tuple or a dict -/
def gInX (neg : Bool) (a b : D) : Option D := match b with
  | .dK _ => gInD neg a b
  | .dT _ => gInD neg a b
  | _ => gIn neg a b
section
variable {X : Cx} {a b : Expr} {es : List Expr} {ma mb : Bool} {pos : Pos}
theorem o_add : OpR X (binaryOp .Add) (rOp X.K gAdd) := ofI0 op_add
theorem o_inD (hu : X.A.units + 1 < cLine) : OpR X (compareOp .In) (rOp X.K (gInD false)) := by
  intro pins s σ H x y v u Q I rx ry ⟨da, db, c, r1, r2, hg, _, q⟩
  unfold gInD at hg
  split at hg
  · rename_i o ho
    cases hg
    obtain ⟨p, r, rfl, g, i1, i2⟩ := dget_rep r2 r1 ho
    cases ry
    have e : r.isSome = o.isSome := by
      cases o with
      | none => rw [i2 rfl]; rfl
      | some e => obtain ⟨w, hw, _⟩ := i1 e rfl; rw [hw]; rfl
    exact d_in hu I g rx fun s3 I3 => ⟨.bl r.isSome, H, I3, rfl, by rw [e]; exact q⟩
  · cases hg
theorem o_notinD (hu : X.A.units + 1 < cLine) : OpR X (compareOp .NotIn) (rOp X.K (gInD true)) := by
  intro pins s σ H x y v u Q I rx ry ⟨da, db, c, r1, r2, hg, _, q⟩
  unfold gInD at hg
  split at hg
  · rename_i o ho
    cases hg
    obtain ⟨p, r, rfl, g, i1, i2⟩ := dget_rep r2 r1 ho
    cases ry
    have e : r.isSome = o.isSome := by
      cases o with
      | none => rw [i2 rfl]; rfl
      | some e => obtain ⟨w, hw, _⟩ := i1 e rfl; rw [hw]; rfl
    exact d_notIn hu I g rx fun s3 I3 => ⟨.bl (!r.isSome), H, I3, rfl, by rw [e]; exact q⟩
  · cases hg
theorem o_inX (h : X.A.units + 200 < cLine) : OpR X (compareOp .In) (rOp X.K (gInX false)) := by
  intro pins s σ H x y v u Q I rx ry ⟨da, db, c, r1, r2, hg, hs, q⟩
  unfold gInX at hg
  split at hg
  · exact o_inD (by omega) pins s σ H x y v u Q I rx ry ⟨da, _, c, r1, r2, hg, hs, q⟩
  · exact o_inD (by omega) pins s σ H x y v u Q I rx ry ⟨da, _, c, r1, r2, hg, hs, q⟩
  · exact o_in (by omega) (by omega) pins s σ H x y v u Q I rx ry ⟨da, _, c, r1, r2, hg, hs, q⟩
theorem o_notinX (h : X.A.units + 200 < cLine) : OpR X (compareOp .NotIn) (rOp X.K (gInX true)) := by
  intro pins s σ H x y v u Q I rx ry ⟨da, db, c, r1, r2, hg, hs, q⟩
  unfold gInX at hg
  split at hg
  · exact o_notinD (by omega) pins s σ H x y v u Q I rx ry ⟨da, _, c, r1, r2, hg, hs, q⟩
  · exact o_notinD (by omega) pins s σ H x y v u Q I rx ry ⟨da, _, c, r1, r2, hg, hs, q⟩
  · exact o_notin (by omega) (by omega) pins s σ H x y v u Q I rx ry ⟨da, _, c, r1, r2, hg, hs, q⟩
/-! ### displays -/
/-- a new empty dict; t: its keys will be tuples -/
def sDNew (t : Bool) (k : Nat) : SE := fun env => some ((if t = true then .dT [] else .dK [], k), env)
theorem e_dnewK {k : Nat} : PE X (.Dict [] [] pos) (tE X.K false (sDNew false (k + 1))) := pe_dnewK.wk fun σ H Q ⟨env, r, env', As, L, e, hd, q⟩ p np => by
  cases e
  have P := Pst.alloc1 (o := .dK []) hd np (fun _ _ z => nomatch z)
  exact q (.ref p) _ As [p] P (Nm.new np) (.dK (.inl upd_same) rfl .nil)
theorem e_dnewT {k : Nat} : PE X (.Dict [] [] pos) (tE X.K false (sDNew true (k + 1))) := pe_dnewT.wk fun σ H Q ⟨env, r, env', As, L, e, hd, q⟩ p np => by
  cases e
  have P := Pst.alloc1 (o := .dT []) hd np (fun _ _ z => nomatch z)
  exact q (.ref p) _ As [p] P (Nm.new np) (.dT (.inl upd_same) rfl .nil)
abbrev SD := En → Option (List (Key × Rv) × En)
/-- the pairs of a display -/
structure PD (X : Cx) (pos : Pos) (keys : List (Option Expr)) (values : List Expr) (mu : Bool) (s : SD) : Prop where
  ex : ∃ trs, PPs X pos keys values trs ∧ ∀ σ H (Q : List (V × V) → Hp → Prop), (∃ env kvs env' As L, s env = some (kvs, env') ∧ Holds X.K H σ env As L ∧
    ∀ vs H' As' B, Pst X.K σ env H As L σ env' H' As' B → Nm mu H H' → RepA X.K H' (Fb As' (plusL L B)) vs (kvs.map (·.2)) B → Q (((kvs.map (·.1)).zip vs).map fun kv => (kV kv.1, kv.2)) H') → tPairs trs σ H Q
def sdNil : SD := fun env => some ([], env)
def sdCons (k : SP) (v : SE) (t : SD) : SD := fun env => match k env with
  | some (dk, e1) => match kD dk with
    | some key => match v e1 with
      | some (r, e2) => match t e2 with
        | some (kvs, e3) => some ((key, r) :: kvs, e3)
        | none => none
      | none => none
    | none => none
  | none => none
theorem pd_nil : PD X pos [] [] false sdNil := ⟨_, pps_nil, fun σ H Q ⟨env, kvs, env', As, L, e, hd, q⟩ => by
  cases e
  exact q [] H As [] (Pst.refl hd) Nm.refl .nil⟩
theorem pd_cons {ks : List (Option Expr)} {mc : Bool} {k : SP} {v : SE} {t : SD} (hk : PE X a (tP X.K ma k)) (hv : PE X b (tE X.K mb v)) (hr : PD X pos ks es mc t) : PD X pos (some a :: ks) (b :: es) (ma || (mb || mc)) (sdCons k v t) := by
  obtain ⟨trs, h1, h2⟩ := hr.ex
  refine ⟨_, pps_cons hk hv h1, fun σ H Q ⟨env, kvs, env', As, L, e, hd, q⟩ => ?_⟩
  unfold sdCons at e
  split at e
  · rename_i dk e1 g1
    split at e
    · rename_i key hkey
      split at e
      · rename_i r e2 g2
        split at e
        · rename_i kvs' e3 g3
          cases e
          refine ⟨env, dk, e1, As, L, g1, hd, fun v1 H1 As1 P1 n1 r1 => ⟨e1, r, e2, As1, L, g2, P1.hd0, fun v2 H2 As2 B2 P2 n2 r2 => h2 σ H2 _ ⟨e2, kvs', env', As2, plusL L B2, g3, P2.hd, fun vs H3 As3 B3 P3 n3 r3 => ?_⟩⟩⟩
          rw [kD_rep r1 hkey]
          have := q (v2 :: vs) H3 As3 (B2 ++ B3) ((P1.seq P2).trans P3) (fun z => by
            rw [Bool.or_eq_false_iff, Bool.or_eq_false_iff] at z
            exact fun p o eo => n3 z.2.2 p o (n2 z.2.1 p o (n1 z.1 p o eo))) (by
            rw [← plusL_app]
            exact .cons (P3.keepO r2 fun a m => .inr m) r3)
          exact this
        · cases e
      · cases e
    · cases e
  · cases e
def sDisp (k : Nat) (t : SD) : SE := fun env => match t env with
  | some (kvs, e) => if kvs.length ≤ 15 ∧ (kvs.map (·.1)).Nodup ∧ ownOk k (kvs.map (·.2)) = true then some ((.dK (kvs.map fun kv => (kv.1, kv.2.1)), k), e) else none
  | none => none
theorem mergeK_new : ∀ (more acc : List (Key × V)), ((acc ++ more).map (·.1)).Nodup → mergeK acc more = acc ++ more
  | [], acc, _ => by rw [List.append_nil]; rfl
  | p :: r, acc, h => by
    have hn : valV acc p.1 = none := by
      unfold valV
      cases f : acc.find? fun kv => decide (kv.1 = p.1) with
      | none => rfl
      | some kv =>
        rw [List.map_append] at h
        exact absurd (by simpa using List.find?_some f) ((List.nodup_append.mp h).2.2 kv.1 (List.mem_map.mpr ⟨kv, List.mem_of_find?_eq_some f, rfl⟩) p.1 (List.mem_map.mpr ⟨p, List.mem_cons_self .., rfl⟩))
    show mergeK (L2.putK acc p.1 p.2) r = _
    rw [putK_new p.2 hn, mergeK_new r _ (by rw [List.append_assoc]; exact h), List.append_assoc]
    rfl
theorem zip_fst {α β : Type} : ∀ {a : List α} {b : List β}, a.length = b.length → (a.zip b).map (·.1) = a
  | [], [], _ => rfl
  | [], _ :: _, h => by simp at h
  | _ :: _, [], h => by simp at h
  | x :: a, y :: b, h => by simp only [List.zip_cons_cons, List.map_cons, zip_fst (a := a) (b := b) (by simpa using h)]
theorem zip_snd {α β : Type} : ∀ {a : List α} {b : List β}, a.length = b.length → (a.zip b).map (·.2) = b
  | [], [], _ => rfl
  | [], _ :: _, h => by simp at h
  | _ :: _, [], h => by simp at h
  | x :: a, y :: b, h => by simp only [List.zip_cons_cons, List.map_cons, zip_snd (a := a) (b := b) (by simpa using h)]
theorem e_disp {keys : List (Option Expr)} {values : List Expr} {k : Nat} {t : SD} (h : PD X pos keys values ma t) (hall : keys.all (·.isSome) = true) (hl : keys.length = values.length) (h0 : keys ≠ []) (h15 : keys.length ≤ 15) : PE X (.Dict keys values pos) (tE X.K ma (sDisp k t)) := by
  obtain ⟨trs, h1, h2⟩ := h.ex
  refine (pe_disp h1 hall hl h0 h15).wk fun σ H Q ⟨env, r, env', As, L, e, hd, q⟩ p np => ?_
  unfold sDisp at e
  split at e
  · rename_i kvs e1 g1
    split at e
    · rename_i hc
      cases e
      obtain ⟨hc1, hc2, hc3⟩ := hc
      have P0 := Pst.alloc1 (o := .dK []) hd np (fun _ _ z => nomatch z)
      refine h2 σ _ _ ⟨env, kvs, env', As, plusL L [p], g1, P0.hd, fun vs H1 As1 B P n r => ?_⟩
      have PT := P0.trans P
      have hp : H1 p = some (.dK []) := P.fr _ _ upd_same (.inl (.inr (List.mem_singleton.mpr rfl)))
      have hlen : vs.length = kvs.length := by rw [r.length, List.length_map]
      have hlk : (kvs.map (·.1)).length = vs.length := by rw [List.length_map, hlen]
      have keys_eq : ((kvs.map (·.1)).zip vs).map (·.1) = kvs.map (·.1) := zip_fst hlk
      have vals_eq : ((kvs.map (·.1)).zip vs).map (·.2) = vs := zip_snd hlk
      have hm : mergeK [] ((kvs.map (·.1)).zip vs) = (kvs.map (·.1)).zip vs := by
        rw [mergeK_new _ [] (by rw [List.nil_append, keys_eq]; exact hc2), List.nil_append]
      refine ⟨hp, (kvs.map (·.1)).zip vs, rfl, by rw [List.length_zip, hlen, List.length_map, Nat.min_self]; exact hc1, ?_⟩
      rw [hm]
      have nm : Nm ma H (upd H1 p (.dK ((kvs.map (·.1)).zip vs))) := fun z a o e => by
        have ne : a ≠ p := fun w => by subst w; rw [np] at e; cases e
        rw [upd_ne ne]
        exact n z a o (by rw [upd_ne ne]; exact e)
      have hqB : p ∈ [p] ++ B := List.mem_cons_self ..
      have nt : ∀ xs, H1 p ≠ some (.tup xs) := fun xs w => by rw [hp] at w; cases w
      have nd := List.nodup_append.mp PT.bn
      have pB : p ∉ B := fun m => nd.2.2 p (List.mem_cons_self ..) p m rfl
      rw [plusL_app] at r
      have tr : ∀ C : List Addr, (∀ a ∈ C, a ∈ [p] ++ B) → ∀ a o, H1 a = some o → ¬ Fb As1 (plusL L ([p] ++ B)) a → upd H1 p (.dK ((kvs.map (·.1)).zip vs)) a = some o ∧ ¬ Fb As1 (plusL L C) a := fun C hC a o e n => by
        refine ⟨?_, fun w => n (w.imp id fun w => w.imp id fun w => hC a w)⟩
        rw [upd_ne (fun w => n (by subst w; exact .inr (.inr hqB)))]; exact e
      have tt : ∀ a xs, H1 a = some (.tup xs) → upd H1 p (.dK ((kvs.map (·.1)).zip vs)) a = some (.tup xs) := fun a xs e => by rw [upd_ne (fun w => nt xs (by rw [← w]; exact e))]; exact e
      have rd : Rd (upd H1 p (.dK ((kvs.map (·.1)).zip vs))) p (.dK ((kvs.map (·.1)).zip vs)) := .inl upd_same
      have ek : ((kvs.map (·.1)).zip vs).map (·.1) = (kvs.map fun kv => (kv.1, kv.2.1)).map (·.1) := by rw [keys_eq, List.map_map]; rfl
      match k, hc3 with
      | 0, z => exact absurd z Bool.false_ne_true
      | 1, _ =>
        have P6 := PT.tmut (q := p) (o' := .dK ((kvs.map (·.1)).zip vs)) hqB nt (fun _ _ z => nomatch z) (C := [p]) (fun a m => List.mem_append_left _ m) (by simp)
        refine q (.ref p) _ As1 [p] P6 nm (.dK rd ek ?_)
        rw [vals_eq, List.map_map]
        have fr := r.frozen (F' := Fb As1 (plusL L [p])) (fun a w => w.imp id fun w => w.imp id fun w => List.mem_append_left _ w) fun a m w => by
          have bo := PT.bo a (List.mem_append_right _ m)
          rcases w with ⟨i, w⟩ | w | w
          · exact bo.2.1 i w
          · exact bo.1 w
          · exact pB (by rw [← List.mem_singleton.mp w]; exact m)
        have fr2 := fr.to (H' := upd H1 p (.dK ((kvs.map (·.1)).zip vs))) (F' := Fb As1 (plusL L [p])) (fun a o e n => ⟨by rw [upd_ne (fun w => n (by subst w; exact .inr (.inr (List.mem_singleton.mpr rfl))))]; exact e, n⟩) tt
        rw [List.map_map] at fr2
        exact RepOs.ofDs fr2
      | j + 2, z =>
        have P6 := PT.tmut (q := p) (o' := .dK ((kvs.map (·.1)).zip vs)) hqB nt (fun _ _ z => nomatch z) (C := p :: B) (fun a m => m) PT.bn
        refine q (.ref p) _ As1 (p :: B) P6 nm (.dK rd ek ?_)
        rw [vals_eq, List.map_map]
        have r2 := (r.own (j := j) z).to (tr (p :: B) fun a m => m) tt fun a m o e => by rw [upd_ne (fun w => pB (by rw [← w]; exact m))]; exact e
        rw [List.map_map] at r2
        exact r2
    · cases e
  · cases e
end
end Ev
set_option Elab.async false
set_option linter.all false
set_option autoImplicit false
set_option maxRecDepth 100000
set_option maxHeartbeats 4000000
/-! Ev18: dict(pairs), d.update(e). -/
namespace Ev
open PySem PySem.Spec L2

def mergeT (kvs more : List (List Key × V)) : List (List Key × V) := more.foldl (fun acc kv => L2.putK acc kv.1 kv.2) kvs
theorem length_mergeT : ∀ (more kvs : List (List Key × V)), (mergeT kvs more).length ≤ kvs.length + more.length
  | [], kvs => Nat.le_refl _
  | p :: r, kvs => by
    have h1 := length_mergeT r (L2.putK kvs p.1 p.2)
    have h2 := length_putK kvs p.1 p.2
    show (mergeT (L2.putK kvs p.1 p.2) r).length ≤ _
    rw [List.length_cons]; omega
section
variable {X : Cx} {a b : Expr} {es : List Expr} {ma mb : Bool} {pos : Pos}
theorem KT.merge {H : Hp} : ∀ {ts : List (List Key × Addr × V)} {us : List (List Key × Addr × Value)} {acc : List (List Key × V)} {xs : List (List Key × Addr × Value)}, Paired (fun t u => t.1 = u.1 ∧ t.2.1 = u.2.1 ∧ H t.2.1 = some (.tup (t.1.map kV)) ∧ RelV t.2.2 u.2.2) ts us → KT H acc xs →
    KT H (mergeT acc (ts.map fun t => (t.1, t.2.2))) (storedAllH xs us)
  | _, _, _, _, .nil, r => r
  | _, _, _, _, .cons (a := t) (b := u) h tl, r => by
    obtain ⟨h1, h2, h3, h4⟩ := h
    have q := r.put t.1 h3 h4
    have := KT.merge (acc := L2.putK _ t.1 t.2.2) tl q
    rw [h1, h2] at this
    show KT H (mergeT (L2.putK _ t.1 t.2.2) _) (storedAllH (storedH _ u.1 u.2.1 u.2.2) _)
    rw [h1]
    exact this
theorem pairs_ofT {pins : List (Addr × Obj)} {σ : St} {H : Hp} {s : Shared} (I : Inv X pins σ H s) : ∀ {ps : List Addr} {ts : List (List Key × Addr × V)}, Paired (fun p t => H p = some (.tup [.ref t.2.1, t.2.2]) ∧ H t.2.1 = some (.tup (t.1.map kV))) ps ts →
    ∃ us : List (List Key × Addr × Value), us.length = ps.length ∧ Paired (fun t u => t.1 = u.1 ∧ t.2.1 = u.2.1 ∧ H t.2.1 = some (.tup (t.1.map kV)) ∧ RelV t.2.2 u.2.2) ts us ∧
      (∀ (j : Nat) (u : List Key × Addr × Value), us[j]? = some u → ∃ p, ps[j]? = some p ∧ PyProof.Rows.IsTup s.heap p #[.ref u.2.1, u.2.2]) ∧ ∀ u ∈ us, (tupleKind (mixKind X.prog X.w)).is s.heap u.1 u.2.1
  | _, _, .nil => ⟨[], rfl, .nil, fun j q e => by simp at e, fun _ m => nomatch m⟩
  | _, _, .cons (a := p) (b := t) h tl => by
    obtain ⟨us, hl, hp, hi, hk⟩ := pairs_ofT I tl
    obtain ⟨its, rv, ht, _⟩ := I.tuple (SqT.of h.1)
    obtain ⟨u, y, ei, ru, ry⟩ := vals2 rv
    subst ei
    cases ru
    refine ⟨(t.1, t.2.1, y) :: us, by rw [List.length_cons, List.length_cons, hl], .cons ⟨rfl, rfl, h.2, ry⟩ hp, fun j q e => ?_, fun q m => ?_⟩
    · cases j with
      | zero =>
        cases Option.some.inj (e : some (t.1, t.2.1, y) = some q)
        exact ⟨p, rfl, ht⟩
      | succ j =>
        obtain ⟨p', e1, e2⟩ := hi j q (by simpa using e)
        exact ⟨p', by simpa using e1, e2⟩
    · rcases List.mem_cons.mp m with rfl | m
      · exact key_of I.hok h.2
      · exact hk q m
/-- dict(xs) of a list of pairs whose keys are tuples -/
theorem call_dictT (hu : X.A.units + 200 < cLine) (hcalm : X.calm = true) : CallR X (.type "dict") (fun xs H Q => ∃ (a : Addr) (ps : List Addr) (ts : List (List Key × Addr × V)), xs = [.ref a] ∧ SqL X.K H a (ps.map V.ref) ∧ Paired (fun p t => H p = some (.tup [.ref t.2.1, t.2.2]) ∧ H t.2.1 = some (.tup (t.1.map kV))) ps ts ∧
    ∀ p, H p = none → Q (.ref p) (upd H p (.dT (mergeT [] (ts.map fun t => (t.1, t.2.2)))))) := by
  intro pins s σ H xs us Q I r q
  obtain ⟨a, ps, ts, ex, hq, hp, q⟩ := q
  subst ex
  obtain ⟨u, eu, rx⟩ := vals1 r
  subst eu
  cases rx
  obtain ⟨its, rv, pl, hz⟩ := I.list hq
  have ei := refs_at rv
  subst ei
  rw [List.length_map] at hz
  obtain ⟨us, hl, rel, hpr, hk⟩ := pairs_ofT I hp
  obtain ⟨o, n, ho, hc, hd, hdat⟩ := pl
  have hit : PairItems s.heap (ps.map Value.ref).toArray (fun j => ps.getD j 0) (us.map fun u => (Value.ref u.2.1, u.2.2)) := by
    refine ⟨by simp [hl], fun j k v e => ?_⟩
    rw [List.getElem?_map] at e
    cases hj : us[j]? with
    | none => rw [hj] at e; cases e
    | some u =>
      rw [hj] at e
      cases e
      obtain ⟨p, e1, e2⟩ := hpr j u hj
      have ep : ps.getD j 0 = p := by rw [List.getD_eq_getElem?_getD, e1]; rfl
      refine ⟨by simp [e1, ep], ?_⟩
      show PairAt s.heap (ps.getD j 0) _ _
      rw [ep]
      obtain ⟨o2, g1, g2, n2, g3⟩ := e2
      exact .inl ⟨o2, g1, g2, n2, g3⟩
  have P := PairArg.list (prog := X.prog) (w := X.w) a (ps.map Value.ref).toArray (fun j => ps.getD j 0) (us.map fun u => (Value.ref u.2.1, u.2.2))
  refine PySem.call_dict_pairsH (knd := tupleKind (mixKind X.prog X.w)) (ps := us) P (I.ok.hd hcalm) (show X.A.units + 1 + 1 < cLine by omega) ⟨⟨o, n, ho, hc, hd, hdat⟩, hit⟩ ⟨by simp, fun i key v e => ?_⟩ (fun h' hst x hx => ?_) (by rw [List.length_map, hl]; exact hz) fun h' tk hd' k => ?_
  · have e : (us.map fun u => (Value.ref u.2.1, u.2.2))[i]? = some (key, v) := e
    rw [List.getElem?_map] at e
    cases hj : us[i]? with
    | none => rw [hj] at e; cases e
    | some u =>
      rw [hj] at e
      cases e
      exact ⟨u.1, u.2.1, rfl, rfl⟩
  · obtain ⟨o2, it2, n2, g1, g2, g3, g4⟩ := hk x hx
    exact ⟨o2, it2, n2, hst _ o2 (Nat.ne_of_lt (Heap.lt_size g1)) (fun z => nomatch z) g1, g2, g3, g4⟩
  · have hm : (s.heap.objs.size == sysModules) = false := beq_eq_false_iff_ne.mpr (Nat.ne_of_gt I.big)
    have hn := I.hok.fresh (Nat.le_refl s.heap.objs.size)
    have hlt : ts.length = us.length := Paired.length rel
    have hlen : (mergeT [] (ts.map fun t => (t.1, t.2.2))).length ≤ sizeLine := by
      refine Nat.le_trans (length_mergeT _ []) ?_
      rw [List.length_nil, Nat.zero_add, List.length_map, hlt, hl]
      exact hz
    obtain ⟨q', es, ep, hq', h2, h3, h4, _, h5⟩ := hd'
    have kt := (KT.merge rel (acc := []) (xs := []) .nil).keeps (H' := upd H s.heap.objs.size (.dT (mergeT [] (ts.map fun t => (t.1, t.2.2))))) fun b ys e => by
      rw [upd_ne (fun z => by subst z; rw [hn] at e; cases e)]; exact e
    exact ⟨.ref s.heap.objs.size, upd H s.heap.objs.size (.dT (mergeT [] (ts.map fun t => (t.1, t.2.2)))), I.laid (t' := tk) (fun b o e => k b o (fun z => nomatch z) e) (Nat.le_refl _) (show ObjOk X.prog X.w _ _ _ (.dT _) from ⟨hlen, hm, _, kt, q', es, ep, hq', h2, h3, h4, h5⟩), rfl, q _ hn⟩
/-- the pairs of a list of pairs -/
def prK : List D → Option (List (Key × D))
  | [] => some []
  | .tup [k, v] :: r => match kD k, prK r with
    | some k, some r => some ((k, v) :: r)
    | _, _ => none
  | _ => none
def prT : List D → Option (List (List Key × D))
  | [] => some []
  | .tup [k, v] :: r => match tD k, prT r with
    | some k, some r => some ((k, v) :: r)
    | _, _ => none
  | _ => none
def putAll {κ β : Type} [DecidableEq κ] (acc more : List (κ × β)) : List (κ × β) := more.foldl (fun acc kv => putK acc kv.1 kv.2) acc
/-- dict(x) of a list of pairs; t: the keys are tuples -/
def sDictP (t : Bool) (s : SL) : SE := fun env => match s env with
  | some ((false, ds), e) => match t with
    | false => match prK ds with
      | some ps => some ((.dK (putAll [] ps), 1), e)
      | none => none
    | true => match prT ds with
      | some ps => some ((.dT (putAll [] ps), 1), e)
      | none => none
  | _ => none
theorem RepDs.one {K : PySem.W.Frag} {H : Hp} {F : Addr → Prop} {v : V} {d : D} (r : RepD K H F v d) : RepDs K H F [v] [d] := .cons r .nil
theorem RepDs.app' {K : PySem.W.Frag} {H : Hp} {F : Addr → Prop} : ∀ {vs ws : List V} {ds es : List D}, RepDs K H F vs ds → RepDs K H F ws es → RepDs K H F (vs ++ ws) (ds ++ es)
  | _, _, _, _, .nil, r => r
  | _, _, _, _, .cons a t, r => .cons a (RepDs.app' t r)
theorem rep_putD {κ : Type} [DecidableEq κ] {K : PySem.W.Frag} {H : Hp} {F : Addr → Prop} (k : κ) {y : V} {d : D} (ry : RepD K H F y d) {kvs : List (κ × V)} {kds : List (κ × D)} (hk : kvs.map (·.1) = kds.map (·.1)) (rs : RepDs K H F (kvs.map (·.2)) (kds.map (·.2))) :
    (L2.putK kvs k y).map (·.1) = (putK kds k d).map (·.1) ∧ RepDs K H F ((L2.putK kvs k y).map (·.2)) ((putK kds k d).map (·.2)) := by
  have ha := any_keys k hk
  unfold L2.putK putK
  rw [ha]
  by_cases h : (kds.any fun kv => decide (kv.1 = k)) = true
  · rw [if_pos h, if_pos h]
    exact rep_mapK k ry hk rs
  · rw [if_neg h, if_neg h]
    simp only [List.map_append, List.map_cons, List.map_nil, hk, true_and]
    exact RepDs.app' rs (.one ry)
theorem rep_putAll {κ : Type} [DecidableEq κ] {K : PySem.W.Frag} {H : Hp} {F : Addr → Prop} : ∀ {mv : List (κ × V)} {md : List (κ × D)} {kvs : List (κ × V)} {kds : List (κ × D)}, mv.map (·.1) = md.map (·.1) → RepDs K H F (mv.map (·.2)) (md.map (·.2)) → kvs.map (·.1) = kds.map (·.1) → RepDs K H F (kvs.map (·.2)) (kds.map (·.2)) →
    (mv.foldl (fun acc kv => L2.putK acc kv.1 kv.2) kvs).map (·.1) = (putAll kds md).map (·.1) ∧ RepDs K H F ((mv.foldl (fun acc kv => L2.putK acc kv.1 kv.2) kvs).map (·.2)) ((putAll kds md).map (·.2))
  | [], [], _, _, _, _, h, r => ⟨h, r⟩
  | [], _ :: _, _, _, h, _, _, _ => by simp at h
  | _ :: _, [], _, _, h, _, _, _ => by simp at h
  | p :: r, q :: t, _, _, h, .cons r1 rs, hk, rk => by
    simp only [List.map_cons, List.cons.injEq] at h
    obtain ⟨i1, i2⟩ := rep_putD q.1 r1 hk rk
    have := rep_putAll h.2 rs i1 i2
    simp only [List.foldl_cons, putAll]
    rw [h.1]
    exact this
theorem prK_rep {K : PySem.W.Frag} {H : Hp} {F : Addr → Prop} : ∀ {vs : List V} {ds : List D} {ps : List (Key × D)}, RepDs K H F vs ds → prK ds = some ps → ∃ (as : List Addr) (kvs : List (Key × V)), vs = as.map V.ref ∧ Paired (fun p kv => SqT K H p [kV kv.1, kv.2]) as kvs ∧ kvs.map (·.1) = ps.map (·.1) ∧ RepDs K H F (kvs.map (·.2)) (ps.map (·.2))
  | _, _, ps, .nil, h => by cases h; exact ⟨[], [], rfl, .nil, rfl, .nil⟩
  | _, _, ps, .cons (v := v) r rs, h => by
    unfold prK at h
    split at h
    · rename_i e; cases e
    · rename_i dk dv rest e
      cases e
      split at h
      · rename_i k r' hk hr
        cases h
        obtain ⟨as, kvs, e1, e2, e3, e4⟩ := prK_rep rs hr
        cases r with
        | tup ev rt =>
          cases rt with
          | cons ra rt =>
            cases rt with
            | cons rb rt =>
              cases rt
              rename_i p va vb
              refine ⟨p :: as, (k, vb) :: kvs, by rw [e1]; rfl, .cons ?_ e2, by simp only [List.map_cons, e3], .cons rb e4⟩
              rw [kD_rep ra hk] at ev
              exact SqT.of ev
      · cases h
    · cases h
theorem prT_rep {K : PySem.W.Frag} {H : Hp} {F : Addr → Prop} : ∀ {vs : List V} {ds : List D} {ps : List (List Key × D)}, RepDs K H F vs ds → prT ds = some ps → ∃ (as : List Addr) (ts : List (List Key × Addr × V)), vs = as.map V.ref ∧ Paired (fun p t => H p = some (.tup [.ref t.2.1, t.2.2]) ∧ H t.2.1 = some (.tup (t.1.map kV))) as ts ∧
      ts.map (·.1) = ps.map (·.1) ∧ RepDs K H F (ts.map (·.2.2)) (ps.map (·.2))
  | _, _, ps, .nil, h => by cases h; exact ⟨[], [], rfl, .nil, rfl, .nil⟩
  | _, _, ps, .cons (v := v) r rs, h => by
    unfold prT at h
    split at h
    · rename_i e; cases e
    · rename_i dk dv rest e
      cases e
      split at h
      · rename_i k r' hk hr
        cases h
        obtain ⟨as, ts, e1, e2, e3, e4⟩ := prT_rep rs hr
        cases r with
        | tup ev rt =>
          cases rt with
          | cons ra rt =>
            cases rt with
            | cons rb rt =>
              cases rt
              rename_i p va vb
              obtain ⟨b, eb, hb⟩ := tD_rep ra hk
              subst eb
              exact ⟨p :: as, (k, b, vb) :: ts, by rw [e1]; rfl, .cons ⟨ev, hb⟩ e2, by simp only [List.map_cons, e3], .cons rb e4⟩
      · cases h
    · cases h
theorem e_dictP {st t : Bool} {p : Pos} {s : SL} (hu : X.A.units + 200 < cLine) (hc : X.calm = true) (hg : Gl X "dict") (hm : X.mg "dict" = none) (ha : PE X a (tL X.K ma st s)) (hs : starEach [a] X.env = (false, eval a X.env) :: starEach [] X.env := by rfl) (hpl : (backTo pos (starEach [] X.env)).any (·.1) = false := by rfl) :
    PE X (.Call (.Name "dict" p) [a] [] pos) (tE X.K ma (sDictP t s)) := by
  have fin : ∀ {κ : Type} [DecidableEq κ] {H1 : Hp} {As1 : Own} {L : Addr → Prop} {mv : List (κ × V)} {md : List (κ × D)}, mv.map (·.1) = md.map (·.1) → RepDs X.K H1 (Fb As1 L) (mv.map (·.2)) (md.map (·.2)) →
      (mv.foldl (fun acc kv => L2.putK acc kv.1 kv.2) []).map (·.1) = (putAll [] md).map (·.1) ∧ RepDs X.K H1 (Fb As1 L) ((mv.foldl (fun acc kv => L2.putK acc kv.1 kv.2) []).map (·.2)) ((putAll [] md).map (·.2)) := fun h r => rep_putAll h r rfl .nil
  have up : ∀ {H1 : Hp} {As1 : Own} {L : Addr → Prop} {p : Addr} {o : HO} {vs : List V} {ds : List D}, H1 p = none → RepDs X.K H1 (Fb As1 L) vs ds → RepDs X.K (upd H1 p o) (Fb As1 (plusL L [p])) vs ds := fun {H1 As1 L p o vs ds} np r => r.to (fun q u e n => by
      have ne : q ≠ p := fun z => by subst z; rw [np] at e; cases e
      refine ⟨by rw [upd_ne ne]; exact e, fun w => ?_⟩
      rcases w with w | w | w
      · exact n (.inl w)
      · exact n (.inr w)
      · exact ne (List.mem_singleton.mp w)) fun q xs e => by rw [upd_ne (fun z => by subst z; rw [np] at e; cases e)]; exact e
  cases t with
  | false =>
    refine (pe_callTy (call_dictP hc) hg hm (by decide +kernel) (pa_cons ha pa_nil hs) (he := hs) (hpl := hpl)).wk fun σ H Q ⟨env, r, env', As, L, e, hd, q⟩ => ?_
    unfold sDictP at e
    split at e
    · rename_i ds e1 h1
      simp only at e
      split at e
      · rename_i ps hps
        cases e
        refine ⟨env, false, ds, env', As, L, h1, hd, fun p vs H1 As1 P n sq rs _ => ?_⟩
        obtain ⟨as, kvs, e1, e2, e3, e4⟩ := prK_rep rs hps
        subst e1
        refine ⟨p, as, kvs, rfl, SqL.of sq, e2, fun p' np => ?_⟩
        obtain ⟨i1, i2⟩ := fin e3 e4
        have P2 := P.seq (Pst.alloc1 (o := .dK (mergeK [] kvs)) P.hd0 np (fun _ _ z => nomatch z))
        exact q (.ref p') _ As1 [p'] P2 (fun z a o e => Nm.new (mu := false) np rfl a o (n z a o e)) (.dK (.inl upd_same) i1 (RepOs.ofDs (up np i2)))
      · cases e
    · cases e
  | true =>
    refine (pe_callTy (call_dictT hu hc) hg hm (by decide +kernel) (pa_cons ha pa_nil hs) (he := hs) (hpl := hpl)).wk fun σ H Q ⟨env, r, env', As, L, e, hd, q⟩ => ?_
    unfold sDictP at e
    split at e
    · rename_i ds e1 h1
      simp only at e
      split at e
      · rename_i ps hps
        cases e
        refine ⟨env, false, ds, env', As, L, h1, hd, fun p vs H1 As1 P n sq rs _ => ?_⟩
        obtain ⟨as, ts, e1, e2, e3, e4⟩ := prT_rep rs hps
        subst e1
        refine ⟨p, as, ts, rfl, SqL.of sq, e2, fun p' np => ?_⟩
        obtain ⟨i1, i2⟩ := fin (mv := ts.map fun t => (t.1, t.2.2)) (md := ps) (by rw [List.map_map]; exact e3) (by rw [List.map_map]; exact e4)
        have P2 := P.seq (Pst.alloc1 (o := .dT (mergeT [] (ts.map fun t => (t.1, t.2.2)))) P.hd0 np (fun _ _ z => nomatch z))
        exact q (.ref p') _ As1 [p'] P2 (fun z a o e => Nm.new (mu := false) np rfl a o (n z a o e)) (.dT (.inl upd_same) i1 (RepOs.ofDs (up np i2)))
      · cases e
    · cases e
end
end Ev
set_option Elab.async false
set_option linter.all false
set_option autoImplicit false
set_option maxRecDepth 100000
set_option maxHeartbeats 4000000
/-! Ev19: a dict is walked while it is locked. -/
namespace Ev
open PySem PySem.Spec L2

def lockL (L : Addr → Prop) (As : Own) (i : Nat) : Addr → Prop := fun a => L a ∨ a ∈ As i
section
variable {K : PySem.W.Frag} {σ σ' : St} {env e' : En} {H H' : Hp} {As As' : Own} {L : Addr → Prop} {B : List Addr}
theorem rdLk {d p : Addr} {od : Obj} {u w : HO} (hu : H d = some u) (mu : (∃ kvs, u = .dK kvs) ∨ ∃ kvs, u = .dT kvs) (e : Rd H p w) : Rd (upd H d (.frz od u)) p w := by
  by_cases z : p = d
  · subst z
    rcases e with e | ⟨o, e⟩
    · rw [hu] at e; cases e; exact .inr ⟨od, upd_same⟩
    · rw [hu] at e; cases e; rcases mu with ⟨_, w⟩ | ⟨_, w⟩ <;> cases w
  · exact Rd.to (fun o q => by rw [upd_ne z]; exact q) e
mutual
theorem RepO.toLk {F F' : Addr → Prop} {d : Addr} {od : Obj} {u : HO} (hu : H d = some u) (mu : (∃ kvs, u = .dK kvs) ∨ ∃ kvs, u = .dT kvs) (hF : F d) (hFF : ∀ a, F' a → F a) : ∀ {k : Nat} {v : V} {x : D} {B : List Addr}, RepO K H F k v x B → RepO K (upd H d (.frz od u)) F' k v x B
  | _, _, _, _, .zero r => .zero (r.to (fun p o e n => ⟨by rw [upd_ne (fun z => n (by subst z; exact hF))]; exact e, fun w => n (hFF p w)⟩) fun p xs e => by rw [upd_ne (fun z => by subst z; rw [hu] at e; cases e; rcases mu with ⟨_, w⟩ | ⟨_, w⟩ <;> cases w)]; exact e)
  | _, _, _, _, .flat i r => .flat i (r.to (fun p o e n => ⟨by rw [upd_ne (fun z => n (by subst z; exact hF))]; exact e, fun w => n (hFF p w)⟩) fun p xs e => by rw [upd_ne (fun z => by subst z; rw [hu] at e; cases e; rcases mu with ⟨_, w⟩ | ⟨_, w⟩ <;> cases w)]; exact e)
  | _, _, _, _, .lst e r => .lst (by rw [upd_ne (fun z => by subst z; rw [hu] at e; cases e; rcases mu with ⟨_, w⟩ | ⟨_, w⟩ <;> cases w)]; exact e) (RepOs.toLk hu mu hF hFF r)
  | _, _, _, _, .dK (p := p) (kvs := kvs) e q r => .dK (rdLk hu mu e) q (RepOs.toLk hu mu hF hFF r)
  | _, _, _, _, .dT (p := p) (kvs := kvs) e q r => .dT (rdLk hu mu e) q (RepOs.toLk hu mu hF hFF r)
theorem RepOs.toLk {F F' : Addr → Prop} {d : Addr} {od : Obj} {u : HO} (hu : H d = some u) (mu : (∃ kvs, u = .dK kvs) ∨ ∃ kvs, u = .dT kvs) (hF : F d) (hFF : ∀ a, F' a → F a) : ∀ {k : Nat} {v : List V} {x : List D} {B : List Addr}, RepOs K H F k v x B → RepOs K (upd H d (.frz od u)) F' k v x B
  | _, _, _, _, .nil => .nil
  | _, _, _, _, .cons r rs => .cons (RepO.toLk hu mu hF hFF r) (RepOs.toLk hu mu hF hFF rs)
end
theorem setE_get {env : En} {i j : Nat} {s t : Slot} (hi : env[i]? = some (some s)) : (env.set i (some t))[j]? = if j = i then some (some t) else env[j]? := by
  by_cases z : j = i
  · subst z; rw [if_pos rfl, List.getElem?_set_self (List.getElem?_eq_some_iff.mp hi).1]
  · rw [if_neg z, List.getElem?_set_ne (Ne.symm z)]
theorem Holds.lock (h : Holds K H σ env As L) {i : Nat} {s : Slot} (hi : env[i]? = some (some s)) {d : Addr} {od : Obj} {u : HO} (hd : d ∈ As i) (hu : H d = some u) (mu : (∃ kvs, u = .dK kvs) ∨ ∃ kvs, u = .dT kvs) :
    Holds K (upd H d (.frz od u)) σ (env.set i (some { s with m := 2 })) As (lockL L As i) := by
  have hF : Fb As L d := .inl ⟨i, hd⟩
  have hFF : ∀ a, Fb As (lockL L As i) a → Fb As L a := fun a z => by
    rcases z with z | z | z
    · exact .inl z
    · exact .inr z
    · exact .inl ⟨i, z⟩
  have frz : ∀ {a : Addr}, a ≠ d → (∀ o u, H a ≠ some (.frz o u)) → ∀ o v, upd H d (.frz od u) a ≠ some (.frz o v) := fun ne n o v z => by rw [upd_ne ne] at z; exact n o v z
  have slot : ∀ {j : Nat} {t : Slot}, (env.set i (some { s with m := 2 }))[j]? = some (some t) → (j = i ∧ t = { s with m := 2 }) ∨ (j ≠ i ∧ env[j]? = some (some t)) := fun {j t} e => by
    rw [setE_get hi] at e
    by_cases z : j = i
    · rw [if_pos z] at e; cases e; exact .inl ⟨z, rfl⟩
    · rw [if_neg z] at e; exact .inr ⟨z, e⟩
  refine ⟨by rw [List.length_set]; exact h.len, fun j t e => ?_, fun j e => ?_, h.nd, h.dj, fun j t e n a m => ?_, fun j t e n a m => ?_, fun a q => ?_⟩
  · rcases slot e with ⟨rfl, rfl⟩ | ⟨z, e⟩
    · obtain ⟨v, ev, r⟩ := h.rep _ s hi
      exact ⟨v, ev, r.toLk hu mu hF hFF⟩
    · obtain ⟨v, ev, r⟩ := h.rep _ t e
      exact ⟨v, ev, r.toLk hu mu hF hFF⟩
  · refine h.emp j fun t z => ?_
    by_cases y : j = i
    · exact e _ (by rw [setE_get hi, if_pos y])
    · exact e t (by rw [setE_get hi, if_neg y]; exact z)
  · rcases slot e with ⟨rfl, rfl⟩ | ⟨z, e⟩
    · exact absurd rfl n
    · have w := h.ow j t e n a m
      have ne : a ≠ d := fun q => by subst q; exact z (h.dj j i a m hd)
      exact ⟨fun q => q.elim w.1 fun q => z (h.dj j i a m q), frz ne w.2⟩
  · rcases slot e with ⟨rfl, rfl⟩ | ⟨z, e⟩
    · exact .inr m
    · exact .inl (h.lo j t e n a m)
  · have : ∃ o, H a = some o := by
      rcases q with q | q
      · exact h.lv a q
      · obtain ⟨o, e, _⟩ := h.there q; exact ⟨o, e⟩
    obtain ⟨o, e⟩ := this
    by_cases z : a = d
    · exact ⟨_, by rw [z]; exact upd_same⟩
    · exact ⟨o, by rw [upd_ne z]; exact e⟩
def unlkE (i m : Nat) (e : En) : En := match e[i]? with
  | some (some s) => e.set i (some { s with m := m })
  | _ => e
theorem Pst.unlk (h : Holds K H σ env As L) {i : Nat} {s : Slot} (hi : env[i]? = some (some s)) {d : Addr} {od : Obj} {u : HO} (hd : d ∈ As i) (hu : H d = some u) (mu : (∃ kvs, u = .dK kvs) ∨ ∃ kvs, u = .dT kvs)
    (P : Pst K σ (env.set i (some { s with m := 2 })) (upd H d (.frz od u)) As (lockL L As i) σ' e' H' As' B) : H' d = some (.frz od u) ∧ Pst K σ env H As L σ' (unlkE i s.m e') (upd H' d u) As' B ∧
      ∀ {k : Nat} {v : V} {x : D}, RepO K H' (Fb As' (plusL (lockL L As i) B)) k v x B → RepO K (upd H' d u) (Fb As' (plusL L B)) k v x B := by
  have nf : ∀ o w, u ≠ .frz o w := fun o w z => by rcases mu with ⟨_, y⟩ | ⟨_, y⟩ <;> (rw [y] at z; cases z)
  have nt : ∀ xs, u ≠ .tup xs := fun xs z => by rcases mu with ⟨_, y⟩ | ⟨_, y⟩ <;> (rw [y] at z; cases z)
  have hd' : H' d = some (.frz od u) := P.fr d _ upd_same (.inl (.inr hd))
  obtain ⟨h1, d1, h2, h3⟩ := P.fx i { s with m := 2 } (by rw [setE_get hi, if_pos rfl]) (by simp)
  obtain ⟨h4, h5⟩ := h3 rfl
  have h4 : d1 = s.d := h4
  subst h4
  have h2 : e'[i]? = some (some { s with m := 2 }) := h2
  have eu : unlkE i s.m e' = e'.set i (some s) := by unfold unlkE; rw [h2]
  have dI : d ∈ As' i := by rw [h5]; exact hd
  have F1 : ∀ a, Fb As' (plusL L B) a → Fb As' (plusL (lockL L As i) B) a := fun a z => z.imp id fun z => z.imp .inl id
  have F2 : ∀ a, Fb As' (plusL (lockL L As i) B) a → Fb As' (plusL L B) a := fun a z => by
    rcases z with z | (z | z) | z
    · exact .inl z
    · exact .inr (.inl z)
    · exact .inl ⟨i, by rw [h5]; exact z⟩
    · exact .inr (.inr z)
  have hF : Fb As' (plusL (lockL L As i) B) d := .inl ⟨i, dI⟩
  have nB : d ∉ B := fun m => (P.bo d m).1 (.inr hd)
  have ntd : ∀ xs, H' d ≠ some (.tup xs) := fun xs z => by rw [hd'] at z; cases z
  have slot : ∀ {j : Nat} {t : Slot}, (e'.set i (some s))[j]? = some (some t) → (j = i ∧ t = s) ∨ (j ≠ i ∧ e'[j]? = some (some t)) := fun {j t} e => by
    rw [setE_get h2] at e
    by_cases z : j = i
    · rw [if_pos z] at e; cases e; exact .inl ⟨z, rfl⟩
    · rw [if_neg z] at e; exact .inr ⟨z, e⟩
  have inB : ∀ {k : Nat} {v : V} {x : D} {C : List Addr}, (∀ a ∈ C, a ≠ d) → RepO K H' (Fb As' (plusL (lockL L As i) B)) k v x C → RepO K (upd H' d u) (Fb As' (plusL L B)) k v x C := fun {k v x C} nC r =>
    r.to (fun p o e n => ⟨by rw [upd_ne (fun z => n (by subst z; exact hF))]; exact e, fun w => n (F1 p w)⟩) (fun p xs e => by rw [upd_ne (fun z => by subst z; exact ntd xs e)]; exact e) fun p m o e => by rw [upd_ne (nC p m)]; exact e
  refine ⟨hd', ?_, fun r => inB (fun a m z => by subst z; exact nB m) r⟩
  rw [eu]
  refine ⟨fun a o e c => ?_, fun a m => ?_, fun a e => ?_, fun a xs e => ?_, fun j t e n => ?_, ?_, P.bn, fun a m => ?_⟩
  · by_cases z : a = d
    · subst z; rw [upd_same, ← hu, e]
    · rw [upd_ne z]
      exact P.fr a o (by rw [upd_ne z]; exact e) (c.imp .inl id)
  · rcases P.nw a m with w | w
    · exact .inl w
    · by_cases z : a = d
      · subst z; rw [upd_same] at w; cases w
      · rw [upd_ne z] at w; exact .inr w
  · by_cases z : a = d
    · subst z; rw [upd_same] at e; cases e
    · rw [upd_ne z] at e
      have := P.tr a e
      rwa [upd_ne z] at this
  · have z : a ≠ d := fun z => by subst z; rw [hu] at e; exact nt xs (Option.some.inj e)
    rw [upd_ne z]
    exact P.tu a xs (by rw [upd_ne z]; exact e)
  · by_cases z : j = i
    · subst z
      rw [hi] at e
      cases e
      exact ⟨h1, s.d, by rw [setE_get h2, if_pos rfl], fun _ => ⟨rfl, h5⟩⟩
    · rw [setE_get h2, if_neg z]
      exact P.fx j t (by rw [setE_get hi, if_neg z]; exact e) n
  · refine ⟨by rw [List.length_set]; exact P.hd.len, fun j t e => ?_, fun j e => ?_, P.hd.nd, P.hd.dj, fun j t e n a m => ?_, fun j t e n a m => ?_, fun a q => ?_⟩
    · rcases slot e with ⟨rfl, rfl⟩ | ⟨z, e⟩
      · obtain ⟨v, ev, r⟩ := h.rep _ _ hi
        refine ⟨v, h1.trans ev, ?_⟩
        rw [h5]
        refine r.to (fun p o e n => ?_) (fun p xs e => ?_) fun p m o e => ?_
        · have z : p ≠ d := fun z => n (by subst z; exact .inl ⟨_, hd⟩)
          have np : ∀ k, p ∉ As k := fun k m => n (.inl ⟨k, m⟩)
          have e1 : upd H d (.frz od u) p = some o := by rw [upd_ne z]; exact e
          refine ⟨by rw [upd_ne z]; exact P.fr p o e1 (.inr np), fun w => ?_⟩
          have fr := P.fresh e1 np
          rcases F1 p w with ⟨k, w⟩ | (w | w) | w
          · exact fr.1 k w
          · exact n (.inr w)
          · exact np _ w
          · exact fr.2 w
        · have z : p ≠ d := fun z => by subst z; rw [hu] at e; exact nt xs (Option.some.inj e)
          rw [upd_ne z]
          exact P.tu p xs (by rw [upd_ne z]; exact e)
        · by_cases z : p = d
          · subst z; rw [upd_same, ← hu, e]
          · rw [upd_ne z]
            exact P.fr p o (by rw [upd_ne z]; exact e) (.inl (.inr m))
      · obtain ⟨v, ev, r⟩ := P.hd.rep j t e
        exact ⟨v, ev, inB (fun a m y => by subst y; exact z (P.hd.dj j i a m dI)) r⟩
    · refine P.hd.emp j fun t z => ?_
      by_cases y : j = i
      · exact e s (by rw [setE_get h2, if_pos y])
      · exact e t (by rw [setE_get h2, if_neg y]; exact z)
    · rcases slot e with ⟨rfl, rfl⟩ | ⟨z, e⟩
      · rw [h5] at m
        have w := h.ow _ _ hi n a m
        refine ⟨fun q => q.elim w.1 fun q => (P.bo a q).1 (.inr m), fun o v q => ?_⟩
        by_cases y : a = d
        · subst y; rw [upd_same] at q; exact nf o v (Option.some.inj q)
        · rw [upd_ne y] at q
          obtain ⟨o1, e1, _⟩ := h.there m
          rw [P.fr a o1 (by rw [upd_ne y]; exact e1) (.inl (.inr m))] at q
          exact w.2 o v (e1.trans q)
      · have w := P.hd.ow j t e n a m
        have y : a ≠ d := fun y => by subst y; exact z (P.hd.dj j i a m dI)
        exact ⟨fun q => w.1 (q.imp .inl id), fun o v q => by rw [upd_ne y] at q; exact w.2 o v q⟩
    · rcases slot e with ⟨rfl, rfl⟩ | ⟨z, e⟩
      · rw [h5] at m
        exact .inl (h.lo _ _ hi n a m)
      · rcases P.hd.lo j t e n a m with (w | w) | w
        · exact .inl w
        · exact absurd (P.hd.dj j i a m (by rw [h5]; exact w)) z
        · exact .inr w
    · have : ∃ o, H' a = some o := P.hd.lv a (q.imp .inl id)
      obtain ⟨o, e⟩ := this
      by_cases z : a = d
      · exact ⟨u, by rw [z]; exact upd_same⟩
      · exact ⟨o, by rw [upd_ne z]; exact e⟩
  · have w := P.bo a m
    refine ⟨fun q => w.1 (.inl q), w.2.1, fun o v q => ?_⟩
    by_cases z : a = d
    · subst z; exact nB m
    · rw [upd_ne z] at q; exact w.2.2 o v q
end
end Ev
set_option Elab.async false
set_option linter.all false
set_option autoImplicit false
set_option maxRecDepth 100000
set_option maxHeartbeats 4000000
/-! Ev20: for k in d, [.. for k in d ..]: d a name or an item of one. -/
namespace Ev
open PySem PySem.Spec L2

/-- the object of a name, or its item at another name's value -/
def tAt (K : PySem.W.Frag) (i : Nat) (jo : Option Nat) : TE := fun σ H Q => ∃ w, σ[i]? = some (some w) ∧ match jo with
  | none => Q w H
  | some j => ∃ y key v, σ[j]? = some (some y) ∧ RepV K H y key ∧ StepAt H w key v ∧ Q v H
def kDi : Key → D
  | .inl i => .int i
  | .inr s => .str s
def keysD : D → Option (List D)
  | .dK kvs => some (kvs.map fun kv => kDi kv.1)
  | .dT kvs => some (kvs.map fun kv => .tup (kv.1.map kDi))
  | _ => none
def pathAt (jo : Option Nat) (e : En) : Option (Option D) := match jo with
  | none => some none
  | some j => match e[j]? with
    | some (some t) => some (some t.d)
    | _ => none
/-- the dict there: the slot, the dict -/
def atE (i : Nat) (jo : Option Nat) (e : En) : Option (Slot × D) := match e[i]? with
  | some (some s) => match pathAt jo e with
    | some path => if depP path + 1 ≤ s.k ∧ okP s.d path = true ∧ (jo = none ∨ s.m ≠ 2) then match subP s.d path with
        | some d => some (s, d)
        | none => none
      else none
    | none => none
  | _ => none
section
variable {X : Cx} {a b tg e : Expr} {es : List Expr} {ma mb : Bool} {pos : Pos}
theorem at_0 {i : Nat} {x : Str} (h : PE X (.Name x pos) (tVar i)) : PE X (.Name x pos) (tAt X.K i none) := h.wk fun σ H Q ⟨w, e, q⟩ => ⟨w, e, q⟩
theorem at_1 {i j : Nat} {x y : Str} {px py : Pos} (hu : X.A.units + 1 < cLine) (h : PE X (.Name x px) (tVar i)) (hb : PE X (.Name y py) (tVar j)) (hs : PlainIx (.Name y py)) : PE X (.Subscript (.Name x px) (.Name y py) pos) (tAt X.K i (some j)) :=
  (pe_ix (ix_step hu) h hb hs).wk fun σ H Q ⟨w, e, y, key, v, ey, rk, st, q⟩ => ⟨w, e, y, ey, key, v, rk, st, q⟩
/-- sizes of what is tracked -/
def Fits (H : Hp) : Prop := (∀ d kvs, Rd H d (.dK kvs) → kvs.length ≤ sizeLine) ∧ ∀ d kvs, Rd H d (.dT kvs) → kvs.length ≤ sizeLine
theorem pe_fits {t : TE} (h : PE X e t) : PE X e (fun σ H Q => t σ H fun v H1 => Fits H1 → Q v H1) := ⟨fun pins s σ H Q I q =>
  thn (h.run pins s σ H _ I q) fun v s1 ⟨x, H1, I1, r1, q1⟩ => ⟨x, H1, I1, r1, q1 ⟨fun d kvs e => (dk_rd I1.hok e).1, fun d kvs e => (dt_rd I1.hok e).1⟩⟩⟩
theorem ps_lockO {st : Stmt} {t : TS} (h : PS X st t) : PS X st (fun D σ H => tLock t D σ H ∨ t D σ H) := ⟨fun pins s σ H D I hw => hw.elim ((ps_lock h).run pins s σ H D I) (h.run pins s σ H D I)⟩
theorem pe_lockO {t : TE} (h : PE X e t) : PE X e (fun σ H Q => tLockE t σ H Q ∨ t σ H Q) := ⟨fun pins s σ H Q I hw => hw.elim ((pe_lock h).run pins s σ H Q I) (h.run pins s σ H Q I)⟩
end
section
variable {K : PySem.W.Frag} {σ : St} {env : En} {H : Hp} {As : Own} {L : Addr → Prop}
theorem kD_kDi (k : Key) : kD (kDi k) = some k := by cases k <;> rfl
theorem rep_key {F : Addr → Prop} (k : Key) : RepD K H F (kV k) (kDi k) := by
  cases k with
  | inl i => exact .int i
  | inr s => exact .str s
theorem rep_keys {F : Addr → Prop} : ∀ ks : List Key, RepDs K H F (ks.map kV) (ks.map kDi)
  | [] => .nil
  | k :: ks => .cons (rep_key k) (rep_keys ks)
theorem walk_k {p : Addr} {o : Obj} {kvs : List (Key × V)} (hp : L p) (h : H p = some (.frz o (.dK kvs))) (hl : kvs.length ≤ sizeLine) : WalkOk K σ env H As L (Itk p o kvs) (kvs.map fun kv => kDi kv.1) where
  go := fun σ' e' H' As' B' P i hi => ⟨P.fr p _ h (.inl hp), by simpa using hi⟩
  yl := fun σ' e' H' As' B' P i d hd x H'' y => by
    obtain ⟨rfl, k, v, ek, rfl⟩ := y
    rw [List.getElem?_map, ek] at hd
    cases hd
    exact ⟨Nm.refl, rep_key k⟩
  st := fun σ' e' H' As' B' P i hi => ⟨P.fr p _ h (.inl hp), by simpa using hi⟩
  len := by rw [List.length_map]; exact hl
theorem walk_t {p : Addr} {o : Obj} {kvs : List (List Key × V)} (hp : L p) (h : H p = some (.frz o (.dT kvs))) (hl : kvs.length ≤ sizeLine) : WalkOk K σ env H As L (Itkt p o kvs) (kvs.map fun kv => .tup (kv.1.map kDi)) where
  go := fun σ' e' H' As' B' P i hi => ⟨P.fr p _ h (.inl hp), by simpa using hi⟩
  yl := fun σ' e' H' As' B' P i d hd x H'' y => by
    obtain ⟨rfl, k, v, q, ek, rfl, eq⟩ := y
    rw [List.getElem?_map, ek] at hd
    cases hd
    exact ⟨Nm.refl, .tup eq (rep_keys k)⟩
  st := fun σ' e' H' As' B' P i hi => ⟨P.fr p _ h (.inl hp), by simpa using hi⟩
  len := by rw [List.length_map]; exact hl
/-- one step down: what the item owns lies behind the thing's own object -/
theorem RepO.step2 {F : Addr → Prop} {k : Nat} {v : V} {d d1 key : D} {B : List Addr} (r : RepO K H F (k + 1) v d B) (nf : ∀ a ∈ B, ∀ o u, H a ≠ some (.frz o u)) (hs : subP d (some key) = some d1) : ∃ v1 q E B1, v = .ref q ∧ B = q :: E ∧ StepAt H v key v1 ∧ RepO K H F k v1 d1 B1 ∧ ∀ a ∈ B1, a ∈ E := by
  cases r with
  | flat hi r => cases d <;> first | (simp [subP] at hs; done) | cases hi
  | lst e rs =>
    cases key <;> try (simp [subP] at hs; done)
    rename_i i
    have hs : atI _ i = some d1 := hs
    obtain ⟨j, hj, hd⟩ := atI_some hs
    obtain ⟨vj, B0, B1, B2, h1, h2, h3, h4⟩ := rs.nth hd
    refine ⟨vj, _, _, B1, rfl, rfl, .inl ⟨_, _, i, rfl, e, rfl, ?_⟩, h3, fun a m => by rw [h2]; exact List.mem_append_right _ (List.mem_append_left _ m)⟩
    unfold atI
    rw [rs.length, hj]
    exact h1
  | dK e hk rs =>
    rename_i p kvs kds E
    have e' : H p = some (.dK kvs) := by
      rcases e with e | ⟨o, e⟩
      · exact e
      · exact absurd e (nf p (List.mem_cons_self ..) _ _)
    have hs : (match kD key with | some k => look kds k | none => none) = some d1 := by cases key <;> exact hs
    cases hkd : kD key with
    | none => rw [hkd] at hs; cases hs
    | some k' =>
      rw [hkd] at hs
      obtain ⟨j, h1, h2, h3⟩ := look_nth k' hs
      obtain ⟨vj, B0, B1, B2, g1, g2, g3, g4⟩ := rs.nth h1
      exact ⟨vj, p, E, B1, rfl, rfl, .inr ⟨p, kvs, k', rfl, e', hkd, by rw [h2 kvs hk]; exact g1⟩, g3, fun a m => by rw [g2]; exact List.mem_append_right _ (List.mem_append_left _ m)⟩
  | dT e hk rs => cases key <;> simp [subP] at hs
theorem at_dict (h : Holds K H σ env As L) {i : Nat} {jo : Option Nat} {s : Slot} {d : D} {ds : List D} (ha : atE i jo env = some (s, d)) (hk : keysD d = some ds) : env[i]? = some (some s) ∧ ∃ w p path, σ[i]? = some (some w) ∧ pathAt jo env = some path ∧ AtP H w path (.ref p) ∧ p ∈ As i ∧ (∀ key, path = some key → w ≠ .ref p ∧ s.m ≠ 2) ∧
    ((∃ kvs : List (Key × V), Rd H p (.dK kvs) ∧ (kvs.map fun kv => kDi kv.1) = ds) ∨ ∃ kvs : List (List Key × V), Rd H p (.dT kvs) ∧ (kvs.map fun kv => D.tup (kv.1.map kDi)) = ds) := by
  unfold atE at ha
  split at ha
  · rename_i s0 hs
    split at ha
    · rename_i path hp
      split at ha
      · rename_i hc
        split at ha
        · rename_i d0 hd
          cases ha
          obtain ⟨c1, c2, c3⟩ := hc
          obtain ⟨w, ew, r⟩ := h.rep i _ hs
          obtain ⟨k0, hk0⟩ : ∃ k0, s.k = (k0 + 1) + depP path := ⟨s.k - depP path - 1, by omega⟩
          rw [hk0] at r
          have fin : ∀ {v1 : V} {B1 : List Addr}, RepO K H (Fb As L) (k0 + 1) v1 d B1 → ∃ p, v1 = .ref p ∧ p ∈ B1 ∧ ((∃ kvs : List (Key × V), Rd H p (.dK kvs) ∧ (kvs.map fun kv => kDi kv.1) = ds) ∨ ∃ kvs : List (List Key × V), Rd H p (.dT kvs) ∧ (kvs.map fun kv => D.tup (kv.1.map kDi)) = ds) := fun {v1 B1} r1 => by
            unfold keysD at hk
            split at hk
            · cases hk
              obtain ⟨p, kvs, E, e1, e2, e3, e4, e5⟩ := dK_inv r1
              refine ⟨p, e1, by rw [e5]; exact List.mem_cons_self .., .inl ⟨kvs, e2, ?_⟩⟩
              have := congrArg (List.map kDi) e3
              rw [List.map_map, List.map_map] at this
              exact this
            · cases hk
              obtain ⟨p, kvs, E, e1, e2, e3, e4, e5⟩ := dT_inv r1
              refine ⟨p, e1, by rw [e5]; exact List.mem_cons_self .., .inr ⟨kvs, e2, ?_⟩⟩
              have := congrArg (List.map fun (k : List Key) => D.tup (k.map kDi)) e3
              rw [List.map_map, List.map_map] at this
              exact this
            · cases hk
          refine ⟨hs, ?_⟩
          cases path with
          | none =>
            simp only [subP, Option.some.injEq] at hd
            subst hd
            obtain ⟨p, e1, e2, e3⟩ := fin r
            exact ⟨w, p, none, ew, hp, e1.symm, e2, fun _ z => (by cases z), e3⟩
          | some key =>
            have hm2 : s.m ≠ 2 := c3.resolve_left fun z => by subst z; cases hp
            obtain ⟨v1, q, E, B1, hw, hB, st, r1, hE⟩ := RepO.step2 r (fun a m => (h.ow i s hs hm2 a m).2) hd
            obtain ⟨p, e1, e2, e3⟩ := fin r1
            subst e1
            have nd := h.nd i
            rw [hB] at nd
            exact ⟨w, p, some key, ew, hp, st, by rw [hB]; exact List.mem_cons_of_mem _ (hE p e2), fun _ _ => ⟨fun z => by rw [hw] at z; cases z; exact (List.nodup_cons.mp nd).1 (hE _ e2), hm2⟩, e3⟩
        · cases ha
      · cases ha
    · cases ha
  · cases ha
/-- the reading of the walked thing, in the locked heap -/
theorem at_run {i : Nat} {jo : Option Nat} {w : V} {p : Addr} {path : Option D} {H1 : Hp} (ew : σ[i]? = some (some w)) (hp : pathAt jo env = some path) (ha : AtP H w path (.ref p)) (up : ∀ a o, a ≠ p → H a = some o → H1 a = some o) {Q : VK} (q : Q (.ref p) H1)
    (hy : ∀ (j : Nat) t, env[j]? = some (some t) → ∃ y, σ[j]? = some (some y) ∧ RepV K H1 y t.d) (hne : ∀ key, path = some key → w ≠ .ref p) : tAt K i jo σ H1 Q := by
  refine ⟨w, ew, ?_⟩
  cases jo with
  | none => cases hp; have e : V.ref p = w := ha; rw [← e]; exact q
  | some j =>
    simp only [pathAt] at hp
    split at hp
    · rename_i t ht
      cases hp
      obtain ⟨y, ey, ry⟩ := hy j t ht
      refine ⟨y, t.d, .ref p, ey, ry, ?_, q⟩
      have ne := hne _ rfl
      rcases ha with ⟨a, vs, ix, e1, e2, e3, e4⟩ | ⟨a, kvs, k, e1, e2, e3, e4⟩
      · exact .inl ⟨a, vs, ix, e1, up _ _ (fun z => ne (by rw [e1, z])) e2, e3, e4⟩
      · exact .inr ⟨a, kvs, k, e1, up _ _ (fun z => ne (by rw [e1, z])) e2, e3, e4⟩
    · cases hp
/-- the dict at a place, locked: what a walk over its keys meets -/
theorem lock_run (h : Holds K H σ env As L) {i : Nat} {jo : Option Nat} {s : Slot} {d : D} {ds : List D} (ha : atE i jo env = some (s, d)) (hk : keysD d = some ds) :
    (∃ p u, H p = some u ∧ Mut (some u) ∧ ∀ od, Holds K (upd H p (.frz od u)) σ (env.set i (some { s with m := 2 })) As (lockL L As i) ∧
      (∀ {σ' : St} {e' : En} {H' : Hp} {As' : Own} {B : List Addr}, Pst K σ (env.set i (some { s with m := 2 })) (upd H p (.frz od u)) As (lockL L As i) σ' e' H' As' B → H' p = some (.frz od u) ∧ Pst K σ env H As L σ' (unlkE i s.m e') (upd H' p u) As' B ∧
        (∀ {k : Nat} {v : V} {x : D}, RepO K H' (Fb As' (plusL (lockL L As i) B)) k v x B → RepO K (upd H' p u) (Fb As' (plusL L B)) k v x B) ∧ ((∀ a o, upd H p (.frz od u) a = some o → H' a = some o) → ∀ a o, H a = some o → upd H' p u a = some o)) ∧
      (∀ R : It → Hp → Prop, (∀ J, WalkOk K σ (env.set i (some { s with m := 2 })) (upd H p (.frz od u)) As (lockL L As i) J ds → R J (upd H p (.frz od u))) → iKeys (fun σ H Q => tAt K i jo σ H fun v H1 => Fits H1 → Q v H1) σ (upd H p (.frz od u)) R)) ∨
    (env.set i (some { s with m := 2 }) = env ∧ (∀ {σ' : St} {e' : En} {H' : Hp} {As' : Own} {B : List Addr}, Pst K σ env H As L σ' e' H' As' B → unlkE i s.m e' = e') ∧
      (∀ R : It → Hp → Prop, (∀ J, WalkOk K σ env H As L J ds → R J H) → iKeys (fun σ H Q => tAt K i jo σ H fun v H1 => Fits H1 → Q v H1) σ H R)) := by
  obtain ⟨hi, w, p, path, ew, hp, hat, pi, hne, hd⟩ := at_dict h ha hk
  by_cases fz : ∃ o u, H p = some (.frz o u)
  · refine .inr ?_
    obtain ⟨o, u, hu⟩ := fz
    have hm : s.m = 2 := by
      by_cases z : s.m = 2
      · exact z
      · exact absurd hu ((h.ow i s hi z p pi).2 o u)
    have es : ({ s with m := 2 } : Slot) = s := by rw [← hm]
    have e1 : env.set i (some { s with m := 2 }) = env := by
      rw [es]
      apply List.ext_getElem?
      intro j
      rw [setE_get hi]
      by_cases z : j = i
      · rw [if_pos z, z, hi]
      · rw [if_neg z]
    refine ⟨e1, fun {σ' e' H' As' B} P => ?_, fun R q => ?_⟩
    · obtain ⟨_, d', e2, _⟩ := P.fx i s hi (by rw [hm]; decide)
      unfold unlkE
      rw [e2]
      simp only
      apply List.ext_getElem?
      intro j
      rw [setE_get e2]
      by_cases z : j = i
      · rw [if_pos z, z, e2]
      · rw [if_neg z]
    · have pL : L p := h.lo i s hi hm p pi
      unfold iKeys
      refine at_run ew hp hat (fun a o _ e => e) (fun ft => ?_) (fun j t e => ?_) fun key z => (hne key z).1
      · rcases hd with ⟨kvs, rd, ek⟩ | ⟨kvs, rd, ek⟩
        · have ft' := ft.1 p kvs rd
          rcases rd with e | ⟨o', e⟩
          · rw [hu] at e; cases e
          · rw [hu] at e; cases e
            exact ⟨p, _, rfl, .inl ⟨kvs, hu, by rw [← ek] at q; exact q _ (walk_k pL hu ft')⟩⟩
        · have ft' := ft.2 p kvs rd
          rcases rd with e | ⟨o', e⟩
          · rw [hu] at e; cases e
          · rw [hu] at e; cases e
            exact ⟨p, _, rfl, .inr ⟨kvs, hu, by rw [← ek] at q; exact q _ (walk_t pL hu ft')⟩⟩
      · obtain ⟨y, ey, r⟩ := h.rep j t e
        exact ⟨y, ey, r.view⟩
  · refine .inl ?_
    have hu : ∃ u, H p = some u ∧ ((∃ kvs, u = .dK kvs) ∨ ∃ kvs, u = .dT kvs) := by
      rcases hd with ⟨kvs, rd, ek⟩ | ⟨kvs, rd, ek⟩
      · rcases rd with e | ⟨o, e⟩
        · exact ⟨_, e, .inl ⟨kvs, rfl⟩⟩
        · exact absurd ⟨o, _, e⟩ fz
      · rcases rd with e | ⟨o, e⟩
        · exact ⟨_, e, .inr ⟨kvs, rfl⟩⟩
        · exact absurd ⟨o, _, e⟩ fz
    obtain ⟨u, hu, mu⟩ := hu
    have mu' : Mut (some u) := by rcases mu with ⟨kvs, rfl⟩ | ⟨kvs, rfl⟩ <;> exact True.intro
    refine ⟨p, u, hu, mu', fun od => ?_⟩
    have hL := h.lock hi (od := od) pi hu mu
    refine ⟨hL, fun {σ' e' H' As' B} P => ?_, fun R q => ?_⟩
    · obtain ⟨g1, g2, g3⟩ := Pst.unlk h hi pi hu mu P
      refine ⟨g1, g2, g3, fun k a o e => ?_⟩
      by_cases z : a = p
      · subst z; rw [upd_same, ← hu, e]
      · rw [upd_ne z]; exact k a o (by rw [upd_ne z]; exact e)
    · have pL : lockL L As i p := .inr pi
      unfold iKeys
      refine at_run ew hp hat (fun a o n e => by rw [upd_ne n]; exact e) (fun ft => ?_) (fun j t e => ?_) fun key z => (hne key z).1
      · rcases hd with ⟨kvs, rd, ek⟩ | ⟨kvs, rd, ek⟩
        · have eu : u = .dK kvs := by
            rcases rd with e | ⟨o, e⟩
            · rw [hu] at e; exact Option.some.inj e
            · exact absurd ⟨o, _, e⟩ fz
          subst eu
          have ft' := ft.1 p kvs (.inr ⟨od, upd_same⟩)
          exact ⟨p, od, rfl, .inl ⟨kvs, upd_same, by rw [← ek] at q; exact q _ (walk_k pL upd_same ft')⟩⟩
        · have eu : u = .dT kvs := by
            rcases rd with e | ⟨o, e⟩
            · rw [hu] at e; exact Option.some.inj e
            · exact absurd ⟨o, _, e⟩ fz
          subst eu
          have ft' := ft.2 p kvs (.inr ⟨od, upd_same⟩)
          exact ⟨p, od, rfl, .inr ⟨kvs, upd_same, by rw [← ek] at q; exact q _ (walk_t pL upd_same ft')⟩⟩
      · by_cases z : j = i
        · subst z
          rw [hi] at e
          cases e
          obtain ⟨y, ey, r⟩ := hL.rep _ _ (by rw [setE_get hi, if_pos rfl])
          exact ⟨y, ey, r.view⟩
        · obtain ⟨y, ey, r⟩ := hL.rep j t (by rw [setE_get hi, if_neg z]; exact e)
          exact ⟨y, ey, r.view⟩
end

def Rs.mapE (f : En → En) : Rs → Rs
  | .nx e => .nx (f e)
  | .bk e => .bk (f e)
  | .ct e => .ct (f e)
  | .ret r e => .ret r (f e)
/-- for .. in d, the keys of a dict -/
def sForK (i : Nat) (jo : Option Nat) (g : SG) (b : SS) (cl : List Nat) : SS := fun env => match atE i jo env with
  | some (s, d) => match keysD d with
    | some ds => (sLoop g b cl ds (env.set i (some { s with m := 2 }))).map fun r => r.mapE (unlkE i s.m)
    | none => none
  | none => none
def sCompK (j : Nat) (i : Nat) (jo : Option Nat) (g : SG) (c : ST) (el : SE) (vs : List Nat) : SE := fun env => match atE i jo env with
  | some (s, d) => match keysD d with
    | some ds => match sCLoop j g c el vs ds [] (wipeE (env.set i (some { s with m := 2 })) vs) with
      | some (acc, e2) => some ((.lst acc, j + 1), unlkE i s.m (restE (env.set i (some { s with m := 2 })) e2 vs))
      | none => none
    | none => none
  | none => none
section
variable {X : Cx} {a b tg : Expr} {es : List Expr} {ma mb mc me : Bool} {pos : Pos}
theorem pi_at {i : Nat} {jo : Option Nat} (h : PE X a (tAt X.K i jo)) : PI X tg a (iKeys (fun σ H Q => tAt X.K i jo σ H fun v H1 => Fits H1 → Q v H1)) := pi_keys (pe_fits h)
theorem EndS.same {K : PySem.W.Frag} {σ : St} {env : En} {H : Hp} {As : Own} {L : Addr → Prop} {D : Ends} {f : En → En} (hf : ∀ {σ' e' H' As' B}, Pst K σ env H As L σ' e' H' As' B → f e' = e') {r : Rs} (q : EndS K σ env H As L D (r.mapE f)) : EndS K σ env H As L D r := by
  cases r with
  | nx e => exact fun σ' H' As' P => q σ' H' As' (by rw [hf P]; exact P)
  | bk e => exact fun σ' H' As' P => q σ' H' As' (by rw [hf P]; exact P)
  | ct e => exact fun σ' H' As' P => q σ' H' As' (by rw [hf P]; exact P)
  | ret r e => exact fun v σ' H' As' B P => q v σ' H' As' B (by rw [hf P]; exact P)
theorem s_forK {st : Stmt} {i : Nat} {jo : Option Nat} {ts : List Nat} {g : SG} {bb : SS} (cl : List Nat) (h : PS X st (tFor (iKeys (fun σ H Q => tAt X.K i jo σ H fun v H1 => Fits H1 → Q v H1)) (tG X.K mb ts g) (tS X.K bb))) : PS X st (tS X.K (sForK i jo g bb cl)) := (ps_lockO h).wk fun D σ H ⟨env, r, As, L, e, hd, q⟩ => by
  unfold sForK at e
  split at e
  · rename_i s d ha
    split at e
    · rename_i ds hk
      cases hl : sLoop g bb cl ds (env.set i (some { s with m := 2 })) with
      | none => rw [hl] at e; cases e
      | some r0 =>
        rw [hl] at e
        cases e
        rcases lock_run hd ha hk with ⟨p, u, hu, mu, lk⟩ | ⟨e1, same, run⟩
        · refine .inl ⟨p, u, hu, mu, fun od => ?_⟩
          obtain ⟨hL, back, run⟩ := lk od
          refine run _ fun J W => for_core (Pst.refl hL) W hl ?_
          cases r0 with
          | nx e => exact fun σ' H' As' P => ⟨(back P).1, q σ' _ As' (back P).2.1⟩
          | bk e => exact fun σ' H' As' P => ⟨(back P).1, q σ' _ As' (back P).2.1⟩
          | ct e => exact fun σ' H' As' P => ⟨(back P).1, q σ' _ As' (back P).2.1⟩
          | ret r e => exact fun v σ' H' As' B P ro => ⟨(back P).1, q v σ' _ As' B (back P).2.1 ((back P).2.2.1 ro)⟩
        · rw [e1] at hl
          exact .inr (run _ fun J W => for_core (Pst.refl hd) W hl (EndS.same same q))
    · cases e
  · cases e
theorem lck_core {g : SG} {c : ST} {el : SE} {vs ts : List Nat} {i j : Nat} {jo : Option Nat} (hts : ∀ i ∈ ts, i ∈ vs) (σ : St) (H : Hp) (Q : VK) : tE X.K (false || (mc || me)) (sCompK j i jo g c el vs) σ H Q →
    tLockE (tLc (iKeys (fun σ H Q => tAt X.K i jo σ H fun v H1 => Fits H1 → Q v H1)) (tG X.K false ts g) (tT X.K mc c) (tE X.K me el) vs) σ H Q ∨ tLc (iKeys (fun σ H Q => tAt X.K i jo σ H fun v H1 => Fits H1 → Q v H1)) (tG X.K false ts g) (tT X.K mc c) (tE X.K me el) vs σ H Q := by
  rintro ⟨env, r, env', As, L, e, hd, q⟩
  unfold sCompK at e
  split at e
  · rename_i s d ha
    split at e
    · rename_i ds hk
      split at e
      · rename_i acc e2 hl
        cases e
        rcases lock_run hd ha hk with ⟨p, u, hu, mu, lk⟩ | ⟨e1, same, run⟩
        · refine .inl ⟨p, u, hu, mu, fun od => ?_⟩
          obtain ⟨hL, back, run⟩ := lk od
          refine run _ fun J W => lc_core (mi := false) (mc := mc) (me := me) (Q := fun v H' => H' p = some (.frz od u) ∧ Q v (upd H' p u)) hts (Pst.refl hL) Nm.refl W hl fun v H' As' B P n ro => ?_
          exact ⟨(back P).1, q v _ As' B (back P).2.1 (fun z => (back P).2.2.2 (n z)) ((back P).2.2.1 ro)⟩
        · rw [e1] at hl
          refine .inr (run _ fun J W => lc_core (mi := false) (mc := mc) (me := me) (Q := Q) hts (Pst.refl hd) Nm.refl W hl fun v H' As' B P n ro => ?_)
          refine q v H' As' B ?_ n ro
          rw [e1, same P]
          exact P
      · cases e
    · cases e
  · cases e
end
end Ev
set_option Elab.async false
set_option linter.all false
set_option autoImplicit false
set_option maxRecDepth 100000
set_option maxHeartbeats 4000000
/-! Ev21: comprehensions as values and as statements; values frozen; d.update(e). -/
namespace Ev
open PySem PySem.Spec L2

/-- the value given away -/
def sFz (s : SE) : SE := fun env => (s env).map fun x => ((x.1.1, 0), x.2)
section
variable {X : Cx} {a b tg e : Expr} {es : List Expr} {ma mb mi mc me mu : Bool} {pos : Pos}
theorem fz_wk {s : SE} (σ : St) (H : Hp) (Q : VK) : tE X.K mu (sFz s) σ H Q → tE X.K mu s σ H Q := by
  rintro ⟨env, r, env', As, L, e, hd, q⟩
  unfold sFz at e
  cases h1 : s env with
  | none => rw [h1] at e; cases e
  | some x =>
    rw [h1] at e
    cases e
    refine ⟨env, x.1, x.2, As, L, h1, hd, fun v H' As' B P n r => q v H' As' [] P.drop0 n (.zero ?_)⟩
    rw [plusL_nil]
    exact P.frozen r
theorem e_fz {s : SE} (h : PE X e (tE X.K mu s)) : PE X e (tE X.K mu (sFz s)) := h.wk fz_wk
/-! ### comprehensions -/
theorem e_comp {it : SI} {g : SG} {c : ST} {el : SE} {vs ts : List Nat} {j : Nat} (hts : ∀ i ∈ ts, i ∈ vs) (h : PE X e (tLc (tI X.K mi it) (tG X.K false ts g) (tT X.K mc c) (tE X.K me el) vs)) : PE X e (tE X.K (mi || (mc || me)) (sComp j it g c el vs)) := h.wk (lc_wk hts)
theorem e_compK {g : SG} {c : ST} {el : SE} {vs ts : List Nat} {i j : Nat} {jo : Option Nat} (hts : ∀ i ∈ ts, i ∈ vs) (h : PE X e (tLc (iKeys (fun σ H Q => tAt X.K i jo σ H fun v H1 => Fits H1 → Q v H1)) (tG X.K false ts g) (tT X.K mc c) (tE X.K me el) vs)) : PE X e (tE X.K (false || (mc || me)) (sCompK j i jo g c el vs)) := (pe_lockO h).wk (lck_core hts)
/-- name = [..] -/
theorem s_setC {st : Stmt} {it : SI} {g : SG} {c : ST} {el : SE} {vs ts : List Nat} {i j : Nat} (hts : ∀ i ∈ ts, i ∈ vs) (h : PS X st (tAsg (tLc (tI X.K mi it) (tG X.K false ts g) (tT X.K mc c) (tE X.K me el) vs) (gName i))) : PS X st (tS X.K (sSet i (sComp j it g c el vs))) :=
  h.wk fun D σ H q => lc_wk hts σ H _ (set_wk (mu := mi || (mc || me)) D σ H q)
theorem s_setCF {st : Stmt} {it : SI} {g : SG} {c : ST} {el : SE} {vs ts : List Nat} {i j : Nat} (hts : ∀ i ∈ ts, i ∈ vs) (h : PS X st (tAsg (tLc (tI X.K mi it) (tG X.K false ts g) (tT X.K mc c) (tE X.K me el) vs) (gName i))) : PS X st (tS X.K (sSet i (sFz (sComp j it g c el vs)))) :=
  h.wk fun D σ H q => lc_wk hts σ H _ (fz_wk σ H _ (set_wk (mu := mi || (mc || me)) D σ H q))
theorem s_setCK {st : Stmt} {g : SG} {c : ST} {el : SE} {vs ts : List Nat} {i j y : Nat} {jo : Option Nat} (hts : ∀ i ∈ ts, i ∈ vs) (h : PS X st (tAsg (tLc (iKeys (fun σ H Q => tAt X.K i jo σ H fun v H1 => Fits H1 → Q v H1)) (tG X.K false ts g) (tT X.K mc c) (tE X.K me el) vs) (gName y))) : PS X st (tS X.K (sSet y (sCompK j i jo g c el vs))) :=
  (ps_lockO h).wk fun D σ H q => lck_core hts σ H _ (set_wk (mu := false || (mc || me)) D σ H q)
theorem s_setCKF {st : Stmt} {g : SG} {c : ST} {el : SE} {vs ts : List Nat} {i j y : Nat} {jo : Option Nat} (hts : ∀ i ∈ ts, i ∈ vs) (h : PS X st (tAsg (tLc (iKeys (fun σ H Q => tAt X.K i jo σ H fun v H1 => Fits H1 → Q v H1)) (tG X.K false ts g) (tT X.K mc c) (tE X.K me el) vs) (gName y))) : PS X st (tS X.K (sSet y (sFz (sCompK j i jo g c el vs)))) :=
  (ps_lockO h).wk fun D σ H q => lck_core hts σ H _ (fz_wk σ H _ (set_wk (mu := false || (mc || me)) D σ H q))
theorem t_yes {pos : Pos} : tT X.K false sYes = fun σ H Q => ∃ env As L, Holds X.K H σ env As L ∧ ∀ H' As', Pst X.K σ env H As L σ env H' As' [] → Nm false H H' → Q true H' := by
  funext σ H Q
  apply propext
  constructor
  · rintro ⟨env, b, env', As, L, e, hd, q⟩
    cases e
    exact ⟨env, As, L, hd, q⟩
  · rintro ⟨env, As, L, hd, q⟩
    exact ⟨env, true, env, As, L, rfl, hd, q⟩
theorem ts_nil : PTs X [] (tT X.K false sYes) := ⟨fun pins s σ H Q I h => pts_nil.run pins s σ H Q I (by
  obtain ⟨env, b, env', As, L, e, hd, q⟩ := h
  cases e
  exact q H As (Pst.refl hd) Nm.refl)⟩
/-! ### d.update(e) -/
def rUpdate : V → List V → Hp → VK → Prop := fun x vs H Q => ∃ a b kvs more, x = .ref a ∧ vs = [.ref b] ∧ a ≠ b ∧ H a = some (.dK kvs) ∧ Rd H b (.dK more) ∧ kvs.length + more.length ≤ sizeLine ∧ Q .non (upd H a (.dK (mergeK kvs more)))
theorem mt_update : MtM X "dict.update" rUpdate := by
  intro pins s σ H x vs v us Q I rx rv h
  obtain ⟨a, b, kvs, more, rfl, rfl, ne, ha, hb, hz, q⟩ := h
  cases rx
  obtain ⟨u, rfl, ru⟩ := rv.one
  cases ru
  obtain ⟨z1, g1, vs1, k1, d1⟩ := dk_of I.hok ha
  obtain ⟨z2, g2, vs2, k2, d2⟩ := dk_rd I.hok hb
  refine call_meetsIn F.slot_dict_update d1.typeIs F.entry_dict_update (F.args_dict_update_2 _ _) (meets_dict_update (mixKind X.prog X.w) a b ne g2) ⟨vs1, vs2, d1, d2, by rw [← k1.length, ← k2.length]; exact hz, fun h' dd' _ hs => ?_⟩
  have he : ∃ q, h'.get? a = some q := let ⟨q, _, _, hq, _⟩ := dd'; ⟨q, hq⟩
  exact ⟨.non, _, d_write I (by rw [ha]; exact True.intro) hs he (dk_new (Nat.le_trans (length_mergeK more kvs) hz) g1 (k2.merge k1) dd'), rfl, q⟩
theorem at_rep {K : PySem.W.Frag} {σ : St} {env : En} {H : Hp} {As : Own} {L : Addr → Prop} (h : Holds K H σ env As L) {i : Nat} {jo : Option Nat} {s : Slot} {d : D} (ha : atE i jo env = some (s, d)) : env[i]? = some (some s) ∧ ∃ w path v1 B1 k0, σ[i]? = some (some w) ∧ pathAt jo env = some path ∧ AtP H w path v1 ∧ RepO K H (Fb As L) (k0 + 1) v1 d B1 ∧ s.k = (k0 + 1) + depP path ∧ (∀ a ∈ B1, a ∈ As i) ∧
    ∀ key, path = some key → (∀ p, v1 = .ref p → p ∈ B1 → w ≠ .ref p) ∧ s.m ≠ 2 := by
  unfold atE at ha
  split at ha
  · rename_i s0 hs
    split at ha
    · rename_i path hp
      split at ha
      · rename_i hc
        split at ha
        · rename_i d0 hd
          cases ha
          obtain ⟨c1, c2, c3⟩ := hc
          obtain ⟨w, ew, r⟩ := h.rep i _ hs
          obtain ⟨k0, hk0⟩ : ∃ k0, s.k = (k0 + 1) + depP path := ⟨s.k - depP path - 1, by omega⟩
          rw [hk0] at r
          refine ⟨hs, ?_⟩
          cases path with
          | none =>
            simp only [subP, Option.some.injEq] at hd
            subst hd
            exact ⟨w, none, w, As i, k0, ew, hp, rfl, r, hk0, fun _ m => m, fun _ z => (by cases z)⟩
          | some key =>
            have hm2 : s.m ≠ 2 := c3.resolve_left fun z => by subst z; cases hp
            obtain ⟨v1, q, E, B1, hw, hB, st, r1, hE⟩ := RepO.step2 r (fun a m => (h.ow i s hs hm2 a m).2) hd
            have nd := h.nd i
            rw [hB] at nd
            exact ⟨w, some key, v1, B1, k0, ew, hp, st, r1, hk0, fun a m => by rw [hB]; exact List.mem_cons_of_mem _ (hE a m), fun _ _ => ⟨fun p e m z => by rw [hw] at z; cases z; exact (List.nodup_cons.mp nd).1 (hE _ m), hm2⟩⟩
        · cases ha
      · cases ha
    · cases ha
  · cases ha
/-- x.update(y), x a name, y a name or an item of one; the items of both are frozen -/
def sUpd (i : Nat) (i2 : Nat) (jo : Option Nat) : SS := fun env => match env[i]? with
  | some (some s) => if i2 ≠ i ∧ s.m ≠ 2 ∧ s.k = 1 then match s.d with
      | .dK kvs => match atE i2 jo env, pathAt jo env with
        | some (s2, .dK more), some path => if s2.k = depP path + 1 ∧ kvs.length + more.length ≤ 16777216 then some (.nx (env.set i (some { s with d := .dK (putAll kvs more) }))) else none
        | _, _ => none
      | _ => none
    else none
  | _ => none
theorem s_upd {st : Stmt} {i i2 : Nat} {jo : Option Nat} (h : PS X st (tDrop (tBM X.K "dict" rUpdate (tVar i) (tCons (tAt X.K i2 jo) tNil)))) : PS X st (tS X.K (sUpd i i2 jo)) := h.wk fun D σ H ⟨env, r, As, L, e, hd, q⟩ => by
  unfold sUpd at e
  split at e
  · rename_i s hs
    split at e
    · rename_i hc
      obtain ⟨hne, hm, hk⟩ := hc
      split at e
      · rename_i kvs hdk
        split at e
        · rename_i s2 more path ha hp
          split at e
          · rename_i hc2
            obtain ⟨hk2, hlen⟩ := hc2
            cases e
            obtain ⟨v, ev, ro⟩ := hd.rep i s hs
            rw [hk, hdk] at ro
            obtain ⟨p, kvsV, E, rfl, rd, hkeys, rs, hB⟩ := dK_inv ro
            have hpA : p ∈ As i := by rw [hB]; exact List.mem_cons_self ..
            have hp1 : H p = some (.dK kvsV) := by
              rcases rd with e | ⟨ob, e⟩
              · exact e
              · exact absurd e ((hd.ow i s hs hm p hpA).2 _ _)
            obtain ⟨h2, w, path', v1, B1, k0, ew, hp', hat, r2, hk0, hBi, hne2⟩ := at_rep hd ha
            rw [hp] at hp'
            cases hp'
            have ek : k0 = 0 := by omega
            subst ek
            obtain ⟨p2, moreV, E2, rfl, rd2, hkeys2, rs2, hB2⟩ := dK_inv r2
            have hp2 : p2 ∈ As i2 := hBi p2 (by rw [hB2]; exact List.mem_cons_self ..)
            have npp : p ≠ p2 := fun z => by subst z; exact hne (hd.dj i2 i p hp2 hpA)
            obtain ⟨e0, ds1⟩ := rs.zeroB
            obtain ⟨e02, ds2⟩ := rs2.zeroB
            have l1 : kvsV.length = kvs.length := by have := congrArg List.length hkeys; simpa using this
            have l2 : moreV.length = more.length := by have := congrArg List.length hkeys2; simpa using this
            refine ⟨.ref p, ev, .inr (.inr (.inl ⟨rfl, .inl ⟨kvsV, hp1⟩⟩)), ?_⟩
            refine at_run ew hp hat (fun a o _ e => e) ?_ (fun j t e => ?_) fun key z => (hne2 key z).1 p2 rfl (by rw [hB2]; exact List.mem_cons_self ..)
            · refine ⟨p, p2, kvsV, moreV, rfl, rfl, npp, hp1, rd2, by rw [l1, l2]; exact hlen, ?_⟩
              obtain ⟨C, R, P2, hR⟩ := (Pst.refl hd).opAt (k := 1) (sl := s) (path := none) (q := p) (d1 := .dK kvs) (d1' := .dK (putAll kvs more)) (o' := .dK (mergeK kvsV moreV)) (Pp := fun R _ => R = []) hs hm ev rfl (by rw [hdk]; rfl) rfl (by rw [hk]; rfl) (fun _ _ z => nomatch z) fun B1' r1 hn hdj => by
                obtain ⟨q', kvs', E', f1, f2, f3, f4, f5⟩ := dK_inv r1
                cases f1
                obtain ⟨f6, _⟩ := f4.zeroB
                subst f6
                subst f5
                refine ⟨[p], [], fun a m => .inl (by simpa using m), by simp, List.mem_cons_self .., fun F' tr tt hs' nF => ⟨?_, rfl⟩⟩
                obtain ⟨i1, i2'⟩ := rep_putAll (K := X.K) (H := upd H p (.dK (mergeK kvsV moreV))) (F := F') hkeys2 (ds2.to (fun a o e n => tr a o e (by rwa [plusL_nil])) tt) hkeys (ds1.to (fun a o e n => tr a o e (by rwa [plusL_nil])) tt)
                exact .dK (.inl upd_same) i1 (RepOs.ofDs i2')
              subst hR
              have P3 := q σ _ _ P2
              exact P3
            · obtain ⟨y, ey, r⟩ := hd.rep j t e
              exact ⟨y, ey, r.view⟩
          · cases e
        · cases e
      · cases e
    · cases e
  · cases e
end
end Ev
set_option Elab.async false
set_option linter.all false
set_option autoImplicit false
set_option maxRecDepth 100000
set_option maxHeartbeats 4000000
/-! Ev22: enumerate, zip. -/
namespace Ev
open PySem PySem.Spec L2

def FitsS (K : PySem.W.Frag) (H : Hp) : Prop := (∀ a xs, SqL K H a xs → xs.length ≤ sizeLine) ∧ ∀ a xs, SqT K H a xs → xs.length ≤ sizeLine
def enumD : Nat → List D → List D
  | _, [] => []
  | i, d :: ds => .tup [.int (i : Nat), d] :: enumD (i + 1) ds
theorem enumD_length : ∀ (i : Nat) (ds : List D), (enumD i ds).length = ds.length
  | _, [] => rfl
  | i, _ :: ds => congrArg (· + 1) (enumD_length (i + 1) ds)
theorem enumD_get : ∀ (k : Nat) (ds : List D) (i : Nat), (enumD k ds)[i]? = (ds[i]?).map fun d => .tup [.int ((k + i : Nat)), d]
  | _, [], _ => rfl
  | k, d :: ds, 0 => rfl
  | k, d :: ds, i + 1 => by
    show (enumD (k + 1) ds)[i]? = _
    rw [enumD_get (k + 1) ds i, Nat.add_right_comm]
    rfl
def zipD : List D → List D → List D
  | a :: as, b :: bs => .tup [a, b] :: zipD as bs
  | _, _ => []
theorem zipD_length : ∀ (as bs : List D), (zipD as bs).length = min as.length bs.length
  | [], _ => by simp [zipD]
  | _ :: _, [] => by simp [zipD]
  | _ :: as, _ :: bs => by simp only [zipD, List.length_cons, zipD_length as bs]; omega
theorem zipD_get : ∀ (as bs : List D) (i : Nat) (d : D), (zipD as bs)[i]? = some d → ∃ a b, as[i]? = some a ∧ bs[i]? = some b ∧ d = .tup [a, b]
  | [], _, i, d, h => by simp [zipD] at h
  | _ :: _, [], i, d, h => by simp [zipD] at h
  | a :: as, b :: bs, 0, d, h => by
    simp only [zipD, List.getElem?_cons_zero, Option.some.injEq] at h
    exact ⟨a, b, rfl, rfl, h.symm⟩
  | a :: as, b :: bs, i + 1, d, h => by
    simp only [zipD, List.getElem?_cons_succ] at h
    obtain ⟨x, y, h1, h2, h3⟩ := zipD_get as bs i d h
    exact ⟨x, y, h1, h2, h3⟩
section
variable {X : Cx} {a b tg e : Expr} {es : List Expr} {ma mb : Bool} {pos : Pos}
theorem pe_fitsS {t : TE} (h : PE X e t) : PE X e (fun σ H Q => t σ H fun v H1 => FitsS X.K H1 → Q v H1) := ⟨fun pins s σ H Q I q =>
  thn (h.run pins s σ H _ I q) fun v s1 ⟨x, H1, I1, r1, q1⟩ => ⟨x, H1, I1, r1, q1 ⟨fun a xs e => (I1.list e).choose_spec.2.2, fun a xs e => (I1.tuple e).choose_spec.2.2⟩⟩⟩
theorem newTup_rep {K : PySem.W.Frag} {H : Hp} {F : Addr → Prop} {T : Addr} {vs : List V} {ds : List D} (n : H T = none) (r : RepDs K H F vs ds) (hF : ∀ a, F a → ∃ o, H a = some o) : RepD K (upd H T (.tup vs)) F (.ref T) (.tup ds) :=
  .tup upd_same (r.to (fun p o e m => ⟨by rw [upd_ne (fun z => by subst z; rw [n] at e; cases e)]; exact e, m⟩) fun p xs e => by rw [upd_ne (fun z => by subst z; rw [n] at e; cases e)]; exact e)
def sEn (s : SL) : SI := fun env => match s env with
  | some ((false, ds), e) => some (enumD 0 ds, e)
  | _ => none
theorem i_enum {s : SL} {p tpos : Pos} {elts : List Expr} {kk : Nat} (hg : Gl X "enumerate") (hm : X.mg "enumerate" = none) (h : PE X a (tL X.K ma true s)) (hs : starEach [a] X.env = (false, eval a X.env) :: starEach [] X.env := by rfl) :
    PI X (.Tuple elts kk tpos) (.Call (.Name "enumerate" p) [a] [] pos) (tI X.K ma (sEn s)) := (pi_enum hg hm (pa_cons (pe_fitsS h) pa_nil hs) hs).wk fun σ H R ⟨env, ds, env', As, L, e, hd, q⟩ => by
  unfold sEn at e
  split at e
  · rename_i ds1 e1 h1
    cases e
    refine ⟨env, false, ds1, env', As, L, h1, hd, fun p vs H1 As1 P n sq rs stay ft => ⟨p, vs, rfl, SqL.of sq, q _ H1 As1 P n ?_⟩⟩
    refine ⟨fun σ' e' H' As' B' P' i hi => ?_, fun σ' e' H' As' B' P' i d hd x H'' y => ?_, fun σ' e' H' As' B' P' i hi => ?_, by rw [enumD_length, ← rs.length]; exact ft.1 p vs (SqL.of sq)⟩
    · have sq' := stay rfl σ' e' H' As' B' P'
      rw [enumD_length, ← rs.length] at hi
      exact ⟨vs, vs[i], SqL.of sq', by simp⟩
    · have sq' := stay rfl σ' e' H' As' B' P'
      obtain ⟨T, z, rfl, nT, rfl, hx⟩ := y
      rw [enumD_get] at hd
      cases hdi : ds1[i]? with
      | none => rw [hdi] at hd; cases hd
      | some d0 =>
        rw [hdi] at hd
        cases hd
        obtain ⟨v, hv, rv⟩ := (P'.keepDs rs).get hdi
        have := hx vs (SqL.of sq')
        rw [hv] at this
        cases this
        refine ⟨fun _ a o e => Nm.new (mu := false) nT rfl a o e, ?_⟩
        rw [Nat.zero_add]
        exact newTup_rep nT (.cons (.int _) (.cons rv .nil)) fun a w => w.elim (fun ⟨j, m⟩ => let ⟨o, eo, _⟩ := P'.hd.there m; ⟨o, eo⟩) fun w => P'.hd.lv a w
    · rw [enumD_length, ← rs.length] at hi
      exact ⟨vs, SqL.of (stay rfl σ' e' H' As' B' P'), hi⟩
  · cases e
/-- two sequences of one kind -/
def sZip (sa sb : SL) : SI := fun env => match sa env with
  | some ((t, ds), e1) => match sb e1 with
    | some ((u, es), e2) => if t = u then some (zipD ds es, e2) else none
    | none => none
  | none => none
theorem i_zip {sa sb : SL} {p tpos : Pos} {elts : List Expr} {kk : Nat} (hg : Gl X "zip") (hm : X.mg "zip" = none) (ha : PE X a (tL X.K ma true sa)) (hb : PE X b (tL X.K mb true sb)) (hs : starEach [a, b] X.env = (false, eval a X.env) :: starEach [b] X.env := by rfl)
    (hs2 : starEach [b] X.env = (false, eval b X.env) :: starEach [] X.env := by rfl) (hpl : (backTo pos (starEach [b] X.env)).any (·.1) = false := by rfl) :
    PI X (.Tuple elts kk tpos) (.Call (.Name "zip" p) [a, b] [] pos) (tI X.K (ma || mb) (sZip sa sb)) := (RZ.pi_zipA hg hm (pa_cons ha (pa_cons (pe_fitsS hb) pa_nil hs2) hs) hs hpl).wk fun σ H R ⟨env, ds, env', As, L, e, hd, q⟩ => by
  unfold sZip at e
  split at e
  · rename_i t ds1 e1 h1
    split at e
    · rename_i u ds2 e2 h2
      split at e
      · rename_i htu
        subst htu
        cases e
        refine ⟨env, t, ds1, e1, As, L, h1, hd, fun p vs H1 As1 P n sq rs stay => ⟨e1, t, ds2, env', As1, L, h2, P.hd0, fun p2 ws H2 As2 P2 n2 sq2 rs2 stay2 ft => ?_⟩⟩
        have rs' := P2.keepDs rs
        rw [plusL_nil] at rs'
        have W : ∀ J : It, (∀ σ' e' H' As' B', Pst X.K σ env' H2 As2 L σ' e' H' As' B' → Sq t H' p vs → Sq t H' p2 ws → (∀ i, i < vs.length → i < ws.length → J.go i H') ∧ (∀ i, vs.length ≤ i ∨ ws.length ≤ i → J.stop i H') ∧
            ∀ i x H'', J.yld i H' x H'' → ∃ T v w, x = .ref T ∧ H' T = none ∧ H'' = upd H' T (.tup [v, w]) ∧ vs[i]? = some v ∧ ws[i]? = some w) → WalkOk X.K σ env' H2 As2 L J (zipD ds1 ds2) := fun J hJ => by
          have st1 : ∀ {σ' e' H' As' B'}, Pst X.K σ env' H2 As2 L σ' e' H' As' B' → Sq t H' p vs := fun {σ' e' H' As' B'} P' => stay rfl σ' e' H' As' B' (P2.seq P')
          have st2 : ∀ {σ' e' H' As' B'}, Pst X.K σ env' H2 As2 L σ' e' H' As' B' → Sq t H' p2 ws := fun {σ' e' H' As' B'} P' => stay2 rfl σ' e' H' As' B' P'
          refine ⟨fun σ' e' H' As' B' P' i hi => ?_, fun σ' e' H' As' B' P' i d hd x H'' y => ?_, fun σ' e' H' As' B' P' i hi => ?_, ?_⟩
          · rw [zipD_length] at hi
            exact (hJ _ _ _ _ _ P' (st1 P') (st2 P')).1 i (by rw [rs.length]; omega) (by rw [rs2.length]; omega)
          · obtain ⟨T, v, w, rfl, nT, rfl, hv, hw⟩ := (hJ _ _ _ _ _ P' (st1 P') (st2 P')).2.2 i x H'' y
            obtain ⟨a', b', ha', hb', rfl⟩ := zipD_get ds1 ds2 i d hd
            obtain ⟨v', hv', rv⟩ := (P'.keepDs rs').get ha'
            obtain ⟨w', hw', rw'⟩ := (P'.keepDs rs2).get hb'
            rw [hv] at hv'
            rw [hw] at hw'
            cases hv'
            cases hw'
            refine ⟨fun _ a o e => Nm.new (mu := false) nT rfl a o e, ?_⟩
            exact newTup_rep nT (.cons rv (.cons rw' .nil)) fun a w => w.elim (fun ⟨j, m⟩ => let ⟨o, eo, _⟩ := P'.hd.there m; ⟨o, eo⟩) fun w => P'.hd.lv a w
          · rw [zipD_length] at hi
            exact (hJ _ _ _ _ _ P' (st1 P') (st2 P')).2.1 i (by rw [rs.length, rs2.length]; omega)
          · rw [zipD_length]
            have hw : ws.length ≤ sizeLine := by
              cases t with
              | true => exact ft.2 p2 ws (SqT.of sq2)
              | false => exact ft.1 p2 ws (SqL.of sq2)
            rw [← rs2.length]
            omega
        have sqv := stay rfl σ env' H2 As2 [] P2
        have fin : ∀ J, WalkOk X.K σ env' H2 As2 L J (zipD ds1 ds2) → R J H2 := fun J w => q J H2 As2 (P.seq P2) (n.trans n2) w
        cases t with
        | true =>
          refine ⟨p, p2, vs, ws, rfl, .inr ⟨SqT.of sqv, SqT.of sq2, fin _ (W _ fun σ' e' H' As' B' P' s1 s2 => ⟨fun i h1 h2 => ⟨vs, ws, vs[i], ws[i], SqT.of s1, SqT.of s2, by simp, by simp⟩, fun i h => ⟨vs, ws, SqT.of s1, SqT.of s2, h⟩, fun i x H'' y => ?_⟩)⟩⟩
          obtain ⟨T, v, w, e1, e2, e3, e4, e5⟩ := y
          exact ⟨T, v, w, e1, e2, e3, e4 vs (SqT.of s1), e5 ws (SqT.of s2)⟩
        | false =>
          refine ⟨p, p2, vs, ws, rfl, .inl ⟨SqL.of sqv, SqL.of sq2, fin _ (W _ fun σ' e' H' As' B' P' s1 s2 => ⟨fun i h1 h2 => ⟨vs, ws, vs[i], ws[i], SqL.of s1, SqL.of s2, by simp, by simp⟩, fun i h => ⟨vs, ws, SqL.of s1, SqL.of s2, h⟩, fun i x H'' y => ?_⟩)⟩⟩
          obtain ⟨T, v, w, e1, e2, e3, e4, e5⟩ := y
          exact ⟨T, v, w, e1, e2, e3, e4 vs (SqL.of s1), e5 ws (SqL.of s2)⟩
      · cases e
    · cases e
  · cases e
end
end Ev
set_option Elab.async false
set_option linter.all false
set_option autoImplicit false
set_option maxRecDepth 100000
set_option maxHeartbeats 4000000
/-! Ev23: sorted. -/
namespace Ev
open PySem PySem.Spec L2

section
variable {α : Type} {lt : α → α → Bool}
def insS (lt : α → α → Bool) (x : α) : List α → List α
  | [] => [x]
  | y :: ys => if lt y x = true then y :: insS lt x ys else x :: y :: ys
def srt (lt : α → α → Bool) (l : List α) : List α := l.foldr (insS lt) []
theorem insS_perm (x : α) : ∀ l : List α, (insS lt x l).Perm (x :: l)
  | [] => List.Perm.refl _
  | y :: ys => by
    unfold insS
    split
    · exact ((insS_perm x ys).cons y).trans (List.Perm.swap x y ys)
    · exact List.Perm.refl _
theorem srt_perm : ∀ l : List α, (srt lt l).Perm l
  | [] => List.Perm.refl _
  | x :: l => (insS_perm x _).trans ((srt_perm l).cons x)
theorem insS_sorted (O : SrtO.Swo lt) (x : α) : ∀ {l : List α}, l.Pairwise (fun a b => lt b a = false) → (insS lt x l).Pairwise (fun a b => lt b a = false)
  | [], _ => List.pairwise_singleton _ _
  | y :: ys, h => by
    obtain ⟨h1, h2⟩ := List.pairwise_cons.mp h
    unfold insS
    split
    · rename_i hy
      refine List.pairwise_cons.mpr ⟨fun z m => ?_, insS_sorted O x h2⟩
      rcases List.mem_cons.mp ((insS_perm x ys).mem_iff.mp m) with rfl | m
      · exact O.asym _ _ hy
      · exact h1 z m
    · rename_i hy
      have hy : lt y x = false := by cases e : lt y x with | true => exact absurd e hy | false => rfl
      exact List.pairwise_cons.mpr ⟨fun z m => (List.mem_cons.mp m).elim (fun e => by rw [e]; exact hy) fun m => O.tr x y z hy (h1 z m), h⟩
theorem srt_sorted (O : SrtO.Swo lt) : ∀ l : List α, (srt lt l).Pairwise (fun a b => lt b a = false)
  | [] => List.Pairwise.nil
  | x :: l => insS_sorted O x (srt_sorted O l)
theorem srt_uniq (anti : ∀ x y, lt x y = false → lt y x = false → x = y) : ∀ {l m : List α}, l.Perm m → l.Pairwise (fun a b => lt b a = false) → m.Pairwise (fun a b => lt b a = false) → l = m
  | [], m, h, _, _ => (List.nil_perm.mp h).symm
  | x :: l, [], h, _, _ => absurd (List.perm_nil.mp h) (by simp)
  | x :: l, y :: m, h, hl, hm => by
    obtain ⟨l1, l2⟩ := List.pairwise_cons.mp hl
    obtain ⟨m1, m2⟩ := List.pairwise_cons.mp hm
    have e : x = y := by
      rcases List.mem_cons.mp (h.mem_iff.mp (List.mem_cons_self (a := x) (l := l))) with e | mx
      · exact e
      · rcases List.mem_cons.mp (h.mem_iff.mpr (List.mem_cons_self (a := y) (l := m))) with e | my
        · exact e.symm
        · exact anti x y (m1 x mx) (l1 y my)
    subst e
    rw [srt_uniq anti h.cons_inv l2 m2]
end
def ltI (a b : Int) : Bool := decide (a < b)
theorem swo_ltI : SrtO.Swo ltI := ⟨fun x y h => by simp only [ltI, decide_eq_true_eq, decide_eq_false_iff_not] at *; omega, fun x y z h1 h2 => by simp only [ltI, decide_eq_false_iff_not] at *; omega⟩
theorem swo_lexI : SrtO.Swo SrtO.lexB := ltP_swo (fun _ => (0, 0)) |> fun _ => ⟨fun x y h => by
    have a := SrtO.lexB_iff.mp h
    refine SrtO.lexB_no.mpr ?_
    omega, fun x y z h1 h2 => by
    have a := SrtO.lexB_no.mp h1
    have b := SrtO.lexB_no.mp h2
    refine SrtO.lexB_no.mpr ?_
    omega⟩
theorem anti_lexI (x y : Int × Int) (h1 : SrtO.lexB x y = false) (h2 : SrtO.lexB y x = false) : x = y := by
  have a := SrtO.lexB_no.mp h1
  have b := SrtO.lexB_no.mp h2
  exact Prod.ext (by omega) (by omega)
def intP (p : Int × Int) : D := .tup [.int p.1, .int p.2]
def prs : List D → Option (List (Int × Int))
  | [] => some []
  | .tup [.int a, .int b] :: r => (prs r).map ((a, b) :: ·)
  | _ => none
/-- sorted: ints, or pairs of ints -/
def gSrt (ds : List D) : Option (List D) := match intsD ds with
  | some ns => some ((srt ltI ns).map .int)
  | none => match prs ds with
    | some ps => some ((srt SrtO.lexB ps).map intP)
    | none => none
section
variable {K : PySem.W.Frag} {H : Hp} {F : Addr → Prop}
/-- the pair at a value -/
def pairAt (H : Hp) : V → Int × Int
  | .ref t => match H t with
    | some (.tup [.int a, .int b]) => (a, b)
    | _ => (0, 0)
  | _ => (0, 0)
theorem prs_rep : ∀ {vs : List V} {ds : List D} {ps : List (Int × Int)}, RepDs K H F vs ds → prs ds = some ps → vs.map (pairAt H) = ps ∧ (∀ x ∈ vs, ∃ t, x = V.ref t ∧ H t = some (.tup [.int (pairAt H x).1, .int (pairAt H x).2]))
  | _, _, ps, .nil, h => by cases h; exact ⟨rfl, fun _ m => nomatch m⟩
  | _, _, ps, .cons (ds := ds) r rs, h => by
    unfold prs at h
    split at h
    · rename_i e; cases e
    · rename_i a b rst e
      cases e
      cases h2 : prs ds with
      | none => rw [h2] at h; cases h
      | some ps' =>
        rw [h2] at h
        cases h
        obtain ⟨i1, i2⟩ := prs_rep rs h2
        cases r with
        | tup ev rt =>
          cases rt with
          | cons ra rt =>
            cases rt with
            | cons rb rt =>
              cases rt
              cases ra
              cases rb
              rename_i p
              have e : pairAt H (.ref p) = (a, b) := by simp [pairAt, ev]
              refine ⟨by rw [List.map_cons, e, i1], fun x m => ?_⟩
              rcases List.mem_cons.mp m with rfl | m
              · exact ⟨p, rfl, by rw [e]; exact ev⟩
              · exact i2 x m
    · cases h
theorem rep_prs : ∀ {vs : List V}, (∀ x ∈ vs, ∃ t, x = V.ref t ∧ H t = some (.tup [.int (pairAt H x).1, .int (pairAt H x).2])) → RepDs K H F vs ((vs.map (pairAt H)).map intP)
  | [], _ => .nil
  | x :: vs, h => by
    obtain ⟨t, e, ht⟩ := h x (List.mem_cons_self ..)
    subst e
    exact .cons (.tup ht (.cons (.int _) (.cons (.int _) .nil))) (rep_prs fun y m => h y (List.mem_cons_of_mem _ m))
theorem rep_ints : ∀ ns : List Int, RepDs K H F (ns.map V.int) (ns.map D.int)
  | [] => .nil
  | n :: ns => .cons (.int n) (rep_ints ns)
theorem perm_map_inv {α β : Type} {f : α → β} : True := trivial
/-- the sorted data of a sorted list -/
theorem srtI_eq {ns ns' : List Int} (h : ns'.Perm ns) (hs : ns'.Pairwise (· ≤ ·)) : ns' = srt ltI ns := by
  refine srt_uniq (lt := ltI) (fun x y h1 h2 => ?_) (h.trans (srt_perm ns).symm) (hs.imp fun {a b} w => ?_) (srt_sorted swo_ltI ns)
  · simp only [ltI, decide_eq_false_iff_not] at h1 h2; omega
  · simp only [ltI, decide_eq_false_iff_not]; omega
theorem srtP_eq {ps ps' : List (Int × Int)} (h : ps'.Perm ps) (hs : ps'.Pairwise (fun a b => SrtO.lexB b a = false)) : ps' = srt SrtO.lexB ps :=
  srt_uniq (fun x y h1 h2 => anti_lexI x y h1 h2) (h.trans (srt_perm ps).symm) hs (srt_sorted swo_lexI ps)
end
section
variable {X : Cx} {a b tg e : Expr} {es : List Expr} {ma mb : Bool} {pos : Pos}
/-- sorted(x) of a list: the new list -/
def rSrt (K : PySem.W.Frag) : List V → Hp → VK → Prop := fun vs H Q => rSortedI K vs H Q ∨ rSortedPO K vs H Q
theorem cr_srt : CallR X (.builtin "sorted") (rSrt X.K) := fun pins s σ H xs us Q I r h => h.elim (cr_sortedI pins s σ H xs us Q I r) (cr_sortedPO pins s σ H xs us Q I r)
def sSrt (s : SL) : SE := fun env => match s env with
  | some ((false, ds), e) => match gSrt ds with
    | some es => some ((.lst es, 1), e)
    | none => none
  | _ => none
theorem e_srt {st : Bool} {p : Pos} {s : SL} (hg : Gl X "sorted") (hm : X.mg "sorted" = none) (ha : PE X a (tL X.K ma st s)) (hs : starEach [a] X.env = (false, eval a X.env) :: starEach [] X.env := by rfl) (hpl : (backTo pos (starEach [] X.env)).any (·.1) = false := by rfl) :
    PE X (.Call (.Name "sorted" p) [a] [] pos) (tE X.K ma (sSrt s)) := (pe_callB (id := "sorted") cr_srt hg hm (by rfl) (pa_cons ha pa_nil hs) (he := hs) (hpl := hpl)).wk fun σ H Q ⟨env, r, env', As, L, e, hd, q⟩ => by
  unfold sSrt at e
  split at e
  · rename_i ds e1 h1
    split at e
    · rename_i es he
      cases e
      refine ⟨env, false, ds, env', As, L, h1, hd, fun p vs H1 As1 P n sq rs _ => ?_⟩
      have fin : ∀ {ys : List V} {q' : Addr}, H1 q' = none → RepDs X.K H1 (Fb As1 L) ys es → Q (.ref q') (upd H1 q' (.lst ys)) := fun {ys q'} np ry => by
        obtain ⟨P2, r2⟩ := P.newList ry np
        exact q _ _ As1 [q'] P2 (fun z a o e => Nm.new (mu := false) np rfl a o (n z a o e)) r2
      unfold gSrt at he
      split at he
      · rename_i ns hns
        cases he
        refine .inl ⟨p, ns, rfl, by rw [← intsD_rep rs hns]; exact SqL.of sq, fun ns' q' hp hs' np => fin np ?_⟩
        rw [srtI_eq hp hs']
        exact rep_ints _
      · split at he
        · rename_i ps hps
          cases he
          obtain ⟨i1, i2⟩ := prs_rep rs hps
          refine .inr ⟨p, vs, pairAt H1, rfl, SqL.of sq, i2, fun ys q' h1 h2 np => fin np ?_⟩
          have hperm : (ys.map (pairAt H1)).Perm ps := by rw [← i1]; exact h2.perm.map _
          have hsrt : (ys.map (pairAt H1)).Pairwise (fun a b => SrtO.lexB b a = false) := List.pairwise_map.mpr h1
          rw [← srtP_eq hperm hsrt]
          exact rep_prs fun x m => i2 x (h2.perm.mem_iff.mp m)
        · cases he
    · cases e
  · cases e
end
end Ev
set_option Elab.async false
set_option linter.all false
set_option autoImplicit false
set_option maxRecDepth 100000
set_option maxHeartbeats 4000000
/-! Ev24: sorted of a dict whose keys are pairs of ints. -/
namespace Ev
open PySem PySem.Spec L2

section
variable {X : Cx} {a b tg e : Expr} {es : List Expr} {ma mb : Bool} {pos : Pos}
theorem cr_sortedT (hcalm : X.calm = true) : CallR X (.builtin "sorted") (fun xs H Q => ∃ (a : Addr) (kvs : List (List Key × V)) (ps : List (Int × Int)), xs = [.ref a] ∧ Rd H a (.dT kvs) ∧ kvs.map (·.1) = ps.map (fun p => [Sum.inl p.1, Sum.inl p.2]) ∧
    ∀ (ys : List V) (p : Addr), (∀ x ∈ ys, ∃ t, x = V.ref t ∧ H t = some (.tup [.int (pairAt H x).1, .int (pairAt H x).2])) → (ys.map (pairAt H)).Perm ps → (ys.map (pairAt H)).Pairwise (fun a b => SrtO.lexB b a = false) → H p = none → Q (.ref p) (upd H p (.lst ys))) := by
  intro pins s σ H xs us Q I r q
  obtain ⟨a, kvs, ps, ex, hd, hks, q⟩ := q
  subst ex
  obtain ⟨u, eu, rx⟩ := vals1 r
  subst eu
  cases rx
  obtain ⟨z, lo, ts, kt, dd⟩ := dt_rd I.hok hd
  obtain ⟨o, es, ep, ho, hc, hdat, he, his, hn⟩ := dd
  have hraw : s.heap.DictRaw a es ep := ⟨o, ho, hc, hdat⟩
  have hlen : es.size = ts.length := by rw [← Array.length_toList, he, List.length_map]
  have hkl : kvs.length = ts.length := Paired.length kt
  have h16 : es.size ≤ sizeLine := by rw [hlen, ← hkl]; exact z
  -- the keys' own tuples
  have keys : ∀ {kvs : List (List Key × V)} {ts : List (List Key × Addr × Value)} {ps : List (Int × Int)}, KT H kvs ts → kvs.map (·.1) = ps.map (fun p => [Sum.inl p.1, Sum.inl p.2]) → (ts.map fun t => pairAt H (.ref t.2.1)) = ps ∧ ∀ t ∈ ts, H t.2.1 = some (.tup [.int (pairAt H (.ref t.2.1)).1, .int (pairAt H (.ref t.2.1)).2]) := by
    intro kvs ts ps r
    induction r generalizing ps with
    | nil => intro h; cases ps with
      | nil => exact ⟨rfl, fun _ m => nomatch m⟩
      | cons _ _ => simp at h
    | @cons p t kvs ts h tl ih =>
      intro hk
      cases ps with
      | nil => simp at hk
      | cons x ps =>
        simp only [List.map_cons, List.cons.injEq] at hk
        obtain ⟨i1, i2⟩ := ih hk.2
        have ht : H t.2.1 = some (.tup [.int x.1, .int x.2]) := by rw [h.2.1, hk.1]; rfl
        have e : pairAt H (.ref t.2.1) = x := by simp [pairAt, ht]
        refine ⟨by rw [List.map_cons, e, i1], fun y m => ?_⟩
        rcases List.mem_cons.mp m with rfl | m
        · rw [e]; exact ht
        · exact i2 y m
  obtain ⟨k1, k2⟩ := keys kt hks
  refine Calls.call_function_entry PyProof.Rows.kind_sorted PyProof.Rows.plain_sorted PyProof.Rows.entry_sorted (PyProof.Rows.args_sorted1 _) ?_
  unfold Builtin.«sorted»
  refine wpAny_bind (m := checkCount "sorted" 1 1 _) (wpAny_pure ?_)
  refine wpAny_bind (PySem.W.kdu_collect (A := X.A.in1) (KdlSrc.rawDict (es := es) (ep := ep) lo) (I.ok.hd hcalm) hraw h16 fun h' tk acc hk hacc => ?_)
  have hal : acc.toList = ts.map fun t => Value.ref t.2.1 := by
    apply List.ext_getElem?
    intro i
    have hsz : acc.size = es.size := hacc.1
    cases e1 : acc.toList[i]? with
    | none =>
      have : ts.length ≤ i := by rw [← hlen, ← hsz, ← Array.length_toList]; exact List.getElem?_eq_none_iff.mp e1
      rw [List.getElem?_map, List.getElem?_eq_none this]
      rfl
    | some v =>
      obtain ⟨hi, ev⟩ := hacc.2 i v (by rw [← Array.getElem?_toList]; exact e1)
      have e2 : es.toList[i]? = some es[i] := by rw [Array.getElem?_toList]; exact Array.getElem?_eq_getElem hi
      rw [he, List.getElem?_map] at e2
      rw [List.getElem?_map]
      cases e3 : ts[i]? with
      | none => rw [e3] at e2; cases e2
      | some t =>
        rw [e3] at e2
        have e4 := Option.some.inj e2
        rw [ev, ← e4]
        rfl
  have I1 : Inv X pins σ H { s with heap := h', toks := tk } := I.kept hk
  have hz : acc.toList.length ≤ sizeLine := by rw [hal, List.length_map, ← hkl]; exact z
  rw [hal] at hz ⊢
  have rv : Vals (ts.map fun t => V.ref t.2.1) (ts.map fun t => Value.ref t.2.1) := by
    clear k1 k2 hal hz he his hn kt hkl hlen
    induction ts with
    | nil => exact .nil
    | cons t ts ih => exact .cons rfl ih
  have hb : ∀ u ∈ ts.map (fun t => Value.ref t.2.1), ∃ b, u = Value.ref b ∧ H b = some (.tup [.int (pairAt H (backV u)).1, .int (pairAt H (backV u)).2]) := fun u m => by
    obtain ⟨t, ht, e⟩ := List.mem_map.mp m
    subst e
    exact ⟨_, rfl, k2 t ht⟩
  have hp : ∀ v ∈ ts.map (fun t => Value.ref t.2.1), Srt.IsPair h' v (pairAt H (backV v)).1 (pairAt H (backV v)).2 := fun v m => by
    obtain ⟨b, rfl, ht⟩ := hb v m
    obtain ⟨_, its2, r2, o2, g1, g2, n2, g3⟩ := I1.hok _ _ ht
    obtain ⟨u1, u2, rfl, ri, rj⟩ := vals2 r2
    obtain ⟨t1, rfl⟩ := ri
    obtain ⟨t2, rfl⟩ := rj
    exact ⟨b, o2, t1, t2, n2, rfl, g1, g2, g3⟩
  refine wpAny_bind (wpAny_newList ?_ hz)
  have hoL : (h'.push (PyProof.Rows.seqObj "list" (ts.map fun t => Value.ref t.2.1).toArray 0)).get? h'.objs.size = some (PyProof.Rows.seqObj "list" (ts.map fun t => Value.ref t.2.1).toArray 0) := Heap.get?_push_size _ rfl
  show wpAny _ _ _ _ _ { s with heap := h'.push (PyProof.Rows.seqObj "list" (ts.map fun t => Value.ref t.2.1).toArray 0), toks := tk }
  refine wpAny_bind (wpAny_holding (wpAny_call_entry PyProof.Rows.slot_list_sort ⟨_, hoL, rfl⟩ PyProof.Rows.entry_list_sort
    (SrtO.list_sort_ord (s := { s with heap := h'.push (PyProof.Rows.seqObj "list" (ts.map fun t => Value.ref t.2.1).toArray 0), toks := tk }) (SrtO.swo_lex fun u => pairAt H (backV u)) hoL hz (fun h2 => ?_) fun out g1 g2 => ⟨_, rfl, ?_⟩) (PyProof.Rows.args_list_sort _)))
  · refine SrtO.pairs_sortableO (k := fun u => pairAt H (backV u)) (by omega) (fun v m => (hp v m).keeps fun b o e _ => Heap.get?_push_of_some _ e) fun o e => ?_
    have e' : some o = some (PyProof.Rows.seqObj "list" (ts.map fun t => Value.ref t.2.1).toArray 0) := e.symm.trans hoL
    cases e'
    intro c
    exact absurd (Value.type.inj c) (by decide)
  · obtain ⟨e', he'⟩ := PyProof.Rows.sortedHeap_at (vs := ts.map fun t => Value.ref t.2.1) (out := out.toArray) hoL
    have h3 : ∀ u ∈ out, ∃ a, u = Value.ref a := fun u hu => by
      obtain ⟨b, e, _⟩ := hb u (g2.perm.mem_iff.mp hu)
      exact ⟨b, e⟩
    have hol : out.length ≤ sizeLine := by rw [g2.perm.length_eq]; exact hz
    refine wpAny_pure ⟨_, rfl, .ref h'.objs.size, upd H h'.objs.size (.lst (out.map backV)), I1.laid (t' := tk) (fun b u e => ?_) (Nat.le_refl _)
      (show ObjOk X.prog X.w _ _ _ (.lst (out.map backV)) from ⟨by rw [List.length_map]; exact hol, out, e', vals_back h3, he'⟩), rfl, q _ _ (fun x m => ?_) ?_ ?_ (I1.hok.fresh (Nat.le_refl _))⟩
    · have hbl : b < h'.objs.size := Heap.lt_size e
      rw [PyProof.Rows.sortedHeap_old (Nat.ne_of_lt hbl) (by rw [PyProof.Rows.size_push']; exact Nat.lt_succ_of_lt hbl)]
      exact Heap.get?_push_of_some _ e
    · obtain ⟨u, hu, e⟩ := List.mem_map.mp m
      subst e
      obtain ⟨b, e, ht⟩ := hb u (g2.perm.mem_iff.mp hu)
      subst e
      exact ⟨b, rfl, ht⟩
    · have w := (g2.perm.map fun u => pairAt H (backV u))
      rw [List.map_map] at w ⊢
      rw [← k1]
      exact w
    · exact List.pairwise_map.mpr (List.pairwise_map.mpr g1)
theorem repT_inv {K : PySem.W.Frag} {H : Hp} {F : Addr → Prop} {v : V} {kds : List (List Key × D)} (r : RepD K H F v (.dT kds)) : ∃ p kvs, v = .ref p ∧ Rd H p (.dT kvs) ∧ kvs.map (·.1) = kds.map (·.1) := by
  cases r with
  | dT rd _ hk rs => exact ⟨_, _, rfl, rd, hk⟩
def pairsK (d : D) : Option (List (Int × Int)) := match d with
  | .dT kvs => kvs.foldr (fun kv r => match kv.1, r with | [.inl a, .inl b], some l => some ((a, b) :: l) | _, _ => none) (some [])
  | _ => none
def sSrtT (s : SP) : SE := fun env => match s env with
  | some (d, e) => match pairsK d with
    | some ps => some ((.lst ((srt SrtO.lexB ps).map intP), 1), e)
    | none => none
  | none => none
theorem pairsK_keys : ∀ {kds : List (List Key × D)} {ps : List (Int × Int)}, pairsK (.dT kds) = some ps → kds.map (·.1) = ps.map (fun p => [Sum.inl p.1, Sum.inl p.2])
  | [], ps, h => by cases h; rfl
  | kv :: kds, ps, h => by
    unfold pairsK at h
    simp only [List.foldr_cons] at h
    split at h
    · rename_i a b l e1 e2
      cases h
      rw [List.map_cons, List.map_cons, e1, pairsK_keys (kds := kds) (ps := l) e2]
    · cases h
theorem e_srtT {p : Pos} {s : SP} (hc : X.calm = true) (hg : Gl X "sorted") (hm : X.mg "sorted" = none) (ha : PE X a (tP X.K ma s)) (hs : starEach [a] X.env = (false, eval a X.env) :: starEach [] X.env := by rfl) (hpl : (backTo pos (starEach [] X.env)).any (·.1) = false := by rfl) :
    PE X (.Call (.Name "sorted" p) [a] [] pos) (tE X.K ma (sSrtT s)) := (pe_callB (id := "sorted") (cr_sortedT hc) hg hm (by rfl) (pa_cons ha pa_nil hs) (he := hs) (hpl := hpl)).wk fun σ H Q ⟨env, r, env', As, L, e, hd, q⟩ => by
  unfold sSrtT at e
  split at e
  · rename_i d e1 h1
    split at e
    · rename_i ps hps
      cases e
      refine ⟨env, d, env', As, L, h1, hd, fun v H1 As1 P n rv => ?_⟩
      cases d with
      | dT kds =>
        obtain ⟨p, kvs, rfl, rd, hk⟩ := repT_inv rv
        · refine ⟨p, kvs, ps, rfl, rd, hk.trans (pairsK_keys hps), fun ys q' h1 h2 h3 np => ?_⟩
          have ry : RepDs X.K H1 (Fb As1 L) ys ((srt SrtO.lexB ps).map intP) := by
            rw [← srtP_eq h2 h3]
            exact rep_prs h1
          obtain ⟨P2, r2⟩ := P.newList ry np
          exact q _ _ As1 [q'] P2 (fun z a o e => Nm.new (mu := false) np rfl a o (n z a o e)) r2
      | _ => cases hps
    · cases e
  · cases e
end
end Ev
set_option Elab.async false
set_option linter.all false
set_option autoImplicit false
set_option maxRecDepth 100000
set_option maxHeartbeats 4000000
/-! Ev25: max, min of a list or a tuple of ints. -/
namespace Ev
open PySem PySem.Spec L2

def maxZ (n : Int) (ns : List Int) : Int := ns.foldl (fun a y => if a < y then y else a) n
def minZ (n : Int) (ns : List Int) : Int := ns.foldl (fun a y => if y < a then y else a) n
def itemsD : D → Option (List D)
  | .lst ds => some ds
  | .tup ds => some ds
  | _ => none
def gMaxL (d : D) : Option D := match itemsD d with
  | some ds => match intsD ds with
    | some (n :: ns) => some (.int (maxZ n ns))
    | _ => none
  | none => none
def gMinL (d : D) : Option D := match itemsD d with
  | some ds => match intsD ds with
    | some (n :: ns) => some (.int (minZ n ns))
    | _ => none
  | none => none
theorem maxZ_eq (n : Int) (ns : List Int) : PySem.W.maxOf n ns = maxZ n ns := by
  unfold PySem.W.maxOf maxZ
  congr 1
  funext a y
  show (if decide (a < y) = true then y else a) = _
  by_cases h : a < y <;> simp [h]
theorem minZ_eq (n : Int) (ns : List Int) : PySem.W.minOf n ns = minZ n ns := by
  unfold PySem.W.minOf minZ
  congr 1
  funext a y
  show (if decide (y < a) = true then y else a) = _
  by_cases h : y < a <;> simp [h]
section
variable {X : Cx} {a b tg e : Expr} {es : List Expr} {ma mb : Bool} {pos : Pos}
theorem holdInts {h : Heap} {vs : List Value} {ns : List Int} (x : PyProof.Rows.IntsAre vs ns) : PySem.W.HoldAll h vs ns := ⟨[], PyProof.Rows.ints_readAll h x⟩
theorem holdInt {h : Heap} {v : Value} {n : Int} (x : PySem.W.Holds h v n) : ∃ t, v = .int n t := by
  obtain ⟨as, r⟩ := x
  cases r with
  | int i t => exact ⟨t, rfl⟩
/-- a list or a tuple of ints, concretely -/
theorem ints_at {pins : List (Addr × Obj)} {s : Shared} {σ : St} {H : Hp} {x : V} {u : Value} {d : D} {ds : List D} {ns : List Int} (I : Inv X pins σ H s) (r : RepV X.K H x d) (hi : itemsD d = some ds) (hn : intsD ds = some ns) (rx : RelV x u) :
    ∃ (p : Addr) (its : List Value), u = .ref p ∧ PyProof.Rows.IntsAre its ns ∧ (s.heap.IsList p its.toArray ∨ s.heap.IsTuple p its.toArray) := by
  unfold itemsD at hi
  split at hi
  · cases hi
    cases r with
    | lst e _ rs =>
      cases rx
      obtain ⟨its, rv, hl, _⟩ := I.list (SqL.of e)
      rw [intsD_rep rs hn] at rv
      exact ⟨_, its, rfl, rv.ints, .inl hl.isList⟩
  · cases hi
    cases r with
    | tup e rs =>
      cases rx
      obtain ⟨its, rv, hl, _⟩ := I.tuple (SqT.of e)
      rw [intsD_rep rs hn] at rv
      exact ⟨_, its, rfl, rv.ints, .inr hl⟩
  · cases hi
theorem c_maxL (hc : X.calm = true) (hu : X.A.units + 200 < cLine) : CallR X (.builtin "max") (rC1 X.K gMaxL) := by
  intro pins s σ H xs us Q I r ⟨x, d, c, ex, rd, hg, _, q⟩
  subst ex
  obtain ⟨u, rfl, ru⟩ := vals1 r
  unfold gMaxL at hg
  split at hg
  · rename_i ds hi
    split at hg
    · rename_i n ns hn
      cases hg
      obtain ⟨p, its, rfl, hI, hl⟩ := ints_at I rd hi hn ru
      have dep : X.A.units + 1 + PySem.W.Datum.depth Int < cLine := by show X.A.units + 1 + PySem.W.Datum.depth Int < cLine; have : PySem.W.Datum.depth Int ≤ 10 := by decide
                                                                       omega
      have fin : ∀ (v : Value) (h' : Heap) (tk : Nat), PySem.W.Holds h' v (PySem.W.maxOf n ns) → (∀ b o, s.heap.get? b = some o → h'.get? b = some o) → EP X pins σ Q v { s with heap := h', toks := tk } := fun v h' tk hv hk => by
        obtain ⟨t, rfl⟩ := holdInt hv
        exact ⟨.int (maxZ n ns), H, I.kept hk, ⟨t, by rw [maxZ_eq]⟩, q⟩
      rcases hl with hl | hl
      · exact PySem.W.max_list_datum (I.ok.hd hc) hl (holdInts hI) dep fun i v h' tk _ hv hk => fin v h' tk hv hk
      · exact PySem.W.max_tuple_datum (I.ok.hd hc) hl (holdInts hI) dep fun i v h' tk _ hv hk => fin v h' tk hv hk
    · cases hg
  · cases hg
theorem c_minL (hc : X.calm = true) (hu : X.A.units + 200 < cLine) : CallR X (.builtin "min") (rC1 X.K gMinL) := by
  intro pins s σ H xs us Q I r ⟨x, d, c, ex, rd, hg, _, q⟩
  subst ex
  obtain ⟨u, rfl, ru⟩ := vals1 r
  unfold gMinL at hg
  split at hg
  · rename_i ds hi
    split at hg
    · rename_i n ns hn
      cases hg
      obtain ⟨p, its, rfl, hI, hl⟩ := ints_at I rd hi hn ru
      have dep : X.A.units + 1 + PySem.W.Datum.depth Int < cLine := by show X.A.units + 1 + PySem.W.Datum.depth Int < cLine; have : PySem.W.Datum.depth Int ≤ 10 := by decide
                                                                       omega
      have fin : ∀ (v : Value) (h' : Heap) (tk : Nat), PySem.W.Holds h' v (PySem.W.minOf n ns) → (∀ b o, s.heap.get? b = some o → h'.get? b = some o) → EP X pins σ Q v { s with heap := h', toks := tk } := fun v h' tk hv hk => by
        obtain ⟨t, rfl⟩ := holdInt hv
        exact ⟨.int (minZ n ns), H, I.kept hk, ⟨t, by rw [minZ_eq]⟩, q⟩
      rcases hl with hl | hl
      · exact PySem.W.min_list_datum (I.ok.hd hc) hl (holdInts hI) dep fun i v h' tk _ hv hk => fin v h' tk hv hk
      · exact PySem.W.min_tuple_datum (I.ok.hd hc) hl (holdInts hI) dep fun i v h' tk _ hv hk => fin v h' tk hv hk
    · cases hg
  · cases hg
/-- max(x, default=y) -/
def gMaxD (d z : D) : Option D := match itemsD d with
  | some ds => match intsD ds with
    | some (n :: ns) => some (.int (maxZ n ns))
    | some [] => some z
    | _ => none
  | none => none
def rCK (K : PySem.W.Frag) (g : D → D → Option D) : List V → List V → Hp → VK → Prop := fun xs zs H Q => ∃ x z d dz c, xs = [x] ∧ zs = [z] ∧ RepV K H x d ∧ RepV K H z dz ∧ g d dz = some c ∧ c.scl = true ∧ Q (dV c) H
theorem c_maxD (hc : X.calm = true) (hu : X.A.units + 200 < cLine) : CallRK X (.builtin "max") [Str.ofString "default"] (rCK X.K gMaxD) := by
  intro pins s σ H xs zs us ws Q I r rz ⟨x, z, d, dz, c, ex, ez, rd, rdz, hg, hs, q⟩
  subst ex ez
  obtain ⟨u, rfl, ru⟩ := vals1 r
  obtain ⟨w, rfl, rw⟩ := vals1 rz
  unfold gMaxD at hg
  have dep : X.A.units + 1 + PySem.W.Datum.depth Int < cLine := by
    have : PySem.W.Datum.depth Int ≤ 10 := by decide
    omega
  split at hg
  · rename_i ds hi
    have main : ∀ ns : List Int, intsD ds = some ns → (ns = [] → c = dz) → (∀ n m, ns = n :: m → c = .int (maxZ n m)) → wpAny (model X.prog X.w) X.A (call (.builtin "max") [u] [(Str.ofString "default", w)]) (EP X pins σ Q) X.xe s := fun ns hn h0 h1 => by
      obtain ⟨p, its, rfl, hI, hl⟩ := ints_at I rd hi hn ru
      have f0 : ns = [] → ∀ (h' : Heap) (tk : Nat), (∀ b o, s.heap.get? b = some o → h'.get? b = some o) → EP X pins σ Q w { s with heap := h', toks := tk } := fun e h' tk hk => by
        have ec := h0 e
        subst ec
        rw [scl_inv rdz hs] at rw
        exact ⟨dV c, H, I.kept hk, rw, q⟩
      have f1 : ∀ (y : Int) (ys : List Int) (v : Value) (h' : Heap) (tk : Nat), ns = y :: ys → PySem.W.Holds h' v (PySem.W.maxOf y ys) → (∀ b o, s.heap.get? b = some o → h'.get? b = some o) → EP X pins σ Q v { s with heap := h', toks := tk } := fun y ys v h' tk e hv hk => by
        have ec := h1 y ys e
        subst ec
        obtain ⟨t, rfl⟩ := holdInt hv
        exact ⟨.int (maxZ y ys), H, I.kept hk, ⟨t, by rw [maxZ_eq]⟩, q⟩
      rcases hl with hl | hl
      · exact PySem.W.max_list_datum_default (I.ok.hd hc) hl (holdInts hI) dep f0 fun y ys i v h' tk e _ hv hk => f1 y ys v h' tk e hv hk
      · exact PySem.W.max_tuple_datum_default (I.ok.hd hc) hl (holdInts hI) dep f0 fun y ys i v h' tk e _ hv hk => f1 y ys v h' tk e hv hk
    split at hg
    · rename_i n ns hn
      cases hg
      exact main _ hn (fun e => by cases e) fun _ _ e => by cases e; rfl
    · rename_i hn
      cases hg
      exact main _ hn (fun _ => rfl) fun _ _ e => by cases e
    · cases hg
  · cases hg
theorem ck_wk {g : D → D → Option D} {sa sb : SP} {kws : List Keyword} (σ : St) (H : Hp) (Q : VK) : tE X.K (ma || mb) (sOp mb g sa sb) σ H Q → tCKw (rCK X.K g) (tCons (tP X.K ma sa) tNil) (tCons (tP X.K mb sb) tNil) σ H Q := by
  rintro ⟨env, r, env', As, L, e, hd, q⟩
  obtain ⟨x, e1, y, c, h1, h2, hm, hg, hs, rfl⟩ := sOp_some e
  refine ⟨env, x, e1, As, L, h1, hd, fun v1 H1 As1 P1 n1 r1 => ⟨e1, y, env', As1, L, h2, P1.hd0, fun v2 H2 As2 P2 n2 r2 => ?_⟩⟩
  refine ⟨v1, v2, x, y, c, rfl, rfl, ?_, r2, hg, hs, q _ H2 As2 [] (P1.seq P2) (n1.trans n2) (scl_end hs)⟩
  rcases hm with hm | hm
  · exact r1.keep (n2 hm)
  · rw [scl_inv r1 hm]
    exact scl_rep hm
theorem e_maxD {p : Pos} {kpos : Pos} {sa sb : SP} (hc : X.calm = true) (hu : X.A.units + 200 < cLine) (hg : Gl X "max") (hm : X.mg "max" = none) (ha : PE X a (tP X.K ma sa)) (hb : PE X b (tP X.K mb sb)) (hs : starEach [a] X.env = (false, eval a X.env) :: starEach [] X.env := by rfl)
    (he : backTo pos (starEach [a] X.env) = (false, eval a X.env) :: backTo pos (starEach [] X.env) := by rfl) (hpl : (backTo pos (starEach [a] X.env)).any (·.1) = false := by rfl)
    (hall : (backToKw pos (keywordEach [⟨some (Str.ofString "default"), b, kpos⟩] X.env)).all (·.1.isSome) = true := by rfl) (hnone : (backToKw pos (keywordEach [⟨some (Str.ofString "default"), b, kpos⟩] X.env)).any (·.1.isNone) = false := by rfl) (hks : (backToKw pos (keywordEach [⟨some (Str.ofString "default"), b, kpos⟩] X.env)).filterMap (·.1) = [Str.ofString "default"] := by rfl) :
    PE X (.Call (.Name "max" p) [a] [⟨some (Str.ofString "default"), b, kpos⟩] pos) (tE X.K (ma || mb) (sOp mb gMaxD sa sb)) :=
  (pe_callBK (c_maxD hc hu) hg hm (by rfl) (pa_cons ha pa_nil hs) (pk_cons hb pk_nil) (he := he) (hpl := hpl) (hall := hall) (hnone := hnone) (hks := hks)).wk fun σ H Q h => ck_wk (X := X) (kws := []) σ H Q h
end
end Ev
set_option Elab.async false
set_option linter.all false
set_option autoImplicit false
set_option maxRecDepth 100000
set_option maxHeartbeats 4000000
/-! Ev26: defs and calls where no repr is under way (repr may be called); the law's own call. -/
namespace Ev
open PySem PySem.Spec L2

/-- a def's promise, asked only where no repr is under way -/
structure FnG (P : Program) (w : World) (K : PySem.W.Frag) (mg : Str → Option Value) (base : Heap) (k : Nat) (f : Addr) (fd : FuncData) (ps : List Str) (sp : Sp) : Prop where
  len : ∀ vs H Q E, sp vs H Q E → vs.length = ps.length
  go : ∀ (A : Around) (outer : List Env) (s : Shared) (H : Hp) (ar : Args) (us : List Value) (vs : List V) (Q : VK) (E : XK), A.guards = some [] → Room k A → Env0 P w K mg base A outer s H → BindsTo s fd ar (ps.zip us) → Vals vs us → sp vs H Q E →
    codeAny (model P w) A (.call (.ref f) ar) (CR CX0 outer P w H s Q E) s
theorem FnG.up {P : Program} {w : World} {K : PySem.W.Frag} {mg : Str → Option Value} {base : Heap} {j k : Nat} {f : Addr} {fd : FuncData} {ps : List Str} {sp : Sp} (F : FnG P w K mg base j f fd ps sp) (h : j ≤ k) : FnG P w K mg base k f fd ps sp :=
  ⟨F.len, fun A outer s H ar us vs Q E g hr => F.go A outer s H ar us vs Q E g (hr.mono h)⟩
section
variable {P : Program} {w : World} {K : PySem.W.Frag} {mg : Str → Option Value} {base : Heap} {k : Nat} {f : Addr} {fd : FuncData} {ps : List Str} {bd : SS}
/-- the body's walk gives the def's promise -/
theorem fnG_ok {x qual : Str} {st : Stmt} {N : List Str} (F : Fun K x qual st f fd) (S : FnScope N ps (defScope st))
    (hb : ∀ (cdv : Value) (A : Around) (outer : List Env) (s : Shared) (H : Hp) (E : XK), A.guards = some [] → Room k (A.deeper (PyProof.Rows.envOfC qual (defScope st) s.heap.objs.size f cdv)) → PSs (cxOf CX0 P w K mg base N qual (defScope st) f cdv A outer s H E).nox (defBody st) (tS K bd)) :
    FnG P w K mg base (k + 1) f fd ps (spF K (N.length - ps.length) ps.length bd) := by
  obtain ⟨oc, od, kV, doc, pm, an, cdv, ct, osl, rfl, lk, hcd⟩ := F.ex
  refine ⟨fun vs H Q E h => h.1, fun A outer s H ar us vs Q E hg hr e0 hbd rv hsp => ?_⟩
  have kept : ∀ b o, base.get? b = some o → s.heap.get? b = some o := fun b o e => (e0.bs b o e).1
  have inK := e0.mod.kin.keeps kept
  have nl := e0.mod.nolimit.keeps kept
  refine codeAny_call_function hr.depth (inK _ _ lk) rfl S.co S.gen rfl (PySem.W.codeRec_of inK hcd) (hbd _ _ _ _ ?_)
  refine wpAny_newFunctionEnv_cells S.kind (fun ⟨n, v⟩ hy => ?_) fun env he s1 xx => ?_
  · exact (S.par n (List.of_mem_zip hy).1).imp id fun q => ⟨q, PySem.W.cellsFrom_some _ _ _ (.inl q)⟩
  · subst he
    refine ⟨nl.keeps xx.toInCall.keep, codeAny_func ?_⟩
    obtain ⟨hl, ce, r0, As, L, e, hd, q⟩ := hsp
    have J0 : Inv (cxOf CX0 P w K mg base N qual (defScope st) f cdv A outer s H E) [] (L2.start N vs) H s1 := inv_start S hr.hd e0 hl rv xx
    have run := (hb cdv A outer s H E hg (hr.deeper _)).nox
    refine wpAny_mono (run.run [] s1 (L2.start N vs) H { nx := fun _ H' => Q .non H', rt := Q } J0 ⟨ce ++ List.replicate (N.length - ps.length) none, r0, As, L, e, by unfold L2.start; rw [hl]; exact hd, by unfold L2.start; rw [hl]; exact q⟩) (fun fl s' hs => ?_) fun _ _ z => z
    cases fl with
    | ret u => obtain ⟨v, σ', H', J, r1, q1⟩ := hs; exact ⟨v, H', J.os, J.bare, J.base, J.hok, r1, q1⟩
    | next => obtain ⟨σ', H', J, q1⟩ := hs; exact ⟨.non, H', J.os, J.bare, J.base, J.hok, rfl, q1⟩
    | brk => obtain ⟨_, _, _, z⟩ := hs; exact (show False from z).elim
    | cont => obtain ⟨_, _, _, z⟩ := hs; exact (show False from z).elim
end
section
variable {X : Cx} {a b : Expr} {es : List Expr} {ma mb bw : Bool} {pos : Pos}
variable {k n : Nat} {f : Addr} {fd : FuncData} {ps ks : List Str} {bd : SS} {s : SAg} {x : Str} {p : Pos} {e : Expr} {kws : List Keyword} {sp : Sp}
theorem run_G {pins : List (Addr × Obj)} {σ : St} {H : Hp} {s : Shared} {Q : VK} {us ws : List Value} {vs zs : List V} {gv : List Value → List Value → List Value} {gV : List V → List V → List V} (F : FnG X.prog X.w X.K X.mg X.base k f fd ps sp) (hg : X.A.guards = some []) (hr : Room k X.A)
    (hb : ∀ (s : Shared), X.K.In s.heap → BindsTo s fd ⟨us, ks.zip ws⟩ (ps.zip (gv us ws))) (I : Inv X pins σ H s) (r : Vals (gV vs zs) (gv us ws)) (h : sp (gV vs zs) H Q E0) : wpAny (model X.prog X.w) X.A (call (.ref f) us (ks.zip ws)) (EP X pins σ Q) X.xe s := by
  refine wpAny_call (codeAny_mono (F.go X.A X.stack s H ⟨us, ks.zip ws⟩ (gv us ws) (gV vs zs) Q E0 hg hr I.env0 (hb s I.kIn) r h) fun rr s' hq => ?_)
  match rr, hq with
  | .error _, hq => exact False.elim hq
  | .ok (.ret _), hq => exact I.after hq
  | .ok .next, hq => exact False.elim hq
  | .ok .brk, hq => exact False.elim hq
  | .ok .cont, hq => exact False.elim hq
theorem run_G1 {pins : List (Addr × Obj)} {σ : St} {H : Hp} {s : Shared} {Q : VK} {us : List Value} {vs : List V} (F : FnG X.prog X.w X.K X.mg X.base k f fd ps sp) (hg : X.A.guards = some []) (hr : Room k X.A) (hb : Binds X.K fd ps []) (I : Inv X pins σ H s) (r : Vals vs us) (h : sp vs H Q E0) :
    wpAny (model X.prog X.w) X.A (call (.ref f) us) (EP X pins σ Q) X.xe s := by
  have hl : (us ++ []).length = ps.length := by rw [List.append_nil, ← r.length]; exact F.len _ _ _ _ h
  have hb' : ∀ (s : Shared), X.K.In s.heap → BindsTo s fd ⟨us, ([] : List Str).zip ([] : List Value)⟩ (ps.zip us) := fun s z => by
    have := hb s us z hl
    rwa [List.append_nil] at this
  exact run_G (ks := []) (ws := []) (zs := []) (gv := fun us _ => us) (gV := fun vs _ => vs) F hg hr hb' I r h
theorem e_callG {np : Nat} (F : FnG X.prog X.w X.K X.mg X.base k f fd ps (spF X.K n np bd)) (gd : X.A.guards = some []) (hr : Room k X.A) (hg : Gl X x) (hm : X.mg x = some (.ref f)) (hk : PySem.W.keepIn X.K (.ref f) = true) (hb : Binds X.K fd ps []) (ha : PA X (e :: es) (tAg X.K ma bw s))
    (hdb : (x == ("__debug__" : Str)) = false := by decide) (he : starEach (e :: es) X.env = (false, eval e X.env) :: starEach es X.env := by rfl) (hpl : (backTo pos (starEach es X.env)).any (·.1) = false := by rfl) :
    PE X (.Call (.Name x p) (e :: es) [] pos) (tE X.K (ma || bw) (sCall n np bd s)) := by
  refine ⟨fun pins s0 σ H Q I h => ?_⟩
  have hh := call_core (X := X) E0 h
  refine wpAny_Call_Name_kw (ld_glob I hg hm ?_ hdb)
  refine PySem.W.callWith_K (h₀ := X.base) I.ok.mod.kin hk (thn (ha.run pos pins s0 σ H _ I hh) fun us s1 ⟨vs, H1, I1, r, q⟩ => ⟨I1.kIn, ?_⟩) he hpl
  exact run_G1 F gd hr hb I1 r q
theorem e_callG0 (F : FnG X.prog X.w X.K X.mg X.base k f fd [] (spF X.K n 0 bd)) (gd : X.A.guards = some []) (hr : Room k X.A) (hg : Gl X x) (hm : X.mg x = some (.ref f)) (hk : PySem.W.keepIn X.K (.ref f) = true) (hb : Binds X.K fd [] []) (hdb : (x == ("__debug__" : Str)) = false := by decide) :
    PE X (.Call (.Name x p) [] [] pos) (tE X.K false (sCall n 0 bd agNil)) := by
  refine ⟨fun pins s0 σ H Q I h => ?_⟩
  obtain ⟨env, ags, e1, As, L, h1, hd, q⟩ := call_core (X := X) (ma := false) (bw := false) E0 h
  cases h1
  refine wpAny_Call_Name_kw (ld_glob I hg hm ?_ hdb)
  exact PySem.W.callWith_K0 I.kIn hk (run_G1 (us := []) F gd hr hb I .nil (q [] H As (Pst.refl hd) Nm.refl .nil fun _ => rfl))
theorem e_callGK {np : Nat} {gv : List Value → List Value → List Value} {gV : List V → List V → List V} {g : List Ag → List Ag → List Ag} {t : SAg} {bv : Bool} (og : Ord gV g) (F : FnG X.prog X.w X.K X.mg X.base k f fd ps (spF X.K n np bd)) (gd : X.A.guards = some []) (hr : Room k X.A) (hg : Gl X x) (hm : X.mg x = some (.ref f)) (hk : PySem.W.keepIn X.K (.ref f) = true) (hb : KBinds X.K fd ps ks gv gV)
    (hkw : PK X kws (tAg X.K mb bv t)) (hall : (backToKw pos (keywordEach kws X.env)).all (·.1.isSome) = true := by rfl) (hks : (backToKw pos (keywordEach kws X.env)).filterMap (·.1) = ks := by rfl)
    (hdb : (x == ("__debug__" : Str)) = false := by decide)
    (hpl : ((backTo pos (starEach [] X.env)).any (·.1) || (backToKw pos (keywordEach kws X.env)).any (·.1.isNone)) = false := by rfl) :
    PE X (.Call (.Name x p) [] kws pos) (tE X.K (mb || bv) (sCall n np bd (agKw g agNil t))) := by
  refine ⟨fun pins s0 σ H Q I h => ?_⟩
  obtain ⟨env, ags, e1, As, L, h1, hd, q⟩ := kw_wk (X := X) (ma := false) (bw := false) og (call_core (X := X) (ma := false || mb) (bw := false || bv) E0 h)
  cases h1
  have h2 := q [] H As (Pst.refl hd) Nm.refl .nil fun _ => rfl
  refine wpAny_Call_Name_kw (ld_glob I hg hm ?_ hdb)
  refine PySem.W.callWith_KW0 (h₀ := X.base) I.ok.mod.kin hk hall ?_ hpl
  refine thn (hkw.run pos pins s0 σ H _ I h2) fun ws s2 ⟨zs, H2, I2, rz, q2⟩ => ⟨I2.kIn, ?_⟩
  rw [hks]
  have r2 := hb.rel (vs := []) (us := []) .nil rz
  have hl : (gv [] ws).length = ps.length := by rw [← r2.length]; exact F.len _ _ _ _ q2
  exact run_G F gd hr (fun s z => hb.to s [] ws z hl) I2 r2 q2
end
/-! ### the law's own call -/
theorem law_callG {P : Program} {w : World} {K : PySem.W.Frag} {mg mb : Str → Option Value} {k : Nat} {fa a : Addr} {fd : FuncData} {x : Str} {sp : Sp} {z : Shared} {vs : List Value} {ns : List Int}
    (kz : K.In z.heap) (hmg : z.heap.Ns mainGlobals mg) (hmb : z.heap.Ns builtinsNs mb) (hbt : ∀ x : Str, x ≠ "__name__" → mb x = bootBuiltins x) (hnl : z.heap.NoLimit) (hgn : z.gens = #[])
    (ha : z.heap.get? a = some { cls := .type "list", data := .seq vs.toArray }) (hi : PyProof.Rows.IntsAre vs ns) (hl : ns.length ≤ sizeLine) (hr : Room k PySem.callerA)
    (F : ∀ base : Heap, K.In base → base.Ns mainGlobals mg → FnG P w K mg base k fa fd [x] sp) (hbd : ∀ (s : Shared) (u : Value), BindsTo s fd ⟨[u], []⟩ [(x, u)])
    (hsp : ∀ H : Hp, Only H → SqL K H a (ns.map V.int) → sp [.ref a] H (fun v _ => v = .bl true) E0) :
    codeAny (model P w) PySem.callerA (.call (.ref fa) ⟨[.ref a], []⟩) (fun r s' => r = .ok (.ret (.bool true)) ∧ OldK z.heap s'.heap ∧ s'.os = z.os ∧ PyProof.Rows.AllBare s'.gens) z := by
  have rv := vals_ints hi
  have lv : vs.length = ns.length := hi.length
  -- run from an abstract heap that tracks at most the script
  have go : ∀ H : Hp, Only H → SqL K H a (ns.map V.int) → HOk P w H z.heap → (∀ b, H b ≠ none → b = a ∧ K.lookup a = none) →
      codeAny (model P w) PySem.callerA (.call (.ref fa) ⟨[.ref a], []⟩) (fun r s' => r = .ok (.ret (.bool true)) ∧ OldK z.heap s'.heap ∧ s'.os = z.os ∧ PyProof.Rows.AllBare s'.gens) z := fun H hO hS hok hA => by
    have free : ∀ {b : Addr}, (b = a → K.lookup a ≠ none) → H b = none := fun {b} h => by
      cases q : H b with
      | none => rfl
      | some u =>
        obtain ⟨e1, e2⟩ := hA b (by rw [q]; simp)
        exact absurd e2 (h e1)
    have inB : K.In (hidT z.heap H) := fun b o e => hidT_get (kz b o e) (free fun h => by subst h; rw [e]; simp)
    have ns : ∀ {b : Addr} {m : Str → Option Value}, z.heap.Ns b m → (hidT z.heap H).Ns b m := fun {b m} ⟨o, es, ep, e, d, r⟩ => by
      refine ⟨o, es, ep, hidT_get e ?_, d, r⟩
      cases q : H b with
      | none => rfl
      | some u =>
        obtain ⟨e1, _⟩ := hA b (by rw [q]; simp)
        subst e1
        rw [ha] at e
        cases e
        exact nomatch d
    have md : Mod K mg (hidT z.heap H) := by
      obtain ⟨mc, c1, c2⟩ := hnl
      exact ⟨inB, ns hmg, ⟨mb, ns hmb, hbt⟩, mc, ns c1, c2⟩
    have e0 : Env0 P w K mg (hidT z.heap H) PySem.callerA [] z H := ⟨rfl, md, fun b o e => of_hidT e, Nat.le_of_eq (hidT_size _ _), trivial, fun b m => (List.not_mem_nil m).elim, hok, .of_eq hgn⟩
    refine codeAny_mono ((F _ inB (ns hmg)).go PySem.callerA [] z H ⟨[.ref a], []⟩ [.ref a] [.ref a] _ _ rfl hr e0 (hbd z (.ref a)) (.cons rfl .nil) (hsp H hO hS)) fun r s' h => ?_
    match r, h with
    | .error _, h => exact False.elim h
    | .ok .next, h => exact False.elim h
    | .ok .brk, h => exact False.elim h
    | .ok .cont, h => exact False.elim h
    | .ok (.ret u), ⟨v, H', os, bare, un, hok', r', q⟩ =>
      have q' : v = .bl true := q
      subst q'
      cases r'
      refine ⟨rfl, OldK.of_keep fun b o e => ?_, os, bare⟩
      cases q : H b with
      | none => exact un.keep b o e q (fun m => (List.not_mem_nil m).elim) (fun m => (List.not_mem_nil m).elim)
      | some u =>
        obtain ⟨ob, xs, e2⟩ := (hO b).resolve_left (by rw [q]; simp)
        have f1 := (hok b _ e2).1
        have f2 := (hok' b _ (un.frzs b ob _ e2)).1
        rw [e] at f1
        cases f1
        exact f2
  by_cases hk : K.lookup a = none
  · have at_ : ∀ b u, (if b = a then some (HO.frz { cls := .type "list", data := .seq vs.toArray } (.lst (ns.map V.int))) else none) = some u → b = a ∧ u = .frz { cls := .type "list", data := .seq vs.toArray } (.lst (ns.map V.int)) := fun b u e => by
      by_cases h : b = a
      · rw [if_pos h] at e; exact ⟨h, (Option.some.inj e).symm⟩
      · rw [if_neg h] at e; cases e
    refine go (fun b => if b = a then some (.frz { cls := .type "list", data := .seq vs.toArray } (.lst (ns.map V.int))) else none) (fun b => ?_) (.inl (.inr ⟨_, if_pos rfl⟩)) (fun b u e => ?_) fun b e => ?_
    · by_cases h : b = a
      · exact .inr ⟨_, _, if_pos h⟩
      · exact .inl (if_neg h)
    · obtain ⟨rfl, rfl⟩ := at_ b u e
      exact ⟨ha, by rw [List.length_map]; exact hl, vs, _, rv, ha⟩
    · by_cases h : b = a
      · exact ⟨h, hk⟩
      · exact absurd (if_neg h) e
  · obtain ⟨o, ho⟩ := Option.ne_none_iff_exists'.mp hk
    have e := kz a o ho
    rw [ha] at e
    cases e
    exact go (fun _ => none) (fun _ => .inl rfl) (.inr ⟨_, vs.toArray, _, ho, rfl, rfl, rfl, by rw [List.size_toArray, lv]; exact hl, by simpa using rv⟩) (fun b u e => by cases e) fun b e => absurd rfl e
/-- the goal that k_head leaves, from the law's promise -/
theorem walkG_of {l : PySem.W.OpenLaw} {n k : Nat} {q : Program} {loose : List Str} {XP : (Str → Option Value) → Heap → Prop} {YP : World → Heap → Prop} {d : DefRec} {K : Params → PySem.W.Frag} {sp : World → Sp} {x : Str} (h1 : l.most = some n) (h2 : n ≤ sizeLine) (h3 : d.params.defaults = []) (hr : Room k PySem.callerA) (hY : ∀ (w : World) (h : Heap), YP w h → (K w.params).In h)
    (F : ∀ (w : World) (mg : Str → Option Value) (fa : Addr) (h : Heap), (K w.params).In h → h.Ns mainGlobals mg → mg d.name = some (.ref fa) → ∃ fd : FuncData, (∀ (s : Shared) (u : Value), BindsTo s fd ⟨[u], []⟩ [(x, u)]) ∧ ∀ base : Heap, (K w.params).In base → base.Ns mainGlobals mg → FnG l.prog w (K w.params) mg base k fa fd [x] (sp w))
    (hsp : ∀ (w : World) (H : Hp) (a : Addr) (ns : List Int), ns.length ≤ n → Only H → SqL (K w.params) H a (ns.map V.int) → sp w [.ref a] H (fun v _ => v = .bl true) E0) : PySem.W.WalkO q loose XP YP l.row.toRowW d [] (fun f vs => PySem.call f vs) := by
  refine Att.attach_call h1 h3 fun w s0 s1 mg mb fa o pm cd doc a vs ns G Y ho hd hcd hmg hobj hints hlen hg => ?_
  have kx := hY w _ Y
  obtain ⟨fd, b1, b2⟩ := F w mg fa _ kx G.T.g hmg
  exact law_callG kx G.T.g G.T.b G.T.builtins G.T.nolimit hg hobj hints (Nat.le_trans hlen h2) hr b2 b1 fun H hO hS => hsp w H a ns hlen hO hS
end Ev
set_option Elab.async false
set_option linter.all false
set_option autoImplicit false
set_option maxRecDepth 100000
set_option maxHeartbeats 4000000
/-! Ev27: repr, texts compared. -/
namespace Ev
open PySem PySem.Spec L2

def gRepr (d : D) : Option D := if d.sh 64 = true ∧ d.toPy.showable = true ∧ d.toPy.shown.length ≤ 16777216 then some (.str d.toPy.shown) else none
/-- ==, != with texts of any kind -/
def gEqX (a b : D) : Option D := match a, b with
  | .str x, .str y => some (.bl (decide (x = y)))
  | a, b => gEq a b
def gNeX (a b : D) : Option D := match a, b with
  | .str x, .str y => some (.bl (!decide (x = y)))
  | a, b => gNe a b
section
variable {X : Cx} {a b tg e : Expr} {es : List Expr} {ma mb : Bool} {pos : Pos}
theorem o_eqX (h : X.A.units + 200 < cLine) : OpR X (compareOp .Eq) (rOp X.K gEqX) := by
  intro pins s σ H x y v u Q I rx ry ⟨da, db, c, r1, r2, hg, hs, q⟩
  unfold gEqX at hg
  split at hg
  · rename_i p q'
    cases hg
    cases r1
    cases r2
    refine op_eq pins s σ H _ _ v u Q I rx ry ⟨rfl, ?_⟩
    have e : decide (V.str p = V.str q') = decide (p = q') := by
      by_cases h : p = q' <;> simp [h]
    rw [e]
    exact q
  · exact o_eq (by omega) pins s σ H x y v u Q I rx ry ⟨_, _, c, r1, r2, hg, hs, q⟩
theorem o_neX (h : X.A.units + 200 < cLine) : OpR X (compareOp .NotEq) (rOp X.K gNeX) := by
  intro pins s σ H x y v u Q I rx ry ⟨da, db, c, r1, r2, hg, hs, q⟩
  unfold gNeX at hg
  split at hg
  · rename_i p q'
    cases hg
    cases r1
    cases r2
    refine op_ne pins s σ H _ _ v u Q I rx ry ⟨rfl, ?_⟩
    have e : decide (V.str p = V.str q') = decide (p = q') := by
      by_cases h : p = q' <;> simp [h]
    rw [e]
    exact q
  · exact o_ne (by omega) pins s σ H x y v u Q I rx ry ⟨_, _, c, r1, r2, hg, hs, q⟩
theorem c_repr (hg : X.A.guards = some []) (hu : X.A.units + 200 < cLine) : CallR X (.builtin "repr") (rC1 X.K gRepr) := by
  intro pins s σ H xs us Q I r ⟨x, d, c, ex, rd, hc, _, q⟩
  subst ex
  obtain ⟨u, rfl, ru⟩ := vals1 r
  unfold gRepr at hc
  split at hc
  · rename_i hh
    obtain ⟨h1, h2, h3⟩ := hh
    cases hc
    have fin : ∀ (h' : Heap) (t : Tok) (tk : Nat), (∀ b o, s.heap.get? b = some o → h'.get? b = some o) → EP X pins σ Q (.str d.toPy.shown t) { s with heap := h', toks := tk } := fun h' t tk hk => ⟨.str _, H, I.kept hk, ⟨t, rfl⟩, q⟩
    have sh := sh_shaped h1
    have hd := PyData.hasDict_of_canLay _ (SeqAt.canLay_of_shaped sh)
    have dp := SeqAt.depth_of_shaped sh
    obtain ⟨as, rs⟩ := Dp.reads I _ x u (D.sh_dp rd h1) ru
    have ref : ∀ p, u = .ref p → wpAny (model X.prog X.w) X.A (call (.builtin "repr") [u]) (EP X pins σ Q) X.xe s := fun p e => by
      subst e
      exact repr_of_reads' rs h2 (PyData.noDict_hsm hd) hg (by omega) (fun _ _ e => e) (fun h' t tk hk => fin h' t tk hk) h3
    cases rd with
    | non => cases ru; exact P.repr_of_none (by simpa [D.toPy, PyData.shown] using fin s.heap s.toks (s.toks + 1) fun _ _ e => e)
    | bl b => cases ru; exact P.repr_of_bool (by simpa [D.toPy, PyData.shown] using fin s.heap s.toks (s.toks + 1) fun _ _ e => e)
    | int i =>
      obtain ⟨t, rfl⟩ := ru
      exact P.repr_of_int (by simpa [D.toPy, PyData.showable] using h2) (by simpa [D.toPy, PyData.shown] using fin s.heap s.toks (s.toks + 1) fun _ _ e => e)
    | str z =>
      obtain ⟨t, rfl⟩ := ru
      exact P.repr_of_str (by simpa [D.toPy, PyData.shown] using fin s.heap s.toks (s.toks + 1) fun _ _ e => e) (by rw [sizeLine_eq]; simpa [D.toPy, PyData.shown] using h3)
    | tup e _ => cases ru; exact ref _ rfl
    | lst e _ _ => cases ru; exact ref _ rfl
    | scr _ => simp [D.sh] at h1
    | dK _ _ _ _ => simp [D.sh] at h1
    | dT _ _ _ _ => simp [D.sh] at h1
  · cases hc
/-! ### x.bit_length(), list(range(..)), three names -/
def sBits (s : SP) : SE := fun env => match s env with
  | some (.int i, e) => some ((.int (Builtin.Int.intBits i : Nat), 0), e)
  | _ => none
theorem e_bits {s : SP} {apos : Pos} (ho : PE X a (tP X.K ma s)) (hbase : attributeBase a "bit_length" X.env (eval a X.env) = eval a X.env := by rfl) (hline : (apos.endLine == pos.line) = true := by rfl) : PE X (.Call (.Attribute a "bit_length" apos) [] [] pos) (tE X.K ma (sBits s)) :=
  (pe_bits ho hbase hline).wk fun σ H Q ⟨env, r, env', As, L, e, hd, q⟩ => by
  unfold sBits at e
  split at e
  · rename_i i e1 h1
    cases e
    exact ⟨env, .int i, env', As, L, h1, hd, fun v H1 As1 P n r => ⟨i, intRep r, q _ H1 As1 [] P n (.zero (.int _))⟩⟩
  · cases e
theorem rgV_rep {K : PySem.W.Frag} {H : Hp} {F : Addr → Prop} (a b : Int) : RepDs K H F (rgV a b) (rgD a (b - a).toNat) := by
  unfold rgV rgD
  generalize (b - a).toNat = n
  have go : ∀ l : List Nat, RepDs K H F (l.map fun i => V.int (a + (i : Nat))) (l.map fun (k : Nat) => D.int (a + k)) := fun l => by
    induction l with
    | nil => exact .nil
    | cons x l ih => exact .cons (.int _) ih
  exact go _
/-- list(range(n)), list(range(i, j)) -/
def sLstRg (s : SI) : SE := fun env => (s env).map fun x => ((.lst x.1, 1), x.2)
theorem e_listRg1 {p p2 pos2 : Pos} {s : SP} (hc : X.calm = true) (hg : Gl X "list") (hm : X.mg "list" = none) (hg2 : Gl X "range") (hm2 : X.mg "range" = none) (ha : PE X a (tP X.K ma s)) (na : starEach [a] X.env = (false, eval a X.env) :: starEach [] X.env := by rfl)
    (nb : starEach [.Call (.Name "range" p2) [a] [] pos2] X.env = (false, eval (.Call (.Name "range" p2) [a] [] pos2) X.env) :: starEach [] X.env := by rfl) : PE X (.Call (.Name "list" p) [.Call (.Name "range" p2) [a] [] pos2] [] pos) (tE X.K ma (sLstRg (sRg1 s))) :=
  (pe_listRg hc hg hm (prg_1 hg2 hm2 ha na) nb).wk fun σ H Q ⟨env, r, env', As, L, e, hd, q⟩ => by
  unfold sLstRg sRg1 at e
  cases h1 : s env with
  | none => rw [h1] at e; cases e
  | some x =>
    rw [h1] at e
    obtain ⟨d, e1⟩ := x
    cases d <;> try (cases e)
    rename_i n
    simp only at e
    split at e
    · rename_i hb
      cases e
      refine ⟨env, .int n, e1, As, L, h1, hd, fun v H1 As1 P nm rv => ⟨n, intRep rv, ⟨by decide, by decide, hb.1, by omega, by omega⟩, fun q' nq => ?_⟩⟩
      have rr := rgV_rep (K := X.K) (H := H1) (F := Fb As1 L) 0 n
      rw [Int.sub_zero] at rr
      obtain ⟨P2, r2⟩ := P.newList rr nq
      exact q _ _ As1 [q'] P2 (fun z a o e => Nm.new (mu := false) nq rfl a o (nm z a o e)) r2
    · cases e
theorem e_listRg2 {p p2 pos2 : Pos} {s u : SP} (hc : X.calm = true) (hg : Gl X "list") (hm : X.mg "list" = none) (hg2 : Gl X "range") (hm2 : X.mg "range" = none) (ha : PE X a (tP X.K ma s)) (hb : PE X b (tP X.K mb u)) (na : starEach [a, b] X.env = (false, eval a X.env) :: starEach [b] X.env := by rfl)
    (nb : starEach [b] X.env = (false, eval b X.env) :: starEach [] X.env := by rfl) (hp : (backTo pos (starEach [b] X.env)).any (·.1) = false := by rfl) (hp2 : (backTo pos2 (starEach [b] X.env)).any (·.1) = false := by rfl)
    (nc : starEach [.Call (.Name "range" p2) [a, b] [] pos2] X.env = (false, eval (.Call (.Name "range" p2) [a, b] [] pos2) X.env) :: starEach [] X.env := by rfl) : PE X (.Call (.Name "list" p) [.Call (.Name "range" p2) [a, b] [] pos2] [] pos) (tE X.K (ma || mb) (sLstRg (sRg2 s u))) :=
  (pe_listRg hc hg hm (prg_2 hg2 hm2 ha hb na nb hp2) nc).wk fun σ H Q ⟨env, r, env', As, L, e, hd, q⟩ => by
  unfold sLstRg sRg2 at e
  cases h1 : s env with
  | none => rw [h1] at e; cases e
  | some x =>
    rw [h1] at e
    obtain ⟨d, e1⟩ := x
    cases d <;> try (cases e)
    rename_i i
    simp only at e
    cases h2 : u e1 with
    | none => rw [h2] at e; cases e
    | some y =>
      rw [h2] at e
      obtain ⟨d2, e2⟩ := y
      cases d2 <;> try (cases e)
      rename_i j
      simp only at e
      split at e
      · rename_i hb
        cases e
        refine ⟨env, .int i, e1, As, L, h1, hd, fun v H1 As1 P nm rv => ⟨e1, .int j, e2, As1, L, h2, P.hd0, fun v2 H2 As2 P2 n2 rv2 => ⟨i, j, intRep rv, intRep rv2, ⟨hb.1.1, hb.1.2.1, hb.1.2.2.1, hb.1.2.2.2, by omega⟩, fun q' nq => ?_⟩⟩⟩
        obtain ⟨P3, r3⟩ := (P.seq P2).newList (rgV_rep (K := X.K) (H := H2) (F := Fb As2 L) i j) nq
        exact q _ _ As2 [q'] P3 (fun z a o e => Nm.new (mu := false) nq rfl a o (nm.trans n2 z a o e)) r3
      · cases e
def sPar3 (i j k : Nat) (s : SA) : SS := fun env => match s env with
  | some ([r1, r2, r3], e) => match gSet i r1 e with
    | some e1 => match gSet j r2 e1 with
      | some e2 => (gSet k r3 e2).map .nx
      | none => none
    | none => none
  | _ => none
theorem s_par3 {st : Stmt} {i j k : Nat} {s : SA} (h : PS X st (tPar3 i j k (tA X.K ma s))) : PS X st (tS X.K (sPar3 i j k s)) := h.wk fun D σ H ⟨env, r, As, L, e, hd, q⟩ => by
  unfold sPar3 at e
  split at e
  · rename_i r1 r2 r3 e0 h1
    split at e
    · rename_i e1 h2
      split at e
      · rename_i e2 h3
        cases h4 : gSet k r3 e2 with
        | none => rw [h4] at e; cases e
        | some e3 =>
          rw [h4] at e
          cases e
          refine ⟨env, [r1, r2, r3], e0, As, L, h1, hd, fun vs H1 As1 B P n ra => ?_⟩
          cases ra with
          | cons ro1 ra =>
            rename_i v1 vs B1 C
            cases ra with
            | cons ro2 ra =>
              rename_i v2 vs B2 C2
              cases ra with
              | cons ro3 ra =>
                rename_i v3 vs B3 C3
                cases ra
                obtain ⟨hi, hf, rfl⟩ := gSet_some h2
                obtain ⟨hj, hg, rfl⟩ := gSet_some h3
                obtain ⟨hk, hh, rfl⟩ := gSet_some h4
                refine ⟨v1, v2, v3, rfl, ?_⟩
                have e0 : B1 ++ (B2 ++ (B3 ++ [])) = B1 ++ (B2 ++ B3) := by rw [List.append_nil]
                rw [e0] at P ro1 ro2 ro3
                have P2 := P.store2 (m := 0) ro1 hi (by decide) hf
                have sub : ∀ a, Fb (putA As1 i B1) (plusL L (B2 ++ B3)) a → Fb As1 (plusL L (B1 ++ (B2 ++ B3))) a := fun a q => by
                  rcases q with ⟨k, q⟩ | q | q
                  · by_cases z : k = i
                    · rw [z, putA_same] at q; exact .inr (.inr (List.mem_append_left _ q))
                    · rw [putA_ne z] at q; exact .inl ⟨k, q⟩
                  · exact .inr (.inl q)
                  · exact .inr (.inr (List.mem_append_right _ q))
                have P3 := P2.store2 (m := 0) (ro2.anti sub) hj (by decide) hg
                have sub2 : ∀ a, Fb (putA (putA As1 i B1) j B2) (plusL L B3) a → Fb (putA As1 i B1) (plusL L (B2 ++ B3)) a := fun a q => by
                  rcases q with ⟨k, q⟩ | q | q
                  · by_cases z : k = j
                    · rw [z, putA_same] at q; exact .inr (.inr (List.mem_append_left _ q))
                    · rw [putA_ne z] at q; exact .inl ⟨k, q⟩
                  · exact .inr (.inl q)
                  · exact .inr (.inr (List.mem_append_right _ q))
                exact q _ H1 _ (P3.store (m := 0) (ro3.anti fun a w => sub a (sub2 a w)) hk (by decide) hh)
      · cases e
    · cases e
  · cases e
end
end Ev
set_option Elab.async false
set_option linter.all false
set_option autoImplicit false
set_option maxRecDepth 100000
set_option maxHeartbeats 4000000
/-! Ev28: x[::-1] of a list, of a tuple. -/
namespace Ev
open PySem PySem.Spec L2

section
variable {prog : Program} {w : World} {A : Around} {E : Value → Shared → Prop} {s : Shared}
theorem rev_places (n : Nat) : Builtin.Slice.sliceAdjust none none (-1) (n : Int) = ((n : Int) - 1, -1) := by
  unfold Builtin.Slice.sliceAdjust
  simp
theorem rev_count (n : Nat) : Builtin.Slice.slicePlaces ((n : Int) - 1) (-1) (-1) = n := by
  unfold Builtin.Slice.slicePlaces
  simp only [show ¬ ((-1 : Int) > 0) by decide, if_false]
  split
  · rw [show (- (-1 : Int)) = 1 by decide, Int.ediv_one]; omega
  · omega
theorem fm_congr {α β : Type} {f g : α → Option β} : ∀ {l : List α}, (∀ m ∈ l, f m = g m) → l.filterMap f = l.filterMap g
  | [], _ => rfl
  | x :: l, h => by
    have h1 := h x (List.mem_cons_self ..)
    have h2 := fm_congr (l := l) fun m z => h m (List.mem_cons_of_mem _ z)
    simp only [List.filterMap_cons, h1, h2]
theorem rev_picks (xs : Array Value) : ((List.range xs.size).filterMap fun (m : Nat) => xs[((xs.size : Int) - 1 + (m : Int) * (-1)).toNat]?).toArray = xs.toList.reverse.toArray := by
  congr 1
  have key : ∀ m, m < xs.size → xs[((xs.size : Int) - 1 + (m : Int) * (-1)).toNat]? = xs.toList.reverse.toArray[m]? := fun m hm => by
    have e : ((xs.size : Int) - 1 + (m : Int) * (-1)).toNat = xs.size - 1 - m := by omega
    rw [e, List.getElem?_toArray, ← Array.getElem?_toList, List.getElem?_reverse (by rw [Array.length_toList]; exact hm), Array.length_toList]
  have all := PySem.W.krv_all xs.toList.reverse.toArray
  rw [List.size_toArray, List.length_reverse, Array.length_toList] at all
  exact (fm_congr fun m h => key m (List.mem_range.mp h)).trans all
theorem getItem_tuple_rev {t sl : Addr} {items : Array Value} {vl vu vs : Value} {Q : Value → Shared → Prop} (ht : PyProof.Rows.IsTup s.heap t items) (hs : s.heap.IsSliceOf sl vl vu vs) (pl : IsPart vl none) (pu : IsPart vu none) (ps : IsPart vs (some (-1))) (hsz : items.size ≤ sizeLine)
    (h : Q (.ref s.heap.objs.size) { s with heap := s.heap.push { cls := .type "tuple", data := .seq items.toList.reverse.toArray } }) : wpAny (model prog w) A (getItem (.ref t) (.ref sl)) Q E s := by
  obtain ⟨os, hos, hcs, hds⟩ := id hs
  have ty : s.TypeIs (.ref sl) "slice" := ⟨os, hos, hcs⟩
  have fit : sizeOk (.seq items.toList.reverse.toArray) := by
    show items.toList.reverse.toArray.size ≤ sizeLine
    rw [List.size_toArray, List.length_reverse, Array.length_toList]
    exact hsz
  unfold getItem
  try with_reducible refine wpAny_holding ?_
  first | refine wpAny_bind (wpAny_pure ?_) | skip
  refine wpAny_bind (wpAny_sequenceKey ht.typeIs (by decide) ?_)
  refine wpAny_bind (wpAny_callSpecial?_slot (name := Str.ofString "__getitem__") ht.typeIs PyProof.Rows.slot_tuple_getitem (wpAny_call_entry PyProof.Rows.slot_tuple_getitem ht.typeIs PyProof.Rows.entry_tuple_getitem ?_ (PyProof.Rows.args_tuple_getitem _ _)))
  show wpAny _ _ (Builtin.Tuple.tupleItemsOf (.ref t) >>= _) _ _ s
  refine wpAny_bind (PyProof.Rows.tupleItemsOf_ ht (wpAny_bind (wpAny_typeOf ty ?_)))
  rw [if_pos (by decide)]
  have ap : ∀ {R : Int × Int × Nat → Shared → Prop} {E' : Value → Shared → Prop}, R ((items.size : Int) - 1, -1, items.size) s → wpAny (model prog w) A.in1 (Builtin.Slice.sliceApplied (.ref sl) (pure (items.size : Int))) R E' s := fun {R E'} hR => by
    unfold Builtin.Slice.sliceApplied Builtin.Slice.sliceFields
    refine wpAny_bind (wpAny_bind (wpAny_field hos hds (x := vl) rfl (wpAny_bind (wpAny_field hos hds (x := vu) rfl (wpAny_bind (wpAny_field hos hds (x := vs) rfl (wpAny_pure ?_)))))))
    refine wpAny_bind (HT.slicePart_ ps ?_)
    show wpAny _ _ (if ((-1 : Int) == 0) = true then _ else _) _ _ s
    rw [if_neg (by decide)]
    refine wpAny_bind (HT.slicePart_ pl (wpAny_bind (HT.slicePart_ pu (wpAny_bind (wpAny_pure ?_)))))
    show wpAny _ _ (match Builtin.Slice.sliceAdjust none none (-1) (items.size : Int) with | (lo, hi) => pure (lo, (-1 : Int), Builtin.Slice.slicePlaces lo hi (-1))) _ _ s
    rw [rev_places]
    show wpAny _ _ (pure ((items.size : Int) - 1, (-1 : Int), Builtin.Slice.slicePlaces ((items.size : Int) - 1) (-1) (-1))) _ _ s
    rw [rev_count]
    exact wpAny_pure hR
  refine wpAny_bind (ap ?_)
  show wpAny _ _ (if (((items.size : Int) - 1) == 0 && (-1 : Int) == 1 && items.size == items.size) = true then _ else _) _ _ s
  rw [if_neg (by rw [show ((-1 : Int) == 1) = false by decide, Bool.and_false, Bool.false_and]; decide), rev_picks]
  first
    | exact wpAny_bind (m := Builtin.Tuple.tupleExact _) (wpAny_newObj_type (wpAny_pure ⟨_, rfl, wpAny_pure h⟩) fit)
    | exact wpAny_bind (m := Builtin.Tuple.tupleExact _) (wpAny_newObj_type (wpAny_bind (wpAny_pure (wpAny_pure ⟨_, rfl, wpAny_pure h⟩))) fit)
    | exact wpAny_bind (wpAny_bind (m := Builtin.Tuple.tupleExact _) (wpAny_newObj_type (wpAny_pure (wpAny_pure ⟨_, rfl, wpAny_pure h⟩)) fit))
    | exact wpAny_bind (wpAny_bind (m := Builtin.Tuple.tupleExact _) (wpAny_newObj_type (wpAny_pure ⟨_, rfl, wpAny_pure h⟩) fit))
end
section
variable {X : Cx} {a : Expr} {es : List Expr} {ma mb : Bool} {pos : Pos}
theorem pe_revA {te : TE} {k : Nat} {p1 p2 p3 : Pos} (he : PE X a te) : PE X (.Subscript a (.Slice none none (some (.UnaryOp .USub (.Constant (.int 1) k p1) p2)) p3) pos)
    (fun σ H Q => te σ H fun x H1 => ∃ t p vs, x = .ref p ∧ Sq t H1 p vs ∧ ∀ q, H1 q = none → Q (.ref q) (upd H1 q (if t = true then .tup vs.reverse else .lst vs.reverse))) := by
  refine ⟨fun pins s σ H Q I h => ?_⟩
  refine PyProof.Rows.Subscript_ (thn (he.run pins s σ H _ I h) fun v s1 ⟨x, H1, I1, r1, q1⟩ => ?_)
  obtain ⟨t, p, vs, ex, sq, q⟩ := q1
  subst ex
  cases r1
  have hst : PO X (some (.UnaryOp .USub (.Constant (.int 1) k p1) p2)) (tPart (tUn (rU fun i => .int (-i)) (tC (.int 1)))) := po_some (pe_un un_neg pe_int)
  refine wpAny_Slice (thn (po_none.run pins s1 σ H1 (fun o H2 => o = none ∧ H2 = H1) I1 ⟨rfl, rfl⟩) fun vl s2 ⟨l, H2, I2, pl, el, e2⟩ => ?_)
  subst el e2
  refine thn (po_none.run pins s2 σ H2 (fun o H3 => o = none ∧ H3 = H2) I2 ⟨rfl, rfl⟩) fun vu s3 ⟨u, H3, I3, pu, eu, e3⟩ => ?_
  subst eu e3
  refine thn (hst.run pins s3 σ H3 (fun o H4 => o = some (-1) ∧ H4 = H3) I3 ⟨1, rfl, -1, rfl, rfl, rfl⟩) fun vs' s4 ⟨o, H4, I4, ps, eo, e4⟩ => ?_
  subst eo e4
  have I5 : Inv X pins σ H4 { s4 with heap := s4.heap.push { cls := .type "slice", data := .fields #[vl, vu, vs'] } } := I4.kept (t' := s4.toks) fun b ob q => Heap.get?_push_of_some _ q
  show wpAny (model X.prog X.w) X.A (PyProof.Rows.subscriptTail a (.Slice none none (some (.UnaryOp .USub (.Constant (.int 1) k p1) p2)) p3) (.ref p) (.ref s4.heap.objs.size)) (EP X pins σ Q) X.xe { s4 with heap := s4.heap.push { cls := .type "slice", data := .fields #[vl, vu, vs'] } }
  cases t with
  | false =>
    obtain ⟨its, r, ht, hz⟩ := I5.list (SqL.of sq)
    refine PyProof.Rows.tail_any (ops := [.ref p, .ref s4.heap.objs.size]) ht.isList.typeIs (PySem.slot_list_getitem.lookup) ?_ (by with_unfolding_all rfl)
    refine wpAny_getItem_list_slice ht.isList (Heap.IsSliceOf.new _ vl vu vs') pl pu ps (by decide) ?_ (by rw [List.size_toArray, ← r.length]; exact hz)
    rw [PySem.W.krv_pick]
    refine ⟨.ref _, _, I5.laid (t' := s4.toks) (o := .lst vs.reverse) (fun b ob q => Heap.get?_push_of_some _ q) (Nat.le_refl _) ?_, rfl, q _ (I5.hok.fresh (Nat.le_refl _))⟩
    exact ⟨by rw [List.length_reverse]; exact hz, _, 0, r.reverse, Heap.get?_push_size _ rfl⟩
  | true =>
    obtain ⟨its, r, ht, hz⟩ := I5.tuple (SqT.of sq)
    refine PyProof.Rows.tail_any (ops := [.ref p, .ref s4.heap.objs.size]) ht.typeIs (PyProof.Rows.slot_tuple_getitem.lookup) ?_ (by with_unfolding_all rfl)
    refine getItem_tuple_rev ht (Heap.IsSliceOf.new _ vl vu vs') pl pu ps (by rw [List.size_toArray, ← r.length]; exact hz) ?_
    refine ⟨.ref _, _, I5.laid (t' := s4.toks) (o := .tup vs.reverse) (fun b ob q => Heap.get?_push_of_some _ q) (Nat.le_refl _) ?_, rfl, q _ (I5.hok.fresh (Nat.le_refl _))⟩
    exact ⟨by rw [List.length_reverse]; exact hz, its.reverse, r.reverse, ⟨_, Heap.get?_push_size _ rfl, rfl, 0, rfl⟩⟩
def sRev (s : SL) : SE := fun env => match s env with
  | some ((t, ds), e) => some (mkSq t ds.reverse, e)
  | none => none
theorem rep_reverse {K : PySem.W.Frag} {H : Hp} {F : Addr → Prop} : ∀ {vs : List V} {ds : List D}, RepDs K H F vs ds → RepDs K H F vs.reverse ds.reverse
  | _, _, .nil => .nil
  | _, _, .cons r rs => by
    rw [List.reverse_cons, List.reverse_cons]
    exact RepDs.app' (rep_reverse rs) (.one r)
theorem e_rev {s : SL} {st : Bool} {k : Nat} {p1 p2 p3 : Pos} (ha : PE X a (tL X.K ma st s)) : PE X (.Subscript a (.Slice none none (some (.UnaryOp .USub (.Constant (.int 1) k p1) p2)) p3) pos) (tE X.K ma (sRev s)) := (pe_revA ha).wk fun σ H Q ⟨env, r, env', As, L, e, hd, q⟩ => by
  unfold sRev at e
  split at e
  · rename_i t ds e1 h1
    cases e
    exact ⟨env, t, ds, env', As, L, h1, hd, fun p vs H1 As1 P n sq rs _ => ⟨t, p, vs, rfl, sq, sq_end q P n (rep_reverse rs)⟩⟩
  · cases e
end
end Ev
set_option Elab.async false
set_option linter.all false
set_option autoImplicit false
set_option maxRecDepth 100000
set_option maxHeartbeats 4000000
/-! Ev29: short words for the printed walks. -/
namespace Ev
open PySem PySem.Spec L2

section
variable {X : Cx} {a b tg e : Expr} {es : List Expr} {ma mb mi mc me : Bool} {pos : Pos}
/-- name = e -/
theorem s_set {i : Nat} {x : Str} {s : SE} {pos' : Pos} (hN : X.N.Nodup) (he : PE X e (tE X.K ma s)) (hi : X.N[i]? = some x := by rfl) (hx : Loc X.env.scope x := by first | exact Or.inl rfl | exact Or.inr rfl) (hs : swapsWith e (some (.Name x pos')) pos.line X.env = pure false := by rfl)
    (hf : X.fn x = true ∨ X.env.scope.names.lookup x = some .local := by first | exact .inl rfl | exact .inr rfl) : PS X (.Assign [.Name x pos'] e pos) (tS X.K (sSet i s)) := (ps_set hN hi hx he hs hf).wk set_wk
theorem g_nm {i : Nat} {x : Str} (hN : X.N.Nodup) (hi : X.N[i]? = some x := by rfl) (hx : Loc X.env.scope x := by first | exact Or.inl rfl | exact Or.inr rfl) (hf : X.fn x = true ∨ X.env.scope.names.lookup x = some .local := by first | exact .inl rfl | exact .inr rfl) : PG X (.Name x pos) (tG X.K false [i] (gSet i)) := g_name (pg_name hN hi hx hf)
/-- a bare call whose value is dropped -/
def sDrop (s : SE) : SS := fun env => (s env).map fun x => .nx x.2
theorem s_drop {s : SE} (he : PE X e (tE X.K ma s)) (hs : swapsWith e none pos.line X.env = pure false := by rfl) : PS X (.Expr e pos) (tS X.K (sDrop s)) := (ps_expr he hs).wk fun D σ H ⟨env, r, As, L, e1, hd, q⟩ => by
  unfold sDrop at e1
  cases h1 : s env with
  | none => rw [h1] at e1; cases e1
  | some x =>
    rw [h1] at e1
    cases e1
    exact ⟨env, x.1, x.2, As, L, h1, hd, fun v H' As' B P _ _ => q σ H' As' P.drop0⟩
end
end Ev
set_option Elab.async false
set_option linter.all false
set_option autoImplicit false
set_option maxRecDepth 100000
set_option maxHeartbeats 4000000
/-! Ev30: room, negative constants, arguments by name. -/
namespace Ev
open PySem PySem.Spec L2

theorem un200 {A : Around} {k : Nat} (h : Room k A) : A.units + 200 < cLine := by have := h.un; omega
section
variable {X : Cx} {a b tg e : Expr} {es : List Expr} {ma mb : Bool} {pos : Pos}
theorem e_negc {i : Int} {j} {p : Pos} : PE X (.UnaryOp .USub (.Constant (.int i) j p) pos) (tE X.K false (sC (.int (-i)))) := (pe_un un_neg pe_int).wk fun σ H Q ⟨env, r, env', As, L, e, hd, q⟩ => by
  cases e
  exact ⟨i, rfl, q _ H As [] (Pst.refl hd) Nm.refl (.zero (.int _))⟩
end
/-- how arguments given by name are bound -/
theorem kb_of {K : PySem.W.Frag} {x qual : Str} {st : Stmt} {f : Addr} {fd : FuncData} {ps ks : List Str} {g : List Value → List Value → List Value} {gV : List V → List V → List V} (F : Fun K x qual st f fd)
    (h : ∀ (kV doc pm : Value) (an : Option Addr) (cdv ct : Value) (us ws : List Value), (g us ws).length = ps.length → bindArgs (PySem.W.fnOf x qual (defArgs st) (defBody st) (defScope st) .none kV doc pm an cdv ct) ⟨us, ks.zip ws⟩ = pure (ps.zip (g us ws)))
    (rel : ∀ {vs : List V} {us : List Value} {zs : List V} {ws : List Value}, Vals vs us → Vals zs ws → Vals (gV vs zs) (g us ws)) : KBinds K fd ps ks g gV := by
  obtain ⟨oc, od, kV, doc, pm, an, cdv, ct, osl, rfl, lk, hcd⟩ := F.ex
  exact ⟨fun s us ws _ hl => .of_eq (h kV doc pm an cdv ct us ws hl), rel⟩
/-- two by name, in the parameters' order; swapped -/
def pm {α : Type} (sw : Bool) : List α → List α → List α
  | [], [a, b] => if sw = true then [b, a] else [a, b]
  | _, _ => []
abbrev pm_kw01 : List Ag → List Ag → List Ag := pm false
abbrev pm_kw10 : List Ag → List Ag → List Ag := pm true
theorem pm_vals {sw : Bool} {vs : List V} {us : List Value} {zs : List V} {ws : List Value} (r : Vals vs us) (s : Vals zs ws) : Vals (pm sw vs zs) (pm sw us ws) := by
  cases r with
  | cons _ _ => exact .nil
  | nil => cases s with
    | nil => exact .nil
    | cons a s => cases s with
      | nil => exact .nil
      | cons b s => cases s with
        | nil => cases sw with
          | true => exact .cons b (.cons a .nil)
          | false => exact .cons a (.cons b .nil)
        | cons _ _ => exact .nil
theorem pm_G {sw : Bool} {K : PySem.W.Frag} {H : Hp} {σ : St} {F : Addr → Prop} {vs zs : List V} {as bs : List Ag} (r : RepG K H σ F vs as) (s : RepG K H σ F zs bs) : RepG K H σ F (pm sw vs zs) (pm sw as bs) := by
  have tw : ∀ {v w : V} {g h : Ag}, RepG K H σ F [v] [g] → RepG K H σ F [w] [h] → RepG K H σ F [v, w] [g, h] := fun {v w g h} a b => by
    cases a with
    | va r _ => exact .va r b
    | bo r _ => exact .bo r b
  cases r with
  | va _ _ => exact .nil
  | bo _ _ => exact .nil
  | nil => cases s with
    | nil => exact .nil
    | va a s => cases s with
      | nil => exact .nil
      | va b s => cases s with
        | nil => cases sw with
          | true => exact tw (.va b .nil) (.va a .nil)
          | false => exact tw (.va a .nil) (.va b .nil)
        | va _ _ => exact .nil
        | bo _ _ => exact .nil
      | bo b s => cases s with
        | nil => cases sw with
          | true => exact tw (.bo b .nil) (.va a .nil)
          | false => exact tw (.va a .nil) (.bo b .nil)
        | va _ _ => exact .nil
        | bo _ _ => exact .nil
    | bo a s => cases s with
      | nil => exact .nil
      | va b s => cases s with
        | nil => cases sw with
          | true => exact tw (.va b .nil) (.bo a .nil)
          | false => exact tw (.bo a .nil) (.va b .nil)
        | va _ _ => exact .nil
        | bo _ _ => exact .nil
      | bo b s => cases s with
        | nil => cases sw with
          | true => exact tw (.bo b .nil) (.bo a .nil)
          | false => exact tw (.bo a .nil) (.bo b .nil)
        | va _ _ => exact .nil
        | bo _ _ => exact .nil
theorem pm_nobo {sw : Bool} {as bs : List Ag} (h : agI as = []) (k : agI bs = []) : agI (pm sw as bs) = [] := by
  unfold pm
  split
  · rename_i a b
    cases a with
    | bo _ => cases k
    | va _ => cases b with
      | bo _ => cases k
      | va _ => cases sw <;> rfl
  · rfl
theorem ord_kw01 : Ord (pm false) pm_kw01 := ⟨pm_G, pm_nobo⟩
theorem ord_kw10 : Ord (pm true) pm_kw10 := ⟨pm_G, pm_nobo⟩
section
variable {K : PySem.W.Frag} {x qual : Str} {st : Stmt} {f : Addr} {fd : FuncData} {ps ks : List Str}
theorem kb_kw01 (F : Fun K x qual st f fd) (h : ∀ (kV doc pm' : Value) (an : Option Addr) (cdv ct : Value) (us ws : List Value), (pm false us ws).length = ps.length → bindArgs (PySem.W.fnOf x qual (defArgs st) (defBody st) (defScope st) .none kV doc pm' an cdv ct) ⟨us, ks.zip ws⟩ = pure (ps.zip (pm false us ws))) : KBinds K fd ps ks (pm false) (pm false) := kb_of F h pm_vals
theorem kb_kw10 (F : Fun K x qual st f fd) (h : ∀ (kV doc pm' : Value) (an : Option Addr) (cdv ct : Value) (us ws : List Value), (pm true us ws).length = ps.length → bindArgs (PySem.W.fnOf x qual (defArgs st) (defBody st) (defScope st) .none kV doc pm' an cdv ct) ⟨us, ks.zip ws⟩ = pure (ps.zip (pm true us ws))) : KBinds K fd ps ks (pm true) (pm true) := kb_of F h pm_vals
end
end Ev
set_option Elab.async false
set_option linter.all false
set_option autoImplicit false
set_option maxRecDepth 100000
set_option maxHeartbeats 4000000
/-! Ev31: several names at once, by a tuple that nobody keeps. -/
namespace Ev
open PySem PySem.Spec L2

def setAll : List Nat → List Rv → En → Option En
  | [], [], e => some e
  | i :: is, r :: rs, e => match gSet i r e with
    | some e1 => setAll is rs e1
    | none => none
  | _, _, _ => none
def sParN (is : List Nat) (s : SA) : SS := fun env => match s env with
  | some (rs, e) => if rs.length ≤ 1000 then (setAll is rs e).map .nx else none
  | none => none
def gN : List Nat → TGs
  | [] => gNil
  | i :: is => gCons (gName i) (gN is)
section
variable {X : Cx} {a b tg e : Expr} {es ts : List Expr} {ma mb : Bool} {pos : Pos}
theorem gn_nil : PGs X [] (gN []) := pgs_nil
theorem gn_cons {i : Nat} {x : Str} {is : List Nat} {px : Pos} (hN : X.N.Nodup) (hr : PGs X ts (gN is)) (hi : X.N[i]? = some x := by rfl) (hx : Loc X.env.scope x := by first | exact Or.inl rfl | exact Or.inr rfl) (hf : X.fn x = true ∨ X.env.scope.names.lookup x = some .local := by first | exact .inl rfl | exact .inr rfl)
    (hs : (assignEach (.Name x px :: ts) X.env).map (·.2) = assign (.Name x px) X.env :: (assignEach ts X.env).map (·.2) := by rfl) : PGs X (.Name x px :: ts) (gN (i :: is)) := pgs_cons (pg_name hN hi hx hf) hr hs
theorem names_core {K : PySem.W.Frag} {σ0 : St} {env0 : En} {H0 : Hp} {As0 : Own} {L : Addr → Prop} {env' : En} {H : Hp} {Q : St → Hp → Prop} : ∀ {is : List Nat} {vs : List V} {rs : List Rv} {B : List Addr} {σ : St} {env : En} {As : Own}, Pst K σ0 env0 H0 As0 L σ env H As B → RepA K H (Fb As (plusL L B)) vs rs B → setAll is rs env = some env' → (∀ σ' As', Pst K σ0 env0 H0 As0 L σ' env' H As' [] → Q σ' H) → gN is vs σ H Q := by
  intro is
  induction is with
  | nil =>
    intro vs rs B σ env As P ra h q
    cases ra with
    | nil => cases h; exact ⟨rfl, q _ _ P⟩
    | cons _ _ => cases h
  | cons i is ih =>
    intro vs rs B σ env As P ra h q
    cases ra with
    | nil => cases h
    | cons ro rs =>
      rename_i v r vs rs' B1 C
      unfold setAll at h
      split at h
      · rename_i e1 h1
        obtain ⟨hi, hf, rfl⟩ := gSet_some h1
        have P2 := P.store2 (m := 0) ro hi (by decide) hf
        have sub : ∀ a, Fb (putA As i B1) (plusL L C) a → Fb As (plusL L (B1 ++ C)) a := fun a w => by
          rcases w with ⟨k, w⟩ | w | w
          · by_cases z : k = i
            · rw [z, putA_same] at w; exact .inr (.inr (List.mem_append_left _ w))
            · rw [putA_ne z] at w; exact .inl ⟨k, w⟩
          · exact .inr (.inl w)
          · exact .inr (.inr (List.mem_append_right _ w))
        have anti : ∀ {vs : List V} {rs : List Rv} {D : List Addr}, RepA K H (Fb As (plusL L (B1 ++ C))) vs rs D → RepA K H (Fb (putA As i B1) (plusL L C)) vs rs D := fun r => by
          induction r with
          | nil => exact .nil
          | cons a _ ih => exact .cons (a.anti sub) ih
        exact ⟨v, _, rfl, ih P2 (anti rs) h q⟩
      · cases h
theorem RepA.keep {K : PySem.W.Frag} {σ σ1 : St} {env env1 : En} {H H1 : Hp} {As As1 : Own} {L : Addr → Prop} (P : Pst K σ env H As L σ1 env1 H1 As1 []) {vs : List V} {rs : List Rv} {C : List Addr} (r : RepA K H (Fb As L) vs rs C) (hC : ∀ a ∈ C, L a) : RepA K H1 (Fb As1 L) vs rs C := by
  induction r with
  | nil => exact .nil
  | cons a _ ih =>
    have := P.keepO a fun b m => hC b (List.mem_append_left _ m)
    rw [plusL_nil] at this
    exact .cons this (ih fun b m => hC b (List.mem_append_right _ m))
theorem s_parN {st : Stmt} {is : List Nat} {n : Nat} {s : SA} (hn : is.length = n) (h : PS X st (tAsg (tTup (tA X.K ma s)) (gTup X.K n (gN is)))) : PS X st (tS X.K (sParN is s)) := h.wk fun D σ H ⟨env, r, As, L, e, hd, q⟩ => by
  unfold sParN at e
  split at e
  · rename_i rs e1 h1
    split at e
    · rename_i hl
      cases h2 : setAll is rs e1 with
      | none => rw [h2] at e; cases e
      | some e2 =>
        rw [h2] at e
        cases e
        have lenS : ∀ {is : List Nat} {rs : List Rv} {e e' : En}, setAll is rs e = some e' → rs.length = is.length := fun {is} => by
          induction is with
          | nil => intro rs e e' h; cases rs with
            | nil => rfl
            | cons _ _ => cases h
          | cons i is ih => intro rs e e' h; cases rs with
            | nil => cases h
            | cons r rs =>
              unfold setAll at h
              split at h
              · exact congrArg (· + 1) (ih h)
              · cases h
        refine ⟨env, rs, e1, As, L, h1, hd, fun vs H1 As1 B P nm ra => ⟨by rw [ra.length]; exact le1000 hl, fun p np => ?_⟩⟩
        have PA := Pst.alloc (o := .tup vs) P.hd np
        have P2 := P.trans PA
        rw [List.append_nil] at P2
        exact ⟨p, vs, rfl, SqT.of upd_same, by rw [ra.length, lenS h2, hn], names_core P2 (RepA.keep PA ra fun a m => .inr m) h2 fun σ' As' R => q σ' _ As' R⟩
    · cases e
  · cases e
end
end Ev
set_option Elab.async false
set_option linter.all false
set_option autoImplicit false
set_option maxRecDepth 100000
set_option maxHeartbeats 4000000
/-! Ev32: zip of two tuples, each pair kept by a name. -/
namespace Ev
open PySem PySem.Spec L2
/-- the zip's own record: the last pair's place (or none), the mark that it was held -/
abbrev ZRec (h : Heap) (z TI TO : Addr) (f0 : Value) (f : Bool) : Prop := h.get? z = some { cls := .type "zip", dict := none, data := .fields #[f0, .bool f, .bool false, .ref TI, .ref TO], slots := #[] }
abbrev ZOld (v : Value) : Prop := v = .none ∨ ∃ T : Addr, v = rawInt T
section
variable {prog : Program} {w : World} {A : Around} {E : Value → Shared → Prop} {s : Shared} {z TI TO i1 i2 l1 l2 : Addr} {k1 k2 : Nat} {xs ys : Array Value} {x y a b f0 : Value} {f : Bool}
theorem zr_free {Q : Bool → Shared → Prop} (hz : ZRec s.heap z TI TO f0 f) (h0 : ZOld f0) (h1 : Q true s) (h2 : ∀ h', ZRec h' z TI TO f0 true → Heap.SameBut z s.heap h' → Q false { s with heap := h' }) : wpAny (model prog w) A (Builtin.SmallTypes.ownedTupleIsFree (.ref z)) Q E s := by
  unfold Builtin.SmallTypes.ownedTupleIsFree
  refine wpAny_bind (wpAny_field hz rfl (x := f0) rfl ?_)
  rcases h0 with rfl | ⟨T, rfl⟩
  · exact wpAny_pure h1
  · show wpAny _ _ (loadIfAlive ((T : Int).toNat) >>= _) _ _ _
    rw [Int.toNat_natCast]
    have look : ∀ {R : Option Obj → Shared → Prop} {E' : Value → Shared → Prop}, R (s.heap.get? T) s → wpAny (model prog w) A (loadIfAlive T) R E' s := fun h => fun _ _ _ => h
    refine wpAny_bind (look ?_)
    cases hT : s.heap.get? T with
    | none => exact wpAny_pure h1
    | some oT =>
      show wpAny _ _ (field (.ref z) 1 >>= _) _ _ _
      refine wpAny_bind (wpAny_field hz rfl (x := .bool f) rfl ?_)
      cases f with
      | true => exact wpAny_pure (h2 s.heap hz (Heap.SameBut.refl _ _))
      | false => exact wpAny_bind (wpAny_setField_rec hz (by simp) fun h₁ hz₁ hs₁ => wpAny_pure (h2 h₁ hz₁ hs₁))
theorem zr_item {Q : Value → Shared → Prop} (D : ZipApart z TI TO i1 i2 l1 l2) (hz : ZRec s.heap z TI TO f0 f) (h0 : ZOld f0) (hTI : IsPair s.heap TI (.ref i1) (.ref i2)) (hTO : IsPair s.heap TO a b)
    (h1 : s.heap.IsTupleIter i1 l1 k1) (h2 : s.heap.IsTupleIter i2 l2 k2) (hl1 : s.heap.IsTuple l1 xs) (hl2 : s.heap.IsTuple l2 ys) (hx : xs[k1]? = some x) (hy : ys[k2]? = some y)
    (hQ : ∀ h' g0 g c d, ZRec h' z TI TO g0 g → ZOld g0 → IsPair h' TO c d → h'.IsTupleIter i1 l1 (k1 + 1) → h'.IsTupleIter i2 l2 (k2 + 1) → IsPair h' s.heap.objs.size x y → h'.objs.size = s.heap.objs.size + 1 →
      (∀ c o, c ≠ z → c ≠ TO → c ≠ i1 → c ≠ i2 → s.heap.get? c = some o → h'.get? c = some o) → Q (.ref s.heap.objs.size) { s with heap := h' }) :
    wpAny (model prog w) A (Builtin.«zip.__next__» ⟨[.ref z], []⟩) (fun fin s' => ∃ v, fin = .done (.ret v) ∧ Q v s') E s := by
  show wpAny _ _ (field (.ref z) 2 >>= _) _ _ _
  refine wpAny_bind (wpAny_field hz rfl (x := .bool false) rfl ?_)
  show wpAny _ _ (field (.ref z) 3 >>= _) _ _ _
  refine wpAny_bind (wpAny_field hz rfl (x := .ref TI) rfl (wpAny_bind (wpAny_seqItems hTI rfl ?_)))
  show wpAny _ _ (Builtin.SmallTypes.ownedTupleIsFree (.ref z) >>= _) _ _ _
  refine wpAny_bind (zr_free hz h0 ?_ fun g₁ zz₁ ss₁ => ?_)
  · -- its own tuple is free: filled again
    simp only [if_true]
    refine wpAny_bind (wpAny_rule (wpAny_bind (wpAny_field hz rfl (x := .ref TO) rfl (wpAny_bind (wpAny_setField_rec hz (by simp) fun g₁ zz₁ ss₁ => ?_)))))
    replace zz₁ : ZRec g₁ z TI TO .ellipsis f := zz₁
    refine wpAny_bind ?_
    simp only [List.zipIdx_cons, List.zipIdx_nil, List.forIn_cons, List.forIn_nil]
    refine wpAny_bind (wpAny_bind (wpAny_onRaise ?_))
    show wpAny _ _ (Builtin.SmallTypes.nextOf (.ref i1) >>= _) _ _ _
    refine wpAny_bind (RZ.nextOf_tuple_item (h1.extBut ss₁.extBut D.i1z) (hl1.extBut ss₁.extBut D.l1z) hx fun g₂ it₂ ss₂ => wpAny_pure ?_)
    have to₂ : IsPair g₂ TO a b := ss₂.extBut _ _ D.TOi1 (ss₁.extBut _ _ D.TOz hTO)
    refine wpAny_bind (wpAny_seqItems to₂ rfl (wpAny_bind (wpAny_updateSeq_pair to₂ fun g₃ to₃ ss₃ => ?_)))
    replace to₃ : IsPair g₃ TO x b := to₃
    refine wpAny_bind (wpAny_letGo (wpAny_pure (wpAny_bind (wpAny_bind (wpAny_onRaise ?_)))))
    show wpAny _ _ (Builtin.SmallTypes.nextOf (.ref i2) >>= _) _ _ _
    refine wpAny_bind (RZ.nextOf_tuple_item (((h2.extBut ss₁.extBut D.i2z).extBut ss₂.extBut D.i12.symm).extBut ss₃.extBut D.TOi2.symm) (((hl2.extBut ss₁.extBut D.l2z).extBut ss₂.extBut D.l2i1).extBut ss₃.extBut D.l2TO) hy fun g₄ it₄ ss₄ => wpAny_pure ?_)
    have to₄ : IsPair g₄ TO x b := ss₄.extBut _ _ D.TOi2 to₃
    refine wpAny_bind (wpAny_seqItems to₄ rfl (wpAny_bind (wpAny_updateSeq_pair to₄ fun g₅ to₅ ss₅ => ?_)))
    replace to₅ : IsPair g₅ TO x y := to₅
    refine wpAny_bind (wpAny_letGo (wpAny_pure (wpAny_pure ?_)))
    refine wpAny_bind (wpAny_seqItems to₅ rfl (wpAny_bind (wpAny_newTuple ?_)))
    have size : g₅.objs.size = s.heap.objs.size := by rw [ss₅.1, ss₄.1, ss₃.1, ss₂.1, ss₁.1]
    have z₅ : ZRec g₅ z TI TO .ellipsis f := ss₅.extBut _ _ D.TOz.symm (ss₄.extBut _ _ D.i2z.symm (ss₃.extBut _ _ D.TOz.symm (ss₂.extBut _ _ D.i1z.symm zz₁)))
    have keep : ∀ c o, c ≠ z → c ≠ TO → c ≠ i1 → c ≠ i2 → s.heap.get? c = some o → g₅.get? c = some o := fun c o c1 c2 c3 c4 e => ss₅.extBut _ _ c2 (ss₄.extBut _ _ c4 (ss₃.extBut _ _ c2 (ss₂.extBut _ _ c3 (ss₁.extBut _ _ c1 e))))
    have j1 : g₅.IsTupleIter i1 l1 (k1 + 1) := ((it₂.extBut ss₃.extBut D.TOi1.symm).extBut ss₄.extBut D.i12).extBut ss₅.extBut D.TOi1.symm
    have j2 : g₅.IsTupleIter i2 l2 (k2 + 1) := it₄.extBut ss₅.extBut D.TOi2.symm
    have zlt : z < g₅.objs.size := Heap.lt_size z₅
    show wpAny _ _ (Builtin.SmallTypes.ownedTupleHandOut (.ref z) (.ref g₅.objs.size) >>= _) _ _ _
    refine wpAny_bind ?_
    unfold Builtin.SmallTypes.ownedTupleHandOut
    have z₆ : ZRec (g₅.push { cls := .type "tuple", data := .seq #[x, y] }) z TI TO .ellipsis f := Heap.get?_push_of_some _ z₅
    refine wpAny_bind (wpAny_setField_rec z₆ (by simp) fun g₇ z₇ ss₇ => ?_)
    replace z₇ : ZRec g₇ z TI TO (rawInt g₅.objs.size) f := z₇
    refine wpAny_setField_rec z₇ (by simp) fun g₈ z₈ ss₈ => ?_
    replace z₈ : ZRec g₈ z TI TO (rawInt g₅.objs.size) false := z₈
    have up : ∀ c o, c ≠ z → g₅.get? c = some o → g₈.get? c = some o := fun c o c1 e => ss₈.extBut _ _ c1 (ss₇.extBut _ _ c1 (Heap.get?_push_of_some _ e))
    have new : IsPair g₈ g₅.objs.size x y := ss₈.extBut _ _ (Nat.ne_of_gt zlt) (ss₇.extBut _ _ (Nat.ne_of_gt zlt) (Heap.get?_push_size _ rfl))
    have sz8 : g₈.objs.size = g₅.objs.size + 1 := by rw [ss₈.1, ss₇.1, Heap.size_push]
    rw [size] at z₈ new sz8
    refine wpAny_pure ⟨_, rfl, ?_⟩
    show Q (.ref g₅.objs.size) _
    rw [size]
    exact hQ g₈ _ _ _ _ z₈ (.inr ⟨_, rfl⟩) (up _ _ D.TOz to₅) (j1.at fun o e => up _ o D.i1z e) (j2.at fun o e => up _ o D.i2z e) new sz8 fun c o c1 c2 c3 c4 e => up c o c1 (keep c o c1 c2 c3 c4 e)
  · -- the last pair is still held
    simp only [Bool.false_eq_true, if_false]
    refine wpAny_bind ?_
    rw [← Array.forIn_toList]
    simp only [List.forIn_cons, List.forIn_nil]
    refine wpAny_bind (wpAny_bind (wpAny_holding ?_))
    show wpAny _ _ (Builtin.SmallTypes.nextOf (.ref i1) >>= _) _ _ _
    refine wpAny_bind (RZ.nextOf_tuple_item (s := { s with heap := g₁ }) (h1.extBut ss₁.extBut D.i1z) (hl1.extBut ss₁.extBut D.l1z) hx fun g₂ it₂ ss₂ => wpAny_pure (wpAny_pure ?_))
    refine wpAny_bind (wpAny_bind (wpAny_holding ?_))
    show wpAny _ _ (Builtin.SmallTypes.nextOf (.ref i2) >>= _) _ _ _
    refine wpAny_bind (RZ.nextOf_tuple_item (s := { s with heap := g₂ }) ((h2.extBut ss₁.extBut D.i2z).extBut ss₂.extBut D.i12.symm) ((hl2.extBut ss₁.extBut D.l2z).extBut ss₂.extBut D.l2i1) hy fun g₃ it₃ ss₃ => wpAny_pure (wpAny_pure (wpAny_pure ?_)))
    show wpAny _ _ (newTuple [x, y] >>= _) _ _ _
    refine wpAny_bind (wpAny_newTuple ?_)
    have size : g₃.objs.size = s.heap.objs.size := by rw [ss₃.1, ss₂.1, ss₁.1]
    have z₃ : ZRec g₃ z TI TO f0 true := ss₃.extBut _ _ D.i2z.symm (ss₂.extBut _ _ D.i1z.symm zz₁)
    have keep : ∀ c o, c ≠ z → c ≠ i1 → c ≠ i2 → s.heap.get? c = some o → g₃.get? c = some o := fun c o c1 c2 c3 e => ss₃.extBut _ _ c3 (ss₂.extBut _ _ c2 (ss₁.extBut _ _ c1 e))
    have j1 : g₃.IsTupleIter i1 l1 (k1 + 1) := it₂.extBut ss₃.extBut D.i12
    refine wpAny_pure ⟨_, rfl, ?_⟩
    show Q (.ref g₃.objs.size) _
    have new : IsPair (g₃.push { cls := .type "tuple", data := .seq #[x, y] }) g₃.objs.size x y := Heap.get?_push_size _ rfl
    have sz4 : (g₃.push { cls := .type "tuple", data := .seq #[x, y] }).objs.size = g₃.objs.size + 1 := Heap.size_push ..
    rw [size] at new sz4 ⊢
    exact hQ _ _ _ _ _ (Heap.get?_push_of_some _ z₃) h0 (Heap.get?_push_of_some _ (keep _ _ D.TOz D.TOi1 D.TOi2 hTO)) (j1.at fun o e => Heap.get?_push_of_some _ e) (it₃.at fun o e => Heap.get?_push_of_some _ e) new sz4 fun c o c1 c2 c3 c4 e => Heap.get?_push_of_some _ (keep c o c1 c3 c4 e)
theorem zr_end {Q : Fin → Shared → Prop} (hh : A.handled = none) (D : ZipApart z TI TO i1 i2 l1 l2) (hz : ZRec s.heap z TI TO f0 f) (h0 : ZOld f0) (hTI : IsPair s.heap TI (.ref i1) (.ref i2)) (hTO : IsPair s.heap TO a b)
    (h1 : s.heap.IsTupleIter i1 l1 k1) (h2 : s.heap.IsTupleIter i2 l2 k2) (hl1 : s.heap.IsTuple l1 xs) (hl2 : s.heap.IsTuple l2 ys) (hend : xs[k1]? = none ∨ ys[k2]? = none)
    (hE : ∀ h' e, (∀ c o, c ≠ z → c ≠ TO → c ≠ i1 → c ≠ i2 → s.heap.get? c = some o → h'.get? c = some o) → (∃ o, h'.get? e = some o ∧ o.cls = .type "StopIteration") → E (.ref e) { s with heap := h' }) :
    wpAny (model prog w) A (Builtin.«zip.__next__» ⟨[.ref z], []⟩) Q E s := by
  show wpAny _ _ (field (.ref z) 2 >>= _) _ _ _
  refine wpAny_bind (wpAny_field hz rfl (x := .bool false) rfl ?_)
  show wpAny _ _ (field (.ref z) 3 >>= _) _ _ _
  refine wpAny_bind (wpAny_field hz rfl (x := .ref TI) rfl (wpAny_bind (wpAny_seqItems hTI rfl ?_)))
  show wpAny _ _ (Builtin.SmallTypes.ownedTupleIsFree (.ref z) >>= _) _ _ _
  refine wpAny_bind (zr_free hz h0 ?_ fun g₁ zz₁ ss₁ => ?_)
  · simp only [if_true]
    refine wpAny_bind (wpAny_rule (wpAny_bind (wpAny_field hz rfl (x := .ref TO) rfl (wpAny_bind (wpAny_setField_rec hz (by simp) fun g₁ zz₁ ss₁ => ?_)))))
    replace zz₁ : ZRec g₁ z TI TO .ellipsis f := zz₁
    refine wpAny_bind ?_
    simp only [List.zipIdx_cons, List.zipIdx_nil, List.forIn_cons, List.forIn_nil]
    refine wpAny_bind (wpAny_bind (wpAny_onRaise ?_))
    show wpAny _ _ (Builtin.SmallTypes.nextOf (.ref i1) >>= _) _ _ _
    cases hx : xs[k1]? with
    | none =>
      refine wpAny_bind (RZ.nextOf_tuple_end hh (h1.extBut ss₁.extBut D.i1z) (hl1.extBut ss₁.extBut D.l1z) hx fun g₂ e ss₂ he => ?_)
      obtain ⟨oe, hoe, hce⟩ := he
      have z₂ : ZRec g₂ z TI TO .ellipsis f := ss₂ _ _ D.i1z.symm zz₁
      have ez : e ≠ z := fun q => by subst q; rw [z₂] at hoe; cases hoe; simp at hce
      exact wpAny_setField_rec z₂ (by simp) fun g₃ _ ss₃ => hE g₃ e (fun c o c1 _ c3 _ q => ss₃.extBut _ _ c1 (ss₂ _ _ c3 (ss₁.extBut _ _ c1 q))) ⟨oe, ss₃.extBut _ _ ez hoe, hce⟩
    | some x =>
      have hy : ys[k2]? = none := hend.resolve_left fun q => by rw [hx] at q; cases q
      refine wpAny_bind (RZ.nextOf_tuple_item (h1.extBut ss₁.extBut D.i1z) (hl1.extBut ss₁.extBut D.l1z) hx fun g₂ it₂ ss₂ => wpAny_pure ?_)
      have to₂ : IsPair g₂ TO a b := ss₂.extBut _ _ D.TOi1 (ss₁.extBut _ _ D.TOz hTO)
      refine wpAny_bind (wpAny_seqItems to₂ rfl (wpAny_bind (wpAny_updateSeq_pair to₂ fun g₃ to₃ ss₃ => ?_)))
      refine wpAny_bind (wpAny_letGo (wpAny_pure (wpAny_bind (wpAny_bind (wpAny_onRaise ?_)))))
      show wpAny _ _ (Builtin.SmallTypes.nextOf (.ref i2) >>= _) _ _ _
      refine wpAny_bind (RZ.nextOf_tuple_end hh (((h2.extBut ss₁.extBut D.i2z).extBut ss₂.extBut D.i12.symm).extBut ss₃.extBut D.TOi2.symm) (((hl2.extBut ss₁.extBut D.l2z).extBut ss₂.extBut D.l2i1).extBut ss₃.extBut D.l2TO) hy fun g₄ e ss₄ he => ?_)
      obtain ⟨oe, hoe, hce⟩ := he
      have z₄ : ZRec g₄ z TI TO .ellipsis f := ss₄ _ _ D.i2z.symm (ss₃.extBut _ _ D.TOz.symm (ss₂.extBut _ _ D.i1z.symm zz₁))
      have ez : e ≠ z := fun q => by subst q; rw [z₄] at hoe; cases hoe; simp at hce
      exact wpAny_setField_rec z₄ (by simp) fun g₅ _ ss₅ => hE g₅ e (fun c o c1 c2 c3 c4 q => ss₅.extBut _ _ c1 (ss₄ _ _ c4 (ss₃.extBut _ _ c2 (ss₂.extBut _ _ c3 (ss₁.extBut _ _ c1 q))))) ⟨oe, ss₅.extBut _ _ ez hoe, hce⟩
  · simp only [Bool.false_eq_true, if_false]
    refine wpAny_bind ?_
    rw [← Array.forIn_toList]
    simp only [List.forIn_cons, List.forIn_nil]
    refine wpAny_bind (wpAny_bind (wpAny_holding ?_))
    show wpAny _ _ (Builtin.SmallTypes.nextOf (.ref i1) >>= _) _ _ _
    cases hx : xs[k1]? with
    | none =>
      refine wpAny_bind (RZ.nextOf_tuple_end (s := { s with heap := g₁ }) hh (h1.extBut ss₁.extBut D.i1z) (hl1.extBut ss₁.extBut D.l1z) hx fun g₂ e ss₂ he => ?_)
      exact hE g₂ e (fun c o c1 _ c3 _ q => ss₂ _ _ c3 (ss₁.extBut _ _ c1 q)) he
    | some x =>
      have hy : ys[k2]? = none := hend.resolve_left fun q => by rw [hx] at q; cases q
      refine wpAny_bind (RZ.nextOf_tuple_item (s := { s with heap := g₁ }) (h1.extBut ss₁.extBut D.i1z) (hl1.extBut ss₁.extBut D.l1z) hx fun g₂ it₂ ss₂ => wpAny_pure (wpAny_pure ?_))
      refine wpAny_bind (wpAny_bind (wpAny_holding ?_))
      show wpAny _ _ (Builtin.SmallTypes.nextOf (.ref i2) >>= _) _ _ _
      refine wpAny_bind (RZ.nextOf_tuple_end (s := { s with heap := g₂ }) hh ((h2.extBut ss₁.extBut D.i2z).extBut ss₂.extBut D.i12.symm) ((hl2.extBut ss₁.extBut D.l2z).extBut ss₂.extBut D.l2i1) hy fun g₃ e ss₃ he => ?_)
      exact hE g₃ e (fun c o c1 _ c3 c4 q => ss₃ _ _ c4 (ss₂.extBut _ _ c3 (ss₁.extBut _ _ c1 q))) he
theorem nextZ_item {Q : Option Value → Shared → Prop} (D : ZipApart z TI TO i1 i2 l1 l2) (hz : ZRec s.heap z TI TO f0 f) (h0 : ZOld f0) (hTI : IsPair s.heap TI (.ref i1) (.ref i2)) (hTO : IsPair s.heap TO a b)
    (h1 : s.heap.IsTupleIter i1 l1 k1) (h2 : s.heap.IsTupleIter i2 l2 k2) (hl1 : s.heap.IsTuple l1 xs) (hl2 : s.heap.IsTuple l2 ys) (hx : xs[k1]? = some x) (hy : ys[k2]? = some y)
    (hQ : ∀ h' g0 g c d, ZRec h' z TI TO g0 g → ZOld g0 → IsPair h' TO c d → h'.IsTupleIter i1 l1 (k1 + 1) → h'.IsTupleIter i2 l2 (k2 + 1) → IsPair h' s.heap.objs.size x y → h'.objs.size = s.heap.objs.size + 1 →
      (∀ c o, c ≠ z → c ≠ TO → c ≠ i1 → c ≠ i2 → s.heap.get? c = some o → h'.get? c = some o) → Q (some (.ref s.heap.objs.size)) { s with heap := h' }) : wpAny (model prog w) A (pyNext (.ref z)) Q E s := by
  have ty : s.TypeIs (.ref z) "zip" := ⟨_, hz, rfl⟩
  unfold pyNext
  exact wpAny_bind (wpAny_attempt (wpAny_callSpecial?_slot (name := Str.ofString "__next__") ty F.slot_zip_next (wpAny_call_entry F.slot_zip_next ty F.entry_zip_next
    (zr_item D hz h0 hTI hTO h1 h2 hl1 hl2 hx hy fun h' g0 g c d a1 a2 a3 a4 a5 a6 a7 a8 => wpAny_pure (hQ h' g0 g c d a1 a2 a3 a4 a5 a6 a7 a8)) (F.args_zip_next_1 _))))
theorem nextZ_end {Q : Option Value → Shared → Prop} (hh : A.handled = none) (D : ZipApart z TI TO i1 i2 l1 l2) (hz : ZRec s.heap z TI TO f0 f) (h0 : ZOld f0) (hTI : IsPair s.heap TI (.ref i1) (.ref i2)) (hTO : IsPair s.heap TO a b)
    (h1 : s.heap.IsTupleIter i1 l1 k1) (h2 : s.heap.IsTupleIter i2 l2 k2) (hl1 : s.heap.IsTuple l1 xs) (hl2 : s.heap.IsTuple l2 ys) (hend : xs[k1]? = none ∨ ys[k2]? = none)
    (hQ : ∀ h', (∀ c o, c ≠ z → c ≠ TO → c ≠ i1 → c ≠ i2 → s.heap.get? c = some o → h'.get? c = some o) → Q none { s with heap := h' }) : wpAny (model prog w) A (pyNext (.ref z)) Q E s := by
  have ty : s.TypeIs (.ref z) "zip" := ⟨_, hz, rfl⟩
  unfold pyNext
  refine wpAny_bind (wpAny_attempt (wpAny_callSpecial?_slot (name := Str.ofString "__next__") ty F.slot_zip_next (wpAny_call_entry F.slot_zip_next ty F.entry_zip_next
    (zr_end hh D hz h0 hTI hTO h1 h2 hl1 hl2 hend fun h' e hk he => ?_) (F.args_zip_next_1 _))))
  obtain ⟨o, ho, hc⟩ := he
  exact wpAny_bind (wpAny_isInstance (T := "StopIteration") (b := true) ⟨o, ho, hc⟩ isSubtype_stop (wpAny_pure (hQ _ hk)))
end
theorem turn_zip1 {P : Program} {w : World} {K : PySem.W.Frag} {y : Str} {tpos : Pos} {a b z TI TO i1 i2 : Addr} (D : ZipApart z TI TO i1 i2 a b) :
    Turn P w K (.Name y tpos) (RZ.ItzT K a b) [z, TI, TO, i1, i2] z (fun i h => (∃ f0 f, ZRec h z TI TO f0 f ∧ ZOld f0) ∧ IsPair h TI (.ref i1) (.ref i2) ∧ (∃ x y, IsPair h TO x y) ∧ h.IsTupleIter i1 a i ∧ h.IsTupleIter i2 b i) where
  mem := by simp
  obj := fun i h st c hc => by
    obtain ⟨⟨_, _, hz, _⟩, hTI, ⟨x, y, hTO⟩, ⟨o1, e1, _, d1⟩, ⟨o2, e2, _, d2⟩⟩ := st
    simp only [List.mem_cons, List.not_mem_nil, or_false] at hc
    rcases hc with rfl | rfl | rfl | rfl | rfl
    · exact ⟨_, hz, fun v q => nomatch q⟩
    · exact ⟨_, hTI, fun v q => nomatch q⟩
    · exact ⟨_, hTO, fun v q => nomatch q⟩
    · exact ⟨o1, e1, fun v q => by rw [d1] at q; cases q⟩
    · exact ⟨o2, e2, fun v q => by rw [d2] at q; cases q⟩
  keep := fun i h h' st k => by
    obtain ⟨⟨f0, f, hz, h0⟩, hTI, ⟨x, y, hTO⟩, h1, h2⟩ := st
    exact ⟨⟨f0, f, k z (by simp) _ hz, h0⟩, k TI (by simp) _ hTI, ⟨x, y, k TO (by simp) _ hTO⟩, h1.at fun o q => k i1 (by simp) o q, h2.at fun o q => k i2 (by simp) o q⟩
  item := by
    intro X hP hw hK hc i pins s σ H E I hf st hg
    subst hP hw hK
    obtain ⟨⟨f0, f, hz, h0⟩, hTI, ⟨x0, y0, hTO⟩, h1, h2⟩ := st
    obtain ⟨xs, ys, x, y, qx, qy, hx, hy⟩ := hg
    obtain ⟨us, ru, p1, _⟩ := I.tuple qx
    obtain ⟨vs, rv, p2, _⟩ := I.tuple qy
    obtain ⟨u, hu, r1⟩ := ru.get hx
    obtain ⟨v, hv, r2⟩ := rv.get hy
    have lt : ∀ c ∈ [z, TI, TO, i1, i2], c < s.heap.objs.size := fun c m => by
      simp only [List.mem_cons, List.not_mem_nil, or_false] at m
      rcases m with rfl | rfl | rfl | rfl | rfl
      · exact Heap.lt_size hz
      · exact Heap.lt_size hTI
      · exact Heap.lt_size hTO
      · obtain ⟨_, e1, _⟩ := h1; exact Heap.lt_size e1
      · obtain ⟨_, e2, _⟩ := h2; exact Heap.lt_size e2
    refine nextZ_item D hz h0 hTI hTO h1 h2 p1 p2 (x := u) (y := v) (by simpa using hu) (by simpa using hv) fun h' g0 g c d zz zo to j1 j2 new sz keep => ?_
    refine ⟨_, rfl, wpAny_pure ?_⟩
    have ok : ObjOk X.prog X.w (upd H s.heap.objs.size (.tup [x, y])) h' s.heap.objs.size (.tup [x, y]) := ⟨by show 2 ≤ sizeLine; decide, [u, v], .cons r1 (.cons r2 .nil), ⟨_, new, rfl, _, rfl⟩⟩
    have I1 : Inv X pins σ (upd H s.heap.objs.size (.tup [x, y])) { s with heap := h' } := I.turnedNew (t' := s.toks) (ch := [z, TI, TO, i1, i2]) (fun c o hb q => keep c o (fun e => hb (by simp [e])) (fun e => hb (by simp [e])) (fun e => hb (by simp [e])) (fun e => hb (by simp [e])) q) hf (Nat.le_refl _) ok
    refine ⟨.ref s.heap.objs.size, _, I1, rfl, ⟨_, x, y, rfl, I.hok.fresh (Nat.le_refl _), rfl, fun l hl => by rw [I.tuple_inj hl qx]; exact hx, fun l hl => by rw [I.tuple_inj hl qy]; exact hy⟩, ⟨⟨g0, g, zz, zo⟩, keep _ _ D.TIz D.TITO D.TIi1 D.TIi2 hTI, ⟨c, d, to⟩, j1, j2⟩, fun c m => ?_⟩
    rw [upd_ne (Nat.ne_of_lt (lt c m))]
    exact (hf c m).1
  done := by
    intro X hP hw hK hc i pins s σ H E I hf st hg
    subst hP hw hK
    obtain ⟨⟨f0, f, hz, h0⟩, hTI, ⟨x0, y0, hTO⟩, h1, h2⟩ := st
    obtain ⟨xs, ys, qx, qy, hend⟩ := hg
    obtain ⟨us, ru, p1, _⟩ := I.tuple qx
    obtain ⟨vs, rv, p2, _⟩ := I.tuple qy
    have l1 := ru.length
    have l2 := rv.length
    have he : us.toArray[i]? = none ∨ vs.toArray[i]? = none := hend.imp (fun q => by simp; omega) fun q => by simp; omega
    exact nextZ_end (I.ok.hd hc) D hz h0 hTI hTO h1 h2 p1 p2 he fun h' keep => ⟨rfl, I.turnedL (t' := s.toks) (ch := [z, TI, TO, i1, i2]) (fun c o hb q => keep c o (fun e => hb (by simp [e])) (fun e => hb (by simp [e])) (fun e => hb (by simp [e])) (fun e => hb (by simp [e])) q) hf⟩
  self := fun A i s Q E st h => by
    obtain ⟨⟨f0, f, hz, _⟩, _⟩ := st
    have ty : s.TypeIs (.ref z) "zip" := ⟨_, hz, rfl⟩
    refine wpAny_pyIter_slot ty F.slot_zip_iter (wpAny_call_entry F.slot_zip_iter ty F.entry_zip_iter ?_ (F.args_zip_iter_1 _))
    show wpAny _ _ (ret (.ref z)) _ _ s
    exact wpAny_pure ⟨_, rfl, "zip", _, ty, F.slot_zip_next.lookup, h⟩
section
variable {X : Cx} {a b : Expr} {es : List Expr} {ma mb : Bool} {pos : Pos}
theorem pi_zip1 {ta : TA} {p tpos : Pos} {y : Str} (hg : Gl X "zip") (hm : X.mg "zip" = none) (ha : PA X [a, b] ta) (hs : starEach [a, b] X.env = (false, eval a X.env) :: starEach [b] X.env := by rfl) (hpl : (backTo pos (starEach [b] X.env)).any (·.1) = false := by rfl) :
    PI X (.Name y tpos) (.Call (.Name "zip" p) [a, b] [] pos) (fun σ H R => ta σ H fun vs H1 => ∃ a b xs ys, vs = [.ref a, .ref b] ∧ SqT X.K H1 a xs ∧ SqT X.K H1 b ys ∧ R (RZ.ItzT X.K a b) H1) := by
  refine ⟨fun pins s σ H R I h => ?_⟩
  refine PyProof.Rows.Call_ (ld_blt I hg hm PyProof.Rows.boot_zip (PyProof.Rows.callWith_type1 (thn (ha.run pos pins s σ H _ I h) fun us s1 ⟨vs, H1, I1, r1, q1⟩ => ?_) hs hpl))
  obtain ⟨a, b, xs, ys, ex, qx, qy, q⟩ := q1
  subst ex
  obtain ⟨u1, u2, rfl, ra, rb⟩ := vals2 r1
  cases ra
  cases rb
  obtain ⟨its, rv, p1, _⟩ := I1.tuple qx
  obtain ⟨its2, rv2, p2, _⟩ := I1.tuple qy
  obtain ⟨o1, ho1, _⟩ := id p1
  obtain ⟨o2, ho2, _⟩ := id p2
  have new : ∀ c ∈ [s1.heap.objs.size + 4, s1.heap.objs.size + 2, s1.heap.objs.size + 3, s1.heap.objs.size, s1.heap.objs.size + 1], FpOk X pins H1 c := fun c m => by
    have le : s1.heap.objs.size ≤ c := by
      simp only [List.mem_cons, List.not_mem_nil, or_false] at m
      omega
    exact I1.fpOk le (I1.hok.fresh le)
  refine RZ.call_zipT (show s1.heap.IsTuple a its.toArray from p1) (show s1.heap.IsTuple b its2.toArray from p2) fun h' hz hTI hTO h1 h2 hsz hk => wpAny_pyIter_zip hz ?_
  have I2 : Inv X pins σ H1 { s1 with heap := h' } := I1.kept (t' := s1.toks) hk
  exact ⟨_, _, _, _, H1, rfl, I2, turn_zip1 (PySem.W.ktu_apart s1.heap.objs.size a b (Heap.lt_size ho1) (Heap.lt_size ho2)), ⟨⟨_, _, hz, .inl rfl⟩, hTI, ⟨_, _, hTO⟩, h1, h2⟩, new, q⟩
/-- zip of two tuples, the pair under one name -/
def sZip1 (sa sb : SL) : SI := fun env => match sa env with
  | some ((true, ds), e1) => match sb e1 with
    | some ((true, es), e2) => some (zipD ds es, e2)
    | _ => none
  | _ => none
theorem i_zip1 {sa sb : SL} {p tpos : Pos} {y : Str} (hg : Gl X "zip") (hm : X.mg "zip" = none) (ha : PE X a (tL X.K ma true sa)) (hb : PE X b (tL X.K mb true sb)) (hs : starEach [a, b] X.env = (false, eval a X.env) :: starEach [b] X.env := by rfl)
    (hs2 : starEach [b] X.env = (false, eval b X.env) :: starEach [] X.env := by rfl) (hpl : (backTo pos (starEach [b] X.env)).any (·.1) = false := by rfl) :
    PI X (.Name y tpos) (.Call (.Name "zip" p) [a, b] [] pos) (tI X.K (ma || mb) (sZip1 sa sb)) := (pi_zip1 hg hm (pa_cons ha (pa_cons (pe_fitsS hb) pa_nil hs2) hs) hs hpl).wk fun σ H R ⟨env, ds, env', As, L, e, hd, q⟩ => by
  unfold sZip1 at e
  split at e
  · rename_i ds1 e1 h1
    split at e
    · rename_i ds2 e2 h2
      cases e
      refine ⟨env, true, ds1, e1, As, L, h1, hd, fun p vs H1 As1 P n sq rs stay => ⟨e1, true, ds2, env', As1, L, h2, P.hd0, fun p2 ws H2 As2 P2 n2 sq2 rs2 stay2 ft => ?_⟩⟩
      have rs' := P2.keepDs rs
      rw [plusL_nil] at rs'
      have st1 : ∀ {σ' e' H' As' B'}, Pst X.K σ env' H2 As2 L σ' e' H' As' B' → SqT X.K H' p vs := fun {σ' e' H' As' B'} P' => SqT.of (stay rfl σ' e' H' As' B' (P2.seq P'))
      have st2 : ∀ {σ' e' H' As' B'}, Pst X.K σ env' H2 As2 L σ' e' H' As' B' → SqT X.K H' p2 ws := fun {σ' e' H' As' B'} P' => SqT.of (stay2 rfl σ' e' H' As' B' P')
      refine ⟨p, p2, vs, ws, rfl, st1 (Pst.refl P2.hd0), SqT.of sq2, q _ H2 As2 (P.seq P2) (n.trans n2) ⟨fun σ' e' H' As' B' P' i hi => ?_, fun σ' e' H' As' B' P' i d hd x H'' yy => ?_, fun σ' e' H' As' B' P' i hi => ?_, ?_⟩⟩
      · rw [zipD_length, ← rs.length, ← rs2.length] at hi
        exact ⟨vs, ws, vs[i]'(by omega), ws[i]'(by omega), st1 P', st2 P', by simp, by simp⟩
      · obtain ⟨T, v, w, rfl, nT, rfl, hv, hw⟩ := yy
        have hv := hv vs (st1 P')
        have hw := hw ws (st2 P')
        obtain ⟨a', b', ha', hb', rfl⟩ := zipD_get ds1 ds2 i d hd
        obtain ⟨v', hv', rv⟩ := (P'.keepDs rs').get ha'
        obtain ⟨w', hw', rw'⟩ := (P'.keepDs rs2).get hb'
        rw [hv] at hv'
        rw [hw] at hw'
        cases hv'
        cases hw'
        exact ⟨fun _ a o e => Nm.new (mu := false) nT rfl a o e, newTup_rep nT (.cons rv (.cons rw' .nil)) fun a w => w.elim (fun ⟨j, m⟩ => let ⟨o, eo, _⟩ := P'.hd.there m; ⟨o, eo⟩) fun w => P'.hd.lv a w⟩
      · rw [zipD_length, ← rs.length, ← rs2.length] at hi
        exact ⟨vs, ws, st1 P', st2 P', by omega⟩
      · rw [zipD_length, ← rs2.length]
        have := ft.2 p2 ws (SqT.of sq2)
        omega
    · cases e
  · cases e
end
end Ev
set_option Elab.async false
set_option linter.all false
set_option autoImplicit false
set_option maxRecDepth 100000
set_option maxHeartbeats 4000000
/-! Ev33: the law's def, at the script. -/
namespace Ev
open PySem PySem.Spec L2
/-- a def that answers True at the script keeps the law's promise -/
theorem sp_law {K : PySem.W.Frag} {n : Nat} {b : SS} {H : Hp} {a : Addr} {ns : List Int} (h : ∃ e, b ([some ⟨.scr ns, 0, 0⟩] ++ List.replicate n none) = some (.ret (.bl true, 0) e)) (S : SqL K H a (ns.map V.int)) : spF K n 1 b [.ref a] H (fun v _ => v = .bl true) E0 := by
  obtain ⟨e, h⟩ := h
  refine ⟨rfl, [some ⟨.scr ns, 0, 0⟩], _, fun _ => [], fun _ => False, h, ⟨by simp, fun i s q => ?_, fun _ _ => rfl, fun _ => List.nodup_nil, fun _ _ _ m => (nomatch m), fun _ _ _ _ _ m => (nomatch m), fun _ _ _ _ _ m => (nomatch m), fun _ z => False.elim z⟩, fun v σ' H' As' B P r => ?_⟩
  · have q := padE q
    cases i with
    | zero =>
      cases q
      refine ⟨.ref a, rfl, .zero (.scr ?_)⟩
      rcases S with S | S
      · exact .inl ⟨S, fun z => by rcases z with ⟨_, m⟩ | m; exact nomatch m; exact m⟩
      · exact .inr S
    | succ i => cases q
  · cases r with
    | zero r => cases r; rfl
end Ev
set_option Elab.async false
set_option linter.all false
set_option autoImplicit false
set_option maxRecDepth 100000
set_option maxHeartbeats 4000000
/-! Ev34: what the meanings give, step by step (no program, no heap). -/
namespace Ev
open PySem PySem.Spec L2
def W {α : Type} (s : En → Option (α × En)) (Q : α → En → Prop) (e : En) : Prop := ∃ a e', s e = some (a, e') ∧ Q a e'
def WG (g : En → Option En) (Q : En → Prop) (e : En) : Prop := ∃ e', g e = some e' ∧ Q e'
def RsP (N : En → Prop) (R : Rv → En → Prop) (B C : En → Prop) : Rs → Prop
  | .nx e => N e
  | .ret r e => R r e
  | .bk e => B e
  | .ct e => C e
def WS (s : SS) (N : En → Prop) (R : Rv → En → Prop) (B C : En → Prop) (e : En) : Prop := ∃ r, s e = some r ∧ RsP N R B C r
section
variable {e : En}
theorem W.mono {α : Type} {s : En → Option (α × En)} {P Q : α → En → Prop} (h : W s P e) (k : ∀ a e', P a e' → Q a e') : W s Q e := let ⟨a, e', q, p⟩ := h; ⟨a, e', q, k a e' p⟩
theorem WS.mono {s : SS} {N N' : En → Prop} {R R' : Rv → En → Prop} {B B' C C' : En → Prop} (h : WS s N R B C e) (kN : ∀ e, N e → N' e) (kR : ∀ r e, R r e → R' r e) (kB : ∀ e, B e → B' e) (kC : ∀ e, C e → C' e) : WS s N' R' B' C' e := by
  obtain ⟨r, q, p⟩ := h
  refine ⟨r, q, ?_⟩
  cases r
  · exact kN _ p
  · exact kR _ _ p
  · exact kB _ p
  · exact kC _ p
/-! #### expressions -/
theorem w_c {d : D} {Q : Rv → En → Prop} (q : Q (d, 0) e) : W (sC d) Q e := ⟨_, _, rfl, q⟩
theorem w_pk {i : Nat} {s : Slot} {Q : D → En → Prop} (h : e[i]? = some (some s)) (q : Q s.d e) : W (sPk i) Q e := ⟨_, _, by simp [sPk, h], q⟩
theorem w_var0 {i : Nat} {s : Slot} {Q : Rv → En → Prop} (h : e[i]? = some (some s)) (hk : s.k = 0 ∨ s.d.imm = true) (q : Q (s.d, 0) e) : W (sVar i) Q e := ⟨_, _, by simp [sVar, h, hk], q⟩
theorem w_varF {i : Nat} {s : Slot} {Q : Rv → En → Prop} (h : e[i]? = some (some s)) (hk : ¬ (s.k = 0 ∨ s.d.imm = true)) (hm : s.m = 0) (q : Q (s.d, 0) (e.set i (some ⟨s.d, 0, 0⟩))) : W (sVar i) Q e := ⟨_, _, by simp only [sVar, h, if_neg hk, if_pos hm], q⟩
theorem w_mv {i : Nat} {s : Slot} {Q : Rv → En → Prop} (h : e[i]? = some (some s)) (hm : s.m = 0) (q : Q (s.d, s.k) (e.set i none)) : W (sMv i) Q e := ⟨_, _, by simp [sMv, h, hm], q⟩
theorem w_pkE {s : SE} {Q : D → En → Prop} (h : W s (fun r e => Q r.1 e) e) : W (pkE s) Q e := let ⟨a, e', q, p⟩ := h; ⟨_, _, by simp [pkE, q], p⟩
theorem w_pkV {s : SP} {Q : Rv → En → Prop} (h : W s (fun d e => Q (d, 0) e) e) : W (pkV s) Q e := let ⟨a, e', q, p⟩ := h; ⟨_, _, by simp [pkV, q], p⟩
theorem w_fz {s : SE} {Q : Rv → En → Prop} (h : W s (fun r e => Q (r.1, 0) e) e) : W (sFz s) Q e := let ⟨a, e', q, p⟩ := h; ⟨_, _, by simp [sFz, q], p⟩
theorem w_op {g : D → D → Option D} {a b : SP} {Q : Rv → En → Prop} (h : W a (fun x e => W b (fun y e => ∃ c, g x y = some c ∧ c.scl = true ∧ Q (c, 0) e) e) e) : W (sOp false g a b) Q e :=
  let ⟨x, e1, h1, y, e2, h2, c, hg, hs, q⟩ := h; ⟨_, _, by simp [sOp, h1, h2, hg, hs], q⟩
theorem w_opT {g : D → D → Option D} {a b : SP} {Q : Rv → En → Prop} (h : W a (fun x e => x.scl = true ∧ W b (fun y e => ∃ c, g x y = some c ∧ c.scl = true ∧ Q (c, 0) e) e) e) : W (sOp true g a b) Q e :=
  let ⟨x, e1, h1, hx, y, e2, h2, c, hg, hs, q⟩ := h; ⟨_, _, by simp [sOp, h1, h2, hg, hs, hx], q⟩
theorem w_c1 {g : D → Option D} {a : SP} {Q : Rv → En → Prop} (h : W a (fun x e => ∃ c, g x = some c ∧ c.scl = true ∧ Q (c, 0) e) e) : W (sC1 g a) Q e :=
  let ⟨x, e1, h1, c, hg, hs, q⟩ := h; ⟨_, _, by simp [sC1, h1, hg, hs], q⟩
theorem w_sub {a b : SP} {Q : D → En → Prop} (h : W a (fun x e => W b (fun y e => ∃ c, gIx x y = some c ∧ Q c e) e) e) : W (sSub false a b) Q e :=
  let ⟨x, e1, h1, y, e2, h2, c, hg, q⟩ := h; ⟨_, _, by simp [sSub, h1, h2, hg], q⟩
theorem w_tv {s : SE} {Q : Bool → En → Prop} (h : W s (fun r e => ∃ b, r.1 = .bl b ∧ Q b e) e) : W (sTv s) Q e :=
  let ⟨(a, k), e', q, b, hb, p⟩ := h; ⟨b, e', by simp only at hb; subst hb; simp [sTv, q], p⟩
theorem w_and {a b : ST} {Q : Bool → En → Prop} (h : W a (fun c e => if c = true then W b Q e else Q false e) e) : W (sAnd a b) Q e := by
  obtain ⟨c, e1, h1, p⟩ := h
  cases c
  · exact ⟨false, e1, by simp [sAnd, h1], by simpa using p⟩
  · obtain ⟨c, e2, h2, q⟩ : W b Q e1 := by simpa using p
    exact ⟨c, e2, by simp [sAnd, h1, h2], q⟩
theorem w_or {a b : ST} {Q : Bool → En → Prop} (h : W a (fun c e => if c = true then Q true e else W b Q e) e) : W (sOr a b) Q e := by
  obtain ⟨c, e1, h1, p⟩ := h
  cases c
  · obtain ⟨c, e2, h2, q⟩ : W b Q e1 := by simpa using p
    exact ⟨c, e2, by simp [sOr, h1, h2], q⟩
  · exact ⟨true, e1, by simp [sOr, h1], by simpa using p⟩
theorem w_not {a : ST} {Q : Bool → En → Prop} (h : W a (fun c e => Q (!c) e) e) : W (sNot a) Q e := let ⟨c, e1, h1, p⟩ := h; ⟨_, _, by simp [sNot, h1], p⟩
theorem w_andV {a b : SE} {Q : Rv → En → Prop} (h : W a (fun r e => ∃ c, r.1 = .bl c ∧ if c = true then W b Q e else Q (.bl false, 0) e) e) : W (sAndV a b) Q e := by
  obtain ⟨⟨d, k⟩, e1, h1, c, hc, p⟩ := h
  simp only at hc
  subst hc
  cases c
  · exact ⟨(.bl false, 0), e1, by simp [sAndV, h1], by simpa using p⟩
  · obtain ⟨c, e2, h2, q⟩ : W b Q e1 := by simpa using p
    exact ⟨c, e2, by simp [sAndV, h1, h2], q⟩
theorem w_notV {a : SE} {Q : Rv → En → Prop} (h : W a (fun r e => ∃ c, r.1 = .bl c ∧ Q (.bl (!c), 0) e) e) : W (sNotV a) Q e := by
  obtain ⟨⟨d, k⟩, e1, h1, c, hc, p⟩ := h
  simp only at hc
  subst hc
  exact ⟨_, e1, by simp [sNotV, h1], p⟩
theorem w_ite {t : ST} {a b : SE} {Q : Rv → En → Prop} (h : W t (fun c e => if c = true then W a Q e else W b Q e) e) : W (sIte t a b) Q e := by
  obtain ⟨c, e1, h1, p⟩ := h
  cases c
  · obtain ⟨c, e2, h2, q⟩ : W b Q e1 := by simpa using p
    exact ⟨c, e2, by simp [sIte, h1, h2], q⟩
  · obtain ⟨c, e2, h2, q⟩ : W a Q e1 := by simpa using p
    exact ⟨c, e2, by simp [sIte, h1, h2], q⟩
theorem w_isN {neg : Bool} {a : SP} {Q : Rv → En → Prop} (h : W a (fun d e => Q (.bl (if neg = true then !d.isNon else d.isNon), 0) e) e) : W (sIsN neg a) Q e := let ⟨c, e1, h1, p⟩ := h; ⟨_, _, by simp [sIsN, h1], p⟩
theorem w_yes {Q : Bool → En → Prop} (q : Q true e) : W sYes Q e := ⟨_, _, rfl, q⟩
/-! #### sequences -/
theorem w_itm {p : SP} {Q : Bool × List D → En → Prop} (h : W p (fun d e => (∃ ds, d = .lst ds ∧ Q (false, ds) e) ∨ ∃ ds, d = .tup ds ∧ Q (true, ds) e) e) : W (sItm p) Q e := by
  obtain ⟨d, e1, h1, ⟨ds, rfl, q⟩ | ⟨ds, rfl, q⟩⟩ := h
  · exact ⟨_, _, by simp [sItm, h1], q⟩
  · exact ⟨_, _, by simp [sItm, h1], q⟩
theorem w_aNil {Q : List Rv → En → Prop} (q : Q [] e) : W saNil Q e := ⟨_, _, rfl, q⟩
theorem w_aCons {s : SE} {t : SA} {Q : List Rv → En → Prop} (h : W s (fun r e => W t (fun rs e => Q (r :: rs) e) e) e) : W (saCons s t) Q e :=
  let ⟨x, e1, h1, y, e2, h2, q⟩ := h; ⟨_, _, by simp [saCons, h1, h2], q⟩
theorem w_tup {t : SA} {Q : Rv → En → Prop} (h : W t (fun rs e => rs.length ≤ 1000 ∧ Q (.tup (rs.map (·.1)), 0) e) e) : W (sTup t) Q e :=
  let ⟨x, e1, h1, hl, q⟩ := h; ⟨_, _, by simp only [sTup, h1, if_pos hl], q⟩
theorem w_lst {k : Nat} {t : SA} {Q : Rv → En → Prop} (h : W t (fun rs e => (rs.length ≤ 1000 ∧ ownOk k rs = true) ∧ Q (.lst (rs.map (·.1)), k) e) e) : W (sLst k t) Q e :=
  let ⟨x, e1, h1, hl, q⟩ := h; ⟨_, _, by simp only [sLst, h1, if_pos hl], q⟩
theorem w_conv {t : Bool} {s : SL} {Q : Rv → En → Prop} (h : W s (fun r e => Q (mkSq t r.2) e) e) : W (sConv t s) Q e := let ⟨(a, ds), e1, h1, p⟩ := h; ⟨_, _, by simp only [sConv, h1], p⟩
theorem w_cat {a b : SL} {Q : Rv → En → Prop} (h : W a (fun x e => W b (fun y e => (x.1 = y.1 ∧ x.2.length + y.2.length ≤ 16777216) ∧ Q (mkSq x.1 (x.2 ++ y.2)) e) e) e) : W (sCat a b) Q e :=
  let ⟨(t, ds), e1, h1, (u, es), e2, h2, hl, q⟩ := h; ⟨_, _, by simp only [sCat, h1, h2, if_pos hl], q⟩
theorem w_rep {a : SL} {b : SP} {Q : Rv → En → Prop} (h : W a (fun x e => x.1 = false ∧ W b (fun y e => ∃ k, y = .int k ∧ (-(2 ^ 63) ≤ k ∧ k < 2 ^ 63 ∧ x.2.length * k.toNat ≤ 16777216) ∧ Q (.lst (List.replicate k.toNat x.2).flatten, 1) e) e) e) : W (sRep a b) Q e := by
  obtain ⟨⟨t, ds⟩, e1, h1, ht, y, e2, h2, k, rfl, hl, q⟩ := h
  simp only at ht
  subst ht
  exact ⟨_, _, by simp only [sRep, h1, h2, if_pos hl], q⟩
theorem w_rev {s : SL} {Q : Rv → En → Prop} (h : W s (fun r e => Q (mkSq r.1 r.2.reverse) e) e) : W (sRev s) Q e := let ⟨(a, ds), e1, h1, p⟩ := h; ⟨_, _, by simp only [sRev, h1], p⟩
theorem w_oNone {Q : Option Int → En → Prop} (q : Q none e) : W soNone Q e := ⟨_, _, rfl, q⟩
theorem w_oSome {s : SP} {Q : Option Int → En → Prop} (h : W s (fun d e => ∃ i, d = .int i ∧ Q (some i) e) e) : W (soSome s) Q e := by
  obtain ⟨d, e1, h1, i, rfl, q⟩ := h
  exact ⟨_, _, by simp only [soSome, h1], q⟩
theorem w_sl {s : SL} {lo hi : SO} {Q : Rv → En → Prop} (h : W s (fun x e => W lo (fun l e => W hi (fun u e => Q (mkSq x.1 (cutD x.2 l u)) e) e) e) e) : W (sSl s lo hi) Q e :=
  let ⟨(t, ds), e1, h1, l, e2, h2, u, e3, h3, q⟩ := h; ⟨_, _, by simp only [sSl, h1, h2, h3], q⟩
theorem w_it {s : SL} {Q : List D → En → Prop} (h : W s (fun r e => Q r.2 e) e) : W (sIt s) Q e := let ⟨(a, ds), e1, h1, p⟩ := h; ⟨_, _, by simp only [sIt, h1], p⟩
theorem w_rg1 {p : SP} {Q : List D → En → Prop} (h : W p (fun d e => ∃ n, d = .int n ∧ (-(2 ^ 62) ≤ n ∧ n ≤ 16777216) ∧ Q (rgD 0 n.toNat) e) e) : W (sRg1 p) Q e := by
  obtain ⟨d, e1, h1, i, rfl, hl, q⟩ := h
  exact ⟨_, _, by simp only [sRg1, h1, if_pos hl], q⟩
theorem w_lstRg {s : SI} {Q : Rv → En → Prop} (h : W s (fun ds e => Q (.lst ds, 1) e) e) : W (sLstRg s) Q e := let ⟨a, e', q, p⟩ := h; ⟨_, _, by simp [sLstRg, q], p⟩
theorem w_en {s : SL} {Q : List D → En → Prop} (h : W s (fun r e => r.1 = false ∧ Q (enumD 0 r.2) e) e) : W (sEn s) Q e := by
  obtain ⟨⟨t, ds⟩, e1, h1, ht, q⟩ := h
  simp only at ht
  subst ht
  exact ⟨_, _, by simp only [sEn, h1], q⟩
theorem w_zip {a b : SL} {Q : List D → En → Prop} (h : W a (fun x e => W b (fun y e => x.1 = y.1 ∧ Q (zipD x.2 y.2) e) e) e) : W (sZip a b) Q e :=
  let ⟨(t, ds), e1, h1, (u, es), e2, h2, hl, q⟩ := h; ⟨_, _, by simp only [sZip, h1, h2, if_pos hl], q⟩
theorem w_zip1 {a b : SL} {Q : List D → En → Prop} (h : W a (fun x e => x.1 = true ∧ W b (fun y e => y.1 = true ∧ Q (zipD x.2 y.2) e) e) e) : W (sZip1 a b) Q e := by
  obtain ⟨⟨t, ds⟩, e1, h1, ht, ⟨u, es⟩, e2, h2, hu, q⟩ := h
  simp only at ht hu
  subst ht hu
  exact ⟨_, _, by simp only [sZip1, h1, h2], q⟩
/-! #### statements -/
variable {N : En → Prop} {R : Rv → En → Prop} {B C : En → Prop}
theorem ws_skip (q : N e) : WS sSkip N R B C e := ⟨_, rfl, q⟩
theorem ws_bk (q : B e) : WS sBk N R B C e := ⟨_, rfl, q⟩
theorem ws_ct (q : C e) : WS sCt N R B C e := ⟨_, rfl, q⟩
theorem ws_seq {a b : SS} (h : WS a (fun e => WS b N R B C e) R B C e) : WS (sSeq a b) N R B C e := by
  obtain ⟨r, h1, p⟩ := h
  cases r with
  | nx e1 =>
    obtain ⟨r, h2, q⟩ := p
    exact ⟨r, by simp [sSeq, h1, h2], q⟩
  | ret r e1 => exact ⟨.ret r e1, by simp only [sSeq, h1], p⟩
  | bk e1 => exact ⟨.bk e1, by simp only [sSeq, h1], p⟩
  | ct e1 => exact ⟨.ct e1, by simp only [sSeq, h1], p⟩
theorem ws_if {c : ST} {a b : SS} (h : W c (fun t e => if t = true then WS a N R B C e else WS b N R B C e) e) : WS (sIf c a b) N R B C e := by
  obtain ⟨t, e1, h1, p⟩ := h
  cases t
  · obtain ⟨r, h2, q⟩ : WS b N R B C e1 := by simpa using p
    exact ⟨r, by simp [sIf, h1, h2], q⟩
  · obtain ⟨r, h2, q⟩ : WS a N R B C e1 := by simpa using p
    exact ⟨r, by simp [sIf, h1, h2], q⟩
theorem ws_ret {s : SE} (h : W s R e) : WS (sRet s) N R B C e := let ⟨a, e', q, p⟩ := h; ⟨.ret a e', by simp [sRet, q], p⟩
theorem ws_drop {s : SE} (h : W s (fun _ e => N e) e) : WS (sDrop s) N R B C e := let ⟨a, e', q, p⟩ := h; ⟨.nx e', by simp [sDrop, q], p⟩
theorem wg_set {i : Nat} {r : Rv} {Q : En → Prop} (hi : i < e.length) (hm : ∀ t, e[i]? = some (some t) → t.m = 0) (q : Q (e.set i (some ⟨r.1, r.2, 0⟩))) : WG (gSet i r) Q e := by
  refine ⟨_, ?_, q⟩
  unfold gSet
  rw [if_pos hi]
  split
  · rename_i t ht
    rw [if_pos (hm t ht)]
  · rfl
theorem ws_set {i : Nat} {s : SE} (h : W s (fun r e => i < e.length ∧ (∀ t, e[i]? = some (some t) → t.m = 0) ∧ N (e.set i (some ⟨r.1, r.2, 0⟩))) e) : WS (sSet i s) N R B C e := by
  obtain ⟨r, e1, h1, hi, hm, q⟩ := h
  refine ⟨.nx _, ?_, q⟩
  unfold sSet
  rw [h1]
  simp only
  rw [if_pos hi]
  split
  · rename_i t ht
    rw [if_pos (hm t ht)]
  · rfl
theorem ws_asg {s : SE} {g : SG} (h : W s (fun r e => WG (g r) N e) e) : WS (sAsg s g) N R B C e := let ⟨r, e1, h1, e2, h2, q⟩ := h; ⟨.nx _, by simp [sAsg, h1, h2], q⟩
theorem ws_par {i j : Nat} {s : SA} (h : W s (fun rs e => ∃ r1 r2, rs = [r1, r2] ∧ WG (gSet i r1) (fun e => WG (gSet j r2) N e) e) e) : WS (sPar i j s) N R B C e := by
  obtain ⟨rs, e1, h1, r1, r2, rfl, e2, h2, e3, h3, q⟩ := h
  exact ⟨.nx _, by simp [sPar, h1, h2, h3], q⟩
theorem wg_sNil {Q : En → Prop} (q : Q e) : WG (gsNil []) Q e := ⟨_, rfl, q⟩
theorem wg_sCons {g : SG} {gs : SGs} {d : D} {ds : List D} {Q : En → Prop} (h : WG (g (d, 0)) (fun e => WG (gs ds) Q e) e) : WG (gsCons g gs (d :: ds)) Q e := let ⟨e1, h1, e2, h2, q⟩ := h; ⟨_, by simp [gsCons, h1, h2], q⟩
theorem wg_tupS {n : Nat} {gs : SGs} {ds : List D} {k : Nat} {Q : En → Prop} (hn : ds.length = n) (h : WG (gs ds) Q e) : WG (gTupS n gs (.tup ds, k)) Q e := let ⟨e1, h1, q⟩ := h; ⟨_, by simp [gTupS, hn, h1], q⟩
def slotFree (e : En) (i : Nat) : Bool := match e[i]? with
  | some (some t) => decide (t.m = 0)
  | _ => true
theorem slotFree_of {i : Nat} (h : slotFree e i = true) (t : Slot) (ht : e[i]? = some (some t)) : t.m = 0 := by
  unfold slotFree at h
  rw [ht] at h
  simpa using h
theorem ws_setE {i : Nat} {s : SE} (h : W s (fun r e => (decide (i < e.length) = true ∧ slotFree e i = true) ∧ N (e.set i (some ⟨r.1, r.2, 0⟩))) e) : WS (sSet i s) N R B C e :=
  ws_set (h.mono fun r e' ⟨⟨h1, h2⟩, q⟩ => ⟨by simpa using h1, slotFree_of h2, q⟩)
theorem wg_setE {i : Nat} {r : Rv} {Q : En → Prop} (hi : decide (i < e.length) = true) (hm : slotFree e i = true) (q : Q (e.set i (some ⟨r.1, r.2, 0⟩))) : WG (gSet i r) Q e := wg_set (by simpa using hi) (slotFree_of hm) q
/-! #### loops -/
theorem ws_loop {g : SG} {b : SS} {cl : List Nat} (I : List D → En → Prop)
    (step : ∀ d ds e, I (d :: ds) e → WG (g (d, 0)) (fun e => WS b (fun e => WG (clr cl) (I ds) e) R (fun e => WG (clr cl) N e) (fun e => WG (clr cl) (I ds) e) e) e) (done : ∀ e, I [] e → N e) :
    ∀ (ds : List D) (e : En), I ds e → ∃ r, sLoop g b cl ds e = some r ∧ RsP N R B C r
  | [], e, h => ⟨.nx e, rfl, done e h⟩
  | d :: ds, e, h => by
    obtain ⟨e1, h1, r, h2, p⟩ := step d ds e h
    cases r with
    | nx e2 =>
      obtain ⟨e3, h3, q⟩ := p
      obtain ⟨r, h4, q⟩ := ws_loop I step done ds e3 q
      exact ⟨r, by simp only [sLoop, h1, h2, h3, h4], q⟩
    | ct e2 =>
      obtain ⟨e3, h3, q⟩ := p
      obtain ⟨r, h4, q⟩ := ws_loop I step done ds e3 q
      exact ⟨r, by simp only [sLoop, h1, h2, h3, h4], q⟩
    | bk e2 =>
      obtain ⟨e3, h3, q⟩ := p
      exact ⟨.nx e3, by simp [sLoop, h1, h2, h3], q⟩
    | ret r e2 => exact ⟨.ret r e2, by simp only [sLoop, h1, h2], p⟩
theorem ws_for {s : SI} {g : SG} {b : SS} {cl : List Nat} (I : List D → En → Prop) (h : W s I e)
    (step : ∀ d ds e, I (d :: ds) e → WG (g (d, 0)) (fun e => WS b (fun e => WG (clr cl) (I ds) e) R (fun e => WG (clr cl) N e) (fun e => WG (clr cl) (I ds) e) e) e) (done : ∀ e, I [] e → N e) : WS (sFor s g b cl) N R B C e := by
  obtain ⟨ds, e1, h1, q⟩ := h
  obtain ⟨r, h2, q⟩ := ws_loop I step done ds e1 q
  exact ⟨r, by simp only [sFor, h1, h2], q⟩
theorem w_cloop {j : Nat} {g : SG} {c : ST} {el : SE} {vs : List Nat} (I : List D → List D → En → Prop)
    (step : ∀ d ds acc e, I (d :: ds) acc e → WG (g (d, 0)) (fun e => W c (fun t e => if t = true then W el (fun r e => (freeAll vs e = true ∧ fitsJ j r = true) ∧ I ds (acc ++ [r.1]) (wipeE e vs)) e else freeAll vs e = true ∧ I ds acc (wipeE e vs)) e) e) :
    ∀ (ds acc : List D) (e : En), I ds acc e → ∃ acc' e', sCLoop j g c el vs ds acc e = some (acc', e') ∧ I [] acc' e'
  | [], acc, e, h => ⟨acc, e, rfl, h⟩
  | d :: ds, acc, e, h => by
    obtain ⟨e1, h1, t, e2, h2, p⟩ := step d ds acc e h
    cases t
    · obtain ⟨hf, q⟩ : freeAll vs e2 = true ∧ I ds acc (wipeE e2 vs) := by simpa using p
      obtain ⟨a', e', h4, q⟩ := w_cloop I step ds acc _ q
      exact ⟨a', e', by simp only [sCLoop, h1, h2, if_pos hf, h4], q⟩
    · obtain ⟨r, e3, h3, hf, q⟩ : W el (fun r e => (freeAll vs e = true ∧ fitsJ j r = true) ∧ I ds (acc ++ [r.1]) (wipeE e vs)) e2 := by simpa using p
      obtain ⟨a', e', h4, q⟩ := w_cloop I step ds _ _ q
      exact ⟨a', e', by simp only [sCLoop, h1, h2, h3, if_pos hf, h4], q⟩
theorem w_comp {j : Nat} {it : SI} {g : SG} {c : ST} {el : SE} {vs : List Nat} {Q : Rv → En → Prop} (h : W it (fun ds e1 => ∃ I : List D → List D → En → Prop, I ds [] (wipeE e1 vs) ∧
    (∀ d ds acc e, I (d :: ds) acc e → WG (g (d, 0)) (fun e => W c (fun t e => if t = true then W el (fun r e => (freeAll vs e = true ∧ fitsJ j r = true) ∧ I ds (acc ++ [r.1]) (wipeE e vs)) e else freeAll vs e = true ∧ I ds acc (wipeE e vs)) e) e) ∧
    ∀ acc e2, I [] acc e2 → Q (.lst acc, j + 1) (restE e1 e2 vs)) e) : W (sComp j it g c el vs) Q e := by
  obtain ⟨ds, e1, h1, I, i0, step, fin⟩ := h
  obtain ⟨acc, e2, h2, q⟩ := w_cloop I step ds [] _ i0
  exact ⟨_, _, by simp only [sComp, h1, h2], fin acc e2 q⟩
theorem sWhile_of {c : ST} {b : SS} {cl : List Nat} {n : Nat} {r : Rs} (h : sWh c b cl n e = some r) : sWhile c b cl e = some r := by
  have hx : ∃ r n, sWh c b cl n e = some r := ⟨r, n, h⟩
  unfold sWhile
  rw [dif_pos hx]
  obtain ⟨m, hm⟩ := Classical.choose_spec hx
  rw [sWh_det hm h]
theorem ws_wh {c : ST} {b : SS} {cl : List Nat} (I : Nat → En → Prop)
    (step : ∀ m e, I m e → W c (fun t e => if t = true then WS b (fun e => WG (clr cl) (fun e => ∃ m', m' < m ∧ I m' e) e) R (fun e => WG (clr cl) N e) (fun e => WG (clr cl) (fun e => ∃ m', m' < m ∧ I m' e) e) e else N e) e) :
    ∀ (m : Nat) (e : En), I m e → ∃ n r, sWh c b cl n e = some r ∧ RsP N R B C r := by
  intro m
  induction m using Nat.strongRecOn with
  | _ m ih =>
    intro e h
    obtain ⟨t, e1, h1, p⟩ := step m e h
    cases t
    · exact ⟨1, .nx e1, by simp only [sWh, h1], show N e1 by simpa using p⟩
    · obtain ⟨r, h2, p⟩ : WS b (fun e => WG (clr cl) (fun e => ∃ m', m' < m ∧ I m' e) e) R (fun e => WG (clr cl) N e) (fun e => WG (clr cl) (fun e => ∃ m', m' < m ∧ I m' e) e) e1 := by simpa using p
      cases r with
      | nx e2 =>
        obtain ⟨e3, h3, m', hm, q⟩ := p
        obtain ⟨n, r, h4, q⟩ := ih m' hm e3 q
        exact ⟨n + 1, r, by simp only [sWh, h1, h2, h3, h4], q⟩
      | ct e2 =>
        obtain ⟨e3, h3, m', hm, q⟩ := p
        obtain ⟨n, r, h4, q⟩ := ih m' hm e3 q
        exact ⟨n + 1, r, by simp only [sWh, h1, h2, h3, h4], q⟩
      | bk e2 =>
        obtain ⟨e3, h3, q⟩ := p
        exact ⟨1, .nx e3, by simp [sWh, h1, h2, h3], q⟩
      | ret r e2 => exact ⟨1, .ret r e2, by simp only [sWh, h1, h2], p⟩
theorem ws_while {c : ST} {b : SS} {cl : List Nat} (I : Nat → En → Prop) (m : Nat) (h : I m e)
    (step : ∀ m e, I m e → W c (fun t e => if t = true then WS b (fun e => WG (clr cl) (fun e => ∃ m', m' < m ∧ I m' e) e) R (fun e => WG (clr cl) N e) (fun e => WG (clr cl) (fun e => ∃ m', m' < m ∧ I m' e) e) e else N e) e) : WS (sWhile c b cl) N R B C e := by
  obtain ⟨n, r, h1, q⟩ := ws_wh I step m e h
  exact ⟨r, sWhile_of h1, q⟩
/-! #### numbers -/
theorem gMul_l {i j : Int} (h : decide (-(2 ^ 64) < i ∧ i < 2 ^ 64) = true) : gMul (.int i) (.int j) = some (.int (i * j)) := by
  show (if _ then _ else _ : Option Int).map D.int = _
  rw [if_pos (.inl (of_decide_eq_true h))]; rfl
theorem gMul_r {i j : Int} (h : decide (-(2 ^ 64) < j ∧ j < 2 ^ 64) = true) : gMul (.int i) (.int j) = some (.int (i * j)) := by
  show (if _ then _ else _ : Option Int).map D.int = _
  rw [if_pos (.inr (of_decide_eq_true h))]; rfl
theorem gMul_mod {i j k : Int} (h : decide (0 < k ∧ k ≤ 2 ^ 64) = true) : gMul (.int (i % k)) (.int j) = some (.int (i % k * j)) := by
  have h := of_decide_eq_true h
  exact gMul_l (decide_eq_true ⟨by have := Int.emod_nonneg i (b := k) (by omega); omega, by have := Int.emod_lt_of_pos i h.1; omega⟩)
theorem gMod_k {i j : Int} (h : decide (0 < j) = true) : gMod (.int i) (.int j) = some (.int (i % j)) := by
  show (if _ then _ else _ : Option Int).map D.int = _
  rw [if_pos (of_decide_eq_true h)]; rfl
theorem gDiv_k {i j : Int} (h : decide (0 < j ∧ j < 1073741824) = true) : gDiv (.int i) (.int j) = some (.int (i / j)) := by
  show (if _ then _ else _ : Option Int).map D.int = _
  rw [if_pos (of_decide_eq_true h)]; rfl
/-! #### calls -/
theorem w_gNil {Q : List Ag → En → Prop} (q : Q [] e) : W agNil Q e := ⟨_, _, rfl, q⟩
theorem w_gVa {s : SP} {t : SAg} {Q : List Ag → En → Prop} (h : W s (fun d e => W t (fun as e => Q (.va d :: as) e) e) e) : W (agVa s t) Q e :=
  let ⟨x, e1, h1, y, e2, h2, q⟩ := h; ⟨_, _, by simp [agVa, h1, h2], q⟩
theorem w_gBo {i : Nat} {t : SAg} {Q : List Ag → En → Prop} (hi : ∃ s, e[i]? = some (some s)) (h : W t (fun as e => Q (.bo i :: as) e) e) : W (agBo i t) Q e := by
  obtain ⟨s, hs⟩ := hi
  obtain ⟨y, e2, h2, q⟩ := h
  exact ⟨_, _, by simp [agBo, hs, h2], q⟩
theorem w_gKw {g : List Ag → List Ag → List Ag} {s t : SAg} {Q : List Ag → En → Prop} (h : W s (fun as e => W t (fun bs e => Q (g as bs) e) e) e) : W (agKw g s t) Q e :=
  let ⟨x, e1, h1, y, e2, h2, q⟩ := h; ⟨_, _, by simp [agKw, h1, h2], q⟩
theorem w_call {n p : Nat} {b : SS} {s : SAg} {Q : Rv → En → Prop} (h : W s (fun ags e1 => ∃ ce, agSl e1 ags = some ce ∧ (ags.length = p ∧ (agI ags).Nodup) ∧
    WS b (fun e2 => Q (.non, 0) (backE ags e2 e1)) (fun r e2 => Q r (backE ags e2 e1)) (fun _ => False) (fun _ => False) (ce ++ List.replicate n none)) e) : W (sCall n p b s) Q e := by
  obtain ⟨ags, e1, h1, ce, h2, hc, r, h3, q⟩ := h
  cases r with
  | nx e2 => exact ⟨_, _, by simp only [sCall, h1, h2, if_pos hc, h3], q⟩
  | ret r e2 => exact ⟨_, _, by simp only [sCall, h1, h2, if_pos hc, h3], q⟩
  | bk => cases q
  | ct => cases q
/-! #### places -/
theorem w_plVar {i : Nat} {Q : Option D → En → Prop} (hi : ∃ s, e[i]? = some (some s)) (q : Q none e) : W (plVar i) Q e := by
  obtain ⟨s, hs⟩ := hi
  exact ⟨_, _, by simp [plVar, hs], q⟩
theorem w_plSub {i : Nat} {b : SP} {Q : Option D → En → Prop} (hi : ∃ s, e[i]? = some (some s)) (h : W b (fun key e => ∃ s d, e[i]? = some (some s) ∧ subP s.d (some key) = some d ∧ ¬ (s.m = 2 ∨ s.k = 0) ∧ Q (some key) e) e) : W (plSub i b) Q e := by
  obtain ⟨s0, hs0⟩ := hi
  obtain ⟨key, e1, h1, s, d, hs, hd, hm, q⟩ := h
  exact ⟨_, _, by simp only [plSub, hs0, h1, hs, hd, if_neg hm], q⟩
theorem ws_app {i : Nat} {pl : SPl} {s : SE} (h : W pl (fun path e1 => (∃ z, atList i path e1 = some z) ∧ W s (fun r e2 => ∃ sl ds j, atList i path e2 = some (sl, ds, j) ∧ (ds.length < 16777216 ∧ fitsJ j r = true) ∧ N (e2.set i (some { sl with d := putP sl.d path (.lst (ds ++ [r.1])) }))) e1) e) : WS (sApp i pl s) N R B C e := by
  obtain ⟨path, e1, h1, ⟨z, hz⟩, r, e2, h2, sl, ds, j, h3, hc, q⟩ := h
  exact ⟨.nx _, by simp only [sApp, h1, hz, h2, h3, if_pos hc], q⟩
theorem w_pop {i : Nat} {pl : SPl} {Q : Rv → En → Prop} (h : W pl (fun path e1 => ∃ sl ds j d, atList i path e1 = some (sl, ds, j) ∧ ds[ds.length - 1]? = some d ∧ Q (d, j) (e1.set i (some { sl with d := putP sl.d path (.lst (ds.eraseIdx (ds.length - 1))) }))) e) : W (sPop i pl) Q e := by
  obtain ⟨path, e1, h1, sl, ds, j, d, h2, h3, q⟩ := h
  exact ⟨_, _, by simp only [sPop, h1, h2, h3], q⟩
theorem w_popAt {i : Nat} {pl : SPl} {s : SP} {Q : Rv → En → Prop} (h : W pl (fun path e1 => (∃ z, atList i path e1 = some z) ∧ W s (fun x e2 => ∃ n sl ds j m d, x = .int n ∧ atList i path e2 = some (sl, ds, j) ∧ (-(2 ^ 63) ≤ n ∧ n < 2 ^ 63) ∧ ixN ds.length n = some m ∧ ds[m]? = some d ∧ Q (d, j) (e2.set i (some { sl with d := putP sl.d path (.lst (ds.eraseIdx m)) }))) e1) e) : W (sPopAt i pl s) Q e := by
  obtain ⟨path, e1, h1, ⟨z, hz⟩, x, e2, h2, n, sl, ds, j, m, d, rfl, h3, hb, h4, h5, q⟩ := h
  exact ⟨_, _, by simp only [sPopAt, h1, hz, h2, h3, if_pos hb, h4, h5], q⟩
theorem wg_putT {i : Nat} {pl : SPl} {s : SP} {r : Rv} {Q : En → Prop} (h : W pl (fun path e1 => W s (fun key e2 => ∃ sl d j d', atPl i path e2 = some (sl, d, j) ∧ fitsJ j r = true ∧ gPut j d key r.1 = some d' ∧ Q (e2.set i (some { sl with d := putP sl.d path d' }))) e1) e) : WG (gPutT i pl s r) Q e := by
  obtain ⟨path, e1, h1, key, e2, h2, sl, d, j, d', h3, h4, h5, q⟩ := h
  exact ⟨_, by simp only [gPutT, h1, h2, h3, if_pos h4, h5], q⟩
end
end Ev
set_option Elab.async false
set_option linter.all false
set_option autoImplicit false
set_option maxRecDepth 100000
set_option maxHeartbeats 4000000
/-! Ev35: a slice of the script. -/
namespace Ev
open PySem PySem.Spec L2
section
variable {X : Cx} {a b : Expr} {es : List Expr} {ma mb : Bool} {pos : Pos}
def sScr (s : SP) (lo hi : SO) : SE := fun env => match s env with
  | some (.scr ns, e1) => match lo e1 with
    | some (l, e2) => match hi e2 with
      | some (h, e3) => some (mkSq false (cutD (ns.map D.int) l h), e3)
      | none => none
    | none => none
  | _ => none
theorem scr_reps {K : PySem.W.Frag} {H : Hp} {F : Addr → Prop} : ∀ ns : List Int, RepDs K H F (ns.map V.int) (ns.map D.int)
  | [] => .nil
  | n :: r => .cons (.int n) (scr_reps r)
theorem e_scr {s : SP} {lo hi : Option Expr} {sl sh : SO} {p2 : Pos} (ha : PE X a (tF X.K ma s)) (hl : PO X lo (tO X.K sl)) (hh : PO X hi (tO X.K sh)) : PE X (.Subscript a (.Slice lo hi none p2) pos) (tE X.K ma (sScr s sl sh)) := by
  have hr : SlR X (fun x l h H Q => rSlL X.K x l h H Q) := fun pins s σ H x v vl vu lo hi sl Q I rx hs pl pu q => sl_list pins s σ H x v vl vu lo hi sl Q I rx hs pl pu q
  refine (pe_slice hr ha hl hh).wk fun σ H Q ⟨env, r, env', As, L, e, hd, q⟩ => ?_
  unfold sScr at e
  split at e
  · rename_i ns e1 h1
    split at e
    · rename_i l e2 h2
      split at e
      · rename_i h e3 h3
        cases e
        refine ⟨env, .scr ns, e1, As, L, h1, hd, fun v H1 As1 P1 n1 r1 => ⟨e1, l, e2, As1, L, h2, P1.hd0, fun H2 As2 P2 n2 => ⟨e2, h, env', As2, L, h3, P2.hd0, fun H3 As3 P3 n3 => ?_⟩⟩⟩
        have P23 := P2.seq P3
        have nn : Nm ma H H3 := fun z a o w => n3 rfl a o (n2 rfl a o (n1 z a o w))
        have r3 : RepD X.K H3 (Fb As3 L) v (.scr ns) := by
          have := P23.keepD r1
          rwa [plusL_nil] at this
        have PP := P1.seq P23
        cases r3 with
        | scr hR => exact ⟨_, _, rfl, hR.sq, sq_end (t := false) q PP nn (cut_rep (scr_reps ns) l h)⟩
      · cases e
    · cases e
  · cases e
variable {e : En}
theorem w_scr {p : SP} {lo hi : SO} {Q : Rv → En → Prop} (h : W p (fun d e => ∃ ns, d = .scr ns ∧ W lo (fun l e => W hi (fun u e => Q (mkSq false (cutD (ns.map D.int) l u)) e) e) e) e) : W (sScr p lo hi) Q e := by
  obtain ⟨d, e1, h1, ns, rfl, l, e2, h2, u, e3, h3, q⟩ := h
  exact ⟨_, _, by simp only [sScr, h1, h2, h3], q⟩
end
end Ev
set_option Elab.async false
set_option linter.all false
set_option autoImplicit false
set_option maxRecDepth 100000
set_option maxHeartbeats 4000000
/-! K88: the defs, their meanings, their walks (printed by gen.py). -/
namespace K88
open PySem PySem.Spec L2 Ev
def top (i : Nat) : Stmt := PySem.Challenge.pw_webmaps_k88_whole_main_order_levels.main.body.getD i (.Pass ⟨0, 0, 0, 0⟩)
abbrev st__law_deck : Stmt := top 26
theorem sc__law_deck : FnScope ["script", "deck", "cell", "own"] ["script"] (defScope st__law_deck) := ⟨rfl, rfl, rfl, by decide +kernel, rfl, by decide +kernel, by decide +kernel⟩
abbrev st__law_draw : Stmt := top 27
theorem sc__law_draw : FnScope ["deck", "many", "great", "number"] ["deck", "many"] (defScope st__law_draw) := ⟨rfl, rfl, rfl, by decide +kernel, rfl, by decide +kernel, by decide +kernel⟩
abbrev st__law_mixed : Stmt := top 30
theorem sc__law_mixed : FnScope ["deck", "many", "left", "found"] ["deck", "many"] (defScope st__law_mixed) := ⟨rfl, rfl, rfl, by decide +kernel, rfl, by decide +kernel, by decide +kernel⟩
abbrev st__law_pick : Stmt := top 28
theorem sc__law_pick : FnScope ["deck", "row"] ["deck", "row"] (defScope st__law_pick) := ⟨rfl, rfl, rfl, by decide +kernel, rfl, by decide +kernel, by decide +kernel⟩
abbrev st__law_ordered : Stmt := top 35
theorem sc__law_ordered : FnScope ["deck", "most", "n", "places", "share", "ahead", "p", "own", "q", "pairs", "pair", "roads", "led", "road"] ["deck", "most"] (defScope st__law_ordered) := ⟨rfl, rfl, rfl, by decide +kernel, rfl, by decide +kernel, by decide +kernel⟩
abbrev st__law_led : Stmt := top 36
theorem sc__law_led : FnScope ["web", "order", "road", "way"] ["web", "order"] (defScope st__law_led) := ⟨rfl, rfl, rfl, by decide +kernel, rfl, by decide +kernel, by decide +kernel⟩
abbrev st__law_levels : Stmt := top 38
theorem sc__law_levels : FnScope ["web", "order", "led", "levels", "turn", "i", "j"] ["web", "order"] (defScope st__law_levels) := ⟨rfl, rfl, rfl, by decide +kernel, rfl, by decide +kernel, by decide +kernel⟩
abbrev st_led_arcs : Stmt := top 7
theorem sc_led_arcs : FnScope ["web", "order", "found", "first", "second", "way"] ["web", "order"] (defScope st_led_arcs) := ⟨rfl, rfl, rfl, by decide +kernel, rfl, by decide +kernel, by decide +kernel⟩
abbrev st_best_chains : Stmt := top 9
theorem sc_best_chains : FnScope ["web", "order", "house", "led", "found", "turn", "first", "second"] ["web", "order"] (defScope st_best_chains) := ⟨rfl, rfl, rfl, by decide +kernel, rfl, by decide +kernel, by decide +kernel⟩
abbrev st_longest_chain : Stmt := top 11
theorem sc_longest_chain : FnScope ["web", "order", "chains", "chain", "most"] ["web", "order"] (defScope st_longest_chain) := ⟨rfl, rfl, rfl, by decide +kernel, rfl, by decide +kernel, by decide +kernel⟩
abbrev st__law_any : Stmt := top 29
theorem sc__law_any : FnScope ["deck", "deep", "sort", "turn", "items"] ["deck", "deep"] (defScope st__law_any) := ⟨rfl, rfl, rfl, by decide +kernel, rfl, by decide +kernel, by decide +kernel⟩
abbrev st__law_bent_tuple : Stmt := top 34
theorem sc__law_bent_tuple : FnScope ["deck", "row", "high", "p", "way", "item"] ["deck", "row", "high"] (defScope st__law_bent_tuple) := ⟨rfl, rfl, rfl, by decide +kernel, rfl, by decide +kernel, by decide +kernel⟩
abbrev st__law_is_house : Stmt := top 32
theorem sc__law_is_house : FnScope ["value", "n"] ["value", "n"] (defScope st__law_is_house) := ⟨rfl, rfl, rfl, by decide +kernel, rfl, by decide +kernel, by decide +kernel⟩
abbrev st__law_closed_fault : Stmt := top 37
theorem sc__law_closed_fault : FnScope ["web", "value", "way", "led", "i", "k", "to", "j", "lost"] ["web", "value"] (defScope st__law_closed_fault) := ⟨rfl, rfl, rfl, by decide +kernel, rfl, by decide +kernel, by decide +kernel⟩
abbrev st_is_number : Stmt := top 1
theorem sc_is_number : FnScope ["value"] ["value"] (defScope st_is_number) := ⟨rfl, rfl, rfl, by decide +kernel, rfl, by decide +kernel, by decide +kernel⟩
abbrev st_is_within : Stmt := top 2
theorem sc_is_within : FnScope ["value", "least", "most"] ["value", "least", "most"] (defScope st_is_within) := ⟨rfl, rfl, rfl, by decide +kernel, rfl, by decide +kernel, by decide +kernel⟩
abbrev st_is_order_form : Stmt := top 6
theorem sc_is_order_form : FnScope ["web", "value", "item"] ["web", "value"] (defScope st_is_order_form) := ⟨rfl, rfl, rfl, by decide +kernel, rfl, by decide +kernel, by decide +kernel⟩
abbrev st_closed_error : Stmt := top 8
theorem sc_closed_error : FnScope ["web", "value", "led", "arcs", "first", "second", "third", "last"] ["web", "value"] (defScope st_closed_error) := ⟨rfl, rfl, rfl, by decide +kernel, rfl, by decide +kernel, by decide +kernel⟩
abbrev st__law_near : Stmt := top 31
theorem sc__law_near : FnScope ["web", "house", "found", "i", "j"] ["web"] (defScope st__law_near) := ⟨rfl, rfl, rfl, by decide +kernel, rfl, by decide +kernel, by decide +kernel⟩
abbrev st__law_greatest_full : Stmt := top 33
theorem sc__law_greatest_full : FnScope ["web", "near", "some", "house", "own", "other"] ["web"] (defScope st__law_greatest_full) := ⟨rfl, rfl, rfl, by decide +kernel, rfl, by decide +kernel, by decide +kernel⟩
abbrev st_is_plain : Stmt := top 4
theorem sc_is_plain : FnScope ["web", "one", "other"] ["web"] (defScope st_is_plain) := ⟨rfl, rfl, rfl, by decide +kernel, rfl, by decide +kernel, by decide +kernel⟩
abbrev st_neighbour_lists : Stmt := top 3
theorem sc_neighbour_lists : FnScope ["web", "house", "found", "one", "other", "near"] ["web"] (defScope st_neighbour_lists) := ⟨rfl, rfl, rfl, by decide +kernel, rfl, by decide +kernel, by decide +kernel⟩
abbrev st_full_size : Stmt := top 22
theorem sc_full_size : FnScope ["web", "near", "best", "waiting", "lot", "left", "place", "house", "other"] ["web"] (defScope st_full_size) := ⟨rfl, rfl, rfl, by decide +kernel, rfl, by decide +kernel, by decide +kernel⟩
abbrev st_order_levels : Stmt := top 10
theorem sc_order_levels : FnScope ["web", "order", "chain"] ["web", "order"] (defScope st_order_levels) := ⟨rfl, rfl, rfl, by decide +kernel, rfl, by decide +kernel, by decide +kernel⟩
abbrev st_kept_options : Stmt := top 14
theorem sc_kept_options : FnScope ["options", "near", "beside", "found", "waiting", "house", "reach", "place", "own", "other", "left"] ["options", "near", "beside"] (defScope st_kept_options) := ⟨rfl, rfl, rfl, by decide +kernel, rfl, by decide +kernel, by decide +kernel⟩
abbrev st_bits_of : Stmt := top 13
theorem sc_bits_of : FnScope ["numbers", "number"] ["numbers"] (defScope st_bits_of) := ⟨rfl, rfl, rfl, by decide +kernel, rfl, by decide +kernel, by decide +kernel⟩
abbrev st_found_map : Stmt := top 15
theorem sc_found_map : FnScope ["one", "other", "own", "near", "beside", "waiting", "options", "house", "open_ones", "place"] ["one", "other"] (defScope st_found_map) := ⟨rfl, rfl, rfl, by decide +kernel, rfl, by decide +kernel, by decide +kernel⟩
abbrev st_any_map : Stmt := top 20
theorem sc_any_map : FnScope ["one", "other"] ["one", "other"] (defScope st_any_map) := ⟨rfl, rfl, rfl, by decide +kernel, rfl, by decide +kernel, by decide +kernel⟩
abbrev st_full_web : Stmt := top 24
theorem sc_full_web : FnScope ["n", "found", "house", "other"] ["n"] (defScope st_full_web) := ⟨rfl, rfl, rfl, by decide +kernel, rfl, by decide +kernel, by decide +kernel⟩
abbrev st_law : Stmt := top 39
theorem sc_law : FnScope ["script", "deck", "turn", "web", "order", "way", "kept", "due", "road", "drawn", "again", "values", "k", "value", "fault", "shown", "error", "i", "j", "chain", "led", "house", "pair", "level", "most"] ["script"] (defScope st_law) := ⟨rfl, rfl, rfl, by decide +kernel, rfl, by decide +kernel, by decide +kernel⟩
noncomputable section
def sem__law_deck : SS := (sSeq (sSet 1 (sDisp 2 (sdCons (pkE (sC (.str "great"))) (sLst 1 saNil) (sdCons (pkE (sC (.str "mixed"))) (sOp false gAdd (pkE (sC (.int 1625988))) (pkE (sC1 gLen1 (pkE (sScr (pkE (sVar 0)) soNone (soSome (pkE (sC (.int 63))))))))) (sdCons (pkE (sC (.str "turns"))) (sC (.int 0)) sdNil)))))
    (sSeq (sFor (sIt (sItm (pkE (sScr (pkE (sVar 0)) soNone (soSome (pkE (sC (.int 63)))))))) (gSet 2) (sSeq (sSet 3 (sOp false gAdd (pkE (sOp false gMul (pkE (sC (.int 2))) (pkE (sC1 gAbs (sPk 2))))) (pkE (sC1 gInt (pkE (sOp false gLt (sPk 2) (pkE (sC (.int 0)))))))))
    (sSeq (sIf (sTv (sOp false gGe (sPk 3) (pkE (sOp false gPow (pkE (sC (.int 10))) (pkE (sC (.int 16))))))) (sApp 1 (plSub 1 (pkE (sC (.str "great")))) (sVar 3)) sSkip)
    (sAsg (sOp false gMod (pkE (sC1 gInt (pkE (sOp false gAdd (pkE (sOp false gAdd (pkE (sOp false gMul (sSub false (sPk 1) (pkE (sC (.str "mixed")))) (pkE (sC (.int 69621))))) (sPk 3))) (pkE (sC (.int 29))))))) (pkE (sC (.int 4294967291)))) (gPutT 1 (plVar 1) (pkE (sC (.str "mixed"))))))) [2, 3])
    (sRet (sMv 1))))
def sem__law_draw : SS := (sSeq (sIf (sTv (sOp false gLt (sPk 1) (pkE (sC (.int 2))))) (sRet (sC (.int 0))) sSkip)
    (sSeq (sIf (sTv (sOp false gNeX (sSub false (sPk 0) (pkE (sC (.str "great")))) (pkE (sLst 1 saNil)))) (sSeq (sSet 2 (sFz (sPop 0 (plSub 0 (pkE (sC (.str "great")))))))
    (sSeq (sIf (sTv (sOp false gGe (sPk 2) (sPk 1))) (sApp 0 (plSub 0 (pkE (sC (.str "great")))) (sOp false gDiv (sPk 2) (sPk 1))) sSkip)
    (sRet (sOp false gMod (pkE (sC1 gInt (sPk 2))) (sPk 1))))) sSkip)
    (sSeq (sAsg (sOp false gAdd (sSub false (sPk 0) (pkE (sC (.str "turns")))) (pkE (sC (.int 1)))) (gPutT 0 (plVar 0) (pkE (sC (.str "turns")))))
    (sSeq (sSet 3 (sOp false gMod (pkE (sC1 gInt (pkE (sOp false gAdd (sSub false (sPk 0) (pkE (sC (.str "mixed")))) (pkE (sOp false gMul (pkE (sC (.int 2654435761))) (sSub false (sPk 0) (pkE (sC (.str "turns")))))))))) (pkE (sC (.int 4294967279)))))
    (sSeq (sSet 3 (sOp false gMod (pkE (sC1 gInt (pkE (sOp false gAdd (pkE (sOp false gAdd (pkE (sOp false gMul (sPk 3) (sPk 3))) (pkE (sOp false gMul (pkE (sC (.int 40692))) (sSub false (sPk 0) (pkE (sC (.str "turns")))))))) (pkE (sC (.int 23))))))) (pkE (sC (.int 4294967231)))))
    (sSeq (sSet 3 (sOp false gMod (pkE (sC1 gInt (pkE (sOp false gAdd (pkE (sOp false gMul (sPk 3) (sPk 3))) (pkE (sOp false gMul (sSub false (sPk 0) (pkE (sC (.str "mixed")))) (pkE (sC (.int 11))))))))) (pkE (sC (.int 4294967197)))))
    (sRet (sOp false gMod (pkE (sC1 gInt (pkE (sOp false gDiv (sPk 3) (pkE (sC (.int 64))))))) (sPk 1)))))))))
def sem__law_mixed : SS := (sSeq (sPar 2 3 (saCons (sLstRg (sRg1 (sPk 1))) (saCons (sLst 1 saNil) saNil)))
    (sSeq (sWhile (sTv (sOp false gNeX (sPk 2) (pkE (sLst 1 saNil)))) (sApp 3 (plVar 3) (sPopAt 2 (plVar 2) (pkE (sCall 2 2 sem__law_draw (agBo 0 (agVa (pkE (sC1 gLen1 (sPk 2))) agNil)))))) [])
    (sRet (sMv 3))))
def sem__law_pick : SS := (sRet (pkV (sSub false (pkE (sVar 1)) (pkE (sCall 2 2 sem__law_draw (agBo 0 (agVa (pkE (sC1 gLen1 (sPk 1))) agNil)))))))
def sem__law_ordered : SS := (sSeq (sSet 2 (sFz (sCall 2 2 sem__law_draw (agBo 0 (agVa (pkE (sOp false gAdd (sPk 1) (pkE (sC (.int 1))))) agNil)))))
    (sSeq (sParN [3, 4] (saCons (sFz (sCall 2 2 sem__law_mixed (agBo 0 (agVa (pkE (sVar 2)) agNil)))) (saCons (sFz (sCall 0 2 sem__law_pick (agBo 0 (agVa (pkE (sLst 1 (saCons (sC (.int 1)) (saCons (sC (.int 2)) (saCons (sC (.int 2)) (saCons (sC (.int 3)) (saCons (sC (.int 4)) saNil))))))) agNil)))) saNil)))
    (sSeq (sSet 5 (sDNew false 2))
    (sSeq (sFor (sRg1 (sPk 2)) (gSet 6) (sSeq (sSet 7 (sDNew false 1))
    (sSeq (sFor (sRg1 (sPk 6)) (gSet 8) (sIf (sOr (sTv (sOp false gEqX (pkE (sCall 2 2 sem__law_draw (agBo 0 (agVa (pkE (sVar 4)) agNil)))) (pkE (sC (.int 0))))) (sTv (sOp false (gInX false) (sPk 8) (sPk 7)))) (sSeq (sAsg (sC (.bl true)) (gPutT 7 (plVar 7) (sPk 8)))
    (sUpd 7 5 (some 8))) sSkip) [8])
    (sAsg (sMv 7) (gPutT 5 (plVar 5) (sPk 6))))) [7])
    (sSeq (sSet 9 (sLst 1 saNil))
    (sSeq (sFor (sRg1 (sPk 2)) (gSet 6) (sExt 9 (plVar 9) (sItm (pkE (sCompK 0 5 (some 6) (gSet 8) sYes (sTup (saCons (pkV (sSub false (pkE (sVar 3)) (sPk 8))) (saCons (pkV (sSub false (pkE (sVar 3)) (sPk 6))) saNil))) [8])))) [])
    (sSeq (sSet 11 (sConv true (sItm (pkE (sSrt (sItm (pkE (sComp 0 (sIt (sItm (pkE (sVar 9)))) (gSet 10) sYes (sTup (saCons (sC1 gMinL (sPk 10)) (saCons (sC1 gMaxL (sPk 10)) saNil))) [10]))))))))
    (sSeq (sSet 12 (sFz (sDictP true (sItm (pkE (sComp 0 (sIt (sItm (pkE (sVar 9)))) (gSet 10) sYes (sTup (saCons (sVar 10) (saCons (sC (.bl true)) saNil))) [10]))))))
    (sRet (sTup (saCons (sTup (saCons (sVar 2) (saCons (sVar 11) saNil))) (saCons (sConv true (sItm (pkE (sComp 0 (sIt (sItm (pkE (sVar 11)))) (gSet 13) sYes (sC1 gInt (pkE (sOp false (gInX true) (sPk 13) (sPk 12)))) [13])))) saNil))))))))))))
def sem__law_led : SS := (sRet (sDictP true (sItm (pkE (sComp 0 (sZip (sItm (sSub false (pkE (sVar 0)) (pkE (sC (.int 1))))) (sItm (pkE (sVar 1)))) (gTupS 2 (gsCons (gSet 2) (gsCons (gSet 3) gsNil))) sYes (sTup (saCons (sIte (sTv (sOp false gEqX (sPk 3) (pkE (sC (.int 0))))) (sVar 2) (sRev (sItm (pkE (sVar 2))))) (saCons (sC (.bl true)) saNil))) [2, 3])))))
def sem__law_levels : SS := (sSeq (sPar 2 3 (saCons (sCall 2 2 sem__law_led (agVa (pkE (sVar 0)) (agVa (pkE (sVar 1)) agNil))) (saCons (sRep (sItm (pkE (sLst 1 (saCons (sC (.int 0)) saNil)))) (sSub false (sPk 0) (pkE (sC (.int 0))))) saNil)))
    (sSeq (sFor (sRg1 (sSub false (sPk 0) (pkE (sC (.int 0))))) (gSet 4) (sForK 2 none (gTupS 2 (gsCons (gSet 5) (gsCons (gSet 6) gsNil))) (sAsg (sOp false gMax2 (sSub false (sPk 3) (sPk 6)) (pkE (sOp false gAdd (sSub false (sPk 3) (sPk 5)) (pkE (sC (.int 1)))))) (gPutT 3 (plVar 3) (sPk 6))) [5, 6]) [4])
    (sRet (sConv true (sItm (pkE (sVar 3)))))))
def sem_led_arcs : SS := (sSeq (sSet 2 (sDNew true 1))
    (sSeq (sFor (sZip (sItm (sSub false (pkE (sVar 0)) (pkE (sC (.int 1))))) (sItm (pkE (sVar 1)))) (gTupS 2 (gsCons (gTupS 2 (gsCons (gSet 3) (gsCons (gSet 4) gsNil))) (gsCons (gSet 5) gsNil))) (sAsg (sC (.bl true)) (gPutT 2 (plVar 2) (pkE (sIte (sTv (sOp false gEqX (sPk 5) (pkE (sC (.int 0))))) (sTup (saCons (sVar 3) (saCons (sVar 4) saNil))) (sTup (saCons (sVar 4) (saCons (sVar 3) saNil))))))) [3, 4, 5])
    (sRet (sMv 2))))
def sem_best_chains : SS := (sSeq (sPar 3 4 (saCons (sCall 4 2 sem_led_arcs (agVa (pkE (sVar 0)) (agVa (pkE (sVar 1)) agNil))) (saCons (sComp 0 (sRg1 (sSub false (sPk 0) (pkE (sC (.int 0))))) (gSet 2) sYes (sTup (saCons (sVar 2) saNil)) [2]) saNil)))
    (sSeq (sFor (sRg1 (sSub false (sPk 0) (pkE (sC (.int 0))))) (gSet 5) (sForK 3 none (gTupS 2 (gsCons (gSet 6) (gsCons (gSet 7) gsNil))) (sIf (sTv (sOp false gGe (pkE (sC1 gLen1 (sSub false (sPk 4) (sPk 6)))) (pkE (sC1 gLen1 (sSub false (sPk 4) (sPk 7)))))) (sAsg (sCat (sItm (pkE (sIm (sSub false (sPk 4) (sPk 6))))) (sItm (pkE (sTup (saCons (sVar 7) saNil))))) (gPutT 4 (plVar 4) (sPk 7))) sSkip) [6, 7]) [5])
    (sRet (sMv 4))))
def sem_longest_chain : SS := (sSeq (sSet 2 (sFz (sCall 6 2 sem_best_chains (agVa (pkE (sVar 0)) (agVa (pkE (sVar 1)) agNil)))))
    (sSeq (sSet 4 (sOp false gMaxD (pkE (sComp 0 (sIt (sItm (pkE (sVar 2)))) (gSet 3) sYes (sC1 gLen1 (sPk 3)) [3])) (pkE (sC (.int 0)))))
    (sRet (sIte (sTv (sOp false gNeX (sPk 2) (pkE (sLst 1 saNil)))) (pkV (sSub false (pkE (sComp 0 (sIt (sItm (pkE (sVar 2)))) (gSet 3) (sTv (sOp false gEqX (pkE (sC1 gLen1 (sPk 3))) (sPk 4))) (sVar 3) [3])) (pkE (sC (.int 0))))) (sTup saNil)))))
def sem__law_any : Nat → SS
  | 0 => sNever
  | fuel + 1 => (sSeq (sSet 2 (sFz (sCall 2 2 sem__law_draw (agBo 0 (agVa (pkE (sIte (sTv (sOp false gGt (sPk 1) (pkE (sC (.int 0))))) (sC (.int 9)) (sC (.int 6)))) agNil)))))
    (sSeq (sIf (sTv (sOp false gLt (sPk 2) (pkE (sC (.int 6))))) (sRet (pkV (sSub false (pkE (sLst 1 (saCons (sC .non) (saCons (sC (.bl true)) (saCons (sCall 0 2 sem__law_pick (agBo 0 (agVa (pkE (sLst 1 (saCons (sC (.int 0)) (saCons (sC (.int 1)) (saCons (sC (.int 2)) (saCons (sC (.int 3)) (saCons (sC (.int (-1))) (saCons (sOp false gPow (pkE (sC (.int 10))) (pkE (sC (.int 18)))) saNil)))))))) agNil))) (saCons (sC (.str "")) (saCons (sC (.str "on")) (saCons (sC (.str "in")) saNil)))))))) (sPk 2)))) sSkip)
    (sSeq (sSet 4 (sFz (sComp 0 (sRg1 (pkE (sCall 2 2 sem__law_draw (agBo 0 (agVa (pkE (sC (.int 4))) agNil))))) (gSet 3) sYes (sCall 3 2 (sem__law_any fuel) (agBo 0 (agVa (pkE (sOp false gSub (sPk 1) (pkE (sC (.int 1))))) agNil))) [3])))
    (sRet (sIte (sTv (sOp false gLt (sPk 2) (pkE (sC (.int 8))))) (sConv true (sItm (pkE (sVar 4)))) (sVar 4))))))
def sem__law_bent_tuple : SS := (sSeq (sIf (sTv (sOp false gEqX (sPk 1) (pkE (sTup saNil)))) (sRet (sCall 0 2 sem__law_pick (agBo 0 (agVa (pkE (sLst 1 (saCons (sTup (saCons (sC (.int 0)) saNil)) (saCons (sLst 1 saNil) (saCons (sC .non) (saCons (sTup (saCons (sC (.bl true)) saNil)) saNil)))))) agNil)))) sSkip)
    (sSeq (sPar 3 4 (saCons (sFz (sCall 2 2 sem__law_draw (agBo 0 (agVa (pkE (sC1 gLen1 (sPk 1))) agNil)))) (saCons (sFz (sCall 2 2 sem__law_draw (agBo 0 (agVa (pkE (sC (.int 5))) agNil)))) saNil)))
    (sSeq (sIf (sTv (sOp false gLt (sPk 4) (pkE (sC (.int 3))))) (sSeq (sSet 5 (sFz (sCall 0 2 sem__law_pick (agBo 0 (agVa (pkE (sLst 1 (saCons (sOp false gAdd (sSub false (sPk 1) (sPk 3)) (pkE (sC (.int 1)))) (saCons (sOp false gSub (sSub false (sPk 1) (sPk 3)) (pkE (sC (.int 1)))) (saCons (sC (.int 0)) (saCons (sC (.int 1)) (saCons (sVar 2) (saCons (sC (.int (-1))) (saCons (sC (.bl true)) (saCons (sC .non) (saCons (sC (.str "0")) (saCons (pkV (sSub false (pkE (sVar 1)) (pkE (sC (.int 0))))) saNil)))))))))))) agNil)))))
    (sRet (sCat (sItm (pkE (sCat (sItm (pkE (sSl (sItm (pkE (sVar 1))) soNone (soSome (sPk 3))))) (sItm (pkE (sTup (saCons (sVar 5) saNil))))))) (sItm (pkE (sSl (sItm (pkE (sVar 1))) (soSome (pkE (sOp false gAdd (sPk 3) (pkE (sC (.int 1)))))) soNone)))))) sSkip)
    (sRet (sCall 0 2 sem__law_pick (agBo 0 (agVa (pkE (sLst 1 (saCons (sRev (sItm (pkE (sVar 1)))) (saCons (sCat (sItm (pkE (sSl (sItm (pkE (sVar 1))) soNone (soSome (sPk 3))))) (sItm (pkE (sSl (sItm (pkE (sVar 1))) (soSome (pkE (sOp false gAdd (sPk 3) (pkE (sC (.int 1)))))) soNone)))) (saCons (sCat (sItm (pkE (sVar 1))) (sItm (pkE (sTup (saCons (sC (.int 0)) saNil))))) (saCons (sConv false (sItm (pkE (sVar 1)))) (saCons (sCat (sItm (pkE (sSl (sItm (pkE (sVar 1))) soNone (soSome (pkE (sOp false gAdd (sPk 3) (pkE (sC (.int 1))))))))) (sItm (pkE (sSl (sItm (pkE (sVar 1))) (soSome (sPk 3)) soNone)))) (saCons (sC .non) saNil)))))))) agNil)))))))
def sem__law_is_house : SS := (sRet (sAndV (sC1 (gIsi "int") (sPk 0)) (sAndV (sNotV (sC1 (gIsi "bool") (sPk 0))) (sChain gLe gLt (pkE (sC (.int 0))) (sPk 0) (sPk 1)))))
def sem__law_closed_fault : SS := (sSeq (sIf (sOr (sNot (sTv (sC1 (gIsi "tuple") (sPk 1)))) (sOr (sTv (sOp false gNeX (pkE (sC1 gLen1 (sPk 1))) (pkE (sC1 gLen1 (sSub false (sPk 0) (pkE (sC (.int 1)))))))) (sNot (sTv (sC1 gAll (pkE (sComp 0 (sIt (sItm (pkE (sVar 1)))) (gSet 2) sYes (sCall 0 2 sem__law_is_house (agVa (pkE (sVar 2)) (agVa (pkE (sC (.int 2))) agNil))) [2]))))))) (sRet (sC (.str "form"))) sSkip)
    (sSeq (sSet 3 (sFz (sCall 2 2 sem__law_led (agVa (pkE (sVar 0)) (agVa (pkE (sVar 1)) agNil)))))
    (sSeq (sSet 6 (sFz (sComp 0 (sRg1 (sSub false (sPk 0) (pkE (sC (.int 0))))) (gSet 4) sYes (sComp 0 (sRg1 (sSub false (sPk 0) (pkE (sC (.int 0))))) (gSet 5) (sTv (sOp false (gInX false) (pkE (sTup (saCons (sVar 4) (saCons (sVar 5) saNil)))) (sPk 3))) (sVar 5) [5]) [4])))
    (sSeq (sFor (sRg1 (sSub false (sPk 0) (pkE (sC (.int 0))))) (gSet 4) (sFor (sIt (sItm (sSub false (pkE (sVar 6)) (sPk 4)))) (gSet 7) (sSeq (sSet 8 (sFz (sComp 0 (sIt (sItm (sSub false (pkE (sVar 6)) (sPk 7)))) (gSet 5) (sTv (sOp false (gInX true) (pkE (sTup (saCons (sVar 4) (saCons (sVar 5) saNil)))) (sPk 3))) (sVar 5) [5])))
    (sIf (sTv (sOp false gNeX (sPk 8) (pkE (sLst 1 saNil)))) (sRet (sTup (saCons (sC (.str "gap")) (saCons (sVar 4) (saCons (sVar 7) (saCons (pkV (sSub false (pkE (sVar 8)) (pkE (sC (.int 0))))) saNil)))))) sSkip)) [7, 8]) [4, 8])
    (sRet (sC .non))))))
def sem_is_number : SS := (sRet (sAndV (sC1 (gIsi "int") (sPk 0)) (sNotV (sC1 (gIsi "bool") (sPk 0)))))
def sem_is_within : SS := (sRet (sAndV (sCall 0 1 sem_is_number (agVa (pkE (sVar 0)) agNil)) (sChain gLe gLe (sPk 1) (sPk 0) (sPk 2))))
def sem_is_order_form : SS := (sRet (sAndV (sC1 (gIsi "tuple") (sPk 1)) (sAndV (sOp false gEqX (pkE (sC1 gLen1 (sPk 1))) (pkE (sC1 gLen1 (sSub false (sPk 0) (pkE (sC (.int 1))))))) (sC1 gAll (pkE (sComp 0 (sIt (sItm (pkE (sVar 1)))) (gSet 2) sYes (sCall 0 3 sem_is_within (agVa (pkE (sVar 2)) (agVa (pkE (sC (.int 0))) (agVa (pkE (sC (.int 1))) agNil)))) [2]))))))
def sem_closed_error : SS := (sSeq (sIf (sNot (sTv (sCall 1 2 sem_is_order_form (agVa (pkE (sVar 0)) (agVa (pkE (sVar 1)) agNil))))) (sRet (sC (.str "form"))) sSkip)
    (sSeq (sSet 2 (sFz (sCall 4 2 sem_led_arcs (agVa (pkE (sVar 0)) (agVa (pkE (sVar 1)) agNil)))))
    (sSeq (sSet 3 (sFz (sSrtT (sPk 2))))
    (sSeq (sFor (sIt (sItm (pkE (sVar 3)))) (gTupS 2 (gsCons (gSet 4) (gsCons (gSet 5) gsNil))) (sFor (sIt (sItm (pkE (sVar 3)))) (gTupS 2 (gsCons (gSet 6) (gsCons (gSet 7) gsNil))) (sIf (sAnd (sTv (sOp false gEqX (sPk 6) (sPk 5))) (sTv (sOp false (gInX true) (pkE (sTup (saCons (sVar 4) (saCons (sVar 7) saNil)))) (sPk 2)))) (sRet (sTup (saCons (sC (.str "gap")) (saCons (sVar 4) (saCons (sVar 5) (saCons (sVar 7) saNil)))))) sSkip) [6, 7]) [4, 5])
    (sRet (sC .non))))))
def sem__law_near : SS := (sSeq (sSet 2 (sComp 1 (sRg1 (sSub false (sPk 0) (pkE (sC (.int 0))))) (gSet 1) sYes (sDNew false 1) [1]))
    (sSeq (sFor (sIt (sItm (sSub false (pkE (sVar 0)) (pkE (sC (.int 1)))))) (gTupS 2 (gsCons (gSet 3) (gsCons (gSet 4) gsNil))) (sAsg (sTup (saCons (sC (.bl true)) (saCons (sC (.bl true)) saNil))) (gTupS 2 (gsCons (gPutT 2 (plSub 2 (sPk 3)) (sPk 4)) (gsCons (gPutT 2 (plSub 2 (sPk 4)) (sPk 3)) gsNil)))) [3, 4])
    (sRet (sMv 2))))
def sem__law_greatest_full : SS := (sSeq (sParN [1, 2] (saCons (sFz (sCall 4 1 sem__law_near (agVa (pkE (sVar 0)) agNil))) (saCons (sFz (sLst 1 (saCons (sTup saNil) saNil))) saNil)))
    (sSeq (sFor (sRg1 (sSub false (sPk 0) (pkE (sC (.int 0))))) (gSet 3) (sSet 2 (sFz (sCat (sItm (pkE (sVar 2))) (sItm (pkE (sComp 0 (sIt (sItm (pkE (sVar 2)))) (gSet 4) (sTv (sOp false gEqX (pkE (sComp 0 (sIt (sItm (pkE (sVar 4)))) (gSet 5) (sTv (sOp false (gInX true) (sPk 5) (sSub false (sPk 1) (sPk 3)))) (sC (.int 1)) [5])) (pkE (sLst 1 saNil)))) (sCat (sItm (pkE (sVar 4))) (sItm (pkE (sTup (saCons (sVar 3) saNil))))) [4])))))) [3])
    (sRet (sC1 gMaxL (pkE (sComp 0 (sIt (sItm (pkE (sVar 2)))) (gSet 4) sYes (sC1 gLen1 (sPk 4)) [4]))))))
def sem_is_plain : SS := (sRet (sC1 gAll (pkE (sComp 0 (sIt (sItm (sSub false (pkE (sVar 0)) (pkE (sC (.int 1)))))) (gTupS 2 (gsCons (gSet 1) (gsCons (gSet 2) gsNil))) sYes (sOp false gNeX (sPk 1) (sPk 2)) [1, 2]))))
def sem_neighbour_lists : SS := (sSeq (sSet 2 (sComp 1 (sRg1 (sSub false (sPk 0) (pkE (sC (.int 0))))) (gSet 1) sYes (sLst 1 saNil) [1]))
    (sSeq (sFor (sIt (sItm (sSub false (pkE (sVar 0)) (pkE (sC (.int 1)))))) (gTupS 2 (gsCons (gSet 3) (gsCons (gSet 4) gsNil))) (sSeq (sApp 2 (plSub 2 (sPk 3)) (sVar 4))
    (sIf (sTv (sOp false gNeX (sPk 4) (sPk 3))) (sApp 2 (plSub 2 (sPk 4)) (sVar 3)) sSkip)) [3, 4])
    (sRet (sComp 0 (sIt (sItm (pkE (sVar 2)))) (gSet 5) sYes (sSrt (sItm (pkE (sVar 5)))) [5]))))
def sem_full_size : SS := (sSeq (sIf (sNot (sTv (sCall 2 1 sem_is_plain (agVa (pkE (sVar 0)) agNil)))) sNever sSkip)
    (sSeq (sParN [1, 2, 3] (saCons (sFz (sCall 5 1 sem_neighbour_lists (agVa (pkE (sVar 0)) agNil))) (saCons (sC (.int 0)) (saCons (sLst 1 (saCons (sTup (saCons (sTup saNil) (saCons (sLstRg (sRg1 (sSub false (sPk 0) (pkE (sC (.int 0)))))) saNil))) saNil)) saNil))))
    (sSeq (sWhile (sTv (sOp false gNeX (sPk 3) (pkE (sLst 1 saNil)))) (sSeq (sAsg (sPop 3 (plVar 3)) (gTupS 2 (gsCons (gSet 4) (gsCons (gSet 5) gsNil))))
    (sSeq (sSet 2 (sOp false gMax2 (sPk 2) (pkE (sC1 gLen1 (sPk 4)))))
    (sFor (sEn (sItm (pkE (sVar 5)))) (gTupS 2 (gsCons (gSet 6) (gsCons (gSet 7) gsNil))) (sApp 3 (plVar 3) (sTup (saCons (sCat (sItm (pkE (sVar 4))) (sItm (pkE (sTup (saCons (sVar 7) saNil))))) (saCons (sComp 0 (sIt (sItm (pkE (sSl (sItm (pkE (sVar 5))) (soSome (pkE (sOp false gAdd (sPk 6) (pkE (sC (.int 1)))))) soNone)))) (gSet 8) (sTv (sOp false (gInX false) (sPk 8) (sSub false (sPk 1) (sPk 7)))) (sVar 8) [8]) saNil)))) [6, 7]))) [4, 5])
    (sRet (sVar 2)))))
def sem_order_levels : SS := (sRet (sConv true (sItm (pkE (sComp 0 (sIt (sItm (pkE (sCall 6 2 sem_best_chains (agVa (pkE (sVar 0)) (agVa (pkE (sVar 1)) agNil)))))) (gSet 2) sYes (sOp false gSub (pkE (sC1 gLen1 (sPk 2))) (pkE (sC (.int 1)))) [2])))))
def sem_kept_options : SS := (sSeq (sPar 3 4 (saCons (sConv false (sItm (pkE (sVar 0)))) (saCons (sLstRg (sRg1 (pkE (sC1 gLen1 (sPk 0))))) saNil)))
    (sSeq (sWhile (sTv (sOp false gNeX (sPk 4) (pkE (sLst 1 saNil)))) (sSeq (sSet 5 (sFz (sPop 4 (plVar 4))))
    (sSeq (sSet 6 (sC (.int 0)))
    (sSeq (sFor (sEn (sItm (pkE (sVar 2)))) (gTupS 2 (gsCons (gSet 7) (gsCons (gSet 8) gsNil))) (sIf (sTv (sOp false gEqX (pkE (sOp false gAnd (pkE (sOp false gShr (sSub false (sPk 3) (sPk 5)) (sPk 7))) (pkE (sC (.int 1))))) (pkE (sC (.int 1))))) (sSet 6 (sOp false gOr (sPk 6) (sPk 8))) sSkip) [7, 8])
    (sFor (sIt (sItm (sSub false (pkE (sVar 1)) (sPk 5)))) (gSet 9) (sSeq (sSet 10 (sOp false gAnd (sSub false (sPk 3) (sPk 9)) (sPk 6)))
    (sSeq (sIf (sTv (sOp false gEqX (sPk 10) (pkE (sC (.int 0))))) (sRet (sC .non)) sSkip)
    (sIf (sTv (sOp false gNeX (sPk 10) (sSub false (sPk 3) (sPk 9)))) (sSeq (sAsg (sVar 10) (gPutT 3 (plVar 3) (sPk 9)))
    (sApp 4 (plVar 4) (sVar 9))) sSkip))) [9, 10])))) [5, 6, 10])
    (sRet (sMv 3))))
def sem_bits_of : SS := (sRet (sC1 gSum (pkE (sComp 0 (sIt (sItm (pkE (sVar 0)))) (gSet 1) sYes (sOp false gShl (pkE (sC (.int 1))) (sPk 1)) [1]))))
def sem_found_map : SS := (sSeq (sPar 3 4 (saCons (sFz (sCall 5 1 sem_neighbour_lists (agVa (pkE (sVar 0)) agNil))) (saCons (sFz (sComp 0 (sIt (sItm (pkE (sCall 5 1 sem_neighbour_lists (agVa (pkE (sVar 1)) agNil))))) (gSet 2) sYes (sCall 1 1 sem_bits_of (agVa (pkE (sVar 2)) agNil)) [2])) saNil)))
    (sSeq (sSet 5 (sLst 1 (saCons (sRep (sItm (pkE (sLst 1 (saCons (sOp false gSub (pkE (sOp false gShl (pkE (sC (.int 1))) (sSub false (sPk 1) (pkE (sC (.int 0)))))) (pkE (sC (.int 1)))) saNil)))) (sSub false (sPk 0) (pkE (sC (.int 0))))) saNil)))
    (sSeq (sIf (sAnd (sTv (sOp false gGt (sSub false (sPk 0) (pkE (sC (.int 0)))) (pkE (sC (.int 0))))) (sTv (sOp false gEqX (sSub false (sPk 1) (pkE (sC (.int 0)))) (pkE (sC (.int 0)))))) (sRet (sC .non)) sSkip)
    (sSeq (sWhile (sTv (sOp false gNeX (sPk 5) (pkE (sLst 1 saNil)))) (sSeq (sSet 6 (sFz (sCall 8 3 sem_kept_options (agVa (pkE (sPop 5 (plVar 5))) (agVa (pkE (sVar 3)) (agVa (pkE (sVar 4)) agNil))))))
    (sIf (sTv (sIsN true (sPk 6))) (sSeq (sSet 8 (sFz (sComp 0 (sEn (sItm (pkE (sVar 6)))) (gTupS 2 (gsCons (gSet 7) (gsCons (gSet 2) gsNil))) (sTv (sOp false gNeX (pkE (sOp false gAnd (sPk 2) (pkE (sOp false gSub (sPk 2) (pkE (sC (.int 1))))))) (pkE (sC (.int 0))))) (sVar 7) [7, 2])))
    (sSeq (sIf (sTv (sOp false gEqX (sPk 8) (pkE (sLst 1 saNil)))) (sRet (sConv true (sItm (pkE (sComp 0 (sIt (sItm (pkE (sVar 6)))) (gSet 2) sYes (sOp false gSub (pkE (sBits (sPk 2))) (pkE (sC (.int 1)))) [2]))))) sSkip)
    (sSeq (sSet 7 (pkV (sSub false (pkE (sVar 8)) (pkE (sC (.int 0))))))
    (sFor (sRgDn (pkE (sOp false gSub (sSub false (sPk 1) (pkE (sC (.int 0)))) (pkE (sC (.int 1))))) (pkE (sC (.int (-1)))) (pkE (sC (.int (-1))))) (gSet 9) (sIf (sTv (sOp false gEqX (pkE (sOp false gAnd (pkE (sOp false gShr (sSub false (sPk 6) (sPk 7)) (sPk 9))) (pkE (sC (.int 1))))) (pkE (sC (.int 1))))) (sApp 5 (plVar 5) (sCat (sItm (pkE (sCat (sItm (pkE (sSl (sItm (pkE (sVar 6))) soNone (soSome (sPk 7))))) (sItm (pkE (sLst 1 (saCons (sOp false gShl (pkE (sC (.int 1))) (sPk 9)) saNil))))))) (sItm (pkE (sSl (sItm (pkE (sVar 6))) (soSome (pkE (sOp false gAdd (sPk 7) (pkE (sC (.int 1)))))) soNone))))) sSkip) [9])))) sSkip)) [6, 7, 8])
    (sRet (sC .non))))))
def sem_any_map : SS := (sRet (sCall 8 2 sem_found_map (agVa (pkE (sVar 0)) (agVa (pkE (sVar 1)) agNil))))
def sem_full_web : SS := (sSeq (sSet 1 (sLst 1 saNil))
    (sSeq (sFor (sRg1 (sPk 0)) (gSet 2) (sExt 1 (plVar 1) (sItm (pkE (sComp 0 (sRg2 (pkE (sOp false gAdd (sPk 2) (pkE (sC (.int 1))))) (sPk 0)) (gSet 3) sYes (sTup (saCons (sVar 2) (saCons (sVar 3) saNil))) [3])))) [2])
    (sRet (sTup (saCons (sVar 0) (saCons (sConv true (sItm (pkE (sVar 1)))) saNil))))))
def sem_law : SS := (sSeq (sSet 1 (sCall 3 1 sem__law_deck (agVa (pkE (sVar 0)) agNil)))
    (sSeq (sFor (sRg1 (pkE (sC (.int 4)))) (gSet 2) (sSeq (sAsg (sCall 12 2 sem__law_ordered (agBo 1 (agVa (pkE (sCall 0 2 sem__law_pick (agBo 1 (agVa (pkE (sLst 1 (saCons (sC (.int 5)) (saCons (sC (.int 7)) (saCons (sC (.int 9)) saNil))))) agNil)))) agNil))) (gTupS 2 (gsCons (gSet 3) (gsCons (gSet 4) gsNil))))
    (sSeq (sIf (sTv (sOp false gEqX (pkE (sCall 2 2 sem__law_draw (agBo 1 (agVa (pkE (sC (.int 3))) agNil)))) (pkE (sC (.int 0))))) (sSet 4 (sConv true (sItm (pkE (sComp 0 (sIt (sItm (pkE (sVar 4)))) (gSet 5) sYes (sOp false gSub (pkE (sC (.int 1))) (sPk 5)) [5]))))) sSkip)
    (sSeq (sParN [6, 7] (saCons (sC1 gRepr (pkE (sTup (saCons (sVar 3) (saCons (sVar 4) saNil))))) (saCons (sFz (sCall 5 2 sem__law_levels (agVa (pkE (sVar 3)) (agVa (pkE (sVar 4)) agNil)))) saNil)))
    (sSeq (sSet 9 (sConv true (sItm (pkE (sComp 0 (sIt (sItm (sSub false (pkE (sVar 3)) (pkE (sC (.int 1)))))) (gSet 8) sYes (sCall 2 2 sem__law_draw (agBo 1 (agVa (pkE (sC (.int 2))) agNil))) [8])))))
    (sSeq (sSet 11 (sFz (sCat (sItm (pkE (sLst 1 (saCons (sVar 4) (saCons (sVar 9) (saCons (sTup saNil) (saCons (sC .non) (saCons (sCall 3 2 (sem__law_any 6) (agBo 1 (agVa (pkE (sC (.int 3))) agNil))) saNil)))))))) (sItm (pkE (sComp 0 (sRg1 (pkE (sC (.int 6)))) (gSet 10) sYes (sCall 3 3 sem__law_bent_tuple (agBo 1 (agVa (pkE (sVar 4)) (agVa (pkE (sC (.int 2))) agNil)))) [10]))))))
    (sSeq (sFor (sEn (sItm (pkE (sVar 11)))) (gTupS 2 (gsCons (gSet 12) (gsCons (gSet 13) gsNil))) (sSeq (sPar 14 15 (saCons (sFz (sCall 7 2 sem__law_closed_fault (agVa (pkE (sVar 3)) (agVa (pkE (sVar 13)) agNil)))) (saCons (sC1 gRepr (sPk 13)) saNil)))
    (sSeq (sSet 16 (sFz (sIte (sTv (sOp false gEqX (sPk 12) (pkE (sC (.int 1))))) (sCall 6 2 sem_closed_error (agKw pm_kw10 agNil (agVa (pkE (sVar 13)) (agVa (pkE (sVar 3)) agNil)))) (sCall 6 2 sem_closed_error (agVa (pkE (sVar 3)) (agVa (pkE (sVar 13)) agNil))))))
    (sIf (sOr (sTv (sOp false gNeX (pkE (sC1 gRepr (sPk 16))) (pkE (sC1 gRepr (sPk 14))))) (sTv (sOp false gNeX (pkE (sC1 gRepr (sPk 13))) (sPk 15)))) (sRet (sC (.bl false))) sSkip))) [12, 13, 14, 15, 16])
    (sSeq (sIf (sTv (sOp false gNeX (pkE (sC1 gRepr (pkE (sLst 1 (saCons (sCall 1 2 sem_order_levels (agVa (pkE (sVar 3)) (agVa (pkE (sVar 4)) agNil))) (saCons (sCall 1 2 sem_order_levels (agKw pm_kw10 agNil (agVa (pkE (sVar 4)) (agVa (pkE (sVar 3)) agNil)))) saNil)))))) (pkE (sC1 gRepr (pkE (sLst 1 (saCons (sVar 7) (saCons (sVar 7) saNil)))))))) (sRet (sC (.bl false))) sSkip)
    (sSeq (sIf (sTv (sOp false gNeX (pkE (sComp 0 (sIt (sItm (sSub false (pkE (sVar 3)) (pkE (sC (.int 1)))))) (gTupS 2 (gsCons (gSet 17) (gsCons (gSet 18) gsNil))) (sTv (sOp false gEqX (sSub false (sPk 7) (sPk 17)) (sSub false (sPk 7) (sPk 18)))) (sC (.int 1)) [17, 18])) (pkE (sLst 1 saNil)))) (sRet (sC (.bl false))) sSkip)
    (sSeq (sParN [19, 20] (saCons (sFz (sCall 3 2 sem_longest_chain (agVa (pkE (sVar 3)) (agVa (pkE (sVar 4)) agNil)))) (saCons (sFz (sCall 2 2 sem__law_led (agVa (pkE (sVar 3)) (agVa (pkE (sVar 4)) agNil)))) saNil)))
    (sSeq (sIf (sOr (sTv (sOp false gNeX (pkE (sC1 gRepr (pkE (sCall 3 2 sem_longest_chain (agKw pm_kw10 agNil (agVa (pkE (sVar 4)) (agVa (pkE (sVar 3)) agNil))))))) (pkE (sC1 gRepr (sPk 19))))) (sNot (sTv (sC1 (gIsi "tuple") (sPk 19))))) (sRet (sC (.bl false))) sSkip)
    (sSeq (sIf (sNot (sTv (sC1 gAll (pkE (sComp 0 (sIt (sItm (pkE (sVar 19)))) (gSet 21) sYes (sCall 0 2 sem__law_is_house (agVa (pkE (sVar 21)) (agVa (sSub false (pkE (sVar 3)) (pkE (sC (.int 0)))) agNil))) [21]))))) (sRet (sC (.bl false))) sSkip)
    (sSeq (sIf (sTv (sOp false gNeX (pkE (sComp 0 (sZip1 (sItm (pkE (sVar 19))) (sItm (pkE (sSl (sItm (pkE (sVar 19))) (soSome (pkE (sC (.int 1)))) soNone)))) (gSet 22) (sTv (sOp false (gInX true) (sPk 22) (sPk 20))) (sC (.int 1)) [22])) (pkE (sLst 1 saNil)))) (sRet (sC (.bl false))) sSkip)
    (sSeq (sSet 24 (sC1 gMaxL (pkE (sCat (sItm (pkE (sLst 1 (saCons (sC (.int 0)) saNil)))) (sItm (pkE (sComp 0 (sIt (sItm (pkE (sVar 7)))) (gSet 23) sYes (sOp false gAdd (sPk 23) (pkE (sC (.int 1)))) [23])))))))
    (sSeq (sIf (sOr (sTv (sOp false gNeX (pkE (sC1 gLen1 (sPk 19))) (sPk 24))) (sOr (sTv (sOp false gNeX (pkE (sCall 5 1 sem__law_greatest_full (agVa (pkE (sVar 3)) agNil))) (sPk 24))) (sTv (sOp false gNeX (pkE (sCall 8 1 sem_full_size (agVa (pkE (sVar 3)) agNil))) (sPk 24))))) (sRet (sC (.bl false))) sSkip)
    (sSeq (sIf (sAnd (sTv (sChain gLt gLt (pkE (sC (.int 0))) (sSub false (sPk 3) (pkE (sC (.int 0)))) (pkE (sC (.int 7))))) (sTv (sOp false gGt (sPk 24) (pkE (sC (.int 1)))))) (sIf (sOr (sTv (sIsN false (pkE (sCall 0 2 sem_any_map (agVa (pkE (sVar 3)) (agVa (pkE (sCall 3 1 sem_full_web (agVa (pkE (sVar 24)) agNil))) agNil)))))) (sTv (sIsN true (pkE (sCall 0 2 sem_any_map (agVa (pkE (sVar 3)) (agVa (pkE (sCall 3 1 sem_full_web (agVa (pkE (sOp false gSub (sPk 24) (pkE (sC (.int 1))))) agNil))) agNil))))))) (sRet (sC (.bl false))) sSkip) sSkip)
    (sIf (sTv (sOp false gNeX (pkE (sC1 gRepr (pkE (sTup (saCons (sVar 3) (saCons (sVar 4) saNil)))))) (sPk 6))) (sRet (sC (.bl false))) sSkip)))))))))))))))) [2, 3, 4, 6, 7, 9, 11, 14, 15, 16, 19, 20, 24])
    (sRet (sC (.bl true)))))
end
structure Txt (K : PySem.W.Frag) (mg : Str → Option Value) where
  a__law_deck : Addr
  d__law_deck : FuncData
  f__law_deck : Fun K "_law_deck" "_law_deck" (top 26) a__law_deck d__law_deck
  m__law_deck : mg "_law_deck" = some (.ref a__law_deck)
  a__law_draw : Addr
  d__law_draw : FuncData
  f__law_draw : Fun K "_law_draw" "_law_draw" (top 27) a__law_draw d__law_draw
  m__law_draw : mg "_law_draw" = some (.ref a__law_draw)
  a__law_mixed : Addr
  d__law_mixed : FuncData
  f__law_mixed : Fun K "_law_mixed" "_law_mixed" (top 30) a__law_mixed d__law_mixed
  m__law_mixed : mg "_law_mixed" = some (.ref a__law_mixed)
  a__law_pick : Addr
  d__law_pick : FuncData
  f__law_pick : Fun K "_law_pick" "_law_pick" (top 28) a__law_pick d__law_pick
  m__law_pick : mg "_law_pick" = some (.ref a__law_pick)
  a__law_ordered : Addr
  d__law_ordered : FuncData
  f__law_ordered : Fun K "_law_ordered" "_law_ordered" (top 35) a__law_ordered d__law_ordered
  m__law_ordered : mg "_law_ordered" = some (.ref a__law_ordered)
  a__law_led : Addr
  d__law_led : FuncData
  f__law_led : Fun K "_law_led" "_law_led" (top 36) a__law_led d__law_led
  m__law_led : mg "_law_led" = some (.ref a__law_led)
  a__law_levels : Addr
  d__law_levels : FuncData
  f__law_levels : Fun K "_law_levels" "_law_levels" (top 38) a__law_levels d__law_levels
  m__law_levels : mg "_law_levels" = some (.ref a__law_levels)
  a_led_arcs : Addr
  d_led_arcs : FuncData
  f_led_arcs : Fun K "led_arcs" "led_arcs" (top 7) a_led_arcs d_led_arcs
  m_led_arcs : mg "led_arcs" = some (.ref a_led_arcs)
  a_best_chains : Addr
  d_best_chains : FuncData
  f_best_chains : Fun K "best_chains" "best_chains" (top 9) a_best_chains d_best_chains
  m_best_chains : mg "best_chains" = some (.ref a_best_chains)
  a_longest_chain : Addr
  d_longest_chain : FuncData
  f_longest_chain : Fun K "longest_chain" "longest_chain" (top 11) a_longest_chain d_longest_chain
  m_longest_chain : mg "longest_chain" = some (.ref a_longest_chain)
  a__law_any : Addr
  d__law_any : FuncData
  f__law_any : Fun K "_law_any" "_law_any" (top 29) a__law_any d__law_any
  m__law_any : mg "_law_any" = some (.ref a__law_any)
  a__law_bent_tuple : Addr
  d__law_bent_tuple : FuncData
  f__law_bent_tuple : Fun K "_law_bent_tuple" "_law_bent_tuple" (top 34) a__law_bent_tuple d__law_bent_tuple
  m__law_bent_tuple : mg "_law_bent_tuple" = some (.ref a__law_bent_tuple)
  a__law_is_house : Addr
  d__law_is_house : FuncData
  f__law_is_house : Fun K "_law_is_house" "_law_is_house" (top 32) a__law_is_house d__law_is_house
  m__law_is_house : mg "_law_is_house" = some (.ref a__law_is_house)
  a__law_closed_fault : Addr
  d__law_closed_fault : FuncData
  f__law_closed_fault : Fun K "_law_closed_fault" "_law_closed_fault" (top 37) a__law_closed_fault d__law_closed_fault
  m__law_closed_fault : mg "_law_closed_fault" = some (.ref a__law_closed_fault)
  a_is_number : Addr
  d_is_number : FuncData
  f_is_number : Fun K "is_number" "is_number" (top 1) a_is_number d_is_number
  m_is_number : mg "is_number" = some (.ref a_is_number)
  a_is_within : Addr
  d_is_within : FuncData
  f_is_within : Fun K "is_within" "is_within" (top 2) a_is_within d_is_within
  m_is_within : mg "is_within" = some (.ref a_is_within)
  a_is_order_form : Addr
  d_is_order_form : FuncData
  f_is_order_form : Fun K "is_order_form" "is_order_form" (top 6) a_is_order_form d_is_order_form
  m_is_order_form : mg "is_order_form" = some (.ref a_is_order_form)
  a_closed_error : Addr
  d_closed_error : FuncData
  f_closed_error : Fun K "closed_error" "closed_error" (top 8) a_closed_error d_closed_error
  m_closed_error : mg "closed_error" = some (.ref a_closed_error)
  a__law_near : Addr
  d__law_near : FuncData
  f__law_near : Fun K "_law_near" "_law_near" (top 31) a__law_near d__law_near
  m__law_near : mg "_law_near" = some (.ref a__law_near)
  a__law_greatest_full : Addr
  d__law_greatest_full : FuncData
  f__law_greatest_full : Fun K "_law_greatest_full" "_law_greatest_full" (top 33) a__law_greatest_full d__law_greatest_full
  m__law_greatest_full : mg "_law_greatest_full" = some (.ref a__law_greatest_full)
  a_is_plain : Addr
  d_is_plain : FuncData
  f_is_plain : Fun K "is_plain" "is_plain" (top 4) a_is_plain d_is_plain
  m_is_plain : mg "is_plain" = some (.ref a_is_plain)
  a_neighbour_lists : Addr
  d_neighbour_lists : FuncData
  f_neighbour_lists : Fun K "neighbour_lists" "neighbour_lists" (top 3) a_neighbour_lists d_neighbour_lists
  m_neighbour_lists : mg "neighbour_lists" = some (.ref a_neighbour_lists)
  a_full_size : Addr
  d_full_size : FuncData
  f_full_size : Fun K "full_size" "full_size" (top 22) a_full_size d_full_size
  m_full_size : mg "full_size" = some (.ref a_full_size)
  a_order_levels : Addr
  d_order_levels : FuncData
  f_order_levels : Fun K "order_levels" "order_levels" (top 10) a_order_levels d_order_levels
  m_order_levels : mg "order_levels" = some (.ref a_order_levels)
  a_kept_options : Addr
  d_kept_options : FuncData
  f_kept_options : Fun K "kept_options" "kept_options" (top 14) a_kept_options d_kept_options
  m_kept_options : mg "kept_options" = some (.ref a_kept_options)
  a_bits_of : Addr
  d_bits_of : FuncData
  f_bits_of : Fun K "bits_of" "bits_of" (top 13) a_bits_of d_bits_of
  m_bits_of : mg "bits_of" = some (.ref a_bits_of)
  a_found_map : Addr
  d_found_map : FuncData
  f_found_map : Fun K "found_map" "found_map" (top 15) a_found_map d_found_map
  m_found_map : mg "found_map" = some (.ref a_found_map)
  a_any_map : Addr
  d_any_map : FuncData
  f_any_map : Fun K "any_map" "any_map" (top 20) a_any_map d_any_map
  m_any_map : mg "any_map" = some (.ref a_any_map)
  a_full_web : Addr
  d_full_web : FuncData
  f_full_web : Fun K "full_web" "full_web" (top 24) a_full_web d_full_web
  m_full_web : mg "full_web" = some (.ref a_full_web)
  a_law : Addr
  d_law : FuncData
  f_law : Fun K "law" "law" (top 39) a_law d_law
  m_law : mg "law" = some (.ref a_law)
  b_abs : mg "abs" = none
  b_all : mg "all" = none
  b_bool : mg "bool" = none
  b_dict : mg "dict" = none
  b_enumerate : mg "enumerate" = none
  b_int : mg "int" = none
  b_isinstance : mg "isinstance" = none
  b_len : mg "len" = none
  b_list : mg "list" = none
  b_max : mg "max" = none
  b_min : mg "min" = none
  b_range : mg "range" = none
  b_repr : mg "repr" = none
  b_sorted : mg "sorted" = none
  b_sum : mg "sum" = none
  b_tuple : mg "tuple" = none
  b_zip : mg "zip" = none
section
variable {P : Program} {w : World} {K : PySem.W.Frag} {mg : Str → Option Value} {base : Heap}
theorem ok__law_deck (T : Txt K mg) : FnG P w K mg base 1 T.a__law_deck T.d__law_deck ["script"] (spF K 3 1 sem__law_deck) := fnG_ok T.f__law_deck sc__law_deck fun cdv A outer s H E hg hr =>
    have hu := un200 hr
    have hu1 := hu_of hr
    (ss_cons (s_set (i := 1) sc__law_deck.nd (e_disp (k := 2) (pd_cons (p_of e_str) (e_lst (k := 1) a_nil) (pd_cons (p_of e_str) (e_op o_add (p_of e_int) (p_of (e_b1 c_len (by rfl) T.b_len (by rfl) (p_of (e_scr (f_of (e_var (pv 0))) o_none (o_some (p_of e_int))))))) (pd_cons (p_of e_str) e_int pd_nil))) rfl rfl (by decide) (by decide)))
    (ss_cons (s_for [2, 3] (ps_for PassesOwn.never rfl (i_sq (l_of_f (f_of (e_scr (f_of (e_var (pv 0))) o_none (o_some (p_of e_int)))))) (g_nm sc__law_deck.nd) (ss_cons (s_set (i := 3) sc__law_deck.nd (e_op o_add (p_of (e_op o_mul (p_of e_int) (p_of (e_b1 c_abs (by rfl) T.b_abs (by rfl) (p_var (pv 2)))))) (p_of (e_t1 c_int (by rfl) T.b_int (by rfl) (p_of (e_cmp o_lt (p_var (pv 2)) (p_of e_int) rfl))))))
    (ss_cons (s_if (t_cmp o_ge (p_var (pv 3)) (p_of (e_op o_pow (p_of e_int) (p_of e_int))) rfl) (ss_one (s_app (.inl rfl) (ps_expr (pe_bm PySem.F.plainAttrs_list PySem.F.slot_list_append PySem.F.type_list_append mt_append (pl_sub hu1 (pv 1) (p_of e_str) (fun _ _ => rfl)) (pa_cons (e_var (pv 3)) pa_nil))))) ss_nil)
    (ss_one (s_asg (ps_asg (e_op o_mod (p_of (e_t1 c_int (by rfl) T.b_int (by rfl) (p_of (e_op o_add (p_of (e_op o_add (p_of (e_op o_mul (p_sub hu1 (p_var (pv 1)) (p_of e_str) (fun _ _ => rfl)) (p_of e_int))) (p_var (pv 3)))) (p_of e_int))))) (p_of e_int)) (g_sub hu1 (pl_var (pv 1)) (p_of e_str)))))))))
    (ss_one (s_ret (e_mv (pv 1))))))
theorem ok__law_draw (T : Txt K mg) : FnG P w K mg base 1 T.a__law_draw T.d__law_draw ["deck", "many"] (spF K 2 2 sem__law_draw) := fnG_ok T.f__law_draw sc__law_draw fun cdv A outer s H E hg hr =>
    have hu := un200 hr
    have hu1 := hu_of hr
    (ss_cons (s_if (t_cmp o_lt (p_var (pv 1)) (p_of e_int) rfl) (ss_one (s_ret e_int)) ss_nil)
    (ss_cons (s_if (t_cmp (o_neX hu) (p_sub hu1 (p_var (pv 0)) (p_of e_str) (fun _ _ => rfl)) (p_of (e_lst (k := 1) a_nil)) rfl) (ss_cons (s_set (i := 2) sc__law_draw.nd (e_fz (e_pop (pe_bm0 PySem.F.plainAttrs_list PySem.F.slot_list_pop PySem.F.type_list_pop mt_pop (pl_sub hu1 (pv 0) (p_of e_str) (fun _ _ => rfl))))))
    (ss_cons (s_if (t_cmp o_ge (p_var (pv 2)) (p_var (pv 1)) rfl) (ss_one (s_app (.inl rfl) (ps_expr (pe_bm PySem.F.plainAttrs_list PySem.F.slot_list_append PySem.F.type_list_append mt_append (pl_sub hu1 (pv 0) (p_of e_str) (fun _ _ => rfl)) (pa_cons (e_op o_div (p_var (pv 2)) (p_var (pv 1))) pa_nil))))) ss_nil)
    (ss_one (s_ret (e_op o_mod (p_of (e_t1 c_int (by rfl) T.b_int (by rfl) (p_var (pv 2)))) (p_var (pv 1))))))) ss_nil)
    (ss_cons (s_asg (ps_asg (e_op o_add (p_sub hu1 (p_var (pv 0)) (p_of e_str) (fun _ _ => rfl)) (p_of e_int)) (g_sub hu1 (pl_var (pv 0)) (p_of e_str))))
    (ss_cons (s_set (i := 3) sc__law_draw.nd (e_op o_mod (p_of (e_t1 c_int (by rfl) T.b_int (by rfl) (p_of (e_op o_add (p_sub hu1 (p_var (pv 0)) (p_of e_str) (fun _ _ => rfl)) (p_of (e_op o_mul (p_of e_int) (p_sub hu1 (p_var (pv 0)) (p_of e_str) (fun _ _ => rfl)))))))) (p_of e_int)))
    (ss_cons (s_set (i := 3) sc__law_draw.nd (e_op o_mod (p_of (e_t1 c_int (by rfl) T.b_int (by rfl) (p_of (e_op o_add (p_of (e_op o_add (p_of (e_op o_mul (p_var (pv 3)) (p_var (pv 3)))) (p_of (e_op o_mul (p_of e_int) (p_sub hu1 (p_var (pv 0)) (p_of e_str) (fun _ _ => rfl)))))) (p_of e_int))))) (p_of e_int)))
    (ss_cons (s_set (i := 3) sc__law_draw.nd (e_op o_mod (p_of (e_t1 c_int (by rfl) T.b_int (by rfl) (p_of (e_op o_add (p_of (e_op o_mul (p_var (pv 3)) (p_var (pv 3)))) (p_of (e_op o_mul (p_sub hu1 (p_var (pv 0)) (p_of e_str) (fun _ _ => rfl)) (p_of e_int))))))) (p_of e_int)))
    (ss_one (s_ret (e_op o_mod (p_of (e_t1 c_int (by rfl) T.b_int (by rfl) (p_of (e_op o_div (p_var (pv 3)) (p_of e_int))))) (p_var (pv 1)))))))))))
theorem ok__law_mixed (T : Txt K mg) : FnG P w K mg base 2 T.a__law_mixed T.d__law_mixed ["deck", "many"] (spF K 2 2 sem__law_mixed) := fnG_ok T.f__law_mixed sc__law_mixed fun cdv A outer s H E hg hr =>
    have hu := un200 hr
    have hu1 := hu_of hr
    (ss_cons (s_par (ps_par (i := 2) (j := 3) rfl sc__law_mixed.nd rfl rfl (by decide) rfl rfl (a_cons (e_listRg1 rfl (by rfl) T.b_list (by rfl) T.b_range (p_var (pv 1))) (a_cons (e_lst (k := 1) a_nil) a_nil)) rfl))
    (ss_cons (s_while [] (ps_while PassesOwn.never (t_cmp (o_neX hu) (p_var (pv 2)) (p_of (e_lst (k := 1) a_nil)) rfl) (ss_one (s_app (.inr rfl) (ps_expr (pe_bm PySem.F.plainAttrs_list PySem.F.slot_list_append PySem.F.type_list_append mt_append (pl_var (pv 3)) (pa_cons (e_popAt (.inr rfl) (pe_bm PySem.F.plainAttrs_list PySem.F.slot_list_pop PySem.F.type_list_pop mt_popAt (pl_var (pv 2)) (pa_cons (p_of (e_callG (ok__law_draw T) hg (hr.mono (by decide)) (by rfl) T.m__law_draw T.f__law_draw.kp (T.f__law_draw.binds (fun _ _ _ _ _ _ us hl => match us, hl with | [_, _], _ => rfl)) (ag_bo (pv 0) (ag_va (f_of (e_b1 c_len (by rfl) T.b_len (by rfl) (p_var (pv 2)))) ag_nil)))) pa_nil))) pa_nil)))))))
    (ss_one (s_ret (e_mv (pv 3))))))
theorem ok__law_pick (T : Txt K mg) : FnG P w K mg base 2 T.a__law_pick T.d__law_pick ["deck", "row"] (spF K 0 2 sem__law_pick) := fnG_ok T.f__law_pick sc__law_pick fun cdv A outer s H E hg hr =>
    have hu := un200 hr
    have hu1 := hu_of hr
    (ss_one (s_ret (e_of (f_sub hu1 (f_of (e_var (pv 1))) (p_of (e_callG (ok__law_draw T) hg (hr.mono (by decide)) (by rfl) T.m__law_draw T.f__law_draw.kp (T.f__law_draw.binds (fun _ _ _ _ _ _ us hl => match us, hl with | [_, _], _ => rfl)) (ag_bo (pv 0) (ag_va (f_of (e_b1 c_len (by rfl) T.b_len (by rfl) (p_var (pv 1)))) ag_nil)))) (fun _ _ => rfl)))))
theorem ok__law_ordered (T : Txt K mg) : FnG P w K mg base 3 T.a__law_ordered T.d__law_ordered ["deck", "most"] (spF K 12 2 sem__law_ordered) := fnG_ok T.f__law_ordered sc__law_ordered fun cdv A outer s H E hg hr =>
    have hu := un200 hr
    have hu1 := hu_of hr
    (ss_cons (s_set (i := 2) sc__law_ordered.nd (e_fz (e_callG (ok__law_draw T) hg (hr.mono (by decide)) (by rfl) T.m__law_draw T.f__law_draw.kp (T.f__law_draw.binds (fun _ _ _ _ _ _ us hl => match us, hl with | [_, _], _ => rfl)) (ag_bo (pv 0) (ag_va (f_of (e_op o_add (p_var (pv 1)) (p_of e_int))) ag_nil)))))
    (ss_cons (s_parN rfl (ps_asg (pe_tup (a_cons (e_fz (e_callG (ok__law_mixed T) hg (hr.mono (by decide)) (by rfl) T.m__law_mixed T.f__law_mixed.kp (T.f__law_mixed.binds (fun _ _ _ _ _ _ us hl => match us, hl with | [_, _], _ => rfl)) (ag_bo (pv 0) (ag_va (f_of (e_var (pv 2))) ag_nil)))) (a_cons (e_fz (e_callG (ok__law_pick T) hg (hr.mono (by decide)) (by rfl) T.m__law_pick T.f__law_pick.kp (T.f__law_pick.binds (fun _ _ _ _ _ _ us hl => match us, hl with | [_, _], _ => rfl)) (ag_bo (pv 0) (ag_va (f_of (e_lst (k := 1) (a_cons e_int (a_cons e_int (a_cons e_int (a_cons e_int (a_cons e_int a_nil))))))) ag_nil)))) a_nil))) (pg_tup rfl (gn_cons sc__law_ordered.nd (gn_cons sc__law_ordered.nd gn_nil)))))
    (ss_cons (s_set (i := 5) sc__law_ordered.nd (e_dnewK (k := 1)))
    (ss_cons (s_for [7] (ps_for PassesOwn.never rfl (i_rg1 (pi_range1 (by rfl) T.b_range (pa_cons (p_var (pv 2)) pa_nil))) (g_nm sc__law_ordered.nd) (ss_cons (s_set (i := 7) sc__law_ordered.nd (e_dnewK (k := 0)))
    (ss_cons (s_for [8] (ps_for PassesOwn.never rfl (i_rg1 (pi_range1 (by rfl) T.b_range (pa_cons (p_var (pv 6)) pa_nil))) (g_nm sc__law_ordered.nd) (ss_one (s_if (t_or (t_cmp (o_eqX hu) (p_of (e_callG (ok__law_draw T) hg (hr.mono (by decide)) (by rfl) T.m__law_draw T.f__law_draw.kp (T.f__law_draw.binds (fun _ _ _ _ _ _ us hl => match us, hl with | [_, _], _ => rfl)) (ag_bo (pv 0) (ag_va (f_of (e_var (pv 4))) ag_nil)))) (p_of e_int) rfl) (t_or1 (t_cmp (o_inX hu) (p_var (pv 8)) (p_var (pv 7)) rfl))).pt (ss_cons (s_asg (ps_asg e_bl (g_sub hu1 (pl_var (pv 7)) (p_var (pv 8)))))
    (ss_one (s_upd (ps_expr (pe_bm PySem.F.plainAttrs_dict PySem.F.slot_dict_update PySem.F.type_dict_update mt_update (pv 7) (pa_cons (at_1 hu1 (pv 5) (pv 8) (fun _ _ => rfl)) pa_nil)))))) ss_nil))))
    (ss_one (s_asg (ps_asg (e_mv (pv 7)) (g_sub hu1 (pl_var (pv 5)) (p_var (pv 6))))))))))
    (ss_cons (s_set (i := 9) sc__law_ordered.nd (e_lst (k := 1) a_nil))
    (ss_cons (s_for [] (ps_for PassesOwn.never rfl (i_rg1 (pi_range1 (by rfl) T.b_range (pa_cons (p_var (pv 2)) pa_nil))) (g_nm sc__law_ordered.nd) (ss_one (s_ext (.inr rfl) (ps_expr (pe_bm PySem.F.plainAttrs_list PySem.F.slot_list_extend PySem.F.type_list_extend mt_extend (pl_var (pv 9)) (pa_cons (l_of_f (f_of (e_compK (vs := [8]) (by decide) (pe_lc (own := [("q", 8)]) rfl sc__law_ordered.nd (pi_at (at_1 hu1 (pv 5) (pv 6) (fun _ _ => rfl))) (blkOk_by (by kernel_rfl)) (fun _ _ _ _ _ => (g_nm sc__law_ordered.nd)) (fun _ _ _ _ _ => ts_nil) (fun _ _ _ _ _ => (e_tup (a_cons (e_of (f_sub hu1 (f_of (e_var (pv 3))) (p_var (pv 8)) (fun _ _ => rfl))) (a_cons (e_of (f_sub hu1 (f_of (e_var (pv 3))) (p_var (pv 6)) (fun _ _ => rfl))) a_nil)))))))) pa_nil)))))))
    (ss_cons (s_set (i := 11) sc__law_ordered.nd (e_tupleOf (by rfl) T.b_tuple (l_of_f (f_of (e_srt (by rfl) T.b_sorted (l_of_f (f_of (e_comp (vs := [10]) (by decide) (pe_lc (own := [("pair", 10)]) rfl sc__law_ordered.nd (i_sq (l_of_f (f_of (e_var (pv 9))))) (blkOk_by (by kernel_rfl)) (fun _ _ _ _ _ => (g_nm sc__law_ordered.nd)) (fun _ _ _ _ _ => ts_nil) (fun _ _ _ _ _ => (e_tup (a_cons (e_b1 (c_minL rfl hu) (by rfl) T.b_min (by rfl) (p_var (pv 10))) (a_cons (e_b1 (c_maxL rfl hu) (by rfl) T.b_max (by rfl) (p_var (pv 10))) a_nil)))))))))))))
    (ss_cons (s_set (i := 12) sc__law_ordered.nd (e_fz (e_dictP (t := true) hu rfl (by rfl) T.b_dict (l_of_f (f_of (e_comp (vs := [10]) (by decide) (pe_lc (own := [("pair", 10)]) rfl sc__law_ordered.nd (i_sq (l_of_f (f_of (e_var (pv 9))))) (blkOk_by (by kernel_rfl)) (fun _ _ _ _ _ => (g_nm sc__law_ordered.nd)) (fun _ _ _ _ _ => ts_nil) (fun _ _ _ _ _ => (e_tup (a_cons (e_var (pv 10)) (a_cons e_bl a_nil)))))))))))
    (ss_one (s_ret (e_tup (a_cons (e_tup (a_cons (e_var (pv 2)) (a_cons (e_var (pv 11)) a_nil))) (a_cons (e_tupleOf (by rfl) T.b_tuple (l_of_f (f_of (e_comp (vs := [13]) (by decide) (pe_lc (own := [("road", 13)]) rfl sc__law_ordered.nd (i_sq (l_of_f (f_of (e_var (pv 11))))) (blkOk_by (by kernel_rfl)) (fun _ _ _ _ _ => (g_nm sc__law_ordered.nd)) (fun _ _ _ _ _ => ts_nil) (fun _ _ _ _ _ => (e_t1 c_int (by rfl) T.b_int (by rfl) (p_of (e_cmp (o_notinX hu) (p_var (pv 13)) (p_var (pv 12)) rfl))))))))) a_nil)))))))))))))
theorem ok__law_led (T : Txt K mg) : FnG P w K mg base 1 T.a__law_led T.d__law_led ["web", "order"] (spF K 2 2 sem__law_led) := fnG_ok T.f__law_led sc__law_led fun cdv A outer s H E hg hr =>
    have hu := un200 hr
    have hu1 := hu_of hr
    (ss_one (s_ret (e_dictP (t := true) hu rfl (by rfl) T.b_dict (l_of_f (f_of (e_comp (vs := [2, 3]) (by decide) (pe_lc (own := [("road", 2), ("way", 3)]) rfl sc__law_led.nd (i_zip (by rfl) T.b_zip (l_of_f (f_sub hu1 (f_of (e_var (pv 0))) (p_of e_int) (fun _ _ => rfl))) (l_of_f (f_of (e_var (pv 1))))) (blkOk_by (by kernel_rfl)) (fun _ _ _ _ _ => (g_tup (pg_tup rfl (gs_cons (g_nm sc__law_led.nd) (gs_cons (g_nm sc__law_led.nd) gs_nil))))) (fun _ _ _ _ _ => ts_nil) (fun _ _ _ _ _ => (e_tup (a_cons (e_ite (t_cmp (o_eqX hu) (p_var (pv 3)) (p_of e_int) rfl) (e_var (pv 2)) (e_rev (l_of_f (f_of (e_var (pv 2)))))) (a_cons e_bl a_nil)))))))))))
theorem ok__law_levels (T : Txt K mg) : FnG P w K mg base 2 T.a__law_levels T.d__law_levels ["web", "order"] (spF K 5 2 sem__law_levels) := fnG_ok T.f__law_levels sc__law_levels fun cdv A outer s H E hg hr =>
    have hu := un200 hr
    have hu1 := hu_of hr
    (ss_cons (s_par (ps_par (i := 2) (j := 3) rfl sc__law_levels.nd rfl rfl (by decide) rfl rfl (a_cons (e_callG (ok__law_led T) hg (hr.mono (by decide)) (by rfl) T.m__law_led T.f__law_led.kp (T.f__law_led.binds (fun _ _ _ _ _ _ us hl => match us, hl with | [_, _], _ => rfl)) (ag_va (f_of (e_var (pv 0))) (ag_va (f_of (e_var (pv 1))) ag_nil))) (a_cons (e_rep (.inl rfl) (l_of_f (f_of (e_lst (k := 1) (a_cons e_int a_nil)))) (p_sub hu1 (p_var (pv 0)) (p_of e_int) (fun _ _ => rfl))) a_nil)) rfl))
    (ss_cons (s_for [4] (ps_for PassesOwn.never rfl (i_rg1 (pi_range1 (by rfl) T.b_range (pa_cons (p_sub hu1 (p_var (pv 0)) (p_of e_int) (fun _ _ => rfl)) pa_nil))) (g_nm sc__law_levels.nd) (ss_one (s_forK [5, 6] (ps_for PassesOwn.never rfl (pi_at (at_0 (pv 2))) (g_tup (pg_tup rfl (gs_cons (g_nm sc__law_levels.nd) (gs_cons (g_nm sc__law_levels.nd) gs_nil)))) (ss_one (s_asg (ps_asg (e_b2 (c_max2 rfl) (by rfl) T.b_max (by rfl) (p_sub hu1 (p_var (pv 3)) (p_var (pv 6)) (fun _ _ => rfl)) (p_of (e_op o_add (p_sub hu1 (p_var (pv 3)) (p_var (pv 5)) (fun _ _ => rfl)) (p_of e_int)))) (g_sub hu1 (pl_var (pv 3)) (p_var (pv 6)))))))))))
    (ss_one (s_ret (e_tupleOf (by rfl) T.b_tuple (l_of_f (f_of (e_var (pv 3)))))))))
theorem ok_led_arcs (T : Txt K mg) : FnG P w K mg base 1 T.a_led_arcs T.d_led_arcs ["web", "order"] (spF K 4 2 sem_led_arcs) := fnG_ok T.f_led_arcs sc_led_arcs fun cdv A outer s H E hg hr =>
    have hu := un200 hr
    have hu1 := hu_of hr
    (ss_cons (s_set (i := 2) sc_led_arcs.nd (e_dnewT (k := 0)))
    (ss_cons (s_for [3, 4, 5] (ps_for PassesOwn.never rfl (i_zip (by rfl) T.b_zip (l_of_f (f_sub hu1 (f_of (e_var (pv 0))) (p_of e_int) (fun _ _ => rfl))) (l_of_f (f_of (e_var (pv 1))))) (g_tup (pg_tup rfl (gs_cons (g_tup (pg_tup rfl (gs_cons (g_nm sc_led_arcs.nd) (gs_cons (g_nm sc_led_arcs.nd) gs_nil)))) (gs_cons (g_nm sc_led_arcs.nd) gs_nil)))) (ss_one (s_asg (ps_asg e_bl (g_sub hu1 (pl_var (pv 2)) (p_of (e_ite (t_cmp (o_eqX hu) (p_var (pv 5)) (p_of e_int) rfl) (e_tup (a_cons (e_var (pv 3)) (a_cons (e_var (pv 4)) a_nil))) (e_tup (a_cons (e_var (pv 4)) (a_cons (e_var (pv 3)) a_nil)))))))))))
    (ss_one (s_ret (e_mv (pv 2))))))
theorem ok_best_chains (T : Txt K mg) : FnG P w K mg base 2 T.a_best_chains T.d_best_chains ["web", "order"] (spF K 6 2 sem_best_chains) := fnG_ok T.f_best_chains sc_best_chains fun cdv A outer s H E hg hr =>
    have hu := un200 hr
    have hu1 := hu_of hr
    (ss_cons (s_par (ps_par (i := 3) (j := 4) rfl sc_best_chains.nd rfl rfl (by decide) rfl rfl (a_cons (e_callG (ok_led_arcs T) hg (hr.mono (by decide)) (by rfl) T.m_led_arcs T.f_led_arcs.kp (T.f_led_arcs.binds (fun _ _ _ _ _ _ us hl => match us, hl with | [_, _], _ => rfl)) (ag_va (f_of (e_var (pv 0))) (ag_va (f_of (e_var (pv 1))) ag_nil))) (a_cons (e_comp (vs := [2]) (by decide) (pe_lc (own := [("house", 2)]) rfl sc_best_chains.nd (i_rg1 (pi_range1 (by rfl) T.b_range (pa_cons (p_sub hu1 (p_var (pv 0)) (p_of e_int) (fun _ _ => rfl)) pa_nil))) (blkOk_by (by kernel_rfl)) (fun _ _ _ _ _ => (g_nm sc_best_chains.nd)) (fun _ _ _ _ _ => ts_nil) (fun _ _ _ _ _ => (e_tup (a_cons (e_var (pv 2)) a_nil))))) a_nil)) rfl))
    (ss_cons (s_for [5] (ps_for PassesOwn.never rfl (i_rg1 (pi_range1 (by rfl) T.b_range (pa_cons (p_sub hu1 (p_var (pv 0)) (p_of e_int) (fun _ _ => rfl)) pa_nil))) (g_nm sc_best_chains.nd) (ss_one (s_forK [6, 7] (ps_for PassesOwn.never rfl (pi_at (at_0 (pv 3))) (g_tup (pg_tup rfl (gs_cons (g_nm sc_best_chains.nd) (gs_cons (g_nm sc_best_chains.nd) gs_nil)))) (ss_one (s_if (t_cmp o_ge (p_of (e_b1 c_len (by rfl) T.b_len (by rfl) (p_sub hu1 (p_var (pv 4)) (p_var (pv 6)) (fun _ _ => rfl)))) (p_of (e_b1 c_len (by rfl) T.b_len (by rfl) (p_sub hu1 (p_var (pv 4)) (p_var (pv 7)) (fun _ _ => rfl)))) rfl) (ss_one (s_asg (ps_asg (e_cat (.inl rfl) (l_of_f (f_of (e_im (p_sub hu1 (p_var (pv 4)) (p_var (pv 6)) (fun _ _ => rfl))))) (l_of_f (f_of (e_tup (a_cons (e_var (pv 7)) a_nil))))) (g_sub hu1 (pl_var (pv 4)) (p_var (pv 7)))))) ss_nil)))))))
    (ss_one (s_ret (e_mv (pv 4))))))
theorem ok_longest_chain (T : Txt K mg) : FnG P w K mg base 3 T.a_longest_chain T.d_longest_chain ["web", "order"] (spF K 3 2 sem_longest_chain) := fnG_ok T.f_longest_chain sc_longest_chain fun cdv A outer s H E hg hr =>
    have hu := un200 hr
    have hu1 := hu_of hr
    (ss_cons (s_set (i := 2) sc_longest_chain.nd (e_fz (e_callG (ok_best_chains T) hg (hr.mono (by decide)) (by rfl) T.m_best_chains T.f_best_chains.kp (T.f_best_chains.binds (fun _ _ _ _ _ _ us hl => match us, hl with | [_, _], _ => rfl)) (ag_va (f_of (e_var (pv 0))) (ag_va (f_of (e_var (pv 1))) ag_nil)))))
    (ss_cons (s_set (i := 4) sc_longest_chain.nd (e_maxD rfl hu (by rfl) T.b_max (p_of (e_comp (vs := [3]) (by decide) (pe_lc (own := [("chain", 3)]) rfl sc_longest_chain.nd (i_sq (l_of_f (f_of (e_var (pv 2))))) (blkOk_by (by kernel_rfl)) (fun _ _ _ _ _ => (g_nm sc_longest_chain.nd)) (fun _ _ _ _ _ => ts_nil) (fun _ _ _ _ _ => (e_b1 c_len (by rfl) T.b_len (by rfl) (p_var (pv 3))))))) (p_of e_int)))
    (ss_one (s_ret (e_ite (t_cmp (o_neX hu) (p_var (pv 2)) (p_of (e_lst (k := 1) a_nil)) rfl) (e_of (f_sub hu1 (f_of (e_comp (vs := [3]) (by decide) (pe_lc (own := [("chain", 3)]) rfl sc_longest_chain.nd (i_sq (l_of_f (f_of (e_var (pv 2))))) (blkOk_by (by kernel_rfl)) (fun _ _ _ _ _ => (g_nm sc_longest_chain.nd)) (fun _ _ _ _ _ => (pts_one (t_cmp (o_eqX hu) (p_of (e_b1 c_len (by rfl) T.b_len (by rfl) (p_var (pv 3)))) (p_var (pv 4)) rfl))) (fun _ _ _ _ _ => (e_var (pv 3)))))) (p_of e_int) (fun _ _ => rfl))) (e_tup a_nil))))))
theorem ok__law_any (T : Txt K mg) : ∀ fuel : Nat, FnG P w K mg base (3 + fuel) T.a__law_any T.d__law_any ["deck", "deep"] (spF K 3 2 (sem__law_any fuel))
  | 0 => fnG_ok T.f__law_any sc__law_any fun cdv A outer s H E hg hr => ss_never
  | fuel + 1 => fnG_ok T.f__law_any sc__law_any fun cdv A outer s H E hg hr =>
    have hu := un200 hr
    have hu1 := hu_of hr
    have ih := ok__law_any T fuel
    (ss_cons (s_set (i := 2) sc__law_any.nd (e_fz (e_callG (ok__law_draw T) hg (hr.mono (Nat.le_trans (by decide : 1 ≤ 3) (Nat.le_add_right 3 fuel))) (by rfl) T.m__law_draw T.f__law_draw.kp (T.f__law_draw.binds (fun _ _ _ _ _ _ us hl => match us, hl with | [_, _], _ => rfl)) (ag_bo (pv 0) (ag_va (f_of (e_ite (t_cmp o_gt (p_var (pv 1)) (p_of e_int) rfl) e_int e_int)) ag_nil)))))
    (ss_cons (s_if (t_cmp o_lt (p_var (pv 2)) (p_of e_int) rfl) (ss_one (s_ret (e_of (f_sub hu1 (f_of (e_lst (k := 1) (a_cons e_non (a_cons e_bl (a_cons (e_callG (ok__law_pick T) hg (hr.mono (Nat.le_trans (by decide : 2 ≤ 3) (Nat.le_add_right 3 fuel))) (by rfl) T.m__law_pick T.f__law_pick.kp (T.f__law_pick.binds (fun _ _ _ _ _ _ us hl => match us, hl with | [_, _], _ => rfl)) (ag_bo (pv 0) (ag_va (f_of (e_lst (k := 1) (a_cons e_int (a_cons e_int (a_cons e_int (a_cons e_int (a_cons e_negc (a_cons (e_op o_pow (p_of e_int) (p_of e_int)) a_nil)))))))) ag_nil))) (a_cons e_str (a_cons e_str (a_cons e_str a_nil)))))))) (p_var (pv 2)) (fun _ _ => rfl))))) ss_nil)
    (ss_cons (s_setCF (vs := [3]) (by decide) (ps_setLc (i := 4) (own := [("turn", 3)]) rfl sc__law_any.nd rfl rfl (sw_true rfl rfl rfl rfl) (i_rg1 (pi_range1 (by rfl) T.b_range (pa_cons (p_of (e_callG (ok__law_draw T) hg (hr.mono (Nat.le_trans (by decide : 1 ≤ 3) (Nat.le_add_right 3 fuel))) (by rfl) T.m__law_draw T.f__law_draw.kp (T.f__law_draw.binds (fun _ _ _ _ _ _ us hl => match us, hl with | [_, _], _ => rfl)) (ag_bo (pv 0) (ag_va (f_of e_int) ag_nil)))) pa_nil))) (blkOk_by (by kernel_rfl)) (fun _ _ _ _ _ => (g_nm sc__law_any.nd)) (fun _ _ _ _ _ => ts_nil) (fun _ _ _ _ _ => (e_callG ih hg hr (by rfl) T.m__law_any T.f__law_any.kp (T.f__law_any.binds (fun _ _ _ _ _ _ us hl => match us, hl with | [_, _], _ => rfl)) (ag_bo (pv 0) (ag_va (f_of (e_op o_sub (p_var (pv 1)) (p_of e_int))) ag_nil))))))
    (ss_one (s_ret (e_ite (t_cmp o_lt (p_var (pv 2)) (p_of e_int) rfl) (e_tupleOf (by rfl) T.b_tuple (l_of_f (f_of (e_var (pv 4))))) (e_var (pv 4))))))))
theorem ok__law_bent_tuple (T : Txt K mg) : FnG P w K mg base 3 T.a__law_bent_tuple T.d__law_bent_tuple ["deck", "row", "high"] (spF K 3 3 sem__law_bent_tuple) := fnG_ok T.f__law_bent_tuple sc__law_bent_tuple fun cdv A outer s H E hg hr =>
    have hu := un200 hr
    have hu1 := hu_of hr
    (ss_cons (s_if (t_cmp (o_eqX hu) (p_var (pv 1)) (p_of (e_tup a_nil)) rfl) (ss_one (s_ret (e_callG (ok__law_pick T) hg (hr.mono (by decide)) (by rfl) T.m__law_pick T.f__law_pick.kp (T.f__law_pick.binds (fun _ _ _ _ _ _ us hl => match us, hl with | [_, _], _ => rfl)) (ag_bo (pv 0) (ag_va (f_of (e_lst (k := 1) (a_cons (e_tup (a_cons e_int a_nil)) (a_cons (e_lst (k := 1) a_nil) (a_cons e_non (a_cons (e_tup (a_cons e_bl a_nil)) a_nil)))))) ag_nil))))) ss_nil)
    (ss_cons (s_par (ps_par (i := 3) (j := 4) rfl sc__law_bent_tuple.nd rfl rfl (by decide) rfl rfl (a_cons (e_fz (e_callG (ok__law_draw T) hg (hr.mono (by decide)) (by rfl) T.m__law_draw T.f__law_draw.kp (T.f__law_draw.binds (fun _ _ _ _ _ _ us hl => match us, hl with | [_, _], _ => rfl)) (ag_bo (pv 0) (ag_va (f_of (e_b1 c_len (by rfl) T.b_len (by rfl) (p_var (pv 1)))) ag_nil)))) (a_cons (e_fz (e_callG (ok__law_draw T) hg (hr.mono (by decide)) (by rfl) T.m__law_draw T.f__law_draw.kp (T.f__law_draw.binds (fun _ _ _ _ _ _ us hl => match us, hl with | [_, _], _ => rfl)) (ag_bo (pv 0) (ag_va (f_of e_int) ag_nil)))) a_nil)) rfl))
    (ss_cons (s_if (t_cmp o_lt (p_var (pv 4)) (p_of e_int) rfl) (ss_cons (s_set (i := 5) sc__law_bent_tuple.nd (e_fz (e_callG (ok__law_pick T) hg (hr.mono (by decide)) (by rfl) T.m__law_pick T.f__law_pick.kp (T.f__law_pick.binds (fun _ _ _ _ _ _ us hl => match us, hl with | [_, _], _ => rfl)) (ag_bo (pv 0) (ag_va (f_of (e_lst (k := 1) (a_cons (e_op o_add (p_sub hu1 (p_var (pv 1)) (p_var (pv 3)) (fun _ _ => rfl)) (p_of e_int)) (a_cons (e_op o_sub (p_sub hu1 (p_var (pv 1)) (p_var (pv 3)) (fun _ _ => rfl)) (p_of e_int)) (a_cons e_int (a_cons e_int (a_cons (e_var (pv 2)) (a_cons e_negc (a_cons e_bl (a_cons e_non (a_cons e_str (a_cons (e_of (f_sub hu1 (f_of (e_var (pv 1))) (p_of e_int) (fun _ _ => rfl))) a_nil)))))))))))) ag_nil)))))
    (ss_one (s_ret (e_cat (.inl rfl) (l_of_f (f_of (e_cat (.inl rfl) (l_of_f (f_of (e_sl (l_of_f (f_of (e_var (pv 1)))) o_none (o_some (p_var (pv 3)))))) (l_of_f (f_of (e_tup (a_cons (e_var (pv 5)) a_nil))))))) (l_of_f (f_of (e_sl (l_of_f (f_of (e_var (pv 1)))) (o_some (p_of (e_op o_add (p_var (pv 3)) (p_of e_int)))) o_none))))))) ss_nil)
    (ss_one (s_ret (e_callG (ok__law_pick T) hg (hr.mono (by decide)) (by rfl) T.m__law_pick T.f__law_pick.kp (T.f__law_pick.binds (fun _ _ _ _ _ _ us hl => match us, hl with | [_, _], _ => rfl)) (ag_bo (pv 0) (ag_va (f_of (e_lst (k := 1) (a_cons (e_rev (l_of_f (f_of (e_var (pv 1))))) (a_cons (e_cat (.inl rfl) (l_of_f (f_of (e_sl (l_of_f (f_of (e_var (pv 1)))) o_none (o_some (p_var (pv 3)))))) (l_of_f (f_of (e_sl (l_of_f (f_of (e_var (pv 1)))) (o_some (p_of (e_op o_add (p_var (pv 3)) (p_of e_int)))) o_none)))) (a_cons (e_cat (.inl rfl) (l_of_f (f_of (e_var (pv 1)))) (l_of_f (f_of (e_tup (a_cons e_int a_nil))))) (a_cons (e_listOf (by rfl) T.b_list (l_of_f (f_of (e_var (pv 1))))) (a_cons (e_cat (.inl rfl) (l_of_f (f_of (e_sl (l_of_f (f_of (e_var (pv 1)))) o_none (o_some (p_of (e_op o_add (p_var (pv 3)) (p_of e_int))))))) (l_of_f (f_of (e_sl (l_of_f (f_of (e_var (pv 1)))) (o_some (p_var (pv 3))) o_none)))) (a_cons e_non a_nil)))))))) ag_nil))))))))
theorem ok__law_is_house (T : Txt K mg) : FnG P w K mg base 1 T.a__law_is_house T.d__law_is_house ["value", "n"] (spF K 0 2 sem__law_is_house) := fnG_ok T.f__law_is_house sc__law_is_house fun cdv A outer s H E hg hr =>
    have hu := un200 hr
    have hu1 := hu_of hr
    (ss_one (s_ret (e_and (e_isi (by rfl) T.b_isinstance (by rfl) T.b_int (by rfl) (p_var (pv 0))) (e_and (e_not (e_isi (by rfl) T.b_isinstance (by rfl) T.b_bool (by rfl) (p_var (pv 0)))) (e_one (e_chain o_le o_lt (p_of e_int) (p_var (pv 0)) (p_var (pv 1))))))))
theorem ok__law_closed_fault (T : Txt K mg) : FnG P w K mg base 2 T.a__law_closed_fault T.d__law_closed_fault ["web", "value"] (spF K 7 2 sem__law_closed_fault) := fnG_ok T.f__law_closed_fault sc__law_closed_fault fun cdv A outer s H E hg hr =>
    have hu := un200 hr
    have hu1 := hu_of hr
    (ss_cons (s_if (t_or (t_not (t_val (e_isi (by rfl) T.b_isinstance (by rfl) T.b_tuple (by rfl) (p_var (pv 1))))) (t_or (t_cmp (o_neX hu) (p_of (e_b1 c_len (by rfl) T.b_len (by rfl) (p_var (pv 1)))) (p_of (e_b1 c_len (by rfl) T.b_len (by rfl) (p_sub hu1 (p_var (pv 0)) (p_of e_int) (fun _ _ => rfl)))) rfl) (t_or1 (t_not (t_val (e_b1 (c_all rfl) (by rfl) T.b_all (by rfl) (p_of (e_comp (vs := [2]) (by decide) (pe_lc (own := [("way", 2)]) rfl sc__law_closed_fault.nd (i_sq (l_of_f (f_of (e_var (pv 1))))) (blkOk_by (by kernel_rfl)) (fun _ _ _ _ _ => (g_nm sc__law_closed_fault.nd)) (fun _ _ _ _ _ => ts_nil) (fun _ _ _ _ _ => (e_callG (ok__law_is_house T) hg (hr.mono (by decide)) (by rfl) T.m__law_is_house T.f__law_is_house.kp (T.f__law_is_house.binds (fun _ _ _ _ _ _ us hl => match us, hl with | [_, _], _ => rfl)) (ag_va (f_of (e_var (pv 2))) (ag_va (f_of e_int) ag_nil))))))))))))).pt (ss_one (s_ret e_str)) ss_nil)
    (ss_cons (s_set (i := 3) sc__law_closed_fault.nd (e_fz (e_callG (ok__law_led T) hg (hr.mono (by decide)) (by rfl) T.m__law_led T.f__law_led.kp (T.f__law_led.binds (fun _ _ _ _ _ _ us hl => match us, hl with | [_, _], _ => rfl)) (ag_va (f_of (e_var (pv 0))) (ag_va (f_of (e_var (pv 1))) ag_nil)))))
    (ss_cons (s_setCF (vs := [4]) (by decide) (ps_setLc (i := 6) (own := [("i", 4)]) rfl sc__law_closed_fault.nd rfl rfl (sw_true rfl rfl rfl rfl) (i_rg1 (pi_range1 (by rfl) T.b_range (pa_cons (p_sub hu1 (p_var (pv 0)) (p_of e_int) (fun _ _ => rfl)) pa_nil))) (blkOk_by (by kernel_rfl)) (fun _ _ _ _ _ => (g_nm sc__law_closed_fault.nd)) (fun _ _ _ _ _ => ts_nil) (fun _ _ _ _ _ => (e_comp (vs := [5]) (by decide) (pe_lc (own := [("k", 5)]) rfl sc__law_closed_fault.nd (i_rg1 (pi_range1 (by rfl) T.b_range (pa_cons (p_sub hu1 (p_var (pv 0)) (p_of e_int) (fun _ _ => rfl)) pa_nil))) (blkOk_by (by kernel_rfl)) (fun _ _ _ _ _ => (g_nm sc__law_closed_fault.nd)) (fun _ _ _ _ _ => (pts_one (t_cmp (o_inX hu) (p_of (e_tup (a_cons (e_var (pv 4)) (a_cons (e_var (pv 5)) a_nil)))) (p_var (pv 3)) rfl))) (fun _ _ _ _ _ => (e_var (pv 5))))))))
    (ss_cons (s_for [4, 8] (ps_for PassesOwn.never rfl (i_rg1 (pi_range1 (by rfl) T.b_range (pa_cons (p_sub hu1 (p_var (pv 0)) (p_of e_int) (fun _ _ => rfl)) pa_nil))) (g_nm sc__law_closed_fault.nd) (ss_one (s_for [7, 8] (ps_for PassesOwn.never rfl (i_sq (l_of_f (f_sub hu1 (f_of (e_var (pv 6))) (p_var (pv 4)) (fun _ _ => rfl)))) (g_nm sc__law_closed_fault.nd) (ss_cons (s_setCF (vs := [5]) (by decide) (ps_setLc (i := 8) (own := [("k", 5)]) rfl sc__law_closed_fault.nd rfl rfl (sw_true rfl rfl rfl rfl) (i_sq (l_of_f (f_sub hu1 (f_of (e_var (pv 6))) (p_var (pv 7)) (fun _ _ => rfl)))) (blkOk_by (by kernel_rfl)) (fun _ _ _ _ _ => (g_nm sc__law_closed_fault.nd)) (fun _ _ _ _ _ => (pts_one (t_cmp (o_notinX hu) (p_of (e_tup (a_cons (e_var (pv 4)) (a_cons (e_var (pv 5)) a_nil)))) (p_var (pv 3)) rfl))) (fun _ _ _ _ _ => (e_var (pv 5)))))
    (ss_one (s_if (t_cmp (o_neX hu) (p_var (pv 8)) (p_of (e_lst (k := 1) a_nil)) rfl) (ss_one (s_ret (e_tup (a_cons e_str (a_cons (e_var (pv 4)) (a_cons (e_var (pv 7)) (a_cons (e_of (f_sub hu1 (f_of (e_var (pv 8))) (p_of e_int) (fun _ _ => rfl))) a_nil))))))) ss_nil))))))))
    (ss_one (s_ret e_non))))))
theorem ok_is_number (T : Txt K mg) : FnG P w K mg base 1 T.a_is_number T.d_is_number ["value"] (spF K 0 1 sem_is_number) := fnG_ok T.f_is_number sc_is_number fun cdv A outer s H E hg hr =>
    have hu := un200 hr
    have hu1 := hu_of hr
    (ss_one (s_ret (e_and (e_isi (by rfl) T.b_isinstance (by rfl) T.b_int (by rfl) (p_var (pv 0))) (e_one (e_not (e_isi (by rfl) T.b_isinstance (by rfl) T.b_bool (by rfl) (p_var (pv 0))))))))
theorem ok_is_within (T : Txt K mg) : FnG P w K mg base 2 T.a_is_within T.d_is_within ["value", "least", "most"] (spF K 0 3 sem_is_within) := fnG_ok T.f_is_within sc_is_within fun cdv A outer s H E hg hr =>
    have hu := un200 hr
    have hu1 := hu_of hr
    (ss_one (s_ret (e_and (e_callG (ok_is_number T) hg (hr.mono (by decide)) (by rfl) T.m_is_number T.f_is_number.kp (T.f_is_number.binds (fun _ _ _ _ _ _ us hl => match us, hl with | [_], _ => rfl)) (ag_va (f_of (e_var (pv 0))) ag_nil)) (e_one (e_chain o_le o_le (p_var (pv 1)) (p_var (pv 0)) (p_var (pv 2)))))))
theorem ok_is_order_form (T : Txt K mg) : FnG P w K mg base 3 T.a_is_order_form T.d_is_order_form ["web", "value"] (spF K 1 2 sem_is_order_form) := fnG_ok T.f_is_order_form sc_is_order_form fun cdv A outer s H E hg hr =>
    have hu := un200 hr
    have hu1 := hu_of hr
    (ss_one (s_ret (e_and (e_isi (by rfl) T.b_isinstance (by rfl) T.b_tuple (by rfl) (p_var (pv 1))) (e_and (e_cmp (o_eqX hu) (p_of (e_b1 c_len (by rfl) T.b_len (by rfl) (p_var (pv 1)))) (p_of (e_b1 c_len (by rfl) T.b_len (by rfl) (p_sub hu1 (p_var (pv 0)) (p_of e_int) (fun _ _ => rfl)))) rfl) (e_one (e_b1 (c_all rfl) (by rfl) T.b_all (by rfl) (p_of (e_comp (vs := [2]) (by decide) (pe_lc (own := [("item", 2)]) rfl sc_is_order_form.nd (i_sq (l_of_f (f_of (e_var (pv 1))))) (blkOk_by (by kernel_rfl)) (fun _ _ _ _ _ => (g_nm sc_is_order_form.nd)) (fun _ _ _ _ _ => ts_nil) (fun _ _ _ _ _ => (e_callG (ok_is_within T) hg (hr.mono (by decide)) (by rfl) T.m_is_within T.f_is_within.kp (T.f_is_within.binds (fun _ _ _ _ _ _ us hl => match us, hl with | [_, _, _], _ => rfl)) (ag_va (f_of (e_var (pv 2))) (ag_va (f_of e_int) (ag_va (f_of e_int) ag_nil))))))))))))))
theorem ok_closed_error (T : Txt K mg) : FnG P w K mg base 4 T.a_closed_error T.d_closed_error ["web", "value"] (spF K 6 2 sem_closed_error) := fnG_ok T.f_closed_error sc_closed_error fun cdv A outer s H E hg hr =>
    have hu := un200 hr
    have hu1 := hu_of hr
    (ss_cons (s_if (t_not (t_val (e_callG (ok_is_order_form T) hg (hr.mono (by decide)) (by rfl) T.m_is_order_form T.f_is_order_form.kp (T.f_is_order_form.binds (fun _ _ _ _ _ _ us hl => match us, hl with | [_, _], _ => rfl)) (ag_va (f_of (e_var (pv 0))) (ag_va (f_of (e_var (pv 1))) ag_nil))))) (ss_one (s_ret e_str)) ss_nil)
    (ss_cons (s_set (i := 2) sc_closed_error.nd (e_fz (e_callG (ok_led_arcs T) hg (hr.mono (by decide)) (by rfl) T.m_led_arcs T.f_led_arcs.kp (T.f_led_arcs.binds (fun _ _ _ _ _ _ us hl => match us, hl with | [_, _], _ => rfl)) (ag_va (f_of (e_var (pv 0))) (ag_va (f_of (e_var (pv 1))) ag_nil)))))
    (ss_cons (s_set (i := 3) sc_closed_error.nd (e_fz (e_srtT rfl (by rfl) T.b_sorted (p_var (pv 2)))))
    (ss_cons (s_for [4, 5] (ps_for PassesOwn.never rfl (i_sq (l_of_f (f_of (e_var (pv 3))))) (g_tup (pg_tup rfl (gs_cons (g_nm sc_closed_error.nd) (gs_cons (g_nm sc_closed_error.nd) gs_nil)))) (ss_one (s_for [6, 7] (ps_for PassesOwn.never rfl (i_sq (l_of_f (f_of (e_var (pv 3))))) (g_tup (pg_tup rfl (gs_cons (g_nm sc_closed_error.nd) (gs_cons (g_nm sc_closed_error.nd) gs_nil)))) (ss_one (s_if (t_and (t_cmp (o_eqX hu) (p_var (pv 6)) (p_var (pv 5)) rfl) (t_and1 (t_cmp (o_notinX hu) (p_of (e_tup (a_cons (e_var (pv 4)) (a_cons (e_var (pv 7)) a_nil)))) (p_var (pv 2)) rfl))).pt (ss_one (s_ret (e_tup (a_cons e_str (a_cons (e_var (pv 4)) (a_cons (e_var (pv 5)) (a_cons (e_var (pv 7)) a_nil))))))) ss_nil)))))))
    (ss_one (s_ret e_non))))))
theorem ok__law_near (T : Txt K mg) : FnG P w K mg base 1 T.a__law_near T.d__law_near ["web"] (spF K 4 1 sem__law_near) := fnG_ok T.f__law_near sc__law_near fun cdv A outer s H E hg hr =>
    have hu := un200 hr
    have hu1 := hu_of hr
    (ss_cons (s_setC (vs := [1]) (by decide) (ps_setLc (i := 2) (own := [("house", 1)]) rfl sc__law_near.nd rfl rfl (sw_true rfl rfl rfl rfl) (i_rg1 (pi_range1 (by rfl) T.b_range (pa_cons (p_sub hu1 (p_var (pv 0)) (p_of e_int) (fun _ _ => rfl)) pa_nil))) (blkOk_by (by kernel_rfl)) (fun _ _ _ _ _ => (g_nm sc__law_near.nd)) (fun _ _ _ _ _ => ts_nil) (fun _ _ _ _ _ => (e_dnewK (k := 0)))))
    (ss_cons (s_for [3, 4] (ps_for PassesOwn.never rfl (i_sq (l_of_f (f_sub hu1 (f_of (e_var (pv 0))) (p_of e_int) (fun _ _ => rfl)))) (g_tup (pg_tup rfl (gs_cons (g_nm sc__law_near.nd) (gs_cons (g_nm sc__law_near.nd) gs_nil)))) (ss_one (s_asg (ps_asg (e_tup (a_cons e_bl (a_cons e_bl a_nil))) (g_tup (pg_tup rfl (gs_cons (g_sub hu1 (pl_sub hu1 (pv 2) (p_var (pv 3)) (fun _ _ => rfl)) (p_var (pv 4))) (gs_cons (g_sub hu1 (pl_sub hu1 (pv 2) (p_var (pv 4)) (fun _ _ => rfl)) (p_var (pv 3))) gs_nil)))))))))
    (ss_one (s_ret (e_mv (pv 2))))))
theorem ok__law_greatest_full (T : Txt K mg) : FnG P w K mg base 2 T.a__law_greatest_full T.d__law_greatest_full ["web"] (spF K 5 1 sem__law_greatest_full) := fnG_ok T.f__law_greatest_full sc__law_greatest_full fun cdv A outer s H E hg hr =>
    have hu := un200 hr
    have hu1 := hu_of hr
    (ss_cons (s_parN rfl (ps_asg (pe_tup (a_cons (e_fz (e_callG (ok__law_near T) hg (hr.mono (by decide)) (by rfl) T.m__law_near T.f__law_near.kp (T.f__law_near.binds (fun _ _ _ _ _ _ us hl => match us, hl with | [_], _ => rfl)) (ag_va (f_of (e_var (pv 0))) ag_nil))) (a_cons (e_fz (e_lst (k := 1) (a_cons (e_tup a_nil) a_nil))) a_nil))) (pg_tup rfl (gn_cons sc__law_greatest_full.nd (gn_cons sc__law_greatest_full.nd gn_nil)))))
    (ss_cons (s_for [3] (ps_for PassesOwn.never rfl (i_rg1 (pi_range1 (by rfl) T.b_range (pa_cons (p_sub hu1 (p_var (pv 0)) (p_of e_int) (fun _ _ => rfl)) pa_nil))) (g_nm sc__law_greatest_full.nd) (ss_one (s_set (i := 2) sc__law_greatest_full.nd (e_fz (e_cat (.inl rfl) (l_of_f (f_of (e_var (pv 2)))) (l_of_f (f_of (e_comp (vs := [4]) (by decide) (pe_lc (own := [("own", 4)]) rfl sc__law_greatest_full.nd (i_sq (l_of_f (f_of (e_var (pv 2))))) (blkOk_by (by kernel_rfl)) (fun _ _ _ _ _ => (g_nm sc__law_greatest_full.nd)) (fun _ _ _ _ _ => (pts_one (t_cmp (o_eqX hu) (p_of (e_comp (vs := [5]) (by decide) (pe_lc (own := [("other", 5)]) rfl sc__law_greatest_full.nd (i_sq (l_of_f (f_of (e_var (pv 4))))) (blkOk_by (by kernel_rfl)) (fun _ _ _ _ _ => (g_nm sc__law_greatest_full.nd)) (fun _ _ _ _ _ => (pts_one (t_cmp (o_notinX hu) (p_var (pv 5)) (p_sub hu1 (p_var (pv 1)) (p_var (pv 3)) (fun _ _ => rfl)) rfl))) (fun _ _ _ _ _ => e_int)))) (p_of (e_lst (k := 1) a_nil)) rfl))) (fun _ _ _ _ _ => (e_cat (.inl rfl) (l_of_f (f_of (e_var (pv 4)))) (l_of_f (f_of (e_tup (a_cons (e_var (pv 3)) a_nil))))))))))))))))
    (ss_one (s_ret (e_b1 (c_maxL rfl hu) (by rfl) T.b_max (by rfl) (p_of (e_comp (vs := [4]) (by decide) (pe_lc (own := [("own", 4)]) rfl sc__law_greatest_full.nd (i_sq (l_of_f (f_of (e_var (pv 2))))) (blkOk_by (by kernel_rfl)) (fun _ _ _ _ _ => (g_nm sc__law_greatest_full.nd)) (fun _ _ _ _ _ => ts_nil) (fun _ _ _ _ _ => (e_b1 c_len (by rfl) T.b_len (by rfl) (p_var (pv 4))))))))))))
theorem ok_is_plain (T : Txt K mg) : FnG P w K mg base 1 T.a_is_plain T.d_is_plain ["web"] (spF K 2 1 sem_is_plain) := fnG_ok T.f_is_plain sc_is_plain fun cdv A outer s H E hg hr =>
    have hu := un200 hr
    have hu1 := hu_of hr
    (ss_one (s_ret (e_b1 (c_all rfl) (by rfl) T.b_all (by rfl) (p_of (e_comp (vs := [1, 2]) (by decide) (pe_lc (own := [("one", 1), ("other", 2)]) rfl sc_is_plain.nd (i_sq (l_of_f (f_sub hu1 (f_of (e_var (pv 0))) (p_of e_int) (fun _ _ => rfl)))) (blkOk_by (by kernel_rfl)) (fun _ _ _ _ _ => (g_tup (pg_tup rfl (gs_cons (g_nm sc_is_plain.nd) (gs_cons (g_nm sc_is_plain.nd) gs_nil))))) (fun _ _ _ _ _ => ts_nil) (fun _ _ _ _ _ => (e_cmp (o_neX hu) (p_var (pv 1)) (p_var (pv 2)) rfl))))))))
theorem ok_neighbour_lists (T : Txt K mg) : FnG P w K mg base 1 T.a_neighbour_lists T.d_neighbour_lists ["web"] (spF K 5 1 sem_neighbour_lists) := fnG_ok T.f_neighbour_lists sc_neighbour_lists fun cdv A outer s H E hg hr =>
    have hu := un200 hr
    have hu1 := hu_of hr
    (ss_cons (s_setC (vs := [1]) (by decide) (ps_setLc (i := 2) (own := [("house", 1)]) rfl sc_neighbour_lists.nd rfl rfl (sw_true rfl rfl rfl rfl) (i_rg1 (pi_range1 (by rfl) T.b_range (pa_cons (p_sub hu1 (p_var (pv 0)) (p_of e_int) (fun _ _ => rfl)) pa_nil))) (blkOk_by (by kernel_rfl)) (fun _ _ _ _ _ => (g_nm sc_neighbour_lists.nd)) (fun _ _ _ _ _ => ts_nil) (fun _ _ _ _ _ => (e_lst (k := 1) a_nil))))
    (ss_cons (s_for [3, 4] (ps_for PassesOwn.never rfl (i_sq (l_of_f (f_sub hu1 (f_of (e_var (pv 0))) (p_of e_int) (fun _ _ => rfl)))) (g_tup (pg_tup rfl (gs_cons (g_nm sc_neighbour_lists.nd) (gs_cons (g_nm sc_neighbour_lists.nd) gs_nil)))) (ss_cons (s_app (.inl rfl) (ps_expr (pe_bm PySem.F.plainAttrs_list PySem.F.slot_list_append PySem.F.type_list_append mt_append (pl_sub hu1 (pv 2) (p_var (pv 3)) (fun _ _ => rfl)) (pa_cons (e_var (pv 4)) pa_nil))))
    (ss_one (s_if (t_cmp (o_neX hu) (p_var (pv 4)) (p_var (pv 3)) rfl) (ss_one (s_app (.inl rfl) (ps_expr (pe_bm PySem.F.plainAttrs_list PySem.F.slot_list_append PySem.F.type_list_append mt_append (pl_sub hu1 (pv 2) (p_var (pv 4)) (fun _ _ => rfl)) (pa_cons (e_var (pv 3)) pa_nil))))) ss_nil)))))
    (ss_one (s_ret (e_comp (vs := [5]) (by decide) (pe_lc (own := [("near", 5)]) rfl sc_neighbour_lists.nd (i_sq (l_of_f (f_of (e_var (pv 2))))) (blkOk_by (by kernel_rfl)) (fun _ _ _ _ _ => (g_nm sc_neighbour_lists.nd)) (fun _ _ _ _ _ => ts_nil) (fun _ _ _ _ _ => (e_srt (by rfl) T.b_sorted (l_of_f (f_of (e_var (pv 5))))))))))))
theorem ok_full_size (T : Txt K mg) : FnG P w K mg base 2 T.a_full_size T.d_full_size ["web"] (spF K 8 1 sem_full_size) := fnG_ok T.f_full_size sc_full_size fun cdv A outer s H E hg hr =>
    have hu := un200 hr
    have hu1 := hu_of hr
    (ss_cons (s_if (t_not (t_val (e_callG (ok_is_plain T) hg (hr.mono (by decide)) (by rfl) T.m_is_plain T.f_is_plain.kp (T.f_is_plain.binds (fun _ _ _ _ _ _ us hl => match us, hl with | [_], _ => rfl)) (ag_va (f_of (e_var (pv 0))) ag_nil)))) (ss_one s_never) ss_nil)
    (ss_cons (s_parN rfl (ps_asg (pe_tup (a_cons (e_fz (e_callG (ok_neighbour_lists T) hg (hr.mono (by decide)) (by rfl) T.m_neighbour_lists T.f_neighbour_lists.kp (T.f_neighbour_lists.binds (fun _ _ _ _ _ _ us hl => match us, hl with | [_], _ => rfl)) (ag_va (f_of (e_var (pv 0))) ag_nil))) (a_cons e_int (a_cons (e_lst (k := 1) (a_cons (e_tup (a_cons (e_tup a_nil) (a_cons (e_listRg1 rfl (by rfl) T.b_list (by rfl) T.b_range (p_sub hu1 (p_var (pv 0)) (p_of e_int) (fun _ _ => rfl))) a_nil))) a_nil)) a_nil)))) (pg_tup rfl (gn_cons sc_full_size.nd (gn_cons sc_full_size.nd (gn_cons sc_full_size.nd gn_nil))))))
    (ss_cons (s_while [4, 5] (ps_while PassesOwn.never (t_cmp (o_neX hu) (p_var (pv 3)) (p_of (e_lst (k := 1) a_nil)) rfl) (ss_cons (s_asg (ps_asg (e_pop (pe_bm0 PySem.F.plainAttrs_list PySem.F.slot_list_pop PySem.F.type_list_pop mt_pop (pl_var (pv 3)))) (g_tup (pg_tup rfl (gs_cons (g_nm sc_full_size.nd) (gs_cons (g_nm sc_full_size.nd) gs_nil))))))
    (ss_cons (s_set (i := 2) sc_full_size.nd (e_b2 (c_max2 rfl) (by rfl) T.b_max (by rfl) (p_var (pv 2)) (p_of (e_b1 c_len (by rfl) T.b_len (by rfl) (p_var (pv 4))))))
    (ss_one (s_for [6, 7] (ps_for PassesOwn.never rfl (i_enum (by rfl) T.b_enumerate (l_of_f (f_of (e_var (pv 5))))) (g_tup (pg_tup rfl (gs_cons (g_nm sc_full_size.nd) (gs_cons (g_nm sc_full_size.nd) gs_nil)))) (ss_one (s_app (.inr rfl) (ps_expr (pe_bm PySem.F.plainAttrs_list PySem.F.slot_list_append PySem.F.type_list_append mt_append (pl_var (pv 3)) (pa_cons (e_tup (a_cons (e_cat (.inl rfl) (l_of_f (f_of (e_var (pv 4)))) (l_of_f (f_of (e_tup (a_cons (e_var (pv 7)) a_nil))))) (a_cons (e_comp (vs := [8]) (by decide) (pe_lc (own := [("other", 8)]) rfl sc_full_size.nd (i_sq (l_of_f (f_of (e_sl (l_of_f (f_of (e_var (pv 5)))) (o_some (p_of (e_op o_add (p_var (pv 6)) (p_of e_int)))) o_none)))) (blkOk_by (by kernel_rfl)) (fun _ _ _ _ _ => (g_nm sc_full_size.nd)) (fun _ _ _ _ _ => (pts_one (t_cmp (o_inX hu) (p_var (pv 8)) (p_sub hu1 (p_var (pv 1)) (p_var (pv 7)) (fun _ _ => rfl)) rfl))) (fun _ _ _ _ _ => (e_var (pv 8))))) a_nil))) pa_nil))))))))))))
    (ss_one (s_ret (e_var (pv 2)))))))
theorem ok_order_levels (T : Txt K mg) : FnG P w K mg base 3 T.a_order_levels T.d_order_levels ["web", "order"] (spF K 1 2 sem_order_levels) := fnG_ok T.f_order_levels sc_order_levels fun cdv A outer s H E hg hr =>
    have hu := un200 hr
    have hu1 := hu_of hr
    (ss_one (s_ret (e_tupleOf (by rfl) T.b_tuple (l_of_f (f_of (e_comp (vs := [2]) (by decide) (pe_lc (own := [("chain", 2)]) rfl sc_order_levels.nd (i_sq (l_of_f (f_of (e_callG (ok_best_chains T) hg (hr.mono (by decide)) (by rfl) T.m_best_chains T.f_best_chains.kp (T.f_best_chains.binds (fun _ _ _ _ _ _ us hl => match us, hl with | [_, _], _ => rfl)) (ag_va (f_of (e_var (pv 0))) (ag_va (f_of (e_var (pv 1))) ag_nil)))))) (blkOk_by (by kernel_rfl)) (fun _ _ _ _ _ => (g_nm sc_order_levels.nd)) (fun _ _ _ _ _ => ts_nil) (fun _ _ _ _ _ => (e_op o_sub (p_of (e_b1 c_len (by rfl) T.b_len (by rfl) (p_var (pv 2)))) (p_of e_int))))))))))
theorem ok_kept_options (T : Txt K mg) : FnG P w K mg base 1 T.a_kept_options T.d_kept_options ["options", "near", "beside"] (spF K 8 3 sem_kept_options) := fnG_ok T.f_kept_options sc_kept_options fun cdv A outer s H E hg hr =>
    have hu := un200 hr
    have hu1 := hu_of hr
    (ss_cons (s_par (ps_par (i := 3) (j := 4) rfl sc_kept_options.nd rfl rfl (by decide) rfl rfl (a_cons (e_listOf (by rfl) T.b_list (l_of_f (f_of (e_var (pv 0))))) (a_cons (e_listRg1 rfl (by rfl) T.b_list (by rfl) T.b_range (p_of (e_b1 c_len (by rfl) T.b_len (by rfl) (p_var (pv 0))))) a_nil)) rfl))
    (ss_cons (s_while [5, 6, 10] (ps_while PassesOwn.never (t_cmp (o_neX hu) (p_var (pv 4)) (p_of (e_lst (k := 1) a_nil)) rfl) (ss_cons (s_set (i := 5) sc_kept_options.nd (e_fz (e_pop (pe_bm0 PySem.F.plainAttrs_list PySem.F.slot_list_pop PySem.F.type_list_pop mt_pop (pl_var (pv 4))))))
    (ss_cons (s_set (i := 6) sc_kept_options.nd e_int)
    (ss_cons (s_for [7, 8] (ps_for PassesOwn.never rfl (i_enum (by rfl) T.b_enumerate (l_of_f (f_of (e_var (pv 2))))) (g_tup (pg_tup rfl (gs_cons (g_nm sc_kept_options.nd) (gs_cons (g_nm sc_kept_options.nd) gs_nil)))) (ss_one (s_if (t_cmp (o_eqX hu) (p_of (e_op o_and (p_of (e_op o_shr (p_sub hu1 (p_var (pv 3)) (p_var (pv 5)) (fun _ _ => rfl)) (p_var (pv 7)))) (p_of e_int))) (p_of e_int) rfl) (ss_one (s_set (i := 6) sc_kept_options.nd (e_op o_or (p_var (pv 6)) (p_var (pv 8))))) ss_nil))))
    (ss_one (s_for [9, 10] (ps_for PassesOwn.never rfl (i_sq (l_of_f (f_sub hu1 (f_of (e_var (pv 1))) (p_var (pv 5)) (fun _ _ => rfl)))) (g_nm sc_kept_options.nd) (ss_cons (s_set (i := 10) sc_kept_options.nd (e_op o_and (p_sub hu1 (p_var (pv 3)) (p_var (pv 9)) (fun _ _ => rfl)) (p_var (pv 6))))
    (ss_cons (s_if (t_cmp (o_eqX hu) (p_var (pv 10)) (p_of e_int) rfl) (ss_one (s_ret e_non)) ss_nil)
    (ss_one (s_if (t_cmp (o_neX hu) (p_var (pv 10)) (p_sub hu1 (p_var (pv 3)) (p_var (pv 9)) (fun _ _ => rfl)) rfl) (ss_cons (s_asg (ps_asg (e_var (pv 10)) (g_sub hu1 (pl_var (pv 3)) (p_var (pv 9)))))
    (ss_one (s_app (.inr rfl) (ps_expr (pe_bm PySem.F.plainAttrs_list PySem.F.slot_list_append PySem.F.type_list_append mt_append (pl_var (pv 4)) (pa_cons (e_var (pv 9)) pa_nil)))))) ss_nil))))))))))))
    (ss_one (s_ret (e_mv (pv 3))))))
theorem ok_bits_of (T : Txt K mg) : FnG P w K mg base 1 T.a_bits_of T.d_bits_of ["numbers"] (spF K 1 1 sem_bits_of) := fnG_ok T.f_bits_of sc_bits_of fun cdv A outer s H E hg hr =>
    have hu := un200 hr
    have hu1 := hu_of hr
    (ss_one (s_ret (e_b1 (c_sum rfl) (by rfl) T.b_sum (by rfl) (p_of (e_comp (vs := [1]) (by decide) (pe_lc (own := [("number", 1)]) rfl sc_bits_of.nd (i_sq (l_of_f (f_of (e_var (pv 0))))) (blkOk_by (by kernel_rfl)) (fun _ _ _ _ _ => (g_nm sc_bits_of.nd)) (fun _ _ _ _ _ => ts_nil) (fun _ _ _ _ _ => (e_op o_shl (p_of e_int) (p_var (pv 1))))))))))
theorem ok_found_map (T : Txt K mg) : FnG P w K mg base 2 T.a_found_map T.d_found_map ["one", "other"] (spF K 8 2 sem_found_map) := fnG_ok T.f_found_map sc_found_map fun cdv A outer s H E hg hr =>
    have hu := un200 hr
    have hu1 := hu_of hr
    (ss_cons (s_par (ps_par (i := 3) (j := 4) rfl sc_found_map.nd rfl rfl (by decide) rfl rfl (a_cons (e_fz (e_callG (ok_neighbour_lists T) hg (hr.mono (by decide)) (by rfl) T.m_neighbour_lists T.f_neighbour_lists.kp (T.f_neighbour_lists.binds (fun _ _ _ _ _ _ us hl => match us, hl with | [_], _ => rfl)) (ag_va (f_of (e_var (pv 0))) ag_nil))) (a_cons (e_fz (e_comp (vs := [2]) (by decide) (pe_lc (own := [("own", 2)]) rfl sc_found_map.nd (i_sq (l_of_f (f_of (e_callG (ok_neighbour_lists T) hg (hr.mono (by decide)) (by rfl) T.m_neighbour_lists T.f_neighbour_lists.kp (T.f_neighbour_lists.binds (fun _ _ _ _ _ _ us hl => match us, hl with | [_], _ => rfl)) (ag_va (f_of (e_var (pv 1))) ag_nil))))) (blkOk_by (by kernel_rfl)) (fun _ _ _ _ _ => (g_nm sc_found_map.nd)) (fun _ _ _ _ _ => ts_nil) (fun _ _ _ _ _ => (e_callG (ok_bits_of T) hg (hr.mono (by decide)) (by rfl) T.m_bits_of T.f_bits_of.kp (T.f_bits_of.binds (fun _ _ _ _ _ _ us hl => match us, hl with | [_], _ => rfl)) (ag_va (f_of (e_var (pv 2))) ag_nil)))))) a_nil)) rfl))
    (ss_cons (s_set (i := 5) sc_found_map.nd (e_lst (k := 1) (a_cons (e_rep (.inl rfl) (l_of_f (f_of (e_lst (k := 1) (a_cons (e_op o_sub (p_of (e_op o_shl (p_of e_int) (p_sub hu1 (p_var (pv 1)) (p_of e_int) (fun _ _ => rfl)))) (p_of e_int)) a_nil)))) (p_sub hu1 (p_var (pv 0)) (p_of e_int) (fun _ _ => rfl))) a_nil)))
    (ss_cons (s_if (t_and (t_cmp o_gt (p_sub hu1 (p_var (pv 0)) (p_of e_int) (fun _ _ => rfl)) (p_of e_int) rfl) (t_and1 (t_cmp (o_eqX hu) (p_sub hu1 (p_var (pv 1)) (p_of e_int) (fun _ _ => rfl)) (p_of e_int) rfl))).pt (ss_one (s_ret e_non)) ss_nil)
    (ss_cons (s_while [6, 7, 8] (ps_while PassesOwn.never (t_cmp (o_neX hu) (p_var (pv 5)) (p_of (e_lst (k := 1) a_nil)) rfl) (ss_cons (s_set (i := 6) sc_found_map.nd (e_fz (e_callG (ok_kept_options T) hg (hr.mono (by decide)) (by rfl) T.m_kept_options T.f_kept_options.kp (T.f_kept_options.binds (fun _ _ _ _ _ _ us hl => match us, hl with | [_, _, _], _ => rfl)) (ag_va (f_of (e_pop (pe_bm0 PySem.F.plainAttrs_list PySem.F.slot_list_pop PySem.F.type_list_pop mt_pop (pl_var (pv 5))))) (ag_va (f_of (e_var (pv 3))) (ag_va (f_of (e_var (pv 4))) ag_nil))))))
    (ss_one (s_if (t_notn (p_var (pv 6))) (ss_cons (s_setCF (vs := [7, 2]) (by decide) (ps_setLc (i := 8) (own := [("house", 7), ("own", 2)]) rfl sc_found_map.nd rfl rfl (sw_true rfl rfl rfl rfl) (i_enum (by rfl) T.b_enumerate (l_of_f (f_of (e_var (pv 6))))) (blkOk_by (by kernel_rfl)) (fun _ _ _ _ _ => (g_tup (pg_tup rfl (gs_cons (g_nm sc_found_map.nd) (gs_cons (g_nm sc_found_map.nd) gs_nil))))) (fun _ _ _ _ _ => (pts_one (t_cmp (o_neX hu) (p_of (e_op o_and (p_var (pv 2)) (p_of (e_op o_sub (p_var (pv 2)) (p_of e_int))))) (p_of e_int) rfl))) (fun _ _ _ _ _ => (e_var (pv 7)))))
    (ss_cons (s_if (t_cmp (o_eqX hu) (p_var (pv 8)) (p_of (e_lst (k := 1) a_nil)) rfl) (ss_one (s_ret (e_tupleOf (by rfl) T.b_tuple (l_of_f (f_of (e_comp (vs := [2]) (by decide) (pe_lc (own := [("own", 2)]) rfl sc_found_map.nd (i_sq (l_of_f (f_of (e_var (pv 6))))) (blkOk_by (by kernel_rfl)) (fun _ _ _ _ _ => (g_nm sc_found_map.nd)) (fun _ _ _ _ _ => ts_nil) (fun _ _ _ _ _ => (e_op o_sub (p_of (e_bits (p_var (pv 2)))) (p_of e_int)))))))))) ss_nil)
    (ss_cons (s_set (i := 7) sc_found_map.nd (e_of (f_sub hu1 (f_of (e_var (pv 8))) (p_of e_int) (fun _ _ => rfl))))
    (ss_one (s_for [9] (ps_for PassesOwn.never rfl (i_rgdn (pi_range3 (by rfl) T.b_range (pa_cons (p_of (e_op o_sub (p_sub hu1 (p_var (pv 1)) (p_of e_int) (fun _ _ => rfl)) (p_of e_int))) (pa_cons (p_of e_negc) (pa_cons (p_of e_negc) pa_nil))))) (g_nm sc_found_map.nd) (ss_one (s_if (t_cmp (o_eqX hu) (p_of (e_op o_and (p_of (e_op o_shr (p_sub hu1 (p_var (pv 6)) (p_var (pv 7)) (fun _ _ => rfl)) (p_var (pv 9)))) (p_of e_int))) (p_of e_int) rfl) (ss_one (s_app (.inr rfl) (ps_expr (pe_bm PySem.F.plainAttrs_list PySem.F.slot_list_append PySem.F.type_list_append mt_append (pl_var (pv 5)) (pa_cons (e_cat (.inl rfl) (l_of_f (f_of (e_cat (.inl rfl) (l_of_f (f_of (e_sl (l_of_f (f_of (e_var (pv 6)))) o_none (o_some (p_var (pv 7)))))) (l_of_f (f_of (e_lst (k := 1) (a_cons (e_op o_shl (p_of e_int) (p_var (pv 9))) a_nil))))))) (l_of_f (f_of (e_sl (l_of_f (f_of (e_var (pv 6)))) (o_some (p_of (e_op o_add (p_var (pv 7)) (p_of e_int)))) o_none)))) pa_nil))))) ss_nil)))))))) ss_nil)))))
    (ss_one (s_ret e_non))))))
theorem ok_any_map (T : Txt K mg) : FnG P w K mg base 3 T.a_any_map T.d_any_map ["one", "other"] (spF K 0 2 sem_any_map) := fnG_ok T.f_any_map sc_any_map fun cdv A outer s H E hg hr =>
    have hu := un200 hr
    have hu1 := hu_of hr
    (ss_one (s_ret (e_callG (ok_found_map T) hg (hr.mono (by decide)) (by rfl) T.m_found_map T.f_found_map.kp (T.f_found_map.binds (fun _ _ _ _ _ _ us hl => match us, hl with | [_, _], _ => rfl)) (ag_va (f_of (e_var (pv 0))) (ag_va (f_of (e_var (pv 1))) ag_nil)))))
theorem ok_full_web (T : Txt K mg) : FnG P w K mg base 1 T.a_full_web T.d_full_web ["n"] (spF K 3 1 sem_full_web) := fnG_ok T.f_full_web sc_full_web fun cdv A outer s H E hg hr =>
    have hu := un200 hr
    have hu1 := hu_of hr
    (ss_cons (s_set (i := 1) sc_full_web.nd (e_lst (k := 1) a_nil))
    (ss_cons (s_for [2] (ps_for PassesOwn.never rfl (i_rg1 (pi_range1 (by rfl) T.b_range (pa_cons (p_var (pv 0)) pa_nil))) (g_nm sc_full_web.nd) (ss_one (s_ext (.inr rfl) (ps_expr (pe_bm PySem.F.plainAttrs_list PySem.F.slot_list_extend PySem.F.type_list_extend mt_extend (pl_var (pv 1)) (pa_cons (l_of_f (f_of (e_comp (vs := [3]) (by decide) (pe_lc (own := [("other", 3)]) rfl sc_full_web.nd (i_rg2 (pi_range2 (by rfl) T.b_range (pa_cons (p_of (e_op o_add (p_var (pv 2)) (p_of e_int))) (pa_cons (p_var (pv 0)) pa_nil)))) (blkOk_by (by kernel_rfl)) (fun _ _ _ _ _ => (g_nm sc_full_web.nd)) (fun _ _ _ _ _ => ts_nil) (fun _ _ _ _ _ => (e_tup (a_cons (e_var (pv 2)) (a_cons (e_var (pv 3)) a_nil)))))))) pa_nil)))))))
    (ss_one (s_ret (e_tup (a_cons (e_var (pv 0)) (a_cons (e_tupleOf (by rfl) T.b_tuple (l_of_f (f_of (e_var (pv 1))))) a_nil)))))))
theorem ok_law (T : Txt K mg) : FnG P w K mg base 10 T.a_law T.d_law ["script"] (spF K 24 1 sem_law) := fnG_ok T.f_law sc_law fun cdv A outer s H E hg hr =>
    have hu := un200 hr
    have hu1 := hu_of hr
    (ss_cons (s_set (i := 1) sc_law.nd (e_callG (ok__law_deck T) hg (hr.mono (by decide)) (by rfl) T.m__law_deck T.f__law_deck.kp (T.f__law_deck.binds (fun _ _ _ _ _ _ us hl => match us, hl with | [_], _ => rfl)) (ag_va (f_of (e_var (pv 0))) ag_nil)))
    (ss_cons (s_for [2, 3, 4, 6, 7, 9, 11, 14, 15, 16, 19, 20, 24] (ps_for PassesOwn.never rfl (i_rg1 (pi_range1 (by rfl) T.b_range (pa_cons (p_of e_int) pa_nil))) (g_nm sc_law.nd) (ss_cons (s_asg (ps_asg (e_callG (ok__law_ordered T) hg (hr.mono (by decide)) (by rfl) T.m__law_ordered T.f__law_ordered.kp (T.f__law_ordered.binds (fun _ _ _ _ _ _ us hl => match us, hl with | [_, _], _ => rfl)) (ag_bo (pv 1) (ag_va (f_of (e_callG (ok__law_pick T) hg (hr.mono (by decide)) (by rfl) T.m__law_pick T.f__law_pick.kp (T.f__law_pick.binds (fun _ _ _ _ _ _ us hl => match us, hl with | [_, _], _ => rfl)) (ag_bo (pv 1) (ag_va (f_of (e_lst (k := 1) (a_cons e_int (a_cons e_int (a_cons e_int a_nil))))) ag_nil)))) ag_nil))) (g_tup (pg_tup rfl (gs_cons (g_nm sc_law.nd) (gs_cons (g_nm sc_law.nd) gs_nil))))))
    (ss_cons (s_if (t_cmp (o_eqX hu) (p_of (e_callG (ok__law_draw T) hg (hr.mono (by decide)) (by rfl) T.m__law_draw T.f__law_draw.kp (T.f__law_draw.binds (fun _ _ _ _ _ _ us hl => match us, hl with | [_, _], _ => rfl)) (ag_bo (pv 1) (ag_va (f_of e_int) ag_nil)))) (p_of e_int) rfl) (ss_one (s_set (i := 4) sc_law.nd (e_tupleOf (by rfl) T.b_tuple (l_of_f (f_of (e_comp (vs := [5]) (by decide) (pe_lc (own := [("way", 5)]) rfl sc_law.nd (i_sq (l_of_f (f_of (e_var (pv 4))))) (blkOk_by (by kernel_rfl)) (fun _ _ _ _ _ => (g_nm sc_law.nd)) (fun _ _ _ _ _ => ts_nil) (fun _ _ _ _ _ => (e_op o_sub (p_of e_int) (p_var (pv 5))))))))))) ss_nil)
    (ss_cons (s_parN rfl (ps_asg (pe_tup (a_cons (e_b1 (c_repr hg hu) (by rfl) T.b_repr (by rfl) (p_of (e_tup (a_cons (e_var (pv 3)) (a_cons (e_var (pv 4)) a_nil))))) (a_cons (e_fz (e_callG (ok__law_levels T) hg (hr.mono (by decide)) (by rfl) T.m__law_levels T.f__law_levels.kp (T.f__law_levels.binds (fun _ _ _ _ _ _ us hl => match us, hl with | [_, _], _ => rfl)) (ag_va (f_of (e_var (pv 3))) (ag_va (f_of (e_var (pv 4))) ag_nil)))) a_nil))) (pg_tup rfl (gn_cons sc_law.nd (gn_cons sc_law.nd gn_nil)))))
    (ss_cons (s_set (i := 9) sc_law.nd (e_tupleOf (by rfl) T.b_tuple (l_of_f (f_of (e_comp (vs := [8]) (by decide) (pe_lc (own := [("road", 8)]) rfl sc_law.nd (i_sq (l_of_f (f_sub hu1 (f_of (e_var (pv 3))) (p_of e_int) (fun _ _ => rfl)))) (blkOk_by (by kernel_rfl)) (fun _ _ _ _ _ => (g_nm sc_law.nd)) (fun _ _ _ _ _ => ts_nil) (fun _ _ _ _ _ => (e_callG (ok__law_draw T) hg (hr.mono (by decide)) (by rfl) T.m__law_draw T.f__law_draw.kp (T.f__law_draw.binds (fun _ _ _ _ _ _ us hl => match us, hl with | [_, _], _ => rfl)) (ag_bo (pv 1) (ag_va (f_of e_int) ag_nil))))))))))
    (ss_cons (s_set (i := 11) sc_law.nd (e_fz (e_cat (.inl rfl) (l_of_f (f_of (e_lst (k := 1) (a_cons (e_var (pv 4)) (a_cons (e_var (pv 9)) (a_cons (e_tup a_nil) (a_cons e_non (a_cons (e_callG (ok__law_any T 6) hg (hr.mono (by decide)) (by rfl) T.m__law_any T.f__law_any.kp (T.f__law_any.binds (fun _ _ _ _ _ _ us hl => match us, hl with | [_, _], _ => rfl)) (ag_bo (pv 1) (ag_va (f_of e_int) ag_nil))) a_nil)))))))) (l_of_f (f_of (e_comp (vs := [10]) (by decide) (pe_lc (own := [("again", 10)]) rfl sc_law.nd (i_rg1 (pi_range1 (by rfl) T.b_range (pa_cons (p_of e_int) pa_nil))) (blkOk_by (by kernel_rfl)) (fun _ _ _ _ _ => (g_nm sc_law.nd)) (fun _ _ _ _ _ => ts_nil) (fun _ _ _ _ _ => (e_callG (ok__law_bent_tuple T) hg (hr.mono (by decide)) (by rfl) T.m__law_bent_tuple T.f__law_bent_tuple.kp (T.f__law_bent_tuple.binds (fun _ _ _ _ _ _ us hl => match us, hl with | [_, _, _], _ => rfl)) (ag_bo (pv 1) (ag_va (f_of (e_var (pv 4))) (ag_va (f_of e_int) ag_nil))))))))))))
    (ss_cons (s_for [12, 13, 14, 15, 16] (ps_for PassesOwn.never rfl (i_enum (by rfl) T.b_enumerate (l_of_f (f_of (e_var (pv 11))))) (g_tup (pg_tup rfl (gs_cons (g_nm sc_law.nd) (gs_cons (g_nm sc_law.nd) gs_nil)))) (ss_cons (s_par (ps_par (i := 14) (j := 15) rfl sc_law.nd rfl rfl (by decide) rfl rfl (a_cons (e_fz (e_callG (ok__law_closed_fault T) hg (hr.mono (by decide)) (by rfl) T.m__law_closed_fault T.f__law_closed_fault.kp (T.f__law_closed_fault.binds (fun _ _ _ _ _ _ us hl => match us, hl with | [_, _], _ => rfl)) (ag_va (f_of (e_var (pv 3))) (ag_va (f_of (e_var (pv 13))) ag_nil)))) (a_cons (e_b1 (c_repr hg hu) (by rfl) T.b_repr (by rfl) (p_var (pv 13))) a_nil)) rfl))
    (ss_cons (s_set (i := 16) sc_law.nd (e_fz (e_ite (t_cmp (o_eqX hu) (p_var (pv 12)) (p_of e_int) rfl) (e_callGK (ks := ["value", "web"]) ord_kw10 (ok_closed_error T) hg (hr.mono (by decide)) (by rfl) T.m_closed_error T.f_closed_error.kp (kb_kw10 T.f_closed_error (fun _ _ _ _ _ _ us ws hl => match us, ws, hl with | [], [_, _], _ => rfl)) (kg_va (f_of (e_var (pv 13))) (kg_va (f_of (e_var (pv 3))) kg_nil))) (e_callG (ok_closed_error T) hg (hr.mono (by decide)) (by rfl) T.m_closed_error T.f_closed_error.kp (T.f_closed_error.binds (fun _ _ _ _ _ _ us hl => match us, hl with | [_, _], _ => rfl)) (ag_va (f_of (e_var (pv 3))) (ag_va (f_of (e_var (pv 13))) ag_nil))))))
    (ss_one (s_if (t_or (t_cmp (o_neX hu) (p_of (e_b1 (c_repr hg hu) (by rfl) T.b_repr (by rfl) (p_var (pv 16)))) (p_of (e_b1 (c_repr hg hu) (by rfl) T.b_repr (by rfl) (p_var (pv 14)))) rfl) (t_or1 (t_cmp (o_neX hu) (p_of (e_b1 (c_repr hg hu) (by rfl) T.b_repr (by rfl) (p_var (pv 13)))) (p_var (pv 15)) rfl))).pt (ss_one (s_ret e_bl)) ss_nil))))))
    (ss_cons (s_if (t_cmp (o_neX hu) (p_of (e_b1 (c_repr hg hu) (by rfl) T.b_repr (by rfl) (p_of (e_lst (k := 1) (a_cons (e_callG (ok_order_levels T) hg (hr.mono (by decide)) (by rfl) T.m_order_levels T.f_order_levels.kp (T.f_order_levels.binds (fun _ _ _ _ _ _ us hl => match us, hl with | [_, _], _ => rfl)) (ag_va (f_of (e_var (pv 3))) (ag_va (f_of (e_var (pv 4))) ag_nil))) (a_cons (e_callGK (ks := ["order", "web"]) ord_kw10 (ok_order_levels T) hg (hr.mono (by decide)) (by rfl) T.m_order_levels T.f_order_levels.kp (kb_kw10 T.f_order_levels (fun _ _ _ _ _ _ us ws hl => match us, ws, hl with | [], [_, _], _ => rfl)) (kg_va (f_of (e_var (pv 4))) (kg_va (f_of (e_var (pv 3))) kg_nil))) a_nil)))))) (p_of (e_b1 (c_repr hg hu) (by rfl) T.b_repr (by rfl) (p_of (e_lst (k := 1) (a_cons (e_var (pv 7)) (a_cons (e_var (pv 7)) a_nil)))))) rfl) (ss_one (s_ret e_bl)) ss_nil)
    (ss_cons (s_if (t_cmp (o_neX hu) (p_of (e_comp (vs := [17, 18]) (by decide) (pe_lc (own := [("i", 17), ("j", 18)]) rfl sc_law.nd (i_sq (l_of_f (f_sub hu1 (f_of (e_var (pv 3))) (p_of e_int) (fun _ _ => rfl)))) (blkOk_by (by kernel_rfl)) (fun _ _ _ _ _ => (g_tup (pg_tup rfl (gs_cons (g_nm sc_law.nd) (gs_cons (g_nm sc_law.nd) gs_nil))))) (fun _ _ _ _ _ => (pts_one (t_cmp (o_eqX hu) (p_sub hu1 (p_var (pv 7)) (p_var (pv 17)) (fun _ _ => rfl)) (p_sub hu1 (p_var (pv 7)) (p_var (pv 18)) (fun _ _ => rfl)) rfl))) (fun _ _ _ _ _ => e_int)))) (p_of (e_lst (k := 1) a_nil)) rfl) (ss_one (s_ret e_bl)) ss_nil)
    (ss_cons (s_parN rfl (ps_asg (pe_tup (a_cons (e_fz (e_callG (ok_longest_chain T) hg (hr.mono (by decide)) (by rfl) T.m_longest_chain T.f_longest_chain.kp (T.f_longest_chain.binds (fun _ _ _ _ _ _ us hl => match us, hl with | [_, _], _ => rfl)) (ag_va (f_of (e_var (pv 3))) (ag_va (f_of (e_var (pv 4))) ag_nil)))) (a_cons (e_fz (e_callG (ok__law_led T) hg (hr.mono (by decide)) (by rfl) T.m__law_led T.f__law_led.kp (T.f__law_led.binds (fun _ _ _ _ _ _ us hl => match us, hl with | [_, _], _ => rfl)) (ag_va (f_of (e_var (pv 3))) (ag_va (f_of (e_var (pv 4))) ag_nil)))) a_nil))) (pg_tup rfl (gn_cons sc_law.nd (gn_cons sc_law.nd gn_nil)))))
    (ss_cons (s_if (t_or (t_cmp (o_neX hu) (p_of (e_b1 (c_repr hg hu) (by rfl) T.b_repr (by rfl) (p_of (e_callGK (ks := ["order", "web"]) ord_kw10 (ok_longest_chain T) hg (hr.mono (by decide)) (by rfl) T.m_longest_chain T.f_longest_chain.kp (kb_kw10 T.f_longest_chain (fun _ _ _ _ _ _ us ws hl => match us, ws, hl with | [], [_, _], _ => rfl)) (kg_va (f_of (e_var (pv 4))) (kg_va (f_of (e_var (pv 3))) kg_nil)))))) (p_of (e_b1 (c_repr hg hu) (by rfl) T.b_repr (by rfl) (p_var (pv 19)))) rfl) (t_or1 (t_not (t_val (e_isi (by rfl) T.b_isinstance (by rfl) T.b_tuple (by rfl) (p_var (pv 19))))))).pt (ss_one (s_ret e_bl)) ss_nil)
    (ss_cons (s_if (t_not (t_val (e_b1 (c_all rfl) (by rfl) T.b_all (by rfl) (p_of (e_comp (vs := [21]) (by decide) (pe_lc (own := [("house", 21)]) rfl sc_law.nd (i_sq (l_of_f (f_of (e_var (pv 19))))) (blkOk_by (by kernel_rfl)) (fun _ _ _ _ _ => (g_nm sc_law.nd)) (fun _ _ _ _ _ => ts_nil) (fun _ _ _ _ _ => (e_callG (ok__law_is_house T) hg (hr.mono (by decide)) (by rfl) T.m__law_is_house T.f__law_is_house.kp (T.f__law_is_house.binds (fun _ _ _ _ _ _ us hl => match us, hl with | [_, _], _ => rfl)) (ag_va (f_of (e_var (pv 21))) (ag_va (f_sub hu1 (f_of (e_var (pv 3))) (p_of e_int) (fun _ _ => rfl)) ag_nil)))))))))) (ss_one (s_ret e_bl)) ss_nil)
    (ss_cons (s_if (t_cmp (o_neX hu) (p_of (e_comp (vs := [22]) (by decide) (pe_lc (own := [("pair", 22)]) rfl sc_law.nd (i_zip1 (by rfl) T.b_zip (l_of_f (f_of (e_var (pv 19)))) (l_of_f (f_of (e_sl (l_of_f (f_of (e_var (pv 19)))) (o_some (p_of e_int)) o_none)))) (blkOk_by (by kernel_rfl)) (fun _ _ _ _ _ => (g_nm sc_law.nd)) (fun _ _ _ _ _ => (pts_one (t_cmp (o_notinX hu) (p_var (pv 22)) (p_var (pv 20)) rfl))) (fun _ _ _ _ _ => e_int)))) (p_of (e_lst (k := 1) a_nil)) rfl) (ss_one (s_ret e_bl)) ss_nil)
    (ss_cons (s_set (i := 24) sc_law.nd (e_b1 (c_maxL rfl hu) (by rfl) T.b_max (by rfl) (p_of (e_cat (.inl rfl) (l_of_f (f_of (e_lst (k := 1) (a_cons e_int a_nil)))) (l_of_f (f_of (e_comp (vs := [23]) (by decide) (pe_lc (own := [("level", 23)]) rfl sc_law.nd (i_sq (l_of_f (f_of (e_var (pv 7))))) (blkOk_by (by kernel_rfl)) (fun _ _ _ _ _ => (g_nm sc_law.nd)) (fun _ _ _ _ _ => ts_nil) (fun _ _ _ _ _ => (e_op o_add (p_var (pv 23)) (p_of e_int)))))))))))
    (ss_cons (s_if (t_or (t_cmp (o_neX hu) (p_of (e_b1 c_len (by rfl) T.b_len (by rfl) (p_var (pv 19)))) (p_var (pv 24)) rfl) (t_or (t_cmp (o_neX hu) (p_of (e_callG (ok__law_greatest_full T) hg (hr.mono (by decide)) (by rfl) T.m__law_greatest_full T.f__law_greatest_full.kp (T.f__law_greatest_full.binds (fun _ _ _ _ _ _ us hl => match us, hl with | [_], _ => rfl)) (ag_va (f_of (e_var (pv 3))) ag_nil))) (p_var (pv 24)) rfl) (t_or1 (t_cmp (o_neX hu) (p_of (e_callG (ok_full_size T) hg (hr.mono (by decide)) (by rfl) T.m_full_size T.f_full_size.kp (T.f_full_size.binds (fun _ _ _ _ _ _ us hl => match us, hl with | [_], _ => rfl)) (ag_va (f_of (e_var (pv 3))) ag_nil))) (p_var (pv 24)) rfl)))).pt (ss_one (s_ret e_bl)) ss_nil)
    (ss_cons (s_if (t_and (t_chain o_lt o_lt (p_of e_int) (p_sub hu1 (p_var (pv 3)) (p_of e_int) (fun _ _ => rfl)) (p_of e_int)) (t_and1 (t_cmp o_gt (p_var (pv 24)) (p_of e_int) rfl))).pt (ss_one (s_if (t_or (t_isn (p_of (e_callG (ok_any_map T) hg (hr.mono (by decide)) (by rfl) T.m_any_map T.f_any_map.kp (T.f_any_map.binds (fun _ _ _ _ _ _ us hl => match us, hl with | [_, _], _ => rfl)) (ag_va (f_of (e_var (pv 3))) (ag_va (f_of (e_callG (ok_full_web T) hg (hr.mono (by decide)) (by rfl) T.m_full_web T.f_full_web.kp (T.f_full_web.binds (fun _ _ _ _ _ _ us hl => match us, hl with | [_], _ => rfl)) (ag_va (f_of (e_var (pv 24))) ag_nil))) ag_nil))))) (t_or1 (t_notn (p_of (e_callG (ok_any_map T) hg (hr.mono (by decide)) (by rfl) T.m_any_map T.f_any_map.kp (T.f_any_map.binds (fun _ _ _ _ _ _ us hl => match us, hl with | [_, _], _ => rfl)) (ag_va (f_of (e_var (pv 3))) (ag_va (f_of (e_callG (ok_full_web T) hg (hr.mono (by decide)) (by rfl) T.m_full_web T.f_full_web.kp (T.f_full_web.binds (fun _ _ _ _ _ _ us hl => match us, hl with | [_], _ => rfl)) (ag_va (f_of (e_op o_sub (p_var (pv 24)) (p_of e_int))) ag_nil))) ag_nil))))))).pt (ss_one (s_ret e_bl)) ss_nil)) ss_nil)
    (ss_one (s_if (t_cmp (o_neX hu) (p_of (e_b1 (c_repr hg hu) (by rfl) T.b_repr (by rfl) (p_of (e_tup (a_cons (e_var (pv 3)) (a_cons (e_var (pv 4)) a_nil)))))) (p_var (pv 6)) rfl) (ss_one (s_ret e_bl)) ss_nil)))))))))))))))))))
    (ss_one (s_ret e_bl))))
end
end K88

set_option Elab.async false
set_option linter.all false
set_option autoImplicit false
set_option maxRecDepth 100000
set_option maxHeartbeats 4000000
/-! P88: what the defs of k88 compute (no program, no heap). -/
namespace K88
open PySem PySem.Spec L2 Ev
def intL (g : List Int) : List D := g.map .int
def dk (g : List Int) (m t : Int) : D := .dK [(.inr "great", .lst (intL g)), (.inr "mixed", .int m), (.inr "turns", .int t)]
theorem dk_g (g : List Int) (m t : Int) : gIx (dk g m t) (.str "great") = some (.lst (intL g)) := by rfl
theorem dk_m (g : List Int) (m t : Int) : gIx (dk g m t) (.str "mixed") = some (.int m) := by rfl
theorem dk_t (g : List Int) (m t : Int) : gIx (dk g m t) (.str "turns") = some (.int t) := by rfl
theorem dk_pt (g : List Int) (m t x : Int) : gPut 1 (dk g m t) (.str "turns") (.int x) = some (dk g m x) := by rfl
theorem dk_pm (g : List Int) (m t x : Int) : gPut 1 (dk g m t) (.str "mixed") (.int x) = some (dk g x t) := by rfl
theorem shs_intL : ∀ (g : List Int) (n : Nat), shs (intL g) n = true
  | [], _ => rfl
  | a :: r, n => by show (D.sh (.int a) n && shs (intL r) n) = true; rw [shs_intL r n]; rfl
theorem ne_nil (g : List Int) : gNeX (.lst (intL g)) (.lst []) = some (.bl (!g.isEmpty)) := by
  have h : ((D.lst (intL g)).sh 64 && (D.lst []).sh 64) = true := by
    show (shs (intL g) 63 && true) = true
    rw [shs_intL]; rfl
  show (if ((D.lst (intL g)).sh 64 && (D.lst []).sh 64) = true then some (D.bl (!D.eqv (.lst (intL g)) (.lst []))) else none) = _
  rw [if_pos h]
  cases g <;> rfl
variable {N : En → Prop} {R : Rv → En → Prop} {B C : En → Prop}
theorem dk_pg (g g' : List Int) (m t : Int) : putP (dk g m t) (some (.str "great")) (.lst (intL g')) = dk g' m t := by rfl
theorem dk_sg (g : List Int) (m t : Int) : subP (dk g m t) (some (.str "great")) = some (.lst (intL g)) := by rfl
theorem w_plG {i : Nat} {g : List Int} {m t : Int} {mm : Nat} {e : En} {Q : Option D → En → Prop} (h : e[i]? = some (some ⟨dk g m t, 2, mm⟩)) (hm : mm ≠ 2) (q : Q (some (.str "great")) e) : W (plSub i (pkE (sC (.str "great")))) Q e :=
  w_plSub ⟨_, h⟩ (w_pkE (w_c ⟨_, _, h, dk_sg .., by simp [hm], q⟩))
theorem at_G {i : Nat} {g : List Int} {m t : Int} {mm : Nat} {e : En} (h : e[i]? = some (some ⟨dk g m t, 2, mm⟩)) (hm : mm ≠ 2) : atList i (some (.str "great")) e = some (⟨dk g m t, 2, mm⟩, intL g, 0) := by
  have ok : okP (dk g m t) (some (.str "great")) = true := by rfl
  unfold atList
  rw [h]
  simp only [dk_sg, depP, ok]
  rw [if_pos ⟨hm, trivial, by decide⟩]
theorem map_er {α β : Type} (f : α → β) : ∀ (l : List α) (n : Nat), (l.map f).eraseIdx n = (l.eraseIdx n).map f
  | [], n => by simp
  | a :: r, 0 => by simp
  | a :: r, n + 1 => by simp [map_er f r n]
theorem w_popG {i : Nat} {g : List Int} {m t : Int} {mm : Nat} {e : En} {Q : Rv → En → Prop} (h : e[i]? = some (some ⟨dk g m t, 2, mm⟩)) (hm : mm ≠ 2) (hg : g ≠ [])
    (q : ∀ a g', g'.length < g.length → Q (.int a, 0) (e.set i (some ⟨dk g' m t, 2, mm⟩))) : W (sPop i (plSub i (pkE (sC (.str "great"))))) Q e := by
  have hl : 0 < g.length := List.length_pos_iff.mpr hg
  have len : (intL g).length = g.length := List.length_map ..
  refine w_pop (w_plG h hm ⟨_, _, _, .int (g[g.length - 1]'(by omega)), at_G h hm, ?_, ?_⟩)
  · rw [len]
    show (g.map D.int)[g.length - 1]? = _
    rw [List.getElem?_map, List.getElem?_eq_getElem (by omega)]
    rfl
  · have : (intL g).eraseIdx ((intL g).length - 1) = intL (g.eraseIdx (g.length - 1)) := by
      rw [len]
      show (g.map D.int).eraseIdx _ = (g.eraseIdx _).map D.int
      exact map_er _ _ _
    rw [this, dk_pg]
    exact q _ _ (by rw [List.length_eraseIdx_of_lt (by omega)]; omega)
theorem ws_appG {i : Nat} {g : List Int} {m t : Int} {mm : Nat} {e : En} {s : SE} (h : e[i]? = some (some ⟨dk g m t, 2, mm⟩)) (hm : mm ≠ 2) (hg : g.length < 16777216)
    (q : W s (fun r e2 => ∃ x, r = (.int x, 0) ∧ e2[i]? = some (some ⟨dk g m t, 2, mm⟩) ∧ N (e2.set i (some ⟨dk (g ++ [x]) m t, 2, mm⟩))) e) : WS (sApp i (plSub i (pkE (sC (.str "great")))) s) N R B C e := by
  refine ws_app (w_plG h hm ⟨⟨_, at_G h hm⟩, q.mono fun r e2 ⟨x, hr, h2, q⟩ => ⟨_, _, _, at_G h2 hm, ⟨by rw [intL, List.length_map]; exact hg, rfl⟩, ?_⟩⟩)
  subst hr
  have : intL g ++ [D.int x] = intL (g ++ [x]) := by simp [intL]
  show N (e2.set i (some ⟨putP (dk g m t) _ (.lst (intL g ++ [D.int x])), 2, mm⟩))
  rw [this, dk_pg]
  exact q
theorem w_draw (g : List Int) (hg : g.length ≤ 63) (m t v : Int) (hv : v < 1073741824)
    (q : ∀ g' t' x rest, g'.length ≤ 63 → (2 ≤ v → 0 ≤ x ∧ x < v) → (v < 2 → x = 0) → R (.int x, 0) (some ⟨dk g' m t', 2, 1⟩ :: some ⟨.int v, 0, 0⟩ :: rest)) :
    WS sem__law_draw N R B C [some ⟨dk g m t, 2, 1⟩, some ⟨.int v, 0, 0⟩, none, none] := by
  unfold sem__law_draw
  refine ws_seq (ws_if (w_tv (w_op (w_pk rfl (w_pkE (w_c ⟨_, rfl, rfl, _, rfl, ?_⟩))))))
  by_cases h2 : v < 2
  · rw [if_pos (decide_eq_true h2)]
    exact ws_ret (w_c (q g t 0 _ hg (fun w => by omega) fun _ => rfl))
  · rw [if_neg (by simpa using h2)]
    refine ws_skip (ws_seq (ws_if (w_tv (w_op (w_sub (w_pk rfl (w_pkE (w_c ⟨_, dk_g .., w_pkE (w_lst (w_aNil ⟨⟨by decide, rfl⟩, ⟨_, ne_nil g, rfl, _, rfl, ?_⟩⟩))⟩))))))))
    cases g with
    | nil =>
      rw [if_neg (by simp)]
      refine ws_skip ?_
      repeat' (first
        | refine ws_seq ?_ | refine ws_setE ?_ | refine ws_asg ?_ | refine ws_ret ?_ | refine ws_skip ?_
        | refine w_op ?_ | refine w_pkE ?_ | refine w_c ?_ | refine w_c1 ?_ | refine w_sub ?_ | refine w_pk rfl ?_
        | refine wg_putT ?_ | refine w_plVar ⟨_, rfl⟩ ?_ | refine ⟨_, _, _, _, rfl, rfl, dk_pt .., ?_⟩ | refine ⟨_, _, _, _, rfl, rfl, dk_pm .., ?_⟩
        | refine ⟨_, dk_g .., ?_⟩ | refine ⟨_, dk_m .., ?_⟩ | refine ⟨_, dk_t .., ?_⟩
        | refine ⟨_, gMul_l rfl, rfl, ?_⟩ | refine ⟨_, gMul_r rfl, rfl, ?_⟩ | refine ⟨_, gMul_mod rfl, rfl, ?_⟩ | refine ⟨_, gMod_k rfl, rfl, ?_⟩ | refine ⟨_, gDiv_k rfl, rfl, ?_⟩ | refine ⟨_, rfl, rfl, ?_⟩
        | refine ⟨_, rfl, ?_⟩ | refine ⟨⟨rfl, rfl⟩, ?_⟩ | fail)
      refine ⟨_, gMod_k (decide_eq_true (show 0 < v by omega)), rfl, ?_⟩
      exact q [] (t + 1) _ _ hg (fun _ => ⟨Int.emod_nonneg _ (by omega), Int.emod_lt_of_pos _ (by omega)⟩) fun w => absurd w h2
    | cons a r =>
      rw [if_pos (by simp)]
      refine ws_seq (ws_setE (w_fz (w_popG rfl (by decide) (by simp) fun x g' hl => ⟨⟨rfl, rfl⟩, ?_⟩)))
      have hl' : g'.length < 63 := Nat.lt_of_lt_of_le hl hg
      refine ws_seq (ws_if (w_tv (w_op (w_pk rfl (w_pk rfl ⟨_, rfl, rfl, _, rfl, ?_⟩)))))
      have fin : ∀ (N' : En → Prop) (g2 : List Int), g2.length ≤ 63 → WS (sRet (sOp false gMod (pkE (sC1 gInt (sPk 2))) (sPk 1))) N' R B C [some ⟨dk g2 m t, 2, 1⟩, some ⟨.int v, 0, 0⟩, some ⟨.int x, 0, 0⟩, none] := fun N' g2 h => by
        refine ws_ret (w_op (w_pkE (w_c1 (w_pk rfl ⟨_, rfl, rfl, w_pk rfl ⟨_, gMod_k (decide_eq_true (show 0 < v by omega)), rfl, ?_⟩⟩))))
        exact q g2 t _ _ h (fun _ => ⟨Int.emod_nonneg _ (by omega), Int.emod_lt_of_pos _ (by omega)⟩) fun w => absurd w h2
      by_cases hx : v ≤ x
      · rw [if_pos (decide_eq_true hx)]
        refine ws_appG rfl (by decide) (by omega) (w_op (w_pk rfl (w_pk rfl ⟨_, gDiv_k (decide_eq_true (show 0 < v ∧ v < 1073741824 by omega)), rfl, _, rfl, rfl, ?_⟩)))
        exact fin _ _ (by simp; omega)
      · rw [if_neg (by simpa using hx)]
        refine ws_skip ?_
        exact fin _ _ (by omega)
/-- a draw from the deck in slot i -/
theorem w_drawC {i : Nat} {g : List Int} {m t v : Int} {mm : Nat} {e : En} {s : SP} {Q : Rv → En → Prop} (hg : g.length ≤ 63) (hm : mm ≠ 2)
    (h : W s (fun d e1 => d = .int v ∧ e1[i]? = some (some ⟨dk g m t, 2, mm⟩) ∧ v < 1073741824 ∧ ∀ g' t' x, g'.length ≤ 63 → (2 ≤ v → 0 ≤ x ∧ x < v) → (v < 2 → x = 0) → Q (.int x, 0) (e1.set i (some ⟨dk g' m t', 2, mm⟩))) e)
    (hi : ∃ s, e[i]? = some (some s)) : W (sCall 2 2 sem__law_draw (agBo i (agVa s agNil))) Q e := by
  refine w_call (w_gBo hi (w_gVa (h.mono fun d e1 ⟨hd, he, hv, q⟩ => w_gNil ⟨[some ⟨dk g m t, 2, 1⟩, some ⟨.int v, 0, 0⟩], ?_, ⟨rfl, by simp [agI]⟩, ?_⟩)))
  · subst hd
    simp [agSl, he, hm]
  · refine w_draw g hg m t v hv fun g' t' x rest h1 h2 h3 => ?_
    have : backE [.bo i, .va d] (some ⟨dk g' m t', 2, 1⟩ :: some ⟨.int v, 0, 0⟩ :: rest) e1 = e1.set i (some ⟨dk g' m t', 2, mm⟩) := by
      simp [backE, he]
    rw [this]
    exact q g' t' x h1 h2 h3
section
variable {e : En}
theorem w_dNil {Q : List (Key × Rv) → En → Prop} (q : Q [] e) : W sdNil Q e := ⟨_, _, rfl, q⟩
theorem w_dCons {k : SP} {v : SE} {t : SD} {Q : List (Key × Rv) → En → Prop} (h : W k (fun d e => ∃ key, kD d = some key ∧ W v (fun r e => W t (fun kvs e => Q ((key, r) :: kvs) e) e) e) e) : W (sdCons k v t) Q e :=
  let ⟨d, e1, h1, key, hk, r, e2, h2, kvs, e3, h3, q⟩ := h; ⟨_, _, by simp only [sdCons, h1, hk, h2, h3], q⟩
theorem w_disp {k : Nat} {t : SD} {Q : Rv → En → Prop} (h : W t (fun kvs e => (decide (kvs.length ≤ 15) = true ∧ decide (kvs.map (·.1)).Nodup = true ∧ ownOk k (kvs.map (·.2)) = true) ∧ Q (.dK (kvs.map fun kv => (kv.1, kv.2.1)), k) e) e) : W (sDisp k t) Q e := by
  obtain ⟨kvs, e1, h1, ⟨c1, c2, c3⟩, q⟩ := h
  exact ⟨_, _, by simp only [sDisp, h1, if_pos (show _ ∧ _ ∧ _ from ⟨of_decide_eq_true c1, of_decide_eq_true c2, c3⟩)], q⟩
end
/-- the deck of a script -/
theorem w_deck (ns : List Int) (h : ns.length ≤ 63) (q : ∀ g m t rest, g.length ≤ 63 → R (dk g m t, 2) (some ⟨.scr ns, 0, 0⟩ :: rest)) : WS sem__law_deck N R B C [some ⟨.scr ns, 0, 0⟩, none, none, none] := by
  unfold sem__law_deck
  have cut : ∃ ms : List Int, cutD (ns.map D.int) none (some 63) = ms.map D.int ∧ ms.length ≤ 63 := by
    refine ⟨(ns.drop (HT.sIx (ns.map D.int).length 0 none)).take (HT.sIx (ns.map D.int).length (ns.map D.int).length (some 63) - HT.sIx (ns.map D.int).length 0 none), ?_, ?_⟩
    · unfold cutD
      rw [List.map_take, List.map_drop]
    · rw [List.length_take, List.length_drop]; omega
  obtain ⟨ms, hc, hm⟩ := cut
  have cutW : ∀ {Q : Rv → En → Prop} {r : En}, Q (.lst (intL ms), 1) (some ⟨.scr ns, 0, 0⟩ :: r) → W (sScr (pkE (sVar 0)) soNone (soSome (pkE (sC (.int 63))))) Q (some ⟨.scr ns, 0, 0⟩ :: r) := fun q => by
    refine w_scr (w_pkE (w_var0 rfl (.inl rfl) ⟨ns, rfl, w_oNone (w_oSome (w_pkE (w_c ⟨63, rfl, ?_⟩)))⟩))
    rw [hc]
    exact q
  refine ws_seq (ws_setE (w_disp (w_dCons (w_pkE (w_c ⟨_, rfl, w_lst (w_aNil ⟨⟨by decide, rfl⟩, w_dCons (w_pkE (w_c ⟨_, rfl, w_op (w_pkE (w_c (w_pkE (w_c1 (w_pkE (cutW ⟨_, rfl, rfl, _, rfl, rfl, w_dCons (w_pkE (w_c ⟨_, rfl, w_c (w_dNil ⟨⟨rfl, rfl, rfl⟩, ⟨rfl, rfl⟩, ?_⟩)⟩))⟩))))))⟩))⟩)⟩)))))
  show WS _ N R B C [some ⟨.scr ns, 0, 0⟩, some ⟨dk [] (1625988 + ((intL ms).length : Int)) 0, 2, 0⟩, none, none]
  refine ws_seq (ws_for (fun ds e => ∃ (ms' g : List Int) (m t : Int), ds = intL ms' ∧ g.length + ms'.length ≤ 63 ∧ e = [some ⟨.scr ns, 0, 0⟩, some ⟨dk g m t, 2, 0⟩, none, none])
    (w_it (w_itm (w_pkE (cutW (.inl ⟨_, rfl, ms, [], _, _, rfl, by simpa using hm, rfl⟩))))) ?_ ?_)
  · rintro d ds e ⟨ms', g, m, t, hd, hl, rfl⟩
    cases ms' with
    | nil => cases hd
    | cons c ms' =>
      cases hd
      simp only [List.length_cons] at hl
      refine wg_setE rfl rfl ?_
      repeat' (first
        | refine ws_seq ?_ | refine ws_setE ?_ | refine ws_asg ?_ | refine ws_ret ?_ | refine ws_skip ?_ | refine ws_if ?_ | refine w_tv ?_
        | refine w_op ?_ | refine w_pkE ?_ | refine w_c ?_ | refine w_c1 ?_ | refine w_sub ?_ | refine w_pk rfl ?_
        | refine ⟨_, gMul_l rfl, rfl, ?_⟩ | refine ⟨_, gMul_r rfl, rfl, ?_⟩ | refine ⟨_, rfl, rfl, ?_⟩ | refine ⟨_, rfl, ?_⟩
        | refine ⟨⟨rfl, rfl⟩, ?_⟩ | fail)
      by_cases hb : decide ((10 : Int) ^ Int.toNat 16 ≤ (2 * if c < 0 then -c else c) + if (decide (c < 0)) = true then 1 else 0) = true
      refine Eq.mpr (if_pos hb) ?_
      refine ws_appG (i := 1) (g := g) (m := m) (t := t) (mm := 0) rfl (by decide) (by omega) ?_
      refine w_var0 rfl (.inl rfl) ?_
      refine ⟨_, rfl, rfl, ?_⟩
      rotate_left
      refine Eq.mpr (if_neg hb) ?_
      refine ws_skip ?_
      rotate_left
      all_goals repeat' (first
        | refine ws_asg ?_ | refine w_op ?_ | refine w_pkE ?_ | refine w_c ?_ | refine w_c1 ?_ | refine w_sub ?_ | refine w_pk rfl ?_
        | refine wg_putT ?_ | refine w_plVar ⟨_, rfl⟩ ?_ | refine ⟨_, _, _, _, rfl, rfl, dk_pm .., ?_⟩
        | refine ⟨_, dk_m .., ?_⟩
        | refine ⟨_, gMul_r rfl, rfl, ?_⟩ | refine ⟨_, gMod_k rfl, rfl, ?_⟩ | refine ⟨_, rfl, rfl, ?_⟩
        | fail)
      · exact ⟨_, rfl, ms', _, _, _, rfl, by rw [List.length_append]; simp only [List.length_cons, List.length_nil]; omega, rfl⟩
      · exact ⟨_, rfl, ms', _, _, _, rfl, by omega, rfl⟩
  · rintro e ⟨ms', g, m, t, hd, hl, rfl⟩
    refine ws_ret (w_mv rfl rfl ?_)
    exact q g m t _ (by omega)
theorem w_pick (g : List Int) (hg : g.length ≤ 63) (m t : Int) (ds : List D) (k : Nat) (b : Bool) (hl : ds ≠ []) (hb : ds.length < 1073741824)
    (q : ∀ g' t' d rest, g'.length ≤ 63 → d ∈ ds → R (d, 0) (some ⟨dk g' m t', 2, 1⟩ :: rest)) :
    WS sem__law_pick N R B C [some ⟨dk g m t, 2, 1⟩, some ⟨if b = true then .tup ds else .lst ds, 0, 0⟩, none, none] := by
  have pos : 0 < ds.length := List.length_pos_iff.mpr hl
  unfold sem__law_pick
  refine ws_ret (w_pkV (w_sub (w_pkE (w_var0 rfl (.inl rfl) (w_pkE (w_drawC (g := g) (m := m) (t := t) (v := ds.length) (mm := 1) hg (by decide) (w_pkE (w_c1 (w_pk rfl ⟨.int ds.length, by cases b <;> rfl, rfl, rfl, rfl, by omega, fun g' t' x h1 h2 h3 => ?_⟩))) ⟨_, rfl⟩))))))
  have hx : 0 ≤ x ∧ x < ds.length := by
    by_cases h : (2 : Int) ≤ ds.length
    · exact h2 h
    · rw [h3 (by omega)]; omega
  obtain ⟨n, rfl⟩ : ∃ n : Nat, x = n := ⟨x.toNat, by omega⟩
  have hn : n < ds.length := by omega
  have ha : atI ds (n : Int) = some ds[n] := by
    unfold atI ixN
    simp [hn]
  refine ⟨ds[n], by cases b <;> exact ha, ?_⟩
  exact q g' t' _ _ h1 (List.getElem_mem hn)
theorem get_er {α : Type} : ∀ (l : List α) (j : Nat) (h : j < l.length), (l[j] :: l.eraseIdx j).Perm l
  | a :: r, 0, h => .refl _
  | a :: r, j + 1, h => (List.Perm.swap a (r[j]'(by simpa using h)) (r.eraseIdx j)).trans ((get_er r j (by simpa using h)).cons a)
/-- 0, 1, ... in some order -/
theorem w_mixed (g : List Int) (hg : g.length ≤ 63) (m t : Int) (n : Nat) (hn : n ≤ 16777216)
    (q : ∀ g' t' (l : List Int) rest, g'.length ≤ 63 → l.Perm ((List.range n).map Int.ofNat) → R (.lst (intL l), 1) (some ⟨dk g' m t', 2, 1⟩ :: some ⟨.int n, 0, 0⟩ :: rest)) :
    WS sem__law_mixed N R B C [some ⟨dk g m t, 2, 1⟩, some ⟨.int n, 0, 0⟩, none, none] := by
  unfold sem__law_mixed
  have rg : rgD 0 (n : Int).toNat = intL ((List.range n).map Int.ofNat) := by
    rw [Int.toNat_natCast, rgD, intL, List.map_map]
    exact List.map_congr_left fun a _ => by simp
  refine ws_seq (ws_par (w_aCons (w_lstRg (w_rg1 (w_pk rfl ⟨n, rfl, by omega, w_aCons (w_lst (w_aNil ⟨⟨by decide, rfl⟩, w_aNil ⟨_, _, rfl, wg_setE rfl rfl (wg_setE rfl rfl ?_)⟩⟩))⟩)))))
  rw [rg]
  refine ws_seq (ws_while (fun k e => ∃ (g : List Int) (t : Int) (left found : List Int), g.length ≤ 63 ∧ left.length = k ∧ (found ++ left).Perm ((List.range n).map Int.ofNat) ∧
    e = [some ⟨dk g m t, 2, 1⟩, some ⟨.int n, 0, 0⟩, some ⟨.lst (intL left), 1, 0⟩, some ⟨.lst (intL found), 1, 0⟩]) _ ⟨g, t, _, [], hg, rfl, by simp, rfl⟩ ?_)
  rintro k e ⟨g, t, left, found, hg, hk, hp, rfl⟩
  refine w_tv (w_op (w_pk rfl (w_pkE (w_lst (w_aNil ⟨⟨by decide, rfl⟩, ⟨_, ne_nil left, rfl, _, rfl, ?_⟩⟩)))))
  by_cases hl : left = []
  · subst hl
    rw [if_neg (by simp)]
    refine ws_ret (w_mv rfl rfl ?_)
    exact q g t _ _ hg (by simpa using hp)
  · have hpos : 0 < left.length := List.length_pos_iff.mpr hl
    have hle : left.length ≤ n := by
      have := hp.length_eq
      simp at this
      omega
    have len : (intL left).length = left.length := List.length_map ..
    rw [if_pos (by cases left <;> simp_all)]
    refine ws_app (w_plVar ⟨_, rfl⟩ ⟨⟨_, rfl⟩, w_popAt (w_plVar ⟨_, rfl⟩ ⟨⟨_, rfl⟩, w_pkE (w_drawC (g := g) (m := m) (t := t) (v := left.length) (mm := 1) hg (by decide) (w_pkE (w_c1 (w_pk rfl ⟨.int left.length, by rw [← len]; rfl, rfl, rfl, rfl, by omega, fun g' t' x h1 h2 h3 => ?_⟩))) ⟨_, rfl⟩)⟩)⟩)
    have hx : 0 ≤ x ∧ x < left.length := by
      by_cases h : (2 : Int) ≤ left.length
      · exact h2 h
      · rw [h3 (by omega)]; omega
    obtain ⟨j, rfl⟩ : ∃ j : Nat, x = j := ⟨x.toNat, by omega⟩
    have hj : j < left.length := by omega
    refine ⟨j, _, intL left, 0, j, .int left[j], rfl, rfl, by omega, by rw [len]; unfold ixN; simp [hj], ?_, ?_⟩
    · show (left.map D.int)[j]? = _
      rw [List.getElem?_map, List.getElem?_eq_getElem hj]; rfl
    have e1 : (intL left).eraseIdx j = intL (left.eraseIdx j) := map_er _ _ _
    have lf : found.length < n := by
      have := hp.length_eq
      simp at this
      omega
    refine ⟨_, intL found, 0, rfl, ⟨by rw [intL, List.length_map]; omega, rfl⟩, _, rfl, (left.eraseIdx j).length, by rw [← hk, List.length_eraseIdx_of_lt hj]; omega, g', t', left.eraseIdx j, found ++ [left[j]], h1, rfl, ?_, ?_⟩
    · refine List.Perm.trans ?_ hp
      rw [List.append_assoc]
      refine List.Perm.append_left _ ?_
      exact get_er _ _ hj
    · simp [putP, e1, intL]
      exact e1
end K88
set_option Elab.async false
set_option linter.all false
set_option autoImplicit false
set_option maxRecDepth 100000
set_option maxHeartbeats 4000000
/-! Ev36: more rules for the meanings. -/
namespace Ev
open PySem PySem.Spec L2
section
variable {e : En} {N : En → Prop} {R : Rv → En → Prop} {B C : En → Prop}
theorem w_dNew {t : Bool} {k : Nat} {Q : Rv → En → Prop} (q : Q (if t = true then .dT [] else .dK [], k) e) : W (sDNew t k) Q e := ⟨_, _, rfl, q⟩
theorem ws_parN {is : List Nat} {s : SA} (h : W s (fun rs e => rs.length ≤ 1000 ∧ WG (setAll is rs) N e) e) : WS (sParN is s) N R B C e :=
  let ⟨rs, e1, h1, hl, e2, h2, q⟩ := h; ⟨.nx e2, by simp only [sParN, h1, if_pos hl, h2, Option.map_some], q⟩
theorem wg_allNil {Q : En → Prop} (q : Q e) : WG (setAll [] []) Q e := ⟨_, rfl, q⟩
theorem wg_allCons {i : Nat} {is : List Nat} {r : Rv} {rs : List Rv} {Q : En → Prop} (h : WG (gSet i r) (fun e => WG (setAll is rs) Q e) e) : WG (setAll (i :: is) (r :: rs)) Q e :=
  let ⟨e1, h1, e2, h2, q⟩ := h; ⟨_, by simp only [setAll, h1, h2], q⟩
theorem ws_ext {i : Nat} {pl : SPl} {s : SL} (h : W pl (fun path e1 => (∃ z, atList i path e1 = some z) ∧ W s (fun x e2 => x.1 = false ∧ ∃ sl ds j, atList i path e2 = some (sl, ds, j) ∧ (ds.length + x.2.length ≤ 16777216 ∧ (j = 0 ∨ x.2.all D.imm = true)) ∧ N (e2.set i (some { sl with d := putP sl.d path (.lst (ds ++ x.2)) }))) e1) e) : WS (sExt i pl s) N R B C e := by
  obtain ⟨path, e1, h1, ⟨z, hz⟩, ⟨t, es⟩, e2, h2, ht, sl, ds, j, h3, hc, q⟩ := h
  simp only at ht
  subst ht
  exact ⟨.nx _, by simp only [sExt, h1, hz, h2, h3, if_pos hc], q⟩
theorem w_srt {s : SL} {Q : Rv → En → Prop} (h : W s (fun x e => x.1 = false ∧ ∃ es, gSrt x.2 = some es ∧ Q (.lst es, 1) e) e) : W (sSrt s) Q e := by
  obtain ⟨⟨t, ds⟩, e1, h1, ht, es, h2, q⟩ := h
  simp only at ht
  subst ht
  exact ⟨_, _, by simp only [sSrt, h1, h2], q⟩
theorem w_srtT {s : SP} {Q : Rv → En → Prop} (h : W s (fun d e => ∃ ps, pairsK d = some ps ∧ Q (.lst ((srt SrtO.lexB ps).map intP), 1) e) e) : W (sSrtT s) Q e :=
  let ⟨d, e1, h1, ps, h2, q⟩ := h; ⟨_, _, by simp only [sSrtT, h1, h2], q⟩
theorem w_dictT {s : SL} {Q : Rv → En → Prop} (h : W s (fun x e => x.1 = false ∧ ∃ ps, prT x.2 = some ps ∧ Q (.dT (putAll [] ps), 1) e) e) : W (sDictP true s) Q e := by
  obtain ⟨⟨t, ds⟩, e1, h1, ht, ps, h2, q⟩ := h
  simp only at ht
  subst ht
  exact ⟨_, _, by simp only [sDictP, h1, h2], q⟩
theorem w_dictK {s : SL} {Q : Rv → En → Prop} (h : W s (fun x e => x.1 = false ∧ ∃ ps, prK x.2 = some ps ∧ Q (.dK (putAll [] ps), 1) e) e) : W (sDictP false s) Q e := by
  obtain ⟨⟨t, ds⟩, e1, h1, ht, ps, h2, q⟩ := h
  simp only at ht
  subst ht
  exact ⟨_, _, by simp only [sDictP, h1, h2], q⟩
theorem w_bits {s : SP} {Q : Rv → En → Prop} (h : W s (fun d e => ∃ i, d = .int i ∧ Q (.int (Builtin.Int.intBits i : Nat), 0) e) e) : W (sBits s) Q e := by
  obtain ⟨d, e1, h1, i, rfl, q⟩ := h
  exact ⟨_, _, by simp only [sBits, h1], q⟩
theorem w_im {p : SP} {Q : Rv → En → Prop} (h : W p (fun d e => d.im = true ∧ Q (d, 0) e) e) : W (sIm p) Q e :=
  let ⟨d, e1, h1, h2, q⟩ := h; ⟨_, _, by simp only [sIm, h1, if_pos h2], q⟩
theorem w_chain {g g' : D → D → Option D} {a b c : SP} {Q : Rv → En → Prop} (h : W a (fun x e => W b (fun y e => (x.scl = true ∧ y.scl = true) ∧ ∃ t, g x y = some (.bl t) ∧ if t = true then W c (fun z e => ∃ w, g' y z = some w ∧ w.scl = true ∧ Q (w, 0) e) e else Q (.bl false, 0) e) e) e) : W (sChain g g' a b c) Q e := by
  obtain ⟨x, e1, h1, y, e2, h2, hs, t, h3, p⟩ := h
  cases t
  · exact ⟨(.bl false, 0), e2, by simp only [sChain, h1, h2, if_pos hs, h3], by simpa using p⟩
  · obtain ⟨z, e3, h4, w, h5, h6, q⟩ : W c (fun z e => ∃ w, g' y z = some w ∧ w.scl = true ∧ Q (w, 0) e) e2 := by simpa using p
    exact ⟨(w, 0), e3, by simp only [sChain, h1, h2, if_pos hs, h3, h4, h5, if_pos h6], q⟩
/-- a walk through a dict's keys -/
theorem ws_forK {i : Nat} {jo : Option Nat} {g : SG} {b : SS} {cl : List Nat} {s : Slot} {d : D} {ds : List D} (I : List D → En → Prop) (ha : atE i jo e = some (s, d)) (hk : keysD d = some ds) (h0 : I ds (e.set i (some { s with m := 2 })))
    (step : ∀ d ds e, I (d :: ds) e → WG (g (d, 0)) (fun e => WS b (fun e => WG (clr cl) (I ds) e) (fun r e => R r (unlkE i s.m e)) (fun e => WG (clr cl) (fun e => N (unlkE i s.m e)) e) (fun e => WG (clr cl) (I ds) e) e) e) (done : ∀ e, I [] e → N (unlkE i s.m e)) : WS (sForK i jo g b cl) N R B C e := by
  obtain ⟨r, h2, q⟩ := ws_loop (N := fun e => N (unlkE i s.m e)) (R := fun r e => R r (unlkE i s.m e)) (B := fun e => B (unlkE i s.m e)) (C := fun e => C (unlkE i s.m e)) I step done ds _ h0
  refine ⟨r.mapE (unlkE i s.m), by simp only [sForK, ha, hk, h2, Option.map_some], ?_⟩
  cases r <;> exact q
theorem w_compK {j i : Nat} {jo : Option Nat} {g : SG} {c : ST} {el : SE} {vs : List Nat} {Q : Rv → En → Prop} {s : Slot} {d : D} {ds : List D} (I : List D → List D → En → Prop) (ha : atE i jo e = some (s, d)) (hk : keysD d = some ds)
    (h0 : I ds [] (wipeE (e.set i (some { s with m := 2 })) vs))
    (step : ∀ d ds acc e, I (d :: ds) acc e → WG (g (d, 0)) (fun e => W c (fun t e => if t = true then W el (fun r e => (freeAll vs e = true ∧ fitsJ j r = true) ∧ I ds (acc ++ [r.1]) (wipeE e vs)) e else freeAll vs e = true ∧ I ds acc (wipeE e vs)) e) e)
    (fin : ∀ acc e2, I [] acc e2 → Q (.lst acc, j + 1) (unlkE i s.m (restE (e.set i (some { s with m := 2 })) e2 vs))) : W (sCompK j i jo g c el vs) Q e := by
  obtain ⟨acc, e2, h2, q⟩ := w_cloop I step ds [] _ h0
  exact ⟨_, _, by simp only [sCompK, ha, hk, h2], fin acc e2 q⟩
theorem ws_upd {i i2 : Nat} {jo : Option Nat} {s s2 : Slot} {kvs more : List (Key × D)} {path : Option D} (h1 : e[i]? = some (some s)) (h2 : i2 ≠ i ∧ s.m ≠ 2 ∧ s.k = 1) (h3 : s.d = .dK kvs) (h4 : atE i2 jo e = some (s2, .dK more)) (h5 : pathAt jo e = some path)
    (h6 : s2.k = depP path + 1 ∧ kvs.length + more.length ≤ 16777216) (q : N (e.set i (some { s with d := .dK (putAll kvs more) }))) : WS (sUpd i i2 jo) N R B C e := by
  obtain ⟨d, k, m⟩ := s
  simp only at h3
  subst h3
  exact ⟨.nx _, by simp only [sUpd, h1, if_pos h2, h4, h5, if_pos h6], q⟩
end
end Ev
set_option Elab.async false
set_option linter.all false
set_option autoImplicit false
set_option maxRecDepth 100000
set_option maxHeartbeats 4000000
/-! Ev37: plain houses, roads, webs as data; loops and comprehensions over a list of them; calls of plain defs. -/
namespace Ev
open PySem PySem.Spec L2
abbrev iD (k : Nat) : D := .int (k : Int)
abbrev pD (p : Nat × Nat) : D := .tup [iD p.1, iD p.2]
abbrev wD (n : Nat) (R : List (Nat × Nat)) : D := .tup [iD n, .tup (R.map pD)]
theorem rgD_nat (k : Nat) : rgD 0 ((k : Int)).toNat = (List.range k).map iD := by
  rw [Int.toNat_natCast, rgD]
  exact List.map_congr_left fun a _ => by simp [iD]
theorem rgD_nat2 (a k : Nat) : rgD a k = (List.range' a k).map iD := by
  rw [rgD, List.range'_eq_map_range, List.map_map]
  exact List.map_congr_left fun b _ => by simp [iD]
section
variable {e : En}
theorem w_rgN {p : SP} {Q : List D → En → Prop} (h : W p (fun d e => ∃ k : Nat, d = .int (k : Int) ∧ k ≤ 16777216 ∧ Q ((List.range k).map iD) e) e) : W (sRg1 p) Q e :=
  w_rg1 (h.mono fun d e ⟨k, hd, hk, q⟩ => ⟨k, hd, by omega, by rw [rgD_nat]; exact q⟩)
/-- the def b, called with ce, gives rv -/
def Fn (b : SS) (ce : En) (rv : Rv) : Prop := WS b (fun _ => rv = (.non, 0)) (fun r _ => r = rv) (fun _ => False) (fun _ => False) ce
theorem agSl_va (e : En) : ∀ ds : List D, agSl e (ds.map Ag.va) = some (ds.map fun d => some ⟨d, 0, 0⟩)
  | [] => rfl
  | d :: ds => by simp only [List.map_cons, agSl, agSl_va e ds, Option.map_some]
theorem backE_va (e : En) : ∀ (ds : List D) (ce : En), backE (ds.map Ag.va) ce e = e
  | [], _ => rfl
  | d :: ds, [] => rfl
  | d :: ds, c :: ce => backE_va e ds ce
theorem agI_va : ∀ ds : List D, agI (ds.map Ag.va) = []
  | [] => rfl
  | d :: ds => by simp only [List.map_cons, agI, agI_va ds]
/-- a call of a plain def -/
theorem w_callV {n p : Nat} {b : SS} {s : SAg} {Q : Rv → En → Prop} (h : W s (fun ags e1 => ∃ (ds : List D) (rv : Rv), ags = ds.map Ag.va ∧ ds.length = p ∧ Fn b ((ds.map fun d => some ⟨d, 0, 0⟩) ++ List.replicate n none) rv ∧ Q rv e1) e) : W (sCall n p b s) Q e :=
  w_call (h.mono fun ags e1 ⟨ds, rv, ha, hp, hf, q⟩ => by
    subst ha
    refine ⟨_, agSl_va e1 ds, ⟨by simpa using hp, by rw [agI_va]; exact List.nodup_nil⟩, hf.mono (fun e2 h => ?_) (fun r e2 h => ?_) (fun _ => id) (fun _ => id)⟩
    · rw [backE_va, ← h]; exact q
    · rw [backE_va, h]; exact q)
/-- the same, of one that is known -/
theorem w_callK {n p : Nat} {b : SS} {s : SAg} {Q : Rv → En → Prop} (ds : List D) (rv : Rv) (hf : Fn b ((ds.map fun d => some ⟨d, 0, 0⟩) ++ List.replicate n none) rv) (hp : ds.length = p) (h : W s (fun ags e1 => ags = ds.map Ag.va ∧ Q rv e1) e) : W (sCall n p b s) Q e :=
  w_callV (h.mono fun ags e1 ⟨ha, q⟩ => ⟨ds, rv, ha, hp, hf, q⟩)
theorem ite_i {c : Bool} {A B : Prop} (h1 : c = true → A) (h2 : c = false → B) : if c = true then A else B := by
  cases c
  · simpa using h2 rfl
  · simpa using h1 rfl
theorem ite_t {c : Bool} {A B : Prop} (h : c = true) (a : A) : if c = true then A else B := by rw [if_pos h]; exact a
theorem ite_f {c : Bool} {A B : Prop} (h : c = false) (b : B) : if c = true then A else B := by subst h; simpa using b
variable {N : En → Prop} {R : Rv → En → Prop} {B C : En → Prop}
/-- a loop over the data of a list -/
theorem ws_forL {α : Type} {f : α → D} {xs : List α} {s : SI} {g : SG} {b : SS} {cl : List Nat} (I : List α → En → Prop) (h : W s (fun ds e => ds = xs.map f ∧ I [] e) e)
    (step : ∀ dn x r e, xs = dn ++ x :: r → I dn e → WG (g (f x, 0)) (fun e => WS b (fun e => WG (clr cl) (I (dn ++ [x])) e) R (fun e => WG (clr cl) N e) (fun e => WG (clr cl) (I (dn ++ [x])) e) e) e) (done : ∀ e, I xs e → N e) : WS (sFor s g b cl) N R B C e := by
  refine ws_for (fun ds e => ∃ dn r, xs = dn ++ r ∧ ds = r.map f ∧ I dn e) (h.mono fun ds e ⟨hd, hi⟩ => ⟨[], xs, rfl, hd, hi⟩) ?_ ?_
  · rintro d ds e ⟨dn, r, hx, hd, hi⟩
    cases r with
    | nil => cases hd
    | cons x r =>
      cases hd
      have st := step dn x r e hx hi
      have nx : ∀ e, I (dn ++ [x]) e → ∃ dn r', xs = dn ++ r' ∧ r.map f = r'.map f ∧ I dn e := fun e q => ⟨dn ++ [x], r, by simp [hx], rfl, q⟩
      obtain ⟨e1, h1, st⟩ := st
      exact ⟨e1, h1, st.mono (fun e ⟨e', q, i⟩ => ⟨e', q, nx _ i⟩) (fun _ _ => id) (fun _ => id) (fun e ⟨e', q, i⟩ => ⟨e', q, nx _ i⟩)⟩
  · rintro e ⟨dn, r, hx, hd, hi⟩
    have : r = [] := by simpa using hd.symm
    subst this
    simp only [List.append_nil] at hx
    subst hx
    exact done e hi
/-- a loop over a dict's keys, the data of a list -/
theorem ws_forKL {α : Type} {f : α → D} {xs : List α} {i : Nat} {jo : Option Nat} {g : SG} {b : SS} {cl : List Nat} {s : Slot} {d : D} (I : List α → En → Prop) (ha : atE i jo e = some (s, d)) (hk : keysD d = some (xs.map f)) (h0 : I [] (e.set i (some { s with m := 2 })))
    (step : ∀ dn x r e, xs = dn ++ x :: r → I dn e → WG (g (f x, 0)) (fun e => WS b (fun e => WG (clr cl) (I (dn ++ [x])) e) (fun r e => R r (unlkE i s.m e)) (fun e => WG (clr cl) (fun e => N (unlkE i s.m e)) e) (fun e => WG (clr cl) (I (dn ++ [x])) e) e) e) (done : ∀ e, I xs e → N (unlkE i s.m e)) : WS (sForK i jo g b cl) N R B C e := by
  refine ws_forK (fun ds e => ∃ dn r, xs = dn ++ r ∧ ds = r.map f ∧ I dn e) ha hk ⟨[], xs, rfl, rfl, h0⟩ ?_ ?_
  · rintro d ds e ⟨dn, r, hx, hd, hi⟩
    cases r with
    | nil => cases hd
    | cons x r =>
      cases hd
      have st := step dn x r e hx hi
      have nx : ∀ e, I (dn ++ [x]) e → ∃ dn r', xs = dn ++ r' ∧ r.map f = r'.map f ∧ I dn e := fun e q => ⟨dn ++ [x], r, by simp [hx], rfl, q⟩
      obtain ⟨e1, h1, st⟩ := st
      exact ⟨e1, h1, st.mono (fun e ⟨e', q, i⟩ => ⟨e', q, nx _ i⟩) (fun _ _ => id) (fun _ => id) (fun e ⟨e', q, i⟩ => ⟨e', q, nx _ i⟩)⟩
  · rintro e ⟨dn, r, hx, hd, hi⟩
    have : r = [] := by simpa using hd.symm
    subst this
    simp only [List.append_nil] at hx
    subst hx
    exact done e hi
/-- a comprehension over the data of a list, nothing changed by it -/
theorem w_compL {α : Type} {f : α → D} {xs : List α} {j : Nat} {it : SI} {g : SG} {c : ST} {el : SE} {vs : List Nat} {Q : Rv → En → Prop} (p : α → Bool) (h : α → D)
    (hit : W it (fun ds e1 => ds = xs.map f ∧ (∀ x ∈ xs, WG (g (f x, 0)) (fun e => W c (fun t e => t = p x ∧ if t = true then W el (fun r e => (freeAll vs e = true ∧ fitsJ j r = true) ∧ r.1 = h x ∧ wipeE e vs = wipeE e1 vs) e else freeAll vs e = true ∧ wipeE e vs = wipeE e1 vs) e) (wipeE e1 vs)) ∧
      Q (.lst ((xs.filter p).map h), j + 1) (restE e1 (wipeE e1 vs) vs)) e) : W (sComp j it g c el vs) Q e := by
  refine w_comp (hit.mono fun ds e1 ⟨hd, st, q⟩ => ⟨fun ds acc e => ∃ dn r, xs = dn ++ r ∧ ds = r.map f ∧ acc = (dn.filter p).map h ∧ e = wipeE e1 vs, ⟨[], xs, rfl, hd, rfl, rfl⟩, ?_, ?_⟩)
  · rintro d ds acc e ⟨dn, r, hx, hd, ha, he⟩
    subst he ha
    cases r with
    | nil => cases hd
    | cons x r =>
      cases hd
      obtain ⟨e2, h1, t, e3, h2, ht, h3⟩ := st x (by simp [hx])
      refine ⟨e2, h1, t, e3, h2, ?_⟩
      cases t
      · have h3 : freeAll vs e3 = true ∧ wipeE e3 vs = wipeE e1 vs := by simpa using h3
        have : ((dn ++ [x]).filter p) = dn.filter p := by simp [← ht]
        simp only [Bool.false_eq_true, if_false]
        exact ⟨h3.1, dn ++ [x], r, by simp [hx], rfl, by rw [this], h3.2⟩
      · have h3 : W el (fun r e => (freeAll vs e = true ∧ fitsJ j r = true) ∧ r.1 = h x ∧ wipeE e vs = wipeE e1 vs) e3 := by simpa using h3
        have : ((dn ++ [x]).filter p) = dn.filter p ++ [x] := by simp [← ht]
        simp only [if_true]
        exact h3.mono fun r' e ⟨hf, hr, hw⟩ => ⟨hf, dn ++ [x], r, by simp [hx], rfl, by rw [this, hr]; simp, hw⟩
  · rintro acc e2 ⟨dn, r, hx, hd, ha, he⟩
    have : r = [] := by simpa using hd.symm
    subst this
    simp only [List.append_nil] at hx
    subst hx ha he
    exact q
end
/-! #### leaves -/
theorem eqX_i (a b : Int) : gEqX (.int a) (.int b) = some (.bl (decide (a = b))) := by rfl
theorem neX_i (a b : Int) : gNeX (.int a) (.int b) = some (.bl (!decide (a = b))) := by rfl
theorem eqX_s (a b : Str) : gEqX (.str a) (.str b) = some (.bl (decide (a = b))) := rfl
theorem neX_s (a b : Str) : gNeX (.str a) (.str b) = some (.bl (!decide (a = b))) := rfl
theorem shs_mem : ∀ (ds : List D) (n : Nat), (∀ d ∈ ds, d.sh n = true) → shs ds n = true
  | [], _, _ => rfl
  | d :: ds, n, h => by show (d.sh n && shs ds n) = true; rw [h d (by simp), shs_mem ds n fun x hx => h x (by simp [hx])]; rfl
theorem neX_nil {ds : List D} (h : shs ds 63 = true) : gNeX (.lst ds) (.lst []) = some (.bl (!ds.isEmpty)) := by
  have h : ((D.lst ds).sh 64 && (D.lst []).sh 64) = true := by
    show (shs ds 63 && true) = true
    rw [h]; rfl
  show (if ((D.lst ds).sh 64 && (D.lst []).sh 64) = true then some (D.bl (!D.eqv (.lst ds) (.lst []))) else none) = _
  rw [if_pos h]
  cases ds <;> rfl
theorem eqX_nil {ds : List D} (h : shs ds 63 = true) : gEqX (.lst ds) (.lst []) = some (.bl ds.isEmpty) := by
  have h : ((D.lst ds).sh 64 && (D.lst []).sh 64) = true := by
    show (shs ds 63 && true) = true
    rw [h]; rfl
  show (if ((D.lst ds).sh 64 && (D.lst []).sh 64) = true then some (D.bl (D.eqv (.lst ds) (.lst []))) else none) = _
  rw [if_pos h]
  cases ds <;> rfl
theorem eqX_nilT {ds : List D} (h : shs ds 63 = true) : gEqX (.tup ds) (.tup []) = some (.bl ds.isEmpty) := by
  have h : ((D.tup ds).sh 64 && (D.tup []).sh 64) = true := by
    show (shs ds 63 && true) = true
    rw [h]; rfl
  show (if ((D.tup ds).sh 64 && (D.tup []).sh 64) = true then some (D.bl (D.eqv (.tup ds) (.tup []))) else none) = _
  rw [if_pos h]
  cases ds <;> rfl
theorem atI_map {α : Type} {f : α → D} {xs : List α} {i : Nat} {x : α} (h : xs[i]? = some x) : atI (xs.map f) (i : Int) = some (f x) := by
  have hi : i < xs.length := (List.getElem?_eq_some_iff.mp h).1
  have hx : xs[i] = x := (List.getElem?_eq_some_iff.mp h).2
  unfold atI ixN
  simp [hi, hx]
theorem ix_lst {α : Type} {f : α → D} {xs : List α} {i : Nat} {x : α} (h : xs[i]? = some x) : gIx (.lst (xs.map f)) (.int (i : Int)) = some (f x) := atI_map h
theorem ix_tup {α : Type} {f : α → D} {xs : List α} {i : Nat} {x : α} (h : xs[i]? = some x) : gIx (.tup (xs.map f)) (.int (i : Int)) = some (f x) := atI_map h
theorem ix_rg {n : Nat} {f : Nat → D} {i : Nat} (h : i < n) : gIx (.lst ((List.range n).map f)) (.int (i : Int)) = some (f i) := ix_lst (by simp [h])
theorem ix_rgT {n : Nat} {f : Nat → D} {i : Nat} (h : i < n) : gIx (.tup ((List.range n).map f)) (.int (i : Int)) = some (f i) := ix_tup (by simp [h])
theorem ixN_nat {n i : Nat} (h : i < n) : ixN n (i : Int) = some i := by unfold ixN; simp [h]
theorem put_lst {j : Nat} {ds : List D} {i : Nat} {v : D} (h : i < ds.length) : gPut j (.lst ds) (.int (i : Int)) v = some (.lst (ds.set i v)) := by
  unfold gPut
  simp only [ixN_nat h]
theorem set_map {α : Type} (f : α → D) : ∀ (xs : List α) (i : Nat) (x : α), (xs.map f).set i (f x) = (xs.set i x).map f
  | [], _, _ => rfl
  | a :: xs, 0, x => rfl
  | a :: xs, i + 1, x => by rw [List.map_cons, List.set_cons_succ, List.set_cons_succ, List.map_cons, set_map f xs i x]
end Ev
set_option Elab.async false
set_option linter.all false
set_option autoImplicit false
set_option maxRecDepth 100000
set_option maxHeartbeats 4000000
/-! Ev38: more rules and leaves. -/
namespace Ev
open PySem PySem.Spec L2
theorem fn_i {b : SS} {ce : En} {rv : Rv} (h : WS b (fun _ => rv = (.non, 0)) (fun r _ => r = rv) (fun _ => False) (fun _ => False) ce) : Fn b ce rv := h
section
variable {e : En}
/-- a comprehension without a condition -/
theorem w_compA {α : Type} {f : α → D} {xs : List α} {j : Nat} {it : SI} {g : SG} {el : SE} {vs : List Nat} {Q : Rv → En → Prop} (h : α → D)
    (hit : W it (fun ds e1 => ds = xs.map f ∧ (∀ x ∈ xs, WG (g (f x, 0)) (fun e => W el (fun r e => (freeAll vs e = true ∧ fitsJ j r = true) ∧ r.1 = h x ∧ wipeE e vs = wipeE e1 vs) e) (wipeE e1 vs)) ∧
      Q (.lst (xs.map h), j + 1) (restE e1 (wipeE e1 vs) vs)) e) : W (sComp j it g sYes el vs) Q e :=
  w_compL (fun _ => true) h (hit.mono fun ds e1 ⟨hd, st, q⟩ => ⟨hd, fun x hx => by
    obtain ⟨e2, h1, h2⟩ := st x hx
    exact ⟨e2, h1, true, e2, rfl, rfl, by simpa using h2⟩, by
    have : xs.filter (fun _ => true) = xs := by simp
    rw [this]; exact q⟩)
/-- a comprehension of data -/
theorem w_compD {xs : List D} {j : Nat} {it : SI} {g : SG} {el : SE} {vs : List Nat} {Q : Rv → En → Prop} (h : D → D)
    (hit : W it (fun ds e1 => ds = xs ∧ (∀ x ∈ xs, WG (g (x, 0)) (fun e => W el (fun r e => (freeAll vs e = true ∧ fitsJ j r = true) ∧ r.1 = h x ∧ wipeE e vs = wipeE e1 vs) e) (wipeE e1 vs)) ∧
      Q (.lst (xs.map h), j + 1) (restE e1 (wipeE e1 vs) vs)) e) : W (sComp j it g sYes el vs) Q e :=
  w_compA (f := id) h (hit.mono fun ds e1 ⟨hd, st, q⟩ => ⟨by simp [hd], st, q⟩)
end
theorem blsD_mapF {α : Type} (f : α → Bool) : ∀ xs : List α, blsD (xs.map fun x => .bl (f x)) = some (xs.map f)
  | [] => rfl
  | x :: xs => by simp only [List.map_cons, blsD, blsD_mapF f xs, Option.map_some]
theorem all_map {α : Type} (f : α → Bool) (xs : List α) : gAll (.lst (xs.map fun x => .bl (f x))) = some (.bl (xs.all f)) := by
  unfold gAll
  simp only [blsD_mapF, Option.map_some, List.all_map]
  rfl
theorem intsD_mapF {α : Type} (f : α → Int) : ∀ xs : List α, intsD (xs.map fun x => .int (f x)) = some (xs.map f)
  | [] => rfl
  | x :: xs => by simp only [List.map_cons, intsD, intsD_mapF f xs, Option.map_some]
theorem sum_map {α : Type} (f : α → Int) (xs : List α) : gSum (.lst (xs.map fun x => .int (f x))) = some (.int (xs.map f).sum) := by
  unfold gSum
  simp only [intsD_mapF, Option.map_some]
theorem foldl_maxZ {α : Type} (f : α → Nat) : ∀ (xs : List α) (a : Nat), (xs.map fun x => ((f x : Nat) : Int)).foldl (fun a y => if a < y then y else a) ((a : Nat) : Int) = (((xs.map f).foldl max a : Nat) : Int)
  | [], a => rfl
  | x :: xs, a => by
    simp only [List.map_cons, List.foldl_cons]
    have : (if (a : Int) < (f x : Int) then (f x : Int) else (a : Int)) = ((max a (f x) : Nat) : Int) := by split <;> omega
    rw [this, foldl_maxZ f xs (max a (f x))]
theorem maxL_map {α : Type} (f : α → Nat) (xs : List α) (h : xs ≠ []) : gMaxL (.lst (xs.map fun x => iD (f x))) = some (iD ((xs.map f).foldl max 0)) := by
  cases xs with
  | nil => exact absurd rfl h
  | cons x xs =>
    have := intsD_mapF (fun x : α => ((f x : Nat) : Int)) (x :: xs)
    simp only [List.map_cons] at this
    unfold gMaxL itemsD
    simp only [List.map_cons, this]
    have e := foldl_maxZ f xs (f x)
    unfold maxZ
    rw [e]
    simp
theorem maxD_map {α : Type} (f : α → Nat) (xs : List α) : gMaxD (.lst (xs.map fun x => iD (f x))) (.int 0) = some (iD ((xs.map f).foldl max 0)) := by
  cases xs with
  | nil => rfl
  | cons x xs =>
    have := intsD_mapF (fun x : α => ((f x : Nat) : Int)) (x :: xs)
    simp only [List.map_cons] at this
    unfold gMaxD itemsD
    simp only [List.map_cons, this]
    have e := foldl_maxZ f xs (f x)
    unfold maxZ
    rw [e]
    simp
theorem zipD_map {α β : Type} (f : α → D) (g : β → D) : ∀ (xs : List α) (ys : List β), zipD (xs.map f) (ys.map g) = (xs.zip ys).map fun p => .tup [f p.1, g p.2]
  | [], _ => by simp [zipD]
  | _ :: _, [] => by simp [zipD]
  | x :: xs, y :: ys => by simp [zipD, zipD_map f g xs ys]
theorem enumD_map {α : Type} (f : α → D) : ∀ (k : Nat) (xs : List α), enumD k (xs.map f) = (xs.zipIdx k).map fun p => .tup [iD p.2, f p.1]
  | _, [] => rfl
  | k, x :: xs => by simp [enumD, enumD_map f (k + 1) xs]
/-! #### dicts whose keys are pairs -/
abbrev kT (p : Nat × Nat) : List Key := [.inl (p.1 : Int), .inl (p.2 : Int)]
theorem kT_inj {p q : Nat × Nat} (h : kT p = kT q) : p = q := by
  obtain ⟨a, b⟩ := p
  obtain ⟨c, d⟩ := q
  simp [kT] at h
  simp; omega
abbrev setT (A : List (Nat × Nat)) : D := .dT (A.map fun p => (kT p, .bl true))
theorem look_setT (A : List (Nat × Nat)) (p : Nat × Nat) : (look (A.map fun p => (kT p, D.bl true)) (kT p)).isSome = decide (p ∈ A) := by
  induction A with
  | nil => rfl
  | cons q A ih =>
    rw [List.map_cons, look_cons]
    by_cases h : q = p
    · subst h; simp
    · have h' : ¬ kT q = kT p := fun e => h (kT_inj e)
      rw [if_neg h', ih]
      simp [Ne.symm h]
theorem inX_setT (neg : Bool) (A : List (Nat × Nat)) (p : Nat × Nat) : gInX neg (pD p) (setT A) = some (.bl (if neg = true then !decide (p ∈ A) else decide (p ∈ A))) := by
  have h := look_setT A p
  show (match some (look (A.map fun p => (kT p, D.bl true)) (kT p)) with | some o => some (D.bl (if neg = true then !o.isSome else o.isSome)) | none => none) = _
  simp only [h]
theorem putK_new {κ β : Type} [DecidableEq κ] (kvs : List (κ × β)) (k : κ) (v : β) (h : ∀ kv ∈ kvs, kv.1 ≠ k) : putK kvs k v = kvs ++ [(k, v)] := by
  unfold putK
  rw [if_neg]
  simp only [List.any_eq_true, not_exists, not_and]
  intro kv hm
  simpa using h kv hm
theorem put_setT {j : Nat} (A : List (Nat × Nat)) (p : Nat × Nat) (hl : A.length < 16777216) (hj : j = 0) (hp : p ∉ A) : gPut j (setT A) (pD p) (.bl true) = some (setT (A ++ [p])) := by
  have h : putK (A.map fun p => (kT p, D.bl true)) (kT p) (D.bl true) = (A ++ [p]).map fun p => (kT p, D.bl true) := by
    rw [putK_new]
    · simp
    · intro kv hm
      obtain ⟨q, hq, rfl⟩ := List.mem_map.mp hm
      exact fun e => hp (kT_inj e ▸ hq)
  show (if _ ∧ _ then some (D.dT (putK (A.map fun p => (kT p, D.bl true)) (kT p) (D.bl true))) else none) = _
  rw [if_pos ⟨by rw [List.length_map]; exact hl, .inl hj⟩, h]
theorem prT_map {α : Type} (k : α → List Key) (d : α → D) (kd : α → D) (hk : ∀ x, tD (kd x) = some (k x)) : ∀ xs : List α, prT (xs.map fun x => .tup [kd x, d x]) = some (xs.map fun x => (k x, d x))
  | [] => rfl
  | x :: xs => by simp only [List.map_cons, prT, hk, prT_map k d kd hk xs]
theorem putAll_new {κ β : Type} [DecidableEq κ] : ∀ (more acc : List (κ × β)), (more.map (·.1)).Nodup → (∀ kv ∈ more, ∀ av ∈ acc, av.1 ≠ kv.1) → putAll acc more = acc ++ more
  | [], acc, _, _ => by simp [putAll]
  | kv :: more, acc, h, h2 => by
    have h' := List.nodup_cons.mp (by simpa using h : (kv.1 :: more.map (·.1)).Nodup)
    have := putAll_new more (acc ++ [kv]) h'.2 fun kw hw av ha => by
      rcases List.mem_append.mp ha with ha | ha
      · exact h2 kw (by simp [hw]) av ha
      · have : av = kv := by simpa using ha
        subst this
        exact fun e => h'.1 (List.mem_map.mpr ⟨kw, hw, e.symm⟩)
    unfold putAll at this ⊢
    rw [List.foldl_cons, putK_new acc kv.1 kv.2 (h2 kv (by simp)), this]
    simp
theorem putAll_setT (A : List (Nat × Nat)) (h : A.Nodup) : D.dT (putAll [] (A.map fun p => (kT p, D.bl true))) = setT A := by
  rw [putAll_new]
  · rfl
  · rw [List.map_map]
    exact List.pairwise_map.mpr (h.imp fun {a b} ne e => ne (kT_inj e))
  · intro _ _ _ hm; simp at hm
theorem keys_setT (A : List (Nat × Nat)) : keysD (setT A) = some (A.map pD) := by
  show some ((A.map fun p => (kT p, D.bl true)).map fun kv => D.tup (kv.1.map kDi)) = _
  rw [List.map_map]
  rfl
end Ev
set_option Elab.async false
set_option linter.all false
set_option autoImplicit false
set_option maxRecDepth 100000
set_option maxHeartbeats 4000000
/-! Ev39: loops that look for the first; sorted pairs. -/
namespace Ev
open PySem PySem.Spec L2
section
theorem w_compF {e : En} {α : Type} {f : α → D} {xs : List α} {j : Nat} {it : SI} {g : SG} {c : ST} {el : SE} {vs : List Nat} {Q : Rv → En → Prop} (p : α → Bool) (h : α → D) (L : List α) (hL : xs.filter p = L)
    (hit : W it (fun ds e1 => ds = xs.map f ∧ (∀ x ∈ xs, WG (g (f x, 0)) (fun e => W c (fun t e => t = p x ∧ if t = true then W el (fun r e => (freeAll vs e = true ∧ fitsJ j r = true) ∧ r.1 = h x ∧ wipeE e vs = wipeE e1 vs) e else freeAll vs e = true ∧ wipeE e vs = wipeE e1 vs) e) (wipeE e1 vs)) ∧
      Q (.lst (L.map h), j + 1) (restE e1 (wipeE e1 vs) vs)) e) : W (sComp j it g c el vs) Q e := by
  subst hL
  exact w_compL p h hit
variable {e : En} {N : En → Prop} {R : Rv → En → Prop} {B C : En → Prop}
/-- a loop that changes nothing and returns at the first item of which F tells something -/
theorem ws_forFind {α β : Type} {f : α → D} {xs : List α} {s : SI} {g : SG} {b : SS} {cl : List Nat} (E : En) (F : α → Option β) (ret : β → Rv) (h : W s (fun ds e => ds = xs.map f ∧ e = E) e)
    (step : ∀ x ∈ xs, WG (g (f x, 0)) (fun e => WS b (fun e => WG (clr cl) (fun e => F x = none ∧ e = E) e) (fun r e => ∃ y, F x = some y ∧ r = ret y) (fun _ => False) (fun e => WG (clr cl) (fun e => F x = none ∧ e = E) e) e) E)
    (hN : xs.findSome? F = none → N E) (hR : ∀ y e, xs.findSome? F = some y → R (ret y) e) : WS (sFor s g b cl) N R B C e := by
  refine ws_forL (xs := xs) (f := f) (fun dn e => dn.findSome? F = none ∧ e = E) (h.mono fun ds e q => ⟨q.1, rfl, q.2⟩) ?_ ?_
  · rintro dn x r e hx ⟨hd, rfl⟩
    obtain ⟨e1, h1, st⟩ := step x (by simp [hx])
    have nx : ∀ e0, F x = none ∧ e0 = e → (dn ++ [x]).findSome? F = none ∧ e0 = e := fun e0 q => ⟨by rw [List.findSome?_append, hd]; simp [q.1], q.2⟩
    refine ⟨e1, h1, st.mono (fun e ⟨e', q, i⟩ => ⟨e', q, nx _ i⟩) ?_ (fun _ => False.elim) (fun e ⟨e', q, i⟩ => ⟨e', q, nx _ i⟩)⟩
    rintro r' e2 ⟨y, hy, rfl⟩
    refine hR y e2 ?_
    rw [hx, List.findSome?_append, hd]
    simp [hy]
  · rintro e ⟨hd, rfl⟩
    exact hN hd
end
abbrev castP (p : Nat × Nat) : Int × Int := ((p.1 : Int), (p.2 : Int))
theorem pairsK_setT : ∀ A : List (Nat × Nat), pairsK (setT A) = some (A.map castP)
  | [] => rfl
  | p :: A => by
    have := pairsK_setT A
    unfold pairsK at this ⊢
    simp only [List.map_cons, List.foldr_cons] at this ⊢
    rw [this]
theorem srt_pairs {A S : List (Nat × Nat)} (h : S.Perm A) (hs : S.Pairwise fun p q => p.1 < q.1 ∨ (p.1 = q.1 ∧ p.2 < q.2)) : srt SrtO.lexB (A.map castP) = S.map castP := by
  refine (srtP_eq (h.map castP) ?_).symm
  refine List.pairwise_map.mpr (hs.imp fun {a b} q => ?_)
  unfold SrtO.lexB
  simp only
  split
  · simp; omega
  · simp; omega
theorem srt_pairsD {A S : List (Nat × Nat)} (h : S.Perm A) (hs : S.Pairwise fun p q => p.1 < q.1 ∨ (p.1 = q.1 ∧ p.2 < q.2)) : (srt SrtO.lexB (A.map castP)).map intP = S.map pD := by
  rw [srt_pairs h hs, List.map_map]
  rfl
theorem prs_pairs : ∀ A : List (Nat × Nat), prs (A.map pD) = some (A.map castP)
  | [] => rfl
  | p :: A => by
    have := prs_pairs A
    simp only [List.map_cons, prs, this, Option.map_some]
theorem gSrt_pairs {A S : List (Nat × Nat)} (h : S.Perm A) (hs : S.Pairwise fun p q => p.1 < q.1 ∨ (p.1 = q.1 ∧ p.2 < q.2)) : gSrt (A.map pD) = some (S.map pD) := by
  cases A with
  | nil =>
    have : S = [] := by simpa using h
    subst this
    rfl
  | cons p A =>
    have e : intsD ((p :: A).map pD) = none := by rfl
    unfold gSrt
    rw [e, prs_pairs]
    simp only
    rw [srt_pairsD h hs]
theorem gSrt_ints {A S : List Nat} (h : S.Perm A) (hs : S.Pairwise (· ≤ ·)) : gSrt (A.map iD) = some (S.map iD) := by
  unfold gSrt
  have : intsD (A.map iD) = some (A.map fun (k : Nat) => (k : Int)) := intsD_mapF _ _
  rw [this]
  simp only
  have e : srt ltI (A.map fun (k : Nat) => (k : Int)) = S.map fun (k : Nat) => (k : Int) := (srtI_eq (h.map _) (List.pairwise_map.mpr (hs.imp fun q => by omega))).symm
  rw [e, List.map_map]
  rfl
theorem w_varF' {e : En} {i : Nat} {d : D} {k : Nat} {Q : Rv → En → Prop} (h : e[i]? = some (some ⟨d, k + 1, 0⟩)) (hd : d.imm = false) (q : Q (d, 0) (e.set i (some ⟨d, 0, 0⟩))) : W (sVar i) Q e :=
  w_varF h (by simp [hd]) rfl q
end Ev
set_option Elab.async false
set_option linter.all false
set_option autoImplicit false
/-! MG: the first gap of an order, found in two ways. -/
namespace MG
abbrev Arc := Nat × Nat
theorem fs_append {α β : Type} (f : α → Option β) (xs ys : List α) : (xs ++ ys).findSome? f = (xs.findSome? f).or (ys.findSome? f) := List.findSome?_append
theorem fs_flatMap {α β γ : Type} (g : α → List β) (f : β → Option γ) : ∀ xs : List α, (xs.flatMap g).findSome? f = xs.findSome? fun x => (g x).findSome? f
  | [] => rfl
  | x :: xs => by
    rw [List.flatMap_cons, fs_append, fs_flatMap g f xs, List.findSome?_cons]
    cases (g x).findSome? f <;> rfl
theorem fs_map {α β γ : Type} (g : α → β) (f : β → Option γ) : ∀ xs : List α, (xs.map g).findSome? f = xs.findSome? fun x => f (g x)
  | [] => rfl
  | x :: xs => by simp only [List.map_cons, List.findSome?_cons, fs_map g f xs]
theorem fs_none {α β : Type} {f : α → Option β} {xs : List α} (h : ∀ x ∈ xs, f x = none) : xs.findSome? f = none := List.findSome?_eq_none_iff.mpr h
theorem fs_congr {α β : Type} {f g : α → Option β} : ∀ {xs : List α}, (∀ x ∈ xs, f x = g x) → xs.findSome? f = xs.findSome? g
  | [], _ => rfl
  | x :: xs, h => by simp only [List.findSome?_cons, h x (by simp), fs_congr (xs := xs) fun y hy => h y (by simp [hy])]
/-- only one item counts -/
theorem fs_one {β : Type} {f : Nat → Option β} {n j : Nat} (hj : j < n) (h : ∀ i, i ≠ j → f i = none) : (List.range n).findSome? f = f j := by
  induction n with
  | zero => omega
  | succ n ih =>
    rw [List.range_succ, fs_append]
    by_cases e : j = n
    · subst e
      rw [fs_none fun x hx => h x (by have := List.mem_range.mp hx; omega)]
      simp only [List.findSome?_cons, List.findSome?_nil, Option.none_or]
      cases f j <;> rfl
    · rw [ih (by omega)]
      simp only [List.findSome?_cons, h n (Ne.symm e), List.findSome?_nil, Option.or_none]
theorem fs_head {β : Type} (p : Nat → Bool) (g : Nat → β) : ∀ xs : List Nat, (xs.findSome? fun k => if p k = true then some (g k) else none) = (xs.filter p).head?.map g
  | [] => rfl
  | x :: xs => by
    rw [List.findSome?_cons, List.filter_cons, fs_head p g xs]
    by_cases h : p x = true <;> simp [h]
def to (n : Nat) (A : List Arc) (i : Nat) : List Nat := (List.range n).filter fun k => decide ((i, k) ∈ A)
def sa (n : Nat) (A : List Arc) : List Arc := (List.range n).flatMap fun i => (to n A i).map fun j => (i, j)
abbrev bad (A : List Arc) (p q : Arc) : Option (Nat × Nat × Nat) := if (decide (q.1 = p.2) && !decide ((p.1, q.2) ∈ A)) = true then some (p.1, p.2, q.2) else none
def g1 (n : Nat) (A : List Arc) : Option (Nat × Nat × Nat) := (sa n A).findSome? fun p => (sa n A).findSome? fun q => bad A p q
def lost (n : Nat) (A : List Arc) (i j : Nat) : List Nat := (to n A j).filter fun k => !decide ((i, k) ∈ A)
def g2 (n : Nat) (A : List Arc) : Option (Nat × Nat × Nat) := (List.range n).findSome? fun i => (to n A i).findSome? fun j => (lost n A i j).head?.map fun k => (i, j, k)
theorem g_eq (n : Nat) (A : List Arc) : g1 n A = g2 n A := by
  unfold g1 g2
  rw [sa, fs_flatMap]
  refine fs_congr fun i hi => ?_
  rw [fs_map]
  refine fs_congr fun j hj => ?_
  have hj : j < n := List.mem_range.mp (List.mem_filter.mp hj).1
  rw [fs_flatMap]
  rw [fs_one hj]
  · rw [fs_map, lost, ← fs_head]
    refine fs_congr fun k hk => ?_
    simp [bad]
  · intro i' hi'
    rw [fs_map]
    refine fs_none fun k hk => ?_
    simp [bad, hi']
theorem mem_to {n : Nat} {A : List Arc} {i k : Nat} : k ∈ to n A i ↔ k < n ∧ (i, k) ∈ A := by
  unfold to; rw [List.mem_filter, List.mem_range]; simp
theorem mem_sa {n : Nat} {A : List Arc} {p : Arc} : p ∈ sa n A ↔ p.1 < n ∧ p.2 < n ∧ p ∈ A := by
  unfold sa
  rw [List.mem_flatMap]
  constructor
  · rintro ⟨i, hi, hm⟩
    obtain ⟨j, hj, rfl⟩ := List.mem_map.mp hm
    have := mem_to.mp hj
    exact ⟨List.mem_range.mp hi, this.1, this.2⟩
  · rintro ⟨h1, h2, h3⟩
    exact ⟨p.1, List.mem_range.mpr h1, List.mem_map.mpr ⟨p.2, mem_to.mpr ⟨h2, h3⟩, rfl⟩⟩
/-- before, pair by pair -/
def Lx (p q : Arc) : Prop := p.1 < q.1 ∨ (p.1 = q.1 ∧ p.2 < q.2)
theorem sa_sorted (n : Nat) (A : List Arc) : (sa n A).Pairwise Lx := by
  unfold sa
  rw [List.pairwise_flatMap]
  refine ⟨fun i _ => ?_, ?_⟩
  · rw [List.pairwise_map]
    exact (List.pairwise_lt_range.filter _).imp fun h => .inr ⟨rfl, h⟩
  · refine List.pairwise_lt_range.imp fun {a b} h => ?_
    intro p hp q hq
    obtain ⟨_, _, rfl⟩ := List.mem_map.mp hp
    obtain ⟨_, _, rfl⟩ := List.mem_map.mp hq
    exact .inl h
theorem sa_perm {n : Nat} {A : List Arc} (nd : A.Nodup) (h : ∀ p ∈ A, p.1 < n ∧ p.2 < n) : (sa n A).Perm A := by
  refine (List.perm_ext_iff_of_nodup ((sa_sorted n A).imp fun {a b} h e => ?_) nd).mpr fun p => ⟨fun m => (mem_sa.mp m).2.2, fun m => mem_sa.mpr ⟨(h p m).1, (h p m).2, m⟩⟩
  subst e
  rcases h with h | h <;> omega
end MG
set_option Elab.async false
set_option linter.all false
set_option autoImplicit false
/-! MS: plain mathematics of the searches (greatest full lots, maps). -/
namespace MS
def upd {α : Type} (f : Nat → α) (j : Nat) (x : α) : Nat → α := fun i => if i = j then x else f i
theorem upd_same {α : Type} (f : Nat → α) (j : Nat) (x : α) : upd f j x j = x := by simp [upd]
theorem upd_ne {α : Type} (f : Nat → α) {i j : Nat} (x : α) (h : i ≠ j) : upd f j x i = f i := by simp [upd, h]
/-! #### all full lots, house by house -/
def gfS (adj : Nat → Nat → Bool) (S : List (List Nat)) (h : Nat) : List (List Nat) := S ++ (S.filter fun own => own.all fun a => adj h a).map (· ++ [h])
def gfN (adj : Nat → Nat → Bool) : Nat → List (List Nat)
  | 0 => [[]]
  | h + 1 => gfS adj (gfN adj h) h
/-- houses below n in order, all neighbours -/
def Cl (adj : Nat → Nat → Bool) (n : Nat) (c : List Nat) : Prop := c.Pairwise (fun a b => a < b ∧ adj b a = true) ∧ ∀ a ∈ c, a < n
theorem gfN_mem (adj : Nat → Nat → Bool) : ∀ (n : Nat) (c : List Nat), c ∈ gfN adj n ↔ Cl adj n c
  | 0, c => by
    constructor
    · intro h; have : c = [] := by simpa [gfN] using h
      subst this; exact ⟨by simp, by simp⟩
    · intro h
      cases c with
      | nil => simp [gfN]
      | cons a c => exact absurd (h.2 a (by simp)) (by omega)
  | n + 1, c => by
    unfold gfN gfS
    rw [List.mem_append, List.mem_map, gfN_mem adj n c]
    constructor
    · rintro (h | ⟨d, hd, rfl⟩)
      · exact ⟨h.1, fun a ha => Nat.lt_succ_of_lt (h.2 a ha)⟩
      · rw [List.mem_filter, gfN_mem adj n d] at hd
        obtain ⟨⟨h1, h2⟩, h3⟩ := hd
        refine ⟨List.pairwise_append.mpr ⟨h1, by simp, fun a ha b hb => ?_⟩, fun a ha => ?_⟩
        · have : b = n := by simpa using hb
          subst this
          exact ⟨h2 a ha, List.all_eq_true.mp h3 a ha⟩
        · rcases List.mem_append.mp ha with ha | ha
          · exact Nat.lt_succ_of_lt (h2 a ha)
          · have : a = n := by simpa using ha
            omega
    · intro h
      rcases List.eq_nil_or_concat c with rfl | ⟨d, u, e0⟩
      · exact .inl ⟨by simp, by simp⟩
      · rw [List.concat_eq_append] at e0
        subst e0
        have hp := List.pairwise_append.mp h.1
        have hd : ∀ a ∈ d, a < u ∧ adj u a = true := fun a ha => hp.2.2 a ha u (by simp)
        by_cases e : u = n
        · subst e
          refine .inr ⟨d, ?_, rfl⟩
          rw [List.mem_filter, gfN_mem adj u d]
          exact ⟨⟨hp.1, fun a ha => (hd a ha).1⟩, List.all_eq_true.mpr fun a ha => (hd a ha).2⟩
        · have hu : u < n := by have := h.2 u (by simp); omega
          refine .inl ⟨h.1, fun a ha => ?_⟩
          rcases List.mem_append.mp ha with ha | ha
          · have := (hd a ha).1; omega
          · have : a = u := by simpa using ha
            omega
theorem gfN_len (adj : Nat → Nat → Bool) : ∀ n, (gfN adj n).length ≤ 2 ^ n
  | 0 => by simp [gfN]
  | n + 1 => by
    have h := gfN_len adj n
    have := List.length_filter_le (fun own : List Nat => own.all fun a => adj n a) (gfN adj n)
    simp only [gfN, gfS, List.length_append, List.length_map]
    rw [Nat.pow_succ]; omega
/-! #### the search of full_size -/
abbrev Ent := List Nat × List Nat
def kids (adj : Nat → Nat → Bool) (lot : List Nat) : List Nat → List Ent
  | [] => []
  | x :: r => (lot ++ [x], r.filter fun o => adj x o) :: kids adj lot r
def wt (w : List Ent) : Nat := (w.map fun e => 2 ^ e.2.length).sum
theorem wt_app (u w : List Ent) : wt (u ++ w) = wt u + wt w := by simp [wt]
theorem wt_kids (adj : Nat → Nat → Bool) (lot : List Nat) : ∀ left, wt (kids adj lot left) + 1 ≤ 2 ^ left.length
  | [] => by simp [kids, wt]
  | x :: r => by
    have h := wt_kids adj lot r
    have h2 : 2 ^ (r.filter fun o => adj x o).length ≤ 2 ^ r.length := Nat.pow_le_pow_right (by omega) (List.length_filter_le _ _)
    simp only [kids, wt, List.map_cons, List.sum_cons, List.length_cons, Nat.pow_succ] at *
    omega
theorem len_wt : ∀ w : List Ent, w.length ≤ wt w
  | [] => by simp [wt]
  | e :: w => by
    have := len_wt w
    have h : 0 < 2 ^ e.2.length := Nat.pow_pos (by omega)
    simp only [wt, List.map_cons, List.sum_cons, List.length_cons] at *
    omega
/-- an entry of the search: all of left goes with all of lot -/
def Ok (adj : Nat → Nat → Bool) (n : Nat) (e : Ent) : Prop := Cl adj n e.1 ∧ e.2.Pairwise (· < ·) ∧ (∀ x ∈ e.2, x < n ∧ ∀ a ∈ e.1, a < x ∧ adj x a = true)
theorem kids_ok {adj : Nat → Nat → Bool} (sym : ∀ a b, adj a b = adj b a) {n : Nat} {lot : List Nat} : ∀ {left : List Nat}, Ok adj n (lot, left) → ∀ e ∈ kids adj lot left, Ok adj n e
  | [], _, e, h => by simp [kids] at h
  | x :: r, ⟨h1, h2, h3⟩, e, h => by
    have h2' := List.pairwise_cons.mp h2
    rcases List.mem_cons.mp h with rfl | h
    · refine ⟨⟨List.pairwise_append.mpr ⟨h1.1, by simp, fun a ha b hb => ?_⟩, fun a ha => ?_⟩, h2'.2.filter _, fun y hy => ?_⟩
      · have : b = x := by simpa using hb
        subst this
        exact (h3 b (by simp)).2 a ha
      · rcases List.mem_append.mp ha with ha | ha
        · exact h1.2 a ha
        · have : a = x := by simpa using ha
          subst this; exact (h3 a (by simp)).1
      · have hy' := (List.mem_filter.mp hy).1
        refine ⟨(h3 y (by simp [hy'])).1, fun a ha => ?_⟩
        rcases List.mem_append.mp ha with ha | ha
        · exact (h3 y (by simp [hy'])).2 a ha
        · have : a = x := by simpa using ha
          subst this; exact ⟨h2'.1 y (List.mem_filter.mp hy).1, by rw [sym]; exact (List.mem_filter.mp hy).2⟩
    · exact kids_ok sym (left := r) ⟨h1, h2'.2, fun y hy => h3 y (List.mem_cons_of_mem _ hy)⟩ e h
/-- what is looked for lies in an entry -/
def Has (c : List Nat) (e : Ent) : Prop := ∃ d, d.Sublist e.2 ∧ c = e.1 ++ d
theorem kids_has {adj : Nat → Nat → Bool} (sym : ∀ a b, adj a b = adj b a) {n : Nat} {c lot : List Nat} (hc : Cl adj n c) : ∀ {left : List Nat}, Has c (lot, left) → c.length ≤ lot.length ∨ ∃ e ∈ kids adj lot left, Has c e
  | [], ⟨d, hd, e⟩ => by
    have : d = [] := by simpa using hd
    subst this; left; simp [e]
  | x :: r, ⟨d, hd, e⟩ => by
    simp only at hd e
    cases hd with
    | cons _ hd =>
      rcases kids_has sym hc (left := r) ⟨d, hd, e⟩ with h | ⟨q, hq, h⟩
      · exact .inl h
      · exact .inr ⟨q, by simp [kids, hq], h⟩
    | cons_cons _ hd =>
      rename_i d
      refine .inr ⟨_, by simp only [kids]; exact List.mem_cons_self .., d, ?_, by simp [e]⟩
      have hp := (List.pairwise_append.mp (e ▸ hc.1)).2.1
      have hx : ∀ y ∈ d, adj x y = true := fun y hy => by rw [sym]; exact ((List.pairwise_cons.mp hp).1 y hy).2
      have : d = d.filter fun o => adj x o := (List.filter_eq_self.mpr hx).symm
      simp only
      rw [this]
      exact hd.filter _
structure FS (adj : Nat → Nat → Bool) (n : Nat) (best : Nat) (w : List Ent) : Prop where
  ok : ∀ e ∈ w, Ok adj n e
  ex : ∃ c, Cl adj n c ∧ best = c.length
  all : ∀ c, Cl adj n c → c.length ≤ best ∨ ∃ e ∈ w, Has c e
theorem FS.start (adj : Nat → Nat → Bool) (n : Nat) : FS adj n 0 [([], List.range n)] where
  ok := fun e h => by
    have : e = ([], List.range n) := by simpa using h
    subst this
    exact ⟨⟨by simp, by simp⟩, List.pairwise_lt_range, fun x hx => ⟨List.mem_range.mp hx, by simp⟩⟩
  ex := ⟨[], ⟨by simp, by simp⟩, rfl⟩
  all := fun c hc => .inr ⟨([], List.range n), by simp, c, by
    have hs : c = (List.range n).filter (fun a => decide (a ∈ c)) := by
      refine List.Perm.eq_of_pairwise (le := (· < ·)) (fun a b _ _ h1 h2 => by omega) (hc.1.imp fun h => h.1) (List.pairwise_lt_range.filter _) ?_
      refine (List.perm_ext_iff_of_nodup (hc.1.imp (S := (· ≠ ·)) fun h => Nat.ne_of_lt h.1) (List.Nodup.sublist List.filter_sublist List.nodup_range)).mpr fun a => ?_
      rw [List.mem_filter, List.mem_range]
      exact ⟨fun h => ⟨hc.2 a h, by simpa using h⟩, fun h => by simpa using h.2⟩
    rw [hs]; exact List.filter_sublist, by simp⟩
theorem FS.step {adj : Nat → Nat → Bool} (sym : ∀ a b, adj a b = adj b a) {n best : Nat} {w : List Ent} {lot left : List Nat} (h : FS adj n best (w ++ [(lot, left)])) : FS adj n (max best lot.length) (w ++ kids adj lot left) where
  ok := fun e he => by
    rcases List.mem_append.mp he with he | he
    · exact h.ok e (by simp [he])
    · exact kids_ok sym (h.ok (lot, left) (by simp)) e he
  ex := by
    rcases Nat.le_total best lot.length with q | q
    · rw [Nat.max_eq_right q]; exact ⟨lot, (h.ok (lot, left) (by simp)).1, rfl⟩
    · rw [Nat.max_eq_left q]; exact h.ex
  all := fun c hc => by
    rcases h.all c hc with q | ⟨e, he, q⟩
    · exact .inl (by omega)
    · rcases List.mem_append.mp he with he | he
      · exact .inr ⟨e, by simp [he], q⟩
      · have : e = (lot, left) := by simpa using he
        subst this
        rcases kids_has sym hc q with q | ⟨e, he, q⟩
        · exact .inl (by omega)
        · exact .inr ⟨e, by simp [he], q⟩
theorem FS.fin {adj : Nat → Nat → Bool} {n best : Nat} (h : FS adj n best []) : (∃ c, Cl adj n c ∧ best = c.length) ∧ ∀ c, Cl adj n c → c.length ≤ best :=
  ⟨h.ex, fun c hc => by rcases h.all c hc with q | ⟨e, he, _⟩; exact q; simp at he⟩
theorem FS.wt_step (adj : Nat → Nat → Bool) (w : List Ent) (lot left : List Nat) : wt (w ++ kids adj lot left) < wt (w ++ [(lot, left)]) := by
  have := wt_kids adj lot left
  rw [wt_app, wt_app]
  simp [wt] at *
  omega
/-! #### maps: the options of each house -/
/-- what may stand beside -/
def rch (bes : List Nat) (x : Nat) : Nat := (bes.zipIdx.foldl (fun r p => if x.testBit p.2 then r ||| p.1 else r) 0)
theorem rch_fold (x : Nat) (l : List (Nat × Nat)) : ∀ (r q : Nat), (l.foldl (fun r p => if x.testBit p.2 then r ||| p.1 else r) r).testBit q = (r.testBit q || l.any fun p => x.testBit p.2 && p.1.testBit q) := by
  induction l with
  | nil => intro r q; simp
  | cons p l ih =>
    intro r q
    rw [List.foldl_cons, ih]
    by_cases h : x.testBit p.2 <;> simp [h, Bool.or_assoc]
theorem rch_bit (bes : List Nat) (x q : Nat) : (rch bes x).testBit q = true ↔ ∃ p b, bes[p]? = some b ∧ x.testBit p = true ∧ b.testBit q = true := by
  unfold rch
  rw [rch_fold]
  simp only [Nat.zero_testBit, Bool.false_or, List.any_eq_true]
  constructor
  · rintro ⟨⟨b, p⟩, h1, h2⟩
    refine ⟨p, b, ?_, by simpa using h2⟩
    exact List.mem_zipIdx_iff_getElem?.mp h1
  · rintro ⟨p, b, h1, h2, h3⟩
    exact ⟨(b, p), List.mem_zipIdx_iff_getElem?.mpr h1, by simp [h2, h3]⟩
def Sub (x y : Nat) : Prop := ∀ q, x.testBit q = true → y.testBit q = true
/-- phi is a map, of houses below n with neighbours nb, to places with besides bes -/
structure Hom (n : Nat) (nb : Nat → List Nat) (bes : List Nat) (φ : Nat → Nat) : Prop where
  edge : ∀ v, v < n → ∀ w ∈ nb v, ∃ b, bes[φ v]? = some b ∧ b.testBit (φ w) = true
def Fit (n : Nat) (f : Nat → Nat) (φ : Nat → Nat) : Prop := ∀ v, v < n → (f v).testBit (φ v) = true
/-- within kept_options; house h's neighbours in todo are still to be looked at -/
structure KI (n : Nat) (nb : Nat → List Nat) (bes : List Nat) (f0 f : Nat → Nat) (w : List Nat) (h : Nat) (dn : List Nat) : Prop where
  pos : ∀ v, v < n → f v ≠ 0
  sub : ∀ v, v < n → Sub (f v) (f0 v)
  sol : ∀ φ, Hom n nb bes φ → Fit n f0 φ → Fit n f φ
  wlt : ∀ a ∈ w, a < n
  arc : ∀ v, v < n → v ∉ w → v ≠ h → ∀ o ∈ nb v, Sub (f o) (rch bes (f v))
  arch : ∀ o ∈ dn, Sub (f o) (rch bes (f h))
def sumF (n : Nat) (f : Nat → Nat) : Nat := ((List.range n).map f).sum
theorem sum_upd (n : Nat) (f : Nat → Nat) (j x : Nat) (hj : j < n) : sumF n (upd f j x) + f j = sumF n f + x := by
  unfold sumF
  induction n with
  | zero => omega
  | succ n ih =>
    rw [List.range_succ, List.map_append, List.map_append, List.sum_append, List.sum_append]
    by_cases e : j = n
    · subst e
      have : (List.range j).map (upd f j x) = (List.range j).map f := List.map_congr_left fun a ha => upd_ne _ _ (by have := List.mem_range.mp ha; omega)
      simp [this, upd]; omega
    · have := ih (by omega)
      simp only [List.map_cons, List.map_nil, List.sum_cons, List.sum_nil, upd_ne f x (Ne.symm e)]
      omega
theorem sub_le {x y : Nat} (h : Sub x y) : x ≤ y := Nat.le_of_testBit h
theorem sum_le (n : Nat) (f g : Nat → Nat) (h : ∀ v, v < n → f v ≤ g v) : sumF n f ≤ sumF n g := by
  unfold sumF
  induction n with
  | zero => simp
  | succ n ih =>
    rw [List.range_succ, List.map_append, List.map_append, List.sum_append, List.sum_append]
    have := ih fun v hv => h v (by omega)
    have := h n (by omega)
    simp; omega
section
variable {n : Nat} {nb : Nat → List Nat} {bes : List Nat} {f0 f : Nat → Nat} {w dn : List Nat} {h : Nat}
theorem KI.pop (k : KI n nb bes f0 f (w ++ [h]) n []) : KI n nb bes f0 f w h [] where
  pos := k.pos
  sub := k.sub
  sol := k.sol
  wlt := fun a ha => k.wlt a (by simp [ha])
  arc := fun v hv hw hh o ho => k.arc v hv (by simp [hw, hh]) (by omega) o ho
  arch := by simp
theorem KI.keep {o : Nat} (k : KI n nb bes f0 f w h dn) (e : f o &&& rch bes (f h) = f o) : KI n nb bes f0 f w h (o :: dn) where
  pos := k.pos
  sub := k.sub
  sol := k.sol
  wlt := k.wlt
  arc := k.arc
  arch := fun p hp => by
    rcases List.mem_cons.mp hp with rfl | hp
    · intro q hq
      rw [← e, Nat.testBit_and] at hq
      exact (Bool.and_eq_true _ _ ▸ hq : _ ∧ _).2
    · exact k.arch p hp
theorem KI.none {o : Nat} (k : KI n nb bes f0 f w h dn) (hh : h < n) (ho : o ∈ nb h) (hon : o < n) (e : f o &&& rch bes (f h) = 0) (φ : Nat → Nat) (hom : Hom n nb bes φ) : ¬ Fit n f0 φ := fun ft => by
  have fit := k.sol φ hom ft
  obtain ⟨b, hb1, hb2⟩ := hom.edge h hh o ho
  have : (f o &&& rch bes (f h)).testBit (φ o) = true := by
    rw [Nat.testBit_and, fit o hon, (rch_bit bes (f h) (φ o)).mpr ⟨φ h, b, hb1, fit h hh, hb2⟩]; rfl
  rw [e] at this
  simp at this
theorem KI.cut {o : Nat} (k : KI n nb bes f0 f w h dn) (hh : h < n) (ho : o ∈ nb h) (hon : o < n) (hne : o ≠ h) (e : f o &&& rch bes (f h) ≠ 0) : KI n nb bes f0 (upd f o (f o &&& rch bes (f h))) (w ++ [o]) h (o :: dn) := by
  have sm : ∀ v, Sub (upd f o (f o &&& rch bes (f h)) v) (f v) := fun v q hq => by
    by_cases e : v = o
    · subst e; rw [upd_same, Nat.testBit_and] at hq; exact (Bool.and_eq_true _ _ ▸ hq : _ ∧ _).1
    · rwa [upd_ne _ _ e] at hq
  refine ⟨fun v hv => ?_, fun v hv q hq => k.sub v hv q (sm v q hq), fun φ hom ft => ?_, fun a ha => ?_, fun v hv hw hvh p hp q hq => ?_, fun p hp q hq => ?_⟩
  · by_cases e' : v = o
    · subst e'; rwa [upd_same]
    · rw [upd_ne _ _ e']; exact k.pos v hv
  · have fit := k.sol φ hom ft
    intro v hv
    by_cases e' : v = o
    · subst e'
      obtain ⟨b, hb1, hb2⟩ := hom.edge h hh v ho
      rw [upd_same, Nat.testBit_and, fit v hv, (rch_bit bes (f h) (φ v)).mpr ⟨φ h, b, hb1, fit h hh, hb2⟩]; rfl
    · rw [upd_ne _ _ e']; exact fit v hv
  · rcases List.mem_append.mp ha with ha | ha
    · exact k.wlt a ha
    · have : a = o := by simpa using ha
      subst this; exact hon
  · have hvo : v ≠ o := fun e' => hw (by simp [e'])
    rw [upd_ne _ _ hvo]
    exact k.arc v hv (fun m => hw (by simp [m])) hvh p hp q (sm p q hq)
  · rw [upd_ne _ _ (Ne.symm hne)]
    rcases List.mem_cons.mp hp with rfl | hp
    · rw [upd_same, Nat.testBit_and] at hq
      exact (Bool.and_eq_true _ _ ▸ hq : _ ∧ _).2
    · exact k.arch p hp q (sm p q hq)
theorem KI.cut_lt {o : Nat} (hon : o < n) (ne : f o &&& rch bes (f h) ≠ f o) : sumF n (upd f o (f o &&& rch bes (f h))) < sumF n f := by
  have := sum_upd n f o (f o &&& rch bes (f h)) hon
  have h2 : f o &&& rch bes (f h) ≤ f o := Nat.and_le_left
  omega
theorem KI.next (k : KI n nb bes f0 f w h dn) (hd : ∀ o ∈ nb h, o ∈ dn) : KI n nb bes f0 f w n [] where
  pos := k.pos
  sub := k.sub
  sol := k.sol
  wlt := k.wlt
  arc := fun v hv hw _ o ho => by
    by_cases e : v = h
    · subst e; exact k.arch o (hd o ho)
    · exact k.arc v hv hw e o ho
  arch := by simp
theorem KI.start (hp : ∀ v, v < n → f0 v ≠ 0) : KI n nb bes f0 f0 (List.range n) n [] where
  pos := hp
  sub := fun _ _ _ q => q
  sol := fun _ _ q => q
  wlt := fun a ha => List.mem_range.mp ha
  arc := fun v hv hw => absurd (List.mem_range.mpr hv) hw
  arch := by simp
/-- all houses have one option left: a map -/
theorem KI.hom (k : KI n nb bes f0 f [] n []) (hl : ∀ v, v < n → ∀ o ∈ nb v, o < n) (one : ∀ v, v < n → f v &&& (f v - 1) = 0) : ∃ φ, Hom n nb bes φ := by
  have pw : ∀ v, v < n → ∃ k, f v = 2 ^ k := fun v hv => (Nat.and_sub_one_eq_zero_iff_isPowerOfTwo (k.pos v hv)).mp (one v hv)
  refine ⟨fun v => (f v).log2, ⟨fun v hv o ho => ?_⟩⟩
  obtain ⟨a, ea⟩ := pw v hv
  obtain ⟨b, eb⟩ := pw o (hl v hv o ho)
  have s := k.arc v hv (by simp) (by omega) o ho b (by rw [eb]; exact Nat.testBit_two_pow_self)
  obtain ⟨p, x, h1, h2, h3⟩ := (rch_bit _ _ _).mp s
  rw [ea, Nat.testBit_two_pow] at h2
  have : a = p := by simpa using h2
  subst this
  exact ⟨x, by simpa [ea, Nat.log2_two_pow] using h1, by simpa [eb, Nat.log2_two_pow] using h3⟩
end
/-! #### the search of found_map -/
structure FM (n m : Nat) (nb : Nat → List Nat) (bes : List Nat) (w : List (Nat → Nat)) : Prop where
  pos : ∀ f ∈ w, ∀ v, v < n → f v ≠ 0 ∧ f v < 2 ^ m
  all : ∀ φ, Hom n nb bes φ → (∀ v, v < n → φ v < m) → ∃ f ∈ w, Fit n f φ
def ind (x : Nat) : Nat := if x &&& (x - 1) = 0 then 0 else 1
/-- how many houses are open -/
def ope (n : Nat) (f : Nat → Nat) : Nat := sumF n fun v => ind (f v)
theorem sumF_le1 (n : Nat) (f : Nat → Nat) (h : ∀ v, v < n → f v ≤ 1) : sumF n f ≤ n := by
  have := sum_le n f (fun _ => 1) h
  have e : sumF n (fun _ => 1) = n := by
    unfold sumF
    clear this h
    induction n with
    | zero => rfl
    | succ n ih => rw [List.range_succ, List.map_append, List.sum_append, ih]; simp
  omega
theorem ope_le (n : Nat) (f : Nat → Nat) : ope n f ≤ n := sumF_le1 n _ fun v _ => by unfold ind; split <;> omega
theorem ind_sub {x y : Nat} (hx : x ≠ 0) (h : Sub x y) : ind x ≤ ind y := by
  unfold ind
  by_cases hy : y &&& (y - 1) = 0
  · have hy0 : y ≠ 0 := fun e => by
      obtain ⟨i, hi⟩ := Nat.exists_testBit_of_ne_zero hx
      have := h i hi
      rw [e] at this; simp at this
    obtain ⟨k, rfl⟩ := (Nat.and_sub_one_eq_zero_iff_isPowerOfTwo hy0).mp hy
    have hk : x = 2 ^ k := by
      apply Nat.eq_of_testBit_eq
      intro i
      rw [Nat.testBit_two_pow]
      by_cases e : k = i
      · subst e
        obtain ⟨j, hj⟩ := Nat.exists_testBit_of_ne_zero hx
        have := h j hj
        rw [Nat.testBit_two_pow] at this
        have : k = j := by simpa using this
        subst this; simp [hj]
      · cases hb : x.testBit i with
        | false => simp [e]
        | true =>
          have := h i hb
          rw [Nat.testBit_two_pow] at this
          exact absurd (by simpa using this) e
    subst hk
    simp [hy]
  · rw [if_neg hy]; split <;> omega
theorem ope_upd {n : Nat} {f0 f : Nat → Nat} {v0 : Nat} (hv0 : v0 < n) (pos : ∀ v, v < n → f v ≠ 0) (sub : ∀ v, v < n → Sub (f v) (f0 v)) (two : f v0 &&& (f v0 - 1) ≠ 0) (p : Nat) : ope n (upd f v0 (2 ^ p)) + 1 ≤ ope n f0 := by
  have e : (fun v => ind (upd f v0 (2 ^ p) v)) = upd (fun v => ind (f v)) v0 0 := by
    funext v
    unfold upd
    split
    · unfold ind
      rw [if_pos ((Nat.and_sub_one_eq_zero_iff_isPowerOfTwo (Nat.ne_of_gt (Nat.pow_pos (by omega)))).mpr ⟨p, rfl⟩)]
    · rfl
  have h1 := sum_upd n (fun v => ind (f v)) v0 0 hv0
  have h2 := sum_le n (fun v => ind (f v)) (fun v => ind (f0 v)) fun v hv => ind_sub (pos v hv) (sub v hv)
  have h3 : ind (f v0) = 1 := by unfold ind; rw [if_neg two]
  simp only [h3] at h1
  unfold ope
  rw [e]
  omega
def wm (n m : Nat) (w : List (Nat → Nat)) : Nat := (w.map fun f => (m + 1) ^ ope n f).sum
theorem wm_app (n m : Nat) (u w : List (Nat → Nat)) : wm n m (u ++ w) = wm n m u + wm n m w := by simp [wm]
theorem len_wm (n m : Nat) : ∀ w : List (Nat → Nat), w.length ≤ wm n m w
  | [] => by simp [wm]
  | f :: w => by
    have := len_wm n m w
    have h : 0 < (m + 1) ^ ope n f := Nat.pow_pos (by omega)
    simp only [wm, List.map_cons, List.sum_cons, List.length_cons] at *
    omega
/-- the entries for one house, place by place downward -/
def brs (f : Nat → Nat) (h : Nat) (ps : List Nat) : List (Nat → Nat) := (ps.filter fun p => (f h).testBit p).map fun p => upd f h (2 ^ p)
theorem FM.start (n m : Nat) (nb : Nat → List Nat) (bes : List Nat) (hm : 0 < m ∨ n = 0) : FM n m nb bes [fun _ => 2 ^ m - 1] where
  pos := fun f hf v hv => by
    have : f = fun _ => 2 ^ m - 1 := by simpa using hf
    subst this
    have : 1 < 2 ^ m := Nat.one_lt_two_pow (by omega)
    simp only; omega
  all := fun φ _ hφ => ⟨fun _ => 2 ^ m - 1, by simp, fun v hv => by simpa using hφ v hv⟩
theorem FM.drop {n m : Nat} {nb : Nat → List Nat} {bes : List Nat} {w : List (Nat → Nat)} {f : Nat → Nat} (h : FM n m nb bes (w ++ [f])) (no : ∀ φ, Hom n nb bes φ → ¬ Fit n f φ) : FM n m nb bes w where
  pos := fun g hg => h.pos g (by simp [hg])
  all := fun φ hom hφ => by
    obtain ⟨g, hg, ft⟩ := h.all φ hom hφ
    rcases List.mem_append.mp hg with hg | hg
    · exact ⟨g, hg, ft⟩
    · have : g = f := by simpa using hg
      subst this
      exact absurd ft (no φ hom)
theorem FM.step {n m : Nat} {nb : Nat → List Nat} {bes : List Nat} {w : List (Nat → Nat)} {f0 f : Nat → Nat} {v0 : Nat} {dn : List Nat} {h : Nat} (hw : FM n m nb bes (w ++ [f0])) (k : KI n nb bes f0 f [] h dn) (hv0 : v0 < n) (ps : List Nat) (hps : ∀ p, p ∈ ps ↔ p < m) : FM n m nb bes (w ++ brs f v0 ps) where
  pos := fun g hg => by
    rcases List.mem_append.mp hg with hg | hg
    · exact hw.pos g (by simp [hg])
    · obtain ⟨p, hp, rfl⟩ := List.mem_map.mp hg
      have hp' := List.mem_filter.mp hp
      intro v hv
      by_cases e : v = v0
      · subst e
        rw [upd_same]
        exact ⟨Nat.ne_of_gt (Nat.pow_pos (by omega)), Nat.pow_lt_pow_right (by omega) ((hps p).mp hp'.1)⟩
      · rw [upd_ne _ _ e]
        exact ⟨k.pos v hv, Nat.lt_of_le_of_lt (sub_le (k.sub v hv)) (hw.pos f0 (by simp) v hv).2⟩
  all := fun φ hom hφ => by
    obtain ⟨g, hg, ft⟩ := hw.all φ hom hφ
    rcases List.mem_append.mp hg with hg | hg
    · exact ⟨g, by simp [hg], ft⟩
    · have : g = f0 := by simpa using hg
      subst this
      have ft' := k.sol φ hom ft
      refine ⟨upd f v0 (2 ^ φ v0), ?_, fun v hv => ?_⟩
      · refine List.mem_append_right _ (List.mem_map.mpr ⟨φ v0, List.mem_filter.mpr ⟨(hps _).mpr (hφ v0 hv0), ft' v0 hv0⟩, rfl⟩)
      · by_cases e : v = v0
        · subst e; rw [upd_same]; exact Nat.testBit_two_pow_self
        · rw [upd_ne _ _ e]; exact ft' v hv
theorem brs_wm {n m : Nat} {f0 f : Nat → Nat} {v0 : Nat} (hv0 : v0 < n) (pos : ∀ v, v < n → f v ≠ 0) (sub : ∀ v, v < n → Sub (f v) (f0 v)) (two : f v0 &&& (f v0 - 1) ≠ 0) (ps : List Nat) (hl : ps.length ≤ m) : wm n m (brs f v0 ps) < (m + 1) ^ ope n f0 := by
  have each : ∀ p, (m + 1) * (m + 1) ^ ope n (upd f v0 (2 ^ p)) ≤ (m + 1) ^ ope n f0 := fun p => by
    rw [Nat.mul_comm, ← Nat.pow_succ]
    exact Nat.pow_le_pow_right (by omega) (ope_upd hv0 pos sub two p)
  have all : ∀ qs : List Nat, (m + 1) * wm n m (brs f v0 qs) ≤ qs.length * (m + 1) ^ ope n f0 := fun qs => by
    induction qs with
    | nil => simp [brs, wm]
    | cons p qs ih =>
      have ec : brs f v0 (p :: qs) = if (f v0).testBit p = true then upd f v0 (2 ^ p) :: brs f v0 qs else brs f v0 qs := by
        unfold brs
        by_cases hp : (f v0).testBit p = true <;> simp [hp]
      rw [ec]
      by_cases hp : (f v0).testBit p = true
      · rw [if_pos hp]
        have := each p
        simp only [wm, List.map_cons, List.sum_cons, List.length_cons, Nat.mul_add, Nat.add_mul] at *
        omega
      · rw [if_neg hp]
        exact Nat.le_trans ih (Nat.mul_le_mul_right _ (by simp))
  have h := all ps
  have hpos : 0 < (m + 1) ^ ope n f0 := Nat.pow_pos (by omega)
  have h3 : ps.length * (m + 1) ^ ope n f0 ≤ m * (m + 1) ^ ope n f0 := Nat.mul_le_mul_right _ hl
  have h4 : (m + 1) * wm n m (brs f v0 ps) < (m + 1) * (m + 1) ^ ope n f0 := by
    rw [Nat.add_mul m 1 ((m + 1) ^ ope n f0)]; omega
  exact Nat.lt_of_mul_lt_mul_left h4
end MS
set_option Elab.async false
set_option linter.all false
set_option autoImplicit false
/-! M88: the plain mathematics of k88. -/
namespace M88
abbrev Arc := Nat × Nat
structure SOr (n : Nat) (A : List Arc) : Prop where
  lt : ∀ {a b : Nat}, (a, b) ∈ A → a < n ∧ b < n
  irr : ∀ {a : Nat}, (a, a) ∉ A
  tr : ∀ {a b c : Nat}, (a, b) ∈ A → (b, c) ∈ A → (a, c) ∈ A
def upd {α : Type} (f : Nat → α) (j : Nat) (x : α) : Nat → α := fun i => if i = j then x else f i
theorem upd_same {α : Type} (f : Nat → α) (j : Nat) (x : α) : upd f j x j = x := by simp [upd]
theorem upd_ne {α : Type} (f : Nat → α) {i j : Nat} (x : α) (h : i ≠ j) : upd f j x i = f i := by simp [upd, h]
theorem map_upd {α : Type} (n : Nat) (f : Nat → α) (j : Nat) (x : α) : ((List.range n).map f).set j x = (List.range n).map (upd f j x) := by
  apply List.ext_getElem
  · simp
  · intro i h1 h2
    simp [List.getElem_set, upd]
    by_cases h : j = i
    · simp [h]
    · simp [h, Ne.symm h]
def chS (f : Nat → List Nat) (p : Arc) : Nat → List Nat := if (f p.2).length ≤ (f p.1).length then upd f p.2 (f p.1 ++ [p.2]) else f
def chR (A : List Arc) (f : Nat → List Nat) : Nat → List Nat := A.foldl chS f
def chN (A : List Arc) : Nat → (Nat → List Nat) → Nat → List Nat
  | 0, f => f
  | t + 1, f => chR A (chN A t f)
def ch0 : Nat → List Nat := fun v => [v]
def best (n : Nat) (A : List Arc) : Nat → List Nat := chN A n ch0
/-- a chain -/
def Ch (A : List Arc) (c : List Nat) : Prop := c.Pairwise fun a b => (a, b) ∈ A
def Inv (n : Nat) (A : List Arc) (f : Nat → List Nat) : Prop := ∀ v, v < n → ∃ c, f v = c ++ [v] ∧ Ch A (c ++ [v]) ∧ ∀ a ∈ c, a < n
section
variable {n : Nat} {A : List Arc} (o : SOr n A)
include o
theorem Inv.step {f : Nat → List Nat} (h : Inv n A f) {p : Arc} (hp : p ∈ A) : Inv n A (chS f p) := by
  obtain ⟨i, j⟩ := p
  unfold chS
  split
  · intro v hv
    by_cases e : v = j
    · subst e
      obtain ⟨c, e1, e2, e3⟩ := h i (o.lt hp).1
      refine ⟨c ++ [i], by simp [upd, e1], ?_, ?_⟩
      · refine List.pairwise_append.mpr ⟨e2, by simp, ?_⟩
        intro a ha b hb
        have hb : b = v := by simpa using hb
        subst hb
        rcases List.mem_append.mp ha with ha | ha
        · exact o.tr ((List.pairwise_append.mp e2).2.2 a ha i (by simp)) hp
        · have : a = i := by simpa using ha
          subst this; exact hp
      · intro a ha
        rcases List.mem_append.mp ha with ha | ha
        · exact e3 a ha
        · have : a = i := by simpa using ha
          subst this; exact (o.lt hp).1
    · simp only [upd_ne _ _ e]; exact h v hv
  · exact h
omit o in
theorem inv0 : Inv n A ch0 := fun v _ => ⟨[], rfl, by simp [Ch], by simp⟩
theorem Inv.round {f : Nat → List Nat} (h : Inv n A f) : ∀ (B : List Arc), (∀ p ∈ B, p ∈ A) → Inv n A (chR B f) := by
  intro B
  induction B generalizing f with
  | nil => intro _; exact h
  | cons p B ih => intro hB; exact ih (h.step o (hB p (by simp))) fun q hq => hB q (by simp [hq])
theorem inv_best : Inv n A (best n A) := by
  have : ∀ t, Inv n A (chN A t ch0) := fun t => by
    induction t with
    | zero => exact inv0
    | succ t ih => exact Inv.round o ih A fun _ h => h
  exact this n
omit o in
theorem mono_step (f : Nat → List Nat) (p : Arc) (v : Nat) : (f v).length ≤ (chS f p v).length := by
  unfold chS
  split
  · unfold upd; split
    · rename_i h e; subst e; simp; omega
    · exact Nat.le_refl _
  · exact Nat.le_refl _
omit o in
theorem mono_round (f : Nat → List Nat) (B : List Arc) (v : Nat) : (f v).length ≤ (chR B f v).length := by
  induction B generalizing f with
  | nil => exact Nat.le_refl _
  | cons p B ih => exact Nat.le_trans (mono_step f p v) (ih (chS f p))
omit o in
theorem round_arc (f : Nat → List Nat) (B : List Arc) {i j : Nat} (h : (i, j) ∈ B) (hij : i ≠ j) : (f i).length + 1 ≤ (chR B f j).length := by
  induction B generalizing f with
  | nil => simp at h
  | cons p B ih =>
    rcases List.mem_cons.mp h with rfl | h
    · refine Nat.le_trans ?_ (mono_round (chS f (i, j)) B j)
      unfold chS
      split
      · simp [upd]
      · rename_i q; simp at q; omega
    · exact Nat.le_trans (Nat.succ_le_succ (mono_step f p i)) (ih (chS f p) h)
theorem chain_le (t : Nat) : ∀ (c : List Nat) (v : Nat), v < n → Ch A (c ++ [v]) → c.length ≤ t → c.length + 1 ≤ (chN A t ch0 v).length := by
  induction t with
  | zero => intro c v hv h hc; simp [chN, ch0]; simpa using hc
  | succ t ih =>
    intro c v hv h hc
    rcases List.eq_nil_or_concat c with rfl | ⟨d, u, rfl⟩
    · refine Nat.le_trans ?_ (mono_round (chN A t ch0) A v)
      exact ih [] v hv h (by simp)
    · have h' := List.pairwise_append.mp h
      have a : (u, v) ∈ A := h'.2.2 u (by simp) v (by simp)
      have ne : u ≠ v := fun e => o.irr (e ▸ a)
      have := ih d u (o.lt a).1 (by simpa [Ch] using h'.1) (by simp at hc; omega)
      have := round_arc (chN A t ch0) A a ne
      simp [chN] at *
      omega
theorem Ch.nodup {c : List Nat} (h : Ch A c) : c.Nodup := List.Pairwise.imp (R := fun a b => (a, b) ∈ A) (S := fun a b => a ≠ b) (fun {a b} q (e : a = b) => o.irr (a := b) (by subst e; exact q)) h
omit o in
theorem len_le {c : List Nat} (h : c.Nodup) (m : Nat) (hm : ∀ a ∈ c, a < m) : c.length ≤ m := by
  have := List.Nodup.length_le_of_subset h (l₂ := List.range m) fun a ha => List.mem_range.mpr (hm a ha)
  simpa using this
/-- the levels go up along the arcs -/
theorem best_arc {i j : Nat} (h : (i, j) ∈ A) : (best n A i).length + 1 ≤ (best n A j).length := by
  obtain ⟨c, e1, e2, e3⟩ := inv_best o i (o.lt h).1
  have hc : Ch A ((c ++ [i]) ++ [j]) := by
    refine List.pairwise_append.mpr ⟨e2, by simp, ?_⟩
    intro a ha b hb
    have hb : b = j := by simpa using hb
    subst hb
    rcases List.mem_append.mp ha with ha | ha
    · exact o.tr ((List.pairwise_append.mp e2).2.2 a ha i (by simp)) h
    · have : a = i := by simpa using ha
      subst this; exact h
  have l : ((c ++ [i]) ++ [j]).length ≤ n := len_le (Ch.nodup o hc) n fun a ha => by
    rcases List.mem_append.mp ha with ha | ha
    · rcases List.mem_append.mp ha with ha | ha
      · exact e3 a ha
      · have : a = i := by simpa using ha
        subst this; exact (o.lt h).1
    · have : a = j := by simpa using ha
      subst this; exact (o.lt h).2
  have := chain_le o n (c ++ [i]) j (o.lt h).2 hc (by simp at l ⊢; omega)
  rw [e1]
  simpa [best] using this
end
/-- neighbours -/
def Adj (A : List Arc) (a b : Nat) : Prop := (a, b) ∈ A ∨ (b, a) ∈ A
def Clq (A : List Arc) (n : Nat) (c : List Nat) : Prop := c.Pairwise (fun a b => a < b ∧ Adj A a b) ∧ ∀ a ∈ c, a < n
/-- greatest length -/
def mx (l : List Nat) : Nat := l.foldl max 0
theorem mx_ge (l : List Nat) (a : Nat) : a ≤ l.foldl max a ∧ ∀ x ∈ l, x ≤ l.foldl max a := by
  induction l generalizing a with
  | nil => simp
  | cons y l ih =>
    have := ih (max a y)
    simp only [List.foldl_cons]
    refine ⟨Nat.le_trans (Nat.le_max_left _ _) this.1, ?_⟩
    intro x hx
    rcases List.mem_cons.mp hx with rfl | hx
    · exact Nat.le_trans (Nat.le_max_right _ _) this.1
    · exact this.2 x hx
theorem mx_mem (l : List Nat) (a : Nat) : l.foldl max a = a ∨ l.foldl max a ∈ l := by
  induction l generalizing a with
  | nil => simp
  | cons y l ih =>
    simp only [List.foldl_cons]
    rcases ih (max a y) with h | h
    · rw [h]
      rcases Nat.le_total a y with q | q
      · right; rw [Nat.max_eq_right q]; simp
      · left; exact Nat.max_eq_left q
    · right; simp [h]
theorem mx_le {l : List Nat} {m : Nat} (h : ∀ x ∈ l, x ≤ m) : mx l ≤ m := by
  rcases mx_mem l 0 with e | e
  · unfold mx; omega
  · exact h _ e
def most (n : Nat) (A : List Arc) : Nat := mx ((List.range n).map fun v => (best n A v).length)
section
variable {n : Nat} {A : List Arc} (o : SOr n A)
include o
theorem best_pos {v : Nat} (hv : v < n) : 0 < (best n A v).length := by
  obtain ⟨c, e, _⟩ := inv_best o v hv
  rw [e]; simp
omit o in
theorem best_le {v : Nat} (hv : v < n) : (best n A v).length ≤ most n A := (mx_ge _ 0).2 _ (List.mem_map.mpr ⟨v, List.mem_range.mpr hv, rfl⟩)
theorem best_ne {a b : Nat} (h : Adj A a b) : (best n A a).length ≠ (best n A b).length := by
  rcases h with h | h
  · have := best_arc o h; omega
  · have := best_arc o h; omega
/-- no more than most houses are all neighbours -/
theorem clq_le {c : List Nat} (h : Clq A n c) : c.length ≤ most n A := by
  have nd : (c.map fun v => (best n A v).length - 1).Nodup := by
    refine List.pairwise_map.mpr (List.Pairwise.imp_of_mem ?_ h.1)
    intro a b ha hb q
    have := best_ne o q.2
    have := best_pos o (h.2 a ha)
    have := best_pos o (h.2 b hb)
    omega
  have := len_le nd (most n A) fun x hx => by
    obtain ⟨v, hv, rfl⟩ := List.mem_map.mp hx
    have := best_pos o (h.2 v hv)
    have := best_le (A := A) (h.2 v hv)
    omega
  simpa using this
theorem most_chain (hn : 0 < n) : ∃ v, v < n ∧ (best n A v).length = most n A := by
  rcases mx_mem ((List.range n).map fun v => (best n A v).length) 0 with e | e
  · have := best_pos o hn
    have := best_le (A := A) hn
    unfold most mx at this
    omega
  · obtain ⟨v, hv, e⟩ := List.mem_map.mp e
    exact ⟨v, List.mem_range.mp hv, e⟩
/-- a lot of most houses that are all neighbours, in order -/
theorem most_clq : ∃ c, Clq A n c ∧ c.length = most n A := by
  rcases Nat.eq_zero_or_pos n with rfl | hn
  · exact ⟨[], ⟨by simp, by simp⟩, rfl⟩
  obtain ⟨v, hv, e⟩ := most_chain o hn
  obtain ⟨c, e1, e2, e3⟩ := inv_best o v hv
  have e3' : ∀ a ∈ c ++ [v], a < n := fun a ha => by
    rcases List.mem_append.mp ha with ha | ha
    · exact e3 a ha
    · have : a = v := by simpa using ha
      subst this; exact hv
  have nd := Ch.nodup o e2
  have pm : ((List.range n).filter fun a => decide (a ∈ c ++ [v])).Perm (c ++ [v]) := by
    refine (List.perm_ext_iff_of_nodup (List.Nodup.sublist List.filter_sublist List.nodup_range) nd).mpr fun a => ?_
    rw [List.mem_filter, List.mem_range]
    constructor
    · intro h; simpa using h.2
    · intro h; exact ⟨e3' a h, by simpa using h⟩
  refine ⟨(List.range n).filter fun a => decide (a ∈ c ++ [v]), ⟨?_, fun a ha => List.mem_range.mp (List.mem_filter.mp ha).1⟩, by rw [pm.length_eq, ← e1, e]⟩
  have adj : ∀ a ∈ c ++ [v], ∀ b ∈ c ++ [v], a ≠ b → Adj A a b := by
    intro a ha b hb ne
    have := List.Pairwise.forall_of_forall_of_flip (R := fun a b => a = b ∨ Adj A a b) (l := c ++ [v]) (fun x _ => .inl rfl) (List.Pairwise.imp (fun q => .inr (.inl q)) e2) (List.Pairwise.imp (fun q => .inr (.inr q)) e2)
    rcases this ha hb with q | q
    · exact absurd q ne
    · exact q
  refine List.Pairwise.imp_of_mem ?_ (List.Pairwise.filter _ List.pairwise_lt_range)
  intro a b ha hb lt
  exact ⟨lt, adj a (by simpa using (List.mem_filter.mp ha).2) b (by simpa using (List.mem_filter.mp hb).2) (by omega)⟩
end
end M88
set_option Elab.async false
set_option linter.all false
set_option autoImplicit false
set_option maxRecDepth 100000
set_option maxHeartbeats 4000000
/-! Q88a: plain defs of k88. -/
namespace K88
open PySem PySem.Spec L2 Ev
local macro_rules | `(tactic| clean_wf) => `(tactic| repeat' (with_reducible first
  | refine fn_i ?_ | refine ws_seq ?_ | refine ws_if ?_ | refine ws_ret ?_ | refine ws_skip ?_ | refine ws_setE ?_ | refine ws_asg ?_ | refine ws_parN ?_ | refine ws_par ?_
  | refine w_op ?_ | refine w_pkE ?_ | refine w_pkV ?_ | refine w_c ?_ | refine w_c1 ?_ | refine w_sub ?_ | refine w_fz ?_ | refine w_tv ?_
  | refine w_and ?_ | refine w_or ?_ | refine w_not ?_ | refine w_andV ?_ | refine w_notV ?_ | refine w_ite ?_ | refine w_isN ?_ | refine w_yes ?_
  | refine w_itm ?_ | refine w_aNil ?_ | refine w_aCons ?_ | refine w_tup ?_ | refine w_lst ?_ | refine w_conv ?_ | refine w_cat ?_ | refine w_rev ?_
  | refine w_oNone ?_ | refine w_oSome ?_ | refine w_sl ?_ | refine w_it ?_ | refine w_rgN ?_ | refine w_lstRg ?_ | refine w_en ?_ | refine w_zip ?_ | refine w_zip1 ?_
  | refine w_im ?_ | refine w_bits ?_ | refine w_rg2N ?_ | refine w_rgDnN ?_ | refine w_chain ?_ | refine w_dNew ?_ | refine w_gNil ?_ | refine w_gVa ?_ | refine w_gKw ?_
  | refine wg_allNil ?_ | refine wg_allCons ?_ | (show WG (gPutT _ (plVar _) _ _) _ _; refine wg_putT ?_)
  | refine w_pk (by with_unfolding_all exact rfl) ?_ | refine w_var0 (by with_unfolding_all exact rfl) (.inl (by with_unfolding_all exact rfl)) ?_ | refine w_varF' (by with_unfolding_all exact rfl) (by with_unfolding_all exact rfl) ?_ | refine w_mv (by with_unfolding_all exact rfl) (by with_unfolding_all exact rfl) ?_
  | refine wg_setE (by with_unfolding_all exact rfl) (by with_unfolding_all exact rfl) ?_ | refine wg_tupS (by with_unfolding_all exact rfl) ?_ | refine w_plVar ⟨_, by with_unfolding_all exact rfl⟩ ?_
  | refine ite_t (by with_unfolding_all exact rfl) ?_ | refine ite_f (by with_unfolding_all exact rfl) ?_
  | (show WG (gsCons _ _ _) _ _; with_unfolding_all refine wg_sCons ?_)
  | (show WG (gsNil _) _ _; with_unfolding_all refine wg_sNil ?_)
  | (show @Eq Rv _ _; rfl)
  | (show WG (clr _) _ _; with_unfolding_all refine ⟨_, rfl, ?_⟩)
  | (show @Eq En _ _; with_unfolding_all rfl)
  | (show And (_ ≤ _) _; refine ⟨by omega, ?_⟩)
  | (show And (_ < _) _; refine ⟨by omega, ?_⟩)
  | (show And _ _; with_unfolding_all first | refine ⟨⟨rfl, rfl⟩, ?_⟩ | refine ⟨rfl, ?_⟩ | refine ⟨Nat.le_of_ble_eq_true rfl, ?_⟩ | refine ⟨⟨Nat.le_of_ble_eq_true rfl, rfl⟩, ?_⟩)
  | (show Or _ _; with_unfolding_all first | refine .inl ⟨_, rfl, ?_⟩ | refine .inr ⟨_, rfl, ?_⟩)
  | (show ∃ _, gMax2 _ _ = _ ∧ _; refine ⟨_, max2_n _ _, rfl, ?_⟩)
  | (show ∃ _, gAnd _ _ = _ ∧ _; refine ⟨_, and_n _ _, rfl, ?_⟩)
  | (show ∃ _, gOr _ _ = _ ∧ _; refine ⟨_, or_n _ _, rfl, ?_⟩)
  | (show ∃ _, gShr _ _ = _ ∧ _; refine ⟨_, shr_n _ _, rfl, ?_⟩)
  | (show ∃ _, gShl _ _ = _ ∧ _; refine ⟨_, shl_n (by omega), rfl, ?_⟩)
  | (show ∃ _, gI _ _ _ = _ ∧ _; with_unfolding_all first
    | refine ⟨_, gMul_l rfl, rfl, ?_⟩ | refine ⟨_, gMul_r rfl, rfl, ?_⟩ | refine ⟨_, gMul_mod rfl, rfl, ?_⟩ | refine ⟨_, gMod_k rfl, rfl, ?_⟩ | refine ⟨_, gDiv_k rfl, rfl, ?_⟩ | refine ⟨_, rfl, rfl, ?_⟩)
  | (show ∃ _, gEqX _ _ = _ ∧ _; with_unfolding_all first | refine ⟨_, eqX_i .., rfl, ?_⟩ | refine ⟨_, eqX_s .., rfl, ?_⟩)
  | (show ∃ _, gNeX _ _ = _ ∧ _; with_unfolding_all first | refine ⟨_, neX_i .., rfl, ?_⟩ | refine ⟨_, neX_s .., rfl, ?_⟩)
  | (show ∃ _, gB _ _ _ = _ ∧ _; with_unfolding_all first | refine ⟨_, rfl, rfl, ?_⟩ | refine ⟨_, rfl, ?_⟩)
  | (show ∃ _, gIx _ _ = _ ∧ _; with_unfolding_all refine ⟨_, rfl, ?_⟩)
  | (show ∃ _, gIsi _ _ = _ ∧ _; with_unfolding_all refine ⟨_, rfl, rfl, ?_⟩)
  | (show ∃ _, gLen1 _ = _ ∧ _; with_unfolding_all refine ⟨_, rfl, rfl, ?_⟩)
  | (show ∃ _, gInt _ = _ ∧ _; with_unfolding_all refine ⟨_, rfl, rfl, ?_⟩)
  | (show ∃ _, _ = D.bl _ ∧ _; with_unfolding_all refine ⟨_, rfl, ?_⟩)
  | (show ∃ _, _ = D.int _ ∧ _; with_unfolding_all refine ⟨_, rfl, ?_⟩)))
/-- a value with a type of its own -/
def isPl : D → Bool
  | .dT _ => false | .dK _ => false | .scr _ => false | _ => true
/-- an int, no bool -/
def isNum : D → Bool
  | .int _ => true | _ => false
theorem f_is_number (d : D) (h : isPl d = true) : Fn sem_is_number [some ⟨d, 0, 0⟩] (.bl (isNum d), 0) := by
  unfold sem_is_number
  cases d <;> first | exact Bool.noConfusion h | (clean_wf; rfl)
def isW (lo hi : Int) : D → Bool
  | .int i => decide (lo ≤ i) && decide (i ≤ hi) | _ => false
theorem f_is_within (d : D) (h : isPl d = true) (lo hi : Int) : Fn sem_is_within [some ⟨d, 0, 0⟩, some ⟨.int lo, 0, 0⟩, some ⟨.int hi, 0, 0⟩] (.bl (isW lo hi d), 0) := by
  unfold sem_is_within
  clean_wf
  refine w_callK [d] _ (f_is_number d h) rfl ?_
  clean_wf
  cases d
  case int i =>
    clean_wf
    refine ite_i (fun h => ?_) (fun h => ?_)
    · clean_wf
      simp only [isW, h]; simp at h; simp [h]
    · simp only [isW]; simp at h; simp; omega
  all_goals first | exact Bool.noConfusion h | (clean_wf; rfl)
theorem f__law_is_house (d : D) (h : isPl d = true) (n : Int) : Fn sem__law_is_house [some ⟨d, 0, 0⟩, some ⟨.int n, 0, 0⟩] (.bl (isW 0 (n - 1) d), 0) := by
  unfold sem__law_is_house
  cases d
  case int i =>
    clean_wf
    refine ite_i (fun h => ?_) (fun h => ?_)
    · clean_wf
      simp only [isW]; simp at h; simp [h]; omega
    · simp only [isW]; simp at h; simp; omega
  all_goals first | exact Bool.noConfusion h | (clean_wf; rfl)
def isForm (R : List (Nat × Nat)) : D → Bool
  | .tup ds => decide (ds.length = R.length) && ds.all (isW 0 1)
  | _ => false
def itPl : D → Bool
  | .tup ds => ds.all isPl
  | _ => true
theorem f_is_order_form (n : Nat) (R : List (Nat × Nat)) (v : D) (h : isPl v = true) (h2 : itPl v = true) : Fn sem_is_order_form [some ⟨wD n R, 0, 0⟩, some ⟨v, 0, 0⟩, none] (.bl (isForm R v), 0) := by
  unfold sem_is_order_form
  cases v
  case tup ds =>
    clean_wf
    refine ite_i (fun h => ?_) (fun h => ?_)
    · clean_wf
      refine w_compD (xs := ds) (fun d => .bl (isW 0 1 d)) ?_
      clean_wf
      refine ⟨fun x hx => ?_, _, all_map _ _, rfl, ?_⟩
      · clean_wf
        refine w_callK [x, .int 0, .int 1] _ (f_is_within x (List.all_eq_true.mp h2 x hx) 0 1) rfl ?_
        clean_wf
      · simp at h
        have : ds.length = R.length := by omega
        simp [isForm, this]
    · have : ¬ ds.length = R.length := by simp at h; omega
      simp [isForm, this]
  all_goals first | exact Bool.noConfusion h | (clean_wf; rfl)
/-! #### arcs -/
structure WOK (n : Nat) (R : List (Nat × Nat)) : Prop where
  lt : ∀ p ∈ R, p.1 < p.2 ∧ p.2 < n
  nd : R.Nodup
  sm : R.length < 1000
  n9 : n ≤ 9
def arc (q : (Nat × Nat) × Nat) : Nat × Nat := if q.2 = 0 then q.1 else (q.1.2, q.1.1)
def arcs (R : List (Nat × Nat)) (ws : List Nat) : List (Nat × Nat) := (R.zip ws).map arc
theorem arc_inj {n : Nat} {R : List (Nat × Nat)} (o : WOK n R) {p q : (Nat × Nat) × Nat} (hp : p.1 ∈ R) (hq : q.1 ∈ R) (h : arc p = arc q) : p.1 = q.1 := by
  have h1 := o.lt _ hp
  have h2 := o.lt _ hq
  obtain ⟨⟨a, b⟩, w⟩ := p
  obtain ⟨⟨c, d⟩, v⟩ := q
  simp only at h1 h2
  unfold arc at h
  simp only at h
  split at h <;> split at h <;> simp only [Prod.mk.injEq] at h <;> simp <;> omega
theorem zip_nd {α β : Type} : ∀ (xs : List α) (ys : List β), xs.Nodup → (xs.zip ys).Pairwise fun p q => p.1 ≠ q.1
  | [], _, _ => by simp
  | _ :: _, [], _ => by simp
  | x :: xs, y :: ys, h => by
    have h' := List.nodup_cons.mp h
    rw [List.zip_cons_cons]
    refine List.pairwise_cons.mpr ⟨fun q hq e => h'.1 ?_, zip_nd xs ys h'.2⟩
    have : q.1 ∈ xs := (List.of_mem_zip hq).1
    simp only at e
    rw [e]; exact this
theorem arcs_nd {n : Nat} {R : List (Nat × Nat)} (o : WOK n R) (ws : List Nat) : (arcs R ws).Nodup := by
  refine List.pairwise_map.mpr (List.Pairwise.imp_of_mem ?_ (zip_nd R ws o.nd))
  intro p q hp hq ne e
  exact ne (arc_inj o (List.of_mem_zip hp).1 (List.of_mem_zip hq).1 e)
theorem arcs_len (R : List (Nat × Nat)) (ws : List Nat) : (arcs R ws).length ≤ R.length := by
  simp [arcs]; omega
theorem arcs_pre {R : List (Nat × Nat)} {ws : List Nat} {dn r : List ((Nat × Nat) × Nat)} {x : (Nat × Nat) × Nat} (hx : R.zip ws = dn ++ x :: r) : arcs R ws = dn.map arc ++ arc x :: r.map arc := by
  simp [arcs, hx]
theorem f_led_arcs {n : Nat} {R : List (Nat × Nat)} (o : WOK n R) (ws : List Nat) : Fn sem_led_arcs [some ⟨wD n R, 0, 0⟩, some ⟨.tup (ws.map iD), 0, 0⟩, none, none, none, none] (setT (arcs R ws), 1) := by
  unfold sem_led_arcs
  clean_wf
  refine ws_forL (xs := R.zip ws) (f := fun p => .tup [pD p.1, iD p.2]) (fun dn e => e = [some ⟨wD n R, 0, 0⟩, some ⟨.tup (ws.map iD), 0, 0⟩, some ⟨setT (dn.map arc), 1, 0⟩, none, none, none]) ?_ ?_ ?_
  · clean_wf
    exact ⟨zipD_map .., rfl⟩
  · rintro dn ⟨⟨a, b⟩, w⟩ r e hx rfl
    have nd := arcs_nd o ws
    have ln := Nat.lt_of_le_of_lt (arcs_len R ws) o.sm
    rw [arcs_pre hx] at nd ln
    have nin : arc ((a, b), w) ∉ dn.map arc := fun m => (List.nodup_append.mp nd).2.2 _ m _ (by simp) rfl
    have ln : (dn.map arc).length < 16777216 := by simp at ln ⊢; omega
    clean_wf
    refine ite_i (fun h => ?_) (fun h => ?_)
    · have ea : arc ((a, b), w) = (a, b) := by have : w = 0 := by simpa using h
                                               simp [arc, this]
      rw [ea] at nin
      clean_wf
      refine ⟨_, _, _, _, rfl, rfl, put_setT _ (a, b) ln rfl nin, _, rfl, ?_⟩
      rw [List.map_append, List.map_cons, ea]
      rfl
    · have ea : arc ((a, b), w) = (b, a) := by have : ¬ w = 0 := by simpa using h
                                               simp [arc, this]
      rw [ea] at nin
      clean_wf
      refine ⟨_, _, _, _, rfl, rfl, put_setT _ (b, a) ln rfl nin, _, rfl, ?_⟩
      rw [List.map_append, List.map_cons, ea]
      rfl
  · rintro e rfl
    clean_wf
    rfl
theorem f__law_led {n : Nat} {R : List (Nat × Nat)} (o : WOK n R) (ws : List Nat) : Fn sem__law_led [some ⟨wD n R, 0, 0⟩, some ⟨.tup (ws.map iD), 0, 0⟩, none, none] (setT (arcs R ws), 1) := by
  unfold sem__law_led
  clean_wf
  refine w_dictT ?_
  clean_wf
  refine w_compA (xs := R.zip ws) (f := fun p => .tup [pD p.1, iD p.2]) (fun p => .tup [pD (arc p), .bl true]) ?_
  clean_wf
  refine ⟨zipD_map .., fun x hx => ?_, ?_⟩
  · obtain ⟨⟨a, b⟩, w⟩ := x
    clean_wf
    refine ite_i (fun h => ?_) (fun h => ?_)
    · have ea : arc ((a, b), w) = (a, b) := by have : w = 0 := by simpa using h
                                               simp [arc, this]
      clean_wf
      rw [ea]; exact ⟨rfl, rfl⟩
    · have ea : arc ((a, b), w) = (b, a) := by have : ¬ w = 0 := by simpa using h
                                               simp [arc, this]
      clean_wf
      rw [ea]; exact ⟨rfl, rfl⟩
  · clean_wf
    refine ⟨_, prT_map (fun p => kT (arc p)) (fun _ => .bl true) (fun p => pD (arc p)) (fun _ => rfl) (R.zip ws), ?_⟩
    have : (R.zip ws).map (fun p => (kT (arc p), D.bl true)) = (arcs R ws).map fun p => (kT p, D.bl true) := by rw [arcs, List.map_map]; rfl
    rw [this, putAll_setT _ (arcs_nd o ws)]
end K88
set_option Elab.async false
set_option linter.all false
set_option autoImplicit false
set_option maxRecDepth 100000
set_option maxHeartbeats 4000000
/-! Q88b: what keeps a value from being a closed order, found in two ways. -/
namespace K88
open PySem PySem.Spec L2 Ev
local macro_rules | `(tactic| clean_wf) => `(tactic| repeat' (with_reducible first
  | refine fn_i ?_ | refine ws_seq ?_ | refine ws_if ?_ | refine ws_ret ?_ | refine ws_skip ?_ | refine ws_setE ?_ | refine ws_asg ?_ | refine ws_parN ?_ | refine ws_par ?_
  | refine w_op ?_ | refine w_pkE ?_ | refine w_pkV ?_ | refine w_c ?_ | refine w_c1 ?_ | refine w_sub ?_ | refine w_fz ?_ | refine w_tv ?_
  | refine w_and ?_ | refine w_or ?_ | refine w_not ?_ | refine w_andV ?_ | refine w_notV ?_ | refine w_ite ?_ | refine w_isN ?_ | refine w_yes ?_
  | refine w_itm ?_ | refine w_aNil ?_ | refine w_aCons ?_ | refine w_tup ?_ | refine w_lst ?_ | refine w_conv ?_ | refine w_cat ?_ | refine w_rev ?_
  | refine w_oNone ?_ | refine w_oSome ?_ | refine w_sl ?_ | refine w_it ?_ | refine w_rgN ?_ | refine w_lstRg ?_ | refine w_en ?_ | refine w_zip ?_ | refine w_zip1 ?_
  | refine w_im ?_ | refine w_bits ?_ | refine w_rg2N ?_ | refine w_rgDnN ?_ | refine w_chain ?_ | refine w_dNew ?_ | refine w_gNil ?_ | refine w_gVa ?_ | refine w_gKw ?_
  | refine wg_allNil ?_ | refine wg_allCons ?_ | (show WG (gPutT _ (plVar _) _ _) _ _; refine wg_putT ?_)
  | refine w_pk (by with_unfolding_all exact rfl) ?_ | refine w_var0 (by with_unfolding_all exact rfl) (.inl (by with_unfolding_all exact rfl)) ?_ | refine w_varF' (by with_unfolding_all exact rfl) (by with_unfolding_all exact rfl) ?_ | refine w_mv (by with_unfolding_all exact rfl) (by with_unfolding_all exact rfl) ?_
  | refine wg_setE (by with_unfolding_all exact rfl) (by with_unfolding_all exact rfl) ?_ | refine wg_tupS (by with_unfolding_all exact rfl) ?_ | refine w_plVar ⟨_, by with_unfolding_all exact rfl⟩ ?_
  | refine ite_t (by with_unfolding_all exact rfl) ?_ | refine ite_f (by with_unfolding_all exact rfl) ?_
  | (show WG (gsCons _ _ _) _ _; with_unfolding_all refine wg_sCons ?_)
  | (show WG (gsNil _) _ _; with_unfolding_all refine wg_sNil ?_)
  | (show @Eq Rv _ _; rfl)
  | (show WG (clr _) _ _; with_unfolding_all refine ⟨_, rfl, ?_⟩)
  | (show @Eq En _ _; with_unfolding_all rfl)
  | (show And (_ ≤ _) _; refine ⟨by omega, ?_⟩)
  | (show And (_ < _) _; refine ⟨by omega, ?_⟩)
  | (show And _ _; with_unfolding_all first | refine ⟨⟨rfl, rfl⟩, ?_⟩ | refine ⟨rfl, ?_⟩ | refine ⟨Nat.le_of_ble_eq_true rfl, ?_⟩ | refine ⟨⟨Nat.le_of_ble_eq_true rfl, rfl⟩, ?_⟩)
  | (show Or _ _; with_unfolding_all first | refine .inl ⟨_, rfl, ?_⟩ | refine .inr ⟨_, rfl, ?_⟩)
  | (show ∃ _, gMax2 _ _ = _ ∧ _; refine ⟨_, max2_n _ _, rfl, ?_⟩)
  | (show ∃ _, gAnd _ _ = _ ∧ _; refine ⟨_, and_n _ _, rfl, ?_⟩)
  | (show ∃ _, gOr _ _ = _ ∧ _; refine ⟨_, or_n _ _, rfl, ?_⟩)
  | (show ∃ _, gShr _ _ = _ ∧ _; refine ⟨_, shr_n _ _, rfl, ?_⟩)
  | (show ∃ _, gShl _ _ = _ ∧ _; refine ⟨_, shl_n (by omega), rfl, ?_⟩)
  | (show ∃ _, gI _ _ _ = _ ∧ _; with_unfolding_all first
    | refine ⟨_, gMul_l rfl, rfl, ?_⟩ | refine ⟨_, gMul_r rfl, rfl, ?_⟩ | refine ⟨_, gMul_mod rfl, rfl, ?_⟩ | refine ⟨_, gMod_k rfl, rfl, ?_⟩ | refine ⟨_, gDiv_k rfl, rfl, ?_⟩ | refine ⟨_, rfl, rfl, ?_⟩)
  | (show ∃ _, gEqX _ _ = _ ∧ _; with_unfolding_all first | refine ⟨_, eqX_i .., rfl, ?_⟩ | refine ⟨_, eqX_s .., rfl, ?_⟩)
  | (show ∃ _, gNeX _ _ = _ ∧ _; with_unfolding_all first | refine ⟨_, neX_i .., rfl, ?_⟩ | refine ⟨_, neX_s .., rfl, ?_⟩)
  | (show ∃ _, gB _ _ _ = _ ∧ _; with_unfolding_all first | refine ⟨_, rfl, rfl, ?_⟩ | refine ⟨_, rfl, ?_⟩)
  | (show ∃ _, gIx _ _ = _ ∧ _; with_unfolding_all refine ⟨_, rfl, ?_⟩)
  | (show ∃ _, gIsi _ _ = _ ∧ _; with_unfolding_all refine ⟨_, rfl, rfl, ?_⟩)
  | (show ∃ _, gLen1 _ = _ ∧ _; with_unfolding_all refine ⟨_, rfl, rfl, ?_⟩)
  | (show ∃ _, gInt _ = _ ∧ _; with_unfolding_all refine ⟨_, rfl, rfl, ?_⟩)
  | (show ∃ _, _ = D.bl _ ∧ _; with_unfolding_all refine ⟨_, rfl, ?_⟩)
  | (show ∃ _, _ = D.int _ ∧ _; with_unfolding_all refine ⟨_, rfl, ?_⟩)))
def gapD : Option (Nat × Nat × Nat) → D
  | none => .non
  | some (i, j, k) => .tup [.str "gap", iD i, iD j, iD k]
theorem isForm_ws {R : List (Nat × Nat)} {v : D} (h : isForm R v = true) : ∃ ws : List Nat, v = .tup (ws.map iD) ∧ ws.length = R.length ∧ ∀ w ∈ ws, w ≤ 1 := by
  cases v <;> simp only [isForm, reduceCtorEq, Bool.false_eq_true] at h
  rename_i ds
  simp only [Bool.and_eq_true, decide_eq_true_eq] at h
  obtain ⟨h1, h2⟩ := h
  have : ∃ ws : List Nat, ds = ws.map iD ∧ ∀ w ∈ ws, w ≤ 1 := by
    clear h1
    induction ds with
    | nil => exact ⟨[], rfl, by simp⟩
    | cons d ds ih =>
      simp only [List.all_cons, Bool.and_eq_true] at h2
      obtain ⟨ws, e, hw⟩ := ih h2.2
      cases d <;> simp only [isW, Bool.false_eq_true, false_and] at h2
      rename_i i
      simp only [Bool.and_eq_true, decide_eq_true_eq] at h2
      refine ⟨i.toNat :: ws, ?_, fun w hw' => ?_⟩
      · rw [List.map_cons, ← e]
        have : ((i.toNat : Nat) : Int) = i := by omega
        simp [this]
      · rcases List.mem_cons.mp hw' with rfl | hw'
        · omega
        · exact hw w hw'
  obtain ⟨ws, rfl, hw⟩ := this
  exact ⟨ws, rfl, by simpa using h1, hw⟩
theorem shs_pairs (xs : List (Nat × Nat)) (n : Nat) : shs (xs.map pD) (n + 2) = true := shs_mem _ _ fun d hd => by
  obtain ⟨p, _, rfl⟩ := List.mem_map.mp hd
  rfl
theorem shs_nats (xs : List Nat) (n : Nat) : shs (xs.map iD) n = true := shs_mem _ _ fun d hd => by
  obtain ⟨p, _, rfl⟩ := List.mem_map.mp hd
  rfl
theorem arcs_lt {n : Nat} {R : List (Nat × Nat)} (o : WOK n R) (ws : List Nat) : ∀ p ∈ arcs R ws, p.1 < n ∧ p.2 < n := by
  intro p hp
  obtain ⟨q, hq, rfl⟩ := List.mem_map.mp hp
  have := o.lt _ (List.of_mem_zip hq).1
  unfold arc
  split
  · omega
  · simp only; omega
/-- what is told -/
def faultD (n : Nat) (R : List (Nat × Nat)) (v : D) : D := match v with
  | .tup ds => if isForm R v = true then gapD (MG.g1 n (arcs R (ds.map fun d => match d with | .int i => i.toNat | _ => 0))) else .str "form"
  | _ => .str "form"
theorem faultD_ws (n : Nat) (R : List (Nat × Nat)) (ws : List Nat) (h : isForm R (.tup (ws.map iD)) = true) : faultD n R (.tup (ws.map iD)) = gapD (MG.g1 n (arcs R ws)) := by
  unfold faultD
  simp only [h, if_true, List.map_map]
  congr 3
  conv => rhs; rw [← List.map_id ws]
  exact List.map_congr_left fun a _ => by simp
theorem faultD_no (n : Nat) (R : List (Nat × Nat)) (v : D) (h : isForm R v = false) : faultD n R v = .str "form" := by
  unfold faultD
  cases v <;> simp [h]
theorem f_closed_error {n : Nat} {R : List (Nat × Nat)} (o : WOK n R) (v : D) (h : isPl v = true) (h2 : itPl v = true) : Fn sem_closed_error [some ⟨wD n R, 0, 0⟩, some ⟨v, 0, 0⟩, none, none, none, none, none, none] (faultD n R v, 0) := by
  unfold sem_closed_error
  clean_wf
  refine w_callK [wD n R, v] _ (f_is_order_form n R v h h2) rfl ?_
  clean_wf
  refine ite_i (fun hf => ?_) (fun hf => ?_)
  · have hf : isForm R v = false := by simpa using hf
    clean_wf
    rw [faultD_no n R v hf]
  · have hf : isForm R v = true := by simpa using hf
    obtain ⟨ws, rfl, hl, hw⟩ := isForm_ws hf
    rw [faultD_ws n R ws hf]
    clean_wf
    refine w_callK [wD n R, .tup (ws.map iD)] _ (f_led_arcs o ws) rfl ?_
    clean_wf
    refine w_srtT ?_
    clean_wf
    refine ⟨_, pairsK_setT _, ?_⟩
    rw [srt_pairsD (MG.sa_perm (arcs_nd o ws) (arcs_lt o ws)) (MG.sa_sorted n (arcs R ws))]
    clean_wf
    refine ws_forFind (xs := MG.sa n (arcs R ws)) (f := pD) [some ⟨wD n R, 0, 0⟩, some ⟨.tup (ws.map iD), 0, 0⟩, some ⟨setT (arcs R ws), 0, 0⟩, some ⟨.lst ((MG.sa n (arcs R ws)).map pD), 0, 0⟩, none, none, none, none] (fun p => (MG.sa n (arcs R ws)).findSome? fun q => MG.bad (arcs R ws) p q) (fun y => (gapD (some y), 0)) ?_ ?_ ?_ ?_
    · clean_wf
    · rintro ⟨i, j⟩ hx
      clean_wf
      refine ws_forFind (xs := MG.sa n (arcs R ws)) (f := pD) [some ⟨wD n R, 0, 0⟩, some ⟨.tup (ws.map iD), 0, 0⟩, some ⟨setT (arcs R ws), 0, 0⟩, some ⟨.lst ((MG.sa n (arcs R ws)).map pD), 0, 0⟩, some ⟨iD i, 0, 0⟩, some ⟨iD j, 0, 0⟩, none, none] (fun q => MG.bad (arcs R ws) (i, j) q) (fun y => (gapD (some y), 0)) ?_ ?_ ?_ ?_
      · clean_wf
      · rintro ⟨j', k⟩ hy
        clean_wf
        refine ite_i (fun e1 => ?_) (fun e1 => ?_)
        · have e1 : j' = j := by have := of_decide_eq_true e1; simp only at this; omega
          subst e1
          clean_wf
          refine ⟨_, inX_setT true (arcs R ws) (i, k), rfl, ?_⟩
          clean_wf
          refine ite_i (fun e2 => ?_) (fun e2 => ?_)
          · have e2 : ¬ (i, k) ∈ arcs R ws := by simpa using e2
            clean_wf
            exact ⟨(i, j', k), by simp [MG.bad, e2], rfl⟩
          · have e2 : (i, k) ∈ arcs R ws := by simpa using e2
            clean_wf
            exact ⟨by simp [MG.bad, e2], rfl⟩
        · have e1 : ¬ j' = j := by intro q; simp [q] at e1
          clean_wf
          exact ⟨by simp [MG.bad, e1], rfl⟩
      · intro hn
        exact ⟨_, rfl, hn, rfl⟩
      · intro y e hy
        exact ⟨y, hy, rfl⟩
    · intro hn
      clean_wf
      rw [MG.g1, hn]
      rfl
    · intro y e hy
      rw [MG.g1, hy]
theorem f__law_closed_fault {n : Nat} {R : List (Nat × Nat)} (o : WOK n R) (v : D) (h : isPl v = true) (h2 : itPl v = true) : Fn sem__law_closed_fault [some ⟨wD n R, 0, 0⟩, some ⟨v, 0, 0⟩, none, none, none, none, none, none, none] (faultD n R v, 0) := by
  unfold sem__law_closed_fault
  cases v
  case tup ds =>
    have hn9 := o.n9
    clean_wf
    refine ite_i (fun e1 => ?_) (fun e1 => ?_)
    · have e1 : ¬ ds.length = R.length := by simp at e1; omega
      clean_wf
      rw [faultD_no n R _ (by simp [isForm, e1])]
    have e1 : ds.length = R.length := by simp at e1; omega
    clean_wf
    refine w_compD (xs := ds) (fun d => .bl (isW 0 1 d)) ?_
    clean_wf
    refine ⟨fun x hx => ?_, _, all_map _ _, rfl, ?_⟩
    · clean_wf
      refine w_callK [x, .int 2] _ (f__law_is_house x (List.all_eq_true.mp h2 x hx) 2) rfl ?_
      clean_wf
    clean_wf
    refine ite_i (fun e2 => ?_) (fun e2 => ?_)
    · have e2 : ds.all (isW 0 1) = false := by simpa using e2
      clean_wf
      rw [faultD_no n R _ (by simp [isForm, e2])]
    have e2 : ds.all (isW 0 1) = true := by simpa using e2
    have hf : isForm R (.tup ds) = true := by simp only [isForm, e1, e2]; simp
    obtain ⟨ws, e0, hl, hw⟩ := isForm_ws hf
    cases e0
    rw [faultD_ws n R ws hf, MG.g_eq]
    clean_wf
    refine w_callK [wD n R, .tup (ws.map iD)] _ (f__law_led o ws) rfl ?_
    clean_wf
    refine w_compA (xs := List.range n) (f := iD) (fun i => .lst ((MG.to n (arcs R ws) i).map iD)) ?_
    clean_wf
    refine ⟨fun i hi => ?_, ?_⟩
    · have hi : i < n := List.mem_range.mp hi
      clean_wf
      refine w_compL (xs := List.range n) (f := iD) (fun k => decide ((i, k) ∈ arcs R ws)) iD ?_
      clean_wf
      refine ⟨fun k hk => ?_, ?_⟩
      · clean_wf
        refine ⟨_, inX_setT false (arcs R ws) (i, k), rfl, ?_⟩
        clean_wf
        refine ite_i (fun e3 => ?_) (fun e3 => ?_) <;> clean_wf
      clean_wf
    clean_wf
    refine ws_forFind (xs := List.range n) (f := iD) [some ⟨wD n R, 0, 0⟩, some ⟨.tup (ws.map iD), 0, 0⟩, none, some ⟨setT (arcs R ws), 0, 0⟩, none, none, some ⟨.lst ((List.range n).map fun i => .lst ((MG.to n (arcs R ws) i).map iD)), 0, 0⟩, none, none] (fun i => (MG.to n (arcs R ws) i).findSome? fun j => (MG.lost n (arcs R ws) i j).head?.map fun k => (i, j, k)) (fun y => (gapD (some y), 0)) ?_ ?_ ?_ ?_
    · clean_wf
    · intro i hi
      have hi : i < n := List.mem_range.mp hi
      clean_wf
      refine ws_forFind (xs := MG.to n (arcs R ws) i) (f := iD) [some ⟨wD n R, 0, 0⟩, some ⟨.tup (ws.map iD), 0, 0⟩, none, some ⟨setT (arcs R ws), 0, 0⟩, some ⟨iD i, 0, 0⟩, none, some ⟨.lst ((List.range n).map fun i => .lst ((MG.to n (arcs R ws) i).map iD)), 0, 0⟩, none, none] (fun j => (MG.lost n (arcs R ws) i j).head?.map fun k => (i, j, k)) (fun y => (gapD (some y), 0)) ?_ ?_ ?_ ?_
      · clean_wf
        refine ⟨_, ix_rg hi, ?_⟩
        clean_wf
      · intro j hj
        have hj : j < n := (MG.mem_to.mp hj).1
        clean_wf
        refine w_compF (xs := MG.to n (arcs R ws) j) (f := iD) (fun k => !decide ((i, k) ∈ arcs R ws)) iD (MG.lost n (arcs R ws) i j) rfl ?_
        clean_wf
        refine ⟨_, ix_rg hj, ?_⟩
        clean_wf
        refine ⟨fun k hk => ?_, ?_⟩
        · clean_wf
          refine ⟨_, inX_setT true (arcs R ws) (i, k), rfl, ?_⟩
          clean_wf
          refine ite_i (fun e3 => ?_) (fun e3 => ?_) <;> clean_wf
        clean_wf
        refine ⟨_, neX_nil (shs_nats (MG.lost n (arcs R ws) i j) 63), rfl, ?_⟩
        clean_wf
        obtain ⟨L, hL⟩ : ∃ L, MG.lost n (arcs R ws) i j = L := ⟨_, rfl⟩
        rw [hL]
        cases L with
        | nil => clean_wf
        | cons k L =>
          clean_wf
          refine ⟨_, ix_lst (f := iD) (xs := k :: L) (i := 0) (x := k) rfl, ?_⟩
          clean_wf
          exact ⟨(i, j, k), rfl, rfl⟩
      · intro hn
        exact ⟨_, rfl, hn, rfl⟩
      · intro y e hy
        exact ⟨y, hy, rfl⟩
    · intro hn
      clean_wf
      rw [MG.g2, hn]
      rfl
    · intro y e hy
      rw [MG.g2, hy]
  all_goals first | exact Bool.noConfusion h | (clean_wf; rfl)
end K88
set_option Elab.async false
set_option linter.all false
set_option autoImplicit false
set_option maxRecDepth 100000
set_option maxHeartbeats 4000000
/-! Q88c: levels and chains. -/
namespace K88
open PySem PySem.Spec L2 Ev
local macro_rules | `(tactic| clean_wf) => `(tactic| repeat' (with_reducible first
  | refine fn_i ?_ | refine ws_seq ?_ | refine ws_if ?_ | refine ws_ret ?_ | refine ws_skip ?_ | refine ws_setE ?_ | refine ws_asg ?_ | refine ws_parN ?_ | refine ws_par ?_
  | refine w_op ?_ | refine w_pkE ?_ | refine w_pkV ?_ | refine w_c ?_ | refine w_c1 ?_ | refine w_sub ?_ | refine w_fz ?_ | refine w_tv ?_
  | refine w_and ?_ | refine w_or ?_ | refine w_not ?_ | refine w_andV ?_ | refine w_notV ?_ | refine w_ite ?_ | refine w_isN ?_ | refine w_yes ?_
  | refine w_itm ?_ | refine w_aNil ?_ | refine w_aCons ?_ | refine w_tup ?_ | refine w_lst ?_ | refine w_conv ?_ | refine w_cat ?_ | refine w_rev ?_
  | refine w_oNone ?_ | refine w_oSome ?_ | refine w_sl ?_ | refine w_it ?_ | refine w_rgN ?_ | refine w_lstRg ?_ | refine w_en ?_ | refine w_zip ?_ | refine w_zip1 ?_
  | refine w_im ?_ | refine w_bits ?_ | refine w_rg2N ?_ | refine w_rgDnN ?_ | refine w_chain ?_ | refine w_dNew ?_ | refine w_gNil ?_ | refine w_gVa ?_ | refine w_gKw ?_
  | refine wg_allNil ?_ | refine wg_allCons ?_ | (show WG (gPutT _ (plVar _) _ _) _ _; refine wg_putT ?_)
  | refine w_pk (by with_unfolding_all exact rfl) ?_ | refine w_var0 (by with_unfolding_all exact rfl) (.inl (by with_unfolding_all exact rfl)) ?_ | refine w_varF' (by with_unfolding_all exact rfl) (by with_unfolding_all exact rfl) ?_ | refine w_mv (by with_unfolding_all exact rfl) (by with_unfolding_all exact rfl) ?_
  | refine wg_setE (by with_unfolding_all exact rfl) (by with_unfolding_all exact rfl) ?_ | refine wg_tupS (by with_unfolding_all exact rfl) ?_ | refine w_plVar ⟨_, by with_unfolding_all exact rfl⟩ ?_
  | refine ite_t (by with_unfolding_all exact rfl) ?_ | refine ite_f (by with_unfolding_all exact rfl) ?_
  | (show WG (gsCons _ _ _) _ _; with_unfolding_all refine wg_sCons ?_)
  | (show WG (gsNil _) _ _; with_unfolding_all refine wg_sNil ?_)
  | (show @Eq Rv _ _; rfl)
  | (show WG (clr _) _ _; with_unfolding_all refine ⟨_, rfl, ?_⟩)
  | (show @Eq En _ _; with_unfolding_all rfl)
  | (show And (_ ≤ _) _; refine ⟨by omega, ?_⟩)
  | (show And (_ < _) _; refine ⟨by omega, ?_⟩)
  | (show And _ _; with_unfolding_all first | refine ⟨⟨rfl, rfl⟩, ?_⟩ | refine ⟨rfl, ?_⟩ | refine ⟨Nat.le_of_ble_eq_true rfl, ?_⟩ | refine ⟨⟨Nat.le_of_ble_eq_true rfl, rfl⟩, ?_⟩)
  | (show Or _ _; with_unfolding_all first | refine .inl ⟨_, rfl, ?_⟩ | refine .inr ⟨_, rfl, ?_⟩)
  | (show ∃ _, gMax2 _ _ = _ ∧ _; refine ⟨_, max2_n _ _, rfl, ?_⟩)
  | (show ∃ _, gAnd _ _ = _ ∧ _; refine ⟨_, and_n _ _, rfl, ?_⟩)
  | (show ∃ _, gOr _ _ = _ ∧ _; refine ⟨_, or_n _ _, rfl, ?_⟩)
  | (show ∃ _, gShr _ _ = _ ∧ _; refine ⟨_, shr_n _ _, rfl, ?_⟩)
  | (show ∃ _, gShl _ _ = _ ∧ _; refine ⟨_, shl_n (by omega), rfl, ?_⟩)
  | (show ∃ _, gI _ _ _ = _ ∧ _; with_unfolding_all first
    | refine ⟨_, gMul_l rfl, rfl, ?_⟩ | refine ⟨_, gMul_r rfl, rfl, ?_⟩ | refine ⟨_, gMul_mod rfl, rfl, ?_⟩ | refine ⟨_, gMod_k rfl, rfl, ?_⟩ | refine ⟨_, gDiv_k rfl, rfl, ?_⟩ | refine ⟨_, rfl, rfl, ?_⟩)
  | (show ∃ _, gEqX _ _ = _ ∧ _; with_unfolding_all first | refine ⟨_, eqX_i .., rfl, ?_⟩ | refine ⟨_, eqX_s .., rfl, ?_⟩)
  | (show ∃ _, gNeX _ _ = _ ∧ _; with_unfolding_all first | refine ⟨_, neX_i .., rfl, ?_⟩ | refine ⟨_, neX_s .., rfl, ?_⟩)
  | (show ∃ _, gB _ _ _ = _ ∧ _; with_unfolding_all first | refine ⟨_, rfl, rfl, ?_⟩ | refine ⟨_, rfl, ?_⟩)
  | (show ∃ _, gIx _ _ = _ ∧ _; with_unfolding_all refine ⟨_, rfl, ?_⟩)
  | (show ∃ _, gIsi _ _ = _ ∧ _; with_unfolding_all refine ⟨_, rfl, rfl, ?_⟩)
  | (show ∃ _, gLen1 _ = _ ∧ _; with_unfolding_all refine ⟨_, rfl, rfl, ?_⟩)
  | (show ∃ _, gInt _ = _ ∧ _; with_unfolding_all refine ⟨_, rfl, rfl, ?_⟩)
  | (show ∃ _, _ = D.bl _ ∧ _; with_unfolding_all refine ⟨_, rfl, ?_⟩)
  | (show ∃ _, _ = D.int _ ∧ _; with_unfolding_all refine ⟨_, rfl, ?_⟩)))
abbrev tpD (c : List Nat) : D := .tup (c.map iD)
abbrev chL (n : Nat) (f : Nat → List Nat) : D := .lst ((List.range n).map fun v => tpD (f v))
abbrev lvL (n : Nat) (f : Nat → List Nat) : List D := (List.range n).map fun v => .int (((f v).length : Int) - 1)
theorem ims_nats (c : List Nat) : ims (c.map iD) = true := by
  rw [ims_all, List.all_eq_true]
  intro d hd
  obtain ⟨p, _, rfl⟩ := List.mem_map.mp hd
  rfl
theorem chS_fold (dn : List (Nat × Nat)) (p : Nat × Nat) (f : Nat → List Nat) : M88.chR (dn ++ [p]) f = M88.chS (M88.chR dn f) p := by
  simp [M88.chR]
theorem inv_len {n : Nat} {A : List (Nat × Nat)} (so : M88.SOr n A) {f : Nat → List Nat} (h : M88.Inv n A f) {v : Nat} (hv : v < n) : (f v).length ≤ n := by
  obtain ⟨c, e1, e2, e3⟩ := h v hv
  rw [e1]
  refine M88.len_le (M88.Ch.nodup so e2) n fun a ha => ?_
  rcases List.mem_append.mp ha with ha | ha
  · exact e3 a ha
  · have : a = v := by simpa using ha
    omega
theorem inv_at {n : Nat} {A : List (Nat × Nat)} (so : M88.SOr n A) (t : Nat) (dm r : List (Nat × Nat)) (h : A = dm ++ r) : M88.Inv n A (M88.chR dm (M88.chN A t M88.ch0)) := by
  have h1 : ∀ t, M88.Inv n A (M88.chN A t M88.ch0) := fun t => by
    induction t with
    | zero => exact M88.inv0
    | succ t ih => exact M88.Inv.round so ih A fun _ h => h
  exact M88.Inv.round so (h1 t) dm fun p hp => by rw [h]; simp [hp]
theorem f_best_chains {n : Nat} {R : List (Nat × Nat)} (o : WOK n R) (ws : List Nat) (so : M88.SOr n (arcs R ws)) : Fn sem_best_chains [some ⟨wD n R, 0, 0⟩, some ⟨.tup (ws.map iD), 0, 0⟩, none, none, none, none, none, none] (chL n (M88.best n (arcs R ws)), 1) := by
  unfold sem_best_chains
  have hn := o.n9
  have hlt := arcs_lt o ws
  clean_wf
  refine w_callK [wD n R, .tup (ws.map iD)] _ (f_led_arcs o ws) rfl ?_
  clean_wf
  refine w_compA (xs := List.range n) (f := iD) (fun v => tpD [v]) ?_
  clean_wf
  refine ⟨fun v hv => ?_, ?_⟩
  · clean_wf
  clean_wf
  refine ⟨_, _, rfl, ?_⟩
  clean_wf
  have e0 : (fun v => tpD [v]) = fun v => tpD (M88.chN (arcs R ws) 0 M88.ch0 v) := rfl
  refine ws_forL (xs := List.range n) (f := iD) (fun dn e => e = [some ⟨wD n R, 0, 0⟩, some ⟨.tup (ws.map iD), 0, 0⟩, none, some ⟨setT (arcs R ws), 1, 0⟩, some ⟨chL n (M88.chN (arcs R ws) dn.length M88.ch0), 1, 0⟩, none, none, none]) ?_ ?_ ?_
  · clean_wf
  · rintro dn t r e hx rfl
    clean_wf
    refine ws_forKL (xs := arcs R ws) (f := pD) (s := ⟨setT (arcs R ws), 1, 0⟩) (d := setT (arcs R ws)) (fun dm e => e = [some ⟨wD n R, 0, 0⟩, some ⟨.tup (ws.map iD), 0, 0⟩, none, some ⟨setT (arcs R ws), 1, 2⟩, some ⟨chL n (M88.chR dm (M88.chN (arcs R ws) dn.length M88.ch0)), 1, 0⟩, some ⟨iD t, 0, 0⟩, none, none]) rfl (keys_setT _) ?_ ?_ ?_
    · clean_wf
    · rintro dm ⟨i, j⟩ r' e hx' rfl
      have hij := hlt (i, j) (by rw [hx']; simp)
      simp only at hij
      obtain ⟨hi, hj⟩ := hij
      clean_wf
      refine ⟨_, ix_rg hi, ?_⟩
      clean_wf
      refine ⟨_, ix_rg hj, ?_⟩
      clean_wf
      rw [chS_fold]
      have inv := inv_at so dn.length dm _ hx'
      obtain ⟨g, hg⟩ : ∃ g, M88.chR dm (M88.chN (arcs R ws) dn.length M88.ch0) = g := ⟨_, rfl⟩
      simp only [hg] at inv ⊢
      have hli := inv_len so inv hi
      refine ite_i (fun e1 => ?_) (fun e1 => ?_)
      · have e1 : (g j).length ≤ (g i).length := by have := of_decide_eq_true e1; simp at this; omega
        have es : M88.chS g (i, j) = M88.upd g j (g i ++ [j]) := by unfold M88.chS; rw [if_pos e1]
        clean_wf
        refine ⟨_, ix_rg hi, ims_nats _, ?_⟩
        clean_wf
        refine ⟨⟨rfl, by simp; omega⟩, ?_⟩
        clean_wf
        refine ⟨_, _, _, _, rfl, rfl, put_lst (by simpa using hj), ?_⟩
        have em : chL n (M88.upd g j (g i ++ [j])) = .lst (((List.range n).map fun v => tpD (g v)).set j (mkSq true ((g i).map iD ++ [iD j])).1) := by
          refine congrArg D.lst ?_
          apply List.ext_getElem
          · simp
          · intro k h1 h2
            simp only [List.getElem_set, List.getElem_map, List.getElem_range, M88.upd]
            by_cases h : j = k
            · subst h; simp [mkSq]
            · simp [h, Ne.symm h]
        rw [es, em]
        clean_wf
      · have e1 : ¬ (g j).length ≤ (g i).length := by intro q; simp at e1; omega
        have es : M88.chS g (i, j) = g := by unfold M88.chS; rw [if_neg e1]
        rw [es]
        clean_wf
    · rintro e rfl
      have : M88.chN (arcs R ws) (dn ++ [t]).length M88.ch0 = M88.chR (arcs R ws) (M88.chN (arcs R ws) dn.length M88.ch0) := by
        rw [List.length_append]; rfl
      rw [this]
      clean_wf
  · rintro e rfl
    clean_wf
    simp [M88.best]
theorem f_order_levels {n : Nat} {R : List (Nat × Nat)} (o : WOK n R) (ws : List Nat) (so : M88.SOr n (arcs R ws)) : Fn sem_order_levels [some ⟨wD n R, 0, 0⟩, some ⟨.tup (ws.map iD), 0, 0⟩, none] (.tup (lvL n (M88.best n (arcs R ws))), 0) := by
  unfold sem_order_levels
  clean_wf
  refine w_compA (xs := List.range n) (f := fun v => tpD (M88.best n (arcs R ws) v)) (fun v => .int (((M88.best n (arcs R ws) v).length : Int) - 1)) ?_
  clean_wf
  refine w_callK [wD n R, .tup (ws.map iD)] _ (f_best_chains o ws so) rfl ?_
  clean_wf
  refine ⟨fun v hv => ?_, ?_⟩
  · clean_wf
    refine ⟨?_, rfl⟩
    simp
  clean_wf
  rfl
theorem f__law_levels {n : Nat} {R : List (Nat × Nat)} (o : WOK n R) (ws : List Nat) (so : M88.SOr n (arcs R ws)) : Fn sem__law_levels [some ⟨wD n R, 0, 0⟩, some ⟨.tup (ws.map iD), 0, 0⟩, none, none, none, none, none] (.tup (lvL n (M88.best n (arcs R ws))), 0) := by
  unfold sem__law_levels
  have hn := o.n9
  have hlt := arcs_lt o ws
  clean_wf
  refine w_callK [wD n R, .tup (ws.map iD)] _ (f__law_led o ws) rfl ?_
  clean_wf
  refine w_rep ?_
  clean_wf
  refine ⟨by simp; omega, ?_⟩
  clean_wf
  have e0 : (List.replicate ((n : Int)).toNat [D.int 0]).flatten = lvL n (M88.chN (arcs R ws) 0 M88.ch0) := by
    rw [Int.toNat_natCast]
    apply List.ext_getElem
    · simp
    · intro k h1 h2
      simp [M88.chN, M88.ch0]
  refine ⟨_, _, rfl, ?_⟩
  clean_wf
  refine ws_forL (xs := List.range n) (f := iD) (fun dn e => e = [some ⟨wD n R, 0, 0⟩, some ⟨.tup (ws.map iD), 0, 0⟩, some ⟨setT (arcs R ws), 1, 0⟩, some ⟨.lst (lvL n (M88.chN (arcs R ws) dn.length M88.ch0)), 1, 0⟩, none, none, none]) ?_ ?_ ?_
  · clean_wf
    rw [List.length_nil, ← e0]
    clean_wf
  · rintro dn t r e hx rfl
    clean_wf
    refine ws_forKL (xs := arcs R ws) (f := pD) (s := ⟨setT (arcs R ws), 1, 0⟩) (d := setT (arcs R ws)) (fun dm e => e = [some ⟨wD n R, 0, 0⟩, some ⟨.tup (ws.map iD), 0, 0⟩, some ⟨setT (arcs R ws), 1, 2⟩, some ⟨.lst (lvL n (M88.chR dm (M88.chN (arcs R ws) dn.length M88.ch0))), 1, 0⟩, some ⟨iD t, 0, 0⟩, none, none]) rfl (keys_setT _) ?_ ?_ ?_
    · clean_wf
    · rintro dm ⟨i, j⟩ r' e hx' rfl
      have hij := hlt (i, j) (by rw [hx']; simp)
      simp only at hij
      obtain ⟨hi, hj⟩ := hij
      rw [chS_fold]
      have inv := inv_at so dn.length dm _ hx'
      obtain ⟨g, hg⟩ : ∃ g, M88.chR dm (M88.chN (arcs R ws) dn.length M88.ch0) = g := ⟨_, rfl⟩
      simp only [hg] at inv ⊢
      clean_wf
      refine ⟨_, ix_rg hj, ?_⟩
      clean_wf
      refine ⟨_, ix_rg hi, ?_⟩
      clean_wf
      refine ⟨_, _, _, _, rfl, rfl, put_lst (by simpa using hj), ?_⟩
      have em : D.lst (lvL n (M88.chS g (i, j))) = .lst ((lvL n g).set j (.int (if ((g i).length : Int) - 1 + 1 > ((g j).length : Int) - 1 then ((g i).length : Int) - 1 + 1 else ((g j).length : Int) - 1))) := by
        refine congrArg D.lst ?_
        unfold M88.chS
        apply List.ext_getElem
        · simp
        · intro k h1 h2
          by_cases hc : (g j).length ≤ (g i).length
          · simp only [if_pos hc, List.getElem_set, List.getElem_map, List.getElem_range, M88.upd]
            by_cases h : j = k
            · subst h; simp; omega
            · simp [h, Ne.symm h]
          · simp only [if_neg hc, List.getElem_set, List.getElem_map, List.getElem_range]
            by_cases h : j = k
            · subst h; simp; omega
            · simp [h, Ne.symm h]
      rw [em]
      clean_wf
    · rintro e rfl
      have : M88.chN (arcs R ws) (dn ++ [t]).length M88.ch0 = M88.chR (arcs R ws) (M88.chN (arcs R ws) dn.length M88.ch0) := by
        rw [List.length_append]; rfl
      rw [this]
      clean_wf
  · rintro e rfl
    clean_wf
    simp [M88.best, mkSq]
/-- the first of the longest chains -/
def longV (n : Nat) (A : List (Nat × Nat)) : List Nat := (List.range n).filter fun v => decide ((M88.best n A v).length = M88.most n A)
def longC (n : Nat) (A : List (Nat × Nat)) : List Nat := match longV n A with
  | [] => []
  | v :: _ => M88.best n A v
theorem shs_tps (f : Nat → List Nat) (xs : List Nat) (k : Nat) : shs (xs.map fun v => tpD (f v)) (k + 1) = true := shs_mem _ _ fun d hd => by
  obtain ⟨p, _, rfl⟩ := List.mem_map.mp hd
  exact shs_nats _ _
theorem longV_ne {n : Nat} {A : List (Nat × Nat)} (so : M88.SOr n A) (hn : 0 < n) : longV n A ≠ [] := by
  obtain ⟨v, hv, e⟩ := M88.most_chain so hn
  intro h
  have : v ∈ longV n A := List.mem_filter.mpr ⟨List.mem_range.mpr hv, by simpa using e⟩
  rw [h] at this
  simp at this
theorem f_longest_chain {n : Nat} {R : List (Nat × Nat)} (o : WOK n R) (ws : List Nat) (so : M88.SOr n (arcs R ws)) : Fn sem_longest_chain [some ⟨wD n R, 0, 0⟩, some ⟨.tup (ws.map iD), 0, 0⟩, none, none, none] (tpD (longC n (arcs R ws)), 0) := by
  unfold sem_longest_chain
  clean_wf
  refine w_callK [wD n R, .tup (ws.map iD)] _ (f_best_chains o ws so) rfl ?_
  clean_wf
  refine w_compA (xs := List.range n) (f := fun v => tpD (M88.best n (arcs R ws) v)) (fun v => iD (M88.best n (arcs R ws) v).length) ?_
  clean_wf
  refine ⟨fun v hv => ?_, ?_⟩
  · clean_wf
    refine ⟨?_, rfl⟩
    simp
  clean_wf
  refine ⟨_, maxD_map (fun v => (M88.best n (arcs R ws) v).length) (List.range n), rfl, ?_⟩
  clean_wf
  refine ⟨_, neX_nil (shs_tps _ _ 62), rfl, ?_⟩
  clean_wf
  rcases Nat.eq_zero_or_pos n with rfl | hn
  · clean_wf
    rfl
  refine ite_t (by cases n with | zero => omega | succ n => simp [List.range_succ]) ?_
  clean_wf
  refine w_compF (xs := List.range n) (f := fun v => tpD (M88.best n (arcs R ws) v)) (fun v => decide ((M88.best n (arcs R ws) v).length = M88.most n (arcs R ws))) (fun v => tpD (M88.best n (arcs R ws) v)) (longV n (arcs R ws)) rfl ?_
  clean_wf
  refine ⟨fun v hv => ?_, ?_⟩
  · clean_wf
    refine ⟨by rw [decide_eq_decide]; simp only [List.length_map, M88.most, M88.mx]; exact Int.ofNat_inj, ?_⟩
    refine ite_i (fun e => ?_) (fun e => ?_) <;> clean_wf
  · clean_wf
    have ne := longV_ne so hn
    unfold longC
    cases hL : longV n (arcs R ws) with
    | nil => exact absurd hL ne
    | cons v L =>
      refine ⟨_, ix_lst (f := fun v => tpD (M88.best n (arcs R ws) v)) (xs := v :: L) (i := 0) (x := v) rfl, ?_⟩
      rfl
end K88
set_option Elab.async false
set_option linter.all false
set_option autoImplicit false
set_option maxRecDepth 100000
set_option maxHeartbeats 4000000
/-! Ev40: lists of lists and of dicts, changed at a place; sets of houses. -/
namespace Ev
open PySem PySem.Spec L2
section
variable {e : En} {N : En → Prop} {R : Rv → En → Prop} {B C : En → Prop}
abbrev rgL (n : Nat) (f : Nat → D) : D := .lst ((List.range n).map f)
theorem atPl_rg {i n v : Nat} {f : Nat → D} (h : e[i]? = some (some ⟨rgL n f, 2, 0⟩)) (hv : v < n) : atPl i (some (iD v)) e = some (⟨rgL n f, 2, 0⟩, f v, 0) := by
  have h2 : subP (rgL n f) (some (iD v)) = some (f v) := atI_map (f := f) (xs := List.range n) (by simp [hv])
  unfold atPl
  rw [h]
  simp only [h2, depP]
  rw [if_pos ⟨by decide, rfl, by decide⟩]
theorem atList_rg {i n v : Nat} {f : Nat → D} {ds : List D} (h : e[i]? = some (some ⟨rgL n f, 2, 0⟩)) (hv : v < n) (hd : f v = .lst ds) : atList i (some (iD v)) e = some (⟨rgL n f, 2, 0⟩, ds, 0) := by
  have h2 : subP (rgL n f) (some (iD v)) = some (.lst ds) := by
    rw [← hd]; exact atI_map (f := f) (xs := List.range n) (by simp [hv])
  unfold atList
  rw [h]
  simp only [h2, depP]
  rw [if_pos ⟨by decide, rfl, by decide⟩]
theorem putP_rg {n v : Nat} {f : Nat → D} {d : D} (hv : v < n) : putP (rgL n f) (some (iD v)) d = rgL n (MS.upd f v d) := by
  show (match ixN ((List.range n).map f).length (v : Int) with | some j => D.lst (((List.range n).map f).set j d) | none => rgL n f) = _
  rw [ixN_nat (by simpa using hv)]
  refine congrArg D.lst ?_
  apply List.ext_getElem
  · simp
  · intro k h1 h2
    simp only [List.getElem_set, List.getElem_map, List.getElem_range, MS.upd]
    by_cases h : v = k
    · subst h; simp
    · simp [h, Ne.symm h]
theorem w_plRg {i n v : Nat} {f : Nat → D} {b : SP} {Q : Option D → En → Prop} (hv : v < n) (hi : ∃ s, e[i]? = some (some s)) (h : W b (fun key e1 => key = iD v ∧ e1[i]? = some (some ⟨rgL n f, 2, 0⟩) ∧ Q (some (iD v)) e1) e) : W (plSub i b) Q e :=
  w_plSub hi (h.mono fun key e1 ⟨hk, h1, q⟩ => by
    subst hk
    exact ⟨_, f v, h1, atI_map (f := f) (xs := List.range n) (by simp [hv]), by simp, q⟩)
/-- x[v][key] = r -/
theorem wg_putS {i n v : Nat} {f : Nat → D} {b s : SP} {r : Rv} {Q : En → Prop} (hv : v < n) (h0 : e[i]? = some (some ⟨rgL n f, 2, 0⟩))
    (h : W b (fun key e1 => key = iD v ∧ e1[i]? = some (some ⟨rgL n f, 2, 0⟩) ∧ W s (fun key e2 => e2[i]? = some (some ⟨rgL n f, 2, 0⟩) ∧ ∃ d', gPut 0 (f v) key r.1 = some d' ∧ Q (e2.set i (some ⟨rgL n (MS.upd f v d'), 2, 0⟩))) e1) e) : WG (gPutT i (plSub i b) s r) Q e :=
  wg_putT (w_plRg (n := n) (f := f) hv ⟨_, h0⟩ (h.mono fun key e1 ⟨hk, h1, q⟩ => ⟨hk, h1, q.mono fun key e2 ⟨h2, d', hp, q⟩ => ⟨_, _, _, d', atPl_rg h2 hv, rfl, hp, by rw [putP_rg hv]; exact q⟩⟩))
/-- x[v].append(..) -/
theorem ws_appS {i n v : Nat} {f : Nat → D} {ds : List D} {b : SP} {s : SE} (hv : v < n) (hd : f v = .lst ds) (hl : ds.length < 16777216) (h0 : e[i]? = some (some ⟨rgL n f, 2, 0⟩))
    (h : W b (fun key e1 => key = iD v ∧ e1[i]? = some (some ⟨rgL n f, 2, 0⟩) ∧ W s (fun r e2 => e2[i]? = some (some ⟨rgL n f, 2, 0⟩) ∧ N (e2.set i (some ⟨rgL n (MS.upd f v (.lst (ds ++ [r.1]))), 2, 0⟩))) e1) e) : WS (sApp i (plSub i b) s) N R B C e :=
  ws_app (w_plRg (n := n) (f := f) hv ⟨_, h0⟩ (h.mono fun key e1 ⟨hk, h1, q⟩ => ⟨hk, h1, ⟨_, atList_rg h1 hv hd⟩, q.mono fun r e2 ⟨h2, q⟩ => ⟨_, _, _, atList_rg h2 hv hd, ⟨hl, rfl⟩, by rw [putP_rg hv]; exact q⟩⟩))
/-- x.append(..) of a list that is ours -/
theorem ws_appV {i k : Nat} {ds : List D} {s : SE} (h0 : e[i]? = some (some ⟨.lst ds, k + 1, 0⟩)) (h : W s (fun r e2 => e2[i]? = some (some ⟨.lst ds, k + 1, 0⟩) ∧ (ds.length < 16777216 ∧ fitsJ k r = true) ∧ N (e2.set i (some ⟨.lst (ds ++ [r.1]), k + 1, 0⟩))) e) : WS (sApp i (plVar i) s) N R B C e := by
  have at0 : ∀ e : En, e[i]? = some (some ⟨.lst ds, k + 1, 0⟩) → atList i none e = some (⟨.lst ds, k + 1, 0⟩, ds, k) := fun e h => by
    unfold atList
    rw [h]
    simp [depP, okP, subP]
  exact ws_app (w_plVar ⟨_, h0⟩ ⟨⟨_, at0 e h0⟩, h.mono fun r e2 ⟨h2, hc, q⟩ => ⟨_, _, _, at0 e2 h2, hc, q⟩⟩)
/-- x.pop() of a list that is ours -/
theorem w_popV {i k : Nat} {ds : List D} {d : D} {Q : Rv → En → Prop} (h0 : e[i]? = some (some ⟨.lst (ds ++ [d]), k + 1, 0⟩)) (q : Q (d, k) (e.set i (some ⟨.lst ds, k + 1, 0⟩))) : W (sPop i (plVar i)) Q e := by
  have at0 : atList i none e = some (⟨.lst (ds ++ [d]), k + 1, 0⟩, ds ++ [d], k) := by
    unfold atList
    rw [h0]
    simp [depP, okP, subP]
  have er : (ds ++ [d]).eraseIdx ((ds ++ [d]).length - 1) = ds := by
    rw [List.length_append, List.length_cons, List.length_nil, Nat.add_sub_cancel, List.eraseIdx_append_of_length_le (Nat.le_refl _)]
    simp
  refine w_pop (w_plVar ⟨_, h0⟩ ⟨_, _, _, d, at0, by simp, ?_⟩)
  rw [er]
  exact q
/-- x.extend(..) of a list that is ours -/
theorem ws_extV {i k : Nat} {ds : List D} {s : SL} (h0 : e[i]? = some (some ⟨.lst ds, k + 1, 0⟩)) (h : W s (fun x e2 => x.1 = false ∧ e2[i]? = some (some ⟨.lst ds, k + 1, 0⟩) ∧ (ds.length + x.2.length ≤ 16777216 ∧ (k = 0 ∨ x.2.all D.imm = true)) ∧ N (e2.set i (some ⟨.lst (ds ++ x.2), k + 1, 0⟩))) e) : WS (sExt i (plVar i) s) N R B C e := by
  have at0 : ∀ e : En, e[i]? = some (some ⟨.lst ds, k + 1, 0⟩) → atList i none e = some (⟨.lst ds, k + 1, 0⟩, ds, k) := fun e h => by
    unfold atList
    rw [h]
    simp [depP, okP, subP]
  exact ws_ext (w_plVar ⟨_, h0⟩ ⟨⟨_, at0 e h0⟩, h.mono fun x e2 ⟨hx, h2, hc, q⟩ => ⟨hx, _, _, _, at0 e2 h2, hc, q⟩⟩)
end
/-! #### dicts whose keys are numbers -/
abbrev setK (l : List Nat) : D := .dK (l.map fun (w : Nat) => ((.inl (w : Int) : Key), .bl true))
theorem look_setK (A : List Nat) (p : Nat) : (look (A.map fun (w : Nat) => ((.inl (w : Int) : Key), D.bl true)) (.inl (p : Int))).isSome = decide (p ∈ A) := by
  induction A with
  | nil => rfl
  | cons q A ih =>
    rw [List.map_cons, look_cons]
    by_cases h : q = p
    · subst h; simp
    · have h' : ¬ ((.inl (q : Int) : Key) = .inl (p : Int)) := fun e => h (by injection e with e; omega)
      rw [if_neg h', ih]
      simp [Ne.symm h]
theorem inX_setK (neg : Bool) (A : List Nat) (p : Nat) : gInX neg (iD p) (setK A) = some (.bl (if neg = true then !decide (p ∈ A) else decide (p ∈ A))) := by
  have h := look_setK A p
  show (match some (look (A.map fun (w : Nat) => ((.inl (w : Int) : Key), D.bl true)) (.inl (p : Int))) with | some o => some (D.bl (if neg = true then !o.isSome else o.isSome)) | none => none) = _
  simp only [h]
theorem put_setK {j : Nat} (A : List Nat) (p : Nat) (hl : A.length < 16777216) (hj : j = 0) (hp : p ∉ A) : gPut j (setK A) (iD p) (.bl true) = some (setK (A ++ [p])) := by
  have h : putK (A.map fun (w : Nat) => ((.inl (w : Int) : Key), D.bl true)) (.inl (p : Int)) (D.bl true) = (A ++ [p]).map fun (w : Nat) => ((.inl (w : Int) : Key), D.bl true) := by
    rw [putK_new]
    · simp
    · intro kv hm
      obtain ⟨q, hq, rfl⟩ := List.mem_map.mp hm
      exact fun e => hp (by have : q = p := by injection e with e; omega
                            exact this ▸ hq)
  show (if _ ∧ _ then some (D.dK (putK (A.map fun (w : Nat) => ((.inl (w : Int) : Key), D.bl true)) (.inl (p : Int)) (D.bl true))) else none) = _
  rw [if_pos ⟨by rw [List.length_map]; exact hl, .inl hj⟩, h]
theorem in_lst (neg : Bool) (A : List Nat) (p : Nat) : gInX neg (iD p) (.lst (A.map iD)) = some (.bl (if neg = true then !decide (p ∈ A) else decide (p ∈ A))) := by
  have hs : (((iD p).sh 64 && (D.lst (A.map iD)).sh 64)) = true := by
    show (true && shs (A.map iD) 63) = true
    rw [shs_mem _ _ fun d hd => by obtain ⟨q, _, rfl⟩ := List.mem_map.mp hd; rfl]
    rfl
  have ha : ((A.map iD).any fun z => z.eqv (iD p)) = decide (p ∈ A) := by
    rw [List.any_map]
    induction A with
    | nil => rfl
    | cons q A ih =>
      have e : (iD q).eqv (iD p) = decide (q = p) := by
        show decide ((q : Int) = (p : Int)) = _
        rw [decide_eq_decide]; exact Int.ofNat_inj
      have hs' : ((iD p).sh 64 && (D.lst (A.map iD)).sh 64) = true := by
        show (true && shs (A.map iD) 63) = true
        rw [shs_mem _ _ fun d hd => by obtain ⟨q, _, rfl⟩ := List.mem_map.mp hd; rfl]
        rfl
      rw [List.any_cons, ih hs']
      simp only [Function.comp, e]
      by_cases h : q = p
      · subst h; simp
      · simp [h, Ne.symm h]
  show (if ((iD p).sh 64 && (D.lst (A.map iD)).sh 64) = true then _ else none) = _
  rw [if_pos hs, ha]
end Ev
set_option Elab.async false
set_option linter.all false
set_option autoImplicit false
/-! MN: neighbours. -/
namespace MN
open MS (upd upd_same upd_ne)
abbrev Arc := Nat × Nat
def nbS (f : Nat → List Nat) (p : Arc) : Nat → List Nat := upd (upd f p.1 (f p.1 ++ [p.2])) p.2 (f p.2 ++ [p.1])
def nb (R : List Arc) : Nat → List Nat := R.foldl nbS fun _ => []
theorem nb_app (R : List Arc) (p : Arc) : nb (R ++ [p]) = nbS (nb R) p := by simp [nb]
def adjB (R : List Arc) (a b : Nat) : Bool := decide ((a, b) ∈ R) || decide ((b, a) ∈ R)
theorem adjB_sym (R : List Arc) (a b : Nat) : adjB R a b = adjB R b a := by unfold adjB; rw [Bool.or_comm]
theorem mem_foldl (w v : Nat) : ∀ (R : List Arc) (f : Nat → List Nat), (∀ p ∈ R, p.1 < p.2) → (w ∈ R.foldl nbS f v ↔ w ∈ f v ∨ (v, w) ∈ R ∨ (w, v) ∈ R)
  | [], f, _ => by simp
  | (i, j) :: R, f, h => by
    rw [List.foldl_cons, mem_foldl w v R _ fun p hp => h p (by simp [hp])]
    have hij : i < j := h (i, j) (by simp)
    have : w ∈ nbS f (i, j) v ↔ w ∈ f v ∨ (v, w) = (i, j) ∨ (w, v) = (i, j) := by
      unfold nbS upd
      simp only [Prod.mk.injEq]
      by_cases h1 : v = j
      · subst h1
        have : ¬ v = i := by omega
        simp [this]
      · by_cases h2 : v = i
        · subst h2; simp [h1]
        · simp [h1, h2]
    rw [this, List.mem_cons, List.mem_cons]
    constructor
    · rintro ((h | h | h) | h | h) <;> simp [h]
    · rintro (h | (h | h) | (h | h)) <;> simp [h]
theorem mem_nb {R : List Arc} (h : ∀ p ∈ R, p.1 < p.2) (w v : Nat) : w ∈ nb R v ↔ adjB R v w = true := by
  unfold nb adjB
  rw [mem_foldl w v R _ h]
  simp
theorem nodup_foldl (v : Nat) : ∀ (R : List Arc) (f : Nat → List Nat), (∀ p ∈ R, p.1 < p.2) → R.Nodup → (f v).Nodup → (∀ w ∈ f v, (v, w) ∉ R ∧ (w, v) ∉ R) → (R.foldl nbS f v).Nodup
  | [], f, _, _, h, _ => h
  | (i, j) :: R, f, h, nd, hf, hd => by
    have hij : i < j := h (i, j) (by simp)
    have nd' := List.nodup_cons.mp nd
    rw [List.foldl_cons]
    refine nodup_foldl v R _ (fun p hp => h p (by simp [hp])) nd'.2 ?_ ?_
    · unfold nbS upd
      by_cases h1 : v = j
      · subst h1
        simp only [if_true]
        refine List.nodup_append.mpr ⟨hf, by simp, ?_⟩
        intro a ha b hb e
        have : b = i := by simpa using hb
        subst this e
        exact (hd _ ha).2 (by simp)
      · by_cases h2 : v = i
        · subst h2
          simp only [if_neg h1, if_true]
          refine List.nodup_append.mpr ⟨hf, by simp, ?_⟩
          intro a ha b hb e
          have : b = j := by simpa using hb
          subst this e
          exact (hd _ ha).1 (by simp)
        · simp only [if_neg h1, if_neg h2]; exact hf
    · intro w hw
      have : w ∈ f v ∨ (v, w) = (i, j) ∨ (w, v) = (i, j) := by
        unfold nbS upd at hw
        simp only [Prod.mk.injEq]
        by_cases h1 : v = j
        · subst h1
          simp only [if_true, List.mem_append, List.mem_singleton] at hw
          rcases hw with hw | hw
          · exact .inl hw
          · exact .inr (.inr ⟨hw, rfl⟩)
        · by_cases h2 : v = i
          · subst h2
            simp only [if_neg h1, if_true, List.mem_append, List.mem_singleton] at hw
            rcases hw with hw | hw
            · exact .inl hw
            · exact .inr (.inl ⟨rfl, hw⟩)
          · simp only [if_neg h1, if_neg h2] at hw; exact .inl hw
      rcases this with q | q | q
      · have := hd w q
        exact ⟨fun m => this.1 (by simp [m]), fun m => this.2 (by simp [m])⟩
      · rw [q]
        simp only [Prod.mk.injEq] at q
        refine ⟨nd'.1, fun m => ?_⟩
        have := h _ (List.mem_cons_of_mem _ m)
        simp only at this
        omega
      · rw [q]
        simp only [Prod.mk.injEq] at q
        refine ⟨fun m => ?_, nd'.1⟩
        have := h _ (List.mem_cons_of_mem _ m)
        simp only at this
        omega
theorem nodup_nb {R : List Arc} (h : ∀ p ∈ R, p.1 < p.2) (nd : R.Nodup) (v : Nat) : (nb R v).Nodup := nodup_foldl v R _ h nd (by simp) (by simp)
/-- the neighbours in order -/
def nbl (n : Nat) (R : List Arc) (v : Nat) : List Nat := (List.range n).filter fun w => adjB R v w
theorem nbl_perm {n : Nat} {R : List Arc} (h : ∀ p ∈ R, p.1 < p.2 ∧ p.2 < n) (nd : R.Nodup) (v : Nat) : (nbl n R v).Perm (nb R v) := by
  refine (List.perm_ext_iff_of_nodup (List.Nodup.sublist List.filter_sublist List.nodup_range) (nodup_nb (fun p hp => (h p hp).1) nd v)).mpr fun w => ?_
  rw [List.mem_filter, mem_nb (fun p hp => (h p hp).1), List.mem_range]
  refine ⟨fun q => q.2, fun q => ⟨?_, q⟩⟩
  unfold adjB at q
  simp only [Bool.or_eq_true, decide_eq_true_eq] at q
  rcases q with q | q
  · exact (h _ q).2
  · have := h _ q; simp only at this; omega
theorem nbl_sorted (n : Nat) (R : List Arc) (v : Nat) : (nbl n R v).Pairwise (· ≤ ·) := (List.pairwise_lt_range.filter _).imp fun h => Nat.le_of_lt h
theorem mem_nbl {n : Nat} {R : List Arc} {v w : Nat} : w ∈ nbl n R v ↔ w < n ∧ adjB R v w = true := by
  unfold nbl; rw [List.mem_filter, List.mem_range]
theorem nb_len {R : List Arc} {n : Nat} (h : ∀ p ∈ R, p.1 < p.2 ∧ p.2 < n) (nd : R.Nodup) (v : Nat) : (nb R v).length ≤ n := by
  rw [← (nbl_perm h nd v).length_eq]
  have := List.length_filter_le (fun w => adjB R v w) (List.range n)
  simpa [nbl] using this
theorem adjB_irr {R : List Arc} (h : ∀ p ∈ R, p.1 < p.2) (v : Nat) : adjB R v v = false := by
  unfold adjB
  simp only [Bool.or_self, decide_eq_false_iff_not]
  intro m
  have := h _ m
  simp at this
end MN
set_option Elab.async false
set_option linter.all false
set_option autoImplicit false
set_option maxRecDepth 100000
set_option maxHeartbeats 4000000
/-! Q88d: neighbours. -/
namespace K88
open PySem PySem.Spec L2 Ev
local macro_rules | `(tactic| clean_wf) => `(tactic| repeat' (with_reducible first
  | refine fn_i ?_ | refine ws_seq ?_ | refine ws_if ?_ | refine ws_ret ?_ | refine ws_skip ?_ | refine ws_setE ?_ | refine ws_asg ?_ | refine ws_parN ?_ | refine ws_par ?_
  | refine w_op ?_ | refine w_pkE ?_ | refine w_pkV ?_ | refine w_c ?_ | refine w_c1 ?_ | refine w_sub ?_ | refine w_fz ?_ | refine w_tv ?_
  | refine w_and ?_ | refine w_or ?_ | refine w_not ?_ | refine w_andV ?_ | refine w_notV ?_ | refine w_ite ?_ | refine w_isN ?_ | refine w_yes ?_
  | refine w_itm ?_ | refine w_aNil ?_ | refine w_aCons ?_ | refine w_tup ?_ | refine w_lst ?_ | refine w_conv ?_ | refine w_cat ?_ | refine w_rev ?_
  | refine w_oNone ?_ | refine w_oSome ?_ | refine w_sl ?_ | refine w_it ?_ | refine w_rgN ?_ | refine w_lstRg ?_ | refine w_en ?_ | refine w_zip ?_ | refine w_zip1 ?_
  | refine w_im ?_ | refine w_bits ?_ | refine w_rg2N ?_ | refine w_rgDnN ?_ | refine w_chain ?_ | refine w_dNew ?_ | refine w_gNil ?_ | refine w_gVa ?_ | refine w_gKw ?_
  | refine wg_allNil ?_ | refine wg_allCons ?_ | (show WG (gPutT _ (plVar _) _ _) _ _; refine wg_putT ?_)
  | refine w_pk (by with_unfolding_all exact rfl) ?_ | refine w_var0 (by with_unfolding_all exact rfl) (.inl (by with_unfolding_all exact rfl)) ?_ | refine w_varF' (by with_unfolding_all exact rfl) (by with_unfolding_all exact rfl) ?_ | refine w_mv (by with_unfolding_all exact rfl) (by with_unfolding_all exact rfl) ?_
  | refine wg_setE (by with_unfolding_all exact rfl) (by with_unfolding_all exact rfl) ?_ | refine wg_tupS (by with_unfolding_all exact rfl) ?_ | refine w_plVar ⟨_, by with_unfolding_all exact rfl⟩ ?_
  | refine ite_t (by with_unfolding_all exact rfl) ?_ | refine ite_f (by with_unfolding_all exact rfl) ?_
  | (show WG (gsCons _ _ _) _ _; with_unfolding_all refine wg_sCons ?_)
  | (show WG (gsNil _) _ _; with_unfolding_all refine wg_sNil ?_)
  | (show @Eq Rv _ _; rfl)
  | (show WG (clr _) _ _; with_unfolding_all refine ⟨_, rfl, ?_⟩)
  | (show @Eq En _ _; with_unfolding_all rfl)
  | (show And (_ ≤ _) _; refine ⟨by omega, ?_⟩)
  | (show And (_ < _) _; refine ⟨by omega, ?_⟩)
  | (show And _ _; with_unfolding_all first | refine ⟨⟨rfl, rfl⟩, ?_⟩ | refine ⟨rfl, ?_⟩ | refine ⟨Nat.le_of_ble_eq_true rfl, ?_⟩ | refine ⟨⟨Nat.le_of_ble_eq_true rfl, rfl⟩, ?_⟩)
  | (show Or _ _; with_unfolding_all first | refine .inl ⟨_, rfl, ?_⟩ | refine .inr ⟨_, rfl, ?_⟩)
  | (show ∃ _, gMax2 _ _ = _ ∧ _; refine ⟨_, max2_n _ _, rfl, ?_⟩)
  | (show ∃ _, gAnd _ _ = _ ∧ _; refine ⟨_, and_n _ _, rfl, ?_⟩)
  | (show ∃ _, gOr _ _ = _ ∧ _; refine ⟨_, or_n _ _, rfl, ?_⟩)
  | (show ∃ _, gShr _ _ = _ ∧ _; refine ⟨_, shr_n _ _, rfl, ?_⟩)
  | (show ∃ _, gShl _ _ = _ ∧ _; refine ⟨_, shl_n (by omega), rfl, ?_⟩)
  | (show ∃ _, gI _ _ _ = _ ∧ _; with_unfolding_all first
    | refine ⟨_, gMul_l rfl, rfl, ?_⟩ | refine ⟨_, gMul_r rfl, rfl, ?_⟩ | refine ⟨_, gMul_mod rfl, rfl, ?_⟩ | refine ⟨_, gMod_k rfl, rfl, ?_⟩ | refine ⟨_, gDiv_k rfl, rfl, ?_⟩ | refine ⟨_, rfl, rfl, ?_⟩)
  | (show ∃ _, gEqX _ _ = _ ∧ _; with_unfolding_all first | refine ⟨_, eqX_i .., rfl, ?_⟩ | refine ⟨_, eqX_s .., rfl, ?_⟩)
  | (show ∃ _, gNeX _ _ = _ ∧ _; with_unfolding_all first | refine ⟨_, neX_i .., rfl, ?_⟩ | refine ⟨_, neX_s .., rfl, ?_⟩)
  | (show ∃ _, gB _ _ _ = _ ∧ _; with_unfolding_all first | refine ⟨_, rfl, rfl, ?_⟩ | refine ⟨_, rfl, ?_⟩)
  | (show ∃ _, gIx _ _ = _ ∧ _; with_unfolding_all refine ⟨_, rfl, ?_⟩)
  | (show ∃ _, gIsi _ _ = _ ∧ _; with_unfolding_all refine ⟨_, rfl, rfl, ?_⟩)
  | (show ∃ _, gLen1 _ = _ ∧ _; with_unfolding_all refine ⟨_, rfl, rfl, ?_⟩)
  | (show ∃ _, gInt _ = _ ∧ _; with_unfolding_all refine ⟨_, rfl, rfl, ?_⟩)
  | (show ∃ _, _ = D.bl _ ∧ _; with_unfolding_all refine ⟨_, rfl, ?_⟩)
  | (show ∃ _, _ = D.int _ ∧ _; with_unfolding_all refine ⟨_, rfl, ?_⟩)))
theorem WOK.h1 {n : Nat} {R : List (Nat × Nat)} (o : WOK n R) : ∀ p ∈ R, p.1 < p.2 := fun p hp => (o.lt p hp).1
/-- what the neighbours told so far allow -/
theorem nb_pre {n : Nat} {R : List (Nat × Nat)} (o : WOK n R) {dn r : List (Nat × Nat)} {i j : Nat} (hx : R = dn ++ (i, j) :: r) : i < n ∧ j < n ∧ i < j ∧ j ∉ MN.nb dn i ∧ i ∉ MN.nb dn j ∧ ∀ v, (MN.nb dn v).length ≤ n := by
  have hl := o.lt (i, j) (by rw [hx]; simp)
  simp only at hl
  have nd := o.nd
  rw [hx] at nd
  have h1 : ∀ p ∈ dn, p.1 < p.2 := fun p hp => o.h1 p (by rw [hx]; simp [hp])
  have hd := List.nodup_append.mp nd
  have nin : (i, j) ∉ dn := fun m => hd.2.2 _ m _ (by simp) rfl
  have nin2 : (j, i) ∉ dn := fun m => by have := h1 _ m; simp only at this; omega
  refine ⟨by omega, hl.2, hl.1, ?_, ?_, fun v => MN.nb_len (fun p hp => o.lt p (by rw [hx]; simp [hp])) hd.1 v⟩
  · rw [MN.mem_nb h1]; simp [MN.adjB, nin, nin2]
  · rw [MN.mem_nb h1]; simp [MN.adjB, nin, nin2]
theorem f__law_near {n : Nat} {R : List (Nat × Nat)} (o : WOK n R) : Fn sem__law_near [some ⟨wD n R, 0, 0⟩, none, none, none, none] (rgL n fun v => setK (MN.nb R v), 2) := by
  unfold sem__law_near
  have hn := o.n9
  clean_wf
  refine w_compA (xs := List.range n) (f := iD) (fun v => setK (MN.nb [] v)) ?_
  clean_wf
  refine ⟨fun v hv => ?_, ?_⟩
  · clean_wf
  clean_wf
  refine ws_forL (xs := R) (f := pD) (fun dn e => e = [some ⟨wD n R, 0, 0⟩, none, some ⟨rgL n fun v => setK (MN.nb dn v), 2, 0⟩, none, none]) ?_ ?_ ?_
  · clean_wf
  · rintro dn ⟨i, j⟩ r e hx rfl
    obtain ⟨hi, hj, hij, n1, n2, len⟩ := nb_pre o hx
    clean_wf
    refine wg_putS hi rfl ?_
    clean_wf
    refine ⟨_, put_setK (MN.nb dn i) j (Nat.lt_of_le_of_lt (len i) (by omega)) rfl n1, ?_⟩
    clean_wf
    have ne : ∀ d, MS.upd (fun v => setK (MN.nb dn v)) i d j = setK (MN.nb dn j) := fun d => MS.upd_ne _ _ (by omega)
    refine wg_putS hj rfl ?_
    clean_wf
    rw [ne]
    refine ⟨_, put_setK (MN.nb dn j) i (Nat.lt_of_le_of_lt (len j) (by omega)) rfl n2, ?_⟩
    have em : (fun v => setK (MN.nb (dn ++ [(i, j)]) v)) = MS.upd (MS.upd (fun v => setK (MN.nb dn v)) i (setK (MN.nb dn i ++ [j]))) j (setK (MN.nb dn j ++ [i])) := by
      funext v
      rw [MN.nb_app]
      simp only [MN.nbS, MS.upd]
      split
      · rfl
      · split <;> rfl
    rw [em]
    clean_wf
  · rintro e rfl
    clean_wf
abbrev nlD (n : Nat) (R : List (Nat × Nat)) : D := rgL n fun v => .lst ((MN.nbl n R v).map iD)
theorem f_neighbour_lists {n : Nat} {R : List (Nat × Nat)} (o : WOK n R) : Fn sem_neighbour_lists [some ⟨wD n R, 0, 0⟩, none, none, none, none, none] (nlD n R, 1) := by
  unfold sem_neighbour_lists
  have hn := o.n9
  clean_wf
  refine w_compA (xs := List.range n) (f := iD) (fun v => .lst ((MN.nb [] v).map iD)) ?_
  clean_wf
  refine ⟨fun v hv => ?_, ?_⟩
  · clean_wf
  clean_wf
  refine ws_forL (xs := R) (f := pD) (fun dn e => e = [some ⟨wD n R, 0, 0⟩, none, some ⟨rgL n fun v => .lst ((MN.nb dn v).map iD), 2, 0⟩, none, none, none]) ?_ ?_ ?_
  · clean_wf
  · rintro dn ⟨i, j⟩ r e hx rfl
    obtain ⟨hi, hj, hij, n1, n2, len⟩ := nb_pre o hx
    have hij' : ¬ j = i := by omega
    clean_wf
    refine ws_appS (ds := (MN.nb dn i).map iD) hi rfl (by rw [List.length_map]; exact Nat.lt_of_le_of_lt (len i) (by omega)) rfl ?_
    clean_wf
    refine ite_t (by simp; omega) ?_
    have ne : ∀ d, MS.upd (fun v => D.lst ((MN.nb dn v).map iD)) i d j = .lst ((MN.nb dn j).map iD) := fun d => MS.upd_ne _ _ hij'
    refine ws_appS (ds := (MN.nb dn j).map iD) hj (ne _) (by rw [List.length_map]; exact Nat.lt_of_le_of_lt (len j) (by omega)) rfl ?_
    clean_wf
    have em : (fun v => D.lst ((MN.nb (dn ++ [(i, j)]) v).map iD)) = MS.upd (MS.upd (fun v => D.lst ((MN.nb dn v).map iD)) i (.lst ((MN.nb dn i).map iD ++ [iD j]))) j (.lst ((MN.nb dn j).map iD ++ [iD i])) := by
      funext v
      rw [MN.nb_app]
      simp only [MN.nbS, MS.upd]
      split
      · simp
      · split
        · simp
        · rfl
    rw [em]
    clean_wf
  · rintro e rfl
    clean_wf
    refine w_compA (xs := List.range n) (f := fun v => .lst ((MN.nb R v).map iD)) (fun v => .lst ((MN.nbl n R v).map iD)) ?_
    clean_wf
    refine ⟨fun v hv => ?_, ?_⟩
    · clean_wf
      refine w_srt ?_
      clean_wf
      refine ⟨_, gSrt_ints (MN.nbl_perm o.lt o.nd v) (MN.nbl_sorted n R v), ?_⟩
      clean_wf
    clean_wf
theorem f_is_plain {n : Nat} {R : List (Nat × Nat)} (o : WOK n R) : Fn sem_is_plain [some ⟨wD n R, 0, 0⟩, none, none] (.bl true, 0) := by
  unfold sem_is_plain
  clean_wf
  refine w_compA (xs := R) (f := pD) (fun p => .bl true) ?_
  clean_wf
  refine ⟨fun p hp => ?_, ?_⟩
  · obtain ⟨i, j⟩ := p
    have := o.h1 _ hp
    simp only at this
    clean_wf
    refine ⟨?_, rfl⟩
    simp; omega
  clean_wf
  refine ⟨_, all_map (fun _ => true) R, rfl, ?_⟩
  simp
end K88
set_option Elab.async false
set_option linter.all false
set_option autoImplicit false
set_option maxRecDepth 100000
set_option maxHeartbeats 4000000
/-! Ev41: slices. -/
namespace Ev
open PySem PySem.Spec L2
theorem cut_from {xs : List D} {k : Nat} (h : k ≤ xs.length) : cutD xs (some (k : Int)) none = xs.drop k := by
  have h1 : HT.sIx xs.length 0 (some (k : Int)) = k := by
    rw [HT.sIx_nat]
    omega
  have h2 : HT.sIx xs.length xs.length none = xs.length := rfl
  unfold cutD
  rw [h1, h2, List.take_of_length_le]
  simp
theorem cut_to {xs : List D} {k : Nat} (h : k ≤ xs.length) : cutD xs none (some (k : Int)) = xs.take k := by
  have h1 : HT.sIx xs.length xs.length (some (k : Int)) = k := by
    rw [HT.sIx_nat]
    omega
  have h2 : HT.sIx xs.length 0 none = 0 := rfl
  unfold cutD
  rw [h1, h2]
  simp
theorem max2_n (a b : Nat) : gMax2 (iD a) (iD b) = some (iD (max a b)) := by
  show some (D.int (if (b : Int) > (a : Int) then (b : Int) else (a : Int))) = _
  have : (if (b : Int) > (a : Int) then (b : Int) else (a : Int)) = ((max a b : Nat) : Int) := by split <;> omega
  rw [this]
end Ev
set_option Elab.async false
set_option linter.all false
set_option autoImplicit false
set_option maxRecDepth 100000
set_option maxHeartbeats 4000000
/-! Q88e: greatest full lots, found in two ways. -/
namespace K88
open PySem PySem.Spec L2 Ev
local macro_rules | `(tactic| clean_wf) => `(tactic| repeat' (with_reducible first
  | refine fn_i ?_ | refine ws_seq ?_ | refine ws_if ?_ | refine ws_ret ?_ | refine ws_skip ?_ | refine ws_setE ?_ | refine ws_asg ?_ | refine ws_parN ?_ | refine ws_par ?_
  | refine w_op ?_ | refine w_pkE ?_ | refine w_pkV ?_ | refine w_c ?_ | refine w_c1 ?_ | refine w_sub ?_ | refine w_fz ?_ | refine w_tv ?_
  | refine w_and ?_ | refine w_or ?_ | refine w_not ?_ | refine w_andV ?_ | refine w_notV ?_ | refine w_ite ?_ | refine w_isN ?_ | refine w_yes ?_
  | refine w_itm ?_ | refine w_aNil ?_ | refine w_aCons ?_ | refine w_tup ?_ | refine w_lst ?_ | refine w_conv ?_ | refine w_cat ?_ | refine w_rev ?_
  | refine w_oNone ?_ | refine w_oSome ?_ | refine w_sl ?_ | refine w_it ?_ | refine w_rgN ?_ | refine w_lstRg ?_ | refine w_en ?_ | refine w_zip ?_ | refine w_zip1 ?_
  | refine w_im ?_ | refine w_bits ?_ | refine w_rg2N ?_ | refine w_rgDnN ?_ | refine w_chain ?_ | refine w_dNew ?_ | refine w_gNil ?_ | refine w_gVa ?_ | refine w_gKw ?_
  | refine wg_allNil ?_ | refine wg_allCons ?_ | (show WG (gPutT _ (plVar _) _ _) _ _; refine wg_putT ?_)
  | refine w_pk (by with_unfolding_all exact rfl) ?_ | refine w_var0 (by with_unfolding_all exact rfl) (.inl (by with_unfolding_all exact rfl)) ?_ | refine w_varF' (by with_unfolding_all exact rfl) (by with_unfolding_all exact rfl) ?_ | refine w_mv (by with_unfolding_all exact rfl) (by with_unfolding_all exact rfl) ?_
  | refine wg_setE (by with_unfolding_all exact rfl) (by with_unfolding_all exact rfl) ?_ | refine wg_tupS (by with_unfolding_all exact rfl) ?_ | refine w_plVar ⟨_, by with_unfolding_all exact rfl⟩ ?_
  | refine ite_t (by with_unfolding_all exact rfl) ?_ | refine ite_f (by with_unfolding_all exact rfl) ?_
  | (show WG (gsCons _ _ _) _ _; with_unfolding_all refine wg_sCons ?_)
  | (show WG (gsNil _) _ _; with_unfolding_all refine wg_sNil ?_)
  | (show @Eq Rv _ _; rfl)
  | (show WG (clr _) _ _; with_unfolding_all refine ⟨_, rfl, ?_⟩)
  | (show @Eq En _ _; with_unfolding_all rfl)
  | (show And (_ ≤ _) _; refine ⟨by omega, ?_⟩)
  | (show And (_ < _) _; refine ⟨by omega, ?_⟩)
  | (show And _ _; with_unfolding_all first | refine ⟨⟨rfl, rfl⟩, ?_⟩ | refine ⟨rfl, ?_⟩ | refine ⟨Nat.le_of_ble_eq_true rfl, ?_⟩ | refine ⟨⟨Nat.le_of_ble_eq_true rfl, rfl⟩, ?_⟩)
  | (show Or _ _; with_unfolding_all first | refine .inl ⟨_, rfl, ?_⟩ | refine .inr ⟨_, rfl, ?_⟩)
  | (show ∃ _, gMax2 _ _ = _ ∧ _; refine ⟨_, max2_n _ _, rfl, ?_⟩)
  | (show ∃ _, gAnd _ _ = _ ∧ _; refine ⟨_, and_n _ _, rfl, ?_⟩)
  | (show ∃ _, gOr _ _ = _ ∧ _; refine ⟨_, or_n _ _, rfl, ?_⟩)
  | (show ∃ _, gShr _ _ = _ ∧ _; refine ⟨_, shr_n _ _, rfl, ?_⟩)
  | (show ∃ _, gShl _ _ = _ ∧ _; refine ⟨_, shl_n (by omega), rfl, ?_⟩)
  | (show ∃ _, gI _ _ _ = _ ∧ _; with_unfolding_all first
    | refine ⟨_, gMul_l rfl, rfl, ?_⟩ | refine ⟨_, gMul_r rfl, rfl, ?_⟩ | refine ⟨_, gMul_mod rfl, rfl, ?_⟩ | refine ⟨_, gMod_k rfl, rfl, ?_⟩ | refine ⟨_, gDiv_k rfl, rfl, ?_⟩ | refine ⟨_, rfl, rfl, ?_⟩)
  | (show ∃ _, gEqX _ _ = _ ∧ _; with_unfolding_all first | refine ⟨_, eqX_i .., rfl, ?_⟩ | refine ⟨_, eqX_s .., rfl, ?_⟩)
  | (show ∃ _, gNeX _ _ = _ ∧ _; with_unfolding_all first | refine ⟨_, neX_i .., rfl, ?_⟩ | refine ⟨_, neX_s .., rfl, ?_⟩)
  | (show ∃ _, gB _ _ _ = _ ∧ _; with_unfolding_all first | refine ⟨_, rfl, rfl, ?_⟩ | refine ⟨_, rfl, ?_⟩)
  | (show ∃ _, gIx _ _ = _ ∧ _; with_unfolding_all refine ⟨_, rfl, ?_⟩)
  | (show ∃ _, gIsi _ _ = _ ∧ _; with_unfolding_all refine ⟨_, rfl, rfl, ?_⟩)
  | (show ∃ _, gLen1 _ = _ ∧ _; with_unfolding_all refine ⟨_, rfl, rfl, ?_⟩)
  | (show ∃ _, gInt _ = _ ∧ _; with_unfolding_all refine ⟨_, rfl, rfl, ?_⟩)
  | (show ∃ _, _ = D.bl _ ∧ _; with_unfolding_all refine ⟨_, rfl, ?_⟩)
  | (show ∃ _, _ = D.int _ ∧ _; with_unfolding_all refine ⟨_, rfl, ?_⟩)))
/-- m is the greatest number of houses that are all neighbours -/
def MaxCl (n : Nat) (R : List (Nat × Nat)) (m : Nat) : Prop := (∃ c, MS.Cl (MN.adjB R) n c ∧ m = c.length) ∧ ∀ c, MS.Cl (MN.adjB R) n c → c.length ≤ m
theorem MaxCl.uniq {n : Nat} {R : List (Nat × Nat)} {a b : Nat} (h : MaxCl n R a) (g : MaxCl n R b) : a = b := by
  obtain ⟨⟨c, hc, rfl⟩, h2⟩ := h
  obtain ⟨⟨d, hd, rfl⟩, g2⟩ := g
  exact Nat.le_antisymm (g2 _ hc) (h2 _ hd)
theorem shs_tupsL (S : List (List Nat)) (k : Nat) : shs (S.map tpD) (k + 1) = true := shs_mem _ _ fun d hd => by
  obtain ⟨p, _, rfl⟩ := List.mem_map.mp hd
  exact shs_nats _ _
theorem gf_max {n : Nat} {R : List (Nat × Nat)} {m : Nat} (h : MaxCl n R m) : ((MS.gfN (MN.adjB R) n).map List.length).foldl max 0 = m := by
  refine MaxCl.uniq ⟨?_, fun c hc => (M88.mx_ge _ 0).2 _ (List.mem_map.mpr ⟨c, (MS.gfN_mem _ n c).mpr hc, rfl⟩)⟩ h
  rcases M88.mx_mem ((MS.gfN (MN.adjB R) n).map List.length) 0 with e | e
  · exact ⟨[], ⟨by simp, by simp⟩, by simpa using e⟩
  · obtain ⟨c, hc, e⟩ := List.mem_map.mp e
    exact ⟨c, (MS.gfN_mem _ n c).mp hc, e.symm⟩
theorem rng_pre {n h : Nat} {dn r : List Nat} (hx : List.range n = dn ++ h :: r) : dn.length = h ∧ h < n := by
  have hl := congrArg List.length hx
  simp at hl
  have := congrArg (fun l : List Nat => l[dn.length]?) hx
  simp only [List.getElem?_append_right (Nat.le_refl _), Nat.sub_self, List.getElem?_cons_zero] at this
  rw [List.getElem?_range (by omega)] at this
  have : dn.length = h := by simpa using this
  omega
theorem none_far {R : List (Nat × Nat)} (hR : ∀ p ∈ R, p.1 < p.2) (h : Nat) (own : List Nat) (f : Nat → D) : ((own.filter fun a => !decide (a ∈ MN.nb R h)).map f).isEmpty = own.all fun a => MN.adjB R h a := by
  have e : ∀ a, decide (a ∈ MN.nb R h) = MN.adjB R h a := fun a => by
    rw [Bool.eq_iff_iff, decide_eq_true_eq]; exact MN.mem_nb hR a h
  simp only [e]
  induction own with
  | nil => rfl
  | cons a own ih =>
    rw [List.filter_cons, List.all_cons]
    by_cases q : MN.adjB R h a = true
    · simp only [q, Bool.not_true, Bool.false_eq_true, if_false, Bool.true_and]; exact ih
    · simp [q]
theorem f__law_greatest_full {n : Nat} {R : List (Nat × Nat)} (o : WOK n R) {m : Nat} (hm : MaxCl n R m) : Fn sem__law_greatest_full [some ⟨wD n R, 0, 0⟩, none, none, none, none, none] (iD m, 0) := by
  unfold sem__law_greatest_full
  have hn := o.n9
  clean_wf
  refine w_callK [wD n R] _ (f__law_near o) rfl ?_
  clean_wf
  refine ws_forL (xs := List.range n) (f := iD) (fun dn e => e = [some ⟨wD n R, 0, 0⟩, some ⟨rgL n fun v => setK (MN.nb R v), 0, 0⟩, some ⟨.lst ((MS.gfN (MN.adjB R) dn.length).map tpD), 0, 0⟩, none, none, none]) ?_ ?_ ?_
  · clean_wf
  · rintro dn h r e hx rfl
    obtain ⟨hh, hhn⟩ := rng_pre hx
    rw [hh]
    have e1 : MS.gfN (MN.adjB R) (dn ++ [h]).length = MS.gfS (MN.adjB R) (MS.gfN (MN.adjB R) h) h := by
      rw [List.length_append, hh]; rfl
    rw [e1]
    clean_wf
    refine w_compF (xs := MS.gfN (MN.adjB R) h) (f := tpD) (fun own => own.all fun a => MN.adjB R h a) (fun own => tpD (own ++ [h])) _ rfl ?_
    clean_wf
    refine ⟨fun own ho => ?_, ?_⟩
    · clean_wf
      refine w_compF (xs := own) (f := iD) (fun a => !decide (a ∈ MN.nb R h)) (fun _ => .int 1) _ rfl ?_
      clean_wf
      refine ⟨fun a ha => ?_, ?_⟩
      · clean_wf
        refine ⟨_, ix_rg hhn, ?_⟩
        clean_wf
        refine ⟨_, inX_setK true (MN.nb R h) a, rfl, ?_⟩
        clean_wf
        refine ite_i (fun e => ?_) (fun e => ?_) <;> clean_wf
      · clean_wf
        refine ⟨_, eqX_nil (shs_mem _ _ fun d hd => by obtain ⟨q, _, rfl⟩ := List.mem_map.mp hd; rfl), rfl, ?_⟩
        clean_wf
        rw [none_far o.h1]
        refine ⟨rfl, ?_⟩
        refine ite_i (fun e => ?_) (fun e => ?_)
        · clean_wf
          have : own.length ≤ n := M88.len_le (((MS.gfN_mem _ _ _).mp ho).1.imp fun h => Nat.ne_of_lt h.1) n fun a ha => Nat.lt_trans (((MS.gfN_mem _ _ _).mp ho).2 a ha) hhn
          refine ⟨⟨rfl, by simp; omega⟩, ?_⟩
          clean_wf
          refine ⟨?_, rfl⟩
          simp [mkSq]
        · clean_wf
    · clean_wf
      have l1 := MS.gfN_len (MN.adjB R) h
      have l2 := List.length_filter_le (fun own : List Nat => own.all fun a => MN.adjB R h a) (MS.gfN (MN.adjB R) h)
      have l3 : 2 ^ h ≤ 2 ^ 9 := Nat.pow_le_pow_right (by omega) (by omega)
      refine ⟨⟨rfl, by simp only [List.length_map]; omega⟩, ?_⟩
      clean_wf
      simp [mkSq, MS.gfS, List.map_append, Function.comp_def]
      rfl
  · rintro e rfl
    clean_wf
    refine w_compA (xs := MS.gfN (MN.adjB R) n) (f := tpD) (fun own => iD own.length) ?_
    rw [List.length_range]
    clean_wf
    refine ⟨fun own ho => ?_, ?_⟩
    · clean_wf
      refine ⟨?_, rfl⟩
      simp
    clean_wf
    refine ⟨_, maxL_map List.length (MS.gfN (MN.adjB R) n) ?_, rfl, ?_⟩
    · intro e
      have := (MS.gfN_mem (MN.adjB R) n []).mpr ⟨by simp, by simp⟩
      rw [e] at this
      simp at this
    · rw [gf_max hm]
end K88
set_option Elab.async false
set_option linter.all false
set_option autoImplicit false
set_option maxRecDepth 100000
set_option maxHeartbeats 4000000
/-! Q88f: full_size. -/
namespace K88
open PySem PySem.Spec L2 Ev
local macro_rules | `(tactic| clean_wf) => `(tactic| repeat' (with_reducible first
  | refine fn_i ?_ | refine ws_seq ?_ | refine ws_if ?_ | refine ws_ret ?_ | refine ws_skip ?_ | refine ws_setE ?_ | refine ws_asg ?_ | refine ws_parN ?_ | refine ws_par ?_
  | refine w_op ?_ | refine w_pkE ?_ | refine w_pkV ?_ | refine w_c ?_ | refine w_c1 ?_ | refine w_sub ?_ | refine w_fz ?_ | refine w_tv ?_
  | refine w_and ?_ | refine w_or ?_ | refine w_not ?_ | refine w_andV ?_ | refine w_notV ?_ | refine w_ite ?_ | refine w_isN ?_ | refine w_yes ?_
  | refine w_itm ?_ | refine w_aNil ?_ | refine w_aCons ?_ | refine w_tup ?_ | refine w_lst ?_ | refine w_conv ?_ | refine w_cat ?_ | refine w_rev ?_
  | refine w_oNone ?_ | refine w_oSome ?_ | refine w_sl ?_ | refine w_it ?_ | refine w_rgN ?_ | refine w_lstRg ?_ | refine w_en ?_ | refine w_zip ?_ | refine w_zip1 ?_
  | refine w_im ?_ | refine w_bits ?_ | refine w_rg2N ?_ | refine w_rgDnN ?_ | refine w_chain ?_ | refine w_dNew ?_ | refine w_gNil ?_ | refine w_gVa ?_ | refine w_gKw ?_
  | refine wg_allNil ?_ | refine wg_allCons ?_ | (show WG (gPutT _ (plVar _) _ _) _ _; refine wg_putT ?_)
  | refine w_pk (by with_unfolding_all exact rfl) ?_ | refine w_var0 (by with_unfolding_all exact rfl) (.inl (by with_unfolding_all exact rfl)) ?_ | refine w_varF' (by with_unfolding_all exact rfl) (by with_unfolding_all exact rfl) ?_ | refine w_mv (by with_unfolding_all exact rfl) (by with_unfolding_all exact rfl) ?_
  | refine wg_setE (by with_unfolding_all exact rfl) (by with_unfolding_all exact rfl) ?_ | refine wg_tupS (by with_unfolding_all exact rfl) ?_ | refine w_plVar ⟨_, by with_unfolding_all exact rfl⟩ ?_
  | refine ite_t (by with_unfolding_all exact rfl) ?_ | refine ite_f (by with_unfolding_all exact rfl) ?_
  | (show WG (gsCons _ _ _) _ _; with_unfolding_all refine wg_sCons ?_)
  | (show WG (gsNil _) _ _; with_unfolding_all refine wg_sNil ?_)
  | (show @Eq Rv _ _; rfl)
  | (show WG (clr _) _ _; with_unfolding_all refine ⟨_, rfl, ?_⟩)
  | (show @Eq En _ _; with_unfolding_all rfl)
  | (show And (_ ≤ _) _; refine ⟨by omega, ?_⟩)
  | (show And (_ < _) _; refine ⟨by omega, ?_⟩)
  | (show And _ _; with_unfolding_all first | refine ⟨⟨rfl, rfl⟩, ?_⟩ | refine ⟨rfl, ?_⟩ | refine ⟨Nat.le_of_ble_eq_true rfl, ?_⟩ | refine ⟨⟨Nat.le_of_ble_eq_true rfl, rfl⟩, ?_⟩)
  | (show Or _ _; with_unfolding_all first | refine .inl ⟨_, rfl, ?_⟩ | refine .inr ⟨_, rfl, ?_⟩)
  | (show ∃ _, gMax2 _ _ = _ ∧ _; refine ⟨_, max2_n _ _, rfl, ?_⟩)
  | (show ∃ _, gAnd _ _ = _ ∧ _; refine ⟨_, and_n _ _, rfl, ?_⟩)
  | (show ∃ _, gOr _ _ = _ ∧ _; refine ⟨_, or_n _ _, rfl, ?_⟩)
  | (show ∃ _, gShr _ _ = _ ∧ _; refine ⟨_, shr_n _ _, rfl, ?_⟩)
  | (show ∃ _, gShl _ _ = _ ∧ _; refine ⟨_, shl_n (by omega), rfl, ?_⟩)
  | (show ∃ _, gI _ _ _ = _ ∧ _; with_unfolding_all first
    | refine ⟨_, gMul_l rfl, rfl, ?_⟩ | refine ⟨_, gMul_r rfl, rfl, ?_⟩ | refine ⟨_, gMul_mod rfl, rfl, ?_⟩ | refine ⟨_, gMod_k rfl, rfl, ?_⟩ | refine ⟨_, gDiv_k rfl, rfl, ?_⟩ | refine ⟨_, rfl, rfl, ?_⟩)
  | (show ∃ _, gEqX _ _ = _ ∧ _; with_unfolding_all first | refine ⟨_, eqX_i .., rfl, ?_⟩ | refine ⟨_, eqX_s .., rfl, ?_⟩)
  | (show ∃ _, gNeX _ _ = _ ∧ _; with_unfolding_all first | refine ⟨_, neX_i .., rfl, ?_⟩ | refine ⟨_, neX_s .., rfl, ?_⟩)
  | (show ∃ _, gB _ _ _ = _ ∧ _; with_unfolding_all first | refine ⟨_, rfl, rfl, ?_⟩ | refine ⟨_, rfl, ?_⟩)
  | (show ∃ _, gIx _ _ = _ ∧ _; with_unfolding_all refine ⟨_, rfl, ?_⟩)
  | (show ∃ _, gIsi _ _ = _ ∧ _; with_unfolding_all refine ⟨_, rfl, rfl, ?_⟩)
  | (show ∃ _, gLen1 _ = _ ∧ _; with_unfolding_all refine ⟨_, rfl, rfl, ?_⟩)
  | (show ∃ _, gInt _ = _ ∧ _; with_unfolding_all refine ⟨_, rfl, rfl, ?_⟩)
  | (show ∃ _, _ = D.bl _ ∧ _; with_unfolding_all refine ⟨_, rfl, ?_⟩)
  | (show ∃ _, _ = D.int _ ∧ _; with_unfolding_all refine ⟨_, rfl, ?_⟩)))
abbrev enD (e : MS.Ent) : D := .tup [tpD e.1, .lst (e.2.map iD)]
def kid (adj : Nat → Nat → Bool) (lot left : List Nat) (p : Nat × Nat) : MS.Ent := (lot ++ [p.1], (left.drop (p.2 + 1)).filter fun o => adj p.1 o)
theorem kids_eq (adj : Nat → Nat → Bool) (lot pre : List Nat) : ∀ left : List Nat, MS.kids adj lot left = (left.zipIdx pre.length).map (kid adj lot (pre ++ left))
  | [] => rfl
  | x :: r => by
    rw [MS.kids, List.zipIdx_cons, List.map_cons]
    have h := kids_eq adj lot (pre ++ [x]) r
    rw [List.length_append] at h
    simp only [List.append_assoc, List.cons_append, List.nil_append, List.length_cons, List.length_nil, Nat.zero_add] at h
    rw [h]
    have : (pre ++ x :: r).drop (pre.length + 1) = r := by
      rw [← List.drop_drop, List.drop_left]; rfl
    simp only [kid, this]
theorem kids_eq0 (adj : Nat → Nat → Bool) (lot left : List Nat) : MS.kids adj lot left = left.zipIdx.map (kid adj lot left) := kids_eq adj lot [] left
theorem shs_ents (w : List MS.Ent) (k : Nat) : shs (w.map enD) (k + 3) = true := shs_mem _ _ fun d hd => by
  obtain ⟨p, _, rfl⟩ := List.mem_map.mp hd
  show (shs (p.1.map iD) (k + 1) && (shs (p.2.map iD) (k + 1) && true)) = true
  rw [shs_nats, shs_nats]; rfl
theorem f_full_size {n : Nat} {R : List (Nat × Nat)} (o : WOK n R) {m : Nat} (hm : MaxCl n R m) : Fn sem_full_size [some ⟨wD n R, 0, 0⟩, none, none, none, none, none, none, none, none] (iD m, 0) := by
  unfold sem_full_size
  have hn := o.n9
  clean_wf
  refine w_callK [wD n R] _ (f_is_plain o) rfl ?_
  clean_wf
  refine w_callK [wD n R] _ (f_neighbour_lists o) rfl ?_
  clean_wf
  refine ws_while (fun k e => ∃ (best : Nat) (w : List MS.Ent), MS.FS (MN.adjB R) n best w ∧ MS.wt w = k ∧ k ≤ 2 ^ n ∧ e = [some ⟨wD n R, 0, 0⟩, some ⟨nlD n R, 0, 0⟩, some ⟨iD best, 0, 0⟩, some ⟨.lst (w.map enD), 1, 0⟩, none, none, none, none, none]) (2 ^ n) ?_ ?_
  · refine ⟨0, _, MS.FS.start _ _, by simp [MS.wt], Nat.le_refl _, ?_⟩
    rfl
  · rintro k e ⟨best, w, fs, hk, hk2, rfl⟩
    clean_wf
    refine ⟨_, neX_nil (shs_ents w 60), rfl, ?_⟩
    clean_wf
    rcases List.eq_nil_or_concat w with rfl | ⟨w', ⟨lot, left⟩, hw⟩
    · clean_wf
      rw [MaxCl.uniq fs.fin hm]
    · rw [List.concat_eq_append] at hw
      subst hw
      refine ite_t (by simp) ?_
      clean_wf
      refine w_popV (ds := w'.map enD) (d := enD (lot, left)) (k := 0) (by simp) ?_
      clean_wf
      have ok := fs.ok (lot, left) (by simp)
      have hlen : left.length ≤ n := M88.len_le (ok.2.1.imp fun h => Nat.ne_of_lt h) n fun a ha => (ok.2.2 a ha).1
      have hlot : lot.length ≤ n := M88.len_le (ok.1.1.imp fun h => Nat.ne_of_lt h.1) n ok.1.2
      have p9 : 2 ^ n ≤ 2 ^ 9 := Nat.pow_le_pow_right (by omega) hn
      have hw' : w'.length + 1 ≤ 2 ^ n := by
        have := MS.len_wt (w' ++ [(lot, left)])
        rw [List.length_append] at this
        simp only [List.length_cons, List.length_nil] at this
        omega
      refine ws_forL (xs := left.zipIdx) (f := fun p => .tup [iD p.2, iD p.1]) (fun dn e => e = [some ⟨wD n R, 0, 0⟩, some ⟨nlD n R, 0, 0⟩, some ⟨iD (max best lot.length), 0, 0⟩, some ⟨.lst ((w' ++ dn.map (kid (MN.adjB R) lot left)).map enD), 1, 0⟩, some ⟨tpD lot, 0, 0⟩, some ⟨.lst (left.map iD), 0, 0⟩, none, none, none]) ?_ ?_ ?_
      · clean_wf
        refine ⟨enumD_map iD 0 left, ?_⟩
        simp
      · rintro dn ⟨x, p⟩ r e hx rfl
        have hp : left[p]? = some x := List.mem_zipIdx_iff_getElem? (x := (x, p)).mp (by rw [hx]; simp)
        have hpl : p < left.length := (List.getElem?_eq_some_iff.mp hp).1
        have hxn : x < n := (ok.2.2 x (List.mem_of_getElem? hp)).1
        have hdn : dn.length ≤ left.length := by have := congrArg List.length hx; simp at this; omega
        clean_wf
        refine ws_appV (ds := (w' ++ dn.map (kid (MN.adjB R) lot left)).map enD) (k := 0) rfl ?_
        clean_wf
        refine ⟨⟨rfl, by simp; omega⟩, ?_⟩
        clean_wf
        refine w_compF (xs := left.drop (p + 1)) (f := iD) (fun a => MN.adjB R x a) iD _ rfl ?_
        clean_wf
        refine ⟨(cut_from (xs := left.map iD) (k := p + 1) (by simp; omega)).trans (by rw [List.map_drop]), fun a ha => ?_, ?_⟩
        · have han : a < n := (ok.2.2 a (List.mem_of_mem_drop ha)).1
          have e1 : decide (a ∈ MN.nbl n R x) = MN.adjB R x a := by
            rw [Bool.eq_iff_iff, decide_eq_true_eq, MN.mem_nbl]; simp [han]
          clean_wf
          refine ⟨_, ix_rg hxn, ?_⟩
          clean_wf
          refine ⟨_, in_lst false (MN.nbl n R x) a, rfl, ?_⟩
          clean_wf
          refine ⟨by simpa using e1, ?_⟩
          refine ite_i (fun e => ?_) (fun e => ?_) <;> clean_wf
        · clean_wf
          refine ⟨⟨by simp; omega, rfl⟩, ?_⟩
          clean_wf
          have em : (w' ++ (dn ++ [(x, p)]).map (kid (MN.adjB R) lot left)).map enD = (w' ++ dn.map (kid (MN.adjB R) lot left)).map enD ++ [.tup [.tup (lot.map iD ++ [iD x]), .lst (((left.drop (p + 1)).filter fun a => MN.adjB R x a).map iD)]] := by
            have e0 : D.tup (lot.map iD ++ [iD x]) = tpD (lot ++ [x]) := by simp [tpD]
            rw [e0, List.map_append (f := kid (MN.adjB R) lot left), ← List.append_assoc, List.map_append]
            rfl
          rw [em]
          clean_wf
      · rintro e rfl
        clean_wf
        rw [← kids_eq0]
        exact ⟨_, hk ▸ MS.FS.wt_step _ _ _ _, _, _, MS.FS.step (MN.adjB_sym R) fs, rfl, by have := MS.FS.wt_step (MN.adjB R) w' lot left; omega, rfl⟩
end K88
set_option Elab.async false
set_option linter.all false
set_option autoImplicit false
set_option maxRecDepth 100000
set_option maxHeartbeats 4000000
/-! Ev42: bits of natural numbers; ranges; calls whose answer is told by a property. -/
namespace Ev
open PySem PySem.Spec L2
theorem bitAnd_n (a b : Nat) : Builtin.bitAnd (a : Int) (b : Int) = ((a &&& b : Nat) : Int) := by
  unfold Builtin.bitAnd
  rw [decide_eq_true (show (0 : Int) ≤ a by omega), decide_eq_true (show (0 : Int) ≤ b by omega)]
  rfl
theorem bitOr_n (a b : Nat) : Builtin.bitOr (a : Int) (b : Int) = ((a ||| b : Nat) : Int) := by
  have e : ∀ x : Nat, Builtin.bitNot (Builtin.bitNot (x : Int)) = x := fun x => by unfold Builtin.bitNot; omega
  have n : ∀ x : Nat, decide (0 ≤ Builtin.bitNot (x : Int)) = false := fun x => by unfold Builtin.bitNot; simp; omega
  unfold Builtin.bitOr Builtin.bitAnd
  rw [n a, n b]
  simp only [e, Int.toNat_natCast]
theorem and_n (a b : Nat) : gAnd (iD a) (iD b) = some (iD (a &&& b)) := by
  show some (D.int (Builtin.bitAnd (a : Int) (b : Int))) = _
  rw [bitAnd_n]
theorem or_n (a b : Nat) : gOr (iD a) (iD b) = some (iD (a ||| b)) := by
  show some (D.int (Builtin.bitOr (a : Int) (b : Int))) = _
  rw [bitOr_n]
theorem shr_n (a p : Nat) : gShr (iD a) (iD p) = some (iD (a / 2 ^ p)) := by
  show (if (0 : Int) ≤ (p : Int) then some ((a : Int) / 2 ^ (p : Int).toNat) else none).map D.int = _
  rw [if_pos (by omega), Int.toNat_natCast]
  have : (a : Int) / 2 ^ p = ((a / 2 ^ p : Nat) : Int) := by simp
  rw [this]; rfl
theorem shl_n {b : Nat} (h : b ≤ 1000000) : gShl (.int 1) (iD b) = some (iD (2 ^ b)) := by
  show (if (0 : Int) ≤ (b : Int) ∧ (b : Int) ≤ 1000000 ∧ (1 : Int).natAbs < 2 ^ 64 then some (1 * 2 ^ (b : Int).toNat) else none).map D.int = _
  rw [if_pos ⟨by omega, by omega, by decide⟩, Int.toNat_natCast]
  have : (1 : Int) * 2 ^ b = ((2 ^ b : Nat) : Int) := by simp
  rw [this]; rfl
theorem bit_n (a p : Nat) : decide (((a / 2 ^ p &&& 1 : Nat) : Int) = (1 : Int)) = a.testBit p := by
  rw [Nat.testBit_eq_decide_div_mod_eq, Nat.and_one_is_mod, decide_eq_decide]
  omega
section
variable {e : En}
theorem w_rg2N {p r : SP} {Q : List D → En → Prop} (h : W p (fun d e => ∃ i : Nat, d = .int (i : Int) ∧ i ≤ 16777216 ∧ W r (fun d e => ∃ j : Nat, d = .int (j : Int) ∧ j ≤ 16777216 ∧ Q ((List.range' i (j - i)).map iD) e) e) e) : W (sRg2 p r) Q e := by
  obtain ⟨d, e1, h1, i, rfl, hi, d2, e2, h2, j, rfl, hj, q⟩ := h
  have e0 : rgD (i : Int) ((j : Int) - (i : Int)).toNat = (List.range' i (j - i)).map iD := by
    rw [← rgD_nat2]; congr 1; omega
  refine ⟨_, _, ?_, q⟩
  unfold sRg2
  simp only [h1, h2]
  rw [if_pos (by omega), e0]
/-- m - 1, ..., 0 -/
def downL (m : Nat) : List Nat := (List.range m).map fun k => m - 1 - k
theorem mem_downL {m p : Nat} : p ∈ downL m ↔ p < m := by
  unfold downL
  rw [List.mem_map]
  constructor
  · rintro ⟨k, hk, rfl⟩; have := List.mem_range.mp hk; omega
  · intro h; exact ⟨m - 1 - p, List.mem_range.mpr (by omega), by omega⟩
theorem downL_len (m : Nat) : (downL m).length = m := by simp [downL]
theorem w_rgDnN {p r c : SP} {Q : List D → En → Prop} (h : W p (fun d e => ∃ m : Nat, d = .int ((m : Int) - 1) ∧ m ≤ 16777216 ∧ W r (fun d e => d = .int (-1) ∧ W c (fun d e => d = .int (-1) ∧ Q ((downL m).map iD) e) e) e) e) : W (sRgDn p r c) Q e := by
  obtain ⟨d, e1, h1, m, rfl, hm, d2, e2, h2, rfl, d3, e3, h3, rfl, q⟩ := h
  have e0 : dnD ((m : Int) - 1) ((m : Int) - 1 - -1).toNat = (downL m).map iD := by
    unfold dnD downL
    have : ((m : Int) - 1 - -1).toNat = m := by omega
    rw [this, List.map_map]
    refine List.map_congr_left fun k hk => ?_
    have := List.mem_range.mp hk
    show D.int ((m : Int) - 1 - k) = D.int ((m - 1 - k : Nat) : Int)
    congr 1; omega
  refine ⟨_, _, ?_, q⟩
  unfold sRgDn
  simp only [h1, h2, h3]
  rw [if_pos ⟨trivial, by omega, by omega, by decide, by decide, by omega⟩, e0]
/-- a call whose answer is told by a property -/
theorem w_callR {n p : Nat} {b : SS} {s : SAg} {Q : Rv → En → Prop} (ds : List D) (P : Rv → Prop) (hf : WS b (fun _ => P (.non, 0)) (fun r _ => P r) (fun _ => False) (fun _ => False) ((ds.map fun d => some ⟨d, 0, 0⟩) ++ List.replicate n none)) (hp : ds.length = p) (h : W s (fun ags e1 => ags = ds.map Ag.va ∧ ∀ rv, P rv → Q rv e1) e) : W (sCall n p b s) Q e :=
  w_call (h.mono fun ags e1 ⟨ha, q⟩ => by
    subst ha
    refine ⟨_, agSl_va e1 ds, ⟨by simpa using hp, by rw [agI_va]; exact List.nodup_nil⟩, hf.mono (fun e2 h => ?_) (fun r e2 h => ?_) (fun _ => id) (fun _ => id)⟩
    · rw [backE_va]; exact q _ h
    · rw [backE_va]; exact q _ h)
end
/-! #### sums of powers -/
def bitsN (l : List Nat) : Nat := (l.map fun w => 2 ^ w).sum
theorem bitsN_lt : ∀ (l : List Nat) (m : Nat), l.Pairwise (fun a b => b < a) → (∀ a ∈ l, a < m) → bitsN l < 2 ^ m
  | [], m, _, _ => by simp only [bitsN, List.map_nil, List.sum_nil]; exact Nat.pow_pos (by omega)
  | a :: l, m, h, hm => by
    have h' := List.pairwise_cons.mp h
    have i := bitsN_lt l a h'.2 h'.1
    have ha : a < m := hm a (by simp)
    have : 2 ^ (a + 1) ≤ 2 ^ m := Nat.pow_le_pow_right (by omega) (by omega)
    rw [Nat.pow_succ] at this
    simp only [bitsN, List.map_cons, List.sum_cons] at *
    omega
theorem bitsN_desc : ∀ (l : List Nat) (q : Nat), l.Pairwise (fun a b => b < a) → (bitsN l).testBit q = decide (q ∈ l)
  | [], q, _ => by simp [bitsN]
  | a :: l, q, h => by
    have h' := List.pairwise_cons.mp h
    have lt := bitsN_lt l a h'.2 h'.1
    have i := bitsN_desc l q h'.2
    have e : bitsN (a :: l) = 2 ^ a * 1 ||| bitsN l := by
      rw [← Nat.two_pow_add_eq_or_of_lt lt 1]; simp [bitsN]
    rw [e, Nat.testBit_or, i, Nat.mul_one, Nat.testBit_two_pow]
    by_cases hq : a = q
    · subst hq; simp
    · simp [hq, Ne.symm hq]
theorem bitsN_asc {l : List Nat} (h : l.Pairwise (· < ·)) (q : Nat) : (bitsN l).testBit q = decide (q ∈ l) := by
  have e : bitsN l = bitsN l.reverse := by
    unfold bitsN
    exact ((List.reverse_perm l).symm.map _).sum_nat
  rw [e, bitsN_desc l.reverse q (List.pairwise_reverse.mpr h)]
  simp
theorem bitsN_int (l : List Nat) : (l.map fun w => ((2 ^ w : Nat) : Int)).sum = ((bitsN l : Nat) : Int) := by
  unfold bitsN
  induction l with
  | nil => rfl
  | cons a l ih => simp only [List.map_cons, List.sum_cons, ih]; omega
theorem enum_rg (n : Nat) (g : Nat → D) : enumD 0 ((List.range n).map g) = (List.range n).map fun v => D.tup [iD v, g v] := by
  apply List.ext_getElem?
  intro i
  rw [enumD_get, List.getElem?_map, List.getElem?_map]
  by_cases h : i < n
  · rw [List.getElem?_range h]; simp
  · rw [List.getElem?_eq_none (by simpa using Nat.not_lt.mp h)]; rfl
theorem set_cut {α : Type} {xs : List α} {i : Nat} {x : α} (h : i < xs.length) : xs.take i ++ [x] ++ xs.drop (i + 1) = xs.set i x := by
  rw [List.set_eq_take_append_cons_drop, if_pos h]; simp
end Ev
set_option Elab.async false
set_option linter.all false
set_option autoImplicit false
set_option maxRecDepth 100000
set_option maxHeartbeats 4000000
/-! Q88g: the options that are kept. -/
namespace K88
open PySem PySem.Spec L2 Ev
local macro_rules | `(tactic| clean_wf) => `(tactic| repeat' (with_reducible first
  | refine fn_i ?_ | refine ws_seq ?_ | refine ws_if ?_ | refine ws_ret ?_ | refine ws_skip ?_ | refine ws_setE ?_ | refine ws_asg ?_ | refine ws_parN ?_ | refine ws_par ?_
  | refine w_op ?_ | refine w_pkE ?_ | refine w_pkV ?_ | refine w_c ?_ | refine w_c1 ?_ | refine w_sub ?_ | refine w_fz ?_ | refine w_tv ?_
  | refine w_and ?_ | refine w_or ?_ | refine w_not ?_ | refine w_andV ?_ | refine w_notV ?_ | refine w_ite ?_ | refine w_isN ?_ | refine w_yes ?_
  | refine w_itm ?_ | refine w_aNil ?_ | refine w_aCons ?_ | refine w_tup ?_ | refine w_lst ?_ | refine w_conv ?_ | refine w_cat ?_ | refine w_rev ?_
  | refine w_oNone ?_ | refine w_oSome ?_ | refine w_sl ?_ | refine w_it ?_ | refine w_rgN ?_ | refine w_lstRg ?_ | refine w_en ?_ | refine w_zip ?_ | refine w_zip1 ?_
  | refine w_im ?_ | refine w_bits ?_ | refine w_rg2N ?_ | refine w_rgDnN ?_ | refine w_chain ?_ | refine w_dNew ?_ | refine w_gNil ?_ | refine w_gVa ?_ | refine w_gKw ?_
  | refine wg_allNil ?_ | refine wg_allCons ?_ | (show WG (gPutT _ (plVar _) _ _) _ _; refine wg_putT ?_)
  | refine w_pk (by with_unfolding_all exact rfl) ?_ | refine w_var0 (by with_unfolding_all exact rfl) (.inl (by with_unfolding_all exact rfl)) ?_ | refine w_varF' (by with_unfolding_all exact rfl) (by with_unfolding_all exact rfl) ?_ | refine w_mv (by with_unfolding_all exact rfl) (by with_unfolding_all exact rfl) ?_
  | refine wg_setE (by with_unfolding_all exact rfl) (by with_unfolding_all exact rfl) ?_ | refine wg_tupS (by with_unfolding_all exact rfl) ?_ | refine w_plVar ⟨_, by with_unfolding_all exact rfl⟩ ?_
  | refine ite_t (by with_unfolding_all exact rfl) ?_ | refine ite_f (by with_unfolding_all exact rfl) ?_
  | (show WG (gsCons _ _ _) _ _; with_unfolding_all refine wg_sCons ?_)
  | (show WG (gsNil _) _ _; with_unfolding_all refine wg_sNil ?_)
  | (show @Eq Rv _ _; rfl)
  | (show WG (clr _) _ _; with_unfolding_all refine ⟨_, rfl, ?_⟩)
  | (show @Eq En _ _; with_unfolding_all rfl)
  | (show And (_ ≤ _) _; refine ⟨by omega, ?_⟩)
  | (show And (_ < _) _; refine ⟨by omega, ?_⟩)
  | (show And _ _; with_unfolding_all first | refine ⟨⟨rfl, rfl⟩, ?_⟩ | refine ⟨rfl, ?_⟩ | refine ⟨Nat.le_of_ble_eq_true rfl, ?_⟩ | refine ⟨⟨Nat.le_of_ble_eq_true rfl, rfl⟩, ?_⟩)
  | (show Or _ _; with_unfolding_all first | refine .inl ⟨_, rfl, ?_⟩ | refine .inr ⟨_, rfl, ?_⟩)
  | (show ∃ _, gMax2 _ _ = _ ∧ _; refine ⟨_, max2_n _ _, rfl, ?_⟩)
  | (show ∃ _, gAnd _ _ = _ ∧ _; refine ⟨_, and_n _ _, rfl, ?_⟩)
  | (show ∃ _, gOr _ _ = _ ∧ _; refine ⟨_, or_n _ _, rfl, ?_⟩)
  | (show ∃ _, gShr _ _ = _ ∧ _; refine ⟨_, shr_n _ _, rfl, ?_⟩)
  | (show ∃ _, gShl _ _ = _ ∧ _; refine ⟨_, shl_n (by omega), rfl, ?_⟩)
  | (show ∃ _, gI _ _ _ = _ ∧ _; with_unfolding_all first
    | refine ⟨_, gMul_l rfl, rfl, ?_⟩ | refine ⟨_, gMul_r rfl, rfl, ?_⟩ | refine ⟨_, gMul_mod rfl, rfl, ?_⟩ | refine ⟨_, gMod_k rfl, rfl, ?_⟩ | refine ⟨_, gDiv_k rfl, rfl, ?_⟩ | refine ⟨_, rfl, rfl, ?_⟩)
  | (show ∃ _, gEqX _ _ = _ ∧ _; with_unfolding_all first | refine ⟨_, eqX_i .., rfl, ?_⟩ | refine ⟨_, eqX_s .., rfl, ?_⟩)
  | (show ∃ _, gNeX _ _ = _ ∧ _; with_unfolding_all first | refine ⟨_, neX_i .., rfl, ?_⟩ | refine ⟨_, neX_s .., rfl, ?_⟩)
  | (show ∃ _, gB _ _ _ = _ ∧ _; with_unfolding_all first | refine ⟨_, rfl, rfl, ?_⟩ | refine ⟨_, rfl, ?_⟩)
  | (show ∃ _, gIx _ _ = _ ∧ _; with_unfolding_all refine ⟨_, rfl, ?_⟩)
  | (show ∃ _, gIsi _ _ = _ ∧ _; with_unfolding_all refine ⟨_, rfl, rfl, ?_⟩)
  | (show ∃ _, gLen1 _ = _ ∧ _; with_unfolding_all refine ⟨_, rfl, rfl, ?_⟩)
  | (show ∃ _, gInt _ = _ ∧ _; with_unfolding_all refine ⟨_, rfl, rfl, ?_⟩)
  | (show ∃ _, _ = D.bl _ ∧ _; with_unfolding_all refine ⟨_, rfl, ?_⟩)
  | (show ∃ _, _ = D.int _ ∧ _; with_unfolding_all refine ⟨_, rfl, ?_⟩)))
theorem f_bits_of (l : List Nat) (h : ∀ w ∈ l, w ≤ 1000) : Fn sem_bits_of [some ⟨.lst (l.map iD), 0, 0⟩, none] (iD (bitsN l), 0) := by
  unfold sem_bits_of
  clean_wf
  refine w_compA (xs := l) (f := iD) (fun w => .int ((2 ^ w : Nat) : Int)) ?_
  clean_wf
  refine ⟨fun w hw => ?_, ?_⟩
  · have := h w hw
    clean_wf
  clean_wf
  refine ⟨_, sum_map (fun w => ((2 ^ w : Nat) : Int)) l, rfl, ?_⟩
  rw [bitsN_int]
abbrev opD (n : Nat) (f : Nat → Nat) : D := rgL n fun v => iD (f v)
theorem opD_set {n : Nat} (g : Nat → Nat) (x z : Nat) : opD n (MS.upd g x z) = .lst (((List.range n).map fun v => iD (g v)).set x (iD z)) := by
  refine congrArg D.lst ?_
  apply List.ext_getElem
  · simp
  · intro k h1 h2
    simp only [List.getElem_set, List.getElem_map, List.getElem_range, MS.upd]
    by_cases h : x = k
    · subst h; simp
    · simp [h, Ne.symm h]
/-- what kept_options tells -/
def KeptP (n : Nat) (R : List (Nat × Nat)) (bes : List Nat) (f0 : Nat → Nat) (r : Rv) : Prop := (r = (.non, 0) ∧ ∀ φ, MS.Hom n (MN.nbl n R) bes φ → ¬ MS.Fit n f0 φ) ∨ ∃ f, r = (opD n f, 1) ∧ MS.KI n (MN.nbl n R) bes f0 f [] n []
theorem f_kept {n : Nat} {R : List (Nat × Nat)} (o : WOK n R) (bes : List Nat) (f0 : Nat → Nat) (h0 : ∀ v, v < n → f0 v ≠ 0) (hb : 2 * MS.sumF n f0 + n < 16777216) :
    WS sem_kept_options (fun _ => KeptP n R bes f0 (.non, 0)) (fun r _ => KeptP n R bes f0 r) (fun _ => False) (fun _ => False)
      [some ⟨opD n f0, 0, 0⟩, some ⟨nlD n R, 0, 0⟩, some ⟨.lst (bes.map iD), 0, 0⟩, none, none, none, none, none, none, none, none] := by
  unfold sem_kept_options
  have hn := o.n9
  clean_wf
  refine ⟨by simp; omega, ?_⟩
  clean_wf
  refine ⟨_, _, rfl, ?_⟩
  clean_wf
  have e0 : D.lst (List.map iD (List.range (List.map (fun v => iD (f0 v)) (List.range n)).length)) = .lst ((List.range n).map iD) := by simp
  rw [e0]
  refine ws_while (fun k e => ∃ (f : Nat → Nat) (w : List Nat), MS.KI n (MN.nbl n R) bes f0 f w n [] ∧ 2 * MS.sumF n f + w.length = k ∧ k < 16777216 ∧ e = [some ⟨opD n f0, 0, 0⟩, some ⟨nlD n R, 0, 0⟩, some ⟨.lst (bes.map iD), 0, 0⟩, some ⟨opD n f, 1, 0⟩, some ⟨.lst (w.map iD), 1, 0⟩, none, none, none, none, none, none]) (2 * MS.sumF n f0 + n) ?_ ?_
  · refine ⟨f0, List.range n, MS.KI.start h0, by simp, hb, ?_⟩
    clean_wf
  rintro k e ⟨f, w, ki, hk, hk2, rfl⟩
  clean_wf
  refine ⟨_, neX_nil (shs_nats w 63), rfl, ?_⟩
  clean_wf
  rcases List.eq_nil_or_concat w with rfl | ⟨w', h, hw⟩
  · clean_wf
    exact Or.inr ⟨f, rfl, ki⟩
  rw [List.concat_eq_append] at hw
  subst hw
  refine ite_t (by simp) ?_
  clean_wf
  refine w_popV (ds := w'.map iD) (d := iD h) (k := 0) (by simp) ?_
  have hh : h < n := ki.wlt h (by simp)
  clean_wf
  refine ws_forL (xs := bes.zipIdx) (f := fun p => .tup [iD p.2, iD p.1]) (fun dn e => e = [some ⟨opD n f0, 0, 0⟩, some ⟨nlD n R, 0, 0⟩, some ⟨.lst (bes.map iD), 0, 0⟩, some ⟨opD n f, 1, 0⟩, some ⟨.lst (w'.map iD), 1, 0⟩, some ⟨iD h, 0, 0⟩, some ⟨iD (dn.foldl (fun r p => if (f h).testBit p.2 then r ||| p.1 else r) 0), 0, 0⟩, none, none, none, none]) ?_ ?_ ?_
  · clean_wf
    exact ⟨enumD_map iD 0 bes, rfl⟩
  · rintro dn ⟨b, p⟩ r e hx rfl
    clean_wf
    refine ⟨_, ix_rg hh, ?_⟩
    clean_wf
    rw [bit_n, List.foldl_append]
    simp only [List.foldl_cons, List.foldl_nil]
    refine ite_i (fun e => ?_) (fun e => ?_)
    · rw [if_pos e]
      clean_wf
    · have e : ¬ (f h).testBit p = true := by simp [e]
      rw [if_neg e]
      clean_wf
  rintro e rfl
  have e1 : bes.zipIdx.foldl (fun r p => if (f h).testBit p.2 = true then r ||| p.1 else r) 0 = MS.rch bes (f h) := rfl
  rw [e1]
  refine ws_forL (xs := MN.nbl n R h) (f := iD) (fun dn e => ∃ (g : Nat → Nat) (w : List Nat) (dm : List Nat), MS.KI n (MN.nbl n R) bes f0 g w h dm ∧ (∀ o ∈ dn, o ∈ dm) ∧ g h = f h ∧ 2 * MS.sumF n g + w.length < k ∧ e = [some ⟨opD n f0, 0, 0⟩, some ⟨nlD n R, 0, 0⟩, some ⟨.lst (bes.map iD), 0, 0⟩, some ⟨opD n g, 1, 0⟩, some ⟨.lst (w.map iD), 1, 0⟩, some ⟨iD h, 0, 0⟩, some ⟨iD (MS.rch bes (f h)), 0, 0⟩, none, none, none, none]) ?_ ?_ ?_
  · clean_wf
    refine ⟨_, ix_rg hh, ?_⟩
    clean_wf
    exact ⟨f, w', [], ki.pop, by simp, rfl, by simp at hk; omega, rfl⟩
  · rintro dn x r e hx ⟨g, w, dm, kg, hdm, hgh, hlt, rfl⟩
    have hxm : x ∈ MN.nbl n R h := by rw [hx]; simp
    have hxn : x < n := (MN.mem_nbl.mp hxm).1
    have hne : x ≠ h := by
      intro e
      subst e
      have := (MN.mem_nbl.mp hxm).2
      rw [MN.adjB_irr o.h1] at this
      exact Bool.noConfusion this
    have wl := kg.wlt
    rw [← hgh]
    clean_wf
    refine ⟨_, ix_rg hxn, ?_⟩
    clean_wf
    refine ite_i (fun e => ?_) (fun e => ?_)
    · have e : g x &&& MS.rch bes (g h) = 0 := by have := of_decide_eq_true e; omega
      clean_wf
      exact Or.inl ⟨rfl, fun φ hom => kg.none hh hxm hxn e φ hom⟩
    have e : g x &&& MS.rch bes (g h) ≠ 0 := by intro q; simp [q] at e
    clean_wf
    refine ⟨_, ix_rg hxn, ?_⟩
    clean_wf
    refine ite_i (fun e2 => ?_) (fun e2 => ?_)
    · have e2 : g x &&& MS.rch bes (g h) ≠ g x := by intro q; simp [q] at e2
      clean_wf
      refine ⟨_, _, _, _, rfl, rfl, put_lst (by simpa using hxn), ?_⟩
      refine ws_appV (ds := w.map iD) (k := 0) rfl ?_
      clean_wf
      refine ⟨⟨by simp; omega, rfl⟩, ?_⟩
      clean_wf
      refine ⟨_, _, _, kg.cut hh hxm hxn hne e, ?_, ?_, ?_, ?_⟩
      · intro o ho
        rcases List.mem_append.mp ho with ho | ho
        · simp [hdm o ho]
        · have : o = x := by simpa using ho
          simp [this]
      · rw [MS.upd_ne _ _ (Ne.symm hne)]
      · have := MS.KI.cut_lt hxn e2
        rw [List.length_append]; simp only [List.length_cons, List.length_nil]; omega
      · rw [opD_set, List.map_append]
        rfl
    · have e2 : g x &&& MS.rch bes (g h) = g x := by simp at e2; omega
      clean_wf
      exact ⟨g, w, _, kg.keep e2, fun o ho => by
        rcases List.mem_append.mp ho with ho | ho
        · simp [hdm o ho]
        · have : o = x := by simpa using ho
          simp [this], rfl, hlt, rfl⟩
  · rintro e ⟨g, w, dm, kg, hdm, hgh, hlt, rfl⟩
    clean_wf
    exact ⟨_, hlt, g, w, kg.next hdm, rfl, by omega, rfl⟩
end K88
set_option Elab.async false
set_option linter.all false
set_option autoImplicit false
set_option maxRecDepth 100000
set_option maxHeartbeats 4000000
/-! Q88h: full webs, maps into them. -/
namespace K88
open PySem PySem.Spec L2 Ev
local macro_rules | `(tactic| clean_wf) => `(tactic| repeat' (with_reducible first
  | refine fn_i ?_ | refine ws_seq ?_ | refine ws_if ?_ | refine ws_ret ?_ | refine ws_skip ?_ | refine ws_setE ?_ | refine ws_asg ?_ | refine ws_parN ?_ | refine ws_par ?_
  | refine w_op ?_ | refine w_pkE ?_ | refine w_pkV ?_ | refine w_c ?_ | refine w_c1 ?_ | refine w_sub ?_ | refine w_fz ?_ | refine w_tv ?_
  | refine w_and ?_ | refine w_or ?_ | refine w_not ?_ | refine w_andV ?_ | refine w_notV ?_ | refine w_ite ?_ | refine w_isN ?_ | refine w_yes ?_
  | refine w_itm ?_ | refine w_aNil ?_ | refine w_aCons ?_ | refine w_tup ?_ | refine w_lst ?_ | refine w_conv ?_ | refine w_cat ?_ | refine w_rev ?_
  | refine w_oNone ?_ | refine w_oSome ?_ | refine w_sl ?_ | refine w_it ?_ | refine w_rgN ?_ | refine w_lstRg ?_ | refine w_en ?_ | refine w_zip ?_ | refine w_zip1 ?_
  | refine w_im ?_ | refine w_bits ?_ | refine w_rg2N ?_ | refine w_rgDnN ?_ | refine w_chain ?_ | refine w_dNew ?_ | refine w_gNil ?_ | refine w_gVa ?_ | refine w_gKw ?_
  | refine wg_allNil ?_ | refine wg_allCons ?_ | (show WG (gPutT _ (plVar _) _ _) _ _; refine wg_putT ?_)
  | refine w_pk (by with_unfolding_all exact rfl) ?_ | refine w_var0 (by with_unfolding_all exact rfl) (.inl (by with_unfolding_all exact rfl)) ?_ | refine w_varF' (by with_unfolding_all exact rfl) (by with_unfolding_all exact rfl) ?_ | refine w_mv (by with_unfolding_all exact rfl) (by with_unfolding_all exact rfl) ?_
  | refine wg_setE (by with_unfolding_all exact rfl) (by with_unfolding_all exact rfl) ?_ | refine wg_tupS (by with_unfolding_all exact rfl) ?_ | refine w_plVar ⟨_, by with_unfolding_all exact rfl⟩ ?_
  | refine ite_t (by with_unfolding_all exact rfl) ?_ | refine ite_f (by with_unfolding_all exact rfl) ?_
  | (show WG (gsCons _ _ _) _ _; with_unfolding_all refine wg_sCons ?_)
  | (show WG (gsNil _) _ _; with_unfolding_all refine wg_sNil ?_)
  | (show @Eq Rv _ _; rfl)
  | (show WG (clr _) _ _; with_unfolding_all refine ⟨_, rfl, ?_⟩)
  | (show @Eq En _ _; with_unfolding_all rfl)
  | (show And (_ ≤ _) _; refine ⟨by omega, ?_⟩)
  | (show And (_ < _) _; refine ⟨by omega, ?_⟩)
  | (show And _ _; with_unfolding_all first | refine ⟨⟨rfl, rfl⟩, ?_⟩ | refine ⟨rfl, ?_⟩ | refine ⟨Nat.le_of_ble_eq_true rfl, ?_⟩ | refine ⟨⟨Nat.le_of_ble_eq_true rfl, rfl⟩, ?_⟩)
  | (show Or _ _; with_unfolding_all first | refine .inl ⟨_, rfl, ?_⟩ | refine .inr ⟨_, rfl, ?_⟩)
  | (show ∃ _, gMax2 _ _ = _ ∧ _; refine ⟨_, max2_n _ _, rfl, ?_⟩)
  | (show ∃ _, gAnd _ _ = _ ∧ _; refine ⟨_, and_n _ _, rfl, ?_⟩)
  | (show ∃ _, gOr _ _ = _ ∧ _; refine ⟨_, or_n _ _, rfl, ?_⟩)
  | (show ∃ _, gShr _ _ = _ ∧ _; refine ⟨_, shr_n _ _, rfl, ?_⟩)
  | (show ∃ _, gShl _ _ = _ ∧ _; refine ⟨_, shl_n (by omega), rfl, ?_⟩)
  | (show ∃ _, gI _ _ _ = _ ∧ _; with_unfolding_all first
    | refine ⟨_, gMul_l rfl, rfl, ?_⟩ | refine ⟨_, gMul_r rfl, rfl, ?_⟩ | refine ⟨_, gMul_mod rfl, rfl, ?_⟩ | refine ⟨_, gMod_k rfl, rfl, ?_⟩ | refine ⟨_, gDiv_k rfl, rfl, ?_⟩ | refine ⟨_, rfl, rfl, ?_⟩)
  | (show ∃ _, gEqX _ _ = _ ∧ _; with_unfolding_all first | refine ⟨_, eqX_i .., rfl, ?_⟩ | refine ⟨_, eqX_s .., rfl, ?_⟩)
  | (show ∃ _, gNeX _ _ = _ ∧ _; with_unfolding_all first | refine ⟨_, neX_i .., rfl, ?_⟩ | refine ⟨_, neX_s .., rfl, ?_⟩)
  | (show ∃ _, gB _ _ _ = _ ∧ _; with_unfolding_all first | refine ⟨_, rfl, rfl, ?_⟩ | refine ⟨_, rfl, ?_⟩)
  | (show ∃ _, gIx _ _ = _ ∧ _; with_unfolding_all refine ⟨_, rfl, ?_⟩)
  | (show ∃ _, gIsi _ _ = _ ∧ _; with_unfolding_all refine ⟨_, rfl, rfl, ?_⟩)
  | (show ∃ _, gLen1 _ = _ ∧ _; with_unfolding_all refine ⟨_, rfl, rfl, ?_⟩)
  | (show ∃ _, gInt _ = _ ∧ _; with_unfolding_all refine ⟨_, rfl, rfl, ?_⟩)
  | (show ∃ _, _ = D.bl _ ∧ _; with_unfolding_all refine ⟨_, rfl, ?_⟩)
  | (show ∃ _, _ = D.int _ ∧ _; with_unfolding_all refine ⟨_, rfl, ?_⟩)))
def KR (m : Nat) : List (Nat × Nat) := (List.range m).flatMap fun i => (List.range' (i + 1) (m - (i + 1))).map fun j => (i, j)
theorem mem_KR {m : Nat} {p : Nat × Nat} : p ∈ KR m ↔ p.1 < p.2 ∧ p.2 < m := by
  unfold KR
  rw [List.mem_flatMap]
  constructor
  · rintro ⟨i, hi, hm⟩
    obtain ⟨j, hj, rfl⟩ := List.mem_map.mp hm
    have := List.mem_range'_1.mp hj
    have := List.mem_range.mp hi
    simp only; omega
  · intro h
    exact ⟨p.1, List.mem_range.mpr (by omega), List.mem_map.mpr ⟨p.2, List.mem_range'_1.mpr (by omega), rfl⟩⟩
theorem KR_nd (m : Nat) : (KR m).Nodup := by
  unfold KR
  refine List.pairwise_flatMap.mpr ⟨fun i _ => ?_, ?_⟩
  · refine List.pairwise_map.mpr (List.Pairwise.imp ?_ (List.nodup_range' (step := 1) (n := m - (i + 1)) (s := i + 1)))
    intro a b h e
    simp at e
    exact h e
  · refine List.pairwise_lt_range.imp fun {a b} h => ?_
    intro p hp q hq e
    obtain ⟨_, _, rfl⟩ := List.mem_map.mp hp
    obtain ⟨_, _, rfl⟩ := List.mem_map.mp hq
    simp at e
    omega
theorem KR_len (m : Nat) : (KR m).length ≤ m * m := by
  have : (KR m) ⊆ (List.range m).flatMap fun i => (List.range m).map fun j => (i, j) := by
    intro p hp
    have := mem_KR.mp hp
    exact List.mem_flatMap.mpr ⟨p.1, List.mem_range.mpr (by omega), List.mem_map.mpr ⟨p.2, List.mem_range.mpr (by omega), rfl⟩⟩
  have h := List.Nodup.length_le_of_subset (KR_nd m) this
  have h2 : ∀ k, ((List.range k).flatMap fun i => (List.range m).map fun j => (i, j)).length = k * m := fun k => by
    induction k with
    | zero => simp
    | succ k ih => rw [List.range_succ, List.flatMap_append, List.length_append, ih]; simp [Nat.add_mul]
  rw [h2] at h
  exact h
theorem KR_ok {m : Nat} (hm : m ≤ 9) : WOK m (KR m) where
  lt := fun p hp => mem_KR.mp hp
  nd := KR_nd m
  sm := by have := KR_len m; have : m * m ≤ 9 * 9 := Nat.mul_le_mul hm hm; omega
  n9 := hm
theorem KR_adj {m v w : Nat} (hv : v < m) (hw : w < m) : MN.adjB (KR m) v w = decide (v ≠ w) := by
  unfold MN.adjB
  rw [Bool.eq_iff_iff]
  simp only [Bool.or_eq_true, decide_eq_true_eq, mem_KR]
  omega
theorem f_full_web {m : Nat} (hm : m ≤ 9) : Fn sem_full_web [some ⟨iD m, 0, 0⟩, none, none, none] (wD m (KR m), 0) := by
  unfold sem_full_web
  clean_wf
  refine ws_forL (xs := List.range m) (f := iD) (fun dn e => e = [some ⟨iD m, 0, 0⟩, some ⟨.lst ((dn.flatMap fun i => (List.range' (i + 1) (m - (i + 1))).map fun j => (i, j)).map pD), 1, 0⟩, none, none]) ?_ ?_ ?_
  · clean_wf
  · rintro dn i r e hx rfl
    obtain ⟨hd, hi⟩ := rng_pre hx
    clean_wf
    refine ws_extV (ds := (dn.flatMap fun i => (List.range' (i + 1) (m - (i + 1))).map fun j => (i, j)).map pD) (k := 0) rfl ?_
    clean_wf
    refine w_compA (xs := List.range' (i + 1) (m - (i + 1))) (f := iD) (fun j => pD (i, j)) ?_
    clean_wf
    have ln : (dn.flatMap fun i => (List.range' (i + 1) (m - (i + 1))).map fun j => (i, j)).length + (List.range' (i + 1) (m - (i + 1))).length ≤ 81 := by
      have h1 := KR_len m
      have h2 : m * m ≤ 9 * 9 := Nat.mul_le_mul hm hm
      have h3 : KR m = (dn ++ i :: r).flatMap fun i => (List.range' (i + 1) (m - (i + 1))).map fun j => (i, j) := by rw [← hx]; rfl
      rw [h3, List.flatMap_append, List.flatMap_cons, List.length_append, List.length_append, List.length_map] at h1
      omega
    refine ⟨Nat.le_trans hi (by omega), ?_⟩
    clean_wf
    refine ⟨fun j hj => ?_, ?_⟩
    · clean_wf
    clean_wf
    refine ⟨⟨by simp only [List.length_map]; omega, .inl rfl⟩, ?_⟩
    clean_wf
    rw [List.flatMap_append, List.map_append]
    simp only [List.flatMap_cons, List.flatMap_nil, List.append_nil, List.map_map]
    rfl
  · rintro e rfl
    clean_wf
    rfl
theorem bit_nbl (n : Nat) (R : List (Nat × Nat)) (v q : Nat) : (bitsN (MN.nbl n R v)).testBit q = decide (q ∈ MN.nbl n R v) := bitsN_asc (List.pairwise_lt_range.filter _) q
theorem shs_ops (n : Nat) (w : List (Nat → Nat)) (k : Nat) : shs (w.map (opD n)) (k + 1) = true := shs_mem _ _ fun d hd => by
  obtain ⟨p, _, rfl⟩ := List.mem_map.mp hd
  exact shs_mem _ _ fun d hd => by obtain ⟨q, _, rfl⟩ := List.mem_map.mp hd; rfl
theorem brs_app (f : Nat → Nat) (v0 : Nat) (dn : List Nat) (p : Nat) : MS.brs f v0 (dn ++ [p]) = MS.brs f v0 dn ++ if (f v0).testBit p = true then [MS.upd f v0 (2 ^ p)] else [] := by
  unfold MS.brs
  rw [List.filter_append, List.map_append]
  by_cases h : (f v0).testBit p = true <;> simp [h]
theorem opD_cut {n : Nat} (f : Nat → Nat) {v0 x : Nat} (h : v0 < n) : D.lst (((List.range n).map fun v => iD (f v)).take v0 ++ [iD x] ++ ((List.range n).map fun v => iD (f v)).drop (v0 + 1)) = opD n (MS.upd f v0 x) := by
  rw [set_cut (by simpa using h), opD_set]
theorem f_any_map {n : Nat} {R : List (Nat × Nat)} (o : WOK n R) {m : Nat} (hm : m ≤ 9) (hm0 : 0 < m) (hn0 : 0 < n) (hn6 : n ≤ 6) :
    WS sem_found_map (fun _ => False) (fun r _ => (r.1.isNon = true ∧ r.2 = 0 ∧ ¬ ∃ φ : Nat → Nat, (∀ v, v < n → φ v < m) ∧ ∀ v, v < n → ∀ w, w < n → MN.adjB R v w = true → φ v ≠ φ w) ∨ (r.1.isNon = false ∧ ∃ φ : Nat → Nat, (∀ v, v < n → φ v < m) ∧ ∀ v, v < n → ∀ w, w < n → MN.adjB R v w = true → φ v ≠ φ w)) (fun _ => False) (fun _ => False)
      [some ⟨wD n R, 0, 0⟩, some ⟨wD m (KR m), 0, 0⟩, none, none, none, none, none, none, none, none] := by
  unfold sem_found_map
  have hn := o.n9
  clean_wf
  refine w_callK [wD n R] _ (f_neighbour_lists o) rfl ?_
  clean_wf
  refine w_compA (xs := List.range m) (f := fun v => .lst ((MN.nbl m (KR m) v).map iD)) (fun v => iD (bitsN (MN.nbl m (KR m) v))) ?_
  clean_wf
  refine w_callK [wD m (KR m)] _ (f_neighbour_lists (KR_ok hm)) rfl ?_
  clean_wf
  refine ⟨fun v hv => ?_, ?_⟩
  · clean_wf
    refine w_callK [.lst ((MN.nbl m (KR m) v).map iD)] _ (f_bits_of _ fun w hw => by have := (MN.mem_nbl.mp hw).1; omega) rfl ?_
    clean_wf
  clean_wf
  refine ⟨_, _, rfl, ?_⟩
  clean_wf
  refine w_rep ?_
  clean_wf
  refine ⟨by simp; omega, ?_⟩
  clean_wf
  obtain ⟨bes, hbes⟩ : ∃ bes : List Nat, (List.range m).map (fun v => bitsN (MN.nbl m (KR m) v)) = bes := ⟨_, rfl⟩
  have eb : (List.range m).map (fun v => iD (bitsN (MN.nbl m (KR m) v))) = bes.map iD := by rw [← hbes, List.map_map]; rfl
  have toHom : ∀ φ : Nat → Nat, (∀ v, v < n → φ v < m) → (∀ v, v < n → ∀ w, w < n → MN.adjB R v w = true → φ v ≠ φ w) → MS.Hom n (MN.nbl n R) bes φ := by
    intro φ h1 h2
    refine ⟨fun v hv w hw => ?_⟩
    have hw' := MN.mem_nbl.mp hw
    refine ⟨bitsN (MN.nbl m (KR m) (φ v)), by rw [← hbes]; simp [h1 v hv], ?_⟩
    rw [bit_nbl]
    have : φ w ∈ MN.nbl m (KR m) (φ v) := MN.mem_nbl.mpr ⟨h1 w hw'.1, by rw [KR_adj (h1 v hv) (h1 w hw'.1)]; simpa using h2 v hv w hw'.1 hw'.2⟩
    simpa using this
  have ofHom : (∃ φ, MS.Hom n (MN.nbl n R) bes φ) → ∃ φ : Nat → Nat, (∀ v, v < n → φ v < m) ∧ ∀ v, v < n → ∀ w, w < n → MN.adjB R v w = true → φ v ≠ φ w := by
    rintro ⟨φ, hom⟩
    refine ⟨fun v => if φ v < m then φ v else 0, fun v _ => by simp only; split <;> omega, ?_⟩
    intro v hv w hw hadj
    obtain ⟨b, hb, ht⟩ := hom.edge v hv w (MN.mem_nbl.mpr ⟨hw, hadj⟩)
    rw [← hbes] at hb
    have h1 : φ v < m := by
      have := (List.getElem?_eq_some_iff.mp hb).1
      simpa using this
    have h2 : b = bitsN (MN.nbl m (KR m) (φ v)) := by simp [h1] at hb; exact hb.symm
    rw [h2, bit_nbl] at ht
    have ht : φ w ∈ MN.nbl m (KR m) (φ v) := by simpa using ht
    have h3 := MN.mem_nbl.mp ht
    rw [KR_adj h1 h3.1] at h3
    have h4 : φ v ≠ φ w := by simpa using h3.2
    simp only [if_pos h1, if_pos h3.1]
    exact h4
  have er : (List.replicate ((n : Int)).toNat [D.int (((2 ^ m : Nat) : Int) - 1)]).flatten = (List.range n).map fun v => iD ((fun _ => 2 ^ m - 1 : Nat → Nat) v) := by
    have : 0 < 2 ^ m := Nat.pow_pos (by omega)
    have e1 : D.int (((2 ^ m : Nat) : Int) - 1) = iD (2 ^ m - 1) := by show D.int _ = D.int _; congr 1; omega
    rw [Int.toNat_natCast, e1]
    apply List.ext_getElem
    · simp
    · intro k h1 h2
      simp
  refine ite_t (by simp; omega) ?_
  clean_wf
  refine ite_f (by simp; omega) ?_
  clean_wf
  have hmp : ∀ k, k ≤ 6 → (m + 1) ^ k ≤ 1000000 := fun k hk => Nat.le_trans (Nat.pow_le_pow_left (by omega) k) (Nat.le_trans (Nat.pow_le_pow_right (n := 10) (by omega) hk) (by decide))
  refine ws_while (fun k e => ∃ w : List (Nat → Nat), MS.FM n m (MN.nbl n R) bes w ∧ MS.wm n m w = k ∧ k ≤ 1000000 ∧ e = [some ⟨wD n R, 0, 0⟩, some ⟨wD m (KR m), 0, 0⟩, none, some ⟨nlD n R, 0, 0⟩, some ⟨.lst (bes.map iD), 0, 0⟩, some ⟨.lst (w.map (opD n)), 1, 0⟩, none, none, none, none]) (MS.wm n m [fun _ => 2 ^ m - 1]) ?_ ?_
  · refine ⟨_, MS.FM.start n m _ bes (.inl hm0), rfl, ?_, ?_⟩
    · simp only [MS.wm, List.map_cons, List.map_nil, List.sum_cons, List.sum_nil]
      exact hmp _ (Nat.le_trans (MS.ope_le n _) hn6)
    · have e2 : opD n (fun _ => 2 ^ m - 1) = .lst (List.replicate ((n : Int)).toNat [D.int (((2 ^ m : Nat) : Int) - 1)]).flatten := congrArg D.lst er.symm
      have e3 : List.map (opD n) [fun _ => 2 ^ m - 1] = [.lst (List.replicate ((n : Int)).toNat [D.int (((2 ^ m : Nat) : Int) - 1)]).flatten] := by rw [List.map_cons, List.map_nil, e2]
      rw [e3, ← eb]
      rfl
  rintro k e ⟨w, fm, hk, hk2, rfl⟩
  clean_wf
  refine ⟨_, neX_nil (shs_ops n w 62), rfl, ?_⟩
  clean_wf
  rcases List.eq_nil_or_concat w with rfl | ⟨w', f0, hw⟩
  · clean_wf
    refine .inl ⟨rfl, rfl, ?_⟩
    rintro ⟨φ, h1, h2⟩
    obtain ⟨f, hf, _⟩ := fm.all φ (toHom φ h1 h2) h1
    simp at hf
  rw [List.concat_eq_append] at hw
  subst hw
  have hpos := fm.pos f0 (by simp)
  have hf0 : MS.sumF n f0 ≤ n * 2 ^ m := by
    have := MS.sum_le n f0 (fun _ => 2 ^ m) fun v hv => Nat.le_of_lt (hpos v hv).2
    have e : MS.sumF n (fun _ => 2 ^ m) = n * 2 ^ m := by unfold MS.sumF; rw [List.map_const', List.length_range]; simp
    omega
  have hsm : 2 * MS.sumF n f0 + n < 16777216 := by
    have h1 : n * 2 ^ m ≤ 6 * 2 ^ 9 := Nat.mul_le_mul hn6 (Nat.pow_le_pow_right (by omega) hm)
    omega
  refine ite_t (by simp) ?_
  clean_wf
  refine w_callR [opD n f0, nlD n R, .lst (bes.map iD)] _ (f_kept o bes f0 (fun v hv => (hpos v hv).1) hsm) rfl ?_
  clean_wf
  refine w_popV (ds := w'.map (opD n)) (d := opD n f0) (k := 0) (by simp) ?_
  clean_wf
  rintro rv (⟨rfl, hno⟩ | ⟨f, rfl, ki⟩)
  · clean_wf
    refine ⟨MS.wm n m w', ?_, w', fm.drop hno, rfl, ?_, rfl⟩
    · rw [← hk, MS.wm_app]
      have : 0 < (m + 1) ^ MS.ope n f0 := Nat.pow_pos (by omega)
      simp only [MS.wm, List.map_cons, List.map_nil, List.sum_cons, List.sum_nil]; omega
    · have := MS.wm_app n m w' [f0]; omega
  · clean_wf
    refine w_compF (xs := List.range n) (f := fun v => .tup [iD v, iD (f v)]) (fun v => decide (f v &&& (f v - 1) ≠ 0)) iD ((List.range n).filter fun v => decide (f v &&& (f v - 1) ≠ 0)) rfl ?_
    clean_wf
    refine ⟨enum_rg n _, fun v hv => ?_, ?_⟩
    · have hv := List.mem_range.mp hv
      have h1 := ki.pos v hv
      have e1 : ((f v : Nat) : Int) - 1 = ((f v - 1 : Nat) : Int) := by omega
      clean_wf
      rw [e1, bitAnd_n]
      refine ⟨?_, ?_⟩
      · rw [Bool.eq_iff_iff]; simp
      · refine ite_i (fun e => ?_) (fun e => ?_) <;> clean_wf
    obtain ⟨L, hL⟩ : ∃ L, (List.range n).filter (fun v => decide (f v &&& (f v - 1) ≠ 0)) = L := ⟨_, rfl⟩
    rw [hL]
    clean_wf
    refine ⟨_, eqX_nil (shs_nats L 63), rfl, ?_⟩
    clean_wf
    cases L with
    | nil =>
      clean_wf
      refine w_compA (xs := List.range n) (f := fun v => iD (f v)) (fun v => .int (((Builtin.Int.intBits ((f v : Nat) : Int) : Nat) : Int) - 1)) ?_
      clean_wf
      refine ⟨fun v hv => ?_, ?_⟩
      · clean_wf
      clean_wf
      refine .inr ⟨rfl, ofHom (ki.hom (fun v hv o ho => (MN.mem_nbl.mp ho).1) fun v hv => ?_)⟩
      have := List.filter_eq_nil_iff.mp hL v (List.mem_range.mpr hv)
      simpa using this
    | cons v0 L =>
      have hv0 : v0 ∈ (List.range n).filter (fun v => decide (f v &&& (f v - 1) ≠ 0)) := by rw [hL]; simp
      have hv0n : v0 < n := List.mem_range.mp (List.mem_filter.mp hv0).1
      have two : f v0 &&& (f v0 - 1) ≠ 0 := by simpa using (List.mem_filter.mp hv0).2
      clean_wf
      refine ⟨_, ix_lst (f := iD) (xs := v0 :: L) (i := 0) (x := v0) rfl, ?_⟩
      clean_wf
      refine ws_forL (xs := downL m) (f := iD) (fun dn e => e = [some ⟨wD n R, 0, 0⟩, some ⟨wD m (KR m), 0, 0⟩, none, some ⟨nlD n R, 0, 0⟩, some ⟨.lst (bes.map iD), 0, 0⟩, some ⟨.lst ((w' ++ MS.brs f v0 dn).map (opD n)), 1, 0⟩, some ⟨opD n f, 0, 0⟩, some ⟨iD v0, 0, 0⟩, some ⟨.lst ((v0 :: L).map iD), 0, 0⟩, none]) ?_ ?_ ?_
      · have e0 : w' ++ MS.brs f v0 [] = w' := by simp [MS.brs]
        rw [e0]
        clean_wf
      · rintro dn p r e hx rfl
        have hpm : p < m := mem_downL.mp (by rw [hx]; simp)
        have hdn : dn.length ≤ m := by have := congrArg List.length hx; rw [downL_len] at this; simp at this; omega
        have hbl : (MS.brs f v0 dn).length ≤ dn.length := by unfold MS.brs; rw [List.length_map]; exact List.length_filter_le _ _
        have hwl : w'.length ≤ 1000000 := by
          have h1 := MS.len_wm n m w'
          have h2 := MS.wm_app n m w' [f0]
          omega
        clean_wf
        refine ⟨_, ix_rg hv0n, ?_⟩
        clean_wf
        rw [bit_n, brs_app]
        refine ite_i (fun e => ?_) (fun e => ?_)
        · rw [if_pos e]
          clean_wf
          refine ws_appV (ds := (w' ++ MS.brs f v0 dn).map (opD n)) (k := 0) rfl ?_
          clean_wf
          have c1 : cutD ((List.range n).map fun v => iD (f v)) none (some (v0 : Int)) = ((List.range n).map fun v => iD (f v)).take v0 := cut_to (by simp; omega)
          have c2 : cutD ((List.range n).map fun v => iD (f v)) (some ((v0 : Int) + 1)) none = ((List.range n).map fun v => iD (f v)).drop (v0 + 1) := cut_from (k := v0 + 1) (by simp; omega)
          refine ⟨⟨rfl, by simp only [c1, List.length_take, List.length_map, List.length_range, List.length_cons, List.length_nil]; omega⟩, ?_⟩
          clean_wf
          refine ⟨⟨rfl, by simp only [c1, c2, List.length_append, List.length_take, List.length_drop, List.length_map, List.length_range, List.length_cons, List.length_nil]; omega⟩, ?_⟩
          clean_wf
          refine ⟨⟨by simp only [List.length_map, List.length_append]; omega, rfl⟩, ?_⟩
          clean_wf
          have em : (w' ++ (MS.brs f v0 dn ++ [MS.upd f v0 (2 ^ p)])).map (opD n) = (w' ++ MS.brs f v0 dn).map (opD n) ++ [.lst (cutD ((List.range n).map fun v => iD (f v)) none (some (v0 : Int)) ++ [iD (2 ^ p)] ++ cutD ((List.range n).map fun v => iD (f v)) (some ((v0 : Int) + 1)) none)] := by
            rw [c1, c2, opD_cut f hv0n, ← List.append_assoc, List.map_append (f := opD n) (l₂ := [MS.upd f v0 (2 ^ p)])]
            rfl
          rw [em]
          clean_wf
        · have e : ¬ (f v0).testBit p = true := by simp [e]
          rw [if_neg e, List.append_nil]
          clean_wf
      · rintro e rfl
        clean_wf
        have h1 := MS.brs_wm hv0n ki.pos ki.sub two (downL m) (Nat.le_of_eq (downL_len m))
        have h2 := MS.wm_app n m w' (MS.brs f v0 (downL m))
        have h3 := MS.wm_app n m w' [f0]
        have h4 : MS.wm n m [f0] = (m + 1) ^ MS.ope n f0 := by simp [MS.wm]
        exact ⟨MS.wm n m (w' ++ MS.brs f v0 (downL m)), by omega, w' ++ MS.brs f v0 (downL m), fm.step ki hv0n (downL m) (fun p => mem_downL), rfl, by omega, rfl⟩
/-- any_map into a full web: a dyeing with m dyes -/
def Dye (n : Nat) (R : List (Nat × Nat)) (m : Nat) : Prop := ∃ φ : Nat → Nat, (∀ v, v < n → φ v < m) ∧ ∀ v, v < n → ∀ w, w < n → MN.adjB R v w = true → φ v ≠ φ w
end K88
set_option Elab.async false
set_option linter.all false
set_option autoImplicit false
set_option maxRecDepth 100000
set_option maxHeartbeats 4000000
/-! Ev43: data whose repr is short. -/
namespace Ev
open PySem PySem.Spec L2
mutual
/-- small leaves, no dicts -/
def D.lf : D → Bool
  | .non => true
  | .bl _ => true
  | .int i => decide (i.natAbs < 10 ^ 20)
  | .str s => s.cps.toList.all fun c => decide (c < 1114112)
  | .tup xs => lfs xs
  | .lst xs => lfs xs
  | .dK _ => false
  | .dT _ => false
  | .scr _ => false
def lfs : List D → Bool
  | [] => true
  | x :: xs => x.lf && lfs xs
end
mutual
def D.wt : D → Nat
  | .non => 0
  | .bl _ => 0
  | .int _ => 70
  | .str s => s.cps.size
  | .tup xs => wts xs
  | .lst xs => wts xs
  | .dK _ => 0
  | .dT _ => 0
  | .scr _ => 0
def wts : List D → Nat
  | [] => 0
  | x :: xs => x.wt + 1 + wts xs
end
mutual
theorem D.lf_short : ∀ d : D, d.lf = true → d.toPy.leavesShort 24 = true ∧ d.toPy.showable = true ∧ d.toPy.weight ≤ d.wt
  | .non, _ => ⟨by simp [D.toPy, PyData.leavesShort], by simp [D.toPy, PyData.showable], by simp [D.toPy, PyData.weight]⟩
  | .bl _, _ => ⟨by simp [D.toPy, PyData.leavesShort], by simp [D.toPy, PyData.showable], by simp [D.toPy, PyData.weight]⟩
  | .int i, h => by
    have h : i.natAbs < 10 ^ 20 := by simpa only [D.lf, decide_eq_true_eq] using h
    have h2 : i.natAbs < 2 ^ 67 := Nat.lt_of_lt_of_le h (by decide)
    have hl : i.natAbs.log2 < 67 := by
      by_cases h0 : i.natAbs = 0
      · rw [h0]; decide
      · exact (Nat.log2_lt h0).mpr h2
    refine ⟨?_, ?_, ?_⟩
    · have e := int_text_length_le10 (a := i) (k := 20) (by decide) h
      have e2 : (PyData.shown (.int i)).length ≤ 24 := by
        have e3 : (Str.ofString (toString i)).length ≤ 24 := by rw [ofString_length]; omega
        exact e3
      simp only [D.toPy, PyData.leavesShort]
      exact decide_eq_true e2
    · simp only [D.toPy, PyData.showable, decide_eq_true_eq]; omega
    · simp only [D.toPy, PyData.weight, D.wt]
      split <;> omega
  | .str s, h => by
    have h : ∀ c ∈ s.cps.toList, c < 1114112 := by simpa only [D.lf, List.all_eq_true, decide_eq_true_eq] using h
    refine ⟨?_, by simp [D.toPy, PyData.showable], by simp [D.toPy, PyData.weight, D.wt]⟩
    simp only [D.toPy, PyData.leavesShort, List.all_eq_true, decide_eq_true_eq]
    intro c hc
    exact Nat.lt_of_lt_of_le (h c hc) (by decide)
  | .tup xs, h => by
    have ⟨h1, h2, h3⟩ := lfs_short xs (by simpa only [D.lf] using h)
    exact ⟨by simpa only [D.toPy, PyData.leavesShort] using h1, by simpa only [D.toPy, PyData.showable] using h2, by simpa only [D.toPy, PyData.weight, D.wt] using h3⟩
  | .lst xs, h => by
    have ⟨h1, h2, h3⟩ := lfs_short xs (by simpa only [D.lf] using h)
    exact ⟨by simpa only [D.toPy, PyData.leavesShort] using h1, by simpa only [D.toPy, PyData.showable] using h2, by simpa only [D.toPy, PyData.weight, D.wt] using h3⟩
  | .dK _, h => by simp [D.lf] at h
  | .dT _, h => by simp [D.lf] at h
  | .scr _, h => by simp [D.lf] at h
theorem lfs_short : ∀ xs : List D, lfs xs = true → PyData.leavesShortAll 24 (toPys xs) = true ∧ PyData.showableAll (toPys xs) = true ∧ PyData.weightAll (toPys xs) ≤ wts xs
  | [], _ => ⟨by simp [toPys, PyData.leavesShortAll], by simp [toPys, PyData.showableAll], by simp [toPys, PyData.weightAll]⟩
  | x :: xs, h => by
    have h : x.lf = true ∧ lfs xs = true := by simpa only [lfs, Bool.and_eq_true] using h
    have ⟨a1, a2, a3⟩ := D.lf_short x h.1
    have ⟨b1, b2, b3⟩ := lfs_short xs h.2
    refine ⟨by simp only [toPys, PyData.leavesShortAll, a1, b1]; rfl, by simp only [toPys, PyData.showableAll, a2, b2]; rfl, ?_⟩
    simp only [toPys, PyData.weightAll, wts]
    omega
end
/-- the text of a datum -/
abbrev rpr (d : D) : D := .str d.toPy.shown
theorem repr_ok {d : D} (h1 : d.sh 64 = true) (h2 : d.lf = true) (h3 : d.wt ≤ 600000) : gRepr d = some (rpr d) := by
  have ⟨a, b, c⟩ := D.lf_short d h2
  have h := PyData.shown_le 24 (by decide) d.toPy a
  have hw : (24 + 2) * d.toPy.weight ≤ 26 * 600000 := Nat.mul_le_mul (by decide) (by omega)
  unfold gRepr
  rw [if_pos ⟨h1, b, by omega⟩]
theorem lfs_all : ∀ xs : List D, lfs xs = xs.all D.lf
  | [] => by simp [lfs]
  | x :: xs => by simp [lfs, lfs_all xs]
theorem wts_le {w : Nat} : ∀ {xs : List D}, (∀ x ∈ xs, x.wt ≤ w) → wts xs ≤ xs.length * (w + 1)
  | [], _ => by simp [wts]
  | x :: xs, h => by
    have h1 := h x (by simp)
    have h2 := wts_le (xs := xs) fun y hy => h y (by simp [hy])
    simp only [wts, List.length_cons, Nat.add_mul]
    omega
mutual
theorem D.sh_mono : ∀ {d : D} {n m : Nat}, n ≤ m → d.sh n = true → d.sh m = true
  | .non, _, _, _, _ => by simp [D.sh]
  | .bl _, _, _, _, _ => by simp [D.sh]
  | .int _, _, _, _, _ => by simp [D.sh]
  | .str s, _, _, _, h => by simpa [D.sh] using h
  | .tup xs, 0, _, _, h => by simp [D.sh] at h
  | .tup xs, n + 1, 0, hm, _ => by omega
  | .tup xs, n + 1, m + 1, hm, h => by
    simp only [D.sh] at h ⊢
    exact shs_mono (by omega) h
  | .lst xs, 0, _, _, h => by simp [D.sh] at h
  | .lst xs, n + 1, 0, hm, _ => by omega
  | .lst xs, n + 1, m + 1, hm, h => by
    simp only [D.sh] at h ⊢
    exact shs_mono (by omega) h
  | .dK _, _, _, _, h => by simp [D.sh] at h
  | .dT _, _, _, _, h => by simp [D.sh] at h
  | .scr _, _, _, _, h => by simp [D.sh] at h
theorem shs_mono : ∀ {xs : List D} {n m : Nat}, n ≤ m → shs xs n = true → shs xs m = true
  | [], _, _, _, _ => by simp [shs]
  | x :: xs, n, m, hm, h => by
    simp only [shs, Bool.and_eq_true] at h ⊢
    exact ⟨D.sh_mono hm h.1, shs_mono hm h.2⟩
end
end Ev
set_option Elab.async false
set_option linter.all false
set_option autoImplicit false
set_option maxRecDepth 100000
set_option maxHeartbeats 4000000
/-! Q88i: drawn values. -/
namespace K88
open PySem PySem.Spec L2 Ev
local macro_rules | `(tactic| clean_wf) => `(tactic| repeat' (with_reducible first
  | refine fn_i ?_ | refine ws_seq ?_ | refine ws_if ?_ | refine ws_ret ?_ | refine ws_skip ?_ | refine ws_setE ?_ | refine ws_asg ?_ | refine ws_parN ?_ | refine ws_par ?_
  | refine w_op ?_ | refine w_pkE ?_ | refine w_pkV ?_ | refine w_c ?_ | refine w_c1 ?_ | refine w_sub ?_ | refine w_fz ?_ | refine w_tv ?_
  | refine w_and ?_ | refine w_or ?_ | refine w_not ?_ | refine w_andV ?_ | refine w_notV ?_ | refine w_ite ?_ | refine w_isN ?_ | refine w_yes ?_
  | refine w_itm ?_ | refine w_aNil ?_ | refine w_aCons ?_ | refine w_tup ?_ | refine w_lst ?_ | refine w_conv ?_ | refine w_cat ?_ | refine w_rev ?_
  | refine w_oNone ?_ | refine w_oSome ?_ | refine w_sl ?_ | refine w_it ?_ | refine w_rgN ?_ | refine w_lstRg ?_ | refine w_en ?_ | refine w_zip ?_ | refine w_zip1 ?_
  | refine w_im ?_ | refine w_bits ?_ | refine w_rg2N ?_ | refine w_rgDnN ?_ | refine w_chain ?_ | refine w_dNew ?_ | refine w_gNil ?_ | refine w_gVa ?_ | refine w_gKw ?_
  | refine wg_allNil ?_ | refine wg_allCons ?_ | (show WG (gPutT _ (plVar _) _ _) _ _; refine wg_putT ?_)
  | refine w_pk (by with_unfolding_all exact rfl) ?_ | refine w_var0 (by with_unfolding_all exact rfl) (.inl (by with_unfolding_all exact rfl)) ?_ | refine w_varF' (by with_unfolding_all exact rfl) (by with_unfolding_all exact rfl) ?_ | refine w_mv (by with_unfolding_all exact rfl) (by with_unfolding_all exact rfl) ?_
  | refine wg_setE (by with_unfolding_all exact rfl) (by with_unfolding_all exact rfl) ?_ | refine wg_tupS (by with_unfolding_all exact rfl) ?_ | refine w_plVar ⟨_, by with_unfolding_all exact rfl⟩ ?_
  | refine ite_t (by with_unfolding_all exact rfl) ?_ | refine ite_f (by with_unfolding_all exact rfl) ?_
  | (show WG (gsCons _ _ _) _ _; with_unfolding_all refine wg_sCons ?_)
  | (show WG (gsNil _) _ _; with_unfolding_all refine wg_sNil ?_)
  | (show @Eq Rv _ _; rfl)
  | (show WG (clr _) _ _; with_unfolding_all refine ⟨_, rfl, ?_⟩)
  | (show @Eq En _ _; with_unfolding_all rfl)
  | (show And (_ ≤ _) _; refine ⟨by omega, ?_⟩)
  | (show And (_ < _) _; refine ⟨by omega, ?_⟩)
  | (show And _ _; with_unfolding_all first | refine ⟨⟨rfl, rfl⟩, ?_⟩ | refine ⟨rfl, ?_⟩ | refine ⟨Nat.le_of_ble_eq_true rfl, ?_⟩ | refine ⟨⟨Nat.le_of_ble_eq_true rfl, rfl⟩, ?_⟩)
  | (show Or _ _; with_unfolding_all first | refine .inl ⟨_, rfl, ?_⟩ | refine .inr ⟨_, rfl, ?_⟩)
  | (show ∃ _, gMax2 _ _ = _ ∧ _; refine ⟨_, max2_n _ _, rfl, ?_⟩)
  | (show ∃ _, gAnd _ _ = _ ∧ _; refine ⟨_, and_n _ _, rfl, ?_⟩)
  | (show ∃ _, gOr _ _ = _ ∧ _; refine ⟨_, or_n _ _, rfl, ?_⟩)
  | (show ∃ _, gShr _ _ = _ ∧ _; refine ⟨_, shr_n _ _, rfl, ?_⟩)
  | (show ∃ _, gShl _ _ = _ ∧ _; refine ⟨_, shl_n (by omega), rfl, ?_⟩)
  | (show ∃ _, gI _ _ _ = _ ∧ _; with_unfolding_all first
    | refine ⟨_, gMul_l rfl, rfl, ?_⟩ | refine ⟨_, gMul_r rfl, rfl, ?_⟩ | refine ⟨_, gMul_mod rfl, rfl, ?_⟩ | refine ⟨_, gMod_k rfl, rfl, ?_⟩ | refine ⟨_, gDiv_k rfl, rfl, ?_⟩ | refine ⟨_, rfl, rfl, ?_⟩)
  | (show ∃ _, gEqX _ _ = _ ∧ _; with_unfolding_all first | refine ⟨_, eqX_i .., rfl, ?_⟩ | refine ⟨_, eqX_s .., rfl, ?_⟩)
  | (show ∃ _, gNeX _ _ = _ ∧ _; with_unfolding_all first | refine ⟨_, neX_i .., rfl, ?_⟩ | refine ⟨_, neX_s .., rfl, ?_⟩)
  | (show ∃ _, gB _ _ _ = _ ∧ _; with_unfolding_all first | refine ⟨_, rfl, rfl, ?_⟩ | refine ⟨_, rfl, ?_⟩)
  | (show ∃ _, gIx _ _ = _ ∧ _; with_unfolding_all refine ⟨_, rfl, ?_⟩)
  | (show ∃ _, gIsi _ _ = _ ∧ _; with_unfolding_all refine ⟨_, rfl, rfl, ?_⟩)
  | (show ∃ _, gLen1 _ = _ ∧ _; with_unfolding_all refine ⟨_, rfl, rfl, ?_⟩)
  | (show ∃ _, gInt _ = _ ∧ _; with_unfolding_all refine ⟨_, rfl, rfl, ?_⟩)
  | (show ∃ _, _ = D.bl _ ∧ _; with_unfolding_all refine ⟨_, rfl, ?_⟩)
  | (show ∃ _, _ = D.int _ ∧ _; with_unfolding_all refine ⟨_, rfl, ?_⟩)))
variable {N : En → Prop} {R : Rv → En → Prop} {B C : En → Prop}
theorem w_drawN {i : Nat} {g : List Int} {m t : Int} {v : Nat} {mm : Nat} {e : En} {s : SP} {Q : Rv → En → Prop} (hg : g.length ≤ 63) (hm : mm ≠ 2) (hv : v ≤ 1000000) (hi : ∃ s, e[i]? = some (some s))
    (h : W s (fun d e1 => d = iD v ∧ e1[i]? = some (some ⟨dk g m t, 2, mm⟩) ∧ ∀ g' t' (x : Nat), g'.length ≤ 63 → (x < v ∨ (v = 0 ∧ x = 0)) → Q (iD x, 0) (e1.set i (some ⟨dk g' m t', 2, mm⟩))) e) : W (sCall 2 2 sem__law_draw (agBo i (agVa s agNil))) Q e := by
  refine w_drawC (g := g) (m := m) (t := t) (v := (v : Int)) (mm := mm) hg hm (h.mono fun d e1 ⟨hd, he, q⟩ => ⟨hd, he, by omega, fun g' t' x h1 h2 h3 => ?_⟩) hi
  have hx : 0 ≤ x ∧ (x < v ∨ (v = 0 ∧ x = 0)) := by
    by_cases h : (2 : Int) ≤ v
    · have := h2 h; omega
    · have := h3 (by omega); omega
  obtain ⟨k, rfl⟩ : ∃ k : Nat, x = k := ⟨x.toNat, by omega⟩
  exact q g' t' k h1 (by omega)
theorem ix_at (ds : List D) {k : Nat} (h : k < ds.length) : gIx (.lst ds) (iD k) = some ds[k] := by
  show atI ds (k : Int) = _
  unfold atI ixN
  simp [h]
theorem ix_atT (ds : List D) {k : Nat} (h : k < ds.length) : gIx (.tup ds) (iD k) = some ds[k] := by
  show atI ds (k : Int) = _
  unfold atI ixN
  simp [h]
theorem w_pick2 (g : List Int) (hg : g.length ≤ 63) (m t : Int) (ds : List D) (b : Bool) (hl : ds ≠ []) (hb : ds.length ≤ 1000)
    (q : ∀ g' t' d rest, g'.length ≤ 63 → d ∈ ds → R (d, 0) (some ⟨dk g' m t', 2, 1⟩ :: rest)) :
    WS sem__law_pick N R B C [some ⟨dk g m t, 2, 1⟩, some ⟨if b = true then .tup ds else .lst ds, 0, 0⟩] := by
  have pos : 0 < ds.length := List.length_pos_iff.mpr hl
  unfold sem__law_pick
  clean_wf
  refine w_drawN (g := g) (m := m) (t := t) (v := ds.length) (mm := 1) hg (by decide) (by omega) ⟨_, rfl⟩ ?_
  clean_wf
  refine ⟨iD ds.length, by cases b <;> rfl, rfl, rfl, rfl, fun g' t' x h1 h2 => ?_⟩
  have hx : x < ds.length := by omega
  refine ⟨ds[x], by cases b; exact ix_at ds hx; exact ix_atT ds hx, ?_⟩
  exact q g' t' _ _ h1 (List.getElem_mem hx)
/-- a pick from the deck in slot i, of a list or a tuple -/
theorem w_pickC {i : Nat} {g : List Int} {m t : Int} {mm : Nat} {e : En} {s : SP} {Q : Rv → En → Prop} (hg : g.length ≤ 63) (hm : mm ≠ 2) (hi : ∃ s, e[i]? = some (some s))
    (h : W s (fun d e1 => ∃ (ds : List D) (b : Bool), d = (if b = true then .tup ds else .lst ds) ∧ (ds ≠ [] ∧ ds.length ≤ 1000) ∧ e1[i]? = some (some ⟨dk g m t, 2, mm⟩) ∧ ∀ g' t' d, g'.length ≤ 63 → d ∈ ds → Q (d, 0) (e1.set i (some ⟨dk g' m t', 2, mm⟩))) e) : W (sCall 0 2 sem__law_pick (agBo i (agVa s agNil))) Q e := by
  refine w_call (w_gBo hi (w_gVa (h.mono fun d e1 ⟨ds, b, hd, ⟨hn, hl⟩, he, q⟩ => w_gNil ⟨[some ⟨dk g m t, 2, 1⟩, some ⟨if b = true then .tup ds else .lst ds, 0, 0⟩], ?_, ⟨rfl, by simp [agI]⟩, ?_⟩)))
  · subst hd
    simp [agSl, he, hm]
  · refine w_pick2 g hg m t ds b hn hl fun g' t' d' rest h1 h2 => ?_
    have : backE [.bo i, .va d] (some ⟨dk g' m t', 2, 1⟩ :: rest) e1 = e1.set i (some ⟨dk g' m t', 2, mm⟩) := by
      cases rest <;> simp [backE, he]
    rw [this]
    exact q g' t' d' h1 h2
/-- a value that may be shown -/
structure Vok (w k : Nat) (d : D) : Prop where
  pl : isPl d = true
  it : itPl d = true
  sh : d.sh k = true
  lf : d.lf = true
  wt : d.wt ≤ w
def wA : Nat → Nat
  | 0 => 100
  | k + 1 => 3 * (wA k + 1) + 100
theorem wA_ge (k : Nat) : 100 ≤ wA k := by cases k <;> simp [wA]
theorem vok_non {w k : Nat} : Vok w k .non := ⟨rfl, rfl, by simp [D.sh], by simp [D.lf], by simp [D.wt]⟩
theorem vok_bl {w k : Nat} (b : Bool) : Vok w k (.bl b) := ⟨rfl, rfl, by simp [D.sh], by simp [D.lf], by simp [D.wt]⟩
theorem vok_int {w k : Nat} (hw : 100 ≤ w) (i : Int) (h : i.natAbs < 10 ^ 20) : Vok w k (.int i) := ⟨rfl, rfl, by simp [D.sh], by simp only [D.lf]; exact decide_eq_true h, by simp only [D.wt]; omega⟩
theorem vok_str {w k : Nat} (s : Str) (h1 : PyData.strOk s = true) (h2 : (s.cps.toList.all fun c => decide (c < 1114112)) = true) (h3 : s.cps.size ≤ w) : Vok w k (.str s) := ⟨rfl, rfl, by simpa [D.sh] using h1, by simpa [D.lf] using h2, by simpa [D.wt] using h3⟩
def AnyAt (deep fuel : Nat) : Prop := ∀ (N : En → Prop) (R : Rv → En → Prop) (B C : En → Prop) (g : List Int) (m t : Int), g.length ≤ 63 → (∀ g' t' d rest, g'.length ≤ 63 → Vok (wA deep) (deep + 1) d → R (d, 0) (some ⟨dk g' m t', 2, 1⟩ :: rest)) → WS (sem__law_any fuel) N R B C [some ⟨dk g m t, 2, 1⟩, some ⟨iD deep, 0, 0⟩, none, none, none]
theorem w_anyC {deep fuel : Nat} (H : AnyAt deep fuel) {i : Nat} {g : List Int} {m t : Int} {mm : Nat} {e : En} {s : SP} {Q : Rv → En → Prop} (hg : g.length ≤ 63) (hm : mm ≠ 2) (hi : ∃ s, e[i]? = some (some s))
    (h : W s (fun d e1 => d = iD deep ∧ e1[i]? = some (some ⟨dk g m t, 2, mm⟩) ∧ ∀ g' t' d, g'.length ≤ 63 → Vok (wA deep) (deep + 1) d → Q (d, 0) (e1.set i (some ⟨dk g' m t', 2, mm⟩))) e) : W (sCall 3 2 (sem__law_any fuel) (agBo i (agVa s agNil))) Q e := by
  refine w_call (w_gBo hi (w_gVa (h.mono fun d e1 ⟨hd, he, q⟩ => w_gNil ⟨[some ⟨dk g m t, 2, 1⟩, some ⟨iD deep, 0, 0⟩], ?_, ⟨rfl, by simp [agI]⟩, ?_⟩)))
  · subst hd
    simp [agSl, he, hm]
  · refine H _ _ _ _ g m t hg fun g' t' d' rest h1 h2 => ?_
    have : backE [.bo i, .va d] (some ⟨dk g' m t', 2, 1⟩ :: rest) e1 = e1.set i (some ⟨dk g' m t', 2, mm⟩) := by
      cases rest <;> simp [backE, he]
    rw [this]
    exact q g' t' d' h1 h2
theorem vok_items {w k : Nat} {ds : List D} (h : ∀ d ∈ ds, Vok w k d) (hl : ds.length ≤ 3) (b : Bool) : Vok (3 * (w + 1) + 100) (k + 1) (if b = true then .tup ds else .lst ds) := by
  have h1 : shs ds k = true := shs_mem _ _ fun d hd => (h d hd).sh
  have h2 : lfs ds = true := by rw [lfs_all, List.all_eq_true]; exact fun d hd => (h d hd).lf
  have h3 := wts_le (w := w) fun d hd => (h d hd).wt
  have h4 : ds.length * (w + 1) ≤ 3 * (w + 1) := Nat.mul_le_mul_right _ hl
  have h5 : ds.all isPl = true := List.all_eq_true.mpr fun d hd => (h d hd).pl
  cases b
  · exact ⟨rfl, rfl, by simpa [D.sh] using h1, by simpa [D.lf] using h2, by simp only [Bool.false_eq_true, if_false, D.wt]; omega⟩
  · exact ⟨rfl, h5, by simpa [D.sh] using h1, by simpa [D.lf] using h2, by simp only [if_true, D.wt]; omega⟩
theorem w_any : ∀ (deep fuel : Nat), deep < fuel → deep ≤ 3 → AnyAt deep fuel := by
  intro deep
  induction deep with
  | zero =>
    intro fuel hf _ N R B C g m t hg q
    obtain ⟨fuel, rfl⟩ : ∃ f, fuel = f + 1 := ⟨fuel - 1, by omega⟩
    unfold sem__law_any
    clean_wf
    refine w_drawN (g := g) (m := m) (t := t) (v := 6) (mm := 1) hg (by decide) (by omega) ⟨_, rfl⟩ ?_
    clean_wf
    intro g1 t1 x h1 hx
    clean_wf
    refine ite_t (by simp; omega) ?_
    clean_wf
    refine w_pickC (g := g1) (m := m) (t := t1) (mm := 1) h1 (by decide) ⟨_, rfl⟩ ?_
    clean_wf
    refine ⟨[.int 0, .int 1, .int 2, .int 3, .int (-1), .int (10 ^ 18)], false, rfl, ⟨by simp, by simp⟩, rfl, fun g2 t2 d h2 hd => ?_⟩
    clean_wf
    have hvd : Vok (wA 0) (0 + 1) d := by
      have := wA_ge 0
      simp only [List.mem_cons, List.not_mem_nil, or_false] at hd
      rcases hd with rfl | rfl | rfl | rfl | rfl | rfl <;> exact vok_int this _ (by decide)
    have hall : ∀ y ∈ [D.non, .bl true, d, .str "", .str "on", .str "in"], Vok (wA 0) (0 + 1) y := by
      have := wA_ge 0
      intro y hy
      simp only [List.mem_cons, List.not_mem_nil, or_false] at hy
      rcases hy with rfl | rfl | rfl | rfl | rfl | rfl
      · exact vok_non
      · exact vok_bl _
      · exact hvd
      · exact vok_str "" (by decide +kernel) (by decide +kernel) (Nat.le_trans (by decide +kernel) this)
      · exact vok_str "on" (by decide +kernel) (by decide +kernel) (Nat.le_trans (by decide +kernel) this)
      · exact vok_str "in" (by decide +kernel) (by decide +kernel) (Nat.le_trans (by decide +kernel) this)
    have hx6 : x < 6 := by omega
    refine ⟨_, ix_at [D.non, .bl true, d, .str "", .str "on", .str "in"] (k := x) (by simpa using hx6), ?_⟩
    exact q g2 t2 _ _ h2 (hall _ (List.getElem_mem _))
  | succ deep ih =>
    intro fuel hf hd3 N R B C g m t hg q
    obtain ⟨fuel, rfl⟩ : ∃ f, fuel = f + 1 := ⟨fuel - 1, by omega⟩
    have H := ih fuel (by omega) (by omega)
    unfold sem__law_any
    clean_wf
    refine w_drawN (g := g) (m := m) (t := t) (v := 9) (mm := 1) hg (by decide) (by omega) ⟨_, rfl⟩ ?_
    clean_wf
    refine ite_t (decide_eq_true (by simp)) ?_
    clean_wf
    intro g1 t1 x h1 hx
    clean_wf
    refine ite_i (fun h6 => ?_) (fun h6 => ?_)
    have hx : x < 6 := by simp at h6; omega
    clean_wf
    refine w_pickC (g := g1) (m := m) (t := t1) (mm := 1) h1 (by decide) ⟨_, rfl⟩ ?_
    clean_wf
    refine ⟨[.int 0, .int 1, .int 2, .int 3, .int (-1), .int (10 ^ 18)], false, rfl, ⟨by simp, by simp⟩, rfl, fun g2 t2 d h2 hd => ?_⟩
    clean_wf
    have hvd : Vok (wA (deep + 1)) ((deep + 1) + 1) d := by
      have := wA_ge (deep + 1)
      simp only [List.mem_cons, List.not_mem_nil, or_false] at hd
      rcases hd with rfl | rfl | rfl | rfl | rfl | rfl <;> exact vok_int this _ (by decide)
    have hall : ∀ y ∈ [D.non, .bl true, d, .str "", .str "on", .str "in"], Vok (wA (deep + 1)) ((deep + 1) + 1) y := by
      have := wA_ge (deep + 1)
      intro y hy
      simp only [List.mem_cons, List.not_mem_nil, or_false] at hy
      rcases hy with rfl | rfl | rfl | rfl | rfl | rfl
      · exact vok_non
      · exact vok_bl _
      · exact hvd
      · exact vok_str "" (by decide +kernel) (by decide +kernel) (Nat.le_trans (by decide +kernel) this)
      · exact vok_str "on" (by decide +kernel) (by decide +kernel) (Nat.le_trans (by decide +kernel) this)
      · exact vok_str "in" (by decide +kernel) (by decide +kernel) (Nat.le_trans (by decide +kernel) this)
    have hx6 : x < 6 := by omega
    refine ⟨_, ix_at [D.non, .bl true, d, .str "", .str "on", .str "in"] (k := x) (by simpa using hx6), ?_⟩
    exact q g2 t2 _ _ h2 (hall _ (List.getElem_mem _))
    clean_wf
    refine w_comp ?_
    clean_wf
    refine w_drawN (g := g1) (m := m) (t := t1) (v := 4) (mm := 1) h1 (by decide) (by omega) ⟨_, rfl⟩ ?_
    clean_wf
    intro g2 t2 y h2 hy
    clean_wf
    refine ⟨fun ds acc e => ∃ (g : List Int) (t : Int), g.length ≤ 63 ∧ ds.length + acc.length ≤ 3 ∧ (∀ a ∈ acc, Vok (wA deep) (deep + 1) a) ∧ e = [some ⟨dk g m t, 2, 1⟩, some ⟨iD (deep + 1), 0, 0⟩, some ⟨iD x, 0, 0⟩, none, none], ⟨g2, t2, h2, by simp; omega, by simp, rfl⟩, ?_, ?_⟩
    · rintro d ds acc e ⟨g, t, hg, hl, ha, rfl⟩
      clean_wf
      refine w_anyC H (g := g) (m := m) (t := t) (mm := 1) hg (by decide) ⟨_, rfl⟩ ?_
      clean_wf
      refine ⟨by show D.int _ = D.int _; congr 1; omega, rfl, fun g' t' d' h1 h2 => ?_⟩
      clean_wf
      refine ⟨g', t', h1, by simp at hl ⊢; omega, fun a hm => ?_, rfl⟩
      rcases List.mem_append.mp hm with hm | hm
      · exact ha a hm
      · have : a = d' := by simpa using hm
        subst this; exact h2
    · rintro acc e ⟨g, t, hg, hl, ha, rfl⟩
      have hl : acc.length ≤ 3 := by simpa using hl
      clean_wf
      refine ite_i (fun h8 => ?_) (fun h8 => ?_)
      · clean_wf
        exact q g t _ _ hg (vok_items ha hl true)
      · clean_wf
        exact q g t _ _ hg (vok_items ha hl false)
end K88
set_option Elab.async false
set_option linter.all false
set_option autoImplicit false
set_option maxRecDepth 100000
set_option maxHeartbeats 4000000
/-! Q88j: a tuple with one thing otherwise. -/
namespace K88
open PySem PySem.Spec L2 Ev
local macro_rules | `(tactic| clean_wf) => `(tactic| repeat' (with_reducible first
  | refine fn_i ?_ | refine ws_seq ?_ | refine ws_if ?_ | refine ws_ret ?_ | refine ws_skip ?_ | refine ws_setE ?_ | refine ws_asg ?_ | refine ws_parN ?_ | refine ws_par ?_
  | refine w_op ?_ | refine w_pkE ?_ | refine w_pkV ?_ | refine w_c ?_ | refine w_c1 ?_ | refine w_sub ?_ | refine w_fz ?_ | refine w_tv ?_
  | refine w_and ?_ | refine w_or ?_ | refine w_not ?_ | refine w_andV ?_ | refine w_notV ?_ | refine w_ite ?_ | refine w_isN ?_ | refine w_yes ?_
  | refine w_itm ?_ | refine w_aNil ?_ | refine w_aCons ?_ | refine w_tup ?_ | refine w_lst ?_ | refine w_conv ?_ | refine w_cat ?_ | refine w_rev ?_
  | refine w_oNone ?_ | refine w_oSome ?_ | refine w_sl ?_ | refine w_it ?_ | refine w_rgN ?_ | refine w_lstRg ?_ | refine w_en ?_ | refine w_zip ?_ | refine w_zip1 ?_
  | refine w_im ?_ | refine w_bits ?_ | refine w_rg2N ?_ | refine w_rgDnN ?_ | refine w_chain ?_ | refine w_dNew ?_ | refine w_gNil ?_ | refine w_gVa ?_ | refine w_gKw ?_
  | refine wg_allNil ?_ | refine wg_allCons ?_ | (show WG (gPutT _ (plVar _) _ _) _ _; refine wg_putT ?_)
  | refine w_pk (by with_unfolding_all exact rfl) ?_ | refine w_var0 (by with_unfolding_all exact rfl) (.inl (by with_unfolding_all exact rfl)) ?_ | refine w_varF' (by with_unfolding_all exact rfl) (by with_unfolding_all exact rfl) ?_ | refine w_mv (by with_unfolding_all exact rfl) (by with_unfolding_all exact rfl) ?_
  | refine wg_setE (by with_unfolding_all exact rfl) (by with_unfolding_all exact rfl) ?_ | refine wg_tupS (by with_unfolding_all exact rfl) ?_ | refine w_plVar ⟨_, by with_unfolding_all exact rfl⟩ ?_
  | refine ite_t (by with_unfolding_all exact rfl) ?_ | refine ite_f (by with_unfolding_all exact rfl) ?_
  | (show WG (gsCons _ _ _) _ _; with_unfolding_all refine wg_sCons ?_)
  | (show WG (gsNil _) _ _; with_unfolding_all refine wg_sNil ?_)
  | (show @Eq Rv _ _; rfl)
  | (show WG (clr _) _ _; with_unfolding_all refine ⟨_, rfl, ?_⟩)
  | (show @Eq En _ _; with_unfolding_all rfl)
  | (show And (_ ≤ _) _; refine ⟨by omega, ?_⟩)
  | (show And (_ < _) _; refine ⟨by omega, ?_⟩)
  | (show And _ _; with_unfolding_all first | refine ⟨⟨rfl, rfl⟩, ?_⟩ | refine ⟨rfl, ?_⟩ | refine ⟨Nat.le_of_ble_eq_true rfl, ?_⟩ | refine ⟨⟨Nat.le_of_ble_eq_true rfl, rfl⟩, ?_⟩)
  | (show Or _ _; with_unfolding_all first | refine .inl ⟨_, rfl, ?_⟩ | refine .inr ⟨_, rfl, ?_⟩)
  | (show ∃ _, gMax2 _ _ = _ ∧ _; refine ⟨_, max2_n _ _, rfl, ?_⟩)
  | (show ∃ _, gAnd _ _ = _ ∧ _; refine ⟨_, and_n _ _, rfl, ?_⟩)
  | (show ∃ _, gOr _ _ = _ ∧ _; refine ⟨_, or_n _ _, rfl, ?_⟩)
  | (show ∃ _, gShr _ _ = _ ∧ _; refine ⟨_, shr_n _ _, rfl, ?_⟩)
  | (show ∃ _, gShl _ _ = _ ∧ _; refine ⟨_, shl_n (by omega), rfl, ?_⟩)
  | (show ∃ _, gI _ _ _ = _ ∧ _; with_unfolding_all first
    | refine ⟨_, gMul_l rfl, rfl, ?_⟩ | refine ⟨_, gMul_r rfl, rfl, ?_⟩ | refine ⟨_, gMul_mod rfl, rfl, ?_⟩ | refine ⟨_, gMod_k rfl, rfl, ?_⟩ | refine ⟨_, gDiv_k rfl, rfl, ?_⟩ | refine ⟨_, rfl, rfl, ?_⟩)
  | (show ∃ _, gEqX _ _ = _ ∧ _; with_unfolding_all first | refine ⟨_, eqX_i .., rfl, ?_⟩ | refine ⟨_, eqX_s .., rfl, ?_⟩)
  | (show ∃ _, gNeX _ _ = _ ∧ _; with_unfolding_all first | refine ⟨_, neX_i .., rfl, ?_⟩ | refine ⟨_, neX_s .., rfl, ?_⟩)
  | (show ∃ _, gB _ _ _ = _ ∧ _; with_unfolding_all first | refine ⟨_, rfl, rfl, ?_⟩ | refine ⟨_, rfl, ?_⟩)
  | (show ∃ _, gIx _ _ = _ ∧ _; with_unfolding_all refine ⟨_, rfl, ?_⟩)
  | (show ∃ _, gIsi _ _ = _ ∧ _; with_unfolding_all refine ⟨_, rfl, rfl, ?_⟩)
  | (show ∃ _, gLen1 _ = _ ∧ _; with_unfolding_all refine ⟨_, rfl, rfl, ?_⟩)
  | (show ∃ _, gInt _ = _ ∧ _; with_unfolding_all refine ⟨_, rfl, rfl, ?_⟩)
  | (show ∃ _, _ = D.bl _ ∧ _; with_unfolding_all refine ⟨_, rfl, ?_⟩)
  | (show ∃ _, _ = D.int _ ∧ _; with_unfolding_all refine ⟨_, rfl, ?_⟩)))
variable {N : En → Prop} {R : Rv → En → Prop} {B C : En → Prop}
structure VI (d : D) : Prop where
  pl : isPl d = true
  sh : d.sh 1 = true
  lf : d.lf = true
  wt : d.wt ≤ 70
theorem vi_int (i : Int) (h : i.natAbs < 10 ^ 20) : VI (.int i) := ⟨rfl, by simp [D.sh], by simp only [D.lf]; exact decide_eq_true h, by simp [D.wt]⟩
theorem vok_seq {ds : List D} (h : ∀ d ∈ ds, VI d) (hl : ds.length ≤ 2000) (b : Bool) : Vok 200000 2 (if b = true then .tup ds else .lst ds) := by
  have h1 : shs ds 1 = true := shs_mem _ _ fun d hd => (h d hd).sh
  have h2 : lfs ds = true := by rw [lfs_all, List.all_eq_true]; exact fun d hd => (h d hd).lf
  have h3 := wts_le (w := 70) fun d hd => (h d hd).wt
  have h4 : ds.length * (70 + 1) ≤ 2000 * 71 := Nat.mul_le_mul_right _ hl
  have h5 : ds.all isPl = true := List.all_eq_true.mpr fun d hd => (h d hd).pl
  cases b
  · exact ⟨rfl, rfl, by simpa [D.sh] using h1, by simpa [D.lf] using h2, by simp only [Bool.false_eq_true, if_false, D.wt]; omega⟩
  · exact ⟨rfl, h5, by simpa [D.sh] using h1, by simpa [D.lf] using h2, by simp only [if_true, D.wt]; omega⟩
theorem vi_row {ws : List Nat} (hw : ∀ w ∈ ws, w ≤ 1) : ∀ d ∈ ws.map iD, VI d := fun d hd => by
  obtain ⟨w, h, rfl⟩ := List.mem_map.mp hd
  have := hw w h
  exact vi_int _ (by omega)
theorem mem_cut {xs : List D} {l u : Option Int} {d : D} (h : d ∈ cutD xs l u) : d ∈ xs := List.mem_of_mem_drop (List.mem_of_mem_take h)
theorem cut_len (xs : List D) (l u : Option Int) : (cutD xs l u).length ≤ xs.length := by
  unfold cutD
  rw [List.length_take, List.length_drop]; omega
theorem w_bent (ws : List Nat) (hw : ∀ w ∈ ws, w ≤ 1) (hl : ws.length < 1000) (g : List Int) (m t : Int) (hg : g.length ≤ 63)
    (q : ∀ g' t' d rest, g'.length ≤ 63 → Vok 200000 2 d → R (d, 0) (some ⟨dk g' m t', 2, 1⟩ :: rest)) : WS sem__law_bent_tuple N R B C [some ⟨dk g m t, 2, 1⟩, some ⟨.tup (ws.map iD), 0, 0⟩, some ⟨.int 2, 0, 0⟩, none, none, none] := by
  unfold sem__law_bent_tuple
  have vr := vi_row hw
  clean_wf
  refine ⟨_, eqX_nilT (shs_nats ws 63), rfl, ?_⟩
  clean_wf
  cases hws : ws with
  | nil =>
    clean_wf
    refine w_pickC (g := g) (m := m) (t := t) (mm := 1) hg (by decide) ⟨_, rfl⟩ ?_
    clean_wf
    refine ⟨[.tup [.int 0], .lst [], .non, .tup [.bl true]], false, rfl, ⟨by simp, by simp⟩, rfl, fun g2 t2 d h2 hd => ?_⟩
    clean_wf
    refine q g2 t2 d _ h2 ?_
    simp only [List.mem_cons, List.not_mem_nil, or_false] at hd
    rcases hd with rfl | rfl | rfl | rfl
    · exact vok_seq (ds := [.int 0]) (by simp; exact vi_int 0 (by decide)) (by simp) true
    · exact vok_seq (ds := []) (by simp) (by simp) false
    · exact vok_non
    · exact vok_seq (ds := [.bl true]) (by simp; exact ⟨rfl, by simp [D.sh], by simp [D.lf], by simp [D.wt]⟩) (by simp) true
  | cons w0 wr =>
    have pos : 0 < ws.length := by rw [hws]; simp
    have h0 : ws[0]? = some w0 := by rw [hws]; rfl
    rw [← hws]
    refine ite_f (by rw [hws]; rfl) ?_
    clean_wf
    refine w_drawN (g := g) (m := m) (t := t) (v := ws.length) (mm := 1) hg (by decide) (by omega) ⟨_, rfl⟩ ?_
    clean_wf
    refine ⟨by simp, rfl, fun g1 t1 p h1 hp => ?_⟩
    have hp : p < ws.length := by omega
    obtain ⟨wp, hwp⟩ : ∃ x, ws[p]? = some x := ⟨ws[p], by simp [hp]⟩
    have hwp1 := hw wp (List.mem_of_getElem? hwp)
    have hw01 := hw w0 (List.mem_of_getElem? h0)
    have vlen : (ws.map iD).length = ws.length := List.length_map ..
    clean_wf
    refine w_drawN (g := g1) (m := m) (t := t1) (v := 5) (mm := 1) h1 (by decide) (by omega) ⟨_, rfl⟩ ?_
    clean_wf
    intro g2 t2 way h2 hway
    clean_wf
    refine ⟨_, _, rfl, ?_⟩
    clean_wf
    refine ite_i (fun h3 => ?_) (fun h3 => ?_)
    · clean_wf
      refine w_pickC (g := g2) (m := m) (t := t2) (mm := 1) h2 (by decide) ⟨_, rfl⟩ ?_
      clean_wf
      refine ⟨_, ix_tup hwp, ?_⟩
      clean_wf
      refine ⟨_, ix_tup hwp, ?_⟩
      clean_wf
      refine ⟨_, ix_tup (i := 0) h0, ?_⟩
      clean_wf
      refine ⟨[.int ((wp : Int) + 1), .int ((wp : Int) - 1), .int 0, .int 1, .int 2, .int (-1), .bl true, .non, .str "0", iD w0], false, rfl, ⟨by simp, by simp⟩, rfl, fun g3 t3 d h3 hd => ?_⟩
      have vd : VI d := by
        simp only [List.mem_cons, List.not_mem_nil, or_false] at hd
        rcases hd with rfl | rfl | rfl | rfl | rfl | rfl | rfl | rfl | rfl | rfl
        · exact vi_int _ (by omega)
        · exact vi_int _ (by omega)
        · exact vi_int _ (by decide)
        · exact vi_int _ (by decide)
        · exact vi_int _ (by decide)
        · exact vi_int _ (by decide)
        · exact ⟨rfl, by simp [D.sh], by simp [D.lf], by simp [D.wt]⟩
        · exact ⟨rfl, by simp [D.sh], by simp [D.lf], by simp [D.wt]⟩
        · exact ⟨rfl, by simp only [D.sh]; decide +kernel, by simp only [D.lf]; decide +kernel, by simp only [D.wt]; decide +kernel⟩
        · exact vi_int _ (by omega)
      clean_wf
      have cl := fun l u => cut_len (ws.map iD) l u
      rw [vlen] at cl
      have c1 := cl none (some (p : Int))
      have c2 := cl (some ((p : Int) + 1)) none
      refine ⟨⟨rfl, show (cutD (ws.map iD) none (some (p : Int))).length + 1 ≤ 16777216 by omega⟩, ?_⟩
      clean_wf
      have le : ((cutD (ws.map iD) none (some (p : Int)) ++ [d]) ++ cutD (ws.map iD) (some ((p : Int) + 1)) none).length ≤ 2000 := by
        rw [List.length_append, List.length_append, List.length_cons, List.length_nil]; omega
      refine ⟨⟨rfl, show (cutD (ws.map iD) none (some (p : Int)) ++ [d]).length + (cutD (ws.map iD) (some ((p : Int) + 1)) none).length ≤ 16777216 by rw [List.length_append] at le; omega⟩, ?_⟩
      refine q g3 t3 _ _ h3 (vok_seq (ds := (cutD (ws.map iD) none (some (p : Int)) ++ [d]) ++ cutD (ws.map iD) (some ((p : Int) + 1)) none) ?_ le true)
      intro x hx
      rcases List.mem_append.mp hx with hx | hx
      · rcases List.mem_append.mp hx with hx | hx
        · exact vr x (mem_cut hx)
        · have : x = d := by simpa using hx
          subst this; exact vd
      · exact vr x (mem_cut hx)
    · clean_wf
      refine w_pickC (g := g2) (m := m) (t := t2) (mm := 1) h2 (by decide) ⟨_, rfl⟩ ?_
      clean_wf
      have cl := fun l u => cut_len (ws.map iD) l u
      rw [vlen] at cl
      have c1 := cl none (some (p : Int))
      have c2 := cl (some ((p : Int) + 1)) none
      have c3 := cl none (some ((p : Int) + 1))
      have c4 := cl (some (p : Int)) none
      refine ⟨⟨rfl, show (cutD (ws.map iD) none (some (p : Int))).length + (cutD (ws.map iD) (some ((p : Int) + 1)) none).length ≤ 16777216 by omega⟩, ?_⟩
      clean_wf
      refine ⟨⟨rfl, show (ws.map iD).length + 1 ≤ 16777216 by omega⟩, ?_⟩
      clean_wf
      refine ⟨⟨rfl, show (cutD (ws.map iD) none (some ((p : Int) + 1))).length + (cutD (ws.map iD) (some (p : Int)) none).length ≤ 16777216 by omega⟩, ?_⟩
      clean_wf
      refine ⟨[.tup (ws.map iD).reverse, .tup (cutD (ws.map iD) none (some (p : Int)) ++ cutD (ws.map iD) (some ((p : Int) + 1)) none), .tup (ws.map iD ++ [.int 0]), .lst (ws.map iD), .tup (cutD (ws.map iD) none (some ((p : Int) + 1)) ++ cutD (ws.map iD) (some (p : Int)) none), .non], false, rfl, ⟨by simp, by simp⟩, rfl, fun g3 t3 d h3 hd => ?_⟩
      refine q g3 t3 _ _ h3 ?_
      simp only [List.mem_cons, List.not_mem_nil, or_false] at hd
      have vc : ∀ {l u l' u' : Option Int}, ∀ x ∈ cutD (ws.map iD) l u ++ cutD (ws.map iD) l' u', VI x := fun x hx => by
        rcases List.mem_append.mp hx with hx | hx <;> exact vr x (mem_cut hx)
      rcases hd with rfl | rfl | rfl | rfl | rfl | rfl
      · exact vok_seq (ds := (ws.map iD).reverse) (fun x hx => vr x (List.mem_reverse.mp hx)) (by rw [List.length_reverse]; omega) true
      · exact vok_seq vc (by rw [List.length_append]; omega) true
      · refine vok_seq (ds := ws.map iD ++ [.int 0]) (fun x hx => ?_) (by rw [List.length_append, vlen]; simp; omega) true
        rcases List.mem_append.mp hx with hx | hx
        · exact vr x hx
        · have : x = .int 0 := by simpa using hx
          subst this; exact vi_int 0 (by decide)
      · exact vok_seq vr (by omega) false
      · exact vok_seq vc (by rw [List.length_append]; omega) true
      · exact vok_non
end K88
set_option Elab.async false
set_option linter.all false
set_option autoImplicit false
/-! MO: drawn orders. -/
namespace MO
abbrev Arc := Nat × Nat
def uni (l m : List Nat) : List Nat := m.foldl (fun acc x => if x ∈ acc then acc else acc ++ [x]) l
theorem mem_uni {x : Nat} : ∀ (m l : List Nat), x ∈ uni l m ↔ x ∈ l ∨ x ∈ m
  | [], l => by simp [uni]
  | y :: m, l => by
    have h := mem_uni (x := x) m (if y ∈ l then l else l ++ [y])
    unfold uni at h ⊢
    rw [List.foldl_cons, h]
    by_cases hy : y ∈ l
    · simp only [if_pos hy, List.mem_cons]
      constructor
      · rintro (h | h) <;> simp [h]
      · rintro (h | rfl | h)
        · exact .inl h
        · exact .inl hy
        · exact .inr h
    · simp only [if_neg hy, List.mem_append, List.mem_cons, List.not_mem_nil, or_false, or_assoc]
theorem nodup_uni : ∀ (m l : List Nat), l.Nodup → (uni l m).Nodup
  | [], l, h => h
  | y :: m, l, h => by
    have q := nodup_uni m (if y ∈ l then l else l ++ [y]) (by
      by_cases hy : y ∈ l
      · simpa [hy] using h
      · simp only [if_neg hy]
        refine List.nodup_append.mpr ⟨h, by simp, fun a ha b hb e => ?_⟩
        have : b = y := by simpa using hb
        subst this e
        exact hy ha)
    exact q
/-- what comes ahead of the places below p -/
structure AK (K : Nat → List Nat) (p : Nat) : Prop where
  nd : ∀ q, q < p → (K q).Nodup
  lt : ∀ q, q < p → ∀ r ∈ K q, r < q
  cl : ∀ q, q < p → ∀ r ∈ K q, ∀ s ∈ K r, s ∈ K q
structure Own (K : Nat → List Nat) (p : Nat) (l : List Nat) : Prop where
  nd : l.Nodup
  lt : ∀ r ∈ l, r < p
  cl : ∀ r ∈ l, ∀ s ∈ K r, s ∈ l
theorem own0 (K : Nat → List Nat) (p : Nat) : Own K p [] := ⟨by simp, by simp, by simp⟩
theorem Own.add {K : Nat → List Nat} {p q : Nat} {l : List Nat} (a : AK K p) (o : Own K p l) (hq : q < p) : Own K p (uni (uni l [q]) (K q)) where
  nd := nodup_uni _ _ (nodup_uni _ _ o.nd)
  lt := fun r hr => by
    rcases (mem_uni _ _).mp hr with hr | hr
    · rcases (mem_uni _ _).mp hr with hr | hr
      · exact o.lt r hr
      · have : r = q := by simpa using hr
        omega
    · have := a.lt q hq r hr; omega
  cl := fun r hr s hs => by
    rw [mem_uni, mem_uni]
    rcases (mem_uni _ _).mp hr with hr | hr
    · rcases (mem_uni _ _).mp hr with hr | hr
      · exact .inl (.inl (o.cl r hr s hs))
      · have : r = q := by simpa using hr
        subst this; exact .inr hs
    · exact .inr (a.cl q hq r hr s hs)
def updK (K : Nat → List Nat) (p : Nat) (l : List Nat) : Nat → List Nat := fun q => if q = p then l else K q
theorem AK.add {K : Nat → List Nat} {p : Nat} {l : List Nat} (a : AK K p) (o : Own K p l) : AK (updK K p l) (p + 1) := by
  have e : ∀ q, q < p → updK K p l q = K q := fun q h => by unfold updK; rw [if_neg (by omega)]
  have ep : updK K p l p = l := by unfold updK; rw [if_pos rfl]
  refine ⟨fun q hq => ?_, fun q hq r hr => ?_, fun q hq r hr s hs => ?_⟩
  · by_cases h : q = p
    · subst h; rw [ep]; exact o.nd
    · rw [e q (by omega)]; exact a.nd q (by omega)
  · by_cases h : q = p
    · subst h; rw [ep] at hr; exact o.lt r hr
    · rw [e q (by omega)] at hr; exact a.lt q (by omega) r hr
  · by_cases h : q = p
    · subst h
      rw [ep] at hr ⊢
      have := o.lt r hr
      rw [e r this] at hs
      exact o.cl r hr s hs
    · rw [e q (by omega)] at hr ⊢
      have := a.lt q (by omega) r hr
      rw [e r (by omega)] at hs
      exact a.cl q (by omega) r hr s hs
theorem updK_lt (K : Nat → List Nat) (p : Nat) (l : List Nat) {q : Nat} (h : q < p) : updK K p l q = K q := by unfold updK; rw [if_neg (by omega)]
theorem updK_same (K : Nat → List Nat) (p : Nat) (l : List Nat) : updK K p l p = l := by unfold updK; rw [if_pos rfl]
/-- the pairs -/
def prs (n : Nat) (K : Nat → List Nat) (pl : Nat → Nat) : List Arc := (List.range n).flatMap fun p => (K p).map fun q => (pl q, pl p)
structure Pl (n : Nat) (pl : Nat → Nat) : Prop where
  lt : ∀ q, q < n → pl q < n
  inj : ∀ q r, q < n → r < n → pl q = pl r → q = r
section
variable {n : Nat} {K : Nat → List Nat} {pl : Nat → Nat} (a : AK K n) (b : Pl n pl)
include a b
omit a b in
theorem mem_prs {x : Arc} : x ∈ prs n K pl ↔ ∃ p q, p < n ∧ q ∈ K p ∧ x = (pl q, pl p) := by
  unfold prs
  rw [List.mem_flatMap]
  constructor
  · rintro ⟨p, hp, hm⟩
    obtain ⟨q, hq, rfl⟩ := List.mem_map.mp hm
    exact ⟨p, q, List.mem_range.mp hp, hq, rfl⟩
  · rintro ⟨p, q, hp, hq, rfl⟩
    exact ⟨p, List.mem_range.mpr hp, List.mem_map.mpr ⟨q, hq, rfl⟩⟩
theorem prs_or : M88.SOr n (prs n K pl) where
  lt := fun {x y} h => by
    obtain ⟨p, q, hp, hq, e⟩ := mem_prs.mp h
    cases e
    have := a.lt p hp q hq
    exact ⟨b.lt q (by omega), b.lt p hp⟩
  irr := fun {x} h => by
    obtain ⟨p, q, hp, hq, e⟩ := mem_prs.mp h
    have := a.lt p hp q hq
    simp only [Prod.mk.injEq] at e
    have := b.inj q p (by omega) hp (e.1.symm.trans e.2)
    omega
  tr := fun {x y z} h1 h2 => by
    obtain ⟨p, q, hp, hq, e⟩ := mem_prs.mp h1
    obtain ⟨p', q', hp', hq', e'⟩ := mem_prs.mp h2
    simp only [Prod.mk.injEq] at e e'
    have l1 := a.lt p hp q hq
    have l2 := a.lt p' hp' q' hq'
    have : p = q' := b.inj p q' hp (by omega) (e.2.symm.trans e'.1)
    subst this
    exact mem_prs.mpr ⟨p', q, hp', a.cl p' hp' p hq' q hq, by rw [e.1, e'.2]⟩
theorem prs_nd : (prs n K pl).Nodup := by
  unfold prs
  refine List.pairwise_flatMap.mpr ⟨fun p hp => ?_, ?_⟩
  · have hp := List.mem_range.mp hp
    refine List.pairwise_map.mpr (List.Pairwise.imp_of_mem ?_ (a.nd p hp))
    intro x y hx hy ne e
    simp only [Prod.mk.injEq] at e
    have := a.lt p hp x hx
    have := a.lt p hp y hy
    exact ne (b.inj x y (by omega) (by omega) e.1)
  · refine List.Pairwise.imp_of_mem ?_ List.pairwise_lt_range
    intro p r hp hr hlt x hx y hy e
    obtain ⟨q, hq, rfl⟩ := List.mem_map.mp hx
    obtain ⟨q', hq', rfl⟩ := List.mem_map.mp hy
    simp only [Prod.mk.injEq] at e
    have := b.inj p r (List.mem_range.mp hp) (List.mem_range.mp hr) e.2
    omega
omit b in
theorem prs_len (m : Nat) : ∀ k, k ≤ n → (prs k K pl).length ≤ k * n
  | 0, _ => by simp [prs]
  | k + 1, h => by
    have ih := prs_len m k (by omega)
    unfold prs at ih ⊢
    rw [List.range_succ, List.flatMap_append, List.length_append]
    have : (K k).length ≤ n := M88.len_le (a.nd k (by omega)) n fun x hx => by have := a.lt k (by omega) x hx; omega
    simp [Nat.add_mul] at *
    omega
end
def mm (p : Arc) : Arc := (min p.1 p.2, max p.1 p.2)
/-- the roads of an order, in order -/
def rds (n : Nat) (P : List Arc) : List Arc := MG.sa n (P.map mm)
section
variable {n : Nat} {P : List Arc} (o : M88.SOr n P) (nd : P.Nodup)
include o nd
theorem anti {x y : Nat} (h1 : (x, y) ∈ P) (h2 : (y, x) ∈ P) : False := o.irr (o.tr h1 h2)
theorem mm_nd : (P.map mm).Nodup := by
  refine List.pairwise_map.mpr (List.Pairwise.imp_of_mem ?_ nd)
  intro x y hx hy ne e
  obtain ⟨x1, x2⟩ := x
  obtain ⟨y1, y2⟩ := y
  simp only [mm, Prod.mk.injEq] at e
  by_cases h : x1 = y1
  · subst h
    have : x2 = y2 := by omega
    subst this; exact ne rfl
  · have h1 : x1 = y2 := by omega
    have h2 : x2 = y1 := by omega
    subst h1 h2
    exact anti o nd hx hy
theorem mm_lt : ∀ p ∈ P.map mm, p.1 < p.2 ∧ p.2 < n := by
  intro p hp
  obtain ⟨⟨x, y⟩, hq, rfl⟩ := List.mem_map.mp hp
  have := o.lt hq
  have : x ≠ y := fun e => by subst e; exact o.irr hq
  simp only [mm]
  omega
theorem rds_perm : (rds n P).Perm (P.map mm) := MG.sa_perm (mm_nd o nd) fun p hp => by have := mm_lt o nd p hp; omega
theorem rds_lt : ∀ p ∈ rds n P, p.1 < p.2 ∧ p.2 < n := fun p hp => mm_lt o nd p ((rds_perm o nd).mem_iff.mp hp)
theorem rds_nd : (rds n P).Nodup := (rds_perm o nd).nodup_iff.mpr (mm_nd o nd)
/-- the arcs are the pairs -/
theorem rds_arcs (x : Arc) : x ∈ (rds n P).map (fun r => if r ∈ P then r else (r.2, r.1)) ↔ x ∈ P := by
  rw [List.mem_map]
  constructor
  · rintro ⟨r, hr, e⟩
    by_cases h : r ∈ P
    · rw [if_pos h] at e; subst e; exact h
    · rw [if_neg h] at e
      obtain ⟨⟨y, z⟩, hq, rfl⟩ := List.mem_map.mp ((rds_perm o nd).mem_iff.mp hr)
      subst e
      simp only [mm] at h ⊢
      rcases Nat.le_total y z with q | q
      · rw [Nat.min_eq_left q, Nat.max_eq_right q] at h; exact absurd hq h
      · rw [Nat.min_eq_right q, Nat.max_eq_left q]; exact hq
  · intro hx
    refine ⟨mm x, (rds_perm o nd).mem_iff.mpr (List.mem_map.mpr ⟨x, hx, rfl⟩), ?_⟩
    obtain ⟨y, z⟩ := x
    rcases Nat.le_total y z with q | q
    · have e : mm (y, z) = (y, z) := by simp only [mm, Nat.min_eq_left q, Nat.max_eq_right q]
      rw [e, if_pos hx]
    · have e : mm (y, z) = (z, y) := by simp only [mm, Nat.min_eq_right q, Nat.max_eq_left q]
      rw [e, if_neg fun h => anti o nd hx h]
end
end MO
set_option Elab.async false
set_option linter.all false
set_option autoImplicit false
set_option maxRecDepth 100000
set_option maxHeartbeats 4000000
/-! Ev44: dicts of dicts, unions, comprehensions over keys. -/
namespace Ev
open PySem PySem.Spec L2
abbrev mK (l : List Nat) : List (Key × D) := l.map fun (w : Nat) => ((.inl (w : Int) : Key), D.bl true)
theorem mK_any (l : List Nat) (x : Nat) : ((mK l).any fun kv => decide (kv.1 = (.inl (x : Int) : Key))) = decide (x ∈ l) := by
  rw [List.any_map, Bool.eq_iff_iff, List.any_eq_true, decide_eq_true_eq]
  constructor
  · rintro ⟨w, hw, e⟩
    simp only [Function.comp, decide_eq_true_eq] at e
    have : w = x := by injection e with e; omega
    exact this ▸ hw
  · intro h
    exact ⟨x, h, by simp⟩
theorem putK_mK (l : List Nat) (x : Nat) : putK (mK l) (.inl (x : Int)) (D.bl true) = mK (if x ∈ l then l else l ++ [x]) := by
  unfold putK
  rw [mK_any]
  by_cases h : x ∈ l
  · rw [if_pos (by simpa using h), if_pos h, List.map_map]
    refine List.map_congr_left fun w hw => ?_
    simp only [Function.comp]
    split <;> rfl
  · rw [if_neg (by simpa using h), if_neg h]
    simp [mK]
theorem putAll_mK : ∀ (m l : List Nat), putAll (mK l) (mK m) = mK (MO.uni l m)
  | [], l => rfl
  | x :: m, l => by
    have h := putAll_mK m (if x ∈ l then l else l ++ [x])
    unfold putAll at h ⊢
    have e : mK (x :: m) = ((.inl (x : Int) : Key), D.bl true) :: mK m := rfl
    rw [e, List.foldl_cons, putK_mK, h]
    rfl
theorem put_setKu {j : Nat} (l : List Nat) (x : Nat) (hl : l.length < 16777216) (hj : j = 0) : gPut j (setK l) (iD x) (.bl true) = some (setK (MO.uni l [x])) := by
  show (if _ ∧ _ then some (D.dK (putK (mK l) (.inl (x : Int)) (D.bl true))) else none) = _
  rw [if_pos ⟨by rw [List.length_map]; exact hl, .inl hj⟩, putK_mK]
  rfl
/-- a dict of dicts -/
abbrev ahK (p : Nat) (K : Nat → List Nat) : List (Key × D) := (List.range p).map fun (q : Nat) => ((.inl (q : Int) : Key), setK (K q))
abbrev ahD (p : Nat) (K : Nat → List Nat) : D := .dK (ahK p K)
theorem ahK_nd (p : Nat) (K : Nat → List Nat) : ((ahK p K).map (·.1)).Nodup := by
  rw [List.map_map]
  refine List.pairwise_map.mpr (List.nodup_range.imp fun {a b} ne e => ne ?_)
  simp only [Function.comp] at e
  injection e with e; omega
theorem look_ahK {p q : Nat} (K : Nat → List Nat) (h : q < p) : look (ahK p K) (.inl (q : Int)) = some (setK (K q)) := by
  have : ∀ l : List Nat, q ∈ l → look (l.map fun (q : Nat) => ((.inl (q : Int) : Key), setK (K q))) (.inl (q : Int)) = some (setK (K q)) := by
    intro l hl
    induction l with
    | nil => simp at hl
    | cons x l ih =>
      rw [List.map_cons, look_cons]
      by_cases e : x = q
      · subst e; simp
      · have e' : ¬ ((.inl (x : Int) : Key) = .inl (q : Int)) := fun z => e (by injection z with z; omega)
        rw [if_neg e']
        exact ih (by rcases List.mem_cons.mp hl with h | h; exact absurd h.symm e; exact h)
  exact this _ (List.mem_range.mpr h)
theorem ahD_atE {i j p q : Nat} {K : Nat → List Nat} {e : En} {k m k' m' : Nat} (h : e[i]? = some (some ⟨ahD p K, k, m⟩)) (hk : 2 ≤ k) (hm : m ≠ 2) (hj : e[j]? = some (some ⟨iD q, k', m'⟩)) (hq : q < p) : atE i (some j) e = some (⟨ahD p K, k, m⟩, setK (K q)) := by
  have h2 : subP (ahD p K) (some (iD q)) = some (setK (K q)) := look_ahK K hq
  have h3 : okP (ahD p K) (some (iD q)) = true := decide_eq_true (ahK_nd p K)
  unfold atE pathAt
  rw [h]
  simp only [hj, h2, h3, depP]
  rw [if_pos ⟨by omega, trivial, .inr hm⟩]
theorem put_ahD {p : Nat} {K : Nat → List Nat} {l : List Nat} (hp : p < 16777216) : gPut 1 (ahD p K) (iD p) (setK l) = some (ahD (p + 1) (MO.updK K p l)) := by
  have e : putK (ahK p K) (.inl (p : Int)) (setK l) = ahK (p + 1) (MO.updK K p l) := by
    rw [putK_new]
    · unfold ahK
      rw [List.range_succ, List.map_append, List.map_cons, List.map_nil, MO.updK_same]
      congr 1
      exact List.map_congr_left fun q hq => by rw [MO.updK_lt K p l (List.mem_range.mp hq)]
    · intro kv hm e
      obtain ⟨q, hq, rfl⟩ := List.mem_map.mp hm
      have := List.mem_range.mp hq
      simp only at e
      injection e with e
      omega
  show (if _ ∧ _ then some (D.dK (putK (ahK p K) (.inl (p : Int)) (setK l))) else none) = _
  rw [if_pos ⟨by rw [List.length_map, List.length_range]; exact hp, .inr (ahK_nd p K)⟩, e]
section
variable {e : En}
/-- a comprehension over a dict's keys, nothing changed by it -/
theorem w_compKA {α : Type} {f : α → D} {xs : List α} {j i : Nat} {jo : Option Nat} {g : SG} {el : SE} {vs : List Nat} {Q : Rv → En → Prop} {s : Slot} {d : D} (h : α → D) (ha : atE i jo e = some (s, d)) (hk : keysD d = some (xs.map f))
    (st : ∀ x ∈ xs, WG (g (f x, 0)) (fun e' => W el (fun r e' => (freeAll vs e' = true ∧ fitsJ j r = true) ∧ r.1 = h x ∧ wipeE e' vs = wipeE (e.set i (some { s with m := 2 })) vs) e') (wipeE (e.set i (some { s with m := 2 })) vs))
    (q : Q (.lst (xs.map h), j + 1) (unlkE i s.m (restE (e.set i (some { s with m := 2 })) (wipeE (e.set i (some { s with m := 2 })) vs) vs))) : W (sCompK j i jo g sYes el vs) Q e := by
  refine w_compK (fun ds acc e' => ∃ dn r : List α, xs = dn ++ r ∧ ds = r.map f ∧ acc = dn.map h ∧ e' = wipeE (e.set i (some { s with m := 2 })) vs) ha hk ⟨[], xs, rfl, rfl, rfl, rfl⟩ ?_ ?_
  · rintro d ds acc e' ⟨dn, r, hx, hd, ha, rfl⟩
    cases r with
    | nil => cases hd
    | cons x r =>
      cases hd
      obtain ⟨e2, h1, h2⟩ := st x (by simp [hx])
      refine ⟨e2, h1, true, e2, rfl, ?_⟩
      simp only [if_true]
      exact h2.mono fun r' e ⟨hf, hr, hw⟩ => ⟨hf, dn ++ [x], r, by simp [hx], rfl, by rw [ha, hr]; simp, hw⟩
  · rintro acc e2 ⟨dn, r, hx, hd, ha, rfl⟩
    have : r = [] := by simpa using hd.symm
    subst this
    simp only [List.append_nil] at hx
    subst hx ha
    exact q
end
theorem keys_setK (A : List Nat) : keysD (setK A) = some (A.map iD) := by
  show some ((A.map fun (w : Nat) => ((.inl (w : Int) : Key), D.bl true)).map fun kv => kDi kv.1) = _
  rw [List.map_map]
  rfl
theorem scl_bl (b : Bool) : (D.bl b).scl = true := rfl
theorem scl_int (b : Int) : (D.int b).scl = true := rfl
theorem nd_self (x : Str) : (!decide (x = x)) = false := by simp
end Ev
set_option Elab.async false
set_option linter.all false
set_option autoImplicit false
set_option maxRecDepth 100000
set_option maxHeartbeats 4000000
/-! Q88k: a drawn order. -/
namespace K88
open PySem PySem.Spec L2 Ev
local macro_rules | `(tactic| clean_wf) => `(tactic| repeat' (with_reducible first
  | refine fn_i ?_ | refine ws_seq ?_ | refine ws_if ?_ | refine ws_ret ?_ | refine ws_skip ?_ | refine ws_setE ?_ | refine ws_asg ?_ | refine ws_parN ?_ | refine ws_par ?_
  | refine w_op ?_ | refine w_pkE ?_ | refine w_pkV ?_ | refine w_c ?_ | refine w_c1 ?_ | refine w_sub ?_ | refine w_fz ?_ | refine w_tv ?_
  | refine w_and ?_ | refine w_or ?_ | refine w_not ?_ | refine w_andV ?_ | refine w_notV ?_ | refine w_ite ?_ | refine w_isN ?_ | refine w_yes ?_
  | refine w_itm ?_ | refine w_aNil ?_ | refine w_aCons ?_ | refine w_tup ?_ | refine w_lst ?_ | refine w_conv ?_ | refine w_cat ?_ | refine w_rev ?_
  | refine w_oNone ?_ | refine w_oSome ?_ | refine w_sl ?_ | refine w_it ?_ | refine w_rgN ?_ | refine w_lstRg ?_ | refine w_en ?_ | refine w_zip ?_ | refine w_zip1 ?_
  | refine w_im ?_ | refine w_bits ?_ | refine w_rg2N ?_ | refine w_rgDnN ?_ | refine w_chain ?_ | refine w_dNew ?_ | refine w_gNil ?_ | refine w_gVa ?_ | refine w_gKw ?_
  | refine wg_allNil ?_ | refine wg_allCons ?_ | (show WG (gPutT _ (plVar _) _ _) _ _; refine wg_putT ?_)
  | refine w_pk (by with_unfolding_all exact rfl) ?_ | refine w_var0 (by with_unfolding_all exact rfl) (.inl (by with_unfolding_all exact rfl)) ?_ | refine w_varF' (by with_unfolding_all exact rfl) (by with_unfolding_all exact rfl) ?_ | refine w_mv (by with_unfolding_all exact rfl) (by with_unfolding_all exact rfl) ?_
  | refine wg_setE (by with_unfolding_all exact rfl) (by with_unfolding_all exact rfl) ?_ | refine wg_tupS (by with_unfolding_all exact rfl) ?_ | refine w_plVar ⟨_, by with_unfolding_all exact rfl⟩ ?_
  | refine ite_t (by with_unfolding_all exact rfl) ?_ | refine ite_f (by with_unfolding_all exact rfl) ?_
  | (show WG (gsCons _ _ _) _ _; with_unfolding_all refine wg_sCons ?_)
  | (show WG (gsNil _) _ _; with_unfolding_all refine wg_sNil ?_)
  | (show @Eq Rv _ _; rfl)
  | (show WG (clr _) _ _; with_unfolding_all refine ⟨_, rfl, ?_⟩)
  | (show @Eq En _ _; with_unfolding_all rfl)
  | (show And (_ ≤ _) _; refine ⟨by omega, ?_⟩)
  | (show And (_ < _) _; refine ⟨by omega, ?_⟩)
  | (show And _ _; with_unfolding_all first | refine ⟨⟨rfl, rfl⟩, ?_⟩ | refine ⟨rfl, ?_⟩ | refine ⟨Nat.le_of_ble_eq_true rfl, ?_⟩ | refine ⟨⟨Nat.le_of_ble_eq_true rfl, rfl⟩, ?_⟩)
  | (show Or _ _; with_unfolding_all first | refine .inl ⟨_, rfl, ?_⟩ | refine .inr ⟨_, rfl, ?_⟩)
  | (show ∃ _, gMax2 _ _ = _ ∧ _; refine ⟨_, max2_n _ _, rfl, ?_⟩)
  | (show ∃ _, gAnd _ _ = _ ∧ _; refine ⟨_, and_n _ _, rfl, ?_⟩)
  | (show ∃ _, gOr _ _ = _ ∧ _; refine ⟨_, or_n _ _, rfl, ?_⟩)
  | (show ∃ _, gShr _ _ = _ ∧ _; refine ⟨_, shr_n _ _, rfl, ?_⟩)
  | (show ∃ _, gShl _ _ = _ ∧ _; refine ⟨_, shl_n (by omega), rfl, ?_⟩)
  | (show ∃ _, gI _ _ _ = _ ∧ _; with_unfolding_all first
    | refine ⟨_, gMul_l rfl, rfl, ?_⟩ | refine ⟨_, gMul_r rfl, rfl, ?_⟩ | refine ⟨_, gMul_mod rfl, rfl, ?_⟩ | refine ⟨_, gMod_k rfl, rfl, ?_⟩ | refine ⟨_, gDiv_k rfl, rfl, ?_⟩ | refine ⟨_, rfl, rfl, ?_⟩)
  | (show ∃ _, gEqX _ _ = _ ∧ _; with_unfolding_all first | refine ⟨_, eqX_i .., rfl, ?_⟩ | refine ⟨_, eqX_s .., rfl, ?_⟩)
  | (show ∃ _, gNeX _ _ = _ ∧ _; with_unfolding_all first | refine ⟨_, neX_i .., rfl, ?_⟩ | refine ⟨_, neX_s .., rfl, ?_⟩)
  | (show ∃ _, gB _ _ _ = _ ∧ _; with_unfolding_all first | refine ⟨_, rfl, rfl, ?_⟩ | refine ⟨_, rfl, ?_⟩)
  | (show ∃ _, gIx _ _ = _ ∧ _; with_unfolding_all refine ⟨_, rfl, ?_⟩)
  | (show ∃ _, gIsi _ _ = _ ∧ _; with_unfolding_all refine ⟨_, rfl, rfl, ?_⟩)
  | (show ∃ _, gLen1 _ = _ ∧ _; with_unfolding_all refine ⟨_, rfl, rfl, ?_⟩)
  | (show ∃ _, gInt _ = _ ∧ _; with_unfolding_all refine ⟨_, rfl, rfl, ?_⟩)
  | (show ∃ _, _ = D.bl _ ∧ _; with_unfolding_all refine ⟨_, rfl, ?_⟩)
  | (show ∃ _, _ = D.int _ ∧ _; with_unfolding_all refine ⟨_, rfl, ?_⟩)))
variable {N : En → Prop} {R : Rv → En → Prop} {B C : En → Prop}
theorem perm_pl {n : Nat} {l : List Int} (h : l.Perm ((List.range n).map Int.ofNat)) : ∃ pl : Nat → Nat, MO.Pl n pl ∧ intL l = (List.range n).map fun q => iD (pl q) := by
  have hl : l.length = n := by have := h.length_eq; simpa using this
  have hm : ∀ x ∈ l, ∃ k : Nat, x = (k : Int) ∧ k < n := fun x hx => by
    obtain ⟨k, hk, e⟩ := List.mem_map.mp (h.mem_iff.mp hx)
    exact ⟨k, e.symm, List.mem_range.mp hk⟩
  have nd : l.Nodup := h.nodup_iff.mpr (List.pairwise_map.mpr (List.nodup_range.imp fun {a b} ne e => ne (by injection e)))
  refine ⟨fun q => (l.getD q 0).toNat, ⟨fun q hq => ?_, fun q r hq hr e => ?_⟩, ?_⟩
  · have e : l.getD q 0 = l[q]'(by omega) := by simp [List.getD, show q < l.length by omega]
    obtain ⟨k, hk, h2⟩ := hm _ (List.getElem_mem (show q < l.length by omega))
    simp only [e, hk]; omega
  · have e1 : l.getD q 0 = l[q]'(by omega) := by simp [List.getD, show q < l.length by omega]
    have e2 : l.getD r 0 = l[r]'(by omega) := by simp [List.getD, show r < l.length by omega]
    obtain ⟨k, hk, _⟩ := hm _ (List.getElem_mem (show q < l.length by omega))
    obtain ⟨k', hk', _⟩ := hm _ (List.getElem_mem (show r < l.length by omega))
    simp only [e1, e2, hk, hk'] at e
    have : l[q]'(by omega) = l[r]'(by omega) := by rw [hk, hk']; omega
    exact (List.getElem_inj nd).mp this
  · unfold intL
    apply List.ext_getElem
    · simp [hl]
    · intro i h1 h2
      have hi : i < l.length := by simpa using h1
      simp only [List.getElem_map, List.getElem_range]
      have e : l.getD i 0 = l[i] := by simp [List.getD, hi]
      obtain ⟨k, hk, _⟩ := hm _ (List.getElem_mem hi)
      show D.int l[i] = D.int (((l.getD i 0).toNat : Nat) : Int)
      rw [e, hk]; simp
theorem w_mixedC {i : Nat} {g : List Int} {m t : Int} {mm : Nat} {e : En} {s : SP} {Q : Rv → En → Prop} (n : Nat) (hg : g.length ≤ 63) (hm : mm ≠ 2) (hn : n ≤ 16777216) (hi : ∃ s, e[i]? = some (some s))
    (h : W s (fun d e1 => d = iD n ∧ e1[i]? = some (some ⟨dk g m t, 2, mm⟩) ∧ ∀ g' t' pl, g'.length ≤ 63 → MO.Pl n pl → Q (rgL n fun q => iD (pl q), 1) (e1.set i (some ⟨dk g' m t', 2, mm⟩))) e) : W (sCall 2 2 sem__law_mixed (agBo i (agVa s agNil))) Q e := by
  refine w_call (w_gBo hi (w_gVa (h.mono fun d e1 ⟨hd, he, q⟩ => w_gNil ⟨[some ⟨dk g m t, 2, 1⟩, some ⟨iD n, 0, 0⟩], ?_, ⟨rfl, by simp [agI]⟩, ?_⟩)))
  · subst hd
    simp [agSl, he, hm]
  · refine w_mixed g hg m t n hn fun g' t' l rest h1 h2 => ?_
    have e0 : backE [.bo i, .va d] (some ⟨dk g' m t', 2, 1⟩ :: some ⟨.int n, 0, 0⟩ :: rest) e1 = e1.set i (some ⟨dk g' m t', 2, mm⟩) := by
      cases rest <;> simp [backE, he]
    rw [e0]
    obtain ⟨pl, hp, el⟩ := perm_pl h2
    rw [el]
    exact q g' t' pl h1 hp
/-- what a drawn order is -/
structure OrdOk (most n : Nat) (R : List (Nat × Nat)) (ws : List Nat) : Prop where
  le : n ≤ most
  ok : WOK n R
  ln : ws.length = R.length
  w1 : ∀ w ∈ ws, w ≤ 1
  so : M88.SOr n (arcs R ws)
theorem minL_pair (a b : Nat) : gMinL (pD (a, b)) = some (iD (min a b)) := by
  show some (D.int (if (b : Int) < (a : Int) then (b : Int) else (a : Int))) = _
  have : (if (b : Int) < (a : Int) then (b : Int) else (a : Int)) = ((min a b : Nat) : Int) := by split <;> omega
  rw [this]
theorem maxL_pair (a b : Nat) : gMaxL (pD (a, b)) = some (iD (max a b)) := by
  show some (D.int (if (a : Int) < (b : Int) then (b : Int) else (a : Int))) = _
  have : (if (a : Int) < (b : Int) then (b : Int) else (a : Int)) = ((max a b : Nat) : Int) := by split <;> omega
  rw [this]
theorem arcs_map (w : Nat × Nat → Nat) : ∀ R : List (Nat × Nat), arcs R (R.map w) = R.map fun r => arc (r, w r)
  | [] => rfl
  | r :: R => by
    have h := arcs_map w R
    unfold arcs at h ⊢
    rw [List.map_cons, List.zip_cons_cons, List.map_cons, h, List.map_cons]
theorem sor_congr {n : Nat} {A B : List (Nat × Nat)} (h : ∀ x, x ∈ A ↔ x ∈ B) (o : M88.SOr n B) : M88.SOr n A where
  lt := fun {a b} m => o.lt ((h _).mp m)
  irr := fun {a} m => o.irr ((h _).mp m)
  tr := fun {a b c} m1 m2 => (h _).mpr (o.tr ((h _).mp m1) ((h _).mp m2))
theorem ws_addq {e : En} {p q : Nat} {K : Nat → List Nat} {l : List Nat} (h7 : e[7]? = some (some ⟨setK l, 1, 0⟩)) (h5 : e[5]? = some (some ⟨ahD p K, 2, 0⟩)) (h8 : e[8]? = some (some ⟨iD q, 0, 0⟩)) (hq : q < p) (hl : (MO.uni l [q]).length + (K q).length ≤ 16777216) (hl2 : l.length < 16777216)
    (nx : N (e.set 7 (some ⟨setK (MO.uni (MO.uni l [q]) (K q)), 1, 0⟩))) : WS (sSeq (sAsg (sC (.bl true)) (gPutT 7 (plVar 7) (sPk 8))) (sUpd 7 5 (some 8))) N R B C e := by
  have l7 : 7 < e.length := (List.getElem?_eq_some_iff.mp h7).1
  refine ws_seq (ws_asg (w_c (wg_putT (w_plVar ⟨_, h7⟩ (w_pk h8 ⟨⟨setK l, 1, 0⟩, setK l, 0, _, ?_, rfl, put_setKu l q hl2 rfl, ?_⟩)))))
  · unfold atPl
    rw [h7]
    rfl
  · refine ws_upd (s := ⟨setK (MO.uni l [q]), 1, 0⟩) (s2 := ⟨ahD p K, 2, 0⟩) (kvs := mK (MO.uni l [q])) (more := mK (K q)) (path := some (iD q)) ?_ ⟨by decide, show (0 : Nat) ≠ 2 by decide, rfl⟩ rfl ?_ ?_ ⟨rfl, by simpa [mK] using hl⟩ ?_
    · rw [List.getElem?_set_self l7]; rfl
    · exact ahD_atE (by rw [List.getElem?_set_ne (by decide)]; exact h5) (by decide) (by decide) (by rw [List.getElem?_set_ne (by decide)]; exact h8) hq
    · unfold pathAt
      simp only
      rw [List.getElem?_set_ne (by decide), h8]
    · rw [putAll_mK, List.set_set]
      exact nx
theorem w_ordered (most : Nat) (hmo : most ≤ 9) (g : List Int) (m t : Int) (hg : g.length ≤ 63)
    (q : ∀ g' t' n Rr ws rest, g'.length ≤ 63 → OrdOk most n Rr ws → R (.tup [wD n Rr, .tup (ws.map iD)], 0) (some ⟨dk g' m t', 2, 1⟩ :: rest)) : WS sem__law_ordered N R B C (some ⟨dk g m t, 2, 1⟩ :: some ⟨iD most, 0, 0⟩ :: List.replicate 12 none) := by
  unfold sem__law_ordered
  show WS _ N R B C [some ⟨dk g m t, 2, 1⟩, some ⟨iD most, 0, 0⟩, none, none, none, none, none, none, none, none, none, none, none, none]
  clean_wf
  refine w_drawN (g := g) (m := m) (t := t) (v := most + 1) (mm := 1) hg (by decide) (by omega) ⟨_, rfl⟩ ?_
  clean_wf
  intro g1 t1 n h1 hn
  have hn : n ≤ most := by omega
  clean_wf
  refine w_mixedC (g := g1) (m := m) (t := t1) (mm := 1) n h1 (by decide) (by omega) ⟨_, rfl⟩ ?_
  clean_wf
  intro g2 t2 pl h2 hpl
  clean_wf
  refine w_pickC (g := g2) (m := m) (t := t2) (mm := 1) h2 (by decide) ⟨_, rfl⟩ ?_
  clean_wf
  refine ⟨[iD 1, iD 2, iD 2, iD 3, iD 4], false, rfl, ⟨by simp, by simp⟩, rfl, fun g3 t3 d h3 hd => ?_⟩
  obtain ⟨sh, rfl, hsh⟩ : ∃ sh : Nat, d = iD sh ∧ sh ≤ 4 := by
    simp only [List.mem_cons, List.not_mem_nil, or_false] at hd
    rcases hd with rfl | rfl | rfl | rfl | rfl <;> exact ⟨_, rfl, by omega⟩
  clean_wf
  refine ws_forL (xs := List.range n) (f := iD) (fun dn e => ∃ (g : List Int) (t : Int) (K : Nat → List Nat) (x6 : Option Ev.Slot), g.length ≤ 63 ∧ MO.AK K dn.length ∧ (x6 = none ∨ ∃ k : Nat, x6 = some ⟨iD k, 0, 0⟩) ∧ e = [some ⟨dk g m t, 2, 1⟩, some ⟨iD most, 0, 0⟩, some ⟨iD n, 0, 0⟩, some ⟨rgL n fun q => iD (pl q), 0, 0⟩, some ⟨iD sh, 0, 0⟩, some ⟨ahD dn.length K, 2, 0⟩, x6, none, none, none, none, none, none, none]) ?_ ?_ ?_
  · clean_wf
    exact ⟨g3, t3, fun _ => [], none, h3, ⟨by simp, by simp, by simp⟩, .inl rfl, rfl⟩
  · rintro dn p r e hx ⟨g, t, K, x6, hg, ak, h6, rfl⟩
    obtain ⟨hp, hpn⟩ := rng_pre hx
    rw [hp] at ak
    have e1 : (dn ++ [p]).length = p + 1 := by simp [hp]
    rw [hp, e1]
    refine wg_setE rfl (by rcases h6 with rfl | ⟨_, rfl⟩ <;> rfl) ?_
    clean_wf
    refine ws_forL (xs := List.range p) (f := iD) (fun dq e => ∃ (g : List Int) (t : Int) (l : List Nat), g.length ≤ 63 ∧ MO.Own K p l ∧ e = [some ⟨dk g m t, 2, 1⟩, some ⟨iD most, 0, 0⟩, some ⟨iD n, 0, 0⟩, some ⟨rgL n fun q => iD (pl q), 0, 0⟩, some ⟨iD sh, 0, 0⟩, some ⟨ahD p K, 2, 0⟩, some ⟨iD p, 0, 0⟩, some ⟨setK l, 1, 0⟩, none, none, none, none, none, none]) ?_ ?_ ?_
    · clean_wf
      exact ⟨g, t, [], hg, MO.own0 K p, rfl⟩
    · rintro dq q' r' e hx' ⟨g, t, l, hg, ow, rfl⟩
      obtain ⟨_, hqp⟩ := rng_pre hx'
      clean_wf
      refine w_drawN (g := g) (m := m) (t := t) (v := sh) (mm := 1) hg (by decide) (by omega) ⟨_, rfl⟩ ?_
      clean_wf
      intro g5 t5 x h5 _
      clean_wf
      have hq' : q' < p := hqp
      have ll : l.length ≤ p := M88.len_le ow.nd p ow.lt
      have o2 := ow.add ak hqp
      have u1 : (MO.uni l [q']).length ≤ p := M88.len_le (MO.nodup_uni _ _ ow.nd) p fun r hr => by
        rcases (MO.mem_uni _ _).mp hr with hr | hr
        · exact ow.lt r hr
        · have : r = q' := by simpa using hr
          omega
      have u2 : (K q').length ≤ p := M88.len_le (ak.nd q' hqp) p fun r hr => by have := ak.lt q' hqp r hr; omega
      refine ite_i (fun c1 => ?_) (fun c1 => ?_)
      · try with_reducible refine ite_t rfl ?_
        refine ws_addq (l := l) (p := p) (K := K) (q := q') rfl rfl rfl hqp (by omega) (by omega) ?_
        clean_wf
        exact ⟨g5, t5, _, h5, o2, rfl⟩
      · clean_wf
        refine ⟨_, inX_setK false l q', rfl, ?_⟩
        clean_wf
        refine ite_i (fun c2 => ?_) (fun c2 => ?_)
        · try with_reducible refine ite_t rfl ?_
          refine ws_addq (l := l) (p := p) (K := K) (q := q') rfl rfl rfl hqp (by omega) (by omega) ?_
          clean_wf
          exact ⟨g5, t5, _, h5, o2, rfl⟩
        · clean_wf
          exact ⟨g5, t5, l, h5, ow, rfl⟩
    · rintro e ⟨g, t, l, hg, ow, rfl⟩
      clean_wf
      refine ⟨_, _, _, _, rfl, rfl, put_ahD (by omega), ?_⟩
      clean_wf
      exact ⟨g, t, MO.updK K p l, _, hg, ak.add ow, .inr ⟨p, rfl⟩, rfl⟩
  rintro e ⟨g, t, K, x6, hg, ak, h6, rfl⟩
  rw [List.length_range] at ak ⊢
  clean_wf
  obtain ⟨P, hP⟩ : ∃ P, MO.prs n K pl = P := ⟨_, rfl⟩
  have sor : M88.SOr n P := hP ▸ MO.prs_or ak hpl
  have nd : P.Nodup := hP ▸ MO.prs_nd ak hpl
  have pln : P.length ≤ 81 := by
    have h := MO.prs_len (pl := pl) ak n n (Nat.le_refl _)
    have : n * n ≤ 9 * 9 := Nat.mul_le_mul (by omega) (by omega)
    rw [← hP]; omega
  refine ws_forL (xs := List.range n) (f := iD) (fun dn e => ∃ x6 : Option Ev.Slot, (x6 = none ∨ ∃ k : Nat, x6 = some ⟨iD k, 0, 0⟩) ∧ e = [some ⟨dk g m t, 2, 1⟩, some ⟨iD most, 0, 0⟩, some ⟨iD n, 0, 0⟩, some ⟨rgL n fun q => iD (pl q), 0, 0⟩, some ⟨iD sh, 0, 0⟩, some ⟨ahD n K, 2, 0⟩, x6, none, none, some ⟨.lst ((dn.flatMap fun p => (K p).map fun q => (pl q, pl p)).map pD), 1, 0⟩, none, none, none, none]) ?_ ?_ ?_
  · clean_wf
    exact ⟨x6, h6, rfl⟩
  · rintro dn p r e hx ⟨x6, h6, rfl⟩
    obtain ⟨hp, hpn⟩ := rng_pre hx
    have ln : (dn.flatMap fun p => (K p).map fun q => (pl q, pl p)).length + (K p).length ≤ 81 := by
      have h3 : P = (dn ++ p :: r).flatMap fun p => (K p).map fun q => (pl q, pl p) := by rw [← hx, ← hP]; rfl
      rw [h3, List.flatMap_append, List.flatMap_cons, List.length_append, List.length_append, List.length_map] at pln
      omega
    refine wg_setE rfl (by rcases h6 with rfl | ⟨_, rfl⟩ <;> rfl) ?_
    refine ws_extV (ds := (dn.flatMap fun p => (K p).map fun q => (pl q, pl p)).map pD) (k := 0) rfl ?_
    clean_wf
    refine w_compKA (xs := K p) (f := iD) (s := ⟨ahD n K, 2, 0⟩) (d := setK (K p)) (fun q => pD (pl q, pl p)) (ahD_atE rfl (by decide) (by decide) rfl hpn) (keys_setK _) ?_ ?_
    · intro q hq
      have hqn : q < n := by have := ak.lt p hpn q hq; omega
      clean_wf
      refine ⟨_, ix_rg hqn, ?_⟩
      clean_wf
      refine ⟨_, ix_rg hpn, ?_⟩
      clean_wf
    · clean_wf
      refine ⟨⟨by simp only [List.length_map]; omega, .inl rfl⟩, ?_⟩
      clean_wf
      refine ⟨_, .inr ⟨p, rfl⟩, ?_⟩
      rw [List.flatMap_append, List.map_append]
      simp only [List.flatMap_cons, List.flatMap_nil, List.append_nil, List.map_map]
      rfl
  rintro e ⟨x6, h6, rfl⟩
  have eP : ((List.range n).flatMap fun p => (K p).map fun q => (pl q, pl p)) = P := hP
  rw [eP]
  clean_wf
  refine w_srt ?_
  clean_wf
  refine w_compA (xs := P) (f := pD) (fun p => pD (MO.mm p)) ?_
  clean_wf
  refine ⟨fun p hp => ?_, ?_⟩
  · obtain ⟨a, b⟩ := p
    clean_wf
    refine ⟨_, minL_pair a b, rfl, ?_⟩
    clean_wf
    refine ⟨_, maxL_pair a b, rfl, ?_⟩
    clean_wf
  clean_wf
  have em : P.map (fun p => pD (MO.mm p)) = (P.map MO.mm).map pD := by rw [List.map_map]; rfl
  rw [em]
  refine ⟨_, gSrt_pairs (MO.rds_perm sor nd) (MG.sa_sorted n _), ?_⟩
  clean_wf
  refine w_dictT ?_
  clean_wf
  refine w_compA (xs := P) (f := pD) (fun p => .tup [pD p, .bl true]) ?_
  clean_wf
  refine ⟨fun p hp => ?_, ?_⟩
  · clean_wf
  clean_wf
  refine ⟨_, prT_map (fun p => kT p) (fun _ => .bl true) (fun p => pD p) (fun _ => rfl) P, ?_⟩
  rw [putAll_setT P nd]
  clean_wf
  refine w_compA (xs := MO.rds n P) (f := pD) (fun p => iD (if p ∈ P then 0 else 1)) ?_
  clean_wf
  refine ⟨fun p hp => ?_, ?_⟩
  · clean_wf
    refine ⟨_, inX_setT true P p, rfl, ?_⟩
    clean_wf
    refine ⟨?_, rfl⟩
    by_cases h : p ∈ P <;> simp [h]
  clean_wf
  have ew : (MO.rds n P).map (fun p => iD (if p ∈ P then 0 else 1)) = ((MO.rds n P).map fun p => if p ∈ P then 0 else 1).map iD := by rw [List.map_map]; rfl
  rw [ew]
  have ok : OrdOk most n (MO.rds n P) ((MO.rds n P).map fun p => if p ∈ P then 0 else 1) := by
    refine ⟨hn, ⟨MO.rds_lt sor nd, MO.rds_nd sor nd, ?_, by omega⟩, by simp, fun w hw => ?_, ?_⟩
    · rw [(MO.rds_perm sor nd).length_eq, List.length_map]; omega
    · obtain ⟨p, _, rfl⟩ := List.mem_map.mp hw
      split <;> omega
    · rw [arcs_map]
      refine sor_congr (fun x => ?_) sor
      rw [← MO.rds_arcs sor nd x]
      have : (fun r : Nat × Nat => arc (r, if r ∈ P then 0 else 1)) = fun r => if r ∈ P then r else (r.2, r.1) := by
        funext r
        by_cases h : r ∈ P <;> simp [arc, h]
      rw [this]
  exact q g t n _ _ _ hg ok
end K88
set_option Elab.async false
set_option linter.all false
set_option autoImplicit false
set_option maxRecDepth 100000
set_option maxHeartbeats 4000000
/-! Q88l: the law's pieces. -/
namespace K88
open PySem PySem.Spec L2 Ev
local macro_rules | `(tactic| clean_wf) => `(tactic| repeat' (with_reducible first
  | refine fn_i ?_ | refine ws_seq ?_ | refine ws_if ?_ | refine ws_ret ?_ | refine ws_skip ?_ | refine ws_setE ?_ | refine ws_asg ?_ | refine ws_parN ?_ | refine ws_par ?_
  | refine w_op ?_ | refine w_pkE ?_ | refine w_pkV ?_ | refine w_c ?_ | refine w_c1 ?_ | refine w_sub ?_ | refine w_fz ?_ | refine w_tv ?_
  | refine w_and ?_ | refine w_or ?_ | refine w_not ?_ | refine w_andV ?_ | refine w_notV ?_ | refine w_ite ?_ | refine w_isN ?_ | refine w_yes ?_
  | refine w_itm ?_ | refine w_aNil ?_ | refine w_aCons ?_ | refine w_tup ?_ | refine w_lst ?_ | refine w_conv ?_ | refine w_cat ?_ | refine w_rev ?_
  | refine w_oNone ?_ | refine w_oSome ?_ | refine w_sl ?_ | refine w_it ?_ | refine w_rgN ?_ | refine w_lstRg ?_ | refine w_en ?_ | refine w_zip ?_ | refine w_zip1 ?_
  | refine w_im ?_ | refine w_bits ?_ | refine w_rg2N ?_ | refine w_rgDnN ?_ | refine w_chain ?_ | refine w_dNew ?_ | refine w_gNil ?_ | refine w_gVa ?_ | refine w_gKw ?_
  | refine wg_allNil ?_ | refine wg_allCons ?_ | (show WG (gPutT _ (plVar _) _ _) _ _; refine wg_putT ?_)
  | refine w_pk (by with_unfolding_all exact rfl) ?_ | refine w_var0 (by with_unfolding_all exact rfl) (.inl (by with_unfolding_all exact rfl)) ?_ | refine w_varF' (by with_unfolding_all exact rfl) (by with_unfolding_all exact rfl) ?_ | refine w_mv (by with_unfolding_all exact rfl) (by with_unfolding_all exact rfl) ?_
  | refine wg_setE (by with_unfolding_all exact rfl) (by with_unfolding_all exact rfl) ?_ | refine wg_tupS (by with_unfolding_all exact rfl) ?_ | refine w_plVar ⟨_, by with_unfolding_all exact rfl⟩ ?_
  | refine ite_t (by with_unfolding_all exact rfl) ?_ | refine ite_f (by with_unfolding_all exact rfl) ?_
  | (show WG (gsCons _ _ _) _ _; with_unfolding_all refine wg_sCons ?_)
  | (show WG (gsNil _) _ _; with_unfolding_all refine wg_sNil ?_)
  | (show @Eq Rv _ _; rfl)
  | (show WG (clr _) _ _; with_unfolding_all refine ⟨_, rfl, ?_⟩)
  | (show @Eq En _ _; with_unfolding_all rfl)
  | (show And (_ ≤ _) _; refine ⟨by omega, ?_⟩)
  | (show And (_ < _) _; refine ⟨by omega, ?_⟩)
  | (show And _ _; with_unfolding_all first | refine ⟨⟨rfl, rfl⟩, ?_⟩ | refine ⟨rfl, ?_⟩ | refine ⟨Nat.le_of_ble_eq_true rfl, ?_⟩ | refine ⟨⟨Nat.le_of_ble_eq_true rfl, rfl⟩, ?_⟩)
  | (show Or _ _; with_unfolding_all first | refine .inl ⟨_, rfl, ?_⟩ | refine .inr ⟨_, rfl, ?_⟩)
  | (show ∃ _, gMax2 _ _ = _ ∧ _; refine ⟨_, max2_n _ _, rfl, ?_⟩)
  | (show ∃ _, gAnd _ _ = _ ∧ _; refine ⟨_, and_n _ _, rfl, ?_⟩)
  | (show ∃ _, gOr _ _ = _ ∧ _; refine ⟨_, or_n _ _, rfl, ?_⟩)
  | (show ∃ _, gShr _ _ = _ ∧ _; refine ⟨_, shr_n _ _, rfl, ?_⟩)
  | (show ∃ _, gShl _ _ = _ ∧ _; refine ⟨_, shl_n (by omega), rfl, ?_⟩)
  | (show ∃ _, gI _ _ _ = _ ∧ _; with_unfolding_all first
    | refine ⟨_, gMul_l rfl, rfl, ?_⟩ | refine ⟨_, gMul_r rfl, rfl, ?_⟩ | refine ⟨_, gMul_mod rfl, rfl, ?_⟩ | refine ⟨_, gMod_k rfl, rfl, ?_⟩ | refine ⟨_, gDiv_k rfl, rfl, ?_⟩ | refine ⟨_, rfl, rfl, ?_⟩)
  | (show ∃ _, gEqX _ _ = _ ∧ _; with_unfolding_all first | refine ⟨_, eqX_i .., rfl, ?_⟩ | refine ⟨_, eqX_s .., rfl, ?_⟩)
  | (show ∃ _, gNeX _ _ = _ ∧ _; with_unfolding_all first | refine ⟨_, neX_i .., rfl, ?_⟩ | refine ⟨_, neX_s .., rfl, ?_⟩)
  | (show ∃ _, gB _ _ _ = _ ∧ _; with_unfolding_all first | refine ⟨_, rfl, rfl, ?_⟩ | refine ⟨_, rfl, ?_⟩)
  | (show ∃ _, gIx _ _ = _ ∧ _; with_unfolding_all refine ⟨_, rfl, ?_⟩)
  | (show ∃ _, gIsi _ _ = _ ∧ _; with_unfolding_all refine ⟨_, rfl, rfl, ?_⟩)
  | (show ∃ _, gLen1 _ = _ ∧ _; with_unfolding_all refine ⟨_, rfl, rfl, ?_⟩)
  | (show ∃ _, gInt _ = _ ∧ _; with_unfolding_all refine ⟨_, rfl, rfl, ?_⟩)
  | (show ∃ _, _ = D.bl _ ∧ _; with_unfolding_all refine ⟨_, rfl, ?_⟩)
  | (show ∃ _, _ = D.int _ ∧ _; with_unfolding_all refine ⟨_, rfl, ?_⟩)))
noncomputable def lw0 : SS := (sAsg (sCall 12 2 sem__law_ordered (agBo 1 (agVa (pkE (sCall 0 2 sem__law_pick (agBo 1 (agVa (pkE (sLst 1 (saCons (sC (.int 5)) (saCons (sC (.int 7)) (saCons (sC (.int 9)) saNil))))) agNil)))) agNil))) (gTupS 2 (gsCons (gSet 3) (gsCons (gSet 4) gsNil))))
noncomputable def lw1 : SS := (sIf (sTv (sOp false gEqX (pkE (sCall 2 2 sem__law_draw (agBo 1 (agVa (pkE (sC (.int 3))) agNil)))) (pkE (sC (.int 0))))) (sSet 4 (sConv true (sItm (pkE (sComp 0 (sIt (sItm (pkE (sVar 4)))) (gSet 5) sYes (sOp false gSub (pkE (sC (.int 1))) (sPk 5)) [5]))))) sSkip)
noncomputable def lw2 : SS := (sParN [6, 7] (saCons (sC1 gRepr (pkE (sTup (saCons (sVar 3) (saCons (sVar 4) saNil))))) (saCons (sFz (sCall 5 2 sem__law_levels (agVa (pkE (sVar 3)) (agVa (pkE (sVar 4)) agNil)))) saNil)))
noncomputable def lw3 : SS := (sSet 9 (sConv true (sItm (pkE (sComp 0 (sIt (sItm (sSub false (pkE (sVar 3)) (pkE (sC (.int 1)))))) (gSet 8) sYes (sCall 2 2 sem__law_draw (agBo 1 (agVa (pkE (sC (.int 2))) agNil))) [8])))))
noncomputable def lw4 : SS := (sSet 11 (sFz (sCat (sItm (pkE (sLst 1 (saCons (sVar 4) (saCons (sVar 9) (saCons (sTup saNil) (saCons (sC .non) (saCons (sCall 3 2 (sem__law_any 6) (agBo 1 (agVa (pkE (sC (.int 3))) agNil))) saNil)))))))) (sItm (pkE (sComp 0 (sRg1 (pkE (sC (.int 6)))) (gSet 10) sYes (sCall 3 3 sem__law_bent_tuple (agBo 1 (agVa (pkE (sVar 4)) (agVa (pkE (sC (.int 2))) agNil)))) [10]))))))
noncomputable def lw5 : SS := (sFor (sEn (sItm (pkE (sVar 11)))) (gTupS 2 (gsCons (gSet 12) (gsCons (gSet 13) gsNil))) (sSeq (sPar 14 15 (saCons (sFz (sCall 7 2 sem__law_closed_fault (agVa (pkE (sVar 3)) (agVa (pkE (sVar 13)) agNil)))) (saCons (sC1 gRepr (sPk 13)) saNil))) (sSeq (sSet 16 (sFz (sIte (sTv (sOp false gEqX (sPk 12) (pkE (sC (.int 1))))) (sCall 6 2 sem_closed_error (agKw pm_kw10 agNil (agVa (pkE (sVar 13)) (agVa (pkE (sVar 3)) agNil)))) (sCall 6 2 sem_closed_error (agVa (pkE (sVar 3)) (agVa (pkE (sVar 13)) agNil)))))) (sIf (sOr (sTv (sOp false gNeX (pkE (sC1 gRepr (sPk 16))) (pkE (sC1 gRepr (sPk 14))))) (sTv (sOp false gNeX (pkE (sC1 gRepr (sPk 13))) (sPk 15)))) (sRet (sC (.bl false))) sSkip))) [12, 13, 14, 15, 16])
noncomputable def lw6 : SS := (sIf (sTv (sOp false gNeX (pkE (sC1 gRepr (pkE (sLst 1 (saCons (sCall 1 2 sem_order_levels (agVa (pkE (sVar 3)) (agVa (pkE (sVar 4)) agNil))) (saCons (sCall 1 2 sem_order_levels (agKw pm_kw10 agNil (agVa (pkE (sVar 4)) (agVa (pkE (sVar 3)) agNil)))) saNil)))))) (pkE (sC1 gRepr (pkE (sLst 1 (saCons (sVar 7) (saCons (sVar 7) saNil)))))))) (sRet (sC (.bl false))) sSkip)
noncomputable def lw7 : SS := (sIf (sTv (sOp false gNeX (pkE (sComp 0 (sIt (sItm (sSub false (pkE (sVar 3)) (pkE (sC (.int 1)))))) (gTupS 2 (gsCons (gSet 17) (gsCons (gSet 18) gsNil))) (sTv (sOp false gEqX (sSub false (sPk 7) (sPk 17)) (sSub false (sPk 7) (sPk 18)))) (sC (.int 1)) [17, 18])) (pkE (sLst 1 saNil)))) (sRet (sC (.bl false))) sSkip)
noncomputable def lw8 : SS := (sParN [19, 20] (saCons (sFz (sCall 3 2 sem_longest_chain (agVa (pkE (sVar 3)) (agVa (pkE (sVar 4)) agNil)))) (saCons (sFz (sCall 2 2 sem__law_led (agVa (pkE (sVar 3)) (agVa (pkE (sVar 4)) agNil)))) saNil)))
noncomputable def lw9 : SS := (sIf (sOr (sTv (sOp false gNeX (pkE (sC1 gRepr (pkE (sCall 3 2 sem_longest_chain (agKw pm_kw10 agNil (agVa (pkE (sVar 4)) (agVa (pkE (sVar 3)) agNil))))))) (pkE (sC1 gRepr (sPk 19))))) (sNot (sTv (sC1 (gIsi "tuple") (sPk 19))))) (sRet (sC (.bl false))) sSkip)
noncomputable def lw10 : SS := (sIf (sNot (sTv (sC1 gAll (pkE (sComp 0 (sIt (sItm (pkE (sVar 19)))) (gSet 21) sYes (sCall 0 2 sem__law_is_house (agVa (pkE (sVar 21)) (agVa (sSub false (pkE (sVar 3)) (pkE (sC (.int 0)))) agNil))) [21]))))) (sRet (sC (.bl false))) sSkip)
noncomputable def lw11 : SS := (sIf (sTv (sOp false gNeX (pkE (sComp 0 (sZip1 (sItm (pkE (sVar 19))) (sItm (pkE (sSl (sItm (pkE (sVar 19))) (soSome (pkE (sC (.int 1)))) soNone)))) (gSet 22) (sTv (sOp false (gInX true) (sPk 22) (sPk 20))) (sC (.int 1)) [22])) (pkE (sLst 1 saNil)))) (sRet (sC (.bl false))) sSkip)
noncomputable def lw12 : SS := (sSet 24 (sC1 gMaxL (pkE (sCat (sItm (pkE (sLst 1 (saCons (sC (.int 0)) saNil)))) (sItm (pkE (sComp 0 (sIt (sItm (pkE (sVar 7)))) (gSet 23) sYes (sOp false gAdd (sPk 23) (pkE (sC (.int 1)))) [23])))))))
noncomputable def lw13 : SS := (sIf (sOr (sTv (sOp false gNeX (pkE (sC1 gLen1 (sPk 19))) (sPk 24))) (sOr (sTv (sOp false gNeX (pkE (sCall 5 1 sem__law_greatest_full (agVa (pkE (sVar 3)) agNil))) (sPk 24))) (sTv (sOp false gNeX (pkE (sCall 8 1 sem_full_size (agVa (pkE (sVar 3)) agNil))) (sPk 24))))) (sRet (sC (.bl false))) sSkip)
noncomputable def lw14 : SS := (sIf (sAnd (sTv (sChain gLt gLt (pkE (sC (.int 0))) (sSub false (sPk 3) (pkE (sC (.int 0)))) (pkE (sC (.int 7))))) (sTv (sOp false gGt (sPk 24) (pkE (sC (.int 1)))))) (sIf (sOr (sTv (sIsN false (pkE (sCall 0 2 sem_any_map (agVa (pkE (sVar 3)) (agVa (pkE (sCall 3 1 sem_full_web (agVa (pkE (sVar 24)) agNil))) agNil)))))) (sTv (sIsN true (pkE (sCall 0 2 sem_any_map (agVa (pkE (sVar 3)) (agVa (pkE (sCall 3 1 sem_full_web (agVa (pkE (sOp false gSub (sPk 24) (pkE (sC (.int 1))))) agNil))) agNil))))))) (sRet (sC (.bl false))) sSkip) sSkip)
noncomputable def lw15 : SS := (sIf (sTv (sOp false gNeX (pkE (sC1 gRepr (pkE (sTup (saCons (sVar 3) (saCons (sVar 4) saNil)))))) (sPk 6))) (sRet (sC (.bl false))) sSkip)
theorem lw_eq : sem_law = (sSeq (sSet 1 (sCall 3 1 sem__law_deck (agVa (pkE (sVar 0)) agNil))) (sSeq (sFor (sRg1 (pkE (sC (.int 4)))) (gSet 2) (sSeq lw0 (sSeq lw1 (sSeq lw2 (sSeq lw3 (sSeq lw4 (sSeq lw5 (sSeq lw6 (sSeq lw7 (sSeq lw8 (sSeq lw9 (sSeq lw10 (sSeq lw11 (sSeq lw12 (sSeq lw13 (sSeq lw14 lw15))))))))))))))) [2, 3, 4, 6, 7, 9, 11, 14, 15, 16, 19, 20, 24]) (sRet (sC (.bl true))))) := rfl
variable {N : En → Prop} {R : Rv → En → Prop} {B C : En → Prop}
/-- a web with a closed order -/
structure OO (n : Nat) (R : List (Nat × Nat)) (ws : List Nat) : Prop where
  ok : WOK n R
  ln : ws.length = R.length
  w1 : ∀ w ∈ ws, w ≤ 1
  so : M88.SOr n (arcs R ws)
theorem OrdOk.oo {most n : Nat} {R : List (Nat × Nat)} {ws : List Nat} (h : OrdOk most n R ws) : OO n R ws := ⟨h.ok, h.ln, h.w1, h.so⟩
theorem arcs_flip : ∀ (R : List (Nat × Nat)) (ws : List Nat), (∀ w ∈ ws, w ≤ 1) → arcs R (ws.map fun w => 1 - w) = (arcs R ws).map fun p => (p.2, p.1)
  | [], _, _ => rfl
  | _ :: _, [], _ => rfl
  | r :: R, w :: ws, h => by
    have ih := arcs_flip R ws fun x hx => h x (by simp [hx])
    have hw := h w (by simp)
    unfold arcs at ih ⊢
    simp only [List.map_cons, List.zip_cons_cons]
    rw [ih]
    congr 1
    unfold arc
    simp only
    by_cases e : w = 0
    · subst e; simp
    · have : w = 1 := by omega
      subst this; simp
theorem OO.flip {n : Nat} {R : List (Nat × Nat)} {ws : List Nat} (h : OO n R ws) : OO n R (ws.map fun w => 1 - w) where
  ok := h.ok
  ln := by simpa using h.ln
  w1 := fun w hw => by obtain ⟨x, _, rfl⟩ := List.mem_map.mp hw; omega
  so := by
    rw [arcs_flip R ws h.w1]
    have hm : ∀ {a b : Nat}, (a, b) ∈ (arcs R ws).map (fun p => (p.2, p.1)) ↔ (b, a) ∈ arcs R ws := by
      intro a b
      rw [List.mem_map]
      constructor
      · rintro ⟨⟨x, y⟩, hx, e⟩
        simp only [Prod.mk.injEq] at e
        obtain ⟨rfl, rfl⟩ := e
        exact hx
      · intro hx; exact ⟨(b, a), hx, rfl⟩
    exact ⟨fun m => (h.so.lt (hm.mp m)).symm, fun m => h.so.irr (hm.mp m), fun m1 m2 => hm.mpr (h.so.tr (hm.mp m2) (hm.mp m1))⟩
abbrev orD (ws : List Nat) : D := .tup (ws.map iD)
theorem w_orderedC {i : Nat} {g : List Int} {m t : Int} {mm : Nat} {e : En} {s : SP} {Q : Rv → En → Prop} (most : Nat) (hmo : most ≤ 9) (hg : g.length ≤ 63) (hm : mm ≠ 2) (hi : ∃ s, e[i]? = some (some s))
    (h : W s (fun d e1 => ∃ (g : List Int) (t : Int), g.length ≤ 63 ∧ (∃ k : Nat, d = iD k ∧ k ≤ 9) ∧ e1[i]? = some (some ⟨dk g m t, 2, mm⟩) ∧ ∀ g' t' n Rr ws, g'.length ≤ 63 → OO n Rr ws → Q (.tup [wD n Rr, orD ws], 0) (e1.set i (some ⟨dk g' m t', 2, mm⟩))) e) : W (sCall 12 2 sem__law_ordered (agBo i (agVa s agNil))) Q e := by
  refine w_call (w_gBo hi (w_gVa (h.mono fun d e1 ⟨g, t, hg, ⟨k, hd, hk⟩, he, q⟩ => w_gNil ⟨[some ⟨dk g m t, 2, 1⟩, some ⟨iD k, 0, 0⟩], ?_, ⟨rfl, by simp [agI]⟩, ?_⟩)))
  · subst hd
    simp [agSl, he, hm]
  · refine w_ordered k hk g m t hg fun g' t' n Rr ws rest h1 h2 => ?_
    have e0 : backE [.bo i, .va d] (some ⟨dk g' m t', 2, 1⟩ :: rest) e1 = e1.set i (some ⟨dk g' m t', 2, mm⟩) := by
      cases rest <;> simp [backE, he]
    rw [e0]
    exact q g' t' n Rr ws h1 h2.oo
theorem l0 {ns : List Int} {g : List Int} {m t : Int} {k : Nat} (hg : g.length ≤ 63)
    (q : ∀ g t n Rr ws, g.length ≤ 63 → OO n Rr ws → N [some ⟨.scr ns, 0, 0⟩, some ⟨dk g m t, 2, 0⟩, some ⟨iD k, 0, 0⟩, some ⟨wD n Rr, 0, 0⟩, some ⟨orD ws, 0, 0⟩, none, none, none, none, none, none, none, none, none, none, none, none, none, none, none, none, none, none, none, none]) :
    WS lw0 N R B C [some ⟨.scr ns, 0, 0⟩, some ⟨dk g m t, 2, 0⟩, some ⟨iD k, 0, 0⟩, none, none, none, none, none, none, none, none, none, none, none, none, none, none, none, none, none, none, none, none, none, none] := by
  unfold lw0
  clean_wf
  refine w_orderedC (g := g) (m := m) (t := t) (mm := 0) 9 (by omega) hg (by decide) ⟨_, rfl⟩ ?_
  clean_wf
  refine w_pickC (g := g) (m := m) (t := t) (mm := 0) hg (by decide) ⟨_, rfl⟩ ?_
  clean_wf
  refine ⟨[iD 5, iD 7, iD 9], false, rfl, ⟨by simp, by simp⟩, rfl, fun g2 t2 d h2 hd => ?_⟩
  refine ⟨g2, t2, h2, ?_, rfl, fun g3 t3 n Rr ws h3 oo => ?_⟩
  · simp only [List.mem_cons, List.not_mem_nil, or_false] at hd
    rcases hd with rfl | rfl | rfl <;> exact ⟨_, rfl, by omega⟩
  clean_wf
  exact q g3 t3 n Rr ws h3 oo
theorem l1 {ns : List Int} {g : List Int} {m t : Int} {k n : Nat} {Rr : List (Nat × Nat)} {ws : List Nat} (hg : g.length ≤ 63) (oo : OO n Rr ws)
    (q : ∀ g t ws, g.length ≤ 63 → OO n Rr ws → N [some ⟨.scr ns, 0, 0⟩, some ⟨dk g m t, 2, 0⟩, some ⟨iD k, 0, 0⟩, some ⟨wD n Rr, 0, 0⟩, some ⟨orD ws, 0, 0⟩, none, none, none, none, none, none, none, none, none, none, none, none, none, none, none, none, none, none, none, none]) :
    WS lw1 N R B C [some ⟨.scr ns, 0, 0⟩, some ⟨dk g m t, 2, 0⟩, some ⟨iD k, 0, 0⟩, some ⟨wD n Rr, 0, 0⟩, some ⟨orD ws, 0, 0⟩, none, none, none, none, none, none, none, none, none, none, none, none, none, none, none, none, none, none, none, none] := by
  unfold lw1
  clean_wf
  refine w_drawN (g := g) (m := m) (t := t) (v := 3) (mm := 0) hg (by decide) (by omega) ⟨_, rfl⟩ ?_
  clean_wf
  intro g1 t1 x h1 hx
  clean_wf
  refine ite_i (fun c => ?_) (fun c => ?_)
  · clean_wf
    refine w_compA (xs := ws) (f := iD) (fun w => iD (1 - w)) ?_
    clean_wf
    refine ⟨fun w hw => ?_, ?_⟩
    · have := oo.w1 w hw
      clean_wf
      refine ⟨?_, rfl⟩
      show D.int _ = D.int _
      congr 1; omega
    clean_wf
    have e : ws.map (fun w => iD (1 - w)) = (ws.map fun w => 1 - w).map iD := by rw [List.map_map]; rfl
    rw [e]
    exact q g1 t1 _ h1 oo.flip
  · clean_wf
    exact q g1 t1 ws h1 oo
end K88
set_option Elab.async false
set_option linter.all false
set_option autoImplicit false
set_option maxRecDepth 100000
set_option maxHeartbeats 4000000
/-! Q88m: the law's pieces, one after another. -/
namespace K88
open PySem PySem.Spec L2 Ev
local macro_rules | `(tactic| clean_wf) => `(tactic| repeat' (with_reducible first
  | refine fn_i ?_ | refine ws_seq ?_ | refine ws_if ?_ | refine ws_ret ?_ | refine ws_skip ?_ | refine ws_setE ?_ | refine ws_asg ?_ | refine ws_parN ?_ | refine ws_par ?_
  | refine w_op ?_ | refine w_pkE ?_ | refine w_pkV ?_ | refine w_c ?_ | refine w_c1 ?_ | refine w_sub ?_ | refine w_fz ?_ | refine w_tv ?_
  | refine w_and ?_ | refine w_or ?_ | refine w_not ?_ | refine w_andV ?_ | refine w_notV ?_ | refine w_ite ?_ | refine w_isN ?_ | refine w_yes ?_
  | refine w_itm ?_ | refine w_aNil ?_ | refine w_aCons ?_ | refine w_tup ?_ | refine w_lst ?_ | refine w_conv ?_ | refine w_cat ?_ | refine w_rev ?_
  | refine w_oNone ?_ | refine w_oSome ?_ | refine w_sl ?_ | refine w_it ?_ | refine w_rgN ?_ | refine w_lstRg ?_ | refine w_en ?_ | refine w_zip ?_ | refine w_zip1 ?_
  | refine w_im ?_ | refine w_bits ?_ | refine w_rg2N ?_ | refine w_rgDnN ?_ | refine w_chain ?_ | refine w_dNew ?_ | refine w_gNil ?_ | refine w_gVa ?_ | refine w_gKw ?_
  | refine wg_allNil ?_ | refine wg_allCons ?_ | (show WG (gPutT _ (plVar _) _ _) _ _; refine wg_putT ?_)
  | refine w_pk (by with_unfolding_all exact rfl) ?_ | refine w_var0 (by with_unfolding_all exact rfl) (.inl (by with_unfolding_all exact rfl)) ?_ | refine w_varF' (by with_unfolding_all exact rfl) (by with_unfolding_all exact rfl) ?_ | refine w_mv (by with_unfolding_all exact rfl) (by with_unfolding_all exact rfl) ?_
  | refine wg_setE (by with_unfolding_all exact rfl) (by with_unfolding_all exact rfl) ?_ | refine wg_tupS (by with_unfolding_all exact rfl) ?_ | refine w_plVar ⟨_, by with_unfolding_all exact rfl⟩ ?_
  | refine ite_t (by with_unfolding_all exact rfl) ?_ | refine ite_f (by with_unfolding_all exact rfl) ?_
  | (show WG (gsCons _ _ _) _ _; with_unfolding_all refine wg_sCons ?_)
  | (show WG (gsNil _) _ _; with_unfolding_all refine wg_sNil ?_)
  | (show @Eq Rv _ _; rfl)
  | (show WG (clr _) _ _; with_unfolding_all refine ⟨_, rfl, ?_⟩)
  | (show @Eq En _ _; with_unfolding_all rfl)
  | (show And (_ ≤ _) _; refine ⟨by omega, ?_⟩)
  | (show And (_ < _) _; refine ⟨by omega, ?_⟩)
  | (show And _ _; with_unfolding_all first | refine ⟨⟨rfl, rfl⟩, ?_⟩ | refine ⟨rfl, ?_⟩ | refine ⟨Nat.le_of_ble_eq_true rfl, ?_⟩ | refine ⟨⟨Nat.le_of_ble_eq_true rfl, rfl⟩, ?_⟩)
  | (show Or _ _; with_unfolding_all first | refine .inl ⟨_, rfl, ?_⟩ | refine .inr ⟨_, rfl, ?_⟩)
  | (show ∃ _, gMax2 _ _ = _ ∧ _; refine ⟨_, max2_n _ _, rfl, ?_⟩)
  | (show ∃ _, gAnd _ _ = _ ∧ _; refine ⟨_, and_n _ _, rfl, ?_⟩)
  | (show ∃ _, gOr _ _ = _ ∧ _; refine ⟨_, or_n _ _, rfl, ?_⟩)
  | (show ∃ _, gShr _ _ = _ ∧ _; refine ⟨_, shr_n _ _, rfl, ?_⟩)
  | (show ∃ _, gShl _ _ = _ ∧ _; refine ⟨_, shl_n (by omega), rfl, ?_⟩)
  | (show ∃ _, gI _ _ _ = _ ∧ _; with_unfolding_all first
    | refine ⟨_, gMul_l rfl, rfl, ?_⟩ | refine ⟨_, gMul_r rfl, rfl, ?_⟩ | refine ⟨_, gMul_mod rfl, rfl, ?_⟩ | refine ⟨_, gMod_k rfl, rfl, ?_⟩ | refine ⟨_, gDiv_k rfl, rfl, ?_⟩ | refine ⟨_, rfl, rfl, ?_⟩)
  | (show ∃ _, gEqX _ _ = _ ∧ _; with_unfolding_all first | refine ⟨_, eqX_i .., rfl, ?_⟩ | refine ⟨_, eqX_s .., rfl, ?_⟩)
  | (show ∃ _, gNeX _ _ = _ ∧ _; with_unfolding_all first | refine ⟨_, neX_i .., rfl, ?_⟩ | refine ⟨_, neX_s .., rfl, ?_⟩)
  | (show ∃ _, gB _ _ _ = _ ∧ _; with_unfolding_all first | refine ⟨_, rfl, rfl, ?_⟩ | refine ⟨_, rfl, ?_⟩)
  | (show ∃ _, gIx _ _ = _ ∧ _; with_unfolding_all refine ⟨_, rfl, ?_⟩)
  | (show ∃ _, gIsi _ _ = _ ∧ _; with_unfolding_all refine ⟨_, rfl, rfl, ?_⟩)
  | (show ∃ _, gLen1 _ = _ ∧ _; with_unfolding_all refine ⟨_, rfl, rfl, ?_⟩)
  | (show ∃ _, gInt _ = _ ∧ _; with_unfolding_all refine ⟨_, rfl, rfl, ?_⟩)
  | (show ∃ _, _ = D.bl _ ∧ _; with_unfolding_all refine ⟨_, rfl, ?_⟩)
  | (show ∃ _, _ = D.int _ ∧ _; with_unfolding_all refine ⟨_, rfl, ?_⟩)))
variable {N : En → Prop} {R : Rv → En → Prop} {B C : En → Prop}
abbrev LE (ns g : List Int) (m t : Int) (k n : Nat) (Rr : List (Nat × Nat)) (ws : List Nat) (x6 x7 x9 x11 x19 x20 x24 : Option Ev.Slot) : En := [some ⟨.scr ns, 0, 0⟩, some ⟨dk g m t, 2, 0⟩, some ⟨iD k, 0, 0⟩, some ⟨wD n Rr, 0, 0⟩, some ⟨orD ws, 0, 0⟩, none, x6, x7, none, x9, none, x11, none, none, none, none, none, none, none, x19, x20, none, none, none, x24]
abbrev fz (d : D) : Option Ev.Slot := some ⟨d, 0, 0⟩
theorem VI.sm {d : D} (h : VI d) : d.sh 60 = true ∧ d.lf = true ∧ d.wt ≤ 70 := ⟨D.sh_mono (by decide) h.sh, h.lf, h.wt⟩
/-- data of a small size -/
structure Sm (w k : Nat) (d : D) : Prop where
  sh : d.sh k = true
  lf : d.lf = true
  wt : d.wt ≤ w
theorem sm_repr {w k : Nat} {d : D} (h : Sm w k d) (hk : k ≤ 64) (hw : w ≤ 600000) : gRepr d = some (rpr d) := repr_ok (D.sh_mono hk h.sh) h.lf (Nat.le_trans h.wt hw)
theorem sm_seq {w k : Nat} {ds : List D} (h : ∀ d ∈ ds, Sm w k d) (b : Bool) : Sm (ds.length * (w + 1)) (k + 1) (if b = true then .tup ds else .lst ds) := by
  have h1 : shs ds k = true := shs_mem _ _ fun d hd => (h d hd).sh
  have h2 : lfs ds = true := by rw [lfs_all, List.all_eq_true]; exact fun d hd => (h d hd).lf
  have h3 := wts_le (w := w) fun d hd => (h d hd).wt
  cases b
  · exact ⟨by simpa [D.sh] using h1, by simpa [D.lf] using h2, by simpa [D.wt] using h3⟩
  · exact ⟨by simpa [D.sh] using h1, by simpa [D.lf] using h2, by simpa [D.wt] using h3⟩
theorem Sm.le {w w' k k' : Nat} {d : D} (h : Sm w k d) (hw : w ≤ w') (hk : k ≤ k') : Sm w' k' d := ⟨D.sh_mono hk h.sh, h.lf, Nat.le_trans h.wt hw⟩
theorem sm_int {k : Nat} (i : Int) (h : i.natAbs < 10 ^ 20) : Sm 70 k (.int i) := ⟨by simp [D.sh], by simp only [D.lf]; exact decide_eq_true h, by simp [D.wt]⟩
theorem sm_nat {k : Nat} (i : Nat) (h : i < 10 ^ 20) : Sm 70 k (iD i) := sm_int _ (by simpa using h)
theorem sm_pair (p : Nat × Nat) (h1 : p.1 < 10 ^ 20) (h2 : p.2 < 10 ^ 20) : Sm 142 1 (pD p) := by
  have := sm_seq (k := 0) (ds := [iD p.1, iD p.2]) (w := 70) (by
    intro d hd
    simp only [List.mem_cons, List.not_mem_nil, or_false] at hd
    rcases hd with rfl | rfl
    · exact sm_nat _ h1
    · exact sm_nat _ h2) true
  exact this
theorem sm_web {n : Nat} {Rr : List (Nat × Nat)} (o : WOK n Rr) : Sm 150000 3 (wD n Rr) := by
  have hn := o.n9
  have h1 : Sm (Rr.length * 143) 2 (.tup (Rr.map pD)) := by
    have := sm_seq (ds := Rr.map pD) (w := 142) (k := 1) (fun d hd => by
      obtain ⟨p, hp, rfl⟩ := List.mem_map.mp hd
      have := o.lt p hp
      exact sm_pair p (by omega) (by omega)) true
    simpa using this
  have h2 : Rr.length * 143 ≤ 1000 * 143 := Nat.mul_le_mul_right _ (Nat.le_of_lt o.sm)
  have := sm_seq (ds := [iD n, .tup (Rr.map pD)]) (w := 143000) (k := 2) (fun d hd => by
    simp only [List.mem_cons, List.not_mem_nil, or_false] at hd
    rcases hd with rfl | rfl
    · exact (sm_nat (k := 0) _ (by omega)).le (by omega) (by omega)
    · exact h1.le (by omega) (by omega)) true
  refine ⟨this.sh, this.lf, ?_⟩
  have h3 : D.wt (.tup [iD n, .tup (Rr.map pD)]) = 70 + 1 + (D.wt (.tup (Rr.map pD)) + 1 + 0) := by simp [D.wt, wts]
  have := h1.wt
  show D.wt (.tup [iD n, .tup (Rr.map pD)]) ≤ 150000
  rw [h3]
  omega
theorem sm_nats (l : List Nat) (h : ∀ x ∈ l, x < 10 ^ 20) (b : Bool) : Sm (l.length * 71) 1 (if b = true then .tup (l.map iD) else .lst (l.map iD)) := by
  have := sm_seq (ds := l.map iD) (w := 70) (k := 0) (fun d hd => by
    obtain ⟨p, hp, rfl⟩ := List.mem_map.mp hd
    exact sm_nat p (h p hp)) b
  simpa using this
theorem sm_wo {n : Nat} {Rr : List (Nat × Nat)} {ws : List Nat} (oo : OO n Rr ws) : Sm 400000 4 (.tup [wD n Rr, orD ws]) := by
  have h1 := sm_web oo.ok
  have h2 := sm_nats ws (fun x hx => by have := oo.w1 x hx; omega) true
  have h3 : ws.length * 71 ≤ 1000 * 71 := Nat.mul_le_mul_right _ (by have := oo.ln; have := oo.ok.sm; omega)
  have := sm_seq (ds := [wD n Rr, orD ws]) (w := 150000) (k := 3) (fun d hd => by
    simp only [List.mem_cons, List.not_mem_nil, or_false] at hd
    rcases hd with rfl | rfl
    · exact h1
    · exact h2.le (by omega) (by omega)) true
  exact this.le (by simp) (by omega)
theorem best_len {n : Nat} {A : List (Nat × Nat)} (so : M88.SOr n A) {v : Nat} (hv : v < n) : 1 ≤ (M88.best n A v).length ∧ (M88.best n A v).length ≤ n := ⟨M88.best_pos so hv, inv_len so (M88.inv_best so) hv⟩
theorem sm_due {n : Nat} {A : List (Nat × Nat)} (so : M88.SOr n A) (hn : n ≤ 9) : Sm 1000 1 (.tup (lvL n (M88.best n A))) := by
  have := sm_seq (ds := lvL n (M88.best n A)) (w := 70) (k := 0) (fun d hd => by
    obtain ⟨v, hv, rfl⟩ := List.mem_map.mp hd
    have := best_len so (List.mem_range.mp hv)
    exact sm_int _ (by omega)) true
  refine this.le ?_ (by omega)
  simp
  omega
theorem l2 {ns g : List Int} {m t : Int} {k n : Nat} {Rr : List (Nat × Nat)} {ws : List Nat} (oo : OO n Rr ws)
    (q : N (LE ns g m t k n Rr ws (fz (rpr (.tup [wD n Rr, orD ws]))) (fz (.tup (lvL n (M88.best n (arcs Rr ws))))) none none none none none)) :
    WS lw2 N R B C (LE ns g m t k n Rr ws none none none none none none none) := by
  unfold lw2
  clean_wf
  refine ⟨_, sm_repr (sm_wo oo) (by decide) (by decide), rfl, ?_⟩
  clean_wf
  refine w_callK [wD n Rr, orD ws] _ (f__law_levels oo.ok ws oo.so) rfl ?_
  clean_wf
  exact q
theorem l3 {ns g : List Int} {m t : Int} {k n : Nat} {Rr : List (Nat × Nat)} {ws : List Nat} {x6 x7 : Option Ev.Slot} (hg : g.length ≤ 63)
    (q : ∀ g t vs, g.length ≤ 63 → vs.length = Rr.length → (∀ v ∈ vs, v ≤ 1) → N (LE ns g m t k n Rr ws x6 x7 (fz (orD vs)) none none none none)) :
    WS lw3 N R B C (LE ns g m t k n Rr ws x6 x7 none none none none none) := by
  unfold lw3
  clean_wf
  refine w_comp ?_
  clean_wf
  refine ⟨fun ds acc e => ∃ (g : List Int) (t : Int) (vs : List Nat), g.length ≤ 63 ∧ ds.length + vs.length = Rr.length ∧ (∀ v ∈ vs, v ≤ 1) ∧ acc = vs.map iD ∧ e = LE ns g m t k n Rr ws x6 x7 none none none none none, ⟨g, t, [], hg, by simp, by simp, rfl, rfl⟩, ?_, ?_⟩
  · rintro d ds acc e ⟨g, t, vs, hg, hl, hv, rfl, rfl⟩
    clean_wf
    refine w_drawN (g := g) (m := m) (t := t) (v := 2) (mm := 0) hg (by decide) (by omega) ⟨_, rfl⟩ ?_
    clean_wf
    intro g1 t1 x h1 hx
    clean_wf
    refine ⟨g1, t1, vs ++ [x], h1, by simp at hl ⊢; omega, fun v hv' => ?_, by simp, rfl⟩
    rcases List.mem_append.mp hv' with h | h
    · exact hv v h
    · have : v = x := by simpa using h
      omega
  · rintro acc e ⟨g, t, vs, hg, hl, hv, rfl, rfl⟩
    clean_wf
    exact q g t vs hg (by simpa using hl) hv
theorem vok_or {Rr : List (Nat × Nat)} {vs : List Nat} (hl : vs.length = Rr.length) (hs : Rr.length < 1000) (hv : ∀ v ∈ vs, v ≤ 1) : Vok 200000 6 (orD vs) := by
  have h := vok_seq (vi_row hv) (by rw [List.length_map]; omega) true
  exact ⟨h.pl, h.it, D.sh_mono (by decide) h.sh, h.lf, h.wt⟩
theorem Vok.up {w k : Nat} {d : D} (h : Vok w k d) (hw : w ≤ 200000) (hk : k ≤ 6) : Vok 200000 6 d := ⟨h.pl, h.it, D.sh_mono hk h.sh, h.lf, Nat.le_trans h.wt hw⟩
theorem w_bentC {i : Nat} {g : List Int} {m t : Int} {mm : Nat} {e : En} {s : SP} {s2 : SP} {Q : Rv → En → Prop} (ws : List Nat) (hw : ∀ w ∈ ws, w ≤ 1) (hl : ws.length < 1000) (hg : g.length ≤ 63) (hm : mm ≠ 2) (hi : ∃ s, e[i]? = some (some s))
    (h : W s (fun d e1 => d = orD ws ∧ W s2 (fun d2 e1 => d2 = .int 2 ∧ e1[i]? = some (some ⟨dk g m t, 2, mm⟩) ∧ ∀ g' t' d, g'.length ≤ 63 → Vok 200000 6 d → Q (d, 0) (e1.set i (some ⟨dk g' m t', 2, mm⟩))) e1) e) : W (sCall 3 3 sem__law_bent_tuple (agBo i (agVa s (agVa s2 agNil)))) Q e := by
  refine w_call (w_gBo hi (w_gVa (h.mono fun d e1 ⟨hd, h2⟩ => w_gVa (h2.mono fun d2 e1 ⟨hd2, he, q⟩ => w_gNil ⟨[some ⟨dk g m t, 2, 1⟩, some ⟨orD ws, 0, 0⟩, some ⟨.int 2, 0, 0⟩], ?_, ⟨rfl, by simp [agI]⟩, ?_⟩))))
  · subst hd hd2
    simp [agSl, he, hm]
  · refine w_bent ws hw hl g m t hg fun g' t' d' rest h1 h2 => ?_
    have e0 : backE [.bo i, .va d, .va d2] (some ⟨dk g' m t', 2, 1⟩ :: rest) e1 = e1.set i (some ⟨dk g' m t', 2, mm⟩) := by
      rcases rest with _ | ⟨_, _ | ⟨_, _⟩⟩ <;> simp [backE, he]
    rw [e0]
    exact q g' t' d' h1 (h2.up (by omega) (by omega))
theorem l4 {ns g : List Int} {m t : Int} {k n : Nat} {Rr : List (Nat × Nat)} {ws vs : List Nat} {x6 x7 : Option Ev.Slot} (hg : g.length ≤ 63) (oo : OO n Rr ws) (hvl : vs.length = Rr.length) (hv : ∀ v ∈ vs, v ≤ 1)
    (q : ∀ g t us, g.length ≤ 63 → us.length ≤ 20 → (∀ u ∈ us, Vok 200000 6 u) → N (LE ns g m t k n Rr ws x6 x7 (fz (orD vs)) (fz (.lst us)) none none none)) :
    WS lw4 N R B C (LE ns g m t k n Rr ws x6 x7 (fz (orD vs)) none none none none) := by
  have hs := oo.ok.sm
  have v1 := vok_or oo.ln hs oo.w1
  have v2 := vok_or hvl hs hv
  unfold lw4
  clean_wf
  refine w_anyC (w_any 3 6 (by omega) (by omega)) (g := g) (m := m) (t := t) (mm := 0) hg (by decide) ⟨_, rfl⟩ ?_
  clean_wf
  intro g1 t1 da h1 va
  have va := va.up (by decide) (by decide)
  clean_wf
  refine w_comp ?_
  clean_wf
  refine ⟨fun ds acc e => ∃ (g : List Int) (t : Int), g.length ≤ 63 ∧ ds.length + acc.length ≤ 6 ∧ (∀ a ∈ acc, Vok 200000 6 a) ∧ e = LE ns g m t k n Rr ws x6 x7 (fz (orD vs)) none none none none, ⟨g1, t1, h1, by simp, by simp, rfl⟩, ?_, ?_⟩
  · rintro d ds acc e ⟨g, t, hg, hl, ha, rfl⟩
    clean_wf
    refine w_bentC (g := g) (m := m) (t := t) (mm := 0) ws oo.w1 (by have := oo.ln; omega) hg (by decide) ⟨_, rfl⟩ ?_
    clean_wf
    intro g2 t2 d2 h2 vd
    clean_wf
    refine ⟨g2, t2, h2, by simp at hl ⊢; omega, fun a hm => ?_, rfl⟩
    rcases List.mem_append.mp hm with hm | hm
    · exact ha a hm
    · have : a = d2 := by simpa using hm
      subst this; exact vd
  · rintro acc e ⟨g, t, hg, hl, ha, rfl⟩
    have hl : acc.length ≤ 6 := by simpa using hl
    clean_wf
    refine ⟨⟨rfl, by simp; omega⟩, ?_⟩
    clean_wf
    refine q g t ([orD ws, orD vs, .tup [], .non, da] ++ acc) hg (by simp; omega) ?_
    intro u hu
    rcases List.mem_append.mp hu with hu | hu
    · simp only [List.mem_cons, List.not_mem_nil, or_false] at hu
      rcases hu with rfl | rfl | rfl | rfl | rfl
      · exact v1
      · exact v2
      · exact ⟨rfl, rfl, by simp [D.sh, shs], by simp [D.lf, lfs], by simp [D.wt, wts]⟩
      · exact vok_non
      · exact va
    · exact ha u hu
theorem g1_lt {n : Nat} {A : List (Nat × Nat)} {x : Nat × Nat × Nat} (h : MG.g1 n A = some x) : x.1 < n ∧ x.2.1 < n ∧ x.2.2 < n := by
  unfold MG.g1 at h
  obtain ⟨p, hp, h⟩ := List.exists_of_findSome?_eq_some h
  obtain ⟨q, hq, h⟩ := List.exists_of_findSome?_eq_some h
  have h1 := MG.mem_sa.mp hp
  have h2 := MG.mem_sa.mp hq
  unfold MG.bad at h
  split at h
  · cases h; exact ⟨h1.1, h1.2.1, h2.2.1⟩
  · cases h
theorem sm_str {w k : Nat} (s : Str) (h1 : PyData.strOk s = true) (h2 : (s.cps.toList.all fun c => decide (c < 1114112)) = true) (h3 : s.cps.size ≤ w) : Sm w k (.str s) := ⟨by simpa [D.sh] using h1, by simpa [D.lf] using h2, by simpa [D.wt] using h3⟩
theorem sm_fault {n : Nat} {Rr : List (Nat × Nat)} (o : WOK n Rr) (v : D) : Sm 1000 3 (faultD n Rr v) := by
  have hn := o.n9
  have hf : Sm 1000 3 (.str "form") := sm_str _ (by decide +kernel) (by decide +kernel) (by decide +kernel)
  unfold faultD
  split
  · split
    · rename_i ds _
      cases e : MG.g1 n (arcs Rr (ds.map fun d => match d with | .int i => i.toNat | _ => 0)) with
      | none => exact ⟨by simp [gapD, D.sh], by simp [gapD, D.lf], by simp [gapD, D.wt]⟩
      | some x =>
        have := g1_lt e
        obtain ⟨i, j, k⟩ := x
        simp only at this
        have h := sm_seq (ds := [.str "gap", iD i, iD j, iD k]) (w := 70) (k := 0) (fun d hd => by
          simp only [List.mem_cons, List.not_mem_nil, or_false] at hd
          rcases hd with rfl | rfl | rfl | rfl
          · exact sm_str _ (by decide +kernel) (by decide +kernel) (by decide +kernel)
          · exact sm_nat _ (by omega)
          · exact sm_nat _ (by omega)
          · exact sm_nat _ (by omega)) true
        exact h.le (by simp) (by omega)
    · exact hf
  · exact hf
theorem l5 {ns g : List Int} {m t : Int} {k n : Nat} {Rr : List (Nat × Nat)} {ws : List Nat} {us : List D} {x6 x7 x9 : Option Ev.Slot} (oo : OO n Rr ws) (hl : us.length ≤ 20) (hu : ∀ u ∈ us, Vok 200000 6 u)
    (q : N (LE ns g m t k n Rr ws x6 x7 x9 (fz (.lst us)) none none none)) :
    WS lw5 N R B C (LE ns g m t k n Rr ws x6 x7 x9 (fz (.lst us)) none none none) := by
  unfold lw5
  refine ws_forL (xs := us.zipIdx) (f := fun p => .tup [iD p.2, p.1]) (fun dn e => e = LE ns g m t k n Rr ws x6 x7 x9 (fz (.lst us)) none none none) ?_ ?_ ?_
  · clean_wf
    refine ⟨?_, rfl⟩
    have := enumD_map (fun d : D => d) 0 us
    rw [List.map_id'] at this
    exact this
  · rintro dn ⟨u, p⟩ r e hx rfl
    have hup : us[p]? = some u := List.mem_zipIdx_iff_getElem? (x := (u, p)).mp (by rw [hx]; simp)
    have vu := hu u (List.mem_of_getElem? hup)
    clean_wf
    refine w_callK [wD n Rr, u] _ (f__law_closed_fault oo.ok u vu.pl vu.it) rfl ?_
    clean_wf
    refine ⟨_, sm_repr ⟨vu.sh, vu.lf, vu.wt⟩ (by decide) (by decide), rfl, ?_⟩
    clean_wf
    refine ⟨_, _, rfl, ?_⟩
    clean_wf
    refine ite_i (fun c => ?_) (fun c => ?_)
    · refine w_callK [wD n Rr, u] _ (f_closed_error oo.ok u vu.pl vu.it) rfl ?_
      clean_wf
      refine ⟨_, sm_repr (sm_fault oo.ok u) (by decide) (by decide), rfl, ?_⟩
      clean_wf
      refine ⟨_, sm_repr (sm_fault oo.ok u) (by decide) (by decide), rfl, ?_⟩
      clean_wf
      refine ite_f (by simp) ?_
      clean_wf
      refine ⟨_, sm_repr ⟨vu.sh, vu.lf, vu.wt⟩ (by decide) (by decide), rfl, ?_⟩
      clean_wf
      refine ite_f (by simp) ?_
      clean_wf
    · refine w_callK [wD n Rr, u] _ (f_closed_error oo.ok u vu.pl vu.it) rfl ?_
      clean_wf
      refine ⟨_, sm_repr (sm_fault oo.ok u) (by decide) (by decide), rfl, ?_⟩
      clean_wf
      refine ⟨_, sm_repr (sm_fault oo.ok u) (by decide) (by decide), rfl, ?_⟩
      clean_wf
      refine ite_f (by simp) ?_
      clean_wf
      refine ⟨_, sm_repr ⟨vu.sh, vu.lf, vu.wt⟩ (by decide) (by decide), rfl, ?_⟩
      clean_wf
      refine ite_f (by simp) ?_
      clean_wf
  · rintro e rfl
    exact q
end K88
set_option Elab.async false
set_option linter.all false
set_option autoImplicit false
set_option maxRecDepth 100000
set_option maxHeartbeats 4000000
/-! Q88n: the law's later pieces. -/
namespace K88
open PySem PySem.Spec L2 Ev
local macro_rules | `(tactic| clean_wf) => `(tactic| repeat' (with_reducible first
  | refine fn_i ?_ | refine ws_seq ?_ | refine ws_if ?_ | refine ws_ret ?_ | refine ws_skip ?_ | refine ws_setE ?_ | refine ws_asg ?_ | refine ws_parN ?_ | refine ws_par ?_
  | refine w_op ?_ | refine w_pkE ?_ | refine w_pkV ?_ | refine w_c ?_ | refine w_c1 ?_ | refine w_sub ?_ | refine w_fz ?_ | refine w_tv ?_
  | refine w_and ?_ | refine w_or ?_ | refine w_not ?_ | refine w_andV ?_ | refine w_notV ?_ | refine w_ite ?_ | refine w_isN ?_ | refine w_yes ?_
  | refine w_itm ?_ | refine w_aNil ?_ | refine w_aCons ?_ | refine w_tup ?_ | refine w_lst ?_ | refine w_conv ?_ | refine w_cat ?_ | refine w_rev ?_
  | refine w_oNone ?_ | refine w_oSome ?_ | refine w_sl ?_ | refine w_it ?_ | refine w_rgN ?_ | refine w_lstRg ?_ | refine w_en ?_ | refine w_zip ?_ | refine w_zip1 ?_
  | refine w_im ?_ | refine w_bits ?_ | refine w_rg2N ?_ | refine w_rgDnN ?_ | refine w_chain ?_ | refine w_dNew ?_ | refine w_gNil ?_ | refine w_gVa ?_ | refine w_gKw ?_
  | refine wg_allNil ?_ | refine wg_allCons ?_ | (show WG (gPutT _ (plVar _) _ _) _ _; refine wg_putT ?_)
  | refine w_pk (by with_unfolding_all exact rfl) ?_ | refine w_var0 (by with_unfolding_all exact rfl) (.inl (by with_unfolding_all exact rfl)) ?_ | refine w_varF' (by with_unfolding_all exact rfl) (by with_unfolding_all exact rfl) ?_ | refine w_mv (by with_unfolding_all exact rfl) (by with_unfolding_all exact rfl) ?_
  | refine wg_setE (by with_unfolding_all exact rfl) (by with_unfolding_all exact rfl) ?_ | refine wg_tupS (by with_unfolding_all exact rfl) ?_ | refine w_plVar ⟨_, by with_unfolding_all exact rfl⟩ ?_
  | refine ite_f (nd_self _) ?_ | refine ite_t (by with_unfolding_all exact rfl) ?_ | refine ite_f (by with_unfolding_all exact rfl) ?_
  | (show WG (gsCons _ _ _) _ _; with_unfolding_all refine wg_sCons ?_)
  | (show WG (gsNil _) _ _; with_unfolding_all refine wg_sNil ?_)
  | (show @Eq Rv _ _; rfl)
  | (show WG (clr _) _ _; with_unfolding_all refine ⟨_, rfl, ?_⟩)
  | (show @Eq En _ _; with_unfolding_all rfl)
  | (show And (_ ≤ _) _; refine ⟨by omega, ?_⟩)
  | (show And (_ < _) _; refine ⟨by omega, ?_⟩)
  | (show And _ _; with_unfolding_all first | refine ⟨⟨rfl, rfl⟩, ?_⟩ | refine ⟨rfl, ?_⟩ | refine ⟨Nat.le_of_ble_eq_true rfl, ?_⟩ | refine ⟨⟨Nat.le_of_ble_eq_true rfl, rfl⟩, ?_⟩)
  | (show Or _ _; with_unfolding_all first | refine .inl ⟨_, rfl, ?_⟩ | refine .inr ⟨_, rfl, ?_⟩)
  | (show ∃ _, gMax2 _ _ = _ ∧ _; refine ⟨_, max2_n _ _, rfl, ?_⟩)
  | (show ∃ _, gAnd _ _ = _ ∧ _; refine ⟨_, and_n _ _, rfl, ?_⟩)
  | (show ∃ _, gOr _ _ = _ ∧ _; refine ⟨_, or_n _ _, rfl, ?_⟩)
  | (show ∃ _, gShr _ _ = _ ∧ _; refine ⟨_, shr_n _ _, rfl, ?_⟩)
  | (show ∃ _, gShl _ _ = _ ∧ _; refine ⟨_, shl_n (by omega), rfl, ?_⟩)
  | (show ∃ _, gI _ _ _ = _ ∧ _; with_unfolding_all first
    | refine ⟨_, gMul_l rfl, rfl, ?_⟩ | refine ⟨_, gMul_r rfl, rfl, ?_⟩ | refine ⟨_, gMul_mod rfl, rfl, ?_⟩ | refine ⟨_, gMod_k rfl, rfl, ?_⟩ | refine ⟨_, gDiv_k rfl, rfl, ?_⟩ | refine ⟨_, rfl, rfl, ?_⟩)
  | (show ∃ _, gEqX _ _ = _ ∧ _; first | refine ⟨_, eqX_s _ _, scl_bl _, ?_⟩ | refine ⟨_, eqX_i _ _, scl_bl _, ?_⟩ | with_unfolding_all first | refine ⟨_, eqX_i .., rfl, ?_⟩ | refine ⟨_, eqX_s .., rfl, ?_⟩)
  | (show ∃ _, gNeX _ _ = _ ∧ _; first | refine ⟨_, neX_s _ _, scl_bl _, ?_⟩ | refine ⟨_, neX_i _ _, scl_bl _, ?_⟩ | with_unfolding_all first | refine ⟨_, neX_i .., rfl, ?_⟩ | refine ⟨_, neX_s .., rfl, ?_⟩)
  | (show ∃ _, gB _ _ _ = _ ∧ _; with_unfolding_all first | refine ⟨_, rfl, rfl, ?_⟩ | refine ⟨_, rfl, ?_⟩)
  | (show ∃ _, gIx _ _ = _ ∧ _; with_unfolding_all refine ⟨_, rfl, ?_⟩)
  | (show ∃ _, gIsi _ _ = _ ∧ _; with_unfolding_all refine ⟨_, rfl, rfl, ?_⟩)
  | (show ∃ _, gLen1 _ = _ ∧ _; with_unfolding_all refine ⟨_, rfl, rfl, ?_⟩)
  | (show ∃ _, gInt _ = _ ∧ _; with_unfolding_all refine ⟨_, rfl, rfl, ?_⟩)
  | (show ∃ _, _ = D.bl _ ∧ _; with_unfolding_all refine ⟨_, rfl, ?_⟩)
  | (show ∃ _, _ = D.int _ ∧ _; with_unfolding_all refine ⟨_, rfl, ?_⟩)))
variable {N : En → Prop} {R : Rv → En → Prop} {B C : En → Prop}
theorem arcs_get {R : List (Nat × Nat)} {ws : List Nat} (hl : ws.length = R.length) {r : Nat × Nat} (hr : r ∈ R) : r ∈ arcs R ws ∨ (r.2, r.1) ∈ arcs R ws := by
  obtain ⟨i, hi, e⟩ := List.mem_iff_getElem.mp hr
  have hz : (r, ws[i]'(by omega)) ∈ R.zip ws := by
    rw [List.mem_iff_getElem]
    exact ⟨i, by simp; omega, by simp [e]⟩
  have : arc (r, ws[i]'(by omega)) ∈ arcs R ws := List.mem_map.mpr ⟨_, hz, rfl⟩
  unfold arc at this
  simp only at this
  split at this
  · exact .inl this
  · exact .inr this
theorem arcs_road {R : List (Nat × Nat)} {ws : List Nat} {a b : Nat} (h : (a, b) ∈ arcs R ws) : (a, b) ∈ R ∨ (b, a) ∈ R := by
  obtain ⟨⟨⟨x, y⟩, w⟩, hq, e⟩ := List.mem_map.mp h
  have hr := (List.of_mem_zip hq).1
  unfold arc at e
  simp only at e
  split at e
  · cases e; exact .inl hr
  · simp only [Prod.mk.injEq] at e
    obtain ⟨rfl, rfl⟩ := e
    exact .inr hr
theorem adj_iff {n : Nat} {R : List (Nat × Nat)} {ws : List Nat} (oo : OO n R ws) (a b : Nat) : M88.Adj (arcs R ws) a b ↔ MN.adjB R a b = true := by
  unfold M88.Adj MN.adjB
  rw [Bool.or_eq_true, decide_eq_true_eq, decide_eq_true_eq]
  constructor
  · rintro (h | h)
    · exact arcs_road h
    · exact (arcs_road h).symm
  · rintro (h | h)
    · exact arcs_get oo.ln h
    · exact (arcs_get oo.ln h).symm
theorem oo_max {n : Nat} {R : List (Nat × Nat)} {ws : List Nat} (oo : OO n R ws) : MaxCl n R (M88.most n (arcs R ws)) := by
  have hc : ∀ c, MS.Cl (MN.adjB R) n c ↔ M88.Clq (arcs R ws) n c := fun c => by
    unfold MS.Cl M88.Clq
    refine and_congr (List.Pairwise.iff fun a b => and_congr Iff.rfl ?_) Iff.rfl
    rw [adj_iff oo, MN.adjB_sym]
  refine ⟨?_, fun c h => M88.clq_le oo.so ((hc c).mp h)⟩
  obtain ⟨c, h1, h2⟩ := M88.most_clq oo.so
  exact ⟨c, (hc c).mpr h1, h2.symm⟩
theorem oo_dye {n : Nat} {R : List (Nat × Nat)} {ws : List Nat} (oo : OO n R ws) : Dye n R (M88.most n (arcs R ws)) := by
  refine ⟨fun v => (M88.best n (arcs R ws) v).length - 1, fun v hv => ?_, fun v hv w hw h => ?_⟩
  · have := M88.best_pos oo.so hv
    have := M88.best_le (A := arcs R ws) hv
    simp only; omega
  · have := M88.best_ne oo.so ((adj_iff oo v w).mpr h)
    have := M88.best_pos oo.so hv
    have := M88.best_pos oo.so hw
    simp only; omega
theorem oo_nodye {n : Nat} {R : List (Nat × Nat)} {ws : List Nat} (oo : OO n R ws) (h0 : 0 < M88.most n (arcs R ws)) : ¬ Dye n R (M88.most n (arcs R ws) - 1) := by
  rintro ⟨φ, h1, h2⟩
  obtain ⟨⟨c, hc, e⟩, _⟩ := oo_max oo
  have nd : (c.map φ).Nodup := by
    refine List.pairwise_map.mpr (List.Pairwise.imp_of_mem ?_ hc.1)
    intro a b ha hb q e
    exact h2 b (hc.2 b hb) a (hc.2 a ha) q.2 e.symm
  have := M88.len_le nd (M88.most n (arcs R ws) - 1) fun x hx => by
    obtain ⟨v, hv, rfl⟩ := List.mem_map.mp hx
    exact h1 v (hc.2 v hv)
  rw [List.length_map, ← e] at this
  omega
theorem longC_ok {n : Nat} {A : List (Nat × Nat)} (so : M88.SOr n A) : (longC n A).length = M88.most n A ∧ M88.Ch A (longC n A) ∧ ∀ a ∈ longC n A, a < n := by
  unfold longC
  rcases Nat.eq_zero_or_pos n with rfl | hn
  · exact ⟨rfl, by simp [longV, M88.Ch], by simp [longV]⟩
  · have ne := longV_ne so hn
    cases hL : longV n A with
    | nil => exact absurd hL ne
    | cons v L =>
      have hv : v ∈ longV n A := by rw [hL]; simp
      have h1 := List.mem_filter.mp hv
      have hvn := List.mem_range.mp h1.1
      obtain ⟨c, e1, e2, e3⟩ := M88.inv_best so v hvn
      refine ⟨by simpa using h1.2, by show M88.Ch A (M88.best n A v); rw [e1]; exact e2, fun a ha => ?_⟩
      have ha : a ∈ M88.best n A v := ha
      rw [e1] at ha
      rcases List.mem_append.mp ha with ha | ha
      · exact e3 a ha
      · have : a = v := by simpa using ha
        omega
section
variable {ns g : List Int} {m t : Int} {k n : Nat} {Rr : List (Nat × Nat)} {ws : List Nat} {x6 x9 x11 x19 x20 x24 : Option Ev.Slot}
theorem l6 (oo : OO n Rr ws) (q : N (LE ns g m t k n Rr ws x6 (fz (.tup (lvL n (M88.best n (arcs Rr ws))))) x9 x11 x19 x20 x24)) : WS lw6 N R B C (LE ns g m t k n Rr ws x6 (fz (.tup (lvL n (M88.best n (arcs Rr ws))))) x9 x11 x19 x20 x24) := by
  unfold lw6
  have hd := sm_due oo.so oo.ok.n9
  have h2 : Sm 400000 4 (.lst [.tup (lvL n (M88.best n (arcs Rr ws))), .tup (lvL n (M88.best n (arcs Rr ws)))]) := (sm_seq (ds := [.tup (lvL n (M88.best n (arcs Rr ws))), .tup (lvL n (M88.best n (arcs Rr ws)))]) (w := 1000) (k := 1) (fun d h => by
    simp only [List.mem_cons, List.not_mem_nil, or_false] at h
    rcases h with rfl | rfl <;> exact hd) false).le (by simp) (by omega)
  clean_wf
  refine w_callK [wD n Rr, orD ws] _ (f_order_levels oo.ok ws oo.so) rfl ?_
  clean_wf
  refine w_callK [wD n Rr, orD ws] _ (f_order_levels oo.ok ws oo.so) rfl ?_
  clean_wf
  refine ⟨_, sm_repr h2 (by decide) (by decide), rfl, ?_⟩
  clean_wf
  refine ⟨_, sm_repr h2 (by decide) (by decide), rfl, ?_⟩
  clean_wf
  exact q
theorem l7 (oo : OO n Rr ws) (q : N (LE ns g m t k n Rr ws x6 (fz (.tup (lvL n (M88.best n (arcs Rr ws))))) x9 x11 x19 x20 x24)) : WS lw7 N R B C (LE ns g m t k n Rr ws x6 (fz (.tup (lvL n (M88.best n (arcs Rr ws))))) x9 x11 x19 x20 x24) := by
  unfold lw7
  clean_wf
  refine w_compF (xs := Rr) (f := pD) (fun p => decide ((((M88.best n (arcs Rr ws) p.1).length : Int) - 1) = ((M88.best n (arcs Rr ws) p.2).length : Int) - 1)) (fun _ => .int 1) [] ?_ ?_
  · refine List.filter_eq_nil_iff.mpr fun p hp => ?_
    obtain ⟨i, j⟩ := p
    have h1 := oo.ok.lt _ hp
    simp only at h1
    have h2 := M88.best_ne oo.so ((adj_iff oo i j).mpr (by unfold MN.adjB; simp [hp]))
    simp only [decide_eq_true_eq]
    omega
  clean_wf
  refine ⟨fun p hp => ?_, ?_⟩
  · obtain ⟨i, j⟩ := p
    have h1 := oo.ok.lt _ hp
    simp only at h1
    have hi : i < n := by omega
    have hj : j < n := h1.2
    clean_wf
    refine ⟨_, ix_rgT hi, ?_⟩
    clean_wf
    refine ⟨_, ix_rgT hj, ?_⟩
    clean_wf
    refine ite_i (fun e => ?_) (fun e => ?_) <;> clean_wf
  clean_wf
  refine ⟨_, neX_nil rfl, rfl, ?_⟩
  clean_wf
  exact q
theorem l8 (oo : OO n Rr ws) {x7 : Option Ev.Slot} (q : N (LE ns g m t k n Rr ws x6 x7 x9 x11 (fz (tpD (longC n (arcs Rr ws)))) (fz (setT (arcs Rr ws))) x24)) : WS lw8 N R B C (LE ns g m t k n Rr ws x6 x7 x9 x11 none none x24) := by
  unfold lw8
  clean_wf
  refine w_callK [wD n Rr, orD ws] _ (f_longest_chain oo.ok ws oo.so) rfl ?_
  clean_wf
  refine w_callK [wD n Rr, orD ws] _ (f__law_led oo.ok ws) rfl ?_
  clean_wf
  exact q
theorem l9 (oo : OO n Rr ws) {x7 : Option Ev.Slot} (q : N (LE ns g m t k n Rr ws x6 x7 x9 x11 (fz (tpD (longC n (arcs Rr ws)))) x20 x24)) : WS lw9 N R B C (LE ns g m t k n Rr ws x6 x7 x9 x11 (fz (tpD (longC n (arcs Rr ws)))) x20 x24) := by
  unfold lw9
  have hn := oo.ok.n9
  have hc := longC_ok oo.so
  have hl : (longC n (arcs Rr ws)).length ≤ n := M88.len_le (M88.Ch.nodup oo.so hc.2.1) n hc.2.2
  have hs : Sm 100000 4 (tpD (longC n (arcs Rr ws))) := (sm_nats _ (fun x hx => by have := hc.2.2 x hx; omega) true).le (by omega) (by omega)
  clean_wf
  refine w_callK [wD n Rr, orD ws] _ (f_longest_chain oo.ok ws oo.so) rfl ?_
  clean_wf
  refine ⟨_, sm_repr hs (by decide) (by decide), rfl, ?_⟩
  clean_wf
  refine ⟨_, sm_repr hs (by decide) (by decide), rfl, ?_⟩
  clean_wf
  exact q
theorem l10 (oo : OO n Rr ws) {x7 : Option Ev.Slot} (q : N (LE ns g m t k n Rr ws x6 x7 x9 x11 (fz (tpD (longC n (arcs Rr ws)))) x20 x24)) : WS lw10 N R B C (LE ns g m t k n Rr ws x6 x7 x9 x11 (fz (tpD (longC n (arcs Rr ws)))) x20 x24) := by
  unfold lw10
  have hc := longC_ok oo.so
  clean_wf
  refine w_compA (xs := longC n (arcs Rr ws)) (f := iD) (fun v => .bl (isW 0 ((n : Int) - 1) (iD v))) ?_
  clean_wf
  refine ⟨fun v hv => ?_, ?_⟩
  · clean_wf
    refine w_callK [iD v, iD n] _ (f__law_is_house (iD v) rfl n) rfl ?_
    clean_wf
  clean_wf
  refine ⟨_, all_map _ _, rfl, ?_⟩
  clean_wf
  have : ((longC n (arcs Rr ws)).all fun v => isW 0 ((n : Int) - 1) (iD v)) = true := by
    rw [List.all_eq_true]
    intro v hv
    have := hc.2.2 v hv
    simp only [isW, Bool.and_eq_true, decide_eq_true_eq]
    omega
  rw [this]
  clean_wf
  exact q
theorem l11 (oo : OO n Rr ws) {x7 : Option Ev.Slot} (q : N (LE ns g m t k n Rr ws x6 x7 x9 x11 (fz (tpD (longC n (arcs Rr ws)))) (fz (setT (arcs Rr ws))) x24)) : WS lw11 N R B C (LE ns g m t k n Rr ws x6 x7 x9 x11 (fz (tpD (longC n (arcs Rr ws)))) (fz (setT (arcs Rr ws))) x24) := by
  unfold lw11
  have hc := longC_ok oo.so
  obtain ⟨c, ec⟩ : ∃ c, longC n (arcs Rr ws) = c := ⟨_, rfl⟩
  rw [ec] at hc q ⊢
  clean_wf
  refine w_compF (xs := c.zip (c.drop 1)) (f := fun p => .tup [iD p.1, iD p.2]) (fun p => !decide (p ∈ arcs Rr ws)) (fun _ => .int 1) [] ?_ ?_
  · refine List.filter_eq_nil_iff.mpr fun p hp => ?_
    have : p ∈ arcs Rr ws := by
      obtain ⟨i, hi, e⟩ := List.mem_iff_getElem.mp hp
      rw [List.getElem_zip] at e
      rw [← e]
      have hl : i + 1 < c.length := by simp at hi; omega
      have := List.pairwise_iff_getElem.mp hc.2.1 i (i + 1) (by omega) hl (by omega)
      simpa [Nat.add_comm] using this
    simp [this]
  clean_wf
  have c1 : cutD (c.map iD) (some 1) none = (c.drop 1).map iD := by
    cases c with
    | nil => simp [cutD]
    | cons a c => rw [List.map_drop]; exact cut_from (k := 1) (by simp)
  refine ⟨(congrArg (zipD (c.map iD)) c1).trans (zipD_map ..), fun p hp => ?_, ?_⟩
  · clean_wf
    refine ⟨_, inX_setT true (arcs Rr ws) p, rfl, ?_⟩
    clean_wf
    refine ite_i (fun e => ?_) (fun e => ?_) <;> clean_wf
  clean_wf
  refine ⟨_, neX_nil rfl, rfl, ?_⟩
  clean_wf
  exact q
theorem l12 (oo : OO n Rr ws) (q : N (LE ns g m t k n Rr ws x6 (fz (.tup (lvL n (M88.best n (arcs Rr ws))))) x9 x11 x19 x20 (fz (iD (M88.most n (arcs Rr ws)))))) : WS lw12 N R B C (LE ns g m t k n Rr ws x6 (fz (.tup (lvL n (M88.best n (arcs Rr ws))))) x9 x11 x19 x20 none) := by
  unfold lw12
  have hn := oo.ok.n9
  clean_wf
  refine w_compA (xs := List.range n) (f := fun v => .int (((M88.best n (arcs Rr ws) v).length : Int) - 1)) (fun v => iD (M88.best n (arcs Rr ws) v).length) ?_
  clean_wf
  refine ⟨fun v hv => ?_, ?_⟩
  · clean_wf
    refine ⟨?_, rfl⟩
    show D.int _ = D.int _
    congr 1; omega
  clean_wf
  refine ⟨⟨rfl, by simp; omega⟩, ?_⟩
  clean_wf
  have e1 : [D.int 0] ++ (List.range n).map (fun v => iD (M88.best n (arcs Rr ws) v).length) = (0 :: (List.range n).map fun v => (M88.best n (arcs Rr ws) v).length).map iD := by
    rw [List.map_cons, List.map_map]; rfl
  have e2 := maxL_map (fun x : Nat => x) (0 :: (List.range n).map fun v => (M88.best n (arcs Rr ws) v).length) (by simp)
  rw [List.map_id'] at e2
  refine ⟨_, (congrArg (fun l => gMaxL (.lst l)) e1).trans e2, rfl, ?_⟩
  clean_wf
  have e3 : (0 :: (List.range n).map fun v => (M88.best n (arcs Rr ws) v).length).foldl max 0 = M88.most n (arcs Rr ws) := by simp [M88.most, M88.mx]
  rw [e3]
  exact q
theorem l13 (oo : OO n Rr ws) {x7 : Option Ev.Slot} (q : N (LE ns g m t k n Rr ws x6 x7 x9 x11 (fz (tpD (longC n (arcs Rr ws)))) x20 (fz (iD (M88.most n (arcs Rr ws)))))) : WS lw13 N R B C (LE ns g m t k n Rr ws x6 x7 x9 x11 (fz (tpD (longC n (arcs Rr ws)))) x20 (fz (iD (M88.most n (arcs Rr ws))))) := by
  unfold lw13
  have hc := longC_ok oo.so
  have hm := oo_max oo
  clean_wf
  refine ite_f (by simp [hc.1]) ?_
  clean_wf
  refine w_callK [wD n Rr] _ (f__law_greatest_full oo.ok hm) rfl ?_
  clean_wf
  refine ite_f (by simp) ?_
  clean_wf
  refine w_callK [wD n Rr] _ (f_full_size oo.ok hm) rfl ?_
  clean_wf
  refine ite_f (by simp) ?_
  clean_wf
  exact q
/-- what any_map tells -/
def AnyP (n : Nat) (R : List (Nat × Nat)) (m : Nat) (r : Rv) : Prop := (r.1.isNon = true ∧ ¬ Dye n R m) ∨ (r.1.isNon = false ∧ Dye n R m)
theorem f_any_map2 {n : Nat} {R : List (Nat × Nat)} (o : WOK n R) {m : Nat} (hm : m ≤ 9) (hm0 : 0 < m) (hn0 : 0 < n) (hn6 : n ≤ 6) :
    WS sem_any_map (fun _ => AnyP n R m (.non, 0)) (fun r _ => AnyP n R m r) (fun _ => False) (fun _ => False) [some ⟨wD n R, 0, 0⟩, some ⟨wD m (KR m), 0, 0⟩] := by
  unfold sem_any_map
  clean_wf
  refine w_callR [wD n R, wD m (KR m)] (AnyP n R m) ((f_any_map o hm hm0 hn0 hn6).mono (fun _ => False.elim) (fun r _ h => ?_) (fun _ h => h) (fun _ h => h)) rfl ?_
  · rcases h with ⟨a, _, b⟩ | ⟨a, b⟩
    · exact .inl ⟨a, b⟩
    · exact .inr ⟨a, b⟩
  clean_wf
  intro rv h
  exact h
theorem l14 (oo : OO n Rr ws) {x7 : Option Ev.Slot} (q : N (LE ns g m t k n Rr ws x6 x7 x9 x11 x19 x20 (fz (iD (M88.most n (arcs Rr ws)))))) : WS lw14 N R B C (LE ns g m t k n Rr ws x6 x7 x9 x11 x19 x20 (fz (iD (M88.most n (arcs Rr ws))))) := by
  unfold lw14
  have hn := oo.ok.n9
  have hmn : M88.most n (arcs Rr ws) ≤ n := by
    have := longC_ok oo.so
    rw [← this.1]
    exact M88.len_le (M88.Ch.nodup oo.so this.2.1) n this.2.2
  obtain ⟨mo, hmo⟩ : ∃ mo, M88.most n (arcs Rr ws) = mo := ⟨_, rfl⟩
  have d1 := oo_dye oo
  have d2 := oo_nodye oo
  rw [hmo] at hmn d1 d2 q ⊢
  clean_wf
  refine ite_i (fun c => ?_) (fun c => ?_)
  · have hn0 : 0 < n := by simp at c; omega
    clean_wf
    refine ite_i (fun c => ?_) (fun c => ?_)
    · have hn6 : n ≤ 6 := by simp at c; omega
      clean_wf
      refine ite_i (fun c => ?_) (fun c => ?_)
      · have hm1 : 1 < mo := by simp at c; omega
        clean_wf
        refine w_callR [wD n Rr, wD mo (KR mo)] (AnyP n Rr mo) (f_any_map2 oo.ok (by omega) (by omega) hn0 hn6) rfl ?_
        clean_wf
        refine w_callK [iD mo] _ (f_full_web (by omega)) rfl ?_
        clean_wf
        intro rv h
        rcases h with ⟨_, h⟩ | ⟨h, _⟩
        · exact absurd d1 h
        refine ⟨false, by simp [h], ?_⟩
        clean_wf
        refine w_callR [wD n Rr, wD (mo - 1) (KR (mo - 1))] (AnyP n Rr (mo - 1)) (f_any_map2 oo.ok (by omega) (by omega) hn0 hn6) rfl ?_
        clean_wf
        have e1 : ((mo : Nat) : Int) - 1 = ((mo - 1 : Nat) : Int) := by omega
        refine w_callK [.int ((mo : Int) - 1)] (wD (mo - 1) (KR (mo - 1)), 0) (by rw [e1]; exact f_full_web (by omega)) rfl ?_
        clean_wf
        intro rv h
        rcases h with ⟨h, _⟩ | ⟨_, h⟩
        · refine ⟨false, by simp [h], ?_⟩
          clean_wf
          exact q
        · exact absurd h (d2 (by omega))
      · clean_wf
        exact q
    · clean_wf
      exact q
  · clean_wf
    exact q
theorem l15 (oo : OO n Rr ws) {x7 : Option Ev.Slot} (q : N (LE ns g m t k n Rr ws (fz (rpr (.tup [wD n Rr, orD ws]))) x7 x9 x11 x19 x20 x24)) : WS lw15 N R B C (LE ns g m t k n Rr ws (fz (rpr (.tup [wD n Rr, orD ws]))) x7 x9 x11 x19 x20 x24) := by
  unfold lw15
  clean_wf
  refine ⟨_, sm_repr (sm_wo oo) (by decide) (by decide), rfl, ?_⟩
  clean_wf
  exact q
end
end K88
set_option Elab.async false
set_option linter.all false
set_option autoImplicit false
set_option maxRecDepth 100000
set_option maxHeartbeats 4000000
/-! Q88o: the law is true. -/
namespace K88
open PySem PySem.Spec L2 Ev
local macro_rules | `(tactic| clean_wf) => `(tactic| repeat' (with_reducible first
  | refine fn_i ?_ | refine ws_seq ?_ | refine ws_if ?_ | refine ws_ret ?_ | refine ws_skip ?_ | refine ws_setE ?_ | refine ws_asg ?_ | refine ws_parN ?_ | refine ws_par ?_
  | refine w_op ?_ | refine w_pkE ?_ | refine w_pkV ?_ | refine w_c ?_ | refine w_c1 ?_ | refine w_sub ?_ | refine w_fz ?_ | refine w_tv ?_
  | refine w_and ?_ | refine w_or ?_ | refine w_not ?_ | refine w_andV ?_ | refine w_notV ?_ | refine w_ite ?_ | refine w_isN ?_ | refine w_yes ?_
  | refine w_itm ?_ | refine w_aNil ?_ | refine w_aCons ?_ | refine w_tup ?_ | refine w_lst ?_ | refine w_conv ?_ | refine w_cat ?_ | refine w_rev ?_
  | refine w_oNone ?_ | refine w_oSome ?_ | refine w_sl ?_ | refine w_it ?_ | refine w_rgN ?_ | refine w_lstRg ?_ | refine w_en ?_ | refine w_zip ?_ | refine w_zip1 ?_
  | refine w_im ?_ | refine w_bits ?_ | refine w_rg2N ?_ | refine w_rgDnN ?_ | refine w_chain ?_ | refine w_dNew ?_ | refine w_gNil ?_ | refine w_gVa ?_ | refine w_gKw ?_
  | refine wg_allNil ?_ | refine wg_allCons ?_ | (show WG (gPutT _ (plVar _) _ _) _ _; refine wg_putT ?_)
  | refine w_pk (by with_unfolding_all exact rfl) ?_ | refine w_var0 (by with_unfolding_all exact rfl) (.inl (by with_unfolding_all exact rfl)) ?_ | refine w_varF' (by with_unfolding_all exact rfl) (by with_unfolding_all exact rfl) ?_ | refine w_mv (by with_unfolding_all exact rfl) (by with_unfolding_all exact rfl) ?_
  | refine wg_setE (by with_unfolding_all exact rfl) (by with_unfolding_all exact rfl) ?_ | refine wg_tupS (by with_unfolding_all exact rfl) ?_ | refine w_plVar ⟨_, by with_unfolding_all exact rfl⟩ ?_
  | refine ite_f (nd_self _) ?_ | refine ite_t (by with_unfolding_all exact rfl) ?_ | refine ite_f (by with_unfolding_all exact rfl) ?_
  | (show WG (gsCons _ _ _) _ _; with_unfolding_all refine wg_sCons ?_)
  | (show WG (gsNil _) _ _; with_unfolding_all refine wg_sNil ?_)
  | (show @Eq Rv _ _; rfl)
  | (show WG (clr _) _ _; with_unfolding_all refine ⟨_, rfl, ?_⟩)
  | (show @Eq En _ _; with_unfolding_all rfl)
  | (show And (_ ≤ _) _; refine ⟨by omega, ?_⟩)
  | (show And (_ < _) _; refine ⟨by omega, ?_⟩)
  | (show And _ _; with_unfolding_all first | refine ⟨⟨rfl, rfl⟩, ?_⟩ | refine ⟨rfl, ?_⟩ | refine ⟨Nat.le_of_ble_eq_true rfl, ?_⟩ | refine ⟨⟨Nat.le_of_ble_eq_true rfl, rfl⟩, ?_⟩)
  | (show Or _ _; with_unfolding_all first | refine .inl ⟨_, rfl, ?_⟩ | refine .inr ⟨_, rfl, ?_⟩)
  | (show ∃ _, gMax2 _ _ = _ ∧ _; refine ⟨_, max2_n _ _, rfl, ?_⟩)
  | (show ∃ _, gAnd _ _ = _ ∧ _; refine ⟨_, and_n _ _, rfl, ?_⟩)
  | (show ∃ _, gOr _ _ = _ ∧ _; refine ⟨_, or_n _ _, rfl, ?_⟩)
  | (show ∃ _, gShr _ _ = _ ∧ _; refine ⟨_, shr_n _ _, rfl, ?_⟩)
  | (show ∃ _, gShl _ _ = _ ∧ _; refine ⟨_, shl_n (by omega), rfl, ?_⟩)
  | (show ∃ _, gI _ _ _ = _ ∧ _; with_unfolding_all first
    | refine ⟨_, gMul_l rfl, rfl, ?_⟩ | refine ⟨_, gMul_r rfl, rfl, ?_⟩ | refine ⟨_, gMul_mod rfl, rfl, ?_⟩ | refine ⟨_, gMod_k rfl, rfl, ?_⟩ | refine ⟨_, gDiv_k rfl, rfl, ?_⟩ | refine ⟨_, rfl, rfl, ?_⟩)
  | (show ∃ _, gEqX _ _ = _ ∧ _; first | refine ⟨_, eqX_s _ _, scl_bl _, ?_⟩ | refine ⟨_, eqX_i _ _, scl_bl _, ?_⟩ | with_unfolding_all first | refine ⟨_, eqX_i .., rfl, ?_⟩ | refine ⟨_, eqX_s .., rfl, ?_⟩)
  | (show ∃ _, gNeX _ _ = _ ∧ _; first | refine ⟨_, neX_s _ _, scl_bl _, ?_⟩ | refine ⟨_, neX_i _ _, scl_bl _, ?_⟩ | with_unfolding_all first | refine ⟨_, neX_i .., rfl, ?_⟩ | refine ⟨_, neX_s .., rfl, ?_⟩)
  | (show ∃ _, gB _ _ _ = _ ∧ _; with_unfolding_all first | refine ⟨_, rfl, rfl, ?_⟩ | refine ⟨_, rfl, ?_⟩)
  | (show ∃ _, gIx _ _ = _ ∧ _; with_unfolding_all refine ⟨_, rfl, ?_⟩)
  | (show ∃ _, gIsi _ _ = _ ∧ _; with_unfolding_all refine ⟨_, rfl, rfl, ?_⟩)
  | (show ∃ _, gLen1 _ = _ ∧ _; with_unfolding_all refine ⟨_, rfl, rfl, ?_⟩)
  | (show ∃ _, gInt _ = _ ∧ _; with_unfolding_all refine ⟨_, rfl, rfl, ?_⟩)
  | (show ∃ _, _ = D.bl _ ∧ _; with_unfolding_all refine ⟨_, rfl, ?_⟩)
  | (show ∃ _, _ = D.int _ ∧ _; with_unfolding_all refine ⟨_, rfl, ?_⟩)))
theorem w_law (ns : List Int) (h : ns.length ≤ 63) : WS sem_law (fun _ => False) (fun r _ => r = (.bl true, 0)) (fun _ => False) (fun _ => False) (some ⟨.scr ns, 0, 0⟩ :: List.replicate 24 none) := by
  rw [lw_eq]
  show WS _ _ _ _ _ [some ⟨.scr ns, 0, 0⟩, none, none, none, none, none, none, none, none, none, none, none, none, none, none, none, none, none, none, none, none, none, none, none, none]
  clean_wf
  refine w_callR [.scr ns] (fun rv => ∃ (g : List Int) (m t : Int), g.length ≤ 63 ∧ rv = (dk g m t, 2)) (w_deck ns h fun g m t rest hg => ⟨g, m, t, hg, rfl⟩) rfl ?_
  clean_wf
  rintro rv ⟨g, m, t, hg, rfl⟩
  clean_wf
  refine ws_forL (xs := List.range 4) (f := iD) (fun dn e => ∃ (g : List Int) (m t : Int), g.length ≤ 63 ∧ e = [some ⟨.scr ns, 0, 0⟩, some ⟨dk g m t, 2, 0⟩, none, none, none, none, none, none, none, none, none, none, none, none, none, none, none, none, none, none, none, none, none, none, none]) ?_ ?_ ?_
  · clean_wf
    exact ⟨g, m, t, hg, rfl⟩
  · rintro dn k r e hx ⟨g, m, t, hg, rfl⟩
    refine wg_setE rfl rfl ?_
    refine ws_seq (l0 hg fun g t n Rr ws hg oo => ?_)
    refine ws_seq (l1 hg oo fun g t ws hg oo => ?_)
    refine ws_seq (l2 oo ?_)
    refine ws_seq (l3 hg fun g t vs hg hvl hv => ?_)
    refine ws_seq (l4 hg oo hvl hv fun g t us hg hul hu => ?_)
    refine ws_seq (l5 oo hul hu ?_)
    refine ws_seq (l6 oo ?_)
    refine ws_seq (l7 oo ?_)
    refine ws_seq (l8 oo ?_)
    refine ws_seq (l9 oo ?_)
    refine ws_seq (l10 oo ?_)
    refine ws_seq (l11 oo ?_)
    refine ws_seq (l12 oo ?_)
    refine ws_seq (l13 oo ?_)
    refine ws_seq (l14 oo ?_)
    refine l15 oo ?_
    exact ⟨_, rfl, g, m, t, hg, rfl⟩
  · rintro e ⟨g, m, t, hg, rfl⟩
    clean_wf
theorem law_true (ns : List Int) (h : ns.length ≤ 63) : ∃ e, sem_law ([some ⟨.scr ns, 0, 0⟩] ++ List.replicate 24 none) = some (.ret (.bl true, 0) e) := by
  obtain ⟨r, h1, h2⟩ := w_law ns h
  cases r with
  | nx e => exact h2.elim
  | bk e => exact h2.elim
  | ct e => exact h2.elim
  | ret r e =>
    have : r = (.bl true, 0) := h2
    subst this
    exact ⟨e, h1⟩
end K88
set_option Elab.async false
set_option linter.all false
set_option autoImplicit false
set_option maxRecDepth 100000
set_option maxHeartbeats 4000000
namespace K88
open PySem PySem.Spec L2 Ev
end K88
open PySem PySem.Spec L2 Ev K88
namespace K88
section
variable {K : PySem.W.Frag} {mg : Str → Option Value} {h : Heap} {fa : Addr}
theorem all_mk {P : Program} {w : World} (X : K.In h) (G : h.Ns mainGlobals mg) (hfa : mg "law" = some (.ref fa))
  {f0 : Addr} {oc0 kV0 dc0 pm0 cd0 ct0 : Value} {od0 an0 : Option Addr} {sl0 : Array (Option Value)} (a0 : PySem.W.nsIn K mainGlobals "_law_deck" = some (some (.ref f0)))
    (l0 : K.lookup f0 = some ⟨oc0, od0, .func (PySem.W.fnOf "_law_deck" "_law_deck" (defArgs st__law_deck) (defBody st__law_deck) (defScope st__law_deck) .none kV0 dc0 pm0 an0 cd0 ct0), sl0⟩) (c0 : PySem.W.codeIn K cd0 "_law_deck" = true) (k0 : PySem.W.keepIn K (.ref f0) = true)
  {f1 : Addr} {oc1 kV1 dc1 pm1 cd1 ct1 : Value} {od1 an1 : Option Addr} {sl1 : Array (Option Value)} (a1 : PySem.W.nsIn K mainGlobals "_law_draw" = some (some (.ref f1)))
    (l1 : K.lookup f1 = some ⟨oc1, od1, .func (PySem.W.fnOf "_law_draw" "_law_draw" (defArgs st__law_draw) (defBody st__law_draw) (defScope st__law_draw) .none kV1 dc1 pm1 an1 cd1 ct1), sl1⟩) (c1 : PySem.W.codeIn K cd1 "_law_draw" = true) (k1 : PySem.W.keepIn K (.ref f1) = true)
  {f2 : Addr} {oc2 kV2 dc2 pm2 cd2 ct2 : Value} {od2 an2 : Option Addr} {sl2 : Array (Option Value)} (a2 : PySem.W.nsIn K mainGlobals "_law_mixed" = some (some (.ref f2)))
    (l2 : K.lookup f2 = some ⟨oc2, od2, .func (PySem.W.fnOf "_law_mixed" "_law_mixed" (defArgs st__law_mixed) (defBody st__law_mixed) (defScope st__law_mixed) .none kV2 dc2 pm2 an2 cd2 ct2), sl2⟩) (c2 : PySem.W.codeIn K cd2 "_law_mixed" = true) (k2 : PySem.W.keepIn K (.ref f2) = true)
  {f3 : Addr} {oc3 kV3 dc3 pm3 cd3 ct3 : Value} {od3 an3 : Option Addr} {sl3 : Array (Option Value)} (a3 : PySem.W.nsIn K mainGlobals "_law_pick" = some (some (.ref f3)))
    (l3 : K.lookup f3 = some ⟨oc3, od3, .func (PySem.W.fnOf "_law_pick" "_law_pick" (defArgs st__law_pick) (defBody st__law_pick) (defScope st__law_pick) .none kV3 dc3 pm3 an3 cd3 ct3), sl3⟩) (c3 : PySem.W.codeIn K cd3 "_law_pick" = true) (k3 : PySem.W.keepIn K (.ref f3) = true)
  {f4 : Addr} {oc4 kV4 dc4 pm4 cd4 ct4 : Value} {od4 an4 : Option Addr} {sl4 : Array (Option Value)} (a4 : PySem.W.nsIn K mainGlobals "_law_ordered" = some (some (.ref f4)))
    (l4 : K.lookup f4 = some ⟨oc4, od4, .func (PySem.W.fnOf "_law_ordered" "_law_ordered" (defArgs st__law_ordered) (defBody st__law_ordered) (defScope st__law_ordered) .none kV4 dc4 pm4 an4 cd4 ct4), sl4⟩) (c4 : PySem.W.codeIn K cd4 "_law_ordered" = true) (k4 : PySem.W.keepIn K (.ref f4) = true)
  {f5 : Addr} {oc5 kV5 dc5 pm5 cd5 ct5 : Value} {od5 an5 : Option Addr} {sl5 : Array (Option Value)} (a5 : PySem.W.nsIn K mainGlobals "_law_led" = some (some (.ref f5)))
    (l5 : K.lookup f5 = some ⟨oc5, od5, .func (PySem.W.fnOf "_law_led" "_law_led" (defArgs st__law_led) (defBody st__law_led) (defScope st__law_led) .none kV5 dc5 pm5 an5 cd5 ct5), sl5⟩) (c5 : PySem.W.codeIn K cd5 "_law_led" = true) (k5 : PySem.W.keepIn K (.ref f5) = true)
  {f6 : Addr} {oc6 kV6 dc6 pm6 cd6 ct6 : Value} {od6 an6 : Option Addr} {sl6 : Array (Option Value)} (a6 : PySem.W.nsIn K mainGlobals "_law_levels" = some (some (.ref f6)))
    (l6 : K.lookup f6 = some ⟨oc6, od6, .func (PySem.W.fnOf "_law_levels" "_law_levels" (defArgs st__law_levels) (defBody st__law_levels) (defScope st__law_levels) .none kV6 dc6 pm6 an6 cd6 ct6), sl6⟩) (c6 : PySem.W.codeIn K cd6 "_law_levels" = true) (k6 : PySem.W.keepIn K (.ref f6) = true)
  {f7 : Addr} {oc7 kV7 dc7 pm7 cd7 ct7 : Value} {od7 an7 : Option Addr} {sl7 : Array (Option Value)} (a7 : PySem.W.nsIn K mainGlobals "led_arcs" = some (some (.ref f7)))
    (l7 : K.lookup f7 = some ⟨oc7, od7, .func (PySem.W.fnOf "led_arcs" "led_arcs" (defArgs st_led_arcs) (defBody st_led_arcs) (defScope st_led_arcs) .none kV7 dc7 pm7 an7 cd7 ct7), sl7⟩) (c7 : PySem.W.codeIn K cd7 "led_arcs" = true) (k7 : PySem.W.keepIn K (.ref f7) = true)
  {f8 : Addr} {oc8 kV8 dc8 pm8 cd8 ct8 : Value} {od8 an8 : Option Addr} {sl8 : Array (Option Value)} (a8 : PySem.W.nsIn K mainGlobals "best_chains" = some (some (.ref f8)))
    (l8 : K.lookup f8 = some ⟨oc8, od8, .func (PySem.W.fnOf "best_chains" "best_chains" (defArgs st_best_chains) (defBody st_best_chains) (defScope st_best_chains) .none kV8 dc8 pm8 an8 cd8 ct8), sl8⟩) (c8 : PySem.W.codeIn K cd8 "best_chains" = true) (k8 : PySem.W.keepIn K (.ref f8) = true)
  {f9 : Addr} {oc9 kV9 dc9 pm9 cd9 ct9 : Value} {od9 an9 : Option Addr} {sl9 : Array (Option Value)} (a9 : PySem.W.nsIn K mainGlobals "longest_chain" = some (some (.ref f9)))
    (l9 : K.lookup f9 = some ⟨oc9, od9, .func (PySem.W.fnOf "longest_chain" "longest_chain" (defArgs st_longest_chain) (defBody st_longest_chain) (defScope st_longest_chain) .none kV9 dc9 pm9 an9 cd9 ct9), sl9⟩) (c9 : PySem.W.codeIn K cd9 "longest_chain" = true) (k9 : PySem.W.keepIn K (.ref f9) = true)
  {f10 : Addr} {oc10 kV10 dc10 pm10 cd10 ct10 : Value} {od10 an10 : Option Addr} {sl10 : Array (Option Value)} (a10 : PySem.W.nsIn K mainGlobals "_law_any" = some (some (.ref f10)))
    (l10 : K.lookup f10 = some ⟨oc10, od10, .func (PySem.W.fnOf "_law_any" "_law_any" (defArgs st__law_any) (defBody st__law_any) (defScope st__law_any) .none kV10 dc10 pm10 an10 cd10 ct10), sl10⟩) (c10 : PySem.W.codeIn K cd10 "_law_any" = true) (k10 : PySem.W.keepIn K (.ref f10) = true)
  {f11 : Addr} {oc11 kV11 dc11 pm11 cd11 ct11 : Value} {od11 an11 : Option Addr} {sl11 : Array (Option Value)} (a11 : PySem.W.nsIn K mainGlobals "_law_bent_tuple" = some (some (.ref f11)))
    (l11 : K.lookup f11 = some ⟨oc11, od11, .func (PySem.W.fnOf "_law_bent_tuple" "_law_bent_tuple" (defArgs st__law_bent_tuple) (defBody st__law_bent_tuple) (defScope st__law_bent_tuple) .none kV11 dc11 pm11 an11 cd11 ct11), sl11⟩) (c11 : PySem.W.codeIn K cd11 "_law_bent_tuple" = true) (k11 : PySem.W.keepIn K (.ref f11) = true)
  {f12 : Addr} {oc12 kV12 dc12 pm12 cd12 ct12 : Value} {od12 an12 : Option Addr} {sl12 : Array (Option Value)} (a12 : PySem.W.nsIn K mainGlobals "_law_is_house" = some (some (.ref f12)))
    (l12 : K.lookup f12 = some ⟨oc12, od12, .func (PySem.W.fnOf "_law_is_house" "_law_is_house" (defArgs st__law_is_house) (defBody st__law_is_house) (defScope st__law_is_house) .none kV12 dc12 pm12 an12 cd12 ct12), sl12⟩) (c12 : PySem.W.codeIn K cd12 "_law_is_house" = true) (k12 : PySem.W.keepIn K (.ref f12) = true)
  {f13 : Addr} {oc13 kV13 dc13 pm13 cd13 ct13 : Value} {od13 an13 : Option Addr} {sl13 : Array (Option Value)} (a13 : PySem.W.nsIn K mainGlobals "_law_closed_fault" = some (some (.ref f13)))
    (l13 : K.lookup f13 = some ⟨oc13, od13, .func (PySem.W.fnOf "_law_closed_fault" "_law_closed_fault" (defArgs st__law_closed_fault) (defBody st__law_closed_fault) (defScope st__law_closed_fault) .none kV13 dc13 pm13 an13 cd13 ct13), sl13⟩) (c13 : PySem.W.codeIn K cd13 "_law_closed_fault" = true) (k13 : PySem.W.keepIn K (.ref f13) = true)
  {f14 : Addr} {oc14 kV14 dc14 pm14 cd14 ct14 : Value} {od14 an14 : Option Addr} {sl14 : Array (Option Value)} (a14 : PySem.W.nsIn K mainGlobals "is_number" = some (some (.ref f14)))
    (l14 : K.lookup f14 = some ⟨oc14, od14, .func (PySem.W.fnOf "is_number" "is_number" (defArgs st_is_number) (defBody st_is_number) (defScope st_is_number) .none kV14 dc14 pm14 an14 cd14 ct14), sl14⟩) (c14 : PySem.W.codeIn K cd14 "is_number" = true) (k14 : PySem.W.keepIn K (.ref f14) = true)
  {f15 : Addr} {oc15 kV15 dc15 pm15 cd15 ct15 : Value} {od15 an15 : Option Addr} {sl15 : Array (Option Value)} (a15 : PySem.W.nsIn K mainGlobals "is_within" = some (some (.ref f15)))
    (l15 : K.lookup f15 = some ⟨oc15, od15, .func (PySem.W.fnOf "is_within" "is_within" (defArgs st_is_within) (defBody st_is_within) (defScope st_is_within) .none kV15 dc15 pm15 an15 cd15 ct15), sl15⟩) (c15 : PySem.W.codeIn K cd15 "is_within" = true) (k15 : PySem.W.keepIn K (.ref f15) = true)
  {f16 : Addr} {oc16 kV16 dc16 pm16 cd16 ct16 : Value} {od16 an16 : Option Addr} {sl16 : Array (Option Value)} (a16 : PySem.W.nsIn K mainGlobals "is_order_form" = some (some (.ref f16)))
    (l16 : K.lookup f16 = some ⟨oc16, od16, .func (PySem.W.fnOf "is_order_form" "is_order_form" (defArgs st_is_order_form) (defBody st_is_order_form) (defScope st_is_order_form) .none kV16 dc16 pm16 an16 cd16 ct16), sl16⟩) (c16 : PySem.W.codeIn K cd16 "is_order_form" = true) (k16 : PySem.W.keepIn K (.ref f16) = true)
  {f17 : Addr} {oc17 kV17 dc17 pm17 cd17 ct17 : Value} {od17 an17 : Option Addr} {sl17 : Array (Option Value)} (a17 : PySem.W.nsIn K mainGlobals "closed_error" = some (some (.ref f17)))
    (l17 : K.lookup f17 = some ⟨oc17, od17, .func (PySem.W.fnOf "closed_error" "closed_error" (defArgs st_closed_error) (defBody st_closed_error) (defScope st_closed_error) .none kV17 dc17 pm17 an17 cd17 ct17), sl17⟩) (c17 : PySem.W.codeIn K cd17 "closed_error" = true) (k17 : PySem.W.keepIn K (.ref f17) = true)
  {f18 : Addr} {oc18 kV18 dc18 pm18 cd18 ct18 : Value} {od18 an18 : Option Addr} {sl18 : Array (Option Value)} (a18 : PySem.W.nsIn K mainGlobals "_law_near" = some (some (.ref f18)))
    (l18 : K.lookup f18 = some ⟨oc18, od18, .func (PySem.W.fnOf "_law_near" "_law_near" (defArgs st__law_near) (defBody st__law_near) (defScope st__law_near) .none kV18 dc18 pm18 an18 cd18 ct18), sl18⟩) (c18 : PySem.W.codeIn K cd18 "_law_near" = true) (k18 : PySem.W.keepIn K (.ref f18) = true)
  {f19 : Addr} {oc19 kV19 dc19 pm19 cd19 ct19 : Value} {od19 an19 : Option Addr} {sl19 : Array (Option Value)} (a19 : PySem.W.nsIn K mainGlobals "_law_greatest_full" = some (some (.ref f19)))
    (l19 : K.lookup f19 = some ⟨oc19, od19, .func (PySem.W.fnOf "_law_greatest_full" "_law_greatest_full" (defArgs st__law_greatest_full) (defBody st__law_greatest_full) (defScope st__law_greatest_full) .none kV19 dc19 pm19 an19 cd19 ct19), sl19⟩) (c19 : PySem.W.codeIn K cd19 "_law_greatest_full" = true) (k19 : PySem.W.keepIn K (.ref f19) = true)
  {f20 : Addr} {oc20 kV20 dc20 pm20 cd20 ct20 : Value} {od20 an20 : Option Addr} {sl20 : Array (Option Value)} (a20 : PySem.W.nsIn K mainGlobals "is_plain" = some (some (.ref f20)))
    (l20 : K.lookup f20 = some ⟨oc20, od20, .func (PySem.W.fnOf "is_plain" "is_plain" (defArgs st_is_plain) (defBody st_is_plain) (defScope st_is_plain) .none kV20 dc20 pm20 an20 cd20 ct20), sl20⟩) (c20 : PySem.W.codeIn K cd20 "is_plain" = true) (k20 : PySem.W.keepIn K (.ref f20) = true)
  {f21 : Addr} {oc21 kV21 dc21 pm21 cd21 ct21 : Value} {od21 an21 : Option Addr} {sl21 : Array (Option Value)} (a21 : PySem.W.nsIn K mainGlobals "neighbour_lists" = some (some (.ref f21)))
    (l21 : K.lookup f21 = some ⟨oc21, od21, .func (PySem.W.fnOf "neighbour_lists" "neighbour_lists" (defArgs st_neighbour_lists) (defBody st_neighbour_lists) (defScope st_neighbour_lists) .none kV21 dc21 pm21 an21 cd21 ct21), sl21⟩) (c21 : PySem.W.codeIn K cd21 "neighbour_lists" = true) (k21 : PySem.W.keepIn K (.ref f21) = true)
  {f22 : Addr} {oc22 kV22 dc22 pm22 cd22 ct22 : Value} {od22 an22 : Option Addr} {sl22 : Array (Option Value)} (a22 : PySem.W.nsIn K mainGlobals "full_size" = some (some (.ref f22)))
    (l22 : K.lookup f22 = some ⟨oc22, od22, .func (PySem.W.fnOf "full_size" "full_size" (defArgs st_full_size) (defBody st_full_size) (defScope st_full_size) .none kV22 dc22 pm22 an22 cd22 ct22), sl22⟩) (c22 : PySem.W.codeIn K cd22 "full_size" = true) (k22 : PySem.W.keepIn K (.ref f22) = true)
  {f23 : Addr} {oc23 kV23 dc23 pm23 cd23 ct23 : Value} {od23 an23 : Option Addr} {sl23 : Array (Option Value)} (a23 : PySem.W.nsIn K mainGlobals "order_levels" = some (some (.ref f23)))
    (l23 : K.lookup f23 = some ⟨oc23, od23, .func (PySem.W.fnOf "order_levels" "order_levels" (defArgs st_order_levels) (defBody st_order_levels) (defScope st_order_levels) .none kV23 dc23 pm23 an23 cd23 ct23), sl23⟩) (c23 : PySem.W.codeIn K cd23 "order_levels" = true) (k23 : PySem.W.keepIn K (.ref f23) = true)
  {f24 : Addr} {oc24 kV24 dc24 pm24 cd24 ct24 : Value} {od24 an24 : Option Addr} {sl24 : Array (Option Value)} (a24 : PySem.W.nsIn K mainGlobals "kept_options" = some (some (.ref f24)))
    (l24 : K.lookup f24 = some ⟨oc24, od24, .func (PySem.W.fnOf "kept_options" "kept_options" (defArgs st_kept_options) (defBody st_kept_options) (defScope st_kept_options) .none kV24 dc24 pm24 an24 cd24 ct24), sl24⟩) (c24 : PySem.W.codeIn K cd24 "kept_options" = true) (k24 : PySem.W.keepIn K (.ref f24) = true)
  {f25 : Addr} {oc25 kV25 dc25 pm25 cd25 ct25 : Value} {od25 an25 : Option Addr} {sl25 : Array (Option Value)} (a25 : PySem.W.nsIn K mainGlobals "bits_of" = some (some (.ref f25)))
    (l25 : K.lookup f25 = some ⟨oc25, od25, .func (PySem.W.fnOf "bits_of" "bits_of" (defArgs st_bits_of) (defBody st_bits_of) (defScope st_bits_of) .none kV25 dc25 pm25 an25 cd25 ct25), sl25⟩) (c25 : PySem.W.codeIn K cd25 "bits_of" = true) (k25 : PySem.W.keepIn K (.ref f25) = true)
  {f26 : Addr} {oc26 kV26 dc26 pm26 cd26 ct26 : Value} {od26 an26 : Option Addr} {sl26 : Array (Option Value)} (a26 : PySem.W.nsIn K mainGlobals "found_map" = some (some (.ref f26)))
    (l26 : K.lookup f26 = some ⟨oc26, od26, .func (PySem.W.fnOf "found_map" "found_map" (defArgs st_found_map) (defBody st_found_map) (defScope st_found_map) .none kV26 dc26 pm26 an26 cd26 ct26), sl26⟩) (c26 : PySem.W.codeIn K cd26 "found_map" = true) (k26 : PySem.W.keepIn K (.ref f26) = true)
  {f27 : Addr} {oc27 kV27 dc27 pm27 cd27 ct27 : Value} {od27 an27 : Option Addr} {sl27 : Array (Option Value)} (a27 : PySem.W.nsIn K mainGlobals "any_map" = some (some (.ref f27)))
    (l27 : K.lookup f27 = some ⟨oc27, od27, .func (PySem.W.fnOf "any_map" "any_map" (defArgs st_any_map) (defBody st_any_map) (defScope st_any_map) .none kV27 dc27 pm27 an27 cd27 ct27), sl27⟩) (c27 : PySem.W.codeIn K cd27 "any_map" = true) (k27 : PySem.W.keepIn K (.ref f27) = true)
  {f28 : Addr} {oc28 kV28 dc28 pm28 cd28 ct28 : Value} {od28 an28 : Option Addr} {sl28 : Array (Option Value)} (a28 : PySem.W.nsIn K mainGlobals "full_web" = some (some (.ref f28)))
    (l28 : K.lookup f28 = some ⟨oc28, od28, .func (PySem.W.fnOf "full_web" "full_web" (defArgs st_full_web) (defBody st_full_web) (defScope st_full_web) .none kV28 dc28 pm28 an28 cd28 ct28), sl28⟩) (c28 : PySem.W.codeIn K cd28 "full_web" = true) (k28 : PySem.W.keepIn K (.ref f28) = true)
  {f29 : Addr} {oc29 kV29 dc29 pm29 cd29 ct29 : Value} {od29 an29 : Option Addr} {sl29 : Array (Option Value)} (a29 : PySem.W.nsIn K mainGlobals "law" = some (some (.ref f29)))
    (l29 : K.lookup f29 = some ⟨oc29, od29, .func (PySem.W.fnOf "law" "law" (defArgs st_law) (defBody st_law) (defScope st_law) .none kV29 dc29 pm29 an29 cd29 ct29), sl29⟩) (c29 : PySem.W.codeIn K cd29 "law" = true) (k29 : PySem.W.keepIn K (.ref f29) = true)
  (z_abs : PySem.W.nsIn K mainGlobals "abs" = some none)
  (z_all : PySem.W.nsIn K mainGlobals "all" = some none)
  (z_bool : PySem.W.nsIn K mainGlobals "bool" = some none)
  (z_dict : PySem.W.nsIn K mainGlobals "dict" = some none)
  (z_enumerate : PySem.W.nsIn K mainGlobals "enumerate" = some none)
  (z_int : PySem.W.nsIn K mainGlobals "int" = some none)
  (z_isinstance : PySem.W.nsIn K mainGlobals "isinstance" = some none)
  (z_len : PySem.W.nsIn K mainGlobals "len" = some none)
  (z_list : PySem.W.nsIn K mainGlobals "list" = some none)
  (z_max : PySem.W.nsIn K mainGlobals "max" = some none)
  (z_min : PySem.W.nsIn K mainGlobals "min" = some none)
  (z_range : PySem.W.nsIn K mainGlobals "range" = some none)
  (z_repr : PySem.W.nsIn K mainGlobals "repr" = some none)
  (z_sorted : PySem.W.nsIn K mainGlobals "sorted" = some none)
  (z_sum : PySem.W.nsIn K mainGlobals "sum" = some none)
  (z_tuple : PySem.W.nsIn K mainGlobals "tuple" = some none)
  (z_zip : PySem.W.nsIn K mainGlobals "zip" = some none)
  : ∃ fd : FuncData, (∀ (s : Shared) (v : Value), BindsTo s fd ⟨[v], []⟩ [("script", v)]) ∧ ∀ base : Heap, K.In base → base.Ns mainGlobals mg → FnG P w K mg base 10 fa fd ["script"] (spF K 24 1 sem_law) := by
  have e := hfa.symm.trans (PySem.W.mg_of X G a29)
  cases e
  refine ⟨PySem.W.fnOf "law" "law" (defArgs st_law) (defBody st_law) (defScope st_law) .none kV29 dc29 pm29 an29 cd29 ct29, fun s v => .of_eq rfl, fun base _ _ => ok_law (⟨
    f0, _, fun_mk (st := st__law_deck) l0 c0 k0, PySem.W.mg_of X G a0,
    f1, _, fun_mk (st := st__law_draw) l1 c1 k1, PySem.W.mg_of X G a1,
    f2, _, fun_mk (st := st__law_mixed) l2 c2 k2, PySem.W.mg_of X G a2,
    f3, _, fun_mk (st := st__law_pick) l3 c3 k3, PySem.W.mg_of X G a3,
    f4, _, fun_mk (st := st__law_ordered) l4 c4 k4, PySem.W.mg_of X G a4,
    f5, _, fun_mk (st := st__law_led) l5 c5 k5, PySem.W.mg_of X G a5,
    f6, _, fun_mk (st := st__law_levels) l6 c6 k6, PySem.W.mg_of X G a6,
    f7, _, fun_mk (st := st_led_arcs) l7 c7 k7, PySem.W.mg_of X G a7,
    f8, _, fun_mk (st := st_best_chains) l8 c8 k8, PySem.W.mg_of X G a8,
    f9, _, fun_mk (st := st_longest_chain) l9 c9 k9, PySem.W.mg_of X G a9,
    f10, _, fun_mk (st := st__law_any) l10 c10 k10, PySem.W.mg_of X G a10,
    f11, _, fun_mk (st := st__law_bent_tuple) l11 c11 k11, PySem.W.mg_of X G a11,
    f12, _, fun_mk (st := st__law_is_house) l12 c12 k12, PySem.W.mg_of X G a12,
    f13, _, fun_mk (st := st__law_closed_fault) l13 c13 k13, PySem.W.mg_of X G a13,
    f14, _, fun_mk (st := st_is_number) l14 c14 k14, PySem.W.mg_of X G a14,
    f15, _, fun_mk (st := st_is_within) l15 c15 k15, PySem.W.mg_of X G a15,
    f16, _, fun_mk (st := st_is_order_form) l16 c16 k16, PySem.W.mg_of X G a16,
    f17, _, fun_mk (st := st_closed_error) l17 c17 k17, PySem.W.mg_of X G a17,
    f18, _, fun_mk (st := st__law_near) l18 c18 k18, PySem.W.mg_of X G a18,
    f19, _, fun_mk (st := st__law_greatest_full) l19 c19 k19, PySem.W.mg_of X G a19,
    f20, _, fun_mk (st := st_is_plain) l20 c20 k20, PySem.W.mg_of X G a20,
    f21, _, fun_mk (st := st_neighbour_lists) l21 c21 k21, PySem.W.mg_of X G a21,
    f22, _, fun_mk (st := st_full_size) l22 c22 k22, PySem.W.mg_of X G a22,
    f23, _, fun_mk (st := st_order_levels) l23 c23 k23, PySem.W.mg_of X G a23,
    f24, _, fun_mk (st := st_kept_options) l24 c24 k24, PySem.W.mg_of X G a24,
    f25, _, fun_mk (st := st_bits_of) l25 c25 k25, PySem.W.mg_of X G a25,
    f26, _, fun_mk (st := st_found_map) l26 c26 k26, PySem.W.mg_of X G a26,
    f27, _, fun_mk (st := st_any_map) l27 c27 k27, PySem.W.mg_of X G a27,
    f28, _, fun_mk (st := st_full_web) l28 c28 k28, PySem.W.mg_of X G a28,
    fa, _, fun_mk (st := st_law) l29 c29 k29, PySem.W.mg_of X G a29,
    PySem.W.mg_none_of X G z_abs,
    PySem.W.mg_none_of X G z_all,
    PySem.W.mg_none_of X G z_bool,
    PySem.W.mg_none_of X G z_dict,
    PySem.W.mg_none_of X G z_enumerate,
    PySem.W.mg_none_of X G z_int,
    PySem.W.mg_none_of X G z_isinstance,
    PySem.W.mg_none_of X G z_len,
    PySem.W.mg_none_of X G z_list,
    PySem.W.mg_none_of X G z_max,
    PySem.W.mg_none_of X G z_min,
    PySem.W.mg_none_of X G z_range,
    PySem.W.mg_none_of X G z_repr,
    PySem.W.mg_none_of X G z_sorted,
    PySem.W.mg_none_of X G z_sum,
    PySem.W.mg_none_of X G z_tuple,
    PySem.W.mg_none_of X G z_zip⟩ : Txt K mg)⟩
end
theorem walk {l : PySem.W.OpenLaw} {q : Program} {loose : List Str} {XP : (Str → Option Value) → Heap → Prop} {YP : World → Heap → Prop} {d : DefRec} {K : Params → PySem.W.Frag} (hn : l.most = some 63) (hdf : d.params.defaults = [])
    (hY : ∀ (w : World) (h : Heap), YP w h → (K w.params).In h)
    (F : ∀ (w : World) (mg : Str → Option Value) (fa : Addr) (h : Heap), (K w.params).In h → h.Ns mainGlobals mg → mg d.name = some (.ref fa) → ∃ fd : FuncData, (∀ (s : Shared) (u : Value), BindsTo s fd ⟨[u], []⟩ [("script", u)]) ∧ ∀ base : Heap, (K w.params).In base → base.Ns mainGlobals mg → FnG l.prog w (K w.params) mg base 10 fa fd ["script"] (spF (K w.params) 24 1 sem_law)) :
    PySem.W.WalkO q loose XP YP l.row.toRowW d [] (fun f vs => PySem.call f vs) :=
  walkG_of (n := 63) (k := 10) (x := "script") (sp := fun w => spF (K w.params) 24 1 sem_law) hn (by decide) hdf ⟨rfl, by decide, by decide⟩ hY F fun _ _ a ns hl _ hS => sp_law (law_true ns hl) hS
end K88

open PySem PySem.W PyProof.Rows in
set_option maxRecDepth 100000 in
set_option maxHeartbeats 0 in
theorem PySem.Challenge.cw_webmaps_k88_whole_main_order_levels_holds : PySem.Challenge.rw_webmaps_k88_whole_main_order_levels.Holds := by
  w_on; o_law; k_head; (case hw => w_witness2)
  k_fill
  refine K88.walk (l := PySem.Challenge.rw_webmaps_k88_whole_main_order_levels) rfl rfl (fun w h Y => PySem.W.kIn_of Y) ?F
  case F =>
    intro w mg fa h KX G hmg
    refine' K88.all_mk KX G hmg ?a0 ?l0 ?c0 ?k0 ?a1 ?l1 ?c1 ?k1 ?a2 ?l2 ?c2 ?k2 ?a3 ?l3 ?c3 ?k3 ?a4 ?l4 ?c4 ?k4 ?a5 ?l5 ?c5 ?k5 ?a6 ?l6 ?c6 ?k6 ?a7 ?l7 ?c7 ?k7 ?a8 ?l8 ?c8 ?k8 ?a9 ?l9 ?c9 ?k9 ?a10 ?l10 ?c10 ?k10 ?a11 ?l11 ?c11 ?k11 ?a12 ?l12 ?c12 ?k12 ?a13 ?l13 ?c13 ?k13 ?a14 ?l14 ?c14 ?k14 ?a15 ?l15 ?c15 ?k15 ?a16 ?l16 ?c16 ?k16 ?a17 ?l17 ?c17 ?k17 ?a18 ?l18 ?c18 ?k18 ?a19 ?l19 ?c19 ?k19 ?a20 ?l20 ?c20 ?k20 ?a21 ?l21 ?c21 ?k21 ?a22 ?l22 ?c22 ?k22 ?a23 ?l23 ?c23 ?k23 ?a24 ?l24 ?c24 ?k24 ?a25 ?l25 ?c25 ?k25 ?a26 ?l26 ?c26 ?k26 ?a27 ?l27 ?c27 ?k27 ?a28 ?l28 ?c28 ?k28 ?a29 ?l29 ?c29 ?k29 ?z_abs ?z_all ?z_bool ?z_dict ?z_enumerate ?z_int ?z_isinstance ?z_len ?z_list ?z_max ?z_min ?z_range ?z_repr ?z_sorted ?z_sum ?z_tuple ?z_zip
    (case a0 => k_is)
    (case l0 => k_is)
    (case c0 => k_is)
    (case k0 => k_is)
    (case a1 => k_is)
    (case l1 => k_is)
    (case c1 => k_is)
    (case k1 => k_is)
    (case a2 => k_is)
    (case l2 => k_is)
    (case c2 => k_is)
    (case k2 => k_is)
    (case a3 => k_is)
    (case l3 => k_is)
    (case c3 => k_is)
    (case k3 => k_is)
    (case a4 => k_is)
    (case l4 => k_is)
    (case c4 => k_is)
    (case k4 => k_is)
    (case a5 => k_is)
    (case l5 => k_is)
    (case c5 => k_is)
    (case k5 => k_is)
    (case a6 => k_is)
    (case l6 => k_is)
    (case c6 => k_is)
    (case k6 => k_is)
    (case a7 => k_is)
    (case l7 => k_is)
    (case c7 => k_is)
    (case k7 => k_is)
    (case a8 => k_is)
    (case l8 => k_is)
    (case c8 => k_is)
    (case k8 => k_is)
    (case a9 => k_is)
    (case l9 => k_is)
    (case c9 => k_is)
    (case k9 => k_is)
    (case a10 => k_is)
    (case l10 => k_is)
    (case c10 => k_is)
    (case k10 => k_is)
    (case a11 => k_is)
    (case l11 => k_is)
    (case c11 => k_is)
    (case k11 => k_is)
    (case a12 => k_is)
    (case l12 => k_is)
    (case c12 => k_is)
    (case k12 => k_is)
    (case a13 => k_is)
    (case l13 => k_is)
    (case c13 => k_is)
    (case k13 => k_is)
    (case a14 => k_is)
    (case l14 => k_is)
    (case c14 => k_is)
    (case k14 => k_is)
    (case a15 => k_is)
    (case l15 => k_is)
    (case c15 => k_is)
    (case k15 => k_is)
    (case a16 => k_is)
    (case l16 => k_is)
    (case c16 => k_is)
    (case k16 => k_is)
    (case a17 => k_is)
    (case l17 => k_is)
    (case c17 => k_is)
    (case k17 => k_is)
    (case a18 => k_is)
    (case l18 => k_is)
    (case c18 => k_is)
    (case k18 => k_is)
    (case a19 => k_is)
    (case l19 => k_is)
    (case c19 => k_is)
    (case k19 => k_is)
    (case a20 => k_is)
    (case l20 => k_is)
    (case c20 => k_is)
    (case k20 => k_is)
    (case a21 => k_is)
    (case l21 => k_is)
    (case c21 => k_is)
    (case k21 => k_is)
    (case a22 => k_is)
    (case l22 => k_is)
    (case c22 => k_is)
    (case k22 => k_is)
    (case a23 => k_is)
    (case l23 => k_is)
    (case c23 => k_is)
    (case k23 => k_is)
    (case a24 => k_is)
    (case l24 => k_is)
    (case c24 => k_is)
    (case k24 => k_is)
    (case a25 => k_is)
    (case l25 => k_is)
    (case c25 => k_is)
    (case k25 => k_is)
    (case a26 => k_is)
    (case l26 => k_is)
    (case c26 => k_is)
    (case k26 => k_is)
    (case a27 => k_is)
    (case l27 => k_is)
    (case c27 => k_is)
    (case k27 => k_is)
    (case a28 => k_is)
    (case l28 => k_is)
    (case c28 => k_is)
    (case k28 => k_is)
    (case a29 => k_is)
    (case l29 => k_is)
    (case c29 => k_is)
    (case k29 => k_is)
    (case z_abs => k_is)
    (case z_all => k_is)
    (case z_bool => k_is)
    (case z_dict => k_is)
    (case z_enumerate => k_is)
    (case z_int => k_is)
    (case z_isinstance => k_is)
    (case z_len => k_is)
    (case z_list => k_is)
    (case z_max => k_is)
    (case z_min => k_is)
    (case z_range => k_is)
    (case z_repr => k_is)
    (case z_sorted => k_is)
    (case z_sum => k_is)
    (case z_tuple => k_is)
    (case z_zip => k_is)
